/- Words and contracts that the claim's last text uses: part 2. -/
import Derived.Test.YtnchlckncknaiaaSa1
import Derived.Deep.RegionHeld3
import Derived.Deep.DeepCutAuto
import Derived.Laws.ResultCell
import Derived.Deep.RegionLaw
import Derived.Laws.EntriesVeiled
/- integer: Add. -/
namespace Go.Proofs.Ytnchlckncknaiaa
open Go.RowKit

theorem iv_far {w : World} {g : Nat} {p : Addr} {v : Value} (x y : Value) (hp : p.block ≠ g) (h : w.cell? p = some v) : ((w.setCell ⟨g, 0, none⟩ x).setCell ⟨g, 1, none⟩ y).cell? p = some v := by
  rw [World.cell?_setCell_other _ _ _ _ (by intro e; subst e; exact hp rfl), World.cell?_setCell_other _ _ _ _ (by intro e; subst e; exact hp rfl)]
  exact h

theorem IV.far {w : World} {g g' : Nat} {a b : Value} (h : IV w g' a b) (hne : g' ≠ g) (x y : Value) : IV ((w.setCell ⟨g, 0, none⟩ x).setCell ⟨g, 1, none⟩ y) g' a b :=
  Blk.far (p := ⟨g, 1, none⟩) (Blk.far (p := ⟨g, 0, none⟩) h hne x) hne y

set_option maxHeartbeats 2000000 in
set_option maxRecDepth 100000 in
theorem add_int_same {w : World} {n : Bool} {s t : Value} {xs ys : List Int} (hs : SlU w s xs) (ht : SlU w t ys) (hx : Nrm xs) (hy : Nrm ys) (hn : xs.length ≤ 1099511627770) (hm : ys.length ≤ 1099511627770) :
    Calls Try.prog 93 #[.agg #[.bool n, s], .agg #[.bool n, t]] w fun e w' => (∃ v', e = .returned v' ∧ IntB w' v' (sgn n (val xs + val ys)) (max xs.length ys.length + 1)) ∧ Below w.heap.size w w' := by
  obtain ⟨A, c, rfl, hc, hr⟩ := hs
  obtain ⟨B, d, rfl, hd, hq⟩ := ht
  have ha1 := IV.new w (.bool n) (.slice A xs.length c)
  have ha2 := IV.new (w.alloc (.cells #[.bool n, .slice A xs.length c] 61)) (.bool n) (.slice B ys.length d)
  have ha3 := IV.new ((w.alloc (.cells #[.bool n, .slice A xs.length c] 61)).alloc (.cells #[.bool n, .slice B ys.length d] 61)) (.bool false) (.slice none 0 0)
  have hb0 : Below w.heap.size w (((w.alloc (.cells #[.bool n, .slice A xs.length c] 61)).alloc (.cells #[.bool n, .slice B ys.length d] 61)).alloc (.cells #[.bool false, .slice none 0 0] 61)) :=
    (((Below.refl _ _).alloc (Nat.le_refl _) _).alloc (by simp) _).alloc (by simp; omega) _
  have hd1 : (n == n) = true := by simp
  go_enter Try.func93, Try.ntmps93
  go_wp2_with fail
  generalize hW : ((w.alloc (.cells #[.bool n, .slice A xs.length c] 61)).alloc (.cells #[.bool n, .slice B ys.length d] 61)).alloc (.cells #[.bool false, .slice none 0 0] 61) = W at *
  have hs0 : W.heap.size = w.heap.size + 3 := by rw [← hW]; simp
  rw [World.size_alloc] at ha2
  rw [World.size_alloc, World.size_alloc] at ha3
  have hv1 : IV W w.heap.size (.bool n) (.slice A xs.length c) := by rw [← hW]; exact (ha1.alloc _).alloc _
  have hv2 : IV W (w.heap.size + 1) (.bool n) (.slice B ys.length d) := by rw [← hW]; exact ha2.alloc _
  have hv3 : IV W.drew (w.heap.size + 1 + 1) (.bool false) (.slice none 0 0) := ha3
  have HW := hide hW
  have Hs0 := hide hs0
  clear hW ha1 ha2 ha3 hs0
  have k10 := hv1.c0
  have k11 := hv1.c1
  have k20 := hv2.c0
  have k21 := hv2.c1
  have HA := hide (add_calls (w := W.drew) (u := .slice A xs.length c) (v := .slice B ys.length d) ⟨A, c, rfl, hc, hr.below hb0.drew⟩ ⟨B, d, rfl, hd, hq.below hb0.drew⟩ hx.1 hy.1 hn hm)
  go_region_held3 (fun w' => w'.cell? ⟨w.heap.size, 0, none⟩ = some (.bool n) ∧ w'.cell? ⟨w.heap.size, 1, none⟩ = some (.slice A xs.length c) ∧ w'.cell? ⟨w.heap.size + 1, 0, none⟩ = some (.bool n) ∧ w'.cell? ⟨w.heap.size + 1, 1, none⟩ = some (.slice B ys.length d))
    (first | exact ⟨k10, k11, k20, k21⟩ | exact ⟨m10, m11, m20, m21⟩ | exact ⟨iv_far _ _ (by simp <;> omega) m10, iv_far _ _ (by simp <;> omega) m11, iv_far _ _ (by simp <;> omega) m20, iv_far _ _ (by simp <;> omega) m21⟩)
    (first
      | (go_at_call 134
         refine HA.out.mono ?_
         rintro e w1 ⟨⟨v1, zs, rfl, h1, hz1, hz2, hz3⟩, hb1⟩
         have m10 := below_cell hb1 k10
         have m11 := below_cell hb1 k11
         have m20 := below_cell hb1 k20
         have m21 := below_cell hb1 k21)
      | (go_at_call 133
         refine (made_calls n h1 (trimL_nrm hz1) (Nat.le_trans (trimL_le zs) hz3)).mono ?_
         rintro e w2 ⟨⟨v2, rfl, h2⟩, hb2⟩
         have m10 := below_cell hb2 m10
         have m11 := below_cell hb2 m11
         have m20 := below_cell hb2 m20
         have m21 := below_cell hb2 m21
         have hv3a := hv3.below hb1 hv3.lt
         have hv3b := hv3a.below hb2 hv3a.lt
         have hI := h2
         obtain ⟨n1, s1, us, rfl, ⟨A1, c1, rfl, hc1, hr1⟩, hrest⟩ := h2
         have hk0 := hv3b.c0
         have hk1 := hv3b.c1
         have hf0 := hv3b.f 0
         have hf1 := hv3b.f 1))
  go_wp2
  rw [trimL_val, hz2] at hI
  exact bp_int rfl rfl rfl hv3b hI (below_then (below_then hb0.drew hb0.size hb1) (Nat.le_trans hb0.size hb1.size) hb2) (by omega) fun v W h1 h2 => ⟨⟨v, rfl, h1⟩, h2⟩

set_option maxHeartbeats 2000000 in
set_option maxRecDepth 100000 in
theorem add_int_diff {w : World} {n m : Bool} {s t : Value} {xs ys : List Int} (hs : SlU w s xs) (ht : SlU w t ys) (hx : Nrm xs) (hy : Nrm ys) (hn : xs.length ≤ 1099511627770) (hm : ys.length ≤ 1099511627770) (hnm : m = !n) (hge : val ys ≤ val xs) (sw : Bool) (hsw : sw = true → val ys < val xs) :
    Calls Try.prog 93 (if sw then #[.agg #[.bool m, t], .agg #[.bool n, s]] else #[.agg #[.bool n, s], .agg #[.bool m, t]]) w fun e w' => (∃ v', e = .returned v' ∧ IntB w' v' (sgn n (val xs - val ys)) xs.length) ∧ Below w.heap.size w w' := by
  obtain ⟨A, c, rfl, hc, hr⟩ := hs
  obtain ⟨B, d, rfl, hd, hq⟩ := ht
  have hll : ys.length ≤ xs.length := by
    rcases Nat.lt_or_ge xs.length ys.length with h | h
    · have := hx.len_lt hy h; omega
    · exact h
  have hd1 : (n == m) = false := by subst hnm; cases n <;> rfl
  have hd2 : (m == n) = false := by subst hnm; cases n <;> rfl
  have Hge := hide hge
  clear hnm hge
  cases sw
  · clear hsw
    have ha1 := IV.new w (.bool n) (.slice A xs.length c)
    have ha2 := IV.new (w.alloc (.cells #[.bool n, .slice A xs.length c] 61)) (.bool m) (.slice B ys.length d)
    have ha3 := IV.new ((w.alloc (.cells #[.bool n, .slice A xs.length c] 61)).alloc (.cells #[.bool m, .slice B ys.length d] 61)) (.bool false) (.slice none 0 0)
    have hb0 : Below w.heap.size w (((w.alloc (.cells #[.bool n, .slice A xs.length c] 61)).alloc (.cells #[.bool m, .slice B ys.length d] 61)).alloc (.cells #[.bool false, .slice none 0 0] 61)) :=
      (((Below.refl _ _).alloc (Nat.le_refl _) _).alloc (by simp) _).alloc (by simp; omega) _
    rw [World.size_alloc] at ha2
    rw [World.size_alloc, World.size_alloc] at ha3
    have ha1 := (ha1.alloc (.cells #[.bool m, .slice B ys.length d] 61)).alloc (.cells #[.bool false, .slice none 0 0] 61)
    have ha2 := ha2.alloc (.cells #[.bool false, .slice none 0 0] 61)
    have hcx := cmpI_not_lt Hge.out
    have HC := hide (cmp_calls ⟨A, c, rfl, hc, hr.below hb0⟩ ⟨B, d, rfl, hd, hq.below hb0⟩ hx.1 hy.1 (by omega) (by omega))
    generalize hcc : cmpI (val xs) (val ys) = cc at *
    clear hcc
    simp only [Bool.false_eq_true, if_false]
    go_enter Try.func93, Try.ntmps93
    go_upto_if 25 with (go_at_call 107; refine HC.out.mono ?_; clear HC; rintro e w1 ⟨rfl, q0, rfl⟩)
    generalize hW : ((w.alloc (.cells #[.bool n, .slice A xs.length c] 61)).alloc (.cells #[.bool m, .slice B ys.length d] 61)).alloc (.cells #[.bool false, .slice none 0 0] 61) = W at *
    have Hs0 : Hid (W.heap.size = w.heap.size + 3) := by rw [← hW]; simp [Hid]
    clear hW
    have k10 := ha1.c0
    have k11 := ha1.c1
    have k20 := ha2.c0
    have k21 := ha2.c1
    have j1 := ha1.f
    have j2 := ha2.f
    have j10 := j1 0
    have j11 := j1 1
    have j20 := j2 0
    have j21 := j2 1
    clear j1 j2
    go_cut [] (fun wx => IV wx w.heap.size (.bool n) (.slice A xs.length c) ∧ IV wx (w.heap.size + 1) (.bool m) (.slice B ys.length d) ∧ IV wx (w.heap.size + 1 + 1) (.bool false) (.slice none 0 0) ∧ Below w.heap.size w wx ∧ w.heap.size + 3 ≤ wx.heap.size ∧ RdU wx A xs.length xs ∧ RdU wx B ys.length ys)
    case first =>
      go_wp2
      go_meet
      case rel =>
          exact ⟨ha1, ha2, ha3, below_drewN hb0 q0, by rw [show (W.drewN q0).heap.size = W.heap.size from rfl, Hs0.out]; omega, hr.below (below_drewN hb0 q0), hq.below (below_drewN hb0 q0)⟩
    case rest =>
      obtain ⟨v1, v2, v3, hbw, hsz, hr2, hq2⟩ := hcut
      have x10 := v1.c0
      have x11 := v1.c1
      have x20 := v2.c0
      have x21 := v2.c1
      have HS := hide (sub_calls (w := wc) ⟨A, c, rfl, hc, hr2⟩ ⟨B, d, rfl, hd, hq2⟩ hx.1 hy.1 hn hll Hge.out)
      clear k10 k11 k20 k21 j10 j11 j20 j21 ha1 ha2 ha3
      go_wp2_with fail
      refine HS.out.mono ?_
      clear HS
      rintro e w4 ⟨⟨v4, zs, rfl, h4, hz1, hz2, hz3⟩, hb4⟩
      have Hz2 := hide hz2
      clear hz2
      have y10 := below_cell hb4 x10
      have v34 := v3.below hb4 v3.lt
      go_wp2_with fail
      refine (made_calls n h4 (trimL_nrm hz1) (Nat.le_trans (trimL_le zs) hz3)).mono ?_
      rintro e w5 ⟨⟨v5, rfl, h5⟩, hb5⟩
      rw [trimL_val, Hz2.out] at h5
      have v35 := v34.below hb5 v34.lt
      have hI := h5
      obtain ⟨n1, s1, us, rfl, ⟨A1, c1, rfl, hc1, hr1⟩, hrest⟩ := h5
      have hk0 := v35.c0
      have hk1 := v35.c1
      have hf0 := v35.f 0
      have hf1 := v35.f 1
      go_wp2
      exact bp_int rfl rfl rfl v35 hI (below_then (below_then hbw hbw.size hb4) (Nat.le_trans hbw.size hb4.size) hb5) (by omega) fun v W h1 h2 => ⟨⟨v, rfl, h1⟩, h2⟩
  · have hlt := hsw rfl
    clear hsw
    have ha1 := IV.new w (.bool m) (.slice B ys.length d)
    have ha2 := IV.new (w.alloc (.cells #[.bool m, .slice B ys.length d] 61)) (.bool n) (.slice A xs.length c)
    have ha3 := IV.new ((w.alloc (.cells #[.bool m, .slice B ys.length d] 61)).alloc (.cells #[.bool n, .slice A xs.length c] 61)) (.bool false) (.slice none 0 0)
    have hb0 : Below w.heap.size w (((w.alloc (.cells #[.bool m, .slice B ys.length d] 61)).alloc (.cells #[.bool n, .slice A xs.length c] 61)).alloc (.cells #[.bool false, .slice none 0 0] 61)) :=
      (((Below.refl _ _).alloc (Nat.le_refl _) _).alloc (by simp) _).alloc (by simp; omega) _
    rw [World.size_alloc] at ha2
    rw [World.size_alloc, World.size_alloc] at ha3
    have ha1 := (ha1.alloc (.cells #[.bool n, .slice A xs.length c] 61)).alloc (.cells #[.bool false, .slice none 0 0] 61)
    have ha2 := ha2.alloc (.cells #[.bool false, .slice none 0 0] 61)
    have HC := hide (cmp_calls ⟨B, d, rfl, hd, hq.below hb0⟩ ⟨A, c, rfl, hc, hr.below hb0⟩ hy.1 hx.1 (by omega) (by omega))
    rw [cmpI_lt hlt] at HC
    clear hlt
    simp only [if_true]
    go_enter Try.func93, Try.ntmps93
    go_upto_if 25 with (go_at_call 107; refine HC.out.mono ?_; clear HC; rintro e w1 ⟨rfl, q0, rfl⟩)
    generalize hW : ((w.alloc (.cells #[.bool m, .slice B ys.length d] 61)).alloc (.cells #[.bool n, .slice A xs.length c] 61)).alloc (.cells #[.bool false, .slice none 0 0] 61) = W at *
    have Hs0 : Hid (W.heap.size = w.heap.size + 3) := by rw [← hW]; simp [Hid]
    clear hW
    have k10 := ha1.c0
    have k11 := ha1.c1
    have k20 := ha2.c0
    have k21 := ha2.c1
    have j1 := ha1.f
    have j2 := ha2.f
    have j10 := j1 0
    have j11 := j1 1
    have j20 := j2 0
    have j21 := j2 1
    clear j1 j2
    go_cut [] (fun wx => IV wx w.heap.size (.bool n) (.slice A xs.length c) ∧ IV wx (w.heap.size + 1) (.bool m) (.slice B ys.length d) ∧ IV wx (w.heap.size + 1 + 1) (.bool false) (.slice none 0 0) ∧ Below w.heap.size w wx ∧ w.heap.size + 3 ≤ wx.heap.size ∧ RdU wx A xs.length xs ∧ RdU wx B ys.length ys)
    case first =>
      go_wp2
      go_meet
      case rel =>
          have hv0 : IV (W.drewN q0) w.heap.size (.bool m) (.slice B ys.length d) := ha1
          have hv1 : IV (W.drewN q0) (w.heap.size + 1) (.bool n) (.slice A xs.length c) := ha2
          have hv2 : IV (W.drewN q0) (w.heap.size + 1 + 1) (.bool false) (.slice none 0 0) := ha3
          have p0 := hv0.put (.bool n) (.slice A xs.length c)
          have p1 := hv1.far (g := w.heap.size) (by omega) (.bool n) (.slice A xs.length c)
          have p2 := hv2.far (g := w.heap.size) (by omega) (.bool n) (.slice A xs.length c)
          have r1 := (hr.below (below_drewN hb0 q0)).iv hv0 (.bool n) (.slice A xs.length c)
          have r2 := (hq.below (below_drewN hb0 q0)).iv hv0 (.bool n) (.slice A xs.length c)
          refine ⟨p0.far (by omega) _ _, p1.put _ _, p2.far (by omega) _ _, ?_, by simp [World.setCell]; rw [Hs0.out]; omega, r1.iv p1 _ _, r2.iv p1 _ _⟩
          exact ((((below_drewN hb0 q0).setCell (p := ⟨w.heap.size, 0, none⟩) (Nat.le_refl _) _).setCell (p := ⟨w.heap.size, 1, none⟩) (Nat.le_refl _) _).setCell (p := ⟨w.heap.size + 1, 0, none⟩) (by simp) _).setCell (p := ⟨w.heap.size + 1, 1, none⟩) (by simp) _
    case rest =>
      obtain ⟨v1, v2, v3, hbw, hsz, hr2, hq2⟩ := hcut
      have x10 := v1.c0
      have x11 := v1.c1
      have x20 := v2.c0
      have x21 := v2.c1
      have HS := hide (sub_calls (w := wc) ⟨A, c, rfl, hc, hr2⟩ ⟨B, d, rfl, hd, hq2⟩ hx.1 hy.1 hn hll Hge.out)
      clear k10 k11 k20 k21 j10 j11 j20 j21 ha1 ha2 ha3
      go_wp2_with fail
      refine HS.out.mono ?_
      clear HS
      rintro e w4 ⟨⟨v4, zs, rfl, h4, hz1, hz2, hz3⟩, hb4⟩
      have Hz2 := hide hz2
      clear hz2
      have y10 := below_cell hb4 x10
      have v34 := v3.below hb4 v3.lt
      go_wp2_with fail
      refine (made_calls n h4 (trimL_nrm hz1) (Nat.le_trans (trimL_le zs) hz3)).mono ?_
      rintro e w5 ⟨⟨v5, rfl, h5⟩, hb5⟩
      rw [trimL_val, Hz2.out] at h5
      have v35 := v34.below hb5 v34.lt
      have hI := h5
      obtain ⟨n1, s1, us, rfl, ⟨A1, c1, rfl, hc1, hr1⟩, hrest⟩ := h5
      have hk0 := v35.c0
      have hk1 := v35.c1
      have hf0 := v35.f 0
      have hf1 := v35.f 1
      go_wp2
      exact bp_int rfl rfl rfl v35 hI (below_then (below_then hbw hbw.size hb4) (Nat.le_trans hbw.size hb4.size) hb5) (by omega) fun v W h1 h2 => ⟨⟨v, rfl, h1⟩, h2⟩

theorem bool_ne {m n : Bool} (h : ¬ m = n) : m = !n ∧ n = !m := by cases m <;> cases n <;> simp_all
theorem sgn_add (n : Bool) (a b : Int) : sgn n (a + b) = sgn n a + sgn n b := by cases n <;> simp [sgn] <;> omega
theorem sgn_sub1 {m n : Bool} (h : m = !n) (a b : Int) : sgn n (a - b) = sgn n a + sgn m b := by subst h; cases n <;> simp [sgn] <;> omega
theorem sgn_sub2 {m n : Bool} (h : m = !n) (a b : Int) : sgn m (b - a) = sgn n a + sgn m b := by subst h; cases n <;> simp [sgn] <;> omega
theorem add_int_calls {w : World} {u v : Value} {a b : Int} {M N : Nat} (hu : IntB w u a M) (hv : IntB w v b N) (hM : M ≤ 1099511627770) (hN : N ≤ 1099511627770) :
    Calls Try.prog 93 #[u, v] w fun e w' => (∃ v', e = .returned v' ∧ IntB w' v' (a + b) (max M N + 1)) ∧ Below w.heap.size w w' := by
  obtain ⟨n, s, xs, rfl, hs, hx, hxl, _, rfl⟩ := hu
  obtain ⟨m, t, ys, rfl, ht, hy, hyl, _, rfl⟩ := hv
  by_cases hnm : m = n
  · subst hnm
    refine (add_int_same hs ht hx hy (by omega) (by omega)).mono ?_
    rintro e w1 ⟨⟨v', rfl, h⟩, hb⟩
    rw [sgn_add] at h
    exact ⟨⟨v', rfl, h.mono (by omega)⟩, hb⟩
  · obtain ⟨hnm', hnm2⟩ := bool_ne hnm
    by_cases hge : val ys ≤ val xs
    · refine (add_int_diff hs ht hx hy (by omega) (by omega) hnm' hge false (fun h => by cases h)).mono ?_
      rintro e w1 ⟨⟨v', rfl, h⟩, hb⟩
      have e : sgn n (val xs - val ys) = sgn n (val xs) + sgn m (val ys) := sgn_sub1 hnm' _ _
      rw [e] at h
      exact ⟨⟨v', rfl, h.mono (by omega)⟩, hb⟩
    · refine (add_int_diff ht hs hy hx (by omega) (by omega) hnm2 (by omega) true (fun _ => by omega)).mono ?_
      rintro e w1 ⟨⟨v', rfl, h⟩, hb⟩
      have e : sgn m (val ys - val xs) = sgn n (val xs) + sgn m (val ys) := sgn_sub2 hnm' _ _
      rw [e] at h
      exact ⟨⟨v', rfl, h.mono (by omega)⟩, hb⟩
end Go.Proofs.Ytnchlckncknaiaa
/- limb.Mul. -/
namespace Go.Proofs.Ytnchlckncknaiaa
open Go.RowKit

set_option maxHeartbeats 4000000 in
set_option maxRecDepth 100000 in
theorem mul_calls {w : World} {u v : Value} {xs ys : List Int} (hu : SlU w u xs) (hv : SlU w v ys) (hx : Lim xs) (hy : Lim ys) (hn : xs.length ≤ 549755813880) (hm : ys.length ≤ 549755813880) :
    Calls Try.prog 136 #[u, v] w fun e w' => (∃ v' zs, e = .returned v' ∧ SlU w' v' (trimL zs) ∧ Lim zs ∧ val zs = val xs * val ys ∧ zs.length ≤ xs.length + ys.length) ∧ Below w.heap.size w w' := by
  obtain ⟨A, c, rfl, hc, hr⟩ := hu
  obtain ⟨B, d, rfl, hd, hq⟩ := hv
  have hmk := make_u32' (xs.length + ys.length) ((xs.length : Int) + (ys.length : Int)) rfl (by omega)
  have hb0 : Below w.heap.size w (w.alloc (.cells (madeCells #[.int .u32 0] (xs.length + ys.length)) 153)) := (Below.refl _ _).alloc (Nat.le_refl _) _
  have hub := UB.made w (xs.length + ys.length)
  go_enter Try.func136, Try.ntmps136
  go_wp2
  clear hmk
  go_loopw [19] (fun i wr => ∃ (k : Nat) (zs : List Int), k ≤ xs.length ∧ i = .int .i64 k ∧ MulInv xs ys zs k (xs.length + ys.length) ∧ UB wr w.heap.size zs ∧ Below w.heap.size w wr) (fun i _ => xs.length - (intOf i).toNat)
  case atStart => exact ⟨0, _, by omega, rfl, MulInv.start xs ys, hub, hb0⟩
  case round =>
    obtain ⟨k, zs, hk, rfl, HI, HU, HB⟩ := hrel
    have hzl := hide HI.1
    by_cases hlt : k < xs.length
    · obtain ⟨b1, o1, rfl, hcell1⟩ := (hr.below HB).at_ hlt
      have bx := lg_lim hx k
      have HR := HI.row (lg xs k)
      obtain ⟨wo, hwo⟩ : ∃ wo : World, wo = wr := ⟨_, rfl⟩
      subst hwo
      go_wp2
      go_loopw [8, 26] (fun ca i wr => ∃ (j : Nat) (cy : Int) (zt : List Int), j ≤ ys.length ∧ i = .int .i64 j ∧ ca = .int .u64 cy ∧ 0 ≤ cy ∧ cy < 4294967296 ∧ MulRow (lg xs k) ys zt k j cy (val zs) (xs.length + ys.length) ∧ UB wr w.heap.size zt ∧ Below w.heap.size w wr) (fun _ i _ => ys.length - (intOf i).toNat)
      case atStart => exact ⟨0, 0, _, by omega, rfl, rfl, by omega, by omega, HR, HU, HB⟩
      case round =>
        obtain ⟨j, cy, zt, hj, rfl, rfl, hc0, hc1, HR2, HU2, HB2⟩ := hrel
        have hzl2 := hide HR2.1
        by_cases hlt2 : j < ys.length
        · obtain ⟨b2, o2, rfl, hcell2⟩ := (hq.below HB2).at_ hlt2
          have by_ := lg_lim hy j
          have bz := lg_lim HR2.2.1 (k + j)
          have hbd := mul_bound bx by_ ⟨hc0, hc1⟩ bz
          have hstep := HR2.step bx hy hlt2 (by omega)
          have hf := HU2.frozen (k + j)
          have hce := HU2.cell (j := k + j) (by have := hzl2.out; omega)
          go_wp2
          go_roundw
          case rel => exact ⟨j + 1, _, _, by omega, by go_num, rfl, hstep.2.2.1, hstep.2.2.2.1, hstep, HU2.set _ _, HB2.setCell (p := ⟨w.heap.size, k + j, none⟩) (Nat.le_refl _) _⟩
          case measure => simp [intOf]; omega
        · have hje : j = ys.length := by omega
          have HR3 := HR2
          rw [hje] at HR3
          have HD := MulRow.done HI HR3 (by omega)
          clear HR3
          have hf := HU2.frozen (k + ys.length)
          have hce := HU2.cell (j := k + ys.length) (by have := hzl2.out; omega)
          clear hje
          have HU4 := HU2.set (k + ys.length) cy
          have HB4 := HB2.setCell (p := ⟨w.heap.size, k + ys.length, none⟩) (Nat.le_refl _) (.int .u32 cy)
          go_wp2
          go_roundw
          case rel => exact ⟨k + 1, _, by omega, by go_num, HD, HU4, HB4⟩
          case measure => simp [intOf]; omega
    · have hke : k = xs.length := by omega
      have hd := HI
      rw [hke] at hd
      have HD := hide hd.done
      clear hke hd
      go_wp2_with fail
      have HT := trim_calls (HU.sl (c := xs.length + ys.length) HD.out.2.2 (Nat.le_refl _)) (by rw [HD.out.2.2]; omega)
      refine HT.mono ?_
      rintro e w1 ⟨⟨v1, rfl, h1⟩, rfl⟩
      go_wp2
      go_ret
      exact ⟨⟨_, _, rfl, h1, HD.out.1, HD.out.2.1, Nat.le_of_eq HD.out.2.2⟩, HB⟩
end Go.Proofs.Ytnchlckncknaiaa
/- integer: Sub, Mul, Of, Times. -/
namespace Go.Proofs.Ytnchlckncknaiaa
open Go.RowKit

/-- Two numbers handed over, and a variable for the answer. -/
theorem three_new (w : World) (a b c d : Value) :
    let W := ((w.alloc (.cells #[a, b] 61)).alloc (.cells #[c, d] 61)).alloc (.cells #[.bool false, .slice none 0 0] 61)
    IV W w.heap.size a b ∧ IV W (w.heap.size + 1) c d ∧ IV W (w.heap.size + 1 + 1) (.bool false) (.slice none 0 0) ∧ Below w.heap.size w W := by
  have ha1 := IV.new w a b
  have ha2 := IV.new (w.alloc (.cells #[a, b] 61)) c d
  have ha3 := IV.new ((w.alloc (.cells #[a, b] 61)).alloc (.cells #[c, d] 61)) (.bool false) (.slice none 0 0)
  rw [World.size_alloc] at ha2
  rw [World.size_alloc, World.size_alloc] at ha3
  exact ⟨(ha1.alloc _).alloc _, ha2.alloc _, ha3, (((Below.refl _ _).alloc (Nat.le_refl _) _).alloc (by simp) _).alloc (by simp; omega) _⟩

set_option maxHeartbeats 2000000 in
set_option maxRecDepth 100000 in
theorem sub_int_calls {w : World} {u v : Value} {a b : Int} {M N : Nat} (hu : IntB w u a M) (hv : IntB w v b N) (hM : M ≤ 1099511627770) (hN : N ≤ 1099511627770) :
    Calls Try.prog 94 #[u, v] w fun e w' => (∃ v', e = .returned v' ∧ IntB w' v' (a - b) (max M N + 1)) ∧ Below w.heap.size w w' := by
  have hu0 := hu
  have hv0 := hv
  obtain ⟨n, s, xs, rfl, ⟨A, c, rfl, hc, hr⟩, _⟩ := hu
  obtain ⟨m, t, ys, rfl, ⟨B, d, rfl, hd, hq⟩, _⟩ := hv
  obtain ⟨v1, v2, v3, hb0⟩ := three_new w (.bool n) (.slice A xs.length c) (.bool m) (.slice B ys.length d)
  go_enter Try.func94, Try.ntmps94
  go_wp2_with fail
  generalize hW : ((w.alloc (.cells #[.bool n, .slice A xs.length c] 61)).alloc (.cells #[.bool m, .slice B ys.length d] 61)).alloc (.cells #[.bool false, .slice none 0 0] 61) = W at *
  clear hW
  have k10 := v1.c0
  have k11 := v1.c1
  have k20 := v2.c0
  have k21 := v2.c1
  have v3' : IV W.drew (w.heap.size + 1 + 1) (.bool false) (.slice none 0 0) := v3
  have HN := hide (neg_calls (hv0.below hb0.drew))
  have hu1 := hu0.below hb0.drew
  have hb1 := hb0.drew
  go_region_held3 (fun w' => w'.cell? ⟨w.heap.size, 0, none⟩ = some (.bool n) ∧ w'.cell? ⟨w.heap.size, 1, none⟩ = some (.slice A xs.length c) ∧ w'.cell? ⟨w.heap.size + 1, 0, none⟩ = some (.bool m) ∧ w'.cell? ⟨w.heap.size + 1, 1, none⟩ = some (.slice B ys.length d))
    (first | exact ⟨k10, k11, k20, k21⟩ | exact ⟨m10, m11, m20, m21⟩ | exact ⟨p10, p11, p20, p21⟩ | exact ⟨iv_far _ _ (by simp <;> omega) p10, iv_far _ _ (by simp <;> omega) p11, iv_far _ _ (by simp <;> omega) p20, iv_far _ _ (by simp <;> omega) p21⟩)
    (first
      | (go_at_call 92
         refine HN.out.mono ?_
         rintro e w1 ⟨⟨x1, rfl, h1⟩, hb2⟩
         have m10 := below_cell hb2 k10
         have m11 := below_cell hb2 k11
         have m20 := below_cell hb2 k20
         have m21 := below_cell hb2 k21)
      | (go_at_call 93
         refine (add_int_calls (hu1.below hb2) h1 hM hN).mono ?_
         rintro e w2 ⟨⟨x2, rfl, h2⟩, hb3⟩
         have p10 := below_cell hb3 m10
         have p11 := below_cell hb3 m11
         have p20 := below_cell hb3 m20
         have p21 := below_cell hb3 m21
         have v3a := v3'.below hb2 v3'.lt
         have v3b := v3a.below hb3 v3a.lt
         have hI := h2
         obtain ⟨n1, s1, us, rfl, ⟨A1, c1, rfl, hc1, hr1⟩, hrest⟩ := h2
         have hk0 := v3b.c0
         have hk1 := v3b.c1
         have hf0 := v3b.f 0
         have hf1 := v3b.f 1))
  go_wp2
  rw [← Int.sub_eq_add_neg] at hI
  exact bp_int rfl rfl rfl v3b hI (below_then (below_then hb1 hb1.size hb2) (Nat.le_trans hb1.size hb2.size) hb3) (by omega) fun v W h1 h2 => ⟨⟨v, rfl, h1⟩, h2⟩

theorem sgn_mul (n m : Bool) (a b : Int) : sgn (n != m) (a * b) = sgn n a * sgn m b := by cases n <;> cases m <;> simp [sgn] <;> grind
set_option maxHeartbeats 2000000 in
set_option maxRecDepth 100000 in
theorem mul_int_calls {w : World} {u v : Value} {a b : Int} {M N : Nat} (hu : IntB w u a M) (hv : IntB w v b N) (hM : M ≤ 549755813880) (hN : N ≤ 549755813880) :
    Calls Try.prog 95 #[u, v] w fun e w' => (∃ v', e = .returned v' ∧ IntB w' v' (a * b) (M + N)) ∧ Below w.heap.size w w' := by
  obtain ⟨n, s, xs, rfl, ⟨A, c, rfl, hc, hr⟩, hx, hxl, _, rfl⟩ := hu
  obtain ⟨m, t, ys, rfl, ⟨B, d, rfl, hd, hq⟩, hy, hyl, _, rfl⟩ := hv
  obtain ⟨v1, v2, v3, hb0⟩ := three_new w (.bool n) (.slice A xs.length c) (.bool m) (.slice B ys.length d)
  have HSM := hide (sgn_mul n m (val xs) (val ys))
  go_enter Try.func95, Try.ntmps95
  go_wp2_with fail
  generalize hW : ((w.alloc (.cells #[.bool n, .slice A xs.length c] 61)).alloc (.cells #[.bool m, .slice B ys.length d] 61)).alloc (.cells #[.bool false, .slice none 0 0] 61) = W at *
  clear hW
  have k10 := v1.c0
  have k11 := v1.c1
  have k20 := v2.c0
  have k21 := v2.c1
  have v3' : IV W.drew (w.heap.size + 1 + 1) (.bool false) (.slice none 0 0) := v3
  have HM := hide (mul_calls (w := W.drew) (u := .slice A xs.length c) (v := .slice B ys.length d) ⟨A, c, rfl, hc, hr.below hb0.drew⟩ ⟨B, d, rfl, hd, hq.below hb0.drew⟩ hx.1 hy.1 (by omega) (by omega))
  have hb1 := hb0.drew
  go_region_held3 (fun w' => w'.cell? ⟨w.heap.size, 0, none⟩ = some (.bool n) ∧ w'.cell? ⟨w.heap.size, 1, none⟩ = some (.slice A xs.length c) ∧ w'.cell? ⟨w.heap.size + 1, 0, none⟩ = some (.bool m) ∧ w'.cell? ⟨w.heap.size + 1, 1, none⟩ = some (.slice B ys.length d))
    (first | exact ⟨k10, k11, k20, k21⟩ | exact ⟨m10, m11, m20, m21⟩ | exact ⟨p10, p11, p20, p21⟩ | exact ⟨iv_far _ _ (by simp <;> omega) p10, iv_far _ _ (by simp <;> omega) p11, iv_far _ _ (by simp <;> omega) p20, iv_far _ _ (by simp <;> omega) p21⟩)
    (first
      | (go_at_call 136
         refine HM.out.mono ?_
         rintro e w1 ⟨⟨x1, zs, rfl, h1, hz1, hz2, hz3⟩, hb2⟩
         have Hz2 := hide hz2
         clear hz2
         have m10 := below_cell hb2 k10
         have m11 := below_cell hb2 k11
         have m20 := below_cell hb2 k20
         have m21 := below_cell hb2 k21)
      | (go_at_call 133
         refine (made_calls (N := M + N) (n != m) h1 (trimL_nrm hz1) (by have := trimL_le zs; omega)).mono ?_
         rintro e w2 ⟨⟨x2, rfl, h2⟩, hb3⟩
         have p10 := below_cell hb3 m10
         have p11 := below_cell hb3 m11
         have p20 := below_cell hb3 m20
         have p21 := below_cell hb3 m21
         have v3a := v3'.below hb2 v3'.lt
         have v3b := v3a.below hb3 v3a.lt
         have hI := h2
         obtain ⟨n1, s1, us, rfl, ⟨A1, c1, rfl, hc1, hr1⟩, hrest⟩ := h2
         have hk0 := v3b.c0
         have hk1 := v3b.c1
         have hf0 := v3b.f 0
         have hf1 := v3b.f 1))
  go_wp2
  rw [trimL_val, Hz2.out, HSM.out] at hI
  exact bp_int rfl rfl rfl v3b hI (below_then (below_then hb1 hb1.size hb2) (Nat.le_trans hb1.size hb2.size) hb3) (by omega) fun v W h1 h2 => ⟨⟨v, rfl, h1⟩, h2⟩
end Go.Proofs.Ytnchlckncknaiaa
/- integer: Of, Times, Cmp, Shl; exact.power. -/
namespace Go.Proofs.Ytnchlckncknaiaa
open Go.RowKit

theorem blk_two (W : World) (x y : Int) : SlU (W.alloc (.cells #[.int .u32 x, .int .u32 y] 153)) (.slice (some ⟨W.heap.size, 0, none⟩) 2 2) [x, y] := by
  have h : UB (W.alloc (.cells #[.int .u32 x, .int .u32 y] 153)) W.heap.size [x, y] := UB.of_blk (Blk.new _ _ _)
  exact h.sl rfl (Nat.le_refl _)

theorem of_pos (n : Int) (h0 : 0 ≤ n) (h1 : n ≤ 9223372036854775807) : sgn false (val [n % 4294967296, n / 4294967296]) = n ∧ Lim [n % 4294967296, n / 4294967296] := by
  refine ⟨by simp [sgn, val]; omega, Lim.mk (by omega) (Lim.mk (by omega) Lim.nil)⟩
theorem of_neg (n : Int) (h0 : -9223372036854775808 ≤ n) (h1 : n < 0) :
    sgn true (val [IntKind.u64.wrap (-IntKind.u64.wrap n) % 4294967296, IntKind.u64.wrap (-IntKind.u64.wrap n) / 4294967296 % 4294967296]) = n ∧
    Lim [IntKind.u64.wrap (-IntKind.u64.wrap n) % 4294967296, IntKind.u64.wrap (-IntKind.u64.wrap n) / 4294967296 % 4294967296] := by
  have e : IntKind.u64.wrap (-IntKind.u64.wrap n) = -n := by simp only [IntKind.wrap_u64]; omega
  rw [e]
  refine ⟨by simp [sgn, val]; omega, Lim.mk (by omega) (Lim.mk (by omega) Lim.nil)⟩

set_option maxHeartbeats 1000000 in
theorem of_calls {w : World} (n : Int) (h0 : -9223372036854775808 ≤ n) (h1 : n ≤ 9223372036854775807) :
    Calls Try.prog 51 #[.int .i64 n] w fun e w' => (∃ v', e = .returned v' ∧ IntB w' v' n 2) ∧ Below w.heap.size w w' := by
  have hv0 := IV.new w (.bool false) (.slice none 0 0)
  have hb0 : Below w.heap.size w (w.alloc (.cells #[.bool false, .slice none 0 0] 61)) := (Below.refl _ _).alloc (Nat.le_refl _) _
  by_cases hn : n < 0
  · have hd : decide (n < 0) = true := by simpa using hn
    have HO := hide (of_neg n h0 hn)
    go_enter Try.func51, Try.ntmps51
    go_wp2_with fail
    have hs := blk_two (w.alloc (.cells #[.bool false, .slice none 0 0] 61)) (IntKind.u64.wrap (-IntKind.u64.wrap n) % 4294967296) (IntKind.u64.wrap (-IntKind.u64.wrap n) / 4294967296 % 4294967296)
    rw [World.size_alloc] at hs
    refine (make_calls true hs HO.out.2 (by simp)).mono ?_
    rintro e w2 ⟨⟨v2, rfl, h2⟩, hb2⟩
    have hb1 := hb0.alloc (by simp) (.cells #[.int .u32 (IntKind.u64.wrap (-IntKind.u64.wrap n) % 4294967296), .int .u32 (IntKind.u64.wrap (-IntKind.u64.wrap n) / 4294967296 % 4294967296)] 153)
    have hv1 := hv0.alloc (.cells #[.int .u32 (IntKind.u64.wrap (-IntKind.u64.wrap n) % 4294967296), .int .u32 (IntKind.u64.wrap (-IntKind.u64.wrap n) / 4294967296 % 4294967296)] 153)
    rw [HO.out.1] at h2
    have hv2 := hv1.below hb2 hv1.lt
    have hI := h2
    obtain ⟨n1, s1, ys, rfl, ⟨A1, c1, rfl, hc1, hr1⟩, hrest⟩ := h2
    have hk0 := hv2.c0
    have hk1 := hv2.c1
    have hf0 := hv2.f 0
    have hf1 := hv2.f 1
    go_wp2
    exact bp_int rfl rfl rfl hv2 hI (below_then hb1 hb1.size hb2) (by omega) fun v W h1 h2 => ⟨⟨v, rfl, h1⟩, h2⟩
  · have hd : decide (n < 0) = false := by simpa using hn
    have HO := hide (of_pos n (by omega) h1)
    go_enter Try.func51, Try.ntmps51
    go_wp2_with fail
    have hs := blk_two (w.alloc (.cells #[.bool false, .slice none 0 0] 61)) (n % 4294967296) (n / 4294967296)
    rw [World.size_alloc] at hs
    refine (make_calls false hs HO.out.2 (by simp)).mono ?_
    rintro e w2 ⟨⟨v2, rfl, h2⟩, hb2⟩
    have hb1 := hb0.alloc (by simp) (.cells #[.int .u32 (n % 4294967296), .int .u32 (n / 4294967296)] 153)
    have hv1 := hv0.alloc (.cells #[.int .u32 (n % 4294967296), .int .u32 (n / 4294967296)] 153)
    rw [HO.out.1] at h2
    have hv2 := hv1.below hb2 hv1.lt
    have hI := h2
    obtain ⟨n1, s1, ys, rfl, ⟨A1, c1, rfl, hc1, hr1⟩, hrest⟩ := h2
    have hk0 := hv2.c0
    have hk1 := hv2.c1
    have hf0 := hv2.f 0
    have hf1 := hv2.f 1
    go_wp2
    exact bp_int rfl rfl rfl hv2 hI (below_then hb1 hb1.size hb2) (by omega) fun v W h1 h2 => ⟨⟨v, rfl, h1⟩, h2⟩

theorem cmp_sgn (n m : Bool) {xs ys : List Int} (hx : Nrm xs) (hy : Nrm ys) (hn : n = true → xs ≠ []) (hm : m = true → ys ≠ []) :
    cmpI (sgn n (val xs)) (sgn m (val ys)) = if n then (if m then cmpI (val ys) (val xs) else -1) else (if m then 1 else cmpI (val xs) (val ys)) := by
  have bx := val_nonneg hx.1
  have by_ := val_nonneg hy.1
  cases n
  · cases m
    · simp [sgn]
    · have := val_pos hy (hm rfl)
      simp [sgn, cmpI]; omega
  · have := val_pos hx (hn rfl)
    cases m
    · simp [sgn, cmpI]; omega
    · have := val_pos hy (hm rfl)
      simp only [sgn, if_true, cmpI]
      split <;> split <;> (try split) <;> omega

set_option maxHeartbeats 2000000 in
theorem cmp_int_calls {w : World} {u v : Value} {a b : Int} {M N : Nat} (hu : IntB w u a M) (hv : IntB w v b N) (hM : M ≤ 1099511627770) (hN : N ≤ 1099511627770) :
    Calls Try.prog 62 #[u, v] w fun e w' => e = .returned (.int .i64 (cmpI a b)) ∧ Below w.heap.size w w' := by
  obtain ⟨n, s, xs, rfl, ⟨A, c, rfl, hc, hr⟩, hx, hxl, hxn, rfl⟩ := hu
  obtain ⟨m, t, ys, rfl, ⟨B, d, rfl, hd, hq⟩, hy, hyl, hyn, rfl⟩ := hv
  have HC := hide (cmp_sgn n m hx hy hxn hyn)
  have hb0 : Below w.heap.size w ((w.alloc (.cells #[.bool n, .slice A xs.length c] 61)).alloc (.cells #[.bool m, .slice B ys.length d] 61)) := ((Below.refl _ _).alloc (Nat.le_refl _) _).alloc (by simp) _
  have H1 := hide (cmp_calls ⟨A, c, rfl, hc, hr.below hb0⟩ ⟨B, d, rfl, hd, hq.below hb0⟩ hx.1 hy.1 (by omega) (by omega))
  have H2 := hide (cmp_calls ⟨B, d, rfl, hd, hq.below hb0⟩ ⟨A, c, rfl, hc, hr.below hb0⟩ hy.1 hx.1 (by omega) (by omega))
  clear hxn hyn
  cases n
  · cases m
    · go_enter Try.func62, Try.ntmps62
      go_wp2_with (go_at_call 107; refine H1.out.mono ?_; rintro e w1 ⟨rfl, q0, rfl⟩)
      go_ret
      exact ⟨ret_int (by rw [HC.out]; rfl), below_drewN hb0 q0⟩
    · go_enter Try.func62, Try.ntmps62
      go_wp2
      go_ret
      exact ⟨ret_int (by rw [HC.out]; rfl), hb0⟩
  · cases m
    · go_enter Try.func62, Try.ntmps62
      go_wp2
      go_ret
      exact ⟨ret_int (by rw [HC.out]; rfl), hb0⟩
    · go_enter Try.func62, Try.ntmps62
      go_wp2_with (go_at_call 107; refine H2.out.mono ?_; rintro e w1 ⟨rfl, q0, rfl⟩)
      go_ret
      exact ⟨ret_int (by rw [HC.out]; rfl), below_drewN hb0 q0⟩
end Go.Proofs.Ytnchlckncknaiaa
/- integer.Shl, Times; exact.power. -/
namespace Go.Proofs.Ytnchlckncknaiaa
open Go.RowKit

theorem two_new (w : World) (a b : Value) :
    let W := (w.alloc (.cells #[a, b] 61)).alloc (.cells #[.bool false, .slice none 0 0] 61)
    IV W w.heap.size a b ∧ IV W (w.heap.size + 1) (.bool false) (.slice none 0 0) ∧ Below w.heap.size w W := by
  have ha1 := IV.new w a b
  have ha2 := IV.new (w.alloc (.cells #[a, b] 61)) (.bool false) (.slice none 0 0)
  rw [World.size_alloc] at ha2
  exact ⟨ha1.alloc _, ha2, ((Below.refl _ _).alloc (Nat.le_refl _) _).alloc (by simp) _⟩

theorem res_int_tmp {fn : Func} {p u : Tmp} (h : fn.results = #[.cell p 61, .tmp u]) {tmps : Array Value} {w : World} {g : Nat} {a b : Value} (hp : tmps.getD p undef = .pointer (some ⟨g, 0, none⟩)) (hv : IV w g a b) :
    (results fn tmps).run Try.prog w = .ok (.tuple #[.agg #[a, b], tmps.getD u undef]) w := by
  have h0 := hv.c0
  have h1 := hv.c1
  rw [results_cell_tmp h, hp]
  simp [go_sem, h0, h1]
theorem bp_int_tmp {fn : Func} {p u : Tmp} (h : fn.results = #[.cell p 61, .tmp u]) {R : Ending → World → Prop} {a : Act} {w0 w1 : World} {g B k c N : Nat} {x y r : Value} {pb : Bool} {s : Option Addr} {z : Int}
    (hd : a.defers = []) (hp : a.tmps.getD p undef = .pointer (some ⟨g, 0, none⟩)) (hr : a.tmps.getD u undef = r) (hv : IV w1 g (.bool pb) (.slice s k c)) (hI : IntB w1 (.agg #[x, y]) z N) (hb : Below B w0 w1) (hB : B ≤ g)
    (hR : ∀ v W, IntB W v z N → Below B w0 W → R (.returned (.tuple #[v, r])) W) : bodyPost Try.prog fn R .ret a ((w1.setCell ⟨g, 0, none⟩ x).setCell ⟨g, 1, none⟩ y) := by
  refine bodyPost_ret (res_int_tmp h hp (hv.put x y)) hd ?_
  rw [hr]
  exact hR _ _ (hI.iv hv x y) ((hb.setCell (p := ⟨g, 0, none⟩) hB x).setCell (p := ⟨g, 1, none⟩) hB y)

theorem sgn_pow (n : Bool) (a b : Int) : sgn n (a * b) = sgn n a * b := by cases n <;> simp [sgn] <;> grind
set_option maxHeartbeats 2000000 in
theorem shl_int_calls {w : World} {u : Value} {a : Int} {M n : Nat} (hu : IntB w u a M) (hM : M ≤ 1099511620000) (hn : n ≤ 65536) :
    Calls Try.prog 168 #[u, .int .i64 (n : Int)] w fun e w' => (∃ v', e = .returned (.tuple #[v', .int .i64 0]) ∧ IntB w' v' (a * 2 ^ n) (M + n / 32 + 1)) ∧ Below w.heap.size w w' := by
  obtain ⟨p, s, xs, rfl, ⟨A, c, rfl, hc, hr⟩, hx, hxl, _, rfl⟩ := hu
  obtain ⟨v1, v2, hb0⟩ := two_new w (.bool p) (.slice A xs.length c)
  have HP := hide (sgn_pow p (val xs) (2 ^ n))
  have HS := hide (shl_calls (n := n) ⟨A, c, rfl, hc, hr.below hb0⟩ hx.1 (by omega) hn)
  go_enter Try.func168, Try.ntmps168
  go_wp2_with fail
  refine HS.out.mono ?_
  clear HS
  rintro e w1 ⟨⟨x1, zs, rfl, h1, hz1, hz2, hz3⟩, hb1⟩
  have Hz2 := hide hz2
  clear hz2
  have k10 := below_cell hb1 v1.c0
  have v2a := v2.below hb1 v2.lt
  go_wp2_with fail
  refine (made_calls (N := M + n / 32 + 1) p h1.sl (trimL_nrm hz1) (by have := trimL_le zs; omega)).mono ?_
  rintro e w2 ⟨⟨x2, rfl, h2⟩, hb2⟩
  rw [trimL_val, Hz2.out, HP.out] at h2
  have v2b := v2a.below hb2 v2a.lt
  have hI := h2
  obtain ⟨n1, s1, us, rfl, ⟨A1, c1, rfl, hc1, hr1⟩, hrest⟩ := h2
  have hk0 := v2b.c0
  have hk1 := v2b.c1
  have hf0 := v2b.f 0
  have hf1 := v2b.f 1
  go_wp2
  exact bp_int_tmp rfl rfl rfl rfl v2b hI (below_then (below_then hb0 hb0.size hb1) (Nat.le_trans hb0.size hb1.size) hb2) (by omega) fun v W h1 h2 => ⟨⟨v, rfl, h1⟩, h2⟩

set_option maxHeartbeats 2000000 in
theorem power_calls {w : World} {n : Nat} (hn : n ≤ 65536) :
    Calls Try.prog 132 #[.int .i64 (n : Int)] w fun e w' => (∃ v', e = .returned v' ∧ IntB w' v' (2 ^ n) (n / 32 + 3)) ∧ Below w.heap.size w w' := by
  have v1 := IV.new w (.bool false) (.slice none 0 0)
  have hb0 : Below w.heap.size w (w.alloc (.cells #[.bool false, .slice none 0 0] 61)) := (Below.refl _ _).alloc (Nat.le_refl _) _
  go_enter Try.func132, Try.ntmps132
  go_wp2_with fail
  refine (of_calls 1 (by omega) (by omega)).mono ?_
  rintro e w1 ⟨⟨x1, rfl, h1⟩, hb1⟩
  have v1a := v1.below hb1 v1.lt
  go_wp2_with fail
  refine (shl_int_calls (n := n) h1 (by omega) hn).mono ?_
  rintro e w2 ⟨⟨x2, rfl, h2⟩, hb2⟩
  have v1b := v1a.below hb2 v1a.lt
  rw [Int.one_mul] at h2
  have h2 := h2.mono (show 2 + n / 32 + 1 ≤ n / 32 + 3 by omega)
  have hI := h2
  obtain ⟨n1, s1, us, rfl, ⟨A1, c1, rfl, hc1, hr1⟩, hrest⟩ := h2
  have v1c := v1b.alloc (.cells #[.bool n1, .slice A1 us.length c1] 61)
  have hb2' := (Below.refl w2.heap.size w2).alloc (Nat.le_refl _) (.cells #[.bool n1, .slice A1 us.length c1] 61)
  have hI' := hI.below hb2'
  have hk0 := v1c.c0
  have hk1 := v1c.c1
  have hf0 := v1c.f 0
  have hf1 := v1c.f 1
  go_wp2
  have hb12 := below_then (below_then hb0 hb0.size hb1) (Nat.le_trans hb0.size hb1.size) hb2
  exact bp_int rfl rfl rfl v1c hI' (below_then hb12 hb12.size hb2') (Nat.le_refl _) fun v W h1 h2 => ⟨⟨v, rfl, h1⟩, h2⟩

set_option maxHeartbeats 2000000 in
set_option maxRecDepth 100000 in
theorem times_calls {w : World} {u : Value} {a : Int} {M : Nat} (hu : IntB w u a M) (c : Int) (hc0 : -9223372036854775808 ≤ c) (hc1 : c ≤ 9223372036854775807) (hM : M ≤ 549755813880) :
    Calls Try.prog 109 #[u, .int .i64 c] w fun e w' => (∃ v', e = .returned v' ∧ IntB w' v' (a * c) (M + 2)) ∧ Below w.heap.size w w' := by
  have hu0 := hu
  obtain ⟨n, s, xs, rfl, ⟨A, cp, rfl, hc, hr⟩, _⟩ := hu
  obtain ⟨v1, v2, hb0⟩ := two_new w (.bool n) (.slice A xs.length cp)
  go_enter Try.func109, Try.ntmps109
  go_wp2_with fail
  generalize hW : (w.alloc (.cells #[.bool n, .slice A xs.length cp] 61)).alloc (.cells #[.bool false, .slice none 0 0] 61) = W at *
  clear hW
  have k10 := v1.c0
  have k11 := v1.c1
  have v2' : IV W.drew (w.heap.size + 1) (.bool false) (.slice none 0 0) := v2
  have HO := hide (of_calls (w := W.drew) c hc0 hc1)
  have hu1 := hu0.below hb0.drew
  have hb1 := hb0.drew
  go_region_held3 (fun w' => w'.cell? ⟨w.heap.size, 0, none⟩ = some (.bool n) ∧ w'.cell? ⟨w.heap.size, 1, none⟩ = some (.slice A xs.length cp))
    (first | exact ⟨k10, k11⟩ | exact ⟨m10, m11⟩ | exact ⟨p10, p11⟩ | exact ⟨iv_far _ _ (by simp <;> omega) p10, iv_far _ _ (by simp <;> omega) p11⟩)
    (first
      | (go_at_call 51
         refine HO.out.mono ?_
         rintro e w1 ⟨⟨x1, rfl, h1⟩, hb2⟩
         have m10 := below_cell hb2 k10
         have m11 := below_cell hb2 k11)
      | (go_at_call 95
         refine (mul_int_calls (hu1.below hb2) h1 hM (by omega)).mono ?_
         rintro e w2 ⟨⟨x2, rfl, h2⟩, hb3⟩
         have p10 := below_cell hb3 m10
         have p11 := below_cell hb3 m11
         have v3a := v2'.below hb2 v2'.lt
         have v3b := v3a.below hb3 v3a.lt
         have hI := h2
         obtain ⟨n1, s1, us, rfl, ⟨A1, c1, rfl, hc1, hr1⟩, hrest⟩ := h2
         have hk0 := v3b.c0
         have hk1 := v3b.c1
         have hf0 := v3b.f 0
         have hf1 := v3b.f 1))
  go_wp2
  exact bp_int rfl rfl rfl v3b hI (below_then (below_then hb1 hb1.size hb2) (Nat.le_trans hb1.size hb2.size) hb3) (by omega) fun v W h1 h2 => ⟨⟨v, rfl, h1⟩, h2⟩
end Go.Proofs.Ytnchlckncknaiaa
/- A drawn region by an invariant on which operations have come up: one proof an operation, whatever the number of orders. -/
namespace Go.Proofs.Ytnchlckncknaiaa
open Go.RowKit

/-- Every edge that binds goes back. -/
def backB (ops : Array Oper) : Bool :=
  (List.range ops.size).all fun i => match ops[i]? with | none => true | some o => o.after.all fun e => !Region.binds .any e || decide (e.on < i)

theorem backB_spec {ops : Array Oper} (h : backB ops = true) {i : Nat} {o : Oper} (ho : ops[i]? = some o) {e : Edge} (he : e ∈ o.after) (hb : Region.binds .any e = true) : e.on < i := by
  have hi : i < ops.size := by
    rcases Nat.lt_or_ge i ops.size with h | h
    · exact h
    · rw [Array.getElem?_eq_none h] at ho; cases ho
  unfold backB at h
  rw [List.all_eq_true] at h
  have h1 := h i (List.mem_range.2 hi)
  rw [ho] at h1
  rw [Array.all_eq_true'] at h1
  have h2 := h1 e he
  simpa [hb] using h2

variable {P : Program} {ops : Array Oper} {Q : Exit → Act → World → Prop}

theorem ready_nil {ops : Array Oper} (h : backB ops = true) {listed : Array Bool} (hs : listed.size = ops.size) (hr : Region.ready .any ops listed = []) : ∀ j, listed.getD j true = true := by
  intro j
  induction j using Nat.strongRecOn with
  | ind j ih =>
    cases hj : listed.getD j true
    · exfalso
      have hjs : j < ops.size := by
        rcases Nat.lt_or_ge j listed.size with h | h
        · omega
        · simp [Array.getElem?_eq_none h] at hj
      have hm : j ∈ Region.ready .any ops listed := mem_ready.2 ⟨hj, ops[j], by simp [hjs], fun e he hb => by
        have hlt := backB_spec h (show ops[j]? = some ops[j] by simp [hjs]) he hb
        have := ih e.on hlt
        have hsz : e.on < listed.size := by omega
        simp [hsz] at this ⊢
        exact this⟩
      rw [hr] at hm
      cases hm
    · rfl

/-- What follows once operation i is listed. -/
def StepInv (P : Program) (ops : Array Oper) (Q : Exit → Act → World → Prop) (Inv : (Nat → Bool) → Act → World → Prop) (i : Nat) : Prop :=
  ∀ (L : Nat → Bool) (a : Act) (w : World) (o : Oper), ops[i]? = some o → L i = false → (∀ e ∈ o.after, Region.binds .any e = true → L e.on = true) → Inv L a w →
    ∀ K : Act → World → Prop, Shut (∀ a' w', Inv (fun j => j == i || L j) a' w' → K a' w') → if Region.wanted o (yielded ops a.tmps) = true then Oper.wp P o a w K Q else K (a.put o.dst undef) w

theorem any_inv (hbk : backB ops = true) {Inv : (Nat → Bool) → Act → World → Prop} (step : ∀ i, i < ops.size → StepInv P ops Q Inv i)
    (done : ∀ L a w, (∀ j, L j = true) → Inv L a w → Q .normal a w) :
    ∀ (fuel : Nat) (listed : Array Bool) (a : Act) (w : World), listed.size = ops.size → (Region.ready .any ops listed ≠ [] → (listed.toList.countP fun b => !b) ≤ fuel) → Inv (fun j => listed.getD j true) a w → wpAny P .any ops Q fuel listed a w := by
  intro fuel
  induction fuel with
  | zero =>
    intro listed a w hs hf hI
    have hr : Region.ready .any ops listed = [] := by
      cases hc : Region.ready .any ops listed with
      | nil => rfl
      | cons i rest =>
        exfalso
        have h0 := hf (by simp [hc])
        have hi : i ∈ Region.ready .any ops listed := by simp [hc]
        obtain ⟨h1, _⟩ := mem_ready.1 hi
        have hlt : i < listed.size := by
          rcases Nat.lt_or_ge i listed.size with h | h
          · exact h
          · simp [Array.getElem?_eq_none h] at h1
        have h2 : listed[i] = false := by simpa [hlt] using h1
        have h3 : (listed.toList.countP fun b => !b) = 0 := by omega
        rw [List.countP_eq_zero] at h3
        have h4 := h3 listed[i] (by simp)
        simp [h2] at h4
    exact ⟨hr, done _ a w (ready_nil hbk hs hr) hI⟩
  | succ fuel ih =>
    intro listed a w hs hf hI
    refine ⟨fun hr => done _ a w (ready_nil hbk hs hr) hI, fun i hi => ?_⟩
    obtain ⟨h1, o, ho, hdep⟩ := mem_ready.1 hi
    have hlt : i < listed.size := by
      rcases Nat.lt_or_ge i listed.size with h | h
      · exact h
      · simp [Array.getElem?_eq_none h] at h1
    refine wpOp_step ho (fun K hK => step i (by omega) _ a w o ho h1 (fun e he hb => ?_) hI K (fun a' w' hI' => hK a' w' ?_))
    · have hlt2 := backB_spec hbk ho he hb
      have := hdep e he hb
      have h5 : e.on < listed.size := by omega
      simp [h5] at this ⊢
      exact this
    · refine ih _ a' w' (by simp [hs]) (fun _ => ?_) ?_
      · have h6 := hf (List.ne_nil_of_mem hi)
        have h7 : listed[i] = false := by simpa [hlt] using h1
        have h8 : ((listed.setIfInBounds i true).toList.countP fun b => !b) + 1 = listed.toList.countP fun b => !b := by
          rw [Array.toList_setIfInBounds, List.countP_set (by simpa using hlt)]
          have h9 : 0 < listed.toList.countP fun b => !b := List.countP_pos_iff.2 ⟨listed[i], by simp, by simp [h7]⟩
          simp only [Array.getElem_toList, h7, Bool.not_false, if_true, Bool.not_true, Bool.false_eq_true, if_false]
          omega
        omega
      · have h10 : (fun j => (listed.setIfInBounds i true).getD j true) = fun j => j == i || listed.getD j true := by
          funext j
          by_cases hji : j = i
          · subst hji; simp [hlt]
          · rw [getD_set_ne true (Ne.symm hji)]; simp [hji]
        rw [h10]
        exact hI'

/-- **THE LAW.** -/
theorem region_inv {id : Nat} {a : Act} {w : World} (hm : P.follows .mixedOrders = true) (hbk : backB ops = true) (Inv : (Nat → Bool) → Act → World → Prop)
    (h0 : Inv (fun j => decide (ops.size ≤ j)) a w.drew) (step : ∀ i, i < ops.size → StepInv P ops Q Inv i)
    (done : ∀ L a w, (∀ j, L j = true) → Inv L a w → Q .normal a w) : (Code.region id ops true).wp P Q a w := by
  refine wp_region_any hm (any_inv hbk step done _ _ a _ (by simp) (fun _ => ?_) ?_)
  · refine Nat.le_trans (List.countP_le_length) (by simp)
  · have e : (fun j => (Array.replicate ops.size false).getD j true) = fun j => decide (ops.size ≤ j) := by
      funext j
      rcases Nat.lt_or_ge j ops.size with h | h
      · simp [h]
      · simp [h]
    rw [e]
    exact h0
end Go.Proofs.Ytnchlckncknaiaa
/- integer.DivMod. -/
namespace Go.Proofs.Ytnchlckncknaiaa
open Go.RowKit

theorem four_new (w : World) (a b c d : Value) :
    let W := (((w.alloc (.cells #[a, b] 61)).alloc (.cells #[c, d] 61)).alloc (.cells #[.bool false, .slice none 0 0] 61)).alloc (.cells #[.bool false, .slice none 0 0] 61)
    IV W w.heap.size a b ∧ IV W (w.heap.size + 1) c d ∧ IV W (w.heap.size + 1 + 1) (.bool false) (.slice none 0 0) ∧ IV W (w.heap.size + 1 + 1 + 1) (.bool false) (.slice none 0 0) ∧ Below w.heap.size w W := by
  obtain ⟨h1, h2, h3, h4⟩ := three_new w a b c d
  have ha4 := IV.new (((w.alloc (.cells #[a, b] 61)).alloc (.cells #[c, d] 61)).alloc (.cells #[.bool false, .slice none 0 0] 61)) (.bool false) (.slice none 0 0)
  rw [World.size_alloc, World.size_alloc, World.size_alloc] at ha4
  exact ⟨h1.alloc _, h2.alloc _, h3.alloc _, ha4, h4.alloc h4.size _⟩

/-- Euclid's quotient and remainder out of the amounts'. -/
theorem div_signs (n m : Bool) {X Y Q R : Int} (h : X = Q * Y + R) (h0 : 0 ≤ R) (h1 : R < Y) :
    ((n = false ∨ R = 0) → sgn (n != m) Q = sgn n X / sgn m Y ∧ sgn n R = sgn n X % sgn m Y) ∧
    ((n = true ∧ R ≠ 0) → sgn (n != m) Q - sgnI (sgn m Y) = sgn n X / sgn m Y ∧ sgn n R + ((sgn m Y).natAbs : Int) = sgn n X % sgn m Y) := by
  have hY : 0 < Y := by omega
  have key : ∀ (a q r : Int), a = q * Y + r → 0 ≤ r → r < Y → a / Y = q ∧ a % Y = r := by
    intro a q r e a0 a1
    exact (Int.ediv_emod_unique hY).2 ⟨by rw [e]; grind, a0, a1⟩
  have hs : sgnI Y = 1 ∧ sgnI (-Y) = -1 := by unfold sgnI; constructor <;> (repeat' split) <;> omega
  constructor
  · rintro hc
    cases n
    · have k := key X Q R h h0 h1
      cases m
      · simp only [sgn, bne_self_eq_false, Bool.false_eq_true, if_false]; exact ⟨k.1.symm, k.2.symm⟩
      · simp only [sgn, Bool.false_bne, if_true, Bool.false_eq_true, if_false, Int.ediv_neg, Int.emod_neg, k]; simp
    · have hR : R = 0 := by
        rcases hc with h | h
        · cases h
        · exact h
      subst hR
      have k := key (-X) (-Q) 0 (by rw [h]; grind) (by omega) hY
      cases m
      · simp only [sgn, Bool.true_bne, if_true, Bool.false_eq_true, if_false, Bool.not_false, k]; simp
      · simp only [sgn, bne_self_eq_false, if_true, Bool.false_eq_true, if_false, Int.ediv_neg, Int.emod_neg, k]; simp
  · rintro ⟨rfl, hR⟩
    have k := key (-X) (-Q - 1) (Y - R) (by rw [h]; grind) (by omega) (by omega)
    have k1 := k.1
    have k2 := k.2
    have s1 := hs.1
    have s2 := hs.2
    cases m
    · simp only [sgn, Bool.true_bne, if_true, Bool.false_eq_true, if_false, Bool.not_false]
      rw [k1, k2, s1]; omega
    · simp only [sgn, bne_self_eq_false, if_true, Bool.false_eq_true, if_false, Int.ediv_neg, Int.emod_neg]
      rw [k1, k2, s2]; omega

theorem IV.keep {w w' : World} {g : Nat} {a b : Value} (h : IV w g a b) (hb : Below w.heap.size w w') : IV w' g a b := h.below hb h.lt
theorem IntB.alloc1 {w : World} {v : Value} {z : Int} {N : Nat} {o : Obj} (h : IntB w v z N) : IntB (w.alloc o) v z N := h.below ((Below.refl _ _).alloc (Nat.le_refl _) _)
theorem ba1 {w W : World} {o : Obj} (h : Below w.heap.size w W) : Below w.heap.size w (W.alloc o) := h.alloc h.size o
theorem below_to {w W W' : World} (h : Below w.heap.size w W) (k : Below W.heap.size W W') : Below w.heap.size w W' := below_then h h.size k
theorem iv_new1 (w : World) (o : Obj) (a b : Value) : IV ((w.alloc o).alloc (.cells #[a, b] 61)) (w.heap.size + 1) a b := by
  have h := IV.new (w.alloc o) a b
  rw [World.size_alloc] at h
  exact h
theorem SlU.alloc1 {w : World} {v : Value} {xs : List Int} {o : Obj} (h : SlU w v xs) : SlU (w.alloc o) v xs := h.below ((Below.refl _ _).alloc (Nat.le_refl _) _)
theorem cell_a1 {w : World} {o : Obj} {p : Addr} {v : Value} (h : w.cell? p = some v) : (w.alloc o).cell? p = some v := below_cell ((Below.refl _ w).alloc (Nat.le_refl _) o) h


theorem ptr_ne {a b : Nat} (h : a ≠ b) : Value.pointer (some ⟨a, 0, none⟩) ≠ Value.pointer (some ⟨b, 0, none⟩) := fun e => h (by injection e with e; injection e with e; injection e)

theorem sgnI_bound (z : Int) : -9223372036854775808 ≤ sgnI z ∧ sgnI z ≤ 9223372036854775807 := by unfold sgnI; (repeat' split) <;> omega
theorem IntB.sign_false {w : World} {s : Value} {N : Nat} {n : Bool} {R : Int} (h : IntB w (.agg #[.bool false, s]) (sgn n R) N) (h0 : 0 ≤ R) : n = false ∨ R = 0 := by
  obtain ⟨neg, t, xs, e, _, hx, _, _, hz⟩ := h
  injection e with e; injection e with e; injection e with e1 e2; injection e1 with e1
  subst e1
  have := val_nonneg hx.1
  cases n
  · exact .inl rfl
  · right; simp [sgn] at hz; omega
theorem IntB.sign_true {w : World} {s : Value} {N : Nat} {n : Bool} {R : Int} (h : IntB w (.agg #[.bool true, s]) (sgn n R) N) (h0 : 0 ≤ R) : n = true ∧ R ≠ 0 := by
  obtain ⟨neg, t, xs, e, _, hx, _, hne, hz⟩ := h
  injection e with e; injection e with e; injection e with e1 e2; injection e1 with e1
  subst e1
  have := val_pos hx (hne rfl)
  cases n
  · simp [sgn] at hz; omega
  · refine ⟨rfl, ?_⟩; simp [sgn] at hz; omega
theorem iv_fard {w : World} {g : Nat} {p : Addr} {v : Value} (x y : Value) (hp : p.block ≠ g) (h : w.cell? p = some v) : ((w.setCell ⟨g, 0, none⟩ x).setCell ⟨g, 1, none⟩ y).drew.cell? p = some v := iv_far x y hp h
theorem size4 {w w1 wc : World} (_ : Below w.heap.size w wc) (h : w.heap.size + 4 ≤ w1.heap.size) (hb : Below w1.heap.size w1 wc) : w.heap.size + 4 ≤ wc.heap.size := Nat.le_trans h hb.size
theorem results_cells_tmp2 {fn : Func} {p q u : Tmp} {ty ty' : TypeId} (h : fn.results = #[.cell p ty, .cell q ty', .tmp u]) (tmps : Array Value) (P : Program) (w : World) :
    (results fn tmps).run P w =
      ((asAddr (tmps.getD p undef)).run P w).andThen fun a w₁ => ((loadVar ty a).run P w₁).andThen fun v w₂ => ((asAddr (tmps.getD q undef)).run P w₂).andThen fun a' w₃ => ((loadVar ty' a').run P w₃).andThen fun v' w₄ => .ok (.tuple #[v, v', tmps.getD u undef]) w₄ := by
  simp only [results, h]
  simp [Sem.run_bind, Result.andThen]

theorem res_int2_tmp {fn : Func} {p q u : Tmp} (h : fn.results = #[.cell p 61, .cell q 61, .tmp u]) {tmps : Array Value} {w : World} {g g' : Nat} {a b a' b' : Value} (hp : tmps.getD p undef = .pointer (some ⟨g, 0, none⟩)) (hq : tmps.getD q undef = .pointer (some ⟨g', 0, none⟩)) (hv : IV w g a b) (hv' : IV w g' a' b') :
    (results fn tmps).run Try.prog w = .ok (.tuple #[.agg #[a, b], .agg #[a', b'], tmps.getD u undef]) w := by
  have h0 := hv.c0
  have h1 := hv.c1
  have h2 := hv'.c0
  have h3 := hv'.c1
  rw [results_cells_tmp2 h, hp, hq]
  simp [go_sem, h0, h1, h2, h3]

theorem bp_int2_tmp {fn : Func} {p q u : Tmp} (h : fn.results = #[.cell p 61, .cell q 61, .tmp u]) {R : Ending → World → Prop} {a : Act} {w0 w1 : World} {g g' B k c k' c' N N' : Nat} {x y x' y' r : Value} {pb pb' : Bool} {s s' : Option Addr} {z z' : Int}
    (hd : a.defers = []) (hp : a.tmps.getD p undef = .pointer (some ⟨g, 0, none⟩)) (hq : a.tmps.getD q undef = .pointer (some ⟨g', 0, none⟩)) (hr : a.tmps.getD u undef = r) (hv : IV w1 g (.bool pb) (.slice s k c)) (hv' : IV w1 g' (.bool pb') (.slice s' k' c')) (hI : IntB w1 (.agg #[x, y]) z N) (hI' : IntB w1 (.agg #[x', y']) z' N') (hb : Below B w0 w1) (hB : B ≤ g) (hB' : B ≤ g') (hne : g ≠ g')
    (hR : ∀ v v' W, IntB W v z N → IntB W v' z' N' → Below B w0 W → R (.returned (.tuple #[v, v', r])) W) : bodyPost Try.prog fn R .ret a ((((w1.setCell ⟨g, 0, none⟩ x).setCell ⟨g, 1, none⟩ y).setCell ⟨g', 0, none⟩ x').setCell ⟨g', 1, none⟩ y') := by
  have e1 := (hv.put x y).far hne x' y'
  have e2 := (hv'.far (Ne.symm hne) x y).put x' y'
  refine bodyPost_ret (res_int2_tmp h hp hq e1 e2) hd ?_
  rw [hr]
  have f1 : IntB ((w1.setCell ⟨g, 0, none⟩ x).setCell ⟨g, 1, none⟩ y) (.agg #[x, y]) z N := hI.iv hv x y
  have f2 : IntB ((w1.setCell ⟨g, 0, none⟩ x).setCell ⟨g, 1, none⟩ y) (.agg #[x', y']) z' N' := hI'.iv hv x y
  have v2 := hv'.far (Ne.symm hne) x y
  exact hR _ _ _ (f1.iv v2 x' y') (f2.iv v2 x' y') ((((hb.setCell (p := ⟨g, 0, none⟩) hB x).setCell (p := ⟨g, 1, none⟩) hB y).setCell (p := ⟨g', 0, none⟩) hB' x').setCell (p := ⟨g', 1, none⟩) hB' y')

set_option maxHeartbeats 16000000 in
set_option maxRecDepth 100000 in
theorem divMod_int_calls {w : World} {u v : Value} {a b : Int} {M N : Nat} (hu : IntB w u a M) (hv : IntB w v b N) (hM : M ≤ 549755810000) (hN : N ≤ 549755810000) (hb : b ≠ 0) :
    Calls Try.prog 97 #[u, v] w fun e w' => (∃ q r, e = .returned (.tuple #[q, r, .int .i64 0]) ∧ IntB w' q (a / b) (max M N + 6) ∧ IntB w' r (a % b) (max M N + 6)) ∧ Below w.heap.size w w' := by
  have hv0 := hv
  obtain ⟨n, s, xs, rfl, ⟨A, c, rfl, hc, hr⟩, hx, hxl, _, rfl⟩ := hu
  obtain ⟨m, t, ys, rfl, ⟨B, d, rfl, hd, hq⟩, hy, hyl, _, rfl⟩ := hv
  have hpos : 0 < val ys := by
    refine val_pos hy ?_
    rintro rfl
    apply hb; cases m <;> simp [sgn, val]
  obtain ⟨v1, v2, v3, v4, hb0⟩ := four_new w (.bool n) (.slice A xs.length c) (.bool m) (.slice B ys.length d)
  have HD := hide (divMod_limbs ⟨A, c, rfl, hc, hr.below hb0⟩ ⟨B, d, rfl, hd, hq.below hb0⟩ hx.1 hy.1 (by omega) (by omega) hpos)
  go_enter Try.func97, Try.ntmps97
  go_wp2_with fail
  refine HD.out.mono ?_
  clear HD
  rintro e w1 ⟨x1, x2, qs, rs, rfl, h1, h2, hq1, hr1, hval, hR0, hR1, hql, hrl, hb1⟩
  have HV := hide hval
  clear hval
  have k10 := below_cell hb1 v1.c0
  have k20 := below_cell hb1 v2.c0
  have v1a := v1.below hb1 v1.lt
  have v2a := v2.below hb1 v2.lt
  have v3a := v3.below hb1 v3.lt
  have v4a := v4.below hb1 v4.lt
  have hb01 : Below w.heap.size w w1.drew := (below_then hb0 hb0.size hb1).drew
  have Hsz : w.heap.size + 4 ≤ w1.heap.size := by have := v4a.lt; omega
  have hs1 : SlU w1.drew x1 (trimL qs) := h1
  have hs2 : SlU w1.drew x2 (trimL rs) := h2
  have hyb := hv0.below hb01
  clear h1 h2 hv0
  go_upto_region 4 with fail
  go_cut [10, 11] (fun s10 s11 wx => ∃ g1 g2 n1 A1 k1 c1 n2 A2 k2 c2, s10 = .pointer (some ⟨g1, 0, none⟩) ∧ s11 = .pointer (some ⟨g2, 0, none⟩) ∧ w.heap.size + 4 ≤ g1 ∧ w.heap.size + 4 ≤ g2 ∧ g1 ≠ g2 ∧ IV wx g1 (.bool n1) (.slice A1 k1 c1) ∧ IV wx g2 (.bool n2) (.slice A2 k2 c2) ∧
    IntB wx (.agg #[.bool n1, .slice A1 k1 c1]) (sgn (n != m) (val qs)) (max M N + 5) ∧ IntB wx (.agg #[.bool n2, .slice A2 k2 c2]) (sgn n (val rs)) (max M N + 5) ∧ Below w1.heap.size w1 wx)
  case first =>
    have hql5 : (trimL qs).length ≤ max M N + 5 := by omega
    have hrl5 : (trimL rs).length ≤ max M N + 5 := by omega
    refine region_inv (by kernel_rfl) (by kernel_rfl) (fun L a' w' => ∃ u10 u11 u12 u13 u14 u15 u16 u17 u18 u19 u20 u21 u22 u23 u24 u25 u26 u27 u28 u29 u30 u31 u32 u33 u34 u35 u36 u37 u38 u39 u40 u41 u42 u43 u44 u45 u46 u47 u48 : Value, a' = { tmps := #[.agg #[.bool n, .slice A xs.length c], .agg #[.bool m, .slice B ys.length d], .pointer (some ⟨w.heap.size, 0, none⟩), .pointer (some ⟨w.heap.size + 1, 0, none⟩), .pointer (some ⟨w.heap.size + 1 + 1, 0, none⟩), .pointer (some ⟨w.heap.size + 1 + 1 + 1, 0, none⟩), .int .i64 0, x1, x2, .int .i64 0, u10, u11, u12, u13, u14, u15, u16, u17, u18, u19, u20, u21, u22, u23, u24, u25, u26, u27, u28, u29, u30, u31, u32, u33, u34, u35, u36, u37, u38, u39, u40, u41, u42, u43, u44, u45, u46, u47, u48], defers := [] } ∧
      (L 0 = true → u25 = .pointer (some ⟨w.heap.size, 0, none⟩)) ∧ (L 1 = true → u26 = .bool n) ∧ (L 2 = true → u27 = .pointer (some ⟨w.heap.size + 1, 0, none⟩)) ∧ (L 3 = true → u28 = .bool m) ∧
      (L 4 = true → u29 = .bool (!(n == m))) ∧ (L 5 = true → u30 = x1) ∧ (L 7 = true → u32 = .pointer (some ⟨w.heap.size, 0, none⟩)) ∧ (L 8 = true → u33 = .bool n) ∧ (L 9 = true → u34 = x2) ∧
      Below w1.heap.size w1 w' ∧ (L 6 = true → IntB w' u31 (sgn (n != m) (val qs)) (max M N + 5)) ∧ (L 10 = true → IntB w' u35 (sgn n (val rs)) (max M N + 5)) ∧
      (L 11 = true → ∃ g pb s k c, u10 = .pointer (some ⟨g, 0, none⟩) ∧ w1.heap.size ≤ g ∧ IV w' g (.bool pb) (.slice s k c) ∧ (L 13 = true → u31 = .agg #[.bool pb, .slice s k c])) ∧
      (L 12 = true → ∃ g pb s k c, u11 = .pointer (some ⟨g, 0, none⟩) ∧ w1.heap.size ≤ g ∧ IV w' g (.bool pb) (.slice s k c) ∧ (L 14 = true → u35 = .agg #[.bool pb, .slice s k c])) ∧
      (L 11 = true → L 12 = true → u10 ≠ u11) ∧ (L 13 = true → L 11 = true) ∧ (L 14 = true → L 12 = true) ∧ (L 13 = true → L 6 = true) ∧ (L 14 = true → L 10 = true)) ?_ ?_ ?_
    · (repeat apply Exists.intro)
      refine ⟨rfl, ?_⟩
      (repeat' apply And.intro) <;> first | exact (Below.refl _ _).drew | (intro h; cases h)
    · intro i hi L a' w' o ho hL hdep hI K hK
      obtain ⟨u10, u11, u12, u13, u14, u15, u16, u17, u18, u19, u20, u21, u22, u23, u24, u25, u26, u27, u28, u29, u30, u31, u32, u33, u34, u35, u36, u37, u38, u39, u40, u41, u42, u43, u44, u45, u46, u47, u48, rfl, f0, f1, f2, f3, f4, f5, f7, f8, f9, fb, f6, f10, f11, f12, fn, fc, fe, fg, fh⟩ := hI
      have k1 := below_cell fb k10
      have k2 := below_cell fb k20
      rcases i with _ | _ | _ | _ | _ | _ | _ | _ | _ | _ | _ | _ | _ | _ | _ | i
      · simp only [List.getElem?_toArray, List.getElem?_cons_succ, List.getElem?_cons_zero, Option.some.injEq] at ho
        subst ho
        go_simp
        refine hK.out _ _ ?_
        (repeat apply Exists.intro)
        exact ⟨rfl, fun _ => rfl, f1, f2, f3, f4, f5, f7, f8, f9, fb, f6, f10, f11, f12, fn, fc, fe, fg, fh⟩
      · simp only [List.getElem?_toArray, List.getElem?_cons_succ, List.getElem?_cons_zero, Option.some.injEq] at ho
        subst ho
        have d0 : L 0 = true := hdep ⟨0, .data⟩ (by simp) rfl
        obtain rfl := f0 d0
        go_simp
        refine hK.out _ _ ?_
        (repeat apply Exists.intro)
        exact ⟨rfl, f0, fun _ => rfl, f2, f3, f4, f5, f7, f8, f9, fb, f6, f10, f11, f12, fn, fc, fe, fg, fh⟩
      · simp only [List.getElem?_toArray, List.getElem?_cons_succ, List.getElem?_cons_zero, Option.some.injEq] at ho
        subst ho
        go_simp
        refine hK.out _ _ ?_
        (repeat apply Exists.intro)
        exact ⟨rfl, f0, f1, fun _ => rfl, f3, f4, f5, f7, f8, f9, fb, f6, f10, f11, f12, fn, fc, fe, fg, fh⟩
      · simp only [List.getElem?_toArray, List.getElem?_cons_succ, List.getElem?_cons_zero, Option.some.injEq] at ho
        subst ho
        have d2 : L 2 = true := hdep ⟨2, .data⟩ (by simp) rfl
        obtain rfl := f2 d2
        go_simp
        refine hK.out _ _ ?_
        (repeat apply Exists.intro)
        exact ⟨rfl, f0, f1, f2, fun _ => rfl, f4, f5, f7, f8, f9, fb, f6, f10, f11, f12, fn, fc, fe, fg, fh⟩
      · simp only [List.getElem?_toArray, List.getElem?_cons_succ, List.getElem?_cons_zero, Option.some.injEq] at ho
        subst ho
        have d1 : L 1 = true := hdep ⟨1, .data⟩ (by simp) rfl
        have d3 : L 3 = true := hdep ⟨3, .data⟩ (by simp) rfl
        obtain rfl := f1 d1
        obtain rfl := f3 d3
        go_simp
        refine hK.out _ _ ?_
        (repeat apply Exists.intro)
        exact ⟨rfl, f0, f1, f2, f3, fun _ => rfl, f5, f7, f8, f9, fb, f6, f10, f11, f12, fn, fc, fe, fg, fh⟩
      · simp only [List.getElem?_toArray, List.getElem?_cons_succ, List.getElem?_cons_zero, Option.some.injEq] at ho
        subst ho
        go_simp
        refine hK.out _ _ ?_
        (repeat apply Exists.intro)
        exact ⟨rfl, f0, f1, f2, f3, f4, fun _ => rfl, f7, f8, f9, fb, f6, f10, f11, f12, fn, fc, fe, fg, fh⟩
      · simp only [List.getElem?_toArray, List.getElem?_cons_succ, List.getElem?_cons_zero, Option.some.injEq] at ho
        subst ho
        have d4 : L 4 = true := hdep ⟨4, .data⟩ (by simp) rfl
        have d5 : L 5 = true := hdep ⟨5, .data⟩ (by simp) rfl
        obtain rfl := f4 d4
        obtain rfl := f5 d5
        go_simp
        refine (made_calls (N := max M N + 5) (!(n == m)) (SlU.below (w := w1) hs1 fb) (trimL_nrm hq1) hql5).mono ?_
        rintro e w2 ⟨⟨y1, rfl, h1⟩, hb2⟩
        rw [trimL_val] at h1
        refine hK.out _ _ ?_
        (repeat apply Exists.intro)
        exact ⟨rfl, f0, f1, f2, f3, f4, f5, f7, f8, f9, (below_to fb hb2), (fun _ => h1), (fun h => (f10 h).below hb2), (fun h => by obtain ⟨g, pb, s, k, c, e1, e2, e3, e4⟩ := f11 h; exact ⟨g, pb, s, k, c, e1, e2, e3.keep hb2, fun h13 => absurd (fg h13) (by rw [hL]; decide)⟩), (fun h => by obtain ⟨g, pb, s, k, c, e1, e2, e3, e4⟩ := f12 h; exact ⟨g, pb, s, k, c, e1, e2, e3.keep hb2, e4⟩), fn, fc, fe, fun _ => rfl, fh⟩
      · simp only [List.getElem?_toArray, List.getElem?_cons_succ, List.getElem?_cons_zero, Option.some.injEq] at ho
        subst ho
        go_simp
        refine hK.out _ _ ?_
        (repeat apply Exists.intro)
        exact ⟨rfl, f0, f1, f2, f3, f4, f5, fun _ => rfl, f8, f9, fb, f6, f10, f11, f12, fn, fc, fe, fg, fh⟩
      · simp only [List.getElem?_toArray, List.getElem?_cons_succ, List.getElem?_cons_zero, Option.some.injEq] at ho
        subst ho
        have d7 : L 7 = true := hdep ⟨7, .data⟩ (by simp) rfl
        obtain rfl := f7 d7
        go_simp
        refine hK.out _ _ ?_
        (repeat apply Exists.intro)
        exact ⟨rfl, f0, f1, f2, f3, f4, f5, f7, fun _ => rfl, f9, fb, f6, f10, f11, f12, fn, fc, fe, fg, fh⟩
      · simp only [List.getElem?_toArray, List.getElem?_cons_succ, List.getElem?_cons_zero, Option.some.injEq] at ho
        subst ho
        go_simp
        refine hK.out _ _ ?_
        (repeat apply Exists.intro)
        exact ⟨rfl, f0, f1, f2, f3, f4, f5, f7, f8, fun _ => rfl, fb, f6, f10, f11, f12, fn, fc, fe, fg, fh⟩
      · simp only [List.getElem?_toArray, List.getElem?_cons_succ, List.getElem?_cons_zero, Option.some.injEq] at ho
        subst ho
        have d8 : L 8 = true := hdep ⟨8, .data⟩ (by simp) rfl
        have d9 : L 9 = true := hdep ⟨9, .data⟩ (by simp) rfl
        obtain rfl := f8 d8
        obtain rfl := f9 d9
        go_simp
        refine (made_calls (N := max M N + 5) n (SlU.below (w := w1) hs2 fb) (trimL_nrm hr1) hrl5).mono ?_
        rintro e w2 ⟨⟨y1, rfl, h1⟩, hb2⟩
        rw [trimL_val] at h1
        refine hK.out _ _ ?_
        (repeat apply Exists.intro)
        exact ⟨rfl, f0, f1, f2, f3, f4, f5, f7, f8, f9, (below_to fb hb2), (fun h => (f6 h).below hb2), (fun _ => h1), (fun h => by obtain ⟨g, pb, s, k, c, e1, e2, e3, e4⟩ := f11 h; exact ⟨g, pb, s, k, c, e1, e2, e3.keep hb2, fun h13 => e4 h13⟩), (fun h => by obtain ⟨g, pb, s, k, c, e1, e2, e3, e4⟩ := f12 h; exact ⟨g, pb, s, k, c, e1, e2, e3.keep hb2, fun h14 => absurd (fh h14) (by rw [hL]; decide)⟩), fn, fc, fe, fg, fun _ => rfl⟩
      · simp only [List.getElem?_toArray, List.getElem?_cons_succ, List.getElem?_cons_zero, Option.some.injEq] at ho
        subst ho
        go_simp
        refine hK.out _ _ ?_
        (repeat apply Exists.intro)
        exact ⟨rfl, f0, f1, f2, f3, f4, f5, f7, f8, f9, (ba1 fb), (fun h => (f6 h).alloc1), (fun h => (f10 h).alloc1), (fun _ => ⟨w'.heap.size, false, none, 0, 0, rfl, fb.size, IV.new w' (.bool false) (.slice none 0 0), fun h13 => absurd (fc h13) (by rw [hL]; decide)⟩), (fun h => by obtain ⟨g, pb, s, k, c, e1, e2, e3, e4⟩ := f12 h; exact ⟨g, pb, s, k, c, e1, e2, e3.alloc _, e4⟩), (fun _ h => by obtain ⟨g, pb, s, k, c, rfl, e2, e3, e4⟩ := f12 h; exact ptr_ne (Nat.ne_of_gt e3.lt)), (fun _ => rfl), fe, fg, fh⟩
      · simp only [List.getElem?_toArray, List.getElem?_cons_succ, List.getElem?_cons_zero, Option.some.injEq] at ho
        subst ho
        go_simp
        refine hK.out _ _ ?_
        (repeat apply Exists.intro)
        exact ⟨rfl, f0, f1, f2, f3, f4, f5, f7, f8, f9, (ba1 fb), (fun h => (f6 h).alloc1), (fun h => (f10 h).alloc1), (fun h => by obtain ⟨g, pb, s, k, c, e1, e2, e3, e4⟩ := f11 h; exact ⟨g, pb, s, k, c, e1, e2, e3.alloc _, e4⟩), (fun _ => ⟨w'.heap.size, false, none, 0, 0, rfl, fb.size, IV.new w' (.bool false) (.slice none 0 0), fun h14 => absurd (fe h14) (by rw [hL]; decide)⟩), (fun h _ => by obtain ⟨g, pb, s, k, c, rfl, e2, e3, e4⟩ := f11 h; exact ptr_ne (Nat.ne_of_lt e3.lt)), fc, (fun _ => rfl), fg, fh⟩
      · simp only [List.getElem?_toArray, List.getElem?_cons_succ, List.getElem?_cons_zero, Option.some.injEq] at ho
        subst ho
        have d11 : L 11 = true := hdep ⟨11, .data⟩ (by simp) rfl
        have d6 : L 6 = true := hdep ⟨6, .data⟩ (by simp) rfl
        have d10 : L 10 = true := hdep ⟨10, .chain⟩ (by simp) rfl
        have d12 : L 12 = true := hdep ⟨12, .phase⟩ (by simp) rfl
        have gA := f6 d6
        have gB := f10 d10
        obtain ⟨ga, pa, sa, ka, ca, rfl, ea2, ea3, ea4⟩ := f11 d11
        obtain ⟨gb, pb, sb, kb, cb, rfl, eb2, eb3, eb4⟩ := f12 d12
        have hne : ga ≠ gb := fun e => fn d11 d12 (by rw [e])
        have hI6 := gA
        obtain ⟨na, sA, xsA, rfl, ⟨AA, cA, rfl, hcA, hrA⟩, hreA⟩ := gA
        have q0 := ea3.c0
        have q1 := ea3.c1
        have q2 := ea3.f 0
        have q3 := ea3.f 1
        go_simp
        refine hK.out _ _ ?_
        (repeat apply Exists.intro)
        exact ⟨rfl, f0, f1, f2, f3, f4, f5, f7, f8, f9, ((fb.setCell (p := ⟨ga, 0, none⟩) ea2 _).setCell (p := ⟨ga, 1, none⟩) ea2 _), (fun _ => hI6.iv ea3 _ _), (fun _ => gB.iv ea3 _ _), (fun _ => ⟨ga, na, AA, xsA.length, cA, rfl, ea2, ea3.put _ _, fun _ => rfl⟩), (fun _ => ⟨gb, pb, sb, kb, cb, rfl, eb2, eb3.far (Ne.symm hne) _ _, eb4⟩), fn, (fun _ => d11), fe, fun _ => d6, fh⟩
      · simp only [List.getElem?_toArray, List.getElem?_cons_succ, List.getElem?_cons_zero, Option.some.injEq] at ho
        subst ho
        have d12 : L 12 = true := hdep ⟨12, .data⟩ (by simp) rfl
        have d10 : L 10 = true := hdep ⟨10, .data⟩ (by simp) rfl
        have d13 : L 13 = true := hdep ⟨13, .chain⟩ (by simp) rfl
        have d11 : L 11 = true := fc d13
        have d6 : L 6 = true := fg d13
        have gA := f6 d6
        have gB := f10 d10
        obtain ⟨ga, pa, sa, ka, ca, rfl, ea2, ea3, ea4⟩ := f11 d11
        obtain ⟨gb, pb, sb, kb, cb, rfl, eb2, eb3, eb4⟩ := f12 d12
        have hne : ga ≠ gb := fun e => fn d11 d12 (by rw [e])
        obtain rfl := ea4 d13
        have hI10 := gB
        obtain ⟨nb, sB, xsB, rfl, ⟨BB, cB, rfl, hcB, hrB⟩, hreB⟩ := gB
        have q0 := eb3.c0
        have q1 := eb3.c1
        have q2 := eb3.f 0
        have q3 := eb3.f 1
        go_simp
        refine hK.out _ _ ?_
        (repeat apply Exists.intro)
        exact ⟨rfl, f0, f1, f2, f3, f4, f5, f7, f8, f9, ((fb.setCell (p := ⟨gb, 0, none⟩) eb2 _).setCell (p := ⟨gb, 1, none⟩) eb2 _), (fun _ => gA.iv eb3 _ _), (fun _ => hI10.iv eb3 _ _), (fun _ => ⟨ga, pa, sa, ka, ca, rfl, ea2, ea3.far hne _ _, fun _ => rfl⟩), (fun _ => ⟨gb, nb, BB, xsB.length, cB, rfl, eb2, eb3.put _ _, fun _ => rfl⟩), fn, fc, (fun _ => d12), fg, fun _ => d10⟩
      · exact absurd hi (by simp)
    · intro L a' w' hall hI
      obtain ⟨u10, u11, u12, u13, u14, u15, u16, u17, u18, u19, u20, u21, u22, u23, u24, u25, u26, u27, u28, u29, u30, u31, u32, u33, u34, u35, u36, u37, u38, u39, u40, u41, u42, u43, u44, u45, u46, u47, u48, rfl, f0, f1, f2, f3, f4, f5, f7, f8, f9, fb, f6, f10, f11, f12, fn, fc, fe, fg, fh⟩ := hI
      obtain ⟨ga, pa, sa, ka, ca, rfl, ea2, ea3, ea4⟩ := f11 (hall _)
      obtain ⟨gb, pb, sb, kb, cb, rfl, eb2, eb3, eb4⟩ := f12 (hall _)
      have hne : ga ≠ gb := fun e => fn (hall _) (hall _) (by rw [e])
      have gA := f6 (hall _)
      have gB := f10 (hall _)
      obtain rfl := ea4 (hall _)
      obtain rfl := eb4 (hall _)
      go_wp2_with fail
      go_meet
      case rel => exact ⟨ga, gb, pa, sa, ka, ca, pb, sb, kb, cb, rfl, rfl, by omega, by omega, hne, ea3, eb3, gA, gB, fb⟩
  case rest =>
  obtain ⟨g1, g2, n1, A1, k1, c1, n2, A2, k2, c2, rfl, rfl, hg1, hg2, hne, i1, i2, I1, I2, hbx⟩ := hcut
  have hb0x := below_then (below_then hb0 hb0.size hb1) (Nat.le_trans hb0.size hb1.size) hbx
  have v1c := v1a.below hbx v1a.lt
  have v2c := v2a.below hbx v2a.lt
  have v3c := v3a.below hbx v3a.lt
  have v4c := v4a.below hbx v4a.lt
  have hybx := hyb.below (w := w1) hbx
  have i10 := i1.c0
  have i11 := i1.c1
  have i20 := i2.c0
  have i21 := i2.c1
  have if20 := i2.f 0
  have if21 := i2.f 1
  have if10 := i1.f 0
  have if11 := i1.f 1
  have x20 := v2c.c0
  have x21 := v2c.c1
  clear v1 v2 v3 v4 hb0 v1a v2a v3a v4a hb1 k10 k20
  go_upto_if 37 with fail
  go_cut [] (fun wy => ∃ n1 A1 k1 c1 n2 A2 k2 c2, IV wy g1 (.bool n1) (.slice A1 k1 c1) ∧ IV wy g2 (.bool n2) (.slice A2 k2 c2) ∧
    IntB wy (.agg #[.bool n1, .slice A1 k1 c1]) (sgn n (val xs) / sgn m (val ys)) (max M N + 6) ∧ IntB wy (.agg #[.bool n2, .slice A2 k2 c2]) (sgn n (val xs) % sgn m (val ys)) (max M N + 6) ∧ Below w.heap.size w wy ∧ w.heap.size + 4 ≤ wy.heap.size ∧ IV wy (w.heap.size + 1 + 1) (.bool false) (.slice none 0 0) ∧ IV wy (w.heap.size + 1 + 1 + 1) (.bool false) (.slice none 0 0))
  case first =>
    have DS := div_signs n m HV.out hR0 hR1
    have sB := sgnI_bound (sgn m (val ys))
    cases n2
    · have hc := DS.1 (IntB.sign_false I2 hR0)
      have J1 := hide (hc.1 ▸ I1.mono (show max M N + 5 ≤ max M N + 6 by omega))
      have J2 := hide (hc.2 ▸ I2.mono (show max M N + 5 ≤ max M N + 6 by omega))
      clear hc DS
      go_wp2_with fail
      go_meet
      case rel => exact ⟨_, _, _, _, _, _, _, _, i1, i2, J1.out, J2.out, hb0x, size4 hb0x Hsz hbx, v3c, v4c⟩
    · have hc := hide (DS.2 (IntB.sign_true I2 hR0))
      clear DS
      have Hsx := size4 hb0x Hsz hbx
      go_wp2_with fail
      have HA := hide (abs_calls (w := wc.drew) hybx)
      have I2d : IntB wc.drew _ _ _ := I2
      have i2d : IV wc.drew g2 _ _ := i2
      have i1d : IV wc.drew g1 _ _ := i1
      have bx : Below wc.heap.size wc wc.drew := (Below.refl _ _).drew
      go_upto_region 7 with fail
      go_cut [] (fun wy => ∃ n2 A2 k2 c2, IV wy g2 (.bool n2) (.slice A2 k2 c2) ∧ IntB wy (.agg #[.bool n2, .slice A2 k2 c2]) (sgn n (val xs) % sgn m (val ys)) (max M N + 6) ∧ IV wy g1 (.bool n1) (.slice A1 k1 c1) ∧ IntB wy (.agg #[.bool n1, .slice A1 k1 c1]) (sgn (n != m) (val qs)) (max M N + 5) ∧ Below w.heap.size w wy ∧ w.heap.size + 4 ≤ wy.heap.size ∧ IntB wy (.agg #[.bool m, .slice B ys.length d]) (sgn m (val ys)) N ∧ IV wy (w.heap.size + 1) (.bool m) (.slice B ys.length d) ∧ IV wy (w.heap.size + 1 + 1) (.bool false) (.slice none 0 0) ∧ IV wy (w.heap.size + 1 + 1 + 1) (.bool false) (.slice none 0 0))
      case first =>
        go_region_law (first
            | (go_simp
               go_at_call 138
               refine HA.out.mono ?_
               rintro e w2 ⟨⟨y1, rfl, h1⟩, hb2⟩
               have m20 := below_cell hb2 x20
               have m21 := below_cell hb2 x21
               have i2a := i2d.keep hb2
               have i2a0 := i2a.c0
               have i2a1 := i2a.c1)
            | (go_simp
               go_at_call 93
               refine (add_int_calls (I2d.below hb2) h1 (by omega) (by omega)).mono ?_
               rintro e w3 ⟨⟨y2, rfl, h2⟩, hb3⟩
               have p20 := below_cell hb3 m20
               have p21 := below_cell hb3 m21
               have i2b := i2a.keep hb3
               have i2b0 := i2b.f 0
               have i2b1 := i2b.f 1
               have i2b2 := i2b.c0
               have i2b3 := i2b.c1
               have qf : w.heap.size + 1 ≠ g2 := by omega
               have h2a := h2
               obtain ⟨n2, s2, us2, rfl, ⟨A2', c2', rfl, hc2, hr2⟩, hre2⟩ := h2))
        all_goals go_wp2_with fail
        all_goals go_meet
        all_goals
          have hg2' : w.heap.size ≤ g2 := by omega
          have hb23 := below_to (below_to bx hb2) hb3
          have I1b := (IntB.below (w := wc) I1 hb23)
          have hm := h2a.mono (show max (max M N + 5) N + 1 ≤ max M N + 6 by omega)
          rw [hc.out.2] at hm
          exact ⟨_, _, _, _, i2b.put _ _, hm.iv i2b _ _, (i1.below hb23 i1.lt).far hne _ _, I1b.iv i2b _ _, ((below_to hb0x hb23).setCell (p := ⟨g2, 0, none⟩) hg2' _).setCell (p := ⟨g2, 1, none⟩) hg2' _,
            (by rw [World.size_setCell, World.size_setCell]; exact Nat.le_trans Hsx hb23.size), (IntB.below (w := wc) hybx hb23).iv i2b _ _, (v2c.below hb23 v2c.lt).far (by omega) _ _, (v3c.below hb23 v3c.lt).far (by omega) _ _, (v4c.below hb23 v4c.lt).far (by omega) _ _⟩
      case rest =>
        obtain ⟨n3, A3, k3, c3, i3, I3, i4, I4, hby, hsy, hyy0, v2y, v3y, v4y⟩ := hcut
        clear i1 i2 I1 I2 i2d i1d I2d HA bx i10 i11 i20 i21 if20 if21 if10 if11 x20 x21
        have x20 := v2y.c0
        have x21 := v2y.c1
        have i4d : IV wc.drew g1 _ _ := i4
        have i40 := i4d.c0
        have i41 := i4d.c1
        have I4d : IntB wc.drew _ _ _ := I4
        have bx : Below wc.heap.size wc wc.drew := (Below.refl _ _).drew
        have hyy : IntB wc.drew (.agg #[.bool m, .slice B ys.length d]) (sgn m (val ys)) N := hyy0
        have HS := hide (sign_calls (w := wc.drew) hyy)
        go_wp2_with fail
        go_region_law (first
            | (go_simp
               go_at_call 98
               refine HS.out.mono ?_
               rintro e w2 ⟨rfl, hb2⟩
               have m20 := below_cell hb2 x20
               have m21 := below_cell hb2 x21
               have i4a := i4d.keep hb2
               have i4a0 := i4a.c0
               have i4a1 := i4a.c1)
            | (go_simp
               go_at_call 51
               refine (of_calls _ sB.1 sB.2).mono ?_
               rintro e w3 ⟨⟨y1, rfl, h1⟩, hb3⟩
               have p20 := below_cell hb3 m20
               have p21 := below_cell hb3 m21
               have i4b := i4a.keep hb3
               have i4b0 := i4b.c0
               have i4b1 := i4b.c1)
            | (go_simp
               go_at_call 94
               refine (sub_int_calls ((I4d.below hb2).below hb3) h1 (by omega) (by omega)).mono ?_
               rintro e w4 ⟨⟨y2, rfl, h2⟩, hb4⟩
               have r20 := below_cell hb4 p20
               have r21 := below_cell hb4 p21
               have i4c := i4b.keep hb4
               have i4c0 := i4c.f 0
               have i4c1 := i4c.f 1
               have i4c2 := i4c.c0
               have i4c3 := i4c.c1
               have qf : w.heap.size + 1 ≠ g1 := by omega
               have h2a := h2
               obtain ⟨n2, s2, us2, rfl, ⟨A2', c2', rfl, hc2, hr2⟩, hre2⟩ := h2))
        all_goals go_wp2_with fail
        all_goals go_meet
        all_goals
          have hg1' : w.heap.size ≤ g1 := by omega
          have hb23 := below_to (below_to (below_to bx hb2) hb3) hb4
          have hm := h2a.mono (show max (max M N + 5) 2 + 1 ≤ max M N + 6 by omega)
          rw [hc.out.1] at hm
          have I3b := (IntB.below (w := wc) I3 hb23)
          exact ⟨_, _, _, _, _, _, _, _, i4c.put _ _, (i3.below hb23 i3.lt).far (Ne.symm hne) _ _, hm.iv i4c _ _, I3b.iv i4c _ _, ((below_to hby hb23).setCell (p := ⟨g1, 0, none⟩) hg1' _).setCell (p := ⟨g1, 1, none⟩) hg1' _,
            (by rw [World.size_setCell, World.size_setCell]; exact Nat.le_trans hsy hb23.size), (v3y.below hb23 v3y.lt).far (by omega) _ _, (v4y.below hb23 v4y.lt).far (by omega) _ _⟩
  case rest =>
    obtain ⟨n1', A1', k1', c1', n2', A2', k2', c2', j1, j2, J1, J2, hby, hsz, j3, j4⟩ := hcut
    have j10 := j1.c0
    have j11 := j1.c1
    have j20 := j2.c0
    have j21 := j2.c1
    have jf3 := j3.f 0
    have jf31 := j3.f 1
    have jf4 := j4.f 0
    have jf41 := j4.f 1
    have j30 := j3.c0
    have j31 := j3.c1
    have j40 := j4.c0
    have j41 := j4.c1
    have d10 : wc.drew.cell? ⟨g1, 0, none⟩ = some (.bool n1') := j10
    have d11 : wc.drew.cell? ⟨g1, 1, none⟩ = some (.slice A1' k1' c1') := j11
    have d20 : wc.drew.cell? ⟨g2, 0, none⟩ = some (.bool n2') := j20
    have d21 : wc.drew.cell? ⟨g2, 1, none⟩ = some (.slice A2' k2' c2') := j21
    have q13 : g1 ≠ w.heap.size + 1 + 1 := by omega
    have q23 : g2 ≠ w.heap.size + 1 + 1 := by omega
    have q14 : g1 ≠ w.heap.size + 1 + 1 + 1 := by omega
    have q24 : g2 ≠ w.heap.size + 1 + 1 + 1 := by omega
    go_wp2_with fail
    go_region_held3 (fun w' => w'.cell? ⟨g1, 0, none⟩ = some (.bool n1') ∧ w'.cell? ⟨g1, 1, none⟩ = some (.slice A1' k1' c1') ∧ w'.cell? ⟨g2, 0, none⟩ = some (.bool n2') ∧ w'.cell? ⟨g2, 1, none⟩ = some (.slice A2' k2' c2'))
      (first
        | with_reducible exact ⟨d10, d11, d20, d21⟩
        | with_reducible exact ⟨iv_fard _ _ q13 j10, iv_fard _ _ q13 j11, iv_fard _ _ q23 j20, iv_fard _ _ q23 j21⟩
        | with_reducible exact ⟨iv_fard _ _ q14 (iv_far _ _ q13 j10), iv_fard _ _ q14 (iv_far _ _ q13 j11), iv_fard _ _ q24 (iv_far _ _ q23 j20), iv_fard _ _ q24 (iv_far _ _ q23 j21)⟩)
      (fail)
    go_wp2
    exact bp_int2_tmp (w1 := wc.drew) rfl rfl rfl rfl rfl j3 j4 J1 J2 hby.drew (by omega) (by omega) (by omega) fun v v' W h1 h2 h3 => ⟨⟨v, v', rfl, h1, h2⟩, h3⟩
end Go.Proofs.Ytnchlckncknaiaa
/- exact.numbers$1. -/
namespace Go.Proofs.Ytnchlckncknaiaa
open Go.RowKit

theorem pair_new (w : World) (a b c d : Value) :
    let W := (w.alloc (.cells #[a, b] 61)).alloc (.cells #[c, d] 61)
    IV W w.heap.size a b ∧ IV W (w.heap.size + 1) c d ∧ Below w.heap.size w W := by
  have ha1 := IV.new w a b
  have ha2 := IV.new (w.alloc (.cells #[a, b] 61)) c d
  rw [World.size_alloc] at ha2
  exact ⟨ha1.alloc _, ha2, ((Below.refl _ _).alloc (Nat.le_refl _) _).alloc (by simp) _⟩

theorem sgnI_eq0 (z : Int) : ((sgnI z : Int) == 0) = decide (z = 0) := by unfold sgnI; by_cases h : z = 0 <;> simp [h]; split <;> decide

set_option maxHeartbeats 4000000 in
set_option maxRecDepth 100000 in
theorem over_calls {w : World} {u v : Value} {a b : Int} {M N : Nat} (hu : IntB w u a M) (hv : IntB w v b N) (hM : M ≤ 549755810000) (hN : N ≤ 549755810000) (hb : b ≠ 0) :
    Calls Try.prog 96 #[u, v] w fun e w' => (∃ q, e = .returned (.tuple #[q, .bool (decide (a % b = 0))]) ∧ IntB w' q (a / b) (max M N + 6)) ∧ Below w.heap.size w w' := by
  have hu0 := hu
  have hv0 := hv
  obtain ⟨n, s, xs, rfl, ⟨A, c, rfl, hc, hr⟩, hx, hxl, _, rfl⟩ := hu
  obtain ⟨m, t, ys, rfl, ⟨B, d, rfl, hd, hq⟩, hy, hyl, _, rfl⟩ := hv
  obtain ⟨v1, v2, v3, hb0⟩ := three_new w (.bool n) (.slice A xs.length c) (.bool m) (.slice B ys.length d)
  have HD := hide (divMod_int_calls (hu0.below hb0) (hv0.below hb0) hM hN hb)
  generalize sgn n (val xs) = a at *
  generalize sgn m (val ys) = b at *
  have hQ := sgnI_eq0 (a % b)
  generalize decide (a % b = 0) = db at *
  go_enter Try.func96, Try.ntmps96
  go_wp2_with fail
  refine HD.out.mono ?_
  clear HD
  rintro e w1 ⟨⟨q, r, rfl, h1, h2⟩, hb1⟩
  have k0 := v3.keep hb1
  have h1a := h1
  have h2a := h2
  obtain ⟨n1, s1, us1, rfl, ⟨A1, c1, rfl, hc1, hr1⟩, hre1⟩ := h1
  obtain ⟨n2, s2, us2, rfl, ⟨A2, c2, rfl, hc2, hr2⟩, hre2⟩ := h2
  clear hre1 hre2
  go_wp2_with fail
  obtain ⟨x1, x2, hbx⟩ := pair_new w1 (.bool n1) (.slice A1 us1.length c1) (.bool n2) (.slice A2 us2.length c2)
  have k1 := k0.keep hbx
  have hI1 := h1a.below hbx
  have hI2 := h2a.below hbx
  have hbt := below_to (below_to hb0 hb1) hbx
  have hlt := x1.lt
  have hlt0 := k0.lt
  generalize hW : (w1.alloc (.cells #[.bool n1, .slice A1 us1.length c1] 61)).alloc (.cells #[.bool n2, .slice A2 us2.length c2] 61) = W at *
  clear hW hbx k0 hb1 v1 v2 v3 hb0
  have q10 := x1.c0
  have q11 := x1.c1
  have q20 := x2.c0
  have q21 := x2.c1
  have HS := hide (sign_calls (w := W.drew) (IntB.below (w := W) hI2 (Below.refl _ _).drew))
  go_region_held3 (fun w' => w'.cell? ⟨w1.heap.size, 0, none⟩ = some (.bool n1) ∧ w'.cell? ⟨w1.heap.size, 1, none⟩ = some (.slice A1 us1.length c1) ∧ w'.cell? ⟨w1.heap.size + 1, 0, none⟩ = some (.bool n2) ∧ w'.cell? ⟨w1.heap.size + 1, 1, none⟩ = some (.slice A2 us2.length c2))
    (first
      | exact ⟨q10, q11, q20, q21⟩
      | exact ⟨m10, m11, m20, m21⟩
      | exact ⟨iv_far _ _ qf1 m10, iv_far _ _ qf1 m11, iv_far _ _ qf2 m20, iv_far _ _ qf2 m21⟩)
    ((go_at_call 98
      refine HS.out.mono ?_
      rintro e w2 ⟨rfl, hb2⟩
      have m10 := below_cell hb2 q10
      have m11 := below_cell hb2 q11
      have m20 := below_cell hb2 q20
      have m21 := below_cell hb2 q21
      have k2 := IV.keep (w := W.drew) k1 hb2
      have k20 := k2.c0
      have k21 := k2.c1
      have k2f0 := k2.f 0
      have k2f1 := k2.f 1
      have qf1 : w1.heap.size ≠ w.heap.size + 1 + 1 := by omega
      have qf2 : w1.heap.size + 1 ≠ w.heap.size + 1 + 1 := by omega))
  go_wp2
  have hI1d : IntB W.drew _ _ _ := hI1
  exact bp_int_tmp (r := .bool db) rfl rfl rfl rfl k2 (hI1d.below hb2) (below_to hbt.drew hb2) (by omega) fun v W h1 h2 => ⟨⟨v, rfl, h1⟩, h2⟩
end Go.Proofs.Ytnchlckncknaiaa
/- exact.numbers, exact.Run$1, exact.do. -/
namespace Go.Proofs.Ytnchlckncknaiaa
open Go.RowKit

theorem run1_calls {w : World} {k x y : Value} :
    Calls Try.prog 50 #[k, .agg #[x, y]] w fun e w' => e = .returned (.bool true) ∧ Below w.heap.size w w' := by
  go_enter Try.func50, Try.ntmps50
  go_wp2
  go_ret
  exact ⟨rfl, (Below.refl _ _).alloc (Nat.le_refl _) _⟩

/-- What exact.numbers answers. -/
abbrev fnV (k : Nat) : Value := .func (.func k) #[] #[]
def waysA : Array Value := #[fnV 92, fnV 93, fnV 94, fnV 95, fnV 96]
theorem res_five {fn : Func} {p : Tmp} (h : fn.results = #[.cell p 96]) {tmps : Array Value} {w : World} {g : Nat} {a b c d e : Value} (hp : tmps.getD p undef = .pointer (some ⟨g, 0, none⟩)) (hv : Blk w g 96 #[a, b, c, d, e]) :
    (results fn tmps).run Try.prog w = .ok (.agg #[a, b, c, d, e]) w := by
  have hp' : tmps[p]?.getD undef = .pointer (some ⟨g, 0, none⟩) := by simpa using hp
  have h0 := Blk.cell hv 0
  have h1 := Blk.cell hv 1
  have h2 := Blk.cell hv 2
  have h3 := Blk.cell hv 3
  have h4 := Blk.cell hv 4
  simp at h0 h1 h2 h3 h4
  simp [results, h, hp', go_sem, h0, h1, h2, h3, h4]

theorem numbers_calls {w : World} :
    Calls Try.prog 49 #[] w fun e w' => e = .returned (.agg waysA) ∧ Below w.heap.size w w' := by
  have hv := Blk.new w 96 #[.nilFunc, .nilFunc, .nilFunc, .nilFunc, .nilFunc]
  have hb := ((Below.refl w.heap.size w).alloc (Nat.le_refl _) (.cells #[.nilFunc, .nilFunc, .nilFunc, .nilFunc, .nilFunc] 96))
  have q := hv.frozen
  have q0 := q 0
  have q1 := q 1
  have q2 := q 2
  have q3 := q 3
  have q4 := q 4
  clear q
  have c0 : _ = some Value.nilFunc := Blk.cell hv 0
  have c1 : _ = some Value.nilFunc := Blk.cell hv 1
  have c2 : _ = some Value.nilFunc := Blk.cell hv 2
  have c3 : _ = some Value.nilFunc := Blk.cell hv 3
  have c4 : _ = some Value.nilFunc := Blk.cell hv 4
  go_enter Try.func49, Try.ntmps49
  go_upto_region 1 with fail
  generalize hW : w.alloc (.cells #[.nilFunc, .nilFunc, .nilFunc, .nilFunc, .nilFunc] 96) = W at *
  clear hW
  go_wp2
  have hv1 := ((((hv.set 0 (fnV 92)).set 1 (fnV 93)).set 2 (fnV 94)).set 3 (fnV 95)).set 4 (fnV 96)
  refine bodyPost_ret (res_five (fn := Try.f49) (p := 0) rfl rfl hv1) rfl ⟨rfl, ?_⟩
  exact ((((hb.setCell (p := ⟨w.heap.size, 0, none⟩) (Nat.le_refl _) _).setCell (p := ⟨w.heap.size, 1, none⟩) (Nat.le_refl _) _).setCell (p := ⟨w.heap.size, 2, none⟩) (Nat.le_refl _) _).setCell (p := ⟨w.heap.size, 3, none⟩) (Nat.le_refl _) _).setCell (p := ⟨w.heap.size, 4, none⟩) (Nat.le_refl _) _
end Go.Proofs.Ytnchlckncknaiaa
/- Lists of numbers in memory. -/
namespace Go.Proofs.Ytnchlckncknaiaa
open Go.RowKit

/-- The numbers zs stand from A on, two cells each, none has more than N limbs. -/
def RdN (w : World) (A : Option Addr) (zs : List Int) (N : Nat) : Prop :=
  0 < zs.length → ∃ b off, A = some ⟨b, off, none⟩ ∧ ∀ j, j < zs.length → ∃ p s k c, w.cell? ⟨b, off + j * 2, none⟩ = some (.bool p) ∧ w.cell? ⟨b, off + j * 2 + 1, none⟩ = some (.slice s k c) ∧ IntB w (.agg #[.bool p, .slice s k c]) (lg zs j) N
theorem RdN.below {w w1 : World} {A : Option Addr} {zs : List Int} {N : Nat} (h : RdN w A zs N) (hb : Below w.heap.size w w1) : RdN w1 A zs N := by
  intro h0
  obtain ⟨b, off, e, hj⟩ := h h0
  refine ⟨b, off, e, fun j hjl => ?_⟩
  obtain ⟨p, s, k, c, h1, h2, h3⟩ := hj j hjl
  exact ⟨p, s, k, c, below_cell hb h1, below_cell hb h2, h3.below hb⟩
theorem RdN.mono {w : World} {A : Option Addr} {zs : List Int} {N M : Nat} (h : RdN w A zs N) (hm : N ≤ M) : RdN w A zs M := by
  intro h0
  obtain ⟨b, off, e, hj⟩ := h h0
  refine ⟨b, off, e, fun j hjl => ?_⟩
  obtain ⟨p, s, k, c, h1, h2, h3⟩ := hj j hjl
  exact ⟨p, s, k, c, h1, h2, h3.mono hm⟩
end Go.Proofs.Ytnchlckncknaiaa
