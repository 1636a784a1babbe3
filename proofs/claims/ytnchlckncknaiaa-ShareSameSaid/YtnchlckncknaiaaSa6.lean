/- swagelaw14.ShareSame: run on whatever numbers, a program and what share.Pass makes of it answer the same, or both fail. No condition. -/
import Derived.Test.YtnchlckncknaiaaSa5
import Derived.Deep.RegionHeld3
/- swageref08.Count. -/
namespace Go.Proofs.Ytnchlckncknaiaa
open Go.RowKit

def clsF (op : Int) : Nat := if op = 1 then 0 else if op ≤ 4 then 1 else if op = 5 then 2 else if op = 6 then 3 else 4
/-- How many instructions of a sort there are. -/
def cntF (l : List Ins) (j : Nat) : Int := (l.countP fun i => clsF i.op == j : Nat)
abbrev five (a b c d e : Int) : Array Value := #[.int .i64 a, .int .i64 b, .int .i64 c, .int .i64 d, .int .i64 e]
theorem cntF_bd (l : List Ins) (j : Nat) : 0 ≤ cntF l j ∧ cntF l j ≤ l.length := by
  unfold cntF
  have := List.countP_le_length (p := fun i : Ins => clsF i.op == j) (l := l)
  omega
theorem cntF_snoc (l : List Ins) (i : Ins) (j : Nat) : cntF (l ++ [i]) j = cntF l j + if clsF i.op = j then 1 else 0 := by
  unfold cntF
  rw [List.countP_append]
  by_cases h : clsF i.op = j <;> simp [h]
theorem five_put {w : World} {g j : Nat} {l : List Ins} {k : Nat} {I : Ins} {c0 c1 c2 c3 c4 c : Int} (y : Blk w g 37 (five c0 c1 c2 c3 c4)) (hk : k < l.length) (hI : l.getD k default = I)
    (h0 : cntF (l.take k) 0 = c0) (h1 : cntF (l.take k) 1 = c1) (h2 : cntF (l.take k) 2 = c2) (h3 : cntF (l.take k) 3 = c3) (h4 : cntF (l.take k) 4 = c4) (hj : clsF I.op = j) (hc : c = cntF (l.take k) j) :
    Blk (w.setCell ⟨g, j, none⟩ (.int .i64 (c + 1))) g 37 (five (cntF (l.take (k + 1)) 0) (cntF (l.take (k + 1)) 1) (cntF (l.take (k + 1)) 2) (cntF (l.take (k + 1)) 3) (cntF (l.take (k + 1)) 4)) := by
  subst h0 h1 h2 h3 h4 hc
  have hs := y.set j (.int .i64 (cntF (l.take k) j + 1))
  have hj5 : j = 0 ∨ j = 1 ∨ j = 2 ∨ j = 3 ∨ j = 4 := by
    rw [← hj]; unfold clsF; split
    · simp
    · split
      · simp
      · split
        · simp
        · split <;> simp
  rw [take_snoc' _ hk, hI]
  simp only [cntF_snoc, hj]
  rcases hj5 with rfl | rfl | rfl | rfl | rfl <;> simpa using hs
theorem res_arr5 {fn : Func} {p : Tmp} (h : fn.results = #[.cell p 37]) {tmps : Array Value} {w : World} {g : Nat} {a b c d e : Value} (hp : tmps.getD p undef = .pointer (some ⟨g, 0, none⟩)) (hv : Blk w g 37 #[a, b, c, d, e]) :
    (results fn tmps).run Try.prog w = .ok (.agg #[a, b, c, d, e]) w := by
  have hp' : tmps[p]?.getD undef = .pointer (some ⟨g, 0, none⟩) := by simpa using hp
  have h0 := Blk.cell hv 0
  have h1 := Blk.cell hv 1
  have h2 := Blk.cell hv 2
  have h3 := Blk.cell hv 3
  have h4 := Blk.cell hv 4
  simp at h0 h1 h2 h3 h4
  simp [results, h, hp', go_sem, h0, h1, h2, h3, h4]

set_option maxHeartbeats 4000000 in
theorem count_calls {w : World} {v : Value} {p : Pg} (h : PgB w v p) (hl : p.code.length ≤ 16384) : Calls Try.prog 16 #[v] w fun e w' =>
    e = .returned (.agg (five (cntF p.code 0) (cntF p.code 1) (cntF p.code 2) (cntF p.code 3) (cntF p.code 4))) ∧ Below w.heap.size w w' := by
  obtain ⟨A, c, B, d, rfl, k1, k2, hI, hZ⟩ := h
  obtain ⟨ins, regs, code, outs⟩ := p
  dsimp only at hI hZ hl ⊢
  have b0 := (Below.refl w.heap.size w).alloc (Nat.le_refl _) (.cells #[.int .i64 ins, .int .i64 regs, .slice A code.length c, .slice B outs.length d] 25)
  have x0 := Blk.new w 25 #[.int .i64 ins, .int .i64 regs, .slice A code.length c, .slice B outs.length d]
  have b1 := b0.alloc (by simp) (.cells (five 0 0 0 0 0) 37)
  have b2 := b1.alloc (by simp; omega) (.cells (five 0 0 0 0 0) 37)
  have x1 := Blk.new (w.alloc (.cells #[.int .i64 ins, .int .i64 regs, .slice A code.length c, .slice B outs.length d] 25)) 37 (five 0 0 0 0 0)
  have x2 := Blk.new ((w.alloc (.cells #[.int .i64 ins, .int .i64 regs, .slice A code.length c, .slice B outs.length d] 25)).alloc (.cells (five 0 0 0 0 0) 37)) 37 (five 0 0 0 0 0)
  have x0' := (x0.alloc (.cells (five 0 0 0 0 0) 37)).alloc (.cells (five 0 0 0 0 0) 37)
  have x1' := x1.alloc (.cells (five 0 0 0 0 0) 37)
  simp only [World.size_alloc] at x1' x2
  have hIw := hI
  clear hI hZ b0 b1 x0 x1
  unfold progV at *
  dsimp only at *
  go_enter Try.func16, Try.ntmps16
  go_wp2_with fail
  generalize hW : ((w.alloc _).alloc _).alloc _ = W at *
  clear hW
  go_loopw [4] (fun i wr => ∃ k : Nat, k ≤ code.length ∧ i = .int .i64 k ∧ Below w.heap.size w wr ∧ Blk wr w.heap.size 25 #[.int .i64 ins, .int .i64 regs, .slice A code.length c, .slice B outs.length d] ∧ Blk wr (w.heap.size + 1) 37 (five 0 0 0 0 0) ∧
    Blk wr (w.heap.size + 1 + 1) 37 (five (cntF (code.take k) 0) (cntF (code.take k) 1) (cntF (code.take k) 2) (cntF (code.take k) 3) (cntF (code.take k) 4))) (fun i _ => code.length - (intOf i).toNat)
  case atStart => exact ⟨0, by omega, rfl, b2, x0', x1', x2⟩
  case round =>
    obtain ⟨k, hk, rfl, bw, y0, y1, y2⟩ := hrel
    obtain ⟨p0, p1, p2, p3⟩ := pg4 y0
    rcases Nat.lt_or_ge k code.length with hlt | hge
    · obtain ⟨b', off, rfl, hcell⟩ := (hIw.below bw) (by omega)
      obtain ⟨e0, _⟩ := hcell k hlt
      clear hcell
      obtain ⟨I, hI⟩ := named (code.getD k default)
      rw [hI.out] at e0
      have hdec : decide (k < code.length) = true := by simpa using hlt
      obtain ⟨c0, hc0⟩ := named (cntF (code.take k) 0)
      obtain ⟨c1, hc1⟩ := named (cntF (code.take k) 1)
      obtain ⟨c2, hc2⟩ := named (cntF (code.take k) 2)
      obtain ⟨c3, hc3⟩ := named (cntF (code.take k) 3)
      obtain ⟨c4, hc4⟩ := named (cntF (code.take k) 4)
      have hl0 : (code.take k).length ≤ 16384 := by rw [List.length_take]; omega
      have d0 := cntF_bd (code.take k) 0
      have d1 := cntF_bd (code.take k) 1
      have d2 := cntF_bd (code.take k) 2
      have d3 := cntF_bd (code.take k) 3
      have d4 := cntF_bd (code.take k) 4
      rw [hc0.out] at y2 d0
      rw [hc1.out] at y2 d1
      rw [hc2.out] at y2 d2
      rw [hc3.out] at y2 d3
      rw [hc4.out] at y2 d4
      have g0 : 0 ≤ c0 ∧ c0 ≤ 16384 := by omega
      have g1 : 0 ≤ c1 ∧ c1 ≤ 16384 := by omega
      have g2 : 0 ≤ c2 ∧ c2 ≤ 16384 := by omega
      have g3 : 0 ≤ c3 ∧ c3 ≤ 16384 := by omega
      have g4 : 0 ≤ c4 ∧ c4 ≤ 16384 := by omega
      clear d0 d1 d2 d3 d4 hl0
      obtain ⟨g00, g01⟩ := g0
      obtain ⟨g10, g11⟩ := g1
      obtain ⟨g20, g21⟩ := g2
      obtain ⟨g30, g31⟩ := g3
      obtain ⟨g40, g41⟩ := g4
      have q0 : _ = some (Value.int .i64 c0) := Blk.cell y2 0
      have q1 : _ = some (Value.int .i64 c1) := Blk.cell y2 1
      have q2 : _ = some (Value.int .i64 c2) := Blk.cell y2 2
      have q3 : _ = some (Value.int .i64 c3) := Blk.cell y2 3
      have q4 : _ = some (Value.int .i64 c4) := Blk.cell y2 4
      have f0 := Blk.frozen y2 0
      have f1 := Blk.frozen y2 1
      have f2 := Blk.frozen y2 2
      have f3 := Blk.frozen y2 3
      have f4 := Blk.frozen y2 4
      obtain ⟨op, hop⟩ := named I.op
      rw [hop.out] at e0
      rcases (by omega : op = 1 ∨ ((¬ op = 1) ∧ op ≤ 4) ∨ op = 5 ∨ op = 6 ∨ (4 < op ∧ (¬ op = 1) ∧ (¬ op = 5) ∧ (¬ op = 6))) with rfl | ⟨o1, o4⟩ | rfl | rfl | ⟨o4, o1, o5, o6⟩
      · have hcl : Hid (clsF I.op = 0) := by unfold Hid; rw [hop.out]; rfl
        go_wp2
        go_roundw
        case rel => exact ⟨k + 1, by omega, by go_num, bw.setCell (by simp; omega) _, y0.far (by simp; omega) _, y1.far (by simp) _, five_put (j := 0) y2 hlt hI.out hc0.out hc1.out hc2.out hc3.out hc4.out hcl.out hc0.out.symm⟩
        case measure => simp [intOf]; omega
      · have hcl : Hid (clsF I.op = 1) := by unfold Hid; rw [hop.out]; unfold clsF; rw [if_neg o1, if_pos o4]
        go_wp2
        go_roundw
        case rel => exact ⟨k + 1, by omega, by go_num, bw.setCell (by simp; omega) _, y0.far (by simp; omega) _, y1.far (by simp) _, five_put (j := 1) y2 hlt hI.out hc0.out hc1.out hc2.out hc3.out hc4.out hcl.out hc1.out.symm⟩
        case measure => simp [intOf]; omega
      · have hcl : Hid (clsF I.op = 2) := by unfold Hid; rw [hop.out]; rfl
        go_wp2
        go_roundw
        case rel => exact ⟨k + 1, by omega, by go_num, bw.setCell (by simp; omega) _, y0.far (by simp; omega) _, y1.far (by simp) _, five_put (j := 2) y2 hlt hI.out hc0.out hc1.out hc2.out hc3.out hc4.out hcl.out hc2.out.symm⟩
        case measure => simp [intOf]; omega
      · have hcl : Hid (clsF I.op = 3) := by unfold Hid; rw [hop.out]; rfl
        go_wp2
        go_roundw
        case rel => exact ⟨k + 1, by omega, by go_num, bw.setCell (by simp; omega) _, y0.far (by simp; omega) _, y1.far (by simp) _, five_put (j := 3) y2 hlt hI.out hc0.out hc1.out hc2.out hc3.out hc4.out hcl.out hc3.out.symm⟩
        case measure => simp [intOf]; omega
      · have hcl : Hid (clsF I.op = 4) := by unfold Hid; rw [hop.out]; unfold clsF; rw [if_neg o1, if_neg (by omega), if_neg o5, if_neg o6]
        go_wp2
        go_roundw
        case rel => exact ⟨k + 1, by omega, by go_num, bw.setCell (by simp; omega) _, y0.far (by simp; omega) _, y1.far (by simp) _, five_put (j := 4) y2 hlt hI.out hc0.out hc1.out hc2.out hc3.out hc4.out hcl.out hc4.out.symm⟩
        case measure => simp [intOf]; omega
    · have hdec : decide (k < code.length) = false := by simpa using hge
      obtain rfl : k = code.length := by omega
      rw [List.take_length] at y2
      obtain ⟨c0, hc0⟩ := named (cntF code 0)
      obtain ⟨c1, hc1⟩ := named (cntF code 1)
      obtain ⟨c2, hc2⟩ := named (cntF code 2)
      obtain ⟨c3, hc3⟩ := named (cntF code 3)
      obtain ⟨c4, hc4⟩ := named (cntF code 4)
      rw [hc0.out, hc1.out, hc2.out, hc3.out, hc4.out] at y2
      have q0 : _ = some (Value.int .i64 c0) := Blk.cell y2 0
      have q1 : _ = some (Value.int .i64 c1) := Blk.cell y2 1
      have q2 : _ = some (Value.int .i64 c2) := Blk.cell y2 2
      have q3 : _ = some (Value.int .i64 c3) := Blk.cell y2 3
      have q4 : _ = some (Value.int .i64 c4) := Blk.cell y2 4
      have r0 : _ = some (Value.int .i64 0) := Blk.cell y1 0
      have r1 : _ = some (Value.int .i64 0) := Blk.cell y1 1
      have r2 : _ = some (Value.int .i64 0) := Blk.cell y1 2
      have r3 : _ = some (Value.int .i64 0) := Blk.cell y1 3
      have r4 : _ = some (Value.int .i64 0) := Blk.cell y1 4
      have f0 := Blk.frozen y1 0
      have f1 := Blk.frozen y1 1
      have f2 := Blk.frozen y1 2
      have f3 := Blk.frozen y1 3
      have f4 := Blk.frozen y1 4
      go_wp2
      have y3 := ((((y1.set 0 (.int .i64 c0)).set 1 (.int .i64 c1)).set 2 (.int .i64 c2)).set 3 (.int .i64 c3)).set 4 (.int .i64 c4)
      refine bodyPost_ret (res_arr5 (fn := Try.f16) (p := 2) rfl rfl y3) rfl ⟨?_, ?_⟩
      · rw [hc0.out, hc1.out, hc2.out, hc3.out, hc4.out]
      · exact ((((bw.setCell (by simp) _).setCell (by simp) _).setCell (by simp) _).setCell (by simp) _).setCell (by simp) _
end Go.Proofs.Ytnchlckncknaiaa
/- row.Cmp, row.Same. -/
namespace Go.Proofs.Ytnchlckncknaiaa
open Go.RowKit

/-- Below, at, above 0: of equal rows alone 0. -/
def CmpAns (a b : List Int) (e : Ending) : Prop := ∃ r : Int, e = .returned (.int .i64 r) ∧ (r = 0 ↔ a = b)
theorem eq_of_lg {a b : List Int} (h : a.length = b.length) (hj : ∀ j, j < a.length → lg a j = lg b j) : a = b := by
  apply List.ext_getElem h
  intro j h1 h2
  have := hj j h1
  unfold lg at this
  rw [List.getD_eq_getElem?_getD, List.getD_eq_getElem?_getD, List.getElem?_eq_getElem h1, List.getElem?_eq_getElem h2] at this
  exact this
theorem cmpI_zero (a b : Int) : cmpI a b = 0 ↔ a = b := by
  unfold cmpI
  split
  · omega
  · split <;> omega

set_option maxHeartbeats 4000000 in
theorem rowcmp_calls {w : World} {A B : Option Addr} {a b : List Int} {c d M N : Nat} (ha : RdN w A a M) (hb : RdN w B b N) (hla : a.length ≤ 1000000) (hlb : b.length ≤ 1000000) (hM : M ≤ 1099511627770) (hN : N ≤ 1099511627770) :
    Calls Try.prog 52 #[.slice A a.length c, .slice B b.length d] w fun e w' => CmpAns a b e ∧ Below w.heap.size w w' := by
  rcases Nat.lt_trichotomy a.length b.length with h1 | h1 | h1
  · have h2 : a ≠ b := by rintro rfl; omega
    go_enter Try.func52, Try.ntmps52
    go_wp2
    go_ret
    exact ⟨⟨_, rfl, by simp [h2]⟩, Below.refl _ _⟩
  · have HL := hide h1
    have hlt0 : decide (a.length < b.length) = false := by simp; omega
    have hgt0 : decide (b.length < a.length) = false := by simp; omega
    clear h1
    go_enter Try.func52, Try.ntmps52
    go_wp2_with fail
    go_loopw [22] (fun i wr => ∃ k : Nat, k ≤ a.length ∧ i = .int .i64 k ∧ Hid (∀ j, j < k → lg a j = lg b j) ∧ Below w.heap.size w wr) (fun i _ => a.length - (intOf i).toNat)
    case atStart => exact ⟨0, by omega, rfl, fun j hj => by omega, Below.refl _ _⟩
    case round =>
      obtain ⟨k, hk, rfl, HA, bw⟩ := hrel
      rcases Nat.lt_or_ge k a.length with hlt | hge
      · have hltb : k < b.length := by rw [← HL.out]; exact hlt
        obtain ⟨ba, oa, rfl, hca⟩ := (ha.below bw) (by omega)
        obtain ⟨bb, ob, rfl, hcb⟩ := (hb.below bw) (by omega)
        obtain ⟨pa, sa, ka, ca, e0, e1, Ia⟩ := hca k hlt
        obtain ⟨pb, sb, kb, cb, f0, f1, Ib⟩ := hcb k hltb
        clear hca hcb
        have hdec : decide (k < a.length) = true := by simpa using hlt
        have i0 : (0 : Int) ≤ (k : Int) := by omega
        have i1 : (k : Int) < (a.length : Int) := by omega
        have i2 : (k : Int) < (b.length : Int) := by omega
        have bl := (Below.refl wr.heap.size wr).alloc (Nat.le_refl _) (.cells #[.bool pa, .slice sa ka ca] 61)
        have x2 := Blk.new wr 61 #[.bool pa, .slice sa ka ca]
        have g0 : _ = some (Value.bool pa) := Blk.cell x2 0
        have g1 : _ = some (Value.slice sa ka ca) := Blk.cell x2 1
        have f0' := below_cell bl f0
        have f1' := below_cell bl f1
        go_wp2_with fail
        generalize hW : wr.alloc (.cells #[.bool pa, .slice sa ka ca] 61) = W at *
        clear hW
        have Ia2 : IntB W.drew _ _ _ := Ia.below bl.drew
        have Ib2 : IntB W.drew _ _ _ := Ib.below bl.drew
        have HC := hide (cmp_int_calls Ia2 Ib2 hM hN)
        obtain ⟨r, hr⟩ := named (cmpI (lg a k) (lg b k))
        rw [hr.out] at HC
        clear Ia Ib Ia2 Ib2 e0 e1 f0 f1
        go_region_held3 (fun w' => w'.cell? ⟨wr.heap.size, 0, none⟩ = some (.bool pa) ∧ w'.cell? ⟨wr.heap.size, 1, none⟩ = some (.slice sa ka ca) ∧ w'.cell? ⟨bb, ob + k * 2, none⟩ = some (.bool pb) ∧ w'.cell? ⟨bb, ob + k * 2 + 1, none⟩ = some (.slice sb kb cb))
          (first | exact ⟨g0, g1, f0', f1'⟩ | exact ⟨m0, m1, m2, m3⟩)
          (first
            | (go_at_call 62
               refine HC.out.mono ?_
               rintro e wm ⟨rfl, hbm⟩
               have m0 := below_cell hbm g0
               have m1 := below_cell hbm g1
               have m2 := below_cell hbm f0'
               have m3 := below_cell hbm f1'))
        have bwm := below_to (below_to bw bl).drew hbm
        have hz := cmpI_zero (lg a k) (lg b k)
        rw [hr.out] at hz
        have HZ := hide hz
        clear hz
        rcases (by omega : r = 0 ∨ ¬ r = 0) with rfl | hne
        · go_wp2
          go_roundw
          case rel =>
            refine ⟨k + 1, by omega, by go_num, ?_, bwm⟩
            intro j hj
            rcases Nat.lt_or_ge j k with h1 | h1
            · exact HA.out j h1
            · obtain rfl : j = k := by omega
              exact HZ.out.1 rfl
          case measure => simp [intOf]; omega
        · go_wp2
          go_ret
          refine ⟨⟨r, rfl, ?_⟩, bwm⟩
          constructor
          · intro h; exact absurd h hne
          · intro h; exact absurd (HZ.out.2 (by rw [h])) hne
      · have hdec : decide (k < a.length) = false := by simpa using hge
        go_wp2
        go_ret
        refine ⟨⟨0, rfl, ?_⟩, bw⟩
        simp only [true_iff]
        exact eq_of_lg HL.out fun j hj => HA.out j (by omega)
  · have h2 : a ≠ b := by rintro rfl; omega
    have hlt0 : decide (a.length < b.length) = false := by simp; omega
    go_enter Try.func52, Try.ntmps52
    go_wp2
    go_ret
    exact ⟨⟨_, rfl, by simp [h2]⟩, Below.refl _ _⟩

theorem rowsame_calls {w : World} {A B : Option Addr} {a b : List Int} {c d M N : Nat} (ha : RdN w A a M) (hb : RdN w B b N) (hla : a.length ≤ 1000000) (hlb : b.length ≤ 1000000) (hM : M ≤ 1099511627770) (hN : N ≤ 1099511627770) :
    Calls Try.prog 17 #[.slice A a.length c, .slice B b.length d] w fun e w' => e = .returned (.bool (decide (a = b))) ∧ Below w.heap.size w w' := by
  have HC := hide (rowcmp_calls (c := c) (d := d) ha hb hla hlb hM hN)
  clear ha hb
  go_enter Try.func17, Try.ntmps17
  go_wp2_with fail
  refine HC.out.mono ?_
  rintro e w1 ⟨⟨r, rfl, hr⟩, hbw⟩
  have HR := hide hr
  clear hr
  go_wp2
  all_goals
    go_ret
    refine ⟨ret_bool ?_, hbw⟩
    rw [Bool.eq_iff_iff]
    simp [HR.out]
end Go.Proofs.Ytnchlckncknaiaa
/- Registers: made, and the numbers copied into them. -/
namespace Go.Proofs.Ytnchlckncknaiaa
open Go.RowKit

/-- The cells of n noughts. -/
def made2 (n : Nat) : Array Value := madeCells zI.cells (n * 2)
theorem make_int (n : Nat) (hn : n ≤ 1000000) (W : World) :
    (Instr.makeSlice 33 (.int .i64 (n : Int)) (.int .i64 (n : Int))).run Try.prog W = .ok (.slice (some ⟨W.heap.size, 0, none⟩) n n) (W.alloc (.cells (made2 n) 61)) := by
  obtain ⟨i, hi, hz, hs, hb⟩ := elI.hi
  have h := run_make (P := Try.prog) W 33 61 i zI elI.ht hi hz .i64 .i64 (n : Int) (n : Int) (by omega) (by omega) (by rw [hb]; omega) (by omega)
  rw [hs] at h
  unfold made2
  simpa using h
theorem made_get (n j : Nat) (h : j < n) : (made2 n)[j * 2]? = some (.bool false) ∧ (made2 n)[j * 2 + 1]? = some (.slice none 0 0) := by
  have hs : zI.cells.size = 2 := rfl
  have h0 : zI.cells[0]! = .bool false := rfl
  have h1 : zI.cells[1]! = .slice none 0 0 := rfl
  unfold made2 madeCells
  rw [hs]
  constructor
  · have : j * 2 < n * 2 := by omega
    simp [this, h0]
  · have : j * 2 + 1 < n * 2 := by omega
    have e : (j * 2 + 1) % 2 = 1 := by omega
    simp [this, e, h1]
theorem made_size (n : Nat) : (made2 n).size = n * 2 := by simp [made2, madeCells]
theorem made_mem (n : Nat) : ∀ u ∈ made2 n, notU u := by
  intro u hu
  obtain ⟨i, hi, e⟩ := Array.mem_iff_getElem.1 hu
  rw [made_size] at hi
  have h2 := made_get n (i / 2) (by omega)
  have hg : (made2 n)[i]? = some u := by rw [← e]; exact Array.getElem?_eq_getElem _
  rcases (by omega : i = i / 2 * 2 ∨ i = i / 2 * 2 + 1) with h | h
  · rw [h, h2.1] at hg
    injection hg with hg
    intro k; rw [← hg]; simp
  · rw [h, h2.2] at hg
    injection hg with hg
    intro k; rw [← hg]; simp

theorem run_copy_wide {P : Program} (w : World) (t ty e : TypeId) (size : Nat) (ht : P.underlying t = some (.slice e)) (hi : ∃ i, P.info? e = some i ∧ i.size = size) (g dLen dCap : Nat) (ad : Addr) (n sLen sCap : Nat) (hn : Nat.min sLen dLen = n)
    (cur : Array Value) (e' : TypeId) (hg : w.heap[g]? = some (.cells cur e' (0, 0))) (cs : List Value) (hl : cs.length = n * size) (hcs : ∀ j u, cs[j]? = some u → w.cell? (ad.add j) = some u) (h1 : ∀ u ∈ cs, u.oneCell' = true) (hfit : cs.length ≤ cur.size) :
    (Builtin.copy_ #[t, t] ty #[.slice (some ⟨g, 0, none⟩) dLen dCap, .slice (some ad) sLen sCap]).run P w = .ok (goInt n) (w.setRow g (cs ++ cur.toList.drop cs.length).toArray) := by
  obtain ⟨i, hi, hs⟩ := hi
  subst hs
  have hf := run_firstCells_some (P := P) w i.size n ad sLen sCap cs hl hcs
  have hst := run_storeCells_at P g 0 e' cs 0 cur w hg (by simpa using hfit) h1
  simp only [Nat.add_zero] at hst
  simp [Builtin.copy_, run_underlying ht, sizeOf, typeInfo, hi, Builtin.lenOf, hn, hf, hst]

theorem wpList_copy_wide {P : Program} {w : World} {ops : Array Oper} {rest : List Oper} {o : Oper} {a : Act} {Q : Exit → Act → World → Prop} (hgd : o.guard = none) (d s : Operand) (t : TypeId)
    (ho : o.op = .call { callee := .builtin .copy, args := #[d, s], argTypes := #[t, t] }) (e : TypeId) (size : Nat) (ht : P.underlying t = some (.slice e)) (hi : ∃ i, P.info? e = some i ∧ i.size = size)
    (g dLen dCap : Nat) (ad : Addr) (n sLen sCap : Nat) (hd : a.eval d = .slice (some ⟨g, 0, none⟩) dLen dCap) (hs : a.eval s = .slice (some ad) sLen sCap) (hn : Nat.min sLen dLen = n)
    (cur : Array Value) (e' : TypeId) (hg : w.heap[g]? = some (.cells cur e' (0, 0))) (cs : List Value) (hl : cs.length = n * size) (hcs : ∀ j u, cs[j]? = some u → w.cell? (ad.add j) = some u) (h1 : ∀ u ∈ cs, u.oneCell' = true) (hfit : cs.length ≤ cur.size)
    (h : wpList P ops Q rest (a.put o.dst (goInt n)) (w.setRow g (cs ++ cur.toList.drop cs.length).toArray)) : wpList P ops Q (o :: rest) a w := by
  refine wpList_plain hgd fun K hK => ?_
  have hrun := run_copy_wide (P := P) w t o.type e size ht hi g dLen dCap ad n sLen sCap hn cur e' hg cs hl hcs h1 hfit
  unfold Oper.wp
  simp [execOp, ho, resolve, invoke, builtin, hd, hs, hrun, Result.andThen]
  exact hK _ _ h

/-- The cells from an address on. -/
def cellsOf (w : World) (b off m : Nat) : List Value := (List.range m).map fun i => (w.cell? ⟨b, off + i, none⟩).getD undef
theorem cellsOf_length (w : World) (b off m : Nat) : (cellsOf w b off m).length = m := by simp [cellsOf]
theorem cellsOf_get (w : World) (b off m i : Nat) (h : i < m) : (cellsOf w b off m)[i]? = some ((w.cell? ⟨b, off + i, none⟩).getD undef) := by
  simp [cellsOf, h]
theorem rdN_cell {w : World} {b off : Nat} {zs : List Int} {N : Nat} (h : ∀ j, j < zs.length → ∃ p s k c, w.cell? ⟨b, off + j * 2, none⟩ = some (.bool p) ∧ w.cell? ⟨b, off + j * 2 + 1, none⟩ = some (.slice s k c) ∧ IntB w (.agg #[.bool p, .slice s k c]) (lg zs j) N)
    {i : Nat} (hi : i < zs.length * 2) : ∃ u, w.cell? ⟨b, off + i, none⟩ = some u ∧ notU u ∧ u.oneCell' = true := by
  obtain ⟨p, s, k, c, h1, h2, _⟩ := h (i / 2) (by omega)
  rcases (by omega : i = i / 2 * 2 ∨ i = i / 2 * 2 + 1) with e | e
  · rw [← e] at h1; exact ⟨_, h1, by intro k; simp, rfl⟩
  · rw [Nat.add_assoc, ← e] at h2; exact ⟨_, h2, by intro k; simp, rfl⟩
theorem lg_regs0 (n : Nat) (zs : List Int) (j : Nat) : lg (regs0 n zs) j = if j < zs.length then lg zs j else 0 := by
  unfold lg regs0
  rw [List.getD_eq_getElem?_getD, List.getElem?_append]
  split
  · rfl
  · rw [List.getElem?_replicate]; split <;> rfl
/-- The registers, the numbers copied in. -/
theorem nb_copied {w : World} {g b off n N : Nat} {zs : List Int} (hg : Blk w g 61 (made2 n)) (hz : zs.length ≤ n)
    (h : ∀ j, j < zs.length → ∃ p s k c, w.cell? ⟨b, off + j * 2, none⟩ = some (.bool p) ∧ w.cell? ⟨b, off + j * 2 + 1, none⟩ = some (.slice s k c) ∧ IntB w (.agg #[.bool p, .slice s k c]) (lg zs j) N) :
    NB (w.setRow g (cellsOf w b off (zs.length * 2) ++ (made2 n).toList.drop (cellsOf w b off (zs.length * 2)).length).toArray) g (regs0 n zs) N ∧ Below g w (w.setRow g (cellsOf w b off (zs.length * 2) ++ (made2 n).toList.drop (cellsOf w b off (zs.length * 2)).length).toArray) := by
  have hgr : w.grownBy (w.setRow g (cellsOf w b off (zs.length * 2) ++ (made2 n).toList.drop (cellsOf w b off (zs.length * 2)).length).toArray) (some g) :=
    ⟨rfl, rfl, rfl, by simp [World.setRow], fun k _ hk => setRow_other w g k _ (fun e => hk (by rw [e]))⟩
  have hno : ∀ g', some g = some g' → ∀ i z, w.cell? ⟨g', i, none⟩ ≠ some (.int .u32 z) := by
    intro g' e i z hc
    injection e with e
    subst e
    rw [Blk.cell hg] at hc
    exact made_mem n _ (Array.mem_of_getElem? hc) z rfl
  refine ⟨⟨_, setRow_heap w g _ _ _ _ hg, ?_, fun j hj => ?_⟩, below_of_grown hgr (fun g' e => by injection e with e; omega) (Nat.le_of_lt hg.lt)⟩
  · rw [regs0_length n zs hz]
    simp [cellsOf_length, made_size]
    omega
  · rw [regs0_length n zs hz] at hj
    rw [lg_regs0]
    by_cases hlt : j < zs.length
    · rw [if_pos hlt]
      obtain ⟨p, s, k, c, e1, e2, e3⟩ := h j hlt
      refine ⟨p, s, k, c, ?_, ?_, e3.grown hgr hno⟩
      · rw [List.getElem?_toArray, List.getElem?_append_left (by rw [cellsOf_length]; omega), cellsOf_get _ _ _ _ _ (by omega), e1]; rfl
      · rw [List.getElem?_toArray, List.getElem?_append_left (by rw [cellsOf_length]; omega), cellsOf_get _ _ _ _ _ (by omega), ← Nat.add_assoc, e2]; rfl
    · rw [if_neg hlt]
      obtain ⟨m1, m2⟩ := made_get n j hj
      refine ⟨false, none, 0, 0, ?_, ?_, ?_⟩
      · rw [List.getElem?_toArray, List.getElem?_append_right (by rw [cellsOf_length]; omega), List.getElem?_drop, cellsOf_length, ← m1]
        rw [Array.getElem?_toList]
        congr 1; omega
      · rw [List.getElem?_toArray, List.getElem?_append_right (by rw [cellsOf_length]; omega), List.getElem?_drop, cellsOf_length, ← m2]
        rw [Array.getElem?_toList]
        congr 1; omega
      · exact ⟨false, .slice none 0 0, [], rfl, ⟨none, 0, rfl, Nat.le_refl _, RdU.nil _ _⟩, ⟨(fun x hx => by cases hx), Or.inl rfl⟩, Nat.zero_le _, by simp, by simp [sgn, val]⟩
end Go.Proofs.Ytnchlckncknaiaa
/- exact.right, exact.Run. -/
namespace Go.Proofs.Ytnchlckncknaiaa
open Go.RowKit

/-- Whether a program may be, and is handed as many numbers as it asks. -/
def rightE (p : Pg) (n : Int) : Int := if p.Right then (if n = p.ins then 0 else 5) else 80

theorem right_calls {w : World} {v : Value} {p : Pg} (h : PgB w v p) (n : Int) : Calls Try.prog 47 #[v, .int .i64 n] w fun e w' => e = .returned (.int .i64 (rightE p n)) ∧ Below w.heap.size w w' := by
  have h' := h
  obtain ⟨A, c, B, d, rfl, k1, k2, hI, hZ⟩ := h'
  have b0 := (Below.refl w.heap.size w).alloc (Nat.le_refl _) (.cells #[.int .i64 p.ins, .int .i64 p.regs, .slice A p.code.length c, .slice B p.outs.length d] 25)
  have x0 := Blk.new w 25 #[.int .i64 p.ins, .int .i64 p.regs, .slice A p.code.length c, .slice B p.outs.length d]
  have HC := hide (check_calls (h.below b0))
  clear h hI hZ
  unfold progV at *
  by_cases hr : p.Right
  · have HR := hide hr
    clear hr
    by_cases hn : n = p.ins
    · subst hn
      go_enter Try.func47, Try.ntmps47
      go_wp2_with fail
      refine HC.out.mono ?_
      rintro e w1 ⟨⟨k, rfl, _⟩, hb⟩
      have x1 := Blk.below x0 hb x0.lt
      obtain ⟨p0, p1, p2, p3⟩ := pg4 x1
      rw [if_pos HR.out]
      go_wp2
      go_ret
      refine ⟨ret_int ?_, below_to b0 hb⟩
      simp [rightE, HR.out]
    · have HN := hide hn
      have hne : (n != p.ins) = true := by simpa using hn
      clear hn
      go_enter Try.func47, Try.ntmps47
      go_wp2_with fail
      refine HC.out.mono ?_
      rintro e w1 ⟨⟨k, rfl, _⟩, hb⟩
      have x1 := Blk.below x0 hb x0.lt
      obtain ⟨p0, p1, p2, p3⟩ := pg4 x1
      rw [if_pos HR.out]
      go_wp2
      go_ret
      refine ⟨ret_int ?_, below_to b0 hb⟩
      simp [rightE, HR.out, HN.out]
  · have HR := hide hr
    clear hr
    go_enter Try.func47, Try.ntmps47
    go_wp2_with fail
    refine HC.out.mono ?_
    rintro e w1 ⟨⟨k, rfl, _⟩, hb⟩
    rw [if_neg HR.out]
    go_wp2
    go_ret
    refine ⟨ret_int ?_, below_to b0 hb⟩
    simp [rightE, HR.out]
end Go.Proofs.Ytnchlckncknaiaa
/- exact.Run. -/
namespace Go.Proofs.Ytnchlckncknaiaa
open Go.RowKit

/-- What exact.Run answers of a program that may be, handed what it asks. -/
def RunRes (p : Pg) (zs : List Int) (M : Nat) (w' : World) (e : Ending) : Prop :=
  ∃ v k, e = .returned (.tuple #[v, .int .i64 k, .int .i64 (if (p.answer zs).isSome then 0 else 20)]) ∧ SlN w' v ((p.answer zs).getD []) M
theorem SlN.nil (w : World) (M : Nat) : SlN w (.slice none 0 0) [] M := ⟨none, 0, rfl, Nat.le_refl _, fun h => absurd h (by simp)⟩
theorem SlN.mono {w : World} {v : Value} {zs : List Int} {N M : Nat} (h : SlN w v zs N) (hm : N ≤ M) : SlN w v zs M := by
  obtain ⟨A, c, e, h1, h2⟩ := h
  exact ⟨A, c, e, h1, h2.mono hm⟩
theorem run_calls' {w : World} {A B : Option Addr} {l : List Ins} {zs : List Int} {g N0 cap m d rc n : Nat} {ins regs : Int} (hn : zs.length = n) (hl : RdI w A l) (hr : NB w g zs N0) (hok : ∀ i ∈ l, i.OK n) (hlen : l.length ≤ 16384) (hN : N0 ≤ 1000) :
    Calls Try.prog 48 #[.agg waysA, .agg #[.int .i64 ins, .int .i64 regs, .slice A l.length cap, .slice B m d], .slice (some ⟨g, 0, none⟩) n rc, fnV 50] w fun e w' =>
      e = .returned (.int .i64 (runM 0 l zs).1) ∧ NB w' g (runM 0 l zs).2 (N0 + 11 * l.length + 5) ∧ Below g w w' := by
  subst hn
  exact run_calls hl hr hok hlen hN
theorem cell_under {g : Nat} {w w' : World} (h : Below g w w') {p : Addr} {v : Value} (hp : p.block < g) (hc : w.cell? p = some v) : w'.cell? p = some v := (h.cell hp).trans hc
theorem runM_length : ∀ (l : List Ins) (k : Nat) (r : List Int), (runM k l r).2.length = r.length
  | [], k, r => rfl
  | i :: l, k, r => by
    unfold runM
    split
    · rw [runM_length l]; simp
    · rfl

theorem NB.get {w : World} {g : Nat} {zs : List Int} {N i : Nat} (h : NB w g zs N) (hi : i < zs.length) :
    ∃ p s k c, w.cell? ⟨g, i * 2, none⟩ = some (.bool p) ∧ w.cell? ⟨g, i * 2 + 1, none⟩ = some (.slice s k c) ∧ IntB w (.agg #[.bool p, .slice s k c]) (lg zs i) N := by
  obtain ⟨cs, h1, h2, h3⟩ := h
  obtain ⟨p0, s0, k0, c0, e1, e2, e3⟩ := h3 i hi
  exact ⟨p0, s0, k0, c0, by rw [Blk.cell h1]; exact e1, by rw [Blk.cell h1]; exact e2, e3⟩
set_option maxHeartbeats 4000000 in
set_option maxRecDepth 100000 in
theorem run_ok {w : World} {v u : Value} {p : Pg} {zs : List Int} {N0 : Nat} (h : PgB w v p) (hz : SlN w u zs N0) (hr : p.Right) (hn : (zs.length : Int) = p.ins) (hN : N0 ≤ 1000) :
    Calls Try.prog 14 #[v, u] w fun e w' => RunRes p zs (N0 + 11 * p.code.length + 5) w' e ∧ Below w.heap.size w w' := by
  have h' := h
  obtain ⟨A, c, B, d, rfl, k1, k2, hI, hZ⟩ := h'
  obtain ⟨Az, cz, rfl, hcz, hRz⟩ := hz
  have HR := hide hr
  obtain ⟨ins, regs, code, outs⟩ := p
  obtain ⟨⟨q1, q2, q3, q4, q5, q6⟩, ho, hc⟩ := hr
  dsimp only at hI hZ k1 k2 hn q1 q2 q3 q4 q5 q6 ho hc ⊢
  obtain ⟨n, rfl⟩ : ∃ n : Nat, regs = (n : Int) := ⟨regs.toNat, by omega⟩
  subst hn
  have hzn : zs.length ≤ n := by omega
  have hz1 : 1 ≤ zs.length := by omega
  have hn1 : n ≤ 128 := by omega
  have HO := hide ho
  have HK : Hid (∀ i ∈ code, i.OK n) := fun i hi => (hc i hi).ok
  clear ho hc
  have b0 := (Below.refl w.heap.size w).alloc (Nat.le_refl _) (.cells #[.int .i64 (zs.length : Int), .int .i64 (n : Int), .slice A code.length c, .slice B outs.length d] 25)
  have x0 := Blk.new w 25 #[.int .i64 (zs.length : Int), .int .i64 (n : Int), .slice A code.length c, .slice B outs.length d]
  have HC := hide (right_calls (h.below b0) zs.length)
  have hrt : rightE ⟨zs.length, n, code, outs⟩ zs.length = 0 := by unfold rightE; rw [if_pos HR.out, if_pos rfl]
  rw [hrt] at HC
  clear hrt h
  obtain ⟨bz, oz, rfl, hcell⟩ := hRz (by omega)
  have hmk := fun W => make_int n (by omega) W
  unfold progV at *
  dsimp only at *
  go_enter Try.func14, Try.ntmps14
  go_wp2_with fail
  refine HC.out.mono ?_
  rintro e w1 ⟨rfl, hb1⟩
  have bb1 := below_to b0 hb1
  have x1 := Blk.below x0 hb1 x0.lt
  obtain ⟨p0, p1, p2, p3⟩ := pg4 x1
  have ba := (Below.refl w1.heap.size w1).alloc (Nat.le_refl _) (.cells (made2 n) 61)
  have y0 := Blk.new w1 61 (made2 n)
  have bb2 := below_to bb1 ba
  have hcell2 := (hRz.below bb2) (by omega)
  obtain ⟨bz2, oz2, ez, hcell2⟩ := hcell2
  injection ez with ez
  injection ez with e1 e2 _
  subst e1 e2
  have HNB := hide (nb_copied y0 hzn hcell2)
  have HCE := hide (fun i (hi : i < zs.length * 2) => rdN_cell hcell2 hi)
  clear hcell hcell2
  go_wp2_with (with_reducible refine wpList_copy_wide rfl (.tmp 23) (.tmp 24) 33 rfl 61 2 ?ct ?ci w1.heap.size n n ⟨bz, oz, none⟩ zs.length zs.length cz rfl rfl ?cn (made2 n) 61 ?cg (cellsOf (w1.alloc (.cells (made2 n) 61)) bz oz (zs.length * 2)) ?cl ?cc ?c1 ?cf ?ck)
  case ct => exact elI.ht
  case cg => exact y0
  case cl => exact cellsOf_length _ _ _ _
  case ci => obtain ⟨i, hi, _, hs, _⟩ := elI.hi; exact ⟨i, hi, hs⟩
  case cn => exact Nat.min_eq_left hzn
  case cc =>
    intro j u hu
    have hj : j < zs.length * 2 := by
      have := (List.getElem?_eq_some_iff.1 hu).1
      rwa [cellsOf_length] at this
    obtain ⟨u', e1, _⟩ := HCE.out j hj
    rw [cellsOf_get _ _ _ _ _ hj, e1] at hu
    injection hu with hu
    subst hu
    rw [Addr.add_lit]
    exact e1
  case c1 =>
    intro u hu
    obtain ⟨j, hj, hu⟩ := List.mem_iff_getElem.1 hu
    rw [cellsOf_length] at hj
    obtain ⟨u', e1, _, e2⟩ := HCE.out j hj
    have hu2 := cellsOf_get (w1.alloc (.cells (made2 n) 61)) bz oz (zs.length * 2) j hj
    rw [e1, List.getElem?_eq_getElem (by rw [cellsOf_length]; exact hj), hu] at hu2
    injection hu2 with hu2
    rw [hu2]
    exact e2
  case cf => rw [cellsOf_length, made_size]; omega
  case ck =>
    obtain ⟨hnb, hbg⟩ := HNB.out
    clear HNB HCE hmk
    generalize World.setRow _ _ _ = W3 at *
    have hlt1 : w.heap.size < w1.heap.size := x1.lt
    have bb3 : Below w.heap.size w W3 := bb2.trans (hbg.mono (Nat.le_of_lt hlt1))
    have x3 := Blk.below (Blk.alloc x1 (.cells (made2 n) 61)) hbg hlt1
    have hI3 := hI.below bb3
    have hZ3 := hZ.below bb3
    obtain ⟨m0, m1, m2, m3⟩ := pg4 x3
    have hnbd : NB W3.drew _ _ _ := hnb
    have hI3d : RdI W3.drew _ _ := hI3
    clear p0 p1 p2 p3 x0 x1 y0 hb1 bb1 ba bb2 b0 hbg
    go_wp2_with fail
    go_region_held3 (fun w' => w'.cell? ⟨w.heap.size, 0, none⟩ = some (.int .i64 (zs.length : Int)) ∧ w'.cell? ⟨w.heap.size, 1, none⟩ = some (.int .i64 (n : Int)) ∧ w'.cell? ⟨w.heap.size, 2, none⟩ = some (.slice A code.length c) ∧ w'.cell? ⟨w.heap.size, 3, none⟩ = some (.slice B outs.length d))
      (first | exact ⟨m0, m1, m2, m3⟩ | exact ⟨n0, n1, n2, n3⟩ | exact ⟨l0, l1, l2, l3⟩)
      (first
        | (go_at_call 49
           refine numbers_calls.mono ?_
           rintro e w4 ⟨rfl, hb4⟩
           have n0 := below_cell hb4 m0
           have n1 := below_cell hb4 m1
           have n2 := below_cell hb4 m2
           have n3 := below_cell hb4 m3)
        | (go_at_call 48
           refine (run_calls' (regs0_length n zs hzn) (hI3d.below hb4) (hnbd.keep hb4) HK.out q4 hN).mono ?_
           rintro e w5 ⟨rfl, hnb5, hb5⟩
           have l0 := cell_under hb5 hlt1 n0
           have l1 := cell_under hb5 hlt1 n1
           have l2 := cell_under hb5 hlt1 n2
           have l3 := cell_under hb5 hlt1 n3))
    have bb4 := below_to bb3.drew hb4
    have bb5 : Below w.heap.size w w5 := bb4.trans (hb5.mono (Nat.le_of_lt hlt1))
    have hZ5 := hZ.below bb5
    clear hb5 hb4 bb4 hnb hnbd hI3 hI3d hZ3 m0 m1 m2 m3 n0 n1 n2 n3 hRz hI hZ x3 bb3
    cases hro : runO code (regs0 n zs) with
    | none =>
      have hk := runM_none code 0 _ hro
      obtain ⟨kk, hkk⟩ := named (runM 0 code (regs0 n zs)).1
      rw [hkk.out] at hk ⊢
      have hans : Hid (Pg.answer ⟨zs.length, n, code, outs⟩ zs = none) := by
        unfold Hid Pg.answer
        dsimp only
        rw [Int.toNat_natCast, hro]; rfl
      clear hro
      go_wp2
      go_ret3
      refine ⟨⟨.slice none 0 0, kk, by rw [hans.out]; rfl, by rw [hans.out]; exact SlN.nil _ _⟩, bb5⟩
    | some r' =>
      have hrm := runM_some code 0 _ _ hro
      have hrl : r'.length = n := by rw [runO_length _ _ _ hro, regs0_length n zs hzn]
      have hans : Hid (Pg.answer ⟨zs.length, n, code, outs⟩ zs = some (outs.map fun o => lg r' o.toNat)) := by
        unfold Hid Pg.answer
        dsimp only
        rw [Int.toNat_natCast, hro]; rfl
      rw [hrm] at hnb5 ⊢
      have HRL := hide hrl
      clear hro hrm hrl
      dsimp only at hnb5 ⊢
      go_wp2_with fail
      go_loopw [10, 36] (fun out i wr => ∃ k : Nat, k ≤ outs.length ∧ i = .int .i64 k ∧ OwnN wr w5.heap.size out ((outs.take k).map fun o => lg r' o.toNat) (N0 + 11 * code.length + 5) ∧ Below w5.heap.size w5 wr) (fun _ i _ => outs.length - (intOf i).toNat)
      case atStart => exact ⟨0, by omega, rfl, OwnN.nil _ _ _, Below.refl _ _⟩
      case round =>
        obtain ⟨k, hk, rfl, hown, bw⟩ := hrel
        rcases Nat.lt_or_ge k outs.length with hlt | hge
        · obtain ⟨b', off, rfl, hcell⟩ := (hZ5.below bw) (by omega)
          have e0 := hcell k hlt
          clear hcell
          obtain ⟨r, hr⟩ := named (lg outs k)
          have hr2 := HO.out _ (lg_mem hlt)
          rw [hr.out] at e0 hr2
          obtain ⟨ir, rfl⟩ := Int.eq_ofNat_of_zero_le hr2.1
          have hir : ir < r'.length := by rw [HRL.out]; omega
          have hdec : decide (k < outs.length) = true := by simpa using hlt
          obtain ⟨pp, ss, kk, cc, f0, f1, hx⟩ := NB.get (hnb5.keep bw) hir
          have i0 : (0 : Int) ≤ (ir : Int) := by omega
          have i1 : (ir : Int) < (n : Int) := hr2.2
          have ba := (Below.refl wr.heap.size wr).alloc (Nat.le_refl _) (.cells #[.bool pp, .slice ss kk cc] 61)
          have hx2 := hx.below ba
          have x2 := Blk.new wr 61 #[.bool pp, .slice ss kk cc]
          obtain ⟨xs, r1, r2, r3⟩ := hown.below ba
          have hkl : ((outs.take k).map fun o => lg r' o.toNat).length = k := by rw [List.length_map, List.length_take]; omega
          rw [hkl] at r1 r3
          have bw2 := below_to bw ba
          have hkl' := hide hkl
          clear hkl hown hr2
          go_wp2_with (at_builtin; refine wpList_append_e rfl (.tmp 40) (.tmp 45) rfl elI w5.heap.size u10 k xs rfl r1 wr.heap.size _ [.bool pp, .slice ss kk cc] rfl rfl ⟨_, _, x2⟩ ?h1 ?h2 ?h3 ?h4 ?h5)
          case h1 => intro u hu; simp at hu; rcases hu with rfl | rfl <;> rfl
          case h2 => omega
          case h3 => omega
          case h4 => exact bw2.size
          case h5 =>
            intro g cap w6 hr6 hg6 hor
            have bw6 := below_of_row r1 hg6 bw2.size
            go_wp2
            go_roundw
            case rel =>
              refine ⟨k + 1, by omega, by go_num, ?_, bw2.trans bw6⟩
              have hz := hkl'.out
              have hs := OwnN.snoc (zs := (outs.take k).map fun o => lg r' o.toNat) (by rw [hz]; exact r1) r2 (by rw [hz]; exact r3) hx2 (by rw [hz]; exact hr6) hg6
              rw [hz] at hs
              rw [take_snocI outs hlt, hr.out, List.map_append]
              simpa using hs
            case measure => simp [intOf]; omega
        · obtain rfl : k = outs.length := by omega
          have hdec : decide (outs.length < outs.length) = false := by simp
          rw [List.take_length] at hown
          go_wp2
          go_ret3
          refine ⟨⟨_, 0, by rw [hans.out]; rfl, by rw [hans.out]; exact hown.sl⟩, below_to bb5 bw⟩
end Go.Proofs.Ytnchlckncknaiaa
/- share: what the law asks of what the pass makes, without memory; live. -/
namespace Go.Proofs.Ytnchlckncknaiaa
open Go.RowKit Go.Maps

theorem inv0 {ins : Int} {n : Nat} {zs : List Int} (h1 : 1 ≤ ins) (hz : (zs.length : Int) = ins) (hn : zs.length ≤ n) : Inv n (tb0 ins n) (regs0 n zs) (fun v => if 0 ≤ v ∧ v < ins then lg zs v.toNat else 0) := by
  have e : (tb0 ins n).held = held0 n ins := by unfold tb0 held0; rw [Int.toNat_natCast]
  have e2 : (tb0 ins n).next = ins + 1 := rfl
  refine ⟨by rw [e, held0_length], regs0_length n zs hn, ?_, fun k v hk => by cases hk⟩
  intro j hj
  rw [e, e2]
  have e3 : lg (held0 n ins) j = min (j : Int) ins := by simp [lg, held0, hj]
  rw [e3, lg_regs0]
  refine ⟨by omega, by omega, ?_⟩
  by_cases hlt : j < zs.length
  · rw [if_pos hlt]
    have : min (j : Int) ins = (j : Int) := by omega
    rw [this, if_pos ⟨by omega, by omega⟩, Int.toNat_natCast]
  · rw [if_neg hlt]
    have : min (j : Int) ins = ins := by omega
    rw [this, if_neg (by omega)]
theorem shareF_answer {p : Pg} (hr : p.Right) {zs : List Int} (hz : (zs.length : Int) = p.ins) : (shareF p).answer zs = p.answer zs := by
  obtain ⟨ins, regs, code, outs⟩ := p
  obtain ⟨⟨q1, q2, q3, q4, q5, q6⟩, ho, hc⟩ := hr
  dsimp only at hz q1 q2 q3 q4 q5 q6 ho hc
  obtain ⟨n, rfl⟩ : ∃ n : Nat, regs = (n : Int) := ⟨regs.toNat, by omega⟩
  have hI := inv0 (n := n) q1 hz (by omega)
  obtain ⟨h1, h2⟩ := pass_run code hI (show 0 ≤ ins + 1 by omega) (fun i hi => (hc i hi).ok)
  unfold Pg.answer shareF
  dsimp only
  rw [Int.toNat_natCast, h1]
  cases hro : runO code (regs0 n zs) with
  | none => rfl
  | some r' =>
    obtain ⟨s', hI'⟩ := h2 r' hro
    simp only [Option.map_some, Option.some.injEq, List.map_map]
    refine List.map_congr_left fun o hoo => ?_
    obtain ⟨o0, o1⟩ := ho o hoo
    obtain ⟨k, hk, e1, e2⟩ := holder_at (passF (tb0 ins n) code).2.held _ o.toNat (by rw [hI'.hl]; omega) rfl
    simp only [Function.comp_apply]
    rw [e1, Int.toNat_natCast]
    rw [hI'.hl] at hk
    rw [(hI'.held k hk).2.2, (hI'.held o.toNat (by omega)).2.2, e2]
theorem emitF_ok {n : Nat} {T : Tb} (hl : T.held.length = n) {i : Ins} (hi : May i n) : ∀ x ∈ emitF T i, May x n := by
  obtain ⟨o1, o8, hd, ha, hb, hc⟩ := hi
  intro x hx
  unfold emitF at hx
  dsimp only at hx
  split at hx
  · cases hx
  · split at hx
    · rename_i h1 h2
      simp at hx
      subst hx
      have hlt : holderF T.held (valF T i) < n := by
        unfold holderF at h2 ⊢
        split
        · omega
        · rename_i h3; rw [if_neg h3] at h2; omega
      refine ⟨by dsimp only; omega, by dsimp only; omega, hd, ⟨h2, hlt⟩, ?_, ?_⟩
      · rw [if_neg (by dsimp only; omega)]
      · unfold ConstP; dsimp only; rw [if_neg (by omega), if_neg (by omega)]
    · simp at hx
      subst hx
      obtain ⟨ka, la, ea, fa⟩ := holder_at T.held _ i.a.toNat (by rw [hl]; omega) rfl
      rw [hl] at la
      unfold askedF
      refine ⟨o1, o8, hd, ?_, ?_, hc⟩
      · dsimp only; rw [ea]; omega
      · dsimp only
        cases ht : isTwo i.op
        · have h34 : ¬ (i.op = 3 ∨ i.op = 4) := by simpa [isTwo] using ht
          rw [if_neg h34] at hb ⊢
          simpa using hb
        · have h34 : i.op = 3 ∨ i.op = 4 := by simpa [isTwo] using ht
          rw [if_pos h34] at hb ⊢
          obtain ⟨kb, lb, eb, fb⟩ := holder_at T.held _ i.b.toNat (by rw [hl]; omega) rfl
          rw [hl] at lb
          simp only [if_true]
          rw [eb]; omega
theorem nextF_len {n : Nat} {T : Tb} (hl : T.held.length = n) (i : Ins) : (nextF T i).held.length = n := by
  unfold nextF
  dsimp only
  split
  · exact hl
  · rw [List.length_set, hl]
theorem passF_ok : ∀ (l : List Ins) {n : Nat} {T : Tb}, T.held.length = n → (∀ i ∈ l, May i n) → (∀ x ∈ (passF T l).1, May x n) ∧ (passF T l).2.held.length = n
  | [], n, T, hl, _ => ⟨by simp [passF], by simpa [passF] using hl⟩
  | i :: l, n, T, hl, hok => by
    obtain ⟨h1, h2⟩ := passF_ok l (nextF_len hl i) (fun j hj => hok j (List.mem_cons_of_mem _ hj))
    refine ⟨fun x hx => ?_, h2⟩
    simp only [passF, List.mem_append] at hx
    rcases hx with hx | hx
    · exact emitF_ok hl (hok i (by simp)) x hx
    · exact h1 x hx
theorem shareF_right {p : Pg} (hr : p.Right) : (shareF p).Right := by
  obtain ⟨ins, regs, code, outs⟩ := p
  obtain ⟨⟨q1, q2, q3, q4, q5, q6⟩, ho, hc⟩ := hr
  dsimp only at q1 q2 q3 q4 q5 q6 ho hc
  obtain ⟨n, rfl⟩ : ∃ n : Nat, regs = (n : Int) := ⟨regs.toNat, by omega⟩
  have hlen := passF_length code (tb0 ins n)
  obtain ⟨h1, h2⟩ := passF_ok code (n := n) (T := tb0 ins n) (by simp [tb0]) hc
  refine ⟨⟨q1, q2, q3, ?_, ?_, ?_⟩, ?_, h1⟩
  · show (passF (tb0 ins n) code).1.length ≤ 16384; omega
  · show 1 ≤ (outs.map _).length; rw [List.length_map]; exact q5
  · show (outs.map _).length ≤ 128; rw [List.length_map]; exact q6
  · intro r hr
    obtain ⟨o, hoo, rfl⟩ := List.mem_map.1 hr
    obtain ⟨o0, o1⟩ := ho o hoo
    obtain ⟨k, hk, e1, e2⟩ := holder_at (passF (tb0 ins n) code).2.held _ o.toNat (by rw [h2]; omega) rfl
    rw [h2] at hk
    rw [e1]
    show (0 : Int) ≤ k ∧ (k : Int) < (n : Int)
    omega
theorem cntF_append (l m : List Ins) (j : Nat) : cntF (l ++ m) j = cntF l j + cntF m j := by
  unfold cntF; rw [List.countP_append]; omega
theorem emitF_cnt (T : Tb) (i : Ins) {j : Nat} (hj : j ≠ 0) : cntF (emitF T i) j ≤ cntF [i] j := by
  have h0 : 0 ≤ cntF [i] j := (cntF_bd _ _).1
  unfold emitF
  dsimp only
  split
  · simp [cntF]
  · split
    · have : cntF [⟨1, i.dst, holderF T.held (valF T i), 0, 0⟩] j = 0 := by
        unfold cntF
        have h2 : (clsF 1 == j) = false := by
          have : clsF 1 = 0 := rfl
          rw [this]; simpa using fun h => hj h.symm
        simp [h2]
      rw [this]; exact h0
    · have : cntF [askedF T.held i] j = cntF [i] j := by
        unfold cntF
        have : (askedF T.held i).op = i.op := rfl
        simp [this]
      rw [this]; exact Int.le_refl _
theorem passF_cnt {j : Nat} (hj : j ≠ 0) : ∀ (l : List Ins) (T : Tb), cntF (passF T l).1 j ≤ cntF l j
  | [], T => by simp [passF]
  | i :: l, T => by
    have h1 := passF_cnt hj l (nextF T i)
    have h2 := emitF_cnt T i hj
    have e : cntF (i :: l) j = cntF [i] j + cntF l j := cntF_append [i] l j
    simp only [passF]
    rw [cntF_append, e]; omega

set_option maxHeartbeats 4000000 in
theorem live14_calls {w : World} : Calls Try.prog 9 #[] w fun e w' => e = .returned (.bool true) ∧ Below w.heap.size w w' := by
  have ba := (Below.refl w.heap.size w).alloc (Nat.le_refl _) (.cells #[.int .i64 1, .int .i64 1, .int .i64 0, .int .i64 0, .int .i64 0] 72)
  have bb := ba.alloc (by simp) (.cells #[.int .i64 1] 3)
  have x1 := (Blk.new w 72 #[.int .i64 1, .int .i64 1, .int .i64 0, .int .i64 0, .int .i64 0]).alloc (.cells #[.int .i64 1] 3)
  have x2 := Blk.new (w.alloc (.cells #[.int .i64 1, .int .i64 1, .int .i64 0, .int .i64 0, .int .i64 0] 72)) 3 #[.int .i64 1]
  rw [World.size_alloc] at x2
  have hP : PgB ((w.alloc (.cells #[.int .i64 1, .int .i64 1, .int .i64 0, .int .i64 0, .int .i64 0] 72)).alloc (.cells #[.int .i64 1] 3)) (.agg #[.int .i64 1, .int .i64 2, .slice (some ⟨w.heap.size, 0, none⟩) 1 1, .slice (some ⟨w.heap.size + 1, 0, none⟩) 1 1]) ⟨1, 2, [⟨1, 1, 0, 0, 0⟩], [1]⟩ := by
    refine ⟨_, 1, _, 1, rfl, by simp, by simp, fun _ => ⟨w.heap.size, 0, rfl, fun j hj => ?_⟩, fun _ => ⟨w.heap.size + 1, 0, rfl, fun j hj => ?_⟩⟩
    · have : j = 0 := by simp at hj; exact hj
      subst this
      exact ins5 x1
    · have : j = 0 := by simp at hj; exact hj
      subst this
      exact Blk.cell x2 0
  have HC := hide (sharepass_calls hP (by decide))
  have hsh : shareF ⟨1, 2, [⟨1, 1, 0, 0, 0⟩], [1]⟩ = ⟨1, 2, [⟨1, 1, 0, 0, 0⟩], [0]⟩ := by decide
  rw [hsh] at HC
  clear hsh hP x1 x2 ba
  go_enter Try.func9, Try.ntmps9
  go_wp2_with fail
  refine HC.out.mono ?_
  rintro e w1 ⟨⟨u, rfl, A, c, B, d, rfl, _, _, _, hZ⟩, hb1⟩
  obtain ⟨b, off, rfl, hcell⟩ := hZ (by simp)
  have e0 : w1.cell? ⟨b, off + 0, none⟩ = some (.int .i64 0) := hcell 0 (by simp)
  rw [Nat.add_zero] at e0
  clear hcell hZ
  unfold progV
  have e0' := below_cell ((Below.refl w1.heap.size w1).alloc (Nat.le_refl _) (.cells #[.int .i64 1, .int .i64 2, .slice A 1 c, .slice (some ⟨b, off, none⟩) 1 d] 25)) e0
  go_wp2
  all_goals
    go_ret
    refine ⟨rfl, (below_to bb hb1).alloc (by have := (below_to bb hb1).size; omega) _⟩
end Go.Proofs.Ytnchlckncknaiaa
/- swagelaw14.ShareSame, walked. -/
namespace Go.Proofs.Ytnchlckncknaiaa
open Go.RowKit Go.Maps

theorem PgB.agg {w : World} {v : Value} {p : Pg} (h : PgB w v p) : ∃ A c B d, v = .agg #[.int .i64 p.ins, .int .i64 p.regs, .slice A p.code.length c, .slice B p.outs.length d] := by
  obtain ⟨A, c, B, d, e, _⟩ := h
  exact ⟨A, c, B, d, e⟩
theorem answer_length (p : Pg) (zs : List Int) : ((p.answer zs).getD []).length ≤ p.outs.length := by
  unfold Pg.answer
  cases runO p.code (regs0 p.regs.toNat zs) with
  | none => simp
  | some r => simp
/-- exact.Run, its answer under a name. -/
theorem run_named {w : World} {v u : Value} {p : Pg} {zs : List Int} {N0 : Nat} {er : Int} {L : List Int} (h : PgB w v p) (hz : SlN w u zs N0) (hr : p.Right) (hn : (zs.length : Int) = p.ins) (hN : N0 ≤ 1000)
    (he : (if (p.answer zs).isSome then (0 : Int) else 20) = er) (hL : (p.answer zs).getD [] = L) :
    Calls Try.prog 14 #[v, u] w fun e w' => (∃ v k, e = .returned (.tuple #[v, .int .i64 k, .int .i64 er]) ∧ SlN w' v L (N0 + 11 * p.code.length + 5)) ∧ Below w.heap.size w w' := by
  subst he hL
  exact run_ok h hz hr hn hN
set_option maxHeartbeats 8000000 in
set_option maxRecDepth 100000 in
theorem sharesame_walk {w : World} {v : Value} {p : Pg} {A : Option Addr} {l : List Int} {c : Nat} (h : PgB w v p) (hl : RdL w A l) (hw : ∀ j, j < l.length → -9223372036854775808 ≤ lg l j ∧ lg l j < 9223372036854775808) :
    Calls Try.prog 3 #[v, .slice A l.length c] w fun e w' => e = .returned (.bool true) ∧ Below w.heap.size w w' := by
  obtain ⟨Ap, cp, Bp, dp, rfl⟩ := h.agg
  have x0 := Blk.new w 25 #[.int .i64 p.ins, .int .i64 p.regs, .slice Ap p.code.length cp, .slice Bp p.outs.length dp]
  have b0 := (Below.refl w.heap.size w).alloc (Nat.le_refl _) (.cells #[.int .i64 p.ins, .int .i64 p.regs, .slice Ap p.code.length cp, .slice Bp p.outs.length dp] 25)
  have HW := hide hw
  have HP := hide h
  have HL := hide hl
  clear hw h hl
  go_enter Try.func3, Try.ntmps3
  go_wp2_with fail
  generalize w.alloc _ = W at *
  refine live14_calls.mono ?_
  rintro e w1 ⟨rfl, hb1⟩
  have b1 := below_to b0 hb1
  have x1 := Blk.below x0 hb1 x0.lt
  clear b0 hb1 x0
  obtain ⟨p0, p1, p2, p3⟩ := pg4 x1
  have HR := hide (refright_calls (HP.out.below b1))
  go_wp2_with fail
  refine HR.out.mono ?_
  rintro e w2 ⟨rfl, hb2⟩
  have b2 := below_to b1 hb2
  have x2 := Blk.below x1 hb2 x1.lt
  clear b1 hb2 x1 p0 p1 p2 p3 HR
  obtain ⟨p0, p1, p2, p3⟩ := pg4 x2
  have HLg := hide (long14_calls (HP.out.below b2))
  go_wp2_with fail
  refine HLg.out.mono ?_
  rintro e w3 ⟨rfl, hb3⟩
  have b3 := below_to b2 hb3
  have x3 := Blk.below x2 hb3 x2.lt
  clear b2 hb3 x2 p0 p1 p2 p3 HLg
  obtain ⟨p0, p1, p2, p3⟩ := pg4 x3
  by_cases hlong : 150 < p.code.length ∨ 150 < p.outs.length
  · have e1 : decide (150 < p.code.length ∨ 150 < p.outs.length) = true := decide_eq_true hlong
    rw [e1]
    clear hlong e1
    go_wp2
    go_ret
    exact ⟨rfl, b3⟩
  have e1 : decide (150 < p.code.length ∨ 150 < p.outs.length) = false := decide_eq_false hlong
  rw [e1]
  have hlen : p.code.length ≤ 150 ∧ p.outs.length ≤ 150 := by omega
  clear e1 hlong
  obtain ⟨hlc, hlo⟩ := hlen
  by_cases hr : p.Right
  case neg =>
    have e1 : decide p.Right = false := decide_eq_false hr
    rw [e1]
    clear hr e1
    go_wp2
    go_ret
    exact ⟨rfl, b3⟩
  have e1 : decide p.Right = true := decide_eq_true hr
  rw [e1]
  have HRt := hide hr
  clear hr e1
  by_cases hn : (l.length : Int) = p.ins
  case neg =>
    have e1 : ((l.length : Int) != p.ins) = true := by simpa using hn
    clear hn
    go_wp2
    go_ret
    exact ⟨rfl, b3⟩
  have hne : ((l.length : Int) != p.ins) = false := by simpa using hn
  have HN := hide hn
  clear hn
  have HS := hide (shifts14_calls (HP.out.below b3) (by omega))
  go_wp2_with fail
  refine HS.out.mono ?_
  rintro e w4 ⟨⟨ns, rfl⟩, hb4⟩
  have b4 := below_to b3 hb4
  have x4 := Blk.below x3 hb4 x3.lt
  clear b3 hb4 x3 p0 p1 p2 p3 HS
  obtain ⟨p0, p1, p2, p3⟩ := pg4 x4
  by_cases hns : 12 < ns
  · go_wp2
    go_ret
    exact ⟨rfl, b4⟩
  have hns' : decide (12 < ns) = false := decide_eq_false hns
  clear hns
  have HQ := hide (sharepass_calls (HP.out.below b4) HRt.out)
  go_wp2_with fail
  refine HQ.out.mono ?_
  rintro e w5 ⟨⟨vq, rfl, hq⟩, hb5⟩
  have b5 := below_to b4 hb5
  have x5 := Blk.below x4 hb5 x4.lt
  have hQr := shareF_right HRt.out
  have hQa := shareF_answer HRt.out HN.out
  have hQc : (shareF p).code.length ≤ p.code.length := passF_length _ _
  have c1 : cntF (shareF p).code 1 ≤ cntF p.code 1 := passF_cnt (by decide) _ _
  have c2 : cntF (shareF p).code 2 ≤ cntF p.code 2 := passF_cnt (by decide) _ _
  have c3 : cntF (shareF p).code 3 ≤ cntF p.code 3 := passF_cnt (by decide) _ _
  have c4 : cntF (shareF p).code 4 ≤ cntF p.code 4 := passF_cnt (by decide) _ _
  have hQi : (shareF p).ins = p.ins := rfl
  have hQg : (shareF p).regs = p.regs := rfl
  generalize shareF p = Q at *
  obtain ⟨qi, qr, qc, qo⟩ := Q
  dsimp only at hQi hQg hQc c1 c2 c3 c4
  subst hQi hQg
  obtain ⟨Aq, cq, Bq, dq, rfl⟩ := hq.agg
  dsimp only at hq
  have HQr := hide hQr
  have HQa := hide hQa
  have hHQ := hide hq
  clear b4 hb5 x4 p0 p1 p2 p3 hQr hQa hq HQ
  have ba := (Below.refl w5.heap.size w5).alloc (Nat.le_refl _) (.cells #[.int .i64 p.ins, .int .i64 p.regs, .slice Aq qc.length cq, .slice Bq qo.length dq] 25)
  have y6 := Blk.new w5 25 #[.int .i64 p.ins, .int .i64 p.regs, .slice Aq qc.length cq, .slice Bq qo.length dq]
  have x6 := x5.alloc (.cells #[.int .i64 p.ins, .int .i64 p.regs, .slice Aq qc.length cq, .slice Bq qo.length dq] 25)
  have b6 := below_to b5 ba
  have hne6 : w5.heap.size ≠ w.heap.size := Nat.ne_of_gt x5.lt
  have hQ6 := hide (hHQ.out.below ba)
  have hdl : decide (p.code.length < qc.length) = false := decide_eq_false (by omega)
  obtain ⟨p0, p1, p2, p3⟩ := pg4 x6
  obtain ⟨r0, r1, r2, r3⟩ := pg4 y6
  go_wp2_with fail
  clear hdl x5 b5 hHQ ba p0 p1 p2 p3 r0 r1 r2 r3
  generalize w5.alloc _ = W6 at *
  generalize w5.heap.size = g6 at *
  clear w5
  -- the first run
  have x6d : Blk W6.drew _ _ _ := x6
  have y6d : Blk W6.drew _ _ _ := y6
  have b6d := b6.drew
  obtain ⟨p0, p1, p2, p3⟩ := pg4 x6d
  obtain ⟨er, her⟩ := named (if (p.answer l).isSome then (0 : Int) else 20)
  obtain ⟨Lr, hLr⟩ := named ((p.answer l).getD [])
  have hll : l.length ≤ 1000 := by have := HRt.out.1.2.1; have := HRt.out.1.2.2.1; have := HN.out; omega
  have HOf := hide (rowof_calls (c := c) (HL.out.below b6d) (by omega) HW.out)
  go_region_held3 (fun w' => w'.cell? ⟨w.heap.size, 0, none⟩ = some (.int .i64 p.ins) ∧ w'.cell? ⟨w.heap.size, 1, none⟩ = some (.int .i64 p.regs) ∧ w'.cell? ⟨w.heap.size, 2, none⟩ = some (.slice Ap p.code.length cp) ∧ w'.cell? ⟨w.heap.size, 3, none⟩ = some (.slice Bp p.outs.length dp))
    (first | exact ⟨p0, p1, p2, p3⟩ | exact ⟨m0, m1, m2, m3⟩ | exact ⟨n0, n1, n2, n3⟩)
    (first
      | (go_at_call 15
         refine HOf.out.mono ?_
         rintro e w7 ⟨⟨v7, rfl, h7⟩, hb7⟩
         obtain ⟨A7, c7, rfl, hc7, hr7⟩ := h7.sl
         have m0 := below_cell hb7 p0
         have m1 := below_cell hb7 p1
         have m2 := below_cell hb7 p2
         have m3 := below_cell hb7 p3)
      | (go_at_call 14
         refine (run_named (HP.out.below (below_to b6d hb7)) ⟨A7, c7, rfl, hc7, hr7⟩ HRt.out HN.out (by omega) her.out hLr.out).mono ?_
         rintro e w8 ⟨⟨v8, k8, rfl, A8, c8, rfl, hc8, hr8⟩, hb8⟩
         have n0 := below_cell hb8 m0
         have n1 := below_cell hb8 m1
         have n2 := below_cell hb8 m2
         have n3 := below_cell hb8 m3))
  have b8 := below_to (below_to b6d hb7) hb8
  have x8 := Blk.below (Blk.below x6d hb7 x6d.lt) hb8 (Blk.below x6d hb7 x6d.lt).lt
  have y8 := Blk.below (Blk.below y6d hb7 y6d.lt) hb8 (Blk.below y6d hb7 y6d.lt).lt
  have hQ6d : PgB W6.drew _ _ := hQ6.out
  have hQ8 := hide ((hQ6d.below hb7).below hb8)
  clear hQ6 hQ6d x6 y6 b6 x6d y6d b6d p0 p1 p2 p3 m0 m1 m2 m3 n0 n1 n2 n3 hb7 hb8 hc7 hr7 h7 HOf
  -- the second run
  have x8d : Blk w8.drew _ _ _ := x8
  have y8d : Blk w8.drew _ _ _ := y8
  have hr8d : RdN w8.drew _ _ _ := hr8
  have b8d := b8.drew
  have hQ8d : PgB w8.drew _ _ := hQ8.out
  have HQ8d := hide hQ8d
  clear hQ8d
  obtain ⟨p0, p1, p2, p3⟩ := pg4 y8d
  have HOf := hide (rowof_calls (c := c) (HL.out.below b8d) (by omega) HW.out)
  have heq : (if (Pg.answer ⟨p.ins, p.regs, qc, qo⟩ l).isSome then (0 : Int) else 20) = er := by rw [HQa.out]; exact her.out
  have hLq : (Pg.answer ⟨p.ins, p.regs, qc, qo⟩ l).getD [] = Lr := by rw [HQa.out]; exact hLr.out
  have HEq := hide heq
  have HLq := hide hLq
  clear heq hLq
  go_wp2_with fail
  go_region_held3 (fun w' => w'.cell? ⟨g6, 0, none⟩ = some (.int .i64 p.ins) ∧ w'.cell? ⟨g6, 1, none⟩ = some (.int .i64 p.regs) ∧ w'.cell? ⟨g6, 2, none⟩ = some (.slice Aq qc.length cq) ∧ w'.cell? ⟨g6, 3, none⟩ = some (.slice Bq qo.length dq))
    (first | exact ⟨p0, p1, p2, p3⟩ | exact ⟨m0, m1, m2, m3⟩ | exact ⟨n0, n1, n2, n3⟩)
    (first
      | (go_at_call 15
         refine HOf.out.mono ?_
         rintro e w9 ⟨⟨v9, rfl, h9⟩, hb9⟩
         obtain ⟨A9, c9, rfl, hc9, hr9⟩ := h9.sl
         have m0 := below_cell hb9 p0
         have m1 := below_cell hb9 p1
         have m2 := below_cell hb9 p2
         have m3 := below_cell hb9 p3)
      | (go_at_call 14
         refine (run_named (HQ8d.out.below hb9) ⟨A9, c9, rfl, hc9, hr9⟩ HQr.out HN.out (by omega) HEq.out HLq.out).mono ?_
         rintro e wa ⟨⟨va, ka, rfl, Aa, ca, rfl, hca, hra⟩, hba⟩
         have n0 := below_cell hba m0
         have n1 := below_cell hba m1
         have n2 := below_cell hba m2
         have n3 := below_cell hba m3))
  have ba := below_to (below_to b8d hb9) hba
  have xa := Blk.below (Blk.below x8d hb9 x8d.lt) hba (Blk.below x8d hb9 x8d.lt).lt
  have ya := Blk.below (Blk.below y8d hb9 y8d.lt) hba (Blk.below y8d hb9 y8d.lt).lt
  have hQa' := hide ((HQ8d.out.below hb9).below hba)
  have hPa := hide (HP.out.below ba)
  have hr8a := (hr8d.below hb9).below hba
  clear HQ8d hQ8 x8 y8 x8d y8d hr8 hr8d b8 b8d p0 p1 p2 p3 m0 m1 m2 m3 n0 n1 n2 n3 hb9 hba hc9 hr9 h9 HOf
  obtain ⟨a0, ha0⟩ := named (cntF p.code 0)
  obtain ⟨a1, ha1⟩ := named (cntF p.code 1)
  obtain ⟨a2, ha2⟩ := named (cntF p.code 2)
  obtain ⟨a3, ha3⟩ := named (cntF p.code 3)
  obtain ⟨a4, ha4⟩ := named (cntF p.code 4)
  obtain ⟨d0, hd0⟩ := named (cntF qc 0)
  obtain ⟨d1, hd1⟩ := named (cntF qc 1)
  obtain ⟨d2, hd2⟩ := named (cntF qc 2)
  obtain ⟨d3, hd3⟩ := named (cntF qc 3)
  obtain ⟨d4, hd4⟩ := named (cntF qc 4)
  rw [ha1.out, hd1.out] at c1
  rw [ha2.out, hd2.out] at c2
  rw [ha3.out, hd3.out] at c3
  rw [ha4.out, hd4.out] at c4
  have HCp0 := fun (W : World) (hb : Below wa.heap.size wa W) => count_calls (hPa.out.below hb) (by omega)
  have HCq0 := fun (W : World) (hb : Below wa.heap.size wa W) => count_calls (hQa'.out.below hb) (by show qc.length ≤ 16384; omega)
  simp only [ha0.out, ha1.out, ha2.out, ha3.out, ha4.out] at HCp0
  simp only [hd0.out, hd1.out, hd2.out, hd3.out, hd4.out] at HCq0
  have HCp := hide HCp0
  have HCq := hide HCq0
  clear HCp0 HCq0
  go_upto_region 11 with fail
  go_cut [14, 15] (fun s14 s15 wx => ∃ g1 g2, s14 = .pointer (some ⟨g1, 0, none⟩) ∧ s15 = .pointer (some ⟨g2, 0, none⟩) ∧ Blk wx g1 37 (five a0 a1 a2 a3 a4) ∧ Blk wx g2 37 (five d0 d1 d2 d3 d4) ∧ Below wa.heap.size wa wx)
  case first =>
    obtain ⟨p0, p1, p2, p3⟩ := pg4 xa
    obtain ⟨q0, q1, q2, q3⟩ := pg4 ya
    refine region_inv (by kernel_rfl) (by kernel_rfl) (fun L a' w' => ∃ u14 u15 u84 u85 u86 u87 : Value, a' = { tmps := #[.agg #[.int .i64 p.ins, .int .i64 p.regs, .slice Ap p.code.length cp, .slice Bp p.outs.length dp], .slice A l.length c, .pointer (some ⟨w.heap.size, 0, none⟩), undef, .bool false, .bool true, .pointer (some ⟨g6, 0, none⟩), .int .i64 0, .slice A8 Lr.length c8, .int .i64 k8, .int .i64 er, .slice Aa Lr.length ca, .int .i64 ka, .int .i64 er, u14, u15, .bool true, .bool false, .agg #[.int .i64 p.ins, .int .i64 p.regs, .slice Ap p.code.length cp, .slice Bp p.outs.length dp], .bool true, .agg #[.int .i64 p.ins, .int .i64 p.regs, .slice Ap p.code.length cp, .slice Bp p.outs.length dp], .bool false, .bool false, .bool true, .bool false, .bool false, .bool false, .slice A l.length c, .int .i64 (l.length : Int), .pointer (some ⟨w.heap.size, 0, none⟩), .int .i64 p.ins, .bool false, .bool false, .bool false, .agg #[.int .i64 p.ins, .int .i64 p.regs, .slice Ap p.code.length cp, .slice Bp p.outs.length dp], .int .i64 ns, .bool false, .bool false, .tuple #[.agg #[.int .i64 p.ins, .int .i64 p.regs, .slice Aq qc.length cq, .slice Bq qo.length dq], .int .i64 0], .agg #[.int .i64 p.ins, .int .i64 p.regs, .slice Ap p.code.length cp, .slice Bp p.outs.length dp], .tuple #[.agg #[.int .i64 p.ins, .int .i64 p.regs, .slice Aq qc.length cq, .slice Bq qo.length dq], .int .i64 0], .agg #[.int .i64 p.ins, .int .i64 p.regs, .slice Aq qc.length cq, .slice Bq qo.length dq], .int .i64 0, .int .i64 0, .bool false, .bool false, .pointer (some ⟨g6, 2, none⟩), .slice Aq qc.length cq, .int .i64 (qc.length : Int), .pointer (some ⟨w.heap.size, 2, none⟩), .slice Ap p.code.length cp, .int .i64 (p.code.length : Int), .bool false, .bool false, .bool false, .pointer (some ⟨g6, 0, none⟩), .int .i64 p.ins, .pointer (some ⟨w.heap.size, 0, none⟩), .int .i64 p.ins, .bool false, .bool false, .bool false, .pointer (some ⟨g6, 1, none⟩), .int .i64 p.regs, .pointer (some ⟨w.heap.size, 1, none⟩), .int .i64 p.regs, .bool false, .bool false, .tuple #[.slice A8 Lr.length c8, .int .i64 k8, .int .i64 er], .agg #[.int .i64 p.ins, .int .i64 p.regs, .slice Ap p.code.length cp, .slice Bp p.outs.length dp], .slice A l.length c, .slice A7 l.length c7, .tuple #[.slice A8 Lr.length c8, .int .i64 k8, .int .i64 er], .slice A8 Lr.length c8, .int .i64 k8, .int .i64 er, .tuple #[.slice Aa Lr.length ca, .int .i64 ka, .int .i64 er], .agg #[.int .i64 p.ins, .int .i64 p.regs, .slice Aq qc.length cq, .slice Bq qo.length dq], .slice A l.length c, .slice A9 l.length c9, .tuple #[.slice Aa Lr.length ca, .int .i64 ka, .int .i64 er], .slice Aa Lr.length ca, .int .i64 ka, .int .i64 er, u84, u85, u86, u87, undef, undef, undef, undef, undef, undef, undef, undef, undef, undef, undef, undef, undef, undef, undef, undef, undef, undef, undef, undef, undef, undef, undef, undef, undef, undef, undef, undef, undef, undef, undef, undef, undef, undef, undef, undef], defers := [] } ∧
      (L 0 = true → u84 = .agg #[.int .i64 p.ins, .int .i64 p.regs, .slice Ap p.code.length cp, .slice Bp p.outs.length dp]) ∧ (L 1 = true → u85 = .agg (five a0 a1 a2 a3 a4)) ∧
      (L 2 = true → u86 = .agg #[.int .i64 p.ins, .int .i64 p.regs, .slice Aq qc.length cq, .slice Bq qo.length dq]) ∧ (L 3 = true → u87 = .agg (five d0 d1 d2 d3 d4)) ∧
      Below wa.heap.size wa w' ∧
      (L 4 = true → ∃ g x0 x1 x2 x3 x4, u14 = .pointer (some ⟨g, 0, none⟩) ∧ wa.heap.size ≤ g ∧ Blk w' g 37 #[x0, x1, x2, x3, x4] ∧ (L 6 = true → #[x0, x1, x2, x3, x4] = five a0 a1 a2 a3 a4)) ∧
      (L 5 = true → ∃ g x0 x1 x2 x3 x4, u15 = .pointer (some ⟨g, 0, none⟩) ∧ wa.heap.size ≤ g ∧ Blk w' g 37 #[x0, x1, x2, x3, x4] ∧ (L 7 = true → #[x0, x1, x2, x3, x4] = five d0 d1 d2 d3 d4)) ∧
      (L 4 = true → L 5 = true → u14 ≠ u15) ∧ (L 6 = true → L 4 = true) ∧ (L 7 = true → L 5 = true)) ?_ ?_ ?_
    · (repeat apply Exists.intro)
      refine ⟨rfl, ?_⟩
      (repeat' apply And.intro) <;> first | exact (Below.refl _ _).drew | (intro h; cases h)
    · intro i hi L a' w' o ho hL hdep hI K hK
      obtain ⟨u14, u15, u84, u85, u86, u87, rfl, f0, f1, f2, f3, fb, f4, f5, fn, fg, fh⟩ := hI
      have k0 := below_cell fb p0
      have k1 := below_cell fb p1
      have k2 := below_cell fb p2
      have k3 := below_cell fb p3
      have l0 := below_cell fb q0
      have l1 := below_cell fb q1
      have l2 := below_cell fb q2
      have l3 := below_cell fb q3
      rcases i with _ | _ | _ | _ | _ | _ | _ | _ | i
      · simp only [List.getElem?_toArray, List.getElem?_cons_zero, Option.some.injEq] at ho
        subst ho
        go_simp
        refine hK.out _ _ ?_
        (repeat apply Exists.intro)
        exact ⟨rfl, fun _ => rfl, f1, f2, f3, fb, f4, f5, fn, fg, fh⟩
      · simp only [List.getElem?_toArray, List.getElem?_cons_succ, List.getElem?_cons_zero, Option.some.injEq] at ho
        subst ho
        have d0' : L 0 = true := hdep ⟨0, .data⟩ (by simp) rfl
        obtain rfl := f0 d0'
        go_simp
        refine (HCp.out w' fb).mono ?_
        rintro e w2 ⟨rfl, hb2⟩
        refine hK.out _ _ ?_
        (repeat apply Exists.intro)
        exact ⟨rfl, f0, (fun _ => rfl), f2, f3, (below_to fb hb2), (fun h => by obtain ⟨g, x0, x1, x2, x3, x4, e1, e2, e3, e4⟩ := f4 h; exact ⟨g, x0, x1, x2, x3, x4, e1, e2, Blk.below e3 hb2 e3.lt, e4⟩), (fun h => by obtain ⟨g, x0, x1, x2, x3, x4, e1, e2, e3, e4⟩ := f5 h; exact ⟨g, x0, x1, x2, x3, x4, e1, e2, Blk.below e3 hb2 e3.lt, e4⟩), fn, fg, fh⟩
      · simp only [List.getElem?_toArray, List.getElem?_cons_succ, List.getElem?_cons_zero, Option.some.injEq] at ho
        subst ho
        go_simp
        refine hK.out _ _ ?_
        (repeat apply Exists.intro)
        exact ⟨rfl, f0, f1, fun _ => rfl, f3, fb, f4, f5, fn, fg, fh⟩
      · simp only [List.getElem?_toArray, List.getElem?_cons_succ, List.getElem?_cons_zero, Option.some.injEq] at ho
        subst ho
        have d0' : L 2 = true := hdep ⟨2, .data⟩ (by simp) rfl
        obtain rfl := f2 d0'
        go_simp
        refine (HCq.out w' fb).mono ?_
        rintro e w2 ⟨rfl, hb2⟩
        refine hK.out _ _ ?_
        (repeat apply Exists.intro)
        exact ⟨rfl, f0, f1, f2, (fun _ => rfl), (below_to fb hb2), (fun h => by obtain ⟨g, x0, x1, x2, x3, x4, e1, e2, e3, e4⟩ := f4 h; exact ⟨g, x0, x1, x2, x3, x4, e1, e2, Blk.below e3 hb2 e3.lt, e4⟩), (fun h => by obtain ⟨g, x0, x1, x2, x3, x4, e1, e2, e3, e4⟩ := f5 h; exact ⟨g, x0, x1, x2, x3, x4, e1, e2, Blk.below e3 hb2 e3.lt, e4⟩), fn, fg, fh⟩
      · simp only [List.getElem?_toArray, List.getElem?_cons_succ, List.getElem?_cons_zero, Option.some.injEq] at ho
        subst ho
        go_simp
        refine hK.out _ _ ?_
        (repeat apply Exists.intro)
        exact ⟨rfl, f0, f1, f2, f3, (fb.alloc fb.size _), (fun _ => ⟨w'.heap.size, _, _, _, _, _, rfl, fb.size, Blk.new w' 37 (five 0 0 0 0 0), fun h6 => absurd (fg h6) (by rw [hL]; decide)⟩), (fun h => by obtain ⟨g, x0, x1, x2, x3, x4, e1, e2, e3, e4⟩ := f5 h; exact ⟨g, x0, x1, x2, x3, x4, e1, e2, e3.alloc _, e4⟩), (fun _ h => by obtain ⟨g, x0, x1, x2, x3, x4, e1, e2, e3, e4⟩ := f5 h; rw [e1]; intro e; injection e with e; injection e with e; injection e with e; exact absurd e3.lt (by rw [← e]; exact Nat.lt_irrefl _)), (fun _ => rfl), fh⟩
      · simp only [List.getElem?_toArray, List.getElem?_cons_succ, List.getElem?_cons_zero, Option.some.injEq] at ho
        subst ho
        go_simp
        refine hK.out _ _ ?_
        (repeat apply Exists.intro)
        exact ⟨rfl, f0, f1, f2, f3, (fb.alloc fb.size _), (fun h => by obtain ⟨g, x0, x1, x2, x3, x4, e1, e2, e3, e4⟩ := f4 h; exact ⟨g, x0, x1, x2, x3, x4, e1, e2, e3.alloc _, e4⟩), (fun _ => ⟨w'.heap.size, _, _, _, _, _, rfl, fb.size, Blk.new w' 37 (five 0 0 0 0 0), fun h6 => absurd (fh h6) (by rw [hL]; decide)⟩), (fun h _ => by obtain ⟨g, x0, x1, x2, x3, x4, e1, e2, e3, e4⟩ := f4 h; rw [e1]; intro e; injection e with e; injection e with e; injection e with e; exact absurd e3.lt (by rw [e]; exact Nat.lt_irrefl _)), fg, (fun _ => rfl)⟩
      · simp only [List.getElem?_toArray, List.getElem?_cons_succ, List.getElem?_cons_zero, Option.some.injEq] at ho
        subst ho
        have d1' : L 1 = true := hdep ⟨1, .data⟩ (by simp) rfl
        have d4' : L 4 = true := hdep ⟨4, .data⟩ (by simp) rfl
        obtain rfl := f1 d1'
        obtain ⟨g, x0, x1, x2, x3, x4, rfl, e2, e3, e4⟩ := f4 d4'
        have k0 := Blk.cell e3 0
        have k1 := Blk.cell e3 1
        have k2 := Blk.cell e3 2
        have k3 := Blk.cell e3 3
        have k4 := Blk.cell e3 4
        have r0 := Blk.frozen e3 0
        have r1 := Blk.frozen e3 1
        have r2 := Blk.frozen e3 2
        have r3 := Blk.frozen e3 3
        have r4 := Blk.frozen e3 4
        simp at k0 k1 k2 k3 k4
        have hset := ((((e3.set 0 (.int .i64 a0)).set 1 (.int .i64 a1)).set 2 (.int .i64 a2)).set 3 (.int .i64 a3)).set 4 (.int .i64 a4)
        go_simp
        refine hK.out _ _ ?_
        (repeat apply Exists.intro)
        exact ⟨rfl, f0, f1, f2, f3, (((((fb.setCell (p := ⟨g, 0, none⟩) e2 _).setCell (p := ⟨g, 1, none⟩) e2 _).setCell (p := ⟨g, 2, none⟩) e2 _).setCell (p := ⟨g, 3, none⟩) e2 _).setCell (p := ⟨g, 4, none⟩) e2 _), (fun _ => ⟨g, _, _, _, _, _, rfl, e2, hset, fun _ => rfl⟩), (fun h => by obtain ⟨g', x0', x1', x2', x3', x4', e1', e2', e3', e4'⟩ := f5 h; have hgg : g' ≠ g := (by rintro rfl; exact fn d4' h (by rw [e1'])); exact ⟨g', x0', x1', x2', x3', x4', e1', e2', ((((e3'.far (p := ⟨g, 0, none⟩) hgg _).far (p := ⟨g, 1, none⟩) hgg _).far (p := ⟨g, 2, none⟩) hgg _).far (p := ⟨g, 3, none⟩) hgg _).far (p := ⟨g, 4, none⟩) hgg _, e4'⟩), fn, (fun _ => d4'), fh⟩
      · simp only [List.getElem?_toArray, List.getElem?_cons_succ, List.getElem?_cons_zero, Option.some.injEq] at ho
        subst ho
        have d1' : L 3 = true := hdep ⟨3, .data⟩ (by simp) rfl
        have d4' : L 5 = true := hdep ⟨5, .data⟩ (by simp) rfl
        obtain rfl := f3 d1'
        obtain ⟨g, x0, x1, x2, x3, x4, rfl, e2, e3, e4⟩ := f5 d4'
        have k0 := Blk.cell e3 0
        have k1 := Blk.cell e3 1
        have k2 := Blk.cell e3 2
        have k3 := Blk.cell e3 3
        have k4 := Blk.cell e3 4
        have r0 := Blk.frozen e3 0
        have r1 := Blk.frozen e3 1
        have r2 := Blk.frozen e3 2
        have r3 := Blk.frozen e3 3
        have r4 := Blk.frozen e3 4
        simp at k0 k1 k2 k3 k4
        have hset := ((((e3.set 0 (.int .i64 d0)).set 1 (.int .i64 d1)).set 2 (.int .i64 d2)).set 3 (.int .i64 d3)).set 4 (.int .i64 d4)
        go_simp
        refine hK.out _ _ ?_
        (repeat apply Exists.intro)
        exact ⟨rfl, f0, f1, f2, f3, (((((fb.setCell (p := ⟨g, 0, none⟩) e2 _).setCell (p := ⟨g, 1, none⟩) e2 _).setCell (p := ⟨g, 2, none⟩) e2 _).setCell (p := ⟨g, 3, none⟩) e2 _).setCell (p := ⟨g, 4, none⟩) e2 _), (fun h => by obtain ⟨g', x0', x1', x2', x3', x4', e1', e2', e3', e4'⟩ := f4 h; have hgg : g' ≠ g := (by rintro rfl; exact fn h d4' (by rw [e1'])); exact ⟨g', x0', x1', x2', x3', x4', e1', e2', ((((e3'.far (p := ⟨g, 0, none⟩) hgg _).far (p := ⟨g, 1, none⟩) hgg _).far (p := ⟨g, 2, none⟩) hgg _).far (p := ⟨g, 3, none⟩) hgg _).far (p := ⟨g, 4, none⟩) hgg _, e4'⟩), (fun _ => ⟨g, _, _, _, _, _, rfl, e2, hset, fun _ => rfl⟩), fn, fg, (fun _ => d4')⟩
      · exact absurd hi (by simp)
    · intro L a' w' hall hI
      obtain ⟨u14, u15, u84, u85, u86, u87, rfl, f0, f1, f2, f3, fb, f4, f5, fn, fg, fh⟩ := hI
      obtain ⟨g, x0, x1, x2, x3, x4, rfl, e2, e3, e4⟩ := f4 (hall 4)
      obtain ⟨g', x0', x1', x2', x3', x4', rfl, e2', e3', e4'⟩ := f5 (hall 5)
      rw [e4 (hall 6)] at e3
      rw [e4' (hall 7)] at e3'
      go_wp2_with fail
      go_meet
      case rel => exact ⟨g, g', rfl, rfl, e3, e3', fb⟩
  case rest =>
    obtain ⟨g1, g2, rfl, rfl, z1, z2, bz⟩ := hcut
    have hr8z := hr8a.below bz
    have hraz := hra.below bz
    have hLl : Lr.length ≤ 150 := by rw [← hLr.out]; exact Nat.le_trans (answer_length p l) hlo
    have HSm := hide (rowsame_calls (c := c8) (d := ca) hr8z hraz (by omega) (by omega) (by omega) (by omega))
    have hdd : decide (Lr = Lr) = true := by simp
    rw [hdd] at HSm
    go_wp2_with fail
    refine HSm.out.mono ?_
    rintro e wf ⟨rfl, hbf⟩
    have y1 := Blk.below z1 hbf z1.lt
    have y2 := Blk.below z2 hbf z2.lt
    have k1 : _ = some (Value.int .i64 a1) := Blk.cell y1 1
    have k2 : _ = some (Value.int .i64 a2) := Blk.cell y1 2
    have k3 : _ = some (Value.int .i64 a3) := Blk.cell y1 3
    have k4 : _ = some (Value.int .i64 a4) := Blk.cell y1 4
    have l1 : _ = some (Value.int .i64 d1) := Blk.cell y2 1
    have l2 : _ = some (Value.int .i64 d2) := Blk.cell y2 2
    have l3 : _ = some (Value.int .i64 d3) := Blk.cell y2 3
    have l4 : _ = some (Value.int .i64 d4) := Blk.cell y2 4
    go_wp2
    all_goals
      go_ret
      refine ⟨ret_bool ?_, below_to (below_to ba bz) hbf⟩
      simp_all
end Go.Proofs.Ytnchlckncknaiaa
namespace Go.Proofs.Ytnchlckncknaiaa
open Go.ChangeShapes Go.WideShapes Go.ChangeAt Go.RowKit

theorem own : ownKnob Try.prog.godebug = none := by kernel_rfl
theorem recPg : Try.prog.readableRec 25 = true := by kernel_rfl
theorem recL : Try.prog.readableRec 26 = true := by kernel_rfl
theorem rowPg : (25 : TypeId) < Try.prog.types.size := of_decide_eq_true (by kernel_rfl)
theorem rowL : (26 : TypeId) < Try.prog.types.size := of_decide_eq_true (by kernel_rfl)
theorem cellsI64 : Try.prog.cellsOf 2 = 1 := by kernel_rfl

set_option maxRecDepth 100000 in
theorem sharesame_lifted (os : Os) (started : os.Started) (H : Type) (enc : TypeId × Value → H) :
    ReturnsInHanded {} Try.checked os 3 .any (Rows.shareSameSpec.pre6 enc Try.prog Try.f3 Rows.shareSameRow.domain false) (Rows.shareSameSpec.post enc Try.prog Try.f3 false true false false) := by
  refine returnsInHanded_of_change (C := Try.checked) own started (by kernel_rfl) Try.func3
    (ChangeSpec.witness6 (enc := enc) (C := Try.checked) false ⟨#[], #[.agg #[.int .i64 0, .int .i64 0, .slice none 0 0, .slice none 0 0], .slice none 0 0], []⟩ 8 (by kernel_rfl) (by kernel_rfl) (by kernel_rfl) (by kernel_rfl)) ?_
  intro W base args ds gs before hval0 hW hcnd _
  have hval : ∀ (j : Nat) t v, Try.f3.params[j]? = some t → args[j]? = some v → Value.okWide Try.prog W .any base t v := hval0
  have hW' := hW
  obtain ⟨p, q, hA0, hV, rfl, hfz, hnd⟩ := hW
  have hA : DataW.TrodAll enc Try.prog W 0 (fun _ => true) true Try.f3.params.toList args.toList ds p := hA0
  rw [Try.params3] at hA hval
  obtain ⟨v0, v1, d0, d1, p0, p1, rfl, rfl, rfl, h0, h1⟩ := trodAll_two hA
  obtain ⟨rfl, rfl⟩ := trodVars_none hV
  clear hA0 hval0
  simp only [List.append_nil] at hW'
  obtain ⟨pg, hP⟩ := open_prog (hval 0 25 v0 rfl rfl) h0
  obtain ⟨a1, len, cap, rfl⟩ := okWide_slice Try.underlying26 (hval 1 26 v1 rfl rfl)
  obtain ⟨fuel, hf⟩ := h1
  have hf' : DataW.trod enc Try.prog W 0 (fun _ => true) true fuel 26 [.slice a1 len cap] = some (d1, p1) := by simpa [Value.cells] using hf
  obtain ⟨A, c, l, e1, hlc, _, hZ, hw⟩ := open_nums Try.underlying26 Try.underlying2 cellsI64 hf'
  rw [e1] at hf hval hA hW' ⊢
  refine (sharesame_walk hP hZ hw).mono fun e W' ⟨he, hb⟩ => ?_
  subst he
  have hlt : ∀ x ∈ p0 ++ p1, x.block < W.heap.size := fun x hx => hW'.lt x hx
  exact ⟨_, rfl, post_below (pa := p0 ++ p1) (pv := []) hW' (fun _ _ _ => (trodAll_cons_mk (shut_bool Try.underlying4 _) trodAll_mk0))
    (fun sp hsp => trodAll_mk2 (trod_later laidOut recPg rowPg h0 hb (fun x hx => hlt x (by simp [hx])) (fun x hx => hsp x (by simp [hx]))) (trod_later laidOut recL rowL ⟨fuel, hf⟩ hb (fun x hx => hlt x (by simp [hx])) (fun x hx => hsp x (by simp [hx]))))
    (fun _ _ => rfl) (by simp) hb (ok_one (by kernel_rfl) rfl (okWide_bool_mk Try.underlying4 _))⟩

theorem sharesame_over : Rows.shareSameRow.holds Try.pinned (OpenSpec.ofChange Rows.shareSameSpec) :=
  OpenClaim.holds_of_wide 3 Try.f3 rfl rfl rfl rfl rfl rfl rfl ⟨rfl, rfl, rfl, rfl, rfl⟩ rfl rfl rfl rfl rfl (by kernel_rfl) Try.func3 (by kernel_rfl)
    (of_decide_eq_true (by kernel_rfl)) (by unfold Func.isWrapper; first | (rw [if_pos (by decide +kernel)]; kernel_rfl) | (rw [if_neg (by decide +kernel)]; exact ⟨rfl, rfl⟩))
    (fun os started H enc _ => sharesame_lifted os started H enc)

theorem sharesame_holds : Rows.ShareSameSaid := sharesame_over
#print axioms sharesame_holds
end Go.Proofs.Ytnchlckncknaiaa
