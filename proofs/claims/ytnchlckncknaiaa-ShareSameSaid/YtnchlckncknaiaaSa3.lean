/- Words and contracts that the claim's last text uses: part 3. -/
import Derived.Test.YtnchlckncknaiaaSa2
import Derived.Laws.AppendOwn
import Derived.OwnWalk
import Derived.Deep.AppendLies
/- exact.do. -/
namespace Go.Proofs.Ytnchlckncknaiaa
open Go.RowKit

abbrev insV (op dst i j c : Int) : Array Value := #[.int .i64 op, .int .i64 dst, .int .i64 i, .int .i64 j, .int .i64 c]
theorem do_new (w : World) (a b : Array Value) :
    let W := ((w.alloc (.cells a 96)).alloc (.cells b 72)).alloc (.cells #[.bool false, .slice none 0 0] 61)
    Blk W w.heap.size 96 a ∧ Blk W (w.heap.size + 1) 72 b ∧ IV W (w.heap.size + 1 + 1) (.bool false) (.slice none 0 0) ∧ Below w.heap.size w W := by
  have h1 := Blk.new w 96 a
  have h2 := Blk.new (w.alloc (.cells a 96)) 72 b
  have h3 := IV.new ((w.alloc (.cells a 96)).alloc (.cells b 72)) (.bool false) (.slice none 0 0)
  rw [World.size_alloc, World.size_alloc] at h3
  rw [World.size_alloc] at h2
  exact ⟨(h1.alloc _).alloc _, h2.alloc _, h3, (((Below.refl _ _).alloc (Nat.le_refl _) _).alloc (by simp) _).alloc (by simp; omega) _⟩

/-- What an instruction sets its register to, and whether it goes. -/
def stepV (op a b c : Int) : Int :=
  if op = 2 then -a else if op = 3 then a + b else if op = 4 then a - b else if op = 5 then a * c else if op = 7 then a * 2 ^ c.toNat else if op = 6 then a / c else if op = 8 then a / 2 ^ c.toNat else a
def stepOk (op a c : Int) : Bool := if op = 6 then decide (a % c = 0) else if op = 8 then decide (a % 2 ^ c.toNat = 0) else true
/-- An instruction's constant is as it must be. -/
def ConstOK (op c : Int) : Prop := (op = 5 ∨ op = 6 → c ≠ 0 ∧ -512 ≤ c ∧ c ≤ 512) ∧ (op = 7 ∨ op = 8 → 1 ≤ c ∧ c ≤ 64)

set_option maxHeartbeats 4000000 in
set_option maxRecDepth 100000 in
theorem do_calls {w : World} {A : Option Addr} {zs : List Int} {N cap : Nat} {op dst c : Int} {i j : Nat} (hr : RdN w A zs N) (hi : i < zs.length) (hj : j < zs.length) (h1 : 1 ≤ op) (h8 : op ≤ 8) (hc : ConstOK op c) (hN : N ≤ 549755800000) :
    Calls Try.prog 91 #[.agg waysA, .slice A zs.length cap, .agg (insV op dst i j c)] w fun e w' => (∃ v, e = .returned (.tuple #[v, .bool (stepOk op (lg zs i) c)]) ∧ IntB w' v (stepV op (lg zs i) (lg zs j) c) (max N 5 + 6)) ∧ Below w.heap.size w w' := by
  obtain ⟨b1, b2, b3, hb0⟩ := do_new w waysA (insV op dst i j c)
  have hr0 := hr.below hb0
  obtain ⟨b, off, rfl, hz⟩ := hr0 (by omega)
  obtain ⟨pi, si, ki, ci, xi0, xi1, Ii⟩ := hz i hi
  obtain ⟨pj, sj, kj, cj, xj0, xj1, Ij⟩ := hz j hj
  have i0 : (0 : Int) ≤ (i : Int) := by omega
  have i1 : (i : Int) < (zs.length : Int) := by omega
  have j0 : (0 : Int) ≤ (j : Int) := by omega
  have j1 : (j : Int) < (zs.length : Int) := by omega
  go_enter Try.func91, Try.ntmps91
  go_upto_region 1 with fail
  generalize hW : ((w.alloc (.cells waysA 96)).alloc (.cells (insV op dst i j c) 72)).alloc (.cells #[.bool false, .slice none 0 0] 61) = W at *
  clear hW
  have e0 : _ = some (Value.int .i64 op) := Blk.cell b2 0
  have e2 : _ = some (Value.int .i64 (i : Int)) := Blk.cell b2 2
  have e3 : _ = some (Value.int .i64 (j : Int)) := Blk.cell b2 3
  have e4 : _ = some (Value.int .i64 c) := Blk.cell b2 4
  go_cut [8, 9] (fun s8 s9 wx => ∃ g1 g2, s8 = .pointer (some ⟨g1, 0, none⟩) ∧ s9 = .pointer (some ⟨g2, 0, none⟩) ∧ w.heap.size + 3 ≤ g1 ∧ IV wx g1 (.bool pi) (.slice si ki ci) ∧ IV wx g2 (.bool pj) (.slice sj kj cj) ∧
    Blk wx w.heap.size 96 waysA ∧ Blk wx (w.heap.size + 1) 72 (insV op dst i j c) ∧ IV wx (w.heap.size + 1 + 1) (.bool false) (.slice none 0 0) ∧ Below w.heap.size w wx ∧
    IntB wx (.agg #[.bool pi, .slice si ki ci]) (lg zs i) N ∧ IntB wx (.agg #[.bool pj, .slice sj kj cj]) (lg zs j) N)
  case first =>
    have n1 := World.new_ne W _ e2
    have n2 := World.new_ne W _ e3
    have n3 := World.new_ne W _ xi0
    have n4 := World.new_ne W _ xi1
    have n5 := World.new_ne W _ xj0
    have n6 := World.new_ne W _ xj1
    go_region_held3 (fun w' => w'.cell? ⟨w.heap.size + 1, 2, none⟩ = some (.int .i64 (i : Int)) ∧ w'.cell? ⟨w.heap.size + 1, 3, none⟩ = some (.int .i64 (j : Int)) ∧ w'.cell? ⟨b, off + i * 2, none⟩ = some (.bool pi) ∧ w'.cell? ⟨b, off + i * 2 + 1, none⟩ = some (.slice si ki ci) ∧ w'.cell? ⟨b, off + j * 2, none⟩ = some (.bool pj) ∧ w'.cell? ⟨b, off + j * 2 + 1, none⟩ = some (.slice sj kj cj))
      (go_keep) (fail)
    all_goals go_wp2_with fail
    all_goals go_meet
    · obtain ⟨p1, p2, hbp⟩ := pair_new W (.bool pi) (.slice si ki ci) (.bool pj) (.slice sj kj cj)
      exact ⟨_, _, rfl, rfl, (by have := b3.lt; omega), p1, p2, Blk.below b1 hbp.drew b1.lt, Blk.below b2 hbp.drew b2.lt, b3.keep hbp.drew, below_to hb0 hbp.drew, Ii.below hbp.drew, Ij.below hbp.drew⟩
    · obtain ⟨p1, p2, hbp⟩ := pair_new W (.bool pj) (.slice sj kj cj) (.bool pi) (.slice si ki ci)
      exact ⟨_, _, rfl, rfl, (by have := b3.lt; omega), p2, p1, Blk.below b1 hbp.drew b1.lt, Blk.below b2 hbp.drew b2.lt, b3.keep hbp.drew, below_to hb0 hbp.drew, Ii.below hbp.drew, Ij.below hbp.drew⟩
  case rest =>
    obtain ⟨g1, g2, rfl, rfl, hg1, v1, v2, y1, y2, y3, hby, Ii2, Ij2⟩ := hcut
    clear hz xi0 xi1 xj0 xj1 Ii Ij b1 b2 b3 e0 e2 e3 e4 hb0
    have e0 : _ = some (Value.int .i64 op) := Blk.cell y2 0
    have e4 : _ = some (Value.int .i64 c) := Blk.cell y2 4
    have w0 : _ = some (fnV 92) := Blk.cell y1 0
    have w1 : _ = some (fnV 93) := Blk.cell y1 1
    have w2 : _ = some (fnV 94) := Blk.cell y1 2
    have w3 : _ = some (fnV 95) := Blk.cell y1 3
    have w4 : _ = some (fnV 96) := Blk.cell y1 4
    have a0 := v1.c0
    have a1 := v1.c1
    have a2 := v2.c0
    have a3 := v2.c1
    have qf : g1 ≠ w.heap.size + 1 + 1 := by omega
    have hop : op = 2 ∨ op = 3 ∨ op = 4 ∨ op = 1 ∨ op = 5 ∨ op = 7 ∨ op = 6 ∨ op = 8 := by omega
    have q30 := y3.c0
    have q31 := y3.c1
    have q3f0 := y3.f 0
    have q3f1 := y3.f 1
    rcases hop with rfl | rfl | rfl | rfl | rfl | rfl | rfl | rfl
    · go_wp2_with fail
      refine (neg_calls Ii2).mono ?_
      rintro e wn ⟨⟨x, rfl, hx⟩, hbn⟩
      have y4 := y3.keep hbn
      have hI := hx
      obtain ⟨n1, s1, us, rfl, ⟨A1, c1, rfl, hc1, hr1⟩, hrest⟩ := hx
      clear hrest
      have hk0 := y4.c0
      have hk1 := y4.c1
      have hf0 := y4.f 0
      have hf1 := y4.f 1
      go_wp2
      exact bp_int_tmp (r := .bool true) rfl rfl rfl rfl y4 (hI.mono (show N ≤ max N 5 + 6 by omega)) (below_to hby hbn) (by omega) fun v W h1 h2 => ⟨⟨v, rfl, by simpa [stepV] using h1⟩, h2⟩
    · go_wp2_with fail
      refine (add_int_calls Ii2 Ij2 (by omega) (by omega)).mono ?_
      rintro e wn ⟨⟨x, rfl, hx⟩, hbn⟩
      have y4 := y3.keep hbn
      have hI := hx
      obtain ⟨n1, s1, us, rfl, ⟨A1, c1, rfl, hc1, hr1⟩, hrest⟩ := hx
      clear hrest
      have hk0 := y4.c0
      have hk1 := y4.c1
      have hf0 := y4.f 0
      have hf1 := y4.f 1
      go_wp2
      exact bp_int_tmp (r := .bool true) rfl rfl rfl rfl y4 (hI.mono (show max N N + 1 ≤ max N 5 + 6 by omega)) (below_to hby hbn) (by omega) fun v W h1 h2 => ⟨⟨v, rfl, by simpa [stepV] using h1⟩, h2⟩
    · go_wp2_with fail
      refine (sub_int_calls Ii2 Ij2 (by omega) (by omega)).mono ?_
      rintro e wn ⟨⟨x, rfl, hx⟩, hbn⟩
      have y4 := y3.keep hbn
      have hI := hx
      obtain ⟨n1, s1, us, rfl, ⟨A1, c1, rfl, hc1, hr1⟩, hrest⟩ := hx
      clear hrest
      have hk0 := y4.c0
      have hk1 := y4.c1
      have hf0 := y4.f 0
      have hf1 := y4.f 1
      go_wp2
      exact bp_int_tmp (r := .bool true) rfl rfl rfl rfl y4 (hI.mono (show max N N + 1 ≤ max N 5 + 6 by omega)) (below_to hby hbn) (by omega) fun v W h1 h2 => ⟨⟨v, rfl, by simpa [stepV] using h1⟩, h2⟩
    · go_wp2
      exact bp_int_tmp (r := .bool true) rfl rfl rfl rfl y3 (Ii2.mono (show N ≤ max N 5 + 6 by omega)) hby (by omega) fun v W h1 h2 => ⟨⟨v, rfl, by simpa [stepV] using h1⟩, h2⟩
    · have hcc := hc.1 (.inl rfl)
      have bx : Below wc.heap.size wc wc.drew := (Below.refl _ _).drew
      have Iid : IntB wc.drew _ _ _ := Ii2
      have y3d : IV wc.drew _ _ _ := y3
      have HO := hide (of_calls (w := wc.drew) c (by omega) (by omega))
      go_wp2_with fail
      go_region_held3 (fun w' => w'.cell? ⟨w.heap.size + 1, 4, none⟩ = some (.int .i64 c) ∧ w'.cell? ⟨w.heap.size, 3, none⟩ = some (fnV 95) ∧ w'.cell? ⟨g1, 0, none⟩ = some (.bool pi) ∧ w'.cell? ⟨g1, 1, none⟩ = some (.slice si ki ci))
        (first | exact ⟨e4, w3, a0, a1⟩ | exact ⟨m0, m1, m2, m3⟩ | exact ⟨p0, p1, p2, p3⟩ | exact ⟨iv_far _ _ (by simp) p0, iv_far _ _ (by simp; omega) p1, iv_far _ _ qf p2, iv_far _ _ qf p3⟩)
        (first
          | (go_at_call 51
             refine HO.out.mono ?_
             rintro e wm ⟨⟨x1, rfl, hx1⟩, hbm⟩
             have m0 := below_cell hbm e4
             have m1 := below_cell hbm w3
             have m2 := below_cell hbm a0
             have m3 := below_cell hbm a1)
          | (go_at_call 95
             refine (mul_int_calls (Iid.below hbm) hx1 (by omega) (by omega)).mono ?_
             rintro e wn ⟨⟨x, rfl, hx⟩, hbn⟩
             have p0 := below_cell hbn m0
             have p1 := below_cell hbn m1
             have p2 := below_cell hbn m2
             have p3 := below_cell hbn m3
             have y4 := (y3d.keep hbm).keep hbn
             have hI := hx
             obtain ⟨n1, s1, us, rfl, ⟨A1, c1, rfl, hc1, hr1⟩, hrest⟩ := hx
             clear hrest
             have hk0 := y4.c0
             have hk1 := y4.c1
             have hf0 := y4.f 0
             have hf1 := y4.f 1))
      go_wp2
      exact bp_int_tmp (r := .bool true) rfl rfl rfl rfl y4 (hI.mono (show N + 2 ≤ max N 5 + 6 by omega)) (below_to (below_to hby.drew hbm) hbn) (by omega) fun v W h1 h2 => ⟨⟨v, rfl, by simpa [stepV] using h1⟩, h2⟩
    · have hcc := hc.2 (.inl rfl)
      have bx : Below wc.heap.size wc wc.drew := (Below.refl _ _).drew
      have Iid : IntB wc.drew _ _ _ := Ii2
      have y3d : IV wc.drew _ _ _ := y3
      have HO := hide (power_calls (w := wc.drew) (n := c.toNat) (by omega))
      have hcn : ((c.toNat : Nat) : Int) = c := Int.toNat_of_nonneg (by omega)
      rw [hcn] at HO
      clear hcn
      go_wp2_with fail
      go_region_held3 (fun w' => w'.cell? ⟨w.heap.size + 1, 4, none⟩ = some (.int .i64 c) ∧ w'.cell? ⟨w.heap.size, 3, none⟩ = some (fnV 95) ∧ w'.cell? ⟨g1, 0, none⟩ = some (.bool pi) ∧ w'.cell? ⟨g1, 1, none⟩ = some (.slice si ki ci))
        (first | exact ⟨e4, w3, a0, a1⟩ | exact ⟨m0, m1, m2, m3⟩ | exact ⟨p0, p1, p2, p3⟩ | exact ⟨iv_far _ _ (by simp) p0, iv_far _ _ (by simp; omega) p1, iv_far _ _ qf p2, iv_far _ _ qf p3⟩)
        (first
          | (go_at_call 132
             refine HO.out.mono ?_
             rintro e wm ⟨⟨x1, rfl, hx1⟩, hbm⟩
             have m0 := below_cell hbm e4
             have m1 := below_cell hbm w3
             have m2 := below_cell hbm a0
             have m3 := below_cell hbm a1)
          | (go_at_call 95
             refine (mul_int_calls (Iid.below hbm) hx1 (by omega) (by omega)).mono ?_
             rintro e wn ⟨⟨x, rfl, hx⟩, hbn⟩
             have p0 := below_cell hbn m0
             have p1 := below_cell hbn m1
             have p2 := below_cell hbn m2
             have p3 := below_cell hbn m3
             have y4 := (y3d.keep hbm).keep hbn
             have hI := hx
             obtain ⟨n1, s1, us, rfl, ⟨A1, c1, rfl, hc1, hr1⟩, hrest⟩ := hx
             clear hrest
             have hk0 := y4.c0
             have hk1 := y4.c1
             have hf0 := y4.f 0
             have hf1 := y4.f 1))
      go_wp2
      exact bp_int_tmp (r := .bool true) rfl rfl rfl rfl y4 (hI.mono (show N + (c.toNat / 32 + 3) ≤ max N 5 + 6 by omega)) (below_to (below_to hby.drew hbm) hbn) (by omega) fun v W h1 h2 => ⟨⟨v, rfl, by simpa [stepV] using h1⟩, h2⟩
    · have hcc := hc.1 (.inr rfl)
      have bx : Below wc.heap.size wc wc.drew := (Below.refl _ _).drew
      have Iid : IntB wc.drew _ _ _ := Ii2
      have y3d : IV wc.drew _ _ _ := y3
      have HO := hide (of_calls (w := wc.drew) c (by omega) (by omega))
      go_wp2_with fail
      go_region_held3 (fun w' => w'.cell? ⟨w.heap.size + 1, 4, none⟩ = some (.int .i64 c) ∧ w'.cell? ⟨w.heap.size, 4, none⟩ = some (fnV 96) ∧ w'.cell? ⟨g1, 0, none⟩ = some (.bool pi) ∧ w'.cell? ⟨g1, 1, none⟩ = some (.slice si ki ci))
        (first | exact ⟨e4, w4, a0, a1⟩ | exact ⟨m0, m1, m2, m3⟩ | exact ⟨p0, p1, p2, p3⟩ | exact ⟨iv_far _ _ (by simp) p0, iv_far _ _ (by simp; omega) p1, iv_far _ _ qf p2, iv_far _ _ qf p3⟩)
        (first
          | (go_at_call 51
             refine HO.out.mono ?_
             rintro e wm ⟨⟨x1, rfl, hx1⟩, hbm⟩
             have m0 := below_cell hbm e4
             have m1 := below_cell hbm w4
             have m2 := below_cell hbm a0
             have m3 := below_cell hbm a1)
          | (go_at_call 96
             refine (over_calls (Iid.below hbm) hx1 (by omega) (by omega) hcc.1).mono ?_
             rintro e wn ⟨⟨x, rfl, hx⟩, hbn⟩
             have p0 := below_cell hbn m0
             have p1 := below_cell hbn m1
             have p2 := below_cell hbn m2
             have p3 := below_cell hbn m3
             have y4 := (y3d.keep hbm).keep hbn
             have hI := hx
             obtain ⟨n1, s1, us, rfl, ⟨A1, c1, rfl, hc1, hr1⟩, hrest⟩ := hx
             clear hrest
             have hk0 := y4.c0
             have hk1 := y4.c1
             have hf0 := y4.f 0
             have hf1 := y4.f 1))
      go_wp2
      exact bp_int_tmp (r := .bool (decide (lg zs i % c = 0))) rfl rfl rfl rfl y4 (hI.mono (show max N 2 + 6 ≤ max N 5 + 6 by omega)) (below_to (below_to hby.drew hbm) hbn) (by omega) fun v W h1 h2 => ⟨⟨v, rfl, by simpa [stepV] using h1⟩, h2⟩
    · have hcc := hc.2 (.inr rfl)
      have bx : Below wc.heap.size wc wc.drew := (Below.refl _ _).drew
      have Iid : IntB wc.drew _ _ _ := Ii2
      have y3d : IV wc.drew _ _ _ := y3
      have HO := hide (power_calls (w := wc.drew) (n := c.toNat) (by omega))
      have hp0 : (2 : Int) ^ c.toNat ≠ 0 := Int.pow_ne_zero (by decide)
      have hcn : ((c.toNat : Nat) : Int) = c := Int.toNat_of_nonneg (by omega)
      rw [hcn] at HO
      clear hcn
      go_wp2_with fail
      go_region_held3 (fun w' => w'.cell? ⟨w.heap.size + 1, 4, none⟩ = some (.int .i64 c) ∧ w'.cell? ⟨w.heap.size, 4, none⟩ = some (fnV 96) ∧ w'.cell? ⟨g1, 0, none⟩ = some (.bool pi) ∧ w'.cell? ⟨g1, 1, none⟩ = some (.slice si ki ci))
        (first | exact ⟨e4, w4, a0, a1⟩ | exact ⟨m0, m1, m2, m3⟩ | exact ⟨p0, p1, p2, p3⟩ | exact ⟨iv_far _ _ (by simp) p0, iv_far _ _ (by simp; omega) p1, iv_far _ _ qf p2, iv_far _ _ qf p3⟩)
        (first
          | (go_at_call 132
             refine HO.out.mono ?_
             rintro e wm ⟨⟨x1, rfl, hx1⟩, hbm⟩
             have m0 := below_cell hbm e4
             have m1 := below_cell hbm w4
             have m2 := below_cell hbm a0
             have m3 := below_cell hbm a1)
          | (go_at_call 96
             refine (over_calls (Iid.below hbm) hx1 (by omega) (by omega) hp0).mono ?_
             rintro e wn ⟨⟨x, rfl, hx⟩, hbn⟩
             have p0 := below_cell hbn m0
             have p1 := below_cell hbn m1
             have p2 := below_cell hbn m2
             have p3 := below_cell hbn m3
             have y4 := (y3d.keep hbm).keep hbn
             have hI := hx
             obtain ⟨n1, s1, us, rfl, ⟨A1, c1, rfl, hc1, hr1⟩, hrest⟩ := hx
             clear hrest
             have hk0 := y4.c0
             have hk1 := y4.c1
             have hf0 := y4.f 0
             have hf1 := y4.f 1))
      go_wp2
      exact bp_int_tmp (r := .bool (decide (lg zs i % 2 ^ c.toNat = 0))) rfl rfl rfl rfl y4 (hI.mono (show max N (c.toNat / 32 + 3) + 6 ≤ max N 5 + 6 by omega)) (below_to (below_to hby.drew hbm) hbn) (by omega) fun v W h1 h2 => ⟨⟨v, rfl, by simpa [stepV] using h1⟩, h2⟩
end Go.Proofs.Ytnchlckncknaiaa
/- A block of numbers that is written. -/
namespace Go.Proofs.Ytnchlckncknaiaa
open Go.RowKit

/-- Cells of words stay as they are behind a store into a cell that holds no word. -/
theorem RdU.not32 {w : World} {A : Option Addr} {n : Nat} {xs : List Int} (h : RdU w A n xs) {p : Addr} (hp : ∀ z, w.cell? p ≠ some (.int .u32 z)) (x : Value) : RdU (w.setCell p x) A n xs :=
  ⟨h.1, fun hn => by
    obtain ⟨b, off, e, hc⟩ := h.2 hn
    refine ⟨b, off, e, fun j hj => ?_⟩
    have hne : (⟨b, off + j, none⟩ : Addr) ≠ p := by
      rintro rfl
      exact hp _ (hc j hj)
    rw [World.cell?_setCell_other _ _ _ _ (Ne.symm hne)]
    exact hc j hj⟩
theorem IntB.not32 {w : World} {v : Value} {z : Int} {N : Nat} (h : IntB w v z N) {p : Addr} (hp : ∀ z, w.cell? p ≠ some (.int .u32 z)) (x : Value) : IntB (w.setCell p x) v z N := by
  obtain ⟨neg, s, xs, e, ⟨A, c, e2, h1, h2⟩, h3⟩ := h
  exact ⟨neg, s, xs, e, ⟨A, c, e2, h1, h2.not32 hp x⟩, h3⟩

/-- Block g holds the numbers zs, two cells each. -/
def NB (w : World) (g : Nat) (zs : List Int) (N : Nat) : Prop :=
  ∃ cs : Array Value, Blk w g 61 cs ∧ cs.size = zs.length * 2 ∧ ∀ j, j < zs.length → ∃ p s k c, cs[j * 2]? = some (.bool p) ∧ cs[j * 2 + 1]? = some (.slice s k c) ∧ IntB w (.agg #[.bool p, .slice s k c]) (lg zs j) N
theorem NB.lt {w : World} {g : Nat} {zs : List Int} {N : Nat} (h : NB w g zs N) : g < w.heap.size := by obtain ⟨cs, h1, _⟩ := h; exact h1.lt
theorem NB.keep {w w' : World} {g : Nat} {zs : List Int} {N : Nat} (h : NB w g zs N) (hb : Below w.heap.size w w') : NB w' g zs N := by
  obtain ⟨cs, h1, h2, h3⟩ := h
  refine ⟨cs, Blk.below h1 hb h1.lt, h2, fun j hj => ?_⟩
  obtain ⟨p, s, k, c, e1, e2, e3⟩ := h3 j hj
  exact ⟨p, s, k, c, e1, e2, e3.below hb⟩
theorem NB.mono {w : World} {g : Nat} {zs : List Int} {N M : Nat} (h : NB w g zs N) (hm : N ≤ M) : NB w g zs M := by
  obtain ⟨cs, h1, h2, h3⟩ := h
  refine ⟨cs, h1, h2, fun j hj => ?_⟩
  obtain ⟨p, s, k, c, e1, e2, e3⟩ := h3 j hj
  exact ⟨p, s, k, c, e1, e2, e3.mono hm⟩
theorem NB.rd {w : World} {g : Nat} {zs : List Int} {N : Nat} (h : NB w g zs N) : RdN w (some ⟨g, 0, none⟩) zs N := fun _ => by
  obtain ⟨cs, h1, h2, h3⟩ := h
  refine ⟨g, 0, rfl, fun j hj => ?_⟩
  obtain ⟨p, s, k, c, e1, e2, e3⟩ := h3 j hj
  exact ⟨p, s, k, c, by rw [Blk.cell h1, Nat.zero_add]; exact e1, by rw [Blk.cell h1, Nat.zero_add]; exact e2, e3⟩
theorem NB.put {w : World} {g : Nat} {zs : List Int} {N : Nat} (h : NB w g zs N) {i : Nat} (hi : i < zs.length) {p : Bool} {s : Option Addr} {k c : Nat} {z : Int} (hz : IntB w (.agg #[.bool p, .slice s k c]) z N) :
    NB ((w.setCell ⟨g, i * 2, none⟩ (.bool p)).setCell ⟨g, i * 2 + 1, none⟩ (.slice s k c)) g (zs.set i z) N := by
  obtain ⟨cs, h1, h2, h3⟩ := h
  obtain ⟨p0, s0, k0, c0, e1, e2, e3⟩ := h3 i hi
  have n1 : ∀ z, w.cell? ⟨g, i * 2, none⟩ ≠ some (.int .u32 z) := by intro z; rw [Blk.cell h1, e1]; simp
  have n2 : ∀ z, (w.setCell ⟨g, i * 2, none⟩ (.bool p)).cell? ⟨g, i * 2 + 1, none⟩ ≠ some (.int .u32 z) := by
    intro z
    rw [Blk.cell (h1.set _ _), Array.getElem?_setIfInBounds_ne (by omega), e2]; simp
  have keep : ∀ {v : Value} {y : Int}, IntB w v y N → IntB ((w.setCell ⟨g, i * 2, none⟩ (.bool p)).setCell ⟨g, i * 2 + 1, none⟩ (.slice s k c)) v y N := fun hv => (hv.not32 n1 _).not32 n2 _
  refine ⟨_, (h1.set _ _).set _ _, by simp [h2], fun j hj => ?_⟩
  rw [List.length_set] at hj
  by_cases hij : j = i
  · subst hij
    refine ⟨p, s, k, c, ?_, ?_, ?_⟩
    · rw [Array.getElem?_setIfInBounds_ne (by omega), Array.getElem?_setIfInBounds_self_of_lt (by omega)]
    · rw [Array.getElem?_setIfInBounds_self_of_lt (by simp; omega)]
    · have : lg (zs.set j z) j = z := by simp [lg, hi]
      rw [this]; exact keep hz
  · obtain ⟨p', s', k', c', f1, f2, f3⟩ := h3 j hj
    refine ⟨p', s', k', c', ?_, ?_, ?_⟩
    · rw [Array.getElem?_setIfInBounds_ne (by omega), Array.getElem?_setIfInBounds_ne (by omega)]; exact f1
    · rw [Array.getElem?_setIfInBounds_ne (by omega), Array.getElem?_setIfInBounds_ne (by omega)]; exact f2
    · have : lg (zs.set i z) j = lg zs j := by
        simp [lg, List.getElem?_set_ne (Ne.symm hij)]
      rw [this]; exact keep f3
end Go.Proofs.Ytnchlckncknaiaa
/- Programs: what they are in memory, what they reckon. -/
namespace Go.Proofs.Ytnchlckncknaiaa
open Go.RowKit

/-- An instruction: operation, the register that it sets, those that it asks, its constant. -/
structure Ins where
  op : Int
  dst : Int
  a : Int
  b : Int
  c : Int
deriving DecidableEq, Inhabited

def Ins.val (i : Ins) : Value := .agg #[.int .i64 i.op, .int .i64 i.dst, .int .i64 i.a, .int .i64 i.b, .int .i64 i.c]

/-- The instructions stand from A on. -/
def RdI (w : World) (A : Option Addr) (l : List Ins) : Prop :=
  0 < l.length → ∃ b off, A = some ⟨b, off, none⟩ ∧ ∀ j, j < l.length →
    w.cell? ⟨b, off + j * 5, none⟩ = some (.int .i64 (l.getD j default).op) ∧ w.cell? ⟨b, off + j * 5 + 1, none⟩ = some (.int .i64 (l.getD j default).dst) ∧ w.cell? ⟨b, off + j * 5 + 2, none⟩ = some (.int .i64 (l.getD j default).a) ∧
    w.cell? ⟨b, off + j * 5 + 3, none⟩ = some (.int .i64 (l.getD j default).b) ∧ w.cell? ⟨b, off + j * 5 + 4, none⟩ = some (.int .i64 (l.getD j default).c)
theorem RdI.below {w w1 : World} {A : Option Addr} {l : List Ins} (h : RdI w A l) (hb : Below w.heap.size w w1) : RdI w1 A l := by
  intro h0
  obtain ⟨b, off, e, hj⟩ := h h0
  refine ⟨b, off, e, fun j hjl => ?_⟩
  obtain ⟨h1, h2, h3, h4, h5⟩ := hj j hjl
  exact ⟨below_cell hb h1, below_cell hb h2, below_cell hb h3, below_cell hb h4, below_cell hb h5⟩

/-- A register's number, as one that is there. -/
def InR (r : Int) (n : Nat) : Prop := 0 ≤ r ∧ r < n
/-- An instruction that may be. -/
def Ins.OK (i : Ins) (n : Nat) : Prop := 1 ≤ i.op ∧ i.op ≤ 8 ∧ InR i.dst n ∧ InR i.a n ∧ InR i.b n ∧ ConstOK i.op i.c

/-- The machine: the number of the instruction that fails (below 0: none), and the registers. -/
def runM : Nat → List Ins → List Int → Int × List Int
  | _, [], r => (-1, r)
  | k, i :: l, r => if stepOk i.op (lg r i.a.toNat) i.c then runM (k + 1) l (r.set i.dst.toNat (stepV i.op (lg r i.a.toNat) (lg r i.b.toNat) i.c)) else (k, r)
end Go.Proofs.Ytnchlckncknaiaa
/- exact.run. -/
namespace Go.Proofs.Ytnchlckncknaiaa
open Go.RowKit

/-- A program's value. -/
def progV (ins regs : Int) (A : Option Addr) (n c : Nat) (B : Option Addr) (m d : Nat) : Value := .agg #[.int .i64 ins, .int .i64 regs, .slice A n c, .slice B m d]

theorem run_new (w : World) (a b : Array Value) :
    let W := (w.alloc (.cells a 96)).alloc (.cells b 25)
    Blk W w.heap.size 96 a ∧ Blk W (w.heap.size + 1) 25 b ∧ Below w.heap.size w W := by
  have h1 := Blk.new w 96 a
  have h2 := Blk.new (w.alloc (.cells a 96)) 25 b
  rw [World.size_alloc] at h2
  exact ⟨h1.alloc _, h2, ((Below.refl _ _).alloc (Nat.le_refl _) _).alloc (by simp) _⟩

theorem RdI.notInt {w : World} {A : Option Addr} {l : List Ins} (h : RdI w A l) {p : Addr} (hp : ∀ z, w.cell? p ≠ some (.int .i64 z)) (x : Value) : RdI (w.setCell p x) A l := by
  intro h0
  obtain ⟨b, off, e, hj⟩ := h h0
  have key : ∀ q z, w.cell? q = some (.int .i64 z) → (w.setCell p x).cell? q = some (.int .i64 z) := by
    intro q z hq
    rw [World.cell?_setCell_other _ _ _ _ (by rintro rfl; exact hp _ hq)]; exact hq
  refine ⟨b, off, e, fun j hjl => ?_⟩
  obtain ⟨h1, h2, h3, h4, h5⟩ := hj j hjl
  exact ⟨key _ _ h1, key _ _ h2, key _ _ h3, key _ _ h4, key _ _ h5⟩
theorem NB.not1 {w : World} {g : Nat} {zs : List Int} {N i : Nat} (h : NB w g zs N) (hi : i < zs.length) (x : Value) :
    (∀ z, w.cell? ⟨g, i * 2, none⟩ ≠ some (.int .i64 z)) ∧ (∀ z, (w.setCell ⟨g, i * 2, none⟩ x).cell? ⟨g, i * 2 + 1, none⟩ ≠ some (.int .i64 z)) := by
  obtain ⟨cs, h1, h2, h3⟩ := h
  obtain ⟨p0, s0, k0, c0, e1, e2, e3⟩ := h3 i hi
  constructor
  · intro z; rw [Blk.cell h1, e1]; simp
  · intro z
    rw [Blk.cell (h1.set _ _), Array.getElem?_setIfInBounds_ne (by omega), e2]; simp

theorem NB.at_ {w : World} {g : Nat} {zs : List Int} {N i : Nat} (h : NB w g zs N) (hi : i < zs.length) :
    ∃ x y, w.cell? ⟨g, i * 2, none⟩ = some x ∧ w.cell? ⟨g, i * 2 + 1, none⟩ = some y ∧ w.frozen? ⟨g, i * 2, none⟩ = false ∧ w.frozen? ⟨g, i * 2 + 1, none⟩ = false := by
  obtain ⟨cs, h1, h2, h3⟩ := h
  obtain ⟨p0, s0, k0, c0, e1, e2, e3⟩ := h3 i hi
  exact ⟨_, _, by rw [Blk.cell h1]; exact e1, by rw [Blk.cell h1]; exact e2, Blk.frozen h1 _, Blk.frozen h1 _⟩
theorem below_then' {g : Nat} {w wr w4 w5 : World} (h : Below g w wr) (h1 : Below wr.heap.size wr w4) (h2 : Below w4.heap.size w4 w5) (hg : g ≤ w.heap.size) : Below g w w5 := (h.trans (h1.mono (Nat.le_trans hg h.size))).trans (h2.mono (Nat.le_trans hg (Nat.le_trans h.size h1.size)))

set_option maxHeartbeats 4000000 in
set_option maxRecDepth 100000 in
theorem run_calls {w : World} {A B : Option Addr} {l : List Ins} {zs : List Int} {g N0 cap m d rc : Nat} {ins regs : Int} (hl : RdI w A l) (hr : NB w g zs N0) (hok : ∀ i ∈ l, i.OK zs.length) (hlen : l.length ≤ 16384) (hN : N0 ≤ 1000) :
    Calls Try.prog 48 #[.agg waysA, progV ins regs A l.length cap B m d, .slice (some ⟨g, 0, none⟩) zs.length rc, fnV 50] w fun e w' => e = .returned (.int .i64 (runM 0 l zs).1) ∧ NB w' g (runM 0 l zs).2 (N0 + 11 * l.length + 5) ∧ Below g w w' := by
  obtain ⟨b1, b2, hb0⟩ := run_new w waysA #[.int .i64 ins, .int .i64 regs, .slice A l.length cap, .slice B m d]
  unfold progV
  go_enter Try.func48, Try.ntmps48
  go_wp2_with fail
  generalize hW : (w.alloc (.cells waysA 96)).alloc (.cells #[.int .i64 ins, .int .i64 regs, .slice A l.length cap, .slice B m d] 25) = W at *
  clear hW
  have e2 : _ = some (Value.slice A l.length cap) := Blk.cell b2 2
  have HB := hide hb0
  have hrW := hr.keep hb0
  have hlW := hl.below hb0
  have hgl := hr.lt
  go_step3
  go_wp2_with fail
  go_step3
  go_wp2_with fail
  go_loopw [16] (fun i wr => ∃ (k : Nat) (rs : List Int), k ≤ l.length ∧ i = .int .i64 k ∧ rs.length = zs.length ∧ Hid (runM 0 l zs = runM k (l.drop k) rs) ∧ NB wr g rs (N0 + 5 + 6 * k) ∧ RdI wr A l ∧ Blk wr w.heap.size 96 waysA ∧ Blk wr (w.heap.size + 1) 25 #[.int .i64 ins, .int .i64 regs, .slice A l.length cap, .slice B m d] ∧ Below g w wr) (fun i _ => l.length - (intOf i).toNat)
  case atStart => exact ⟨0, zs, by omega, rfl, rfl, rfl, hrW.mono (by omega), hlW, b1, b2, HB.out.mono (by omega)⟩
  case round =>
    obtain ⟨k, rs, hk, rfl, hle, Hrun, hnb, hli, y1, y2, hbg⟩ := hrel
    rcases Nat.lt_or_ge k l.length with hlt | hge
    · have hkI : (k : Int) < (l.length : Int) := by omega
      have hk0 : (0 : Int) ≤ (k : Int) := by omega
      have hdec : decide ((k : Int) < (l.length : Int)) = true := by simpa using hlt
      have hOK := hok (l.getD k default) (by rw [List.getD_eq_getElem?_getD]; simp [hlt])
      have hdrop : Hid (l.drop k = l.getD k default :: l.drop (k + 1)) := by
        rw [Hid, List.drop_eq_getElem_cons hlt, List.getD_eq_getElem?_getD]; simp [hlt]
      have hli' := hli
      obtain ⟨b, off, rfl, hcell⟩ := hli (by omega)
      obtain ⟨k0, k1, k2, k3, k4⟩ := hcell k hlt
      have hok' := hide hok
      clear hcell hok
      generalize l.getD k default = I at *
      obtain ⟨op, dst, ra, rb, c⟩ := I
      obtain ⟨o1, o8, ⟨od0, od1⟩, ⟨oa0, oa1⟩, ⟨ob0, ob1⟩, oc⟩ := hOK
      dsimp only at k0 k1 k2 k3 k4 o1 o8 od0 od1 oa0 oa1 ob0 ob1 oc
      obtain ⟨ia, rfl⟩ := Int.eq_ofNat_of_zero_le oa0
      obtain ⟨ib, rfl⟩ := Int.eq_ofNat_of_zero_le ob0
      obtain ⟨id, rfl⟩ := Int.eq_ofNat_of_zero_le od0
      have x1 := Blk.new wr 72 (insV op id ia ib c)
      have w0 : _ = some (fnV 92) := Blk.cell y1 0
      have w1 : _ = some (fnV 93) := Blk.cell y1 1
      have w2 : _ = some (fnV 94) := Blk.cell y1 2
      have w3 : _ = some (fnV 95) := Blk.cell y1 3
      have w4 : _ = some (fnV 96) := Blk.cell y1 4
      have v1 : wr.heap.size ≠ w.heap.size := Nat.ne_of_gt y1.lt
      have P := Blk.alloc y1 (.cells (insV op id ia ib c) 72)
      have P0 : _ = some (fnV 92) := Blk.cell P 0
      have P1 : _ = some (fnV 93) := Blk.cell P 1
      have P2 : _ = some (fnV 94) := Blk.cell P 2
      have P3 : _ = some (fnV 95) := Blk.cell P 3
      have P4 : _ = some (fnV 96) := Blk.cell P 4
      have hbx := (Below.refl wr.heap.size wr).alloc (Nat.le_refl _) (.cells (insV op id ia ib c) 72)
      have hnbx := hnb.keep hbx
      have HD := hide (do_calls (cap := rc) (dst := id) hnbx.rd (show ia < rs.length by omega) (show ib < rs.length by omega) o1 o8 oc (by omega))
      rw [hle] at HD
      go_wp2_with fail
      refine HD.out.mono ?_
      clear HD
      rintro e w5 ⟨⟨v, rfl, hv⟩, hb5⟩
      have hnb5 := hnbx.keep hb5
      have x5 := Blk.below (x1 : Blk _ wr.heap.size 72 _) hb5 x1.lt
      have z1 := Blk.below (Blk.alloc y1 _) hb5 (Blk.alloc y1 _).lt
      have z2 := Blk.below (Blk.alloc y2 _) hb5 (Blk.alloc y2 _).lt
      have hbg5 := below_then' hbg hbx hb5 (Nat.le_of_lt hgl)
      have hv0 := hv
      obtain ⟨n1, s1, us, rfl, ⟨A1, c1, rfl, hc1, hr1⟩, hrest⟩ := hv
      clear hrest
      clear P0 P1 P2 P3 P4 P w0 w1 w2 w3 w4 x1 v1 k0 k1 k2 k3 k4 hnbx y1 y2 hnb
      cases hst : stepOk op (lg rs ia) c
      · go_wp2_with fail
        rw [Exit.noGoto_ret]
        go_ret
        have e1 := Hrun.out
        rw [hdrop.out, runM] at e1
        simp [hst] at e1
        refine ⟨ret_int (by simp [e1]), ?_, ?_⟩
        · rw [e1]; exact (hnb5.mono (by omega)).keep ((Below.refl _ _).alloc (Nat.le_refl _) _)
        · exact hbg5.alloc (Nat.le_of_lt hnb5.lt) _
      · have hnb6 := hnb5.keep (Below.refl _ _ |>.alloc (Nat.le_refl _) (.cells #[.bool n1, .slice A1 us.length c1] 61))
        have x6 := Blk.alloc x5 (.cells #[.bool n1, .slice A1 us.length c1] 61)
        have q1 : _ = some (Value.int .i64 (id : Int)) := Blk.cell x6 1
        obtain ⟨q2, q3, q4, q5, q6, q7⟩ := hnb6.at_ (show id < rs.length by omega)
        have q8 : w5.heap.size ≠ g := Nat.ne_of_gt hnb5.lt
        have q9 : g ≠ w5.heap.size := Nat.ne_of_lt hnb5.lt
        have hnb7 := (hnb6.mono (show N0 + 5 + 6 * k ≤ N0 + 5 + 6 * (k + 1) by omega)).put (show id < rs.length by omega) (hv0.below ((Below.refl _ _).alloc (Nat.le_refl _) (.cells #[.bool n1, .slice A1 us.length c1] 61)) |>.mono (show max (N0 + 5 + 6 * k) 5 + 6 ≤ N0 + 5 + 6 * (k + 1) by omega))
        go_wp2_with fail
        refine run1_calls.mono ?_
        rintro e w8 ⟨rfl, hb8⟩
        go_wp2
        refine ⟨⟨k + 1, rs.set id (stepV op (lg rs ia) (lg rs ib) c), by omega, by simp, by rw [List.length_set]; exact hle, ?_, hnb7.keep hb8, ?_, ?_, ?_, ?_⟩, by simp [intOf]; omega⟩
        · have e1 := Hrun.out
          rw [hdrop.out] at e1
          unfold Hid
          rw [e1, runM]
          simp [hst]
        · have r5 := (RdI.below (RdI.below hli' hbx) hb5).below ((Below.refl _ _).alloc (Nat.le_refl _) (.cells #[.bool n1, .slice A1 us.length c1] 61))
          have nn := hnb6.not1 (show id < rs.length by omega) (.bool n1)
          exact ((r5.notInt nn.1 _).notInt nn.2 _).below hb8
        · exact Blk.below (Blk.far (p := ⟨g, id * 2 + 1, none⟩) (Blk.far (p := ⟨g, id * 2, none⟩) (Blk.alloc z1 _) (by simp; omega) _) (by simp; omega) _) hb8 (by simp; have := z1.lt; omega)
        · exact Blk.below (Blk.far (p := ⟨g, id * 2 + 1, none⟩) (Blk.far (p := ⟨g, id * 2, none⟩) (Blk.alloc z2 _) (by simp; omega) _) (by simp; omega) _) hb8 (by simp; have := z2.lt; omega)
        · have hg5 : g ≤ w5.heap.size := Nat.le_of_lt hnb5.lt
          exact (((hbg5.alloc hg5 _).setCell (p := ⟨g, id * 2, none⟩) (Nat.le_refl _) _).setCell (p := ⟨g, id * 2 + 1, none⟩) (Nat.le_refl _) _).trans (hb8.mono (by simp; omega))
    · obtain rfl : k = l.length := by omega
      have hdec : decide ((l.length : Int) < (l.length : Int)) = false := by simp
      go_wp2
      rw [Exit.noGoto_ret]
      go_ret
      have e1 := Hrun.out
      rw [List.drop_length, runM] at e1
      exact ⟨ret_int (by simp [e1]), by rw [e1]; exact hnb.mono (by omega), hbg⟩
end Go.Proofs.Ytnchlckncknaiaa
/- Programs that may be; what a program answers. -/
namespace Go.Proofs.Ytnchlckncknaiaa
open Go.RowKit

/-- An instruction's constant is as it must be. -/
def ConstP (op c : Int) : Prop := if op = 5 ∨ op = 6 then c ≠ 0 ∧ -512 ≤ c ∧ c ≤ 512 else if op = 7 ∨ op = 8 then 1 ≤ c ∧ c ≤ 64 else c = 0
/-- An instruction that may be, among n registers. -/
def May (i : Ins) (n : Int) : Prop :=
  1 ≤ i.op ∧ i.op ≤ 8 ∧ (0 ≤ i.dst ∧ i.dst < n) ∧ (0 ≤ i.a ∧ i.a < n) ∧ (if i.op = 3 ∨ i.op = 4 then 0 ≤ i.b ∧ i.b < n else i.b = 0) ∧ ConstP i.op i.c
instance (op c : Int) : Decidable (ConstP op c) := by unfold ConstP; infer_instance
instance (i : Ins) (n : Int) : Decidable (May i n) := by unfold May; infer_instance
theorem May.ok {i : Ins} {n : Nat} (h : May i n) : i.OK n := by
  obtain ⟨h1, h2, h3, h4, h5, h6⟩ := h
  refine ⟨h1, h2, h3, h4, ?_, ?_⟩
  · split at h5
    · exact h5
    · exact ⟨by omega, by omega⟩
  · unfold ConstP at h6
    unfold ConstOK
    constructor
    · intro h; rw [if_pos h] at h6; exact h6
    · intro h
      rw [if_neg (by omega), if_pos h] at h6
      exact h6

def isTwo (op : Int) : Bool := op = 3 || op = 4
/-- A program. -/
structure Pg where
  ins : Int
  regs : Int
  code : List Ins
  outs : List Int
deriving DecidableEq, Inhabited
/-- Its head may be. -/
def Pg.Head (p : Pg) : Prop := 1 ≤ p.ins ∧ p.ins ≤ p.regs ∧ p.regs ≤ 128 ∧ p.code.length ≤ 16384 ∧ 1 ≤ p.outs.length ∧ p.outs.length ≤ 128
instance (p : Pg) : Decidable p.Head := by unfold Pg.Head; infer_instance
/-- A program that may be. -/
def Pg.Right (p : Pg) : Prop := p.Head ∧ (∀ r ∈ p.outs, 0 ≤ r ∧ r < p.regs) ∧ ∀ i ∈ p.code, May i p.regs
instance (p : Pg) : Decidable p.Right := by unfold Pg.Right; infer_instance

/-- The registers behind a program; none: it fails. -/
def runO : List Ins → List Int → Option (List Int)
  | [], r => some r
  | i :: l, r => if stepOk i.op (lg r i.a.toNat) i.c then runO l (r.set i.dst.toNat (stepV i.op (lg r i.a.toNat) (lg r i.b.toNat) i.c)) else none
theorem runM_some : ∀ (l : List Ins) (k : Nat) (r r' : List Int), runO l r = some r' → runM k l r = (-1, r')
  | [], k, r, r', h => by simp [runO] at h; simp [runM, h]
  | i :: l, k, r, r', h => by
    unfold runO at h
    unfold runM
    split at h
    · rename_i hs
      rw [if_pos hs]
      exact runM_some l _ _ _ h
    · cases h
theorem runM_none : ∀ (l : List Ins) (k : Nat) (r : List Int), runO l r = none → 0 ≤ (runM k l r).1
  | [], k, r, h => by simp [runO] at h
  | i :: l, k, r, h => by
    unfold runO at h
    unfold runM
    split at h
    · rename_i hs
      rw [if_pos hs]
      exact runM_none l _ _ h
    · rename_i hs
      rw [if_neg hs]
      exact Int.natCast_nonneg k
theorem runO_length : ∀ (l : List Ins) (r r' : List Int), runO l r = some r' → r'.length = r.length
  | [], r, r', h => by simp [runO] at h; rw [h]
  | i :: l, r, r', h => by
    unfold runO at h
    split at h
    · rw [runO_length l _ _ h, List.length_set]
    · cases h
/-- The registers at first. -/
def regs0 (n : Nat) (zs : List Int) : List Int := zs ++ List.replicate (n - zs.length) 0
theorem regs0_length (n : Nat) (zs : List Int) (h : zs.length ≤ n) : (regs0 n zs).length = n := by
  simp [regs0]; omega
/-- What a program answers; none: it fails. -/
def Pg.answer (p : Pg) (zs : List Int) : Option (List Int) := (runO p.code (regs0 p.regs.toNat zs)).map fun r => p.outs.map fun o => lg r o.toNat

theorem take_snoc' (l : List Ins) {k : Nat} (h : k < l.length) : l.take (k + 1) = l.take k ++ [l.getD k default] := by
  rw [List.take_succ_eq_append_getElem h, List.getD_eq_getElem?_getD, List.getElem?_eq_getElem h]; rfl
theorem take_snocI (l : List Int) {k : Nat} (h : k < l.length) : l.take (k + 1) = l.take k ++ [lg l k] := by
  rw [List.take_succ_eq_append_getElem h]; unfold lg; rw [List.getD_eq_getElem?_getD, List.getElem?_eq_getElem h]; rfl
theorem lg_mem {xs : List Int} {k : Nat} (h : k < xs.length) : lg xs k ∈ xs := by
  unfold lg; rw [List.getD_eq_getElem?_getD, List.getElem?_eq_getElem h]; exact List.getElem_mem h
theorem all_lg {xs : List Int} {P : Int → Prop} (h : ∀ j, j < xs.length → P (lg xs j)) : ∀ r ∈ xs, P r := by
  intro r hr
  obtain ⟨j, hj, e⟩ := List.mem_iff_getElem.1 hr
  have := h j hj
  unfold lg at this
  rw [List.getD_eq_getElem?_getD, List.getElem?_eq_getElem hj] at this
  simp only [Option.getD_some, e] at this
  exact this
/-- A number of a list gets a name of its own. -/
theorem named {α : Type} (x : α) : ∃ y, Hid (x = y) := ⟨x, rfl⟩
theorem lg_set (xs : List Int) (i j : Nat) (v : Int) (hi : i < xs.length) : lg (xs.set i v) j = if i = j then v else lg xs j := by
  unfold lg
  rw [List.getD_eq_getElem?_getD, List.getD_eq_getElem?_getD, List.getElem?_set]
  split
  · rename_i h; subst h; simp
  · rfl
theorem set_same (xs : List Int) (i : Nat) : xs.set i (lg xs i) = xs := by
  apply List.ext_getElem? 
  intro j
  rw [List.getElem?_set]
  split
  · rename_i h; subst h
    split
    · rename_i h; simp [lg, h]
    · rename_i h; rw [List.getElem?_eq_none (by omega)]
  · rfl
end Go.Proofs.Ytnchlckncknaiaa
/- Rows that append makes, known whole: behind what was appended there stand noughts. -/
namespace Go.Proofs.Ytnchlckncknaiaa
open Go.RowKit

/-- A slice whose row the call itself has made by append, from block base on: its cells are xs, behind them are cells of a nought. -/
def RowZ (w : World) (base : Nat) (e : TypeId) (z : Value) (v : Value) (n : Nat) (xs : List Value) : Prop :=
  xs.length = n * z.cells.size ∧
  ((v = .slice none 0 0 ∧ n = 0) ∨
   ∃ g cap sp, v = .slice (some ⟨g, 0, none⟩) n cap ∧ base ≤ g ∧ Blk w g e (xs ++ sp).toArray ∧ n ≤ cap ∧ cap ≤ maxLen ∧ (xs ++ sp).length = cap * z.cells.size ∧ ∀ u ∈ sp, u ∈ z.cells)

theorem RowZ.nil (w : World) (base : Nat) (e : TypeId) (z : Value) : RowZ w base e z (.slice none 0 0) 0 [] := ⟨by simp, .inl ⟨rfl, rfl⟩⟩
theorem RowZ.own {w : World} {base n : Nat} {e : TypeId} {z v : Value} {xs : List Value} (h : RowZ w base e z v n xs) : w.ownsRow base e z.cells.size v n xs := by
  obtain ⟨hl, h⟩ := h
  refine ⟨hl, ?_⟩
  rcases h with h | ⟨g, cap, sp, rfl, hb, hB, hc, hm, hs, hz⟩
  · exact .inl h
  · exact .inr ⟨g, cap, _, rfl, hb, hB, hc, hm, by simpa using hs, by rw [← hl]; simp⟩
theorem RowZ.kept {w w' : World} {base n : Nat} {e : TypeId} {z v : Value} {xs : List Value} (h : RowZ w base e z v n xs) (hk : ∀ g, v.ownBlock = some g → w'.heap[g]? = w.heap[g]?) : RowZ w' base e z v n xs := by
  obtain ⟨hl, h⟩ := h
  refine ⟨hl, ?_⟩
  rcases h with h | ⟨g, cap, sp, rfl, hb, hB, hr⟩
  · exact .inl h
  · exact .inr ⟨g, cap, sp, rfl, hb, (hk g rfl).trans hB, hr⟩
theorem RowZ.lt {w : World} {base n : Nat} {e : TypeId} {z v : Value} {xs : List Value} (h : RowZ w base e z v n xs) {g : Nat} (hg : v.ownBlock = some g) : g < w.heap.size ∧ base ≤ g := by
  obtain ⟨hl, h⟩ := h
  rcases h with ⟨rfl, _⟩ | ⟨g', cap, sp, rfl, hb, hB, hr⟩
  · cases hg
  · injection hg with hg
    subst hg
    exact ⟨hB.lt, hb⟩
theorem RowZ.below {w w' : World} {base n : Nat} {e : TypeId} {z v : Value} {xs : List Value} (h : RowZ w base e z v n xs) (hb : Below w.heap.size w w') : RowZ w' base e z v n xs :=
  h.kept fun _ hg => hb.block _ (h.lt hg).1
/-- The row's cells hold nothing of another kind. -/
theorem RowZ.cells {w : World} {base n : Nat} {e : TypeId} {z v : Value} {xs : List Value} (h : RowZ w base e z v n xs) {g : Nat} (hg : v.ownBlock = some g) {i : Nat} {u : Value} (hc : w.cell? ⟨g, i, none⟩ = some u) : u ∈ xs ∨ u ∈ z.cells := by
  obtain ⟨hl, h⟩ := h
  rcases h with ⟨rfl, _⟩ | ⟨g', cap, sp, rfl, hb, hB, hc', hm, hs, hz⟩
  · cases hg
  · injection hg with hg
    subst hg
    rw [hB.cell] at hc
    have := List.mem_of_getElem? (l := xs ++ sp) (i := i) (by simpa using hc)
    rcases List.mem_append.1 this with h1 | h1
    · exact .inl h1
    · exact .inr (hz u h1)

/-- What may have turned behind an append: the row. -/
theorem below_of_grown {B : Nat} {w w' : World} {row : Option Nat} (h : w.grownBy w' row) (hr : ∀ g, row = some g → B ≤ g) (hB : B ≤ w.heap.size) : Below B w w' :=
  ⟨h.os, h.tape, h.output, h.size, fun i hi => h.block i (by omega) (by intro e; have := hr i e.symm; omega)⟩

section
variable {P : Program} (w : World)
theorem zc_mem (z : Value) (n : Nat) : ∀ u ∈ (Builtin.zeroCells z.cells n).toList, u ∈ z.cells := by
  intro u hu
  unfold Builtin.zeroCells at hu
  simp at hu
  obtain ⟨l, hl, hu⟩ := hu
  have hs : 0 < z.cells.size := by
    rcases Nat.eq_zero_or_pos z.cells.size with h | h
    · rw [h] at hl; omega
    · exact h
  have := Nat.mod_lt l hs
  rw [getElem!_pos z.cells _ this] at hu
  subst hu
  exact Array.getElem_mem _
theorem run_append_z (base : Nat) (t ty e : TypeId) (i : TypeInfo) (z : Value) (bytes : Nat) (ht : P.underlying t = some (.slice e)) (hi : P.info? e = some i) (hz : i.zero = some z)
    (hsize : i.size = z.cells.size) (hby : i.bytes = bytes) (_hsz : 0 < z.cells.size)
    (v : Value) (n : Nat) (xs : List Value) (hown : RowZ w base e z v n xs)
    (a : Addr) (m c : Nat) (news : List Value) (hl : news.length = m * z.cells.size) (hnews : ∀ j u, news[j]? = some u → w.cell? (a.add j) = some u) (h1 : ∀ u ∈ news, u.oneCell' = true)
    (h63 : n + m ≤ maxLen) (hbytes : (n + m) * bytes ≤ 140737488355328) (hbase : base ≤ w.heap.size) :
    ∃ v' w', (Builtin.append_ #[t, t] ty #[v, .slice (some a) m c]).run P w = .ok v' w' ∧ RowZ w' base e z v' (n + m) (xs ++ news) ∧ w.grownBy w' v.ownBlock ∧ (∀ g, v'.ownBlock = some g → v.ownBlock = some g ∨ g = w.heap.size) := by
  subst hby
  rw [← hsize] at hl
  have hsmall : n + m ≤ 9223372036854775807 := by simp only [maxLen] at h63; omega
  have hlen : (xs ++ news).length = (n + m) * i.size := by rw [List.length_append, hown.1, hl, Nat.add_mul, hsize]
  have grown : ∀ (old : Nat), old < n + m → ∀ (row : Option Nat),
      RowZ (w.drew.alloc (.cells (xs.toArray ++ news.toArray ++ Builtin.zeroCells z.cells (grownCap w (n + m) old e - (n + m))) e)) base e z
        (.slice (some ⟨w.heap.size, 0, none⟩) (n + m) (grownCap w (n + m) old e)) (n + m) (xs ++ news) ∧
      w.grownBy (w.drew.alloc (.cells (xs.toArray ++ news.toArray ++ Builtin.zeroCells z.cells (grownCap w (n + m) old e - (n + m))) e)) row := by
    intro old ho row
    have hge := grownCap_ge w (n + m) old e
    have hcm : grownCap w (n + m) old e ≤ maxLen := grownCap_le_maxLen w (n + m) old e h63
    refine ⟨⟨by rw [hlen, hsize], .inr ⟨w.heap.size, _, (Builtin.zeroCells z.cells (grownCap w (n + m) old e - (n + m))).toList, rfl, hbase, ?_, hge, hcm, ?_, zc_mem _ _⟩⟩, ⟨rfl, rfl, rfl, by simp, fun k hk _ => Below.heap_alloc w.drew _ k hk⟩⟩
    · have : (xs.toArray ++ news.toArray ++ Builtin.zeroCells z.cells (grownCap w (n + m) old e - (n + m))) = (xs ++ news ++ (Builtin.zeroCells z.cells (grownCap w (n + m) old e - (n + m))).toList).toArray := by
        apply Array.toList_inj.1
        simp
      rw [← this]
      exact heap_alloc_new w.drew _
    · rw [List.length_append, hlen, Array.length_toList, size_zeroCells, hsize, ← Nat.add_mul]
      congr 1
      omega
  rcases hown.2 with ⟨rfl, rfl⟩ | ⟨g, cap, sp, rfl, hbg, hg, hnc, hcm, hcs, hzm⟩
  · have hx : xs = [] := List.eq_nil_of_length_eq_zero (by simpa using hown.1)
    subst hx
    by_cases hm : m = 0
    · subst hm
      have hn : news = [] := List.eq_nil_of_length_eq_zero (by simpa using hl)
      subst hn
      refine ⟨.slice none 0 0, w, ?_, RowZ.nil w base e z, ⟨rfl, rfl, rfl, Nat.le_refl _, fun _ _ _ => rfl⟩, by intro g hg; cases hg⟩
      simp [Builtin.append_, run_underlying ht, sizeOf, typeInfo, hi, Builtin.lenOf, Builtin.firstCells, loadCells, loadCellsFrom]
    · have hr := run_append_nil (P := P) w t ty e i z ht hi hz a m c news hl hnews (by omega) (by omega) (by have hb := hbytes; simp only [Nat.zero_add] at hb; omega)
      have hgr := grown 0 (by omega) (Value.ownBlock (.slice none 0 0))
      simp only [Nat.zero_add, List.nil_append, Array.empty_append] at hgr ⊢
      refine ⟨_, _, hr, hgr.1, hgr.2, ?_⟩
      intro g hg
      injection hg with hg
      exact .inr hg.symm
  · have hxl : xs.length = n * i.size := by rw [hown.1, hsize]
    rw [← hsize] at hcs
    by_cases hroom : n + m ≤ cap
    · have hmul : (n + m) * i.size ≤ cap * i.size := Nat.mul_le_mul_right _ hroom
      rw [Nat.add_mul] at hmul
      have hfit : n * i.size + news.length ≤ (xs ++ sp).toArray.size := by rw [List.size_toArray, hcs, hl]; exact hmul
      have hr := run_append_room (P := P) w t ty e i ht hi g n cap (xs ++ sp).toArray hg a m c news hl hnews h1 hroom hfit
      have e1 : ((xs ++ sp).toArray.toList.take (n * i.size) ++ news ++ (xs ++ sp).toArray.toList.drop (n * i.size + news.length)) = (xs ++ news) ++ sp.drop news.length := by
        rw [← hxl]
        simp [List.drop_append]
      rw [e1] at hr
      refine ⟨_, _, hr, ⟨by rw [hlen, hsize], .inr ⟨g, cap, sp.drop news.length, rfl, hbg, setRow_heap w g _ _ e _ hg, hroom, hcm, ?_, fun u hu => hzm u (List.mem_of_mem_drop hu)⟩⟩, ⟨rfl, rfl, rfl, by simp, fun k _ hk => setRow_other w g k _ (fun e => hk (by simp [Value.ownBlock, e]))⟩, fun g' hg' => .inl hg'⟩
      rw [← hsize, ← hcs]
      simp only [List.length_append, List.length_drop] at hcs ⊢
      rw [hxl] at hcs
      omega
    · have holds : ∀ j u, xs[j]? = some u → w.cell? ((⟨g, 0, none⟩ : Addr).add j) = some u := hown.own.cells (g := g) rfl
      have hr := run_append_grow (P := P) w t ty e i z ht hi hz ⟨g, 0, none⟩ n cap xs hxl holds a m c news hl hnews (by omega) (by omega) (growslice_fits (by omega) hbytes)
      have hgr := grown cap (by omega) (Value.ownBlock (.slice (some ⟨g, 0, none⟩) n cap))
      refine ⟨_, _, hr, hgr.1, hgr.2, ?_⟩
      intro g' hg'
      injection hg' with hg'
      exact .inr hg'.symm
end

/-- The same, an element at least: the slice is there. -/
theorem run_append_y {P : Program} (w : World) (base : Nat) (t ty e : TypeId) (i : TypeInfo) (z : Value) (bytes : Nat) (ht : P.underlying t = some (.slice e)) (hi : P.info? e = some i) (hz : i.zero = some z)
    (hsize : i.size = z.cells.size) (hby : i.bytes = bytes) (hsz : 0 < z.cells.size)
    (v : Value) (n : Nat) (xs : List Value) (hown : RowZ w base e z v n xs)
    (a : Addr) (m c : Nat) (news : List Value) (hl : news.length = m * z.cells.size) (hnews : ∀ j u, news[j]? = some u → w.cell? (a.add j) = some u) (h1 : ∀ u ∈ news, u.oneCell' = true)
    (hm : 0 < m) (h63 : n + m ≤ maxLen) (hbytes : (n + m) * bytes ≤ 140737488355328) (hbase : base ≤ w.heap.size) :
    ∃ g cap w', (Builtin.append_ #[t, t] ty #[v, .slice (some a) m c]).run P w = .ok (.slice (some ⟨g, 0, none⟩) (n + m) cap) w' ∧ RowZ w' base e z (.slice (some ⟨g, 0, none⟩) (n + m) cap) (n + m) (xs ++ news) ∧ w.grownBy w' v.ownBlock ∧ (v.ownBlock = some g ∨ g = w.heap.size) := by
  obtain ⟨v', w', hr, h2, h3, h4⟩ := run_append_z (P := P) w base t ty e i z bytes ht hi hz hsize hby hsz v n xs hown a m c news hl hnews h1 h63 hbytes hbase
  have h2' := h2
  obtain ⟨_, h2⟩ := h2
  rcases h2 with ⟨_, h0⟩ | ⟨g, cap, sp, rfl, hr2⟩
  · omega
  · exact ⟨g, cap, w', hr, h2', h3, h4 g rfl⟩
theorem wpList_append_z {P : Program} {w : World} {ops : Array Oper} {rest : List Oper} {o : Oper} {a : Act} {Q : Exit → Act → World → Prop} (hgd : o.guard = none) (s x : Operand) (t : TypeId)
    (ho : o.op = .call { callee := .builtin .append, args := #[s, x], argTypes := #[t, t] })
    (base : Nat) (e : TypeId) (i : TypeInfo) (z : Value) (bytes : Nat) (ht : P.underlying t = some (.slice e)) (hi : P.info? e = some i) (hz : i.zero = some z)
    (hsize : i.size = z.cells.size) (hby : i.bytes = bytes) (hsz : 0 < z.cells.size)
    (v : Value) (n : Nat) (xs : List Value) (hs : a.eval s = v) (hown : RowZ w base e z v n xs)
    (ad : Addr) (m c : Nat) (news : List Value) (hx : a.eval x = .slice (some ad) m c) (hl : news.length = m * z.cells.size) (hnews : ∀ j u, news[j]? = some u → w.cell? (ad.add j) = some u) (h1 : ∀ u ∈ news, u.oneCell' = true)
    (hm : 0 < m) (h63 : n + m ≤ maxLen) (hbytes : (n + m) * bytes ≤ 140737488355328) (hbase : base ≤ w.heap.size)
    (h : ∀ g cap w', RowZ w' base e z (.slice (some ⟨g, 0, none⟩) (n + m) cap) (n + m) (xs ++ news) → w.grownBy w' v.ownBlock → (v.ownBlock = some g ∨ g = w.heap.size) → wpList P ops Q rest (a.put o.dst (.slice (some ⟨g, 0, none⟩) (n + m) cap)) w') : wpList P ops Q (o :: rest) a w := by
  refine wpList_plain hgd fun K hK' => ?_
  obtain ⟨g, cap, w', hr, h2, h3, h4⟩ := run_append_y (P := P) w base t o.type e i z bytes ht hi hz hsize hby hsz v n xs hown ad m c news hl hnews h1 hm h63 hbytes hbase
  unfold Oper.wp execOp
  simp only [ho, resolve, invoke, builtin, Sem.run_bind, Sem.run_pure, Result.andThen_ok, List.map_toArray, List.map_cons, List.map_nil, hs, hx, hr]
  exact hK' _ _ (h g cap w' h2 h3 h4)
theorem step_append_z {P : Program} {w : World} {ops : Array Oper} {o : Oper} {a : Act} {K : Act → World → Prop} {Q : Exit → Act → World → Prop} {E : Prop} (hgd : o.guard = none) (s x : Operand) (t : TypeId)
    (ho : o.op = .call { callee := .builtin .append, args := #[s, x], argTypes := #[t, t] })
    (base : Nat) (e : TypeId) (i : TypeInfo) (z : Value) (bytes : Nat) (ht : P.underlying t = some (.slice e)) (hi : P.info? e = some i) (hz : i.zero = some z)
    (hsize : i.size = z.cells.size) (hby : i.bytes = bytes) (hsz : 0 < z.cells.size)
    (v : Value) (n : Nat) (xs : List Value) (hs : a.eval s = v) (hown : RowZ w base e z v n xs)
    (ad : Addr) (m c : Nat) (news : List Value) (hx : a.eval x = .slice (some ad) m c) (hl : news.length = m * z.cells.size) (hnews : ∀ j u, news[j]? = some u → w.cell? (ad.add j) = some u) (h1 : ∀ u ∈ news, u.oneCell' = true)
    (hm : 0 < m) (h63 : n + m ≤ maxLen) (hbytes : (n + m) * bytes ≤ 140737488355328) (hbase : base ≤ w.heap.size)
    (h : ∀ g cap w', RowZ w' base e z (.slice (some ⟨g, 0, none⟩) (n + m) cap) (n + m) (xs ++ news) → w.grownBy w' v.ownBlock → (v.ownBlock = some g ∨ g = w.heap.size) → K (a.put o.dst (.slice (some ⟨g, 0, none⟩) (n + m) cap)) w') :
    if Region.wanted o (yielded ops a.tmps) = true then Oper.wp P o a w K Q else E := by
  have hw : Region.wanted o (yielded ops a.tmps) = true := by simp [Region.wanted, hgd]
  rw [if_pos hw]
  obtain ⟨g, cap, w', hr, h2, h3, h4⟩ := run_append_y (P := P) w base t o.type e i z bytes ht hi hz hsize hby hsz v n xs hown ad m c news hl hnews h1 hm h63 hbytes hbase
  unfold Oper.wp execOp
  simp only [ho, resolve, invoke, builtin, Sem.run_bind, Sem.run_pure, Result.andThen_ok, List.map_toArray, List.map_cons, List.map_nil, hs, hx, hr]
  exact h g cap w' h2 h3 h4
end Go.Proofs.Ytnchlckncknaiaa
/- prog.two, prog.constant, prog.Asks, prog.may, prog.Check. -/
namespace Go.Proofs.Ytnchlckncknaiaa
open Go.RowKit

theorem ret_bool {a b : Bool} (h : a = b) : Ending.returned (.bool a) = .returned (.bool b) := by rw [h]
theorem constP_iff (op c : Int) : ConstP op c ↔ ((op = 5 ∨ op = 6 → c ≠ 0 ∧ -512 ≤ c ∧ c ≤ 512) ∧ (op = 7 ∨ op = 8 → 1 ≤ c ∧ c ≤ 64) ∧ (¬ (op = 5 ∨ op = 6 ∨ op = 7 ∨ op = 8) → c = 0)) := by
  unfold ConstP
  split
  · rename_i h; constructor
    · intro hc; exact ⟨fun _ => hc, by omega, by omega⟩
    · intro hc; exact hc.1 h
  · split
    · rename_i h1 h2; constructor
      · intro hc; exact ⟨by omega, fun _ => hc, by omega⟩
      · intro hc; exact hc.2.1 h2
    · rename_i h1 h2; constructor
      · intro hc; exact ⟨by omega, by omega, fun _ => hc⟩
      · intro hc; exact hc.2.2 (by omega)

theorem two_calls {w : World} (op : Int) : Calls Try.prog 130 #[.int .i64 op] w fun e w' => e = .returned (.bool (isTwo op)) ∧ w = w' := by
  go_enter Try.func130, Try.ntmps130
  go_wp2
  all_goals (go_ret; refine ⟨ret_bool ?_, rfl⟩; rw [Bool.eq_iff_iff]; simp_all [isTwo])

set_option maxHeartbeats 1000000 in
theorem constant_calls {w : World} (op dst a b c : Int) : Calls Try.prog 131 #[.agg (insV op dst a b c)] w fun e w' => e = .returned (.bool (decide (ConstP op c))) ∧ Below w.heap.size w w' := by
  go_enter Try.func131, Try.ntmps131
  go_wp2
  all_goals (go_ret; refine ⟨ret_bool ?_, (Below.refl _ _).alloc (Nat.le_refl _) _⟩; rw [Bool.eq_iff_iff]; simp only [decide_eq_true_eq, constP_iff]; simp_all <;> omega)

/-- Whole numbers stand from A on. -/
def RdZ (w : World) (A : Option Addr) (l : List Int) : Prop :=
  0 < l.length → ∃ b off, A = some ⟨b, off, none⟩ ∧ ∀ j, j < l.length → w.cell? ⟨b, off + j, none⟩ = some (.int .i64 (lg l j))
theorem RdZ.below {w w1 : World} {A : Option Addr} {l : List Int} (h : RdZ w A l) (hb : Below w.heap.size w w1) : RdZ w1 A l := by
  intro h0
  obtain ⟨b, off, e, hj⟩ := h h0
  exact ⟨b, off, e, fun j hjl => below_cell hb (hj j hjl)⟩
theorem RdZ.nil (w : World) (A : Option Addr) : RdZ w A [] := fun h => absurd h (by simp)
/-- A program's value. -/
def PgB (w : World) (v : Value) (p : Pg) : Prop :=
  ∃ A c B d, v = progV p.ins p.regs A p.code.length c B p.outs.length d ∧ p.code.length ≤ c ∧ p.outs.length ≤ d ∧ RdI w A p.code ∧ RdZ w B p.outs
theorem PgB.below {w w1 : World} {v : Value} {p : Pg} (h : PgB w v p) (hb : Below w.heap.size w w1) : PgB w1 v p := by
  obtain ⟨A, c, B, d, e, h1, h2, h3, h4⟩ := h
  exact ⟨A, c, B, d, e, h1, h2, h3.below hb, h4.below hb⟩

/-- The registers that an instruction asks. -/
def asksF (i : Ins) : List Int := if isTwo i.op then [i.a, i.b] else if 1 ≤ i.op ∧ i.op ≤ 8 then [i.a] else []

theorem rdZ_two (w : World) (a b : Int) (t : TypeId) {g : Nat} (hg : g = w.heap.size) : RdZ (w.alloc (.cells #[.int .i64 a, .int .i64 b] t)) (some ⟨g, 0, none⟩) [a, b] := fun _ => by
  subst hg
  have h := Blk.new w t #[.int .i64 a, .int .i64 b]
  refine ⟨_, 0, rfl, fun j hj => ?_⟩
  rw [Blk.cell h]
  match j, hj with
  | 0, _ => rfl
  | 1, _ => rfl
theorem rdZ_one (w : World) (a : Int) (t : TypeId) {g : Nat} (hg : g = w.heap.size) : RdZ (w.alloc (.cells #[.int .i64 a] t)) (some ⟨g, 0, none⟩) [a] := fun _ => by
  subst hg
  have h := Blk.new w t #[.int .i64 a]
  refine ⟨_, 0, rfl, fun j hj => ?_⟩
  rw [Blk.cell h]
  match j, hj with
  | 0, _ => rfl

theorem asksF_two (op dst a b c : Int) (h : op = 3 ∨ op = 4) : asksF ⟨op, dst, a, b, c⟩ = [a, b] := by
  unfold asksF isTwo; rcases h with rfl | rfl <;> rfl
theorem asksF_one (op dst a b c : Int) (h : op = 1 ∨ op = 2 ∨ op = 5 ∨ op = 6 ∨ op = 7 ∨ op = 8) : asksF ⟨op, dst, a, b, c⟩ = [a] := by
  unfold asksF isTwo; rcases h with rfl | rfl | rfl | rfl | rfl | rfl <;> rfl
theorem asksF_none (op dst a b c : Int) (h : ¬ op = 1 ∧ ¬ op = 2 ∧ ¬ op = 3 ∧ ¬ op = 4 ∧ ¬ op = 5 ∧ ¬ op = 6 ∧ ¬ op = 7 ∧ ¬ op = 8) : asksF ⟨op, dst, a, b, c⟩ = [] := by
  unfold asksF
  have h2 : isTwo op = false := by simp [isTwo, h]
  dsimp only
  rw [h2, if_neg (by simp), if_neg (by omega)]

theorem asksF_len (i : Ins) : (asksF i).length ≤ 2 := by
  unfold asksF
  split
  · simp
  · split <;> simp
set_option maxHeartbeats 1000000 in
theorem asks_calls {w : World} (op dst a b c : Int) : Calls Try.prog 59 #[.agg (insV op dst a b c)] w fun e w' =>
    (∃ A, e = .returned (.slice A (asksF ⟨op, dst, a, b, c⟩).length (asksF ⟨op, dst, a, b, c⟩).length) ∧ RdZ w' A (asksF ⟨op, dst, a, b, c⟩)) ∧ Below w.heap.size w w' := by
  have b0 := (Below.refl w.heap.size w).alloc (Nat.le_refl _) (.cells (insV op dst a b c) 72)
  go_enter Try.func59, Try.ntmps59
  go_wp2
  all_goals go_ret
  all_goals first
    | (rw [asksF_two _ _ _ _ _ (by simp_all)]
       exact ⟨⟨_, rfl, rdZ_two _ _ _ _ (by simp)⟩, b0.alloc (by simp) _⟩)
    | (rw [asksF_one _ _ _ _ _ (by simp_all)]
       exact ⟨⟨_, rfl, rdZ_one _ _ _ (by simp)⟩, b0.alloc (by simp) _⟩)
    | (rw [asksF_none _ _ _ _ _ (by simp_all)]
       exact ⟨⟨_, rfl, RdZ.nil _ _⟩, b0⟩)

/-- What may be, one by one. -/
theorem may_iff (i : Ins) (n : Int) : May i n ↔ (1 ≤ i.op ∧ i.op ≤ 8 ∧ (0 ≤ i.dst ∧ i.dst < n) ∧ (isTwo i.op = false → i.b = 0) ∧ ConstP i.op i.c) ∧ ∀ r ∈ asksF i, 0 ≤ r ∧ r < n := by
  unfold May asksF
  cases ht : isTwo i.op
  · have : ¬ (i.op = 3 ∨ i.op = 4) := by simpa [isTwo] using ht
    rw [if_neg this]
    constructor
    · rintro ⟨h1, h2, h3, h4, h5, h6⟩
      refine ⟨⟨h1, h2, h3, fun _ => h5, h6⟩, ?_⟩
      rw [if_neg (by simp), if_pos ⟨h1, h2⟩]
      simpa using h4
    · rintro ⟨⟨h1, h2, h3, h5, h6⟩, h4⟩
      rw [if_neg (by simp), if_pos ⟨h1, h2⟩] at h4
      exact ⟨h1, h2, h3, by simpa using h4, h5 rfl, h6⟩
  · have : i.op = 3 ∨ i.op = 4 := by simpa [isTwo] using ht
    rw [if_pos this]
    constructor
    · rintro ⟨h1, h2, h3, h4, h5, h6⟩
      refine ⟨⟨h1, h2, h3, by simp, h6⟩, ?_⟩
      simpa using ⟨h4, h5⟩
    · rintro ⟨⟨h1, h2, h3, h5, h6⟩, h4⟩
      have h4' : (0 ≤ i.a ∧ i.a < n) ∧ 0 ≤ i.b ∧ i.b < n := by simpa using h4
      exact ⟨h1, h2, h3, h4'.1, h4'.2, h6⟩

/-- An instruction's five cells. -/
theorem ins5 {w : World} {g : Nat} {op dst a b c : Int} (h : Blk w g 72 (insV op dst a b c)) :
    w.cell? ⟨g, 0, none⟩ = some (.int .i64 op) ∧ w.cell? ⟨g, 1, none⟩ = some (.int .i64 dst) ∧ w.cell? ⟨g, 2, none⟩ = some (.int .i64 a) ∧ w.cell? ⟨g, 3, none⟩ = some (.int .i64 b) ∧ w.cell? ⟨g, 4, none⟩ = some (.int .i64 c) :=
  ⟨Blk.cell h 0, Blk.cell h 1, Blk.cell h 2, Blk.cell h 3, Blk.cell h 4⟩

set_option maxHeartbeats 2000000 in
theorem may_calls {w : World} (op dst a b c n : Int) : Calls Try.prog 88 #[.agg (insV op dst a b c), .int .i64 n] w fun e w' =>
    e = .returned (.bool (decide (May ⟨op, dst, a, b, c⟩ n))) ∧ Below w.heap.size w w' := by
  have b0 := (Below.refl w.heap.size w).alloc (Nat.le_refl _) (.cells (insV op dst a b c) 72)
  obtain ⟨L, hL⟩ := named (asksF ⟨op, dst, a, b, c⟩)
  have hLL : L.length ≤ 2 := by rw [← hL.out]; exact asksF_len _
  have HI := hide (may_iff ⟨op, dst, a, b, c⟩ n)
  have HK0 := fun W : World => asks_calls (w := W) op dst a b c
  simp only [hL.out] at HK0
  have HK := hide HK0
  clear HK0
  rw [hL.out] at HI
  clear hL
  have x0 := Blk.new w 72 (insV op dst a b c)
  rcases (by omega : b = 0 ∨ b ≠ 0) with rfl | hb0
  all_goals
    go_enter Try.func88, Try.ntmps88
    go_wp2_with (first | (go_at_call 130; refine (two_calls _).mono ?_; rintro e w1 ⟨rfl, rfl⟩) | (go_at_call 131; refine (constant_calls _ _ _ _ _).mono ?_; rintro e w2 ⟨rfl, hb2⟩; have x2 := Blk.below x0 hb2 x0.lt; obtain ⟨q0, q1, q2, q3, q4⟩ := ins5 x2) | (go_at_call 59; refine (HK.out _).mono ?_; rintro e w3 ⟨⟨A, rfl, hZ⟩, hb3⟩))
    all_goals first
      | (go_ret
         refine ⟨ret_bool (decide_eq_false ?_).symm, ?_⟩
         · rw [HI.out]
           rintro ⟨⟨h1, h2, h3, h4, h5⟩, _⟩
           simp_all
           try omega
         · first | exact b0 | exact below_to b0 hb2)
      | (have hC : 1 ≤ op ∧ op ≤ 8 ∧ (0 ≤ dst ∧ dst < n) := by omega
         have HP : Hid (ConstP op c) := by unfold Hid; simp_all
         go_loop [45] (fun i => ∃ k : Nat, k ≤ L.length ∧ i = .int .i64 k ∧ ∀ j, j < k → 0 ≤ lg L j ∧ lg L j < n) (fun i => L.length - (intOf i).toNat)
         case atStart => exact ⟨0, by omega, rfl, fun j hj => by omega⟩
         case round =>
           obtain ⟨k, hk, rfl, hall⟩ := hrel
           have HA := hide hall
           clear hall
           rcases Nat.lt_or_ge k L.length with hlt | hge
           · obtain ⟨b', off, rfl, hcell⟩ := hZ (by omega)
             have e := hcell k hlt
             clear hcell
             obtain ⟨r, hr⟩ := named (lg L k)
             rw [hr.out] at e
             have hdec : decide ((k : Int) < (L.length : Int)) = true := by simpa using hlt
             go_wp2
             all_goals first
               | (go_ret
                  refine ⟨ret_bool (decide_eq_false ?_).symm, below_to (below_to b0 hb2) hb3⟩
                  rw [HI.out]
                  rintro ⟨_, hq⟩
                  have hq2 := hq _ (lg_mem hlt)
                  rw [hr.out] at hq2
                  omega)
               | (go_round
                  case rel =>
                    refine ⟨k + 1, by omega, by go_num, fun j hj => ?_⟩
                    rcases Nat.lt_or_ge j k with h1 | h1
                    · exact HA.out j h1
                    · obtain rfl : j = k := by omega
                      rw [hr.out]; exact ⟨by omega, by omega⟩
                  case measure => simp [intOf]; omega)
           · have hdec : decide ((k : Int) < (L.length : Int)) = false := by simpa using hge
             go_wp2
             go_ret
             refine ⟨ret_bool (decide_eq_true ?_).symm, below_to (below_to b0 hb2) hb3⟩
             rw [HI.out]
             refine ⟨⟨hC.1, hC.2.1, hC.2.2, by simp_all, HP.out⟩, all_lg fun j hj => HA.out j (by omega)⟩)
end Go.Proofs.Ytnchlckncknaiaa
/- prog.Check. -/
namespace Go.Proofs.Ytnchlckncknaiaa
open Go.RowKit

theorem pg4 {w : World} {g : Nat} {a b c d : Value} (h : Blk w g 25 #[a, b, c, d]) :
    w.cell? ⟨g, 0, none⟩ = some a ∧ w.cell? ⟨g, 1, none⟩ = some b ∧ w.cell? ⟨g, 2, none⟩ = some c ∧ w.cell? ⟨g, 3, none⟩ = some d :=
  ⟨Blk.cell h 0, Blk.cell h 1, Blk.cell h 2, Blk.cell h 3⟩
/-- What prog.Check answers. -/
def ChkAns (p : Pg) (e : Ending) : Prop := ∃ k : Int, e = .returned (.tuple #[.int .i64 k, .int .i64 (if p.Right then 0 else 80)]) ∧ (p.Right → k = 0)
theorem ChkAns.wrong {p : Pg} (k : Int) (h : ¬ p.Right) : ChkAns p (.returned (.tuple #[.int .i64 k, .int .i64 80])) := ⟨k, by rw [if_neg h], fun h' => absurd h' h⟩
theorem ChkAns.right {p : Pg} (h : p.Right) : ChkAns p (.returned (.tuple #[.int .i64 0, .int .i64 0])) := ⟨0, by rw [if_pos h], fun _ => rfl⟩

theorem getD_mem {l : List Ins} {k : Nat} (h : k < l.length) : l.getD k default ∈ l := by
  rw [List.getD_eq_getElem?_getD, List.getElem?_eq_getElem h]; exact List.getElem_mem h
theorem all_getD {l : List Ins} {P : Ins → Prop} (h : ∀ j, j < l.length → P (l.getD j default)) : ∀ i ∈ l, P i := by
  intro r hr
  obtain ⟨j, hj, e⟩ := List.mem_iff_getElem.1 hr
  have := h j hj
  rw [List.getD_eq_getElem?_getD, List.getElem?_eq_getElem hj] at this
  simp only [Option.getD_some, e] at this
  exact this

set_option maxHeartbeats 4000000 in
theorem check_calls {w : World} {v : Value} {p : Pg} (h : PgB w v p) : Calls Try.prog 40 #[v] w fun e w' => ChkAns p e ∧ Below w.heap.size w w' := by
  obtain ⟨A, c, B, d, rfl, _, _, hI, hZ⟩ := h
  obtain ⟨ins, regs, code, outs⟩ := p
  dsimp only at hI hZ
  have x0 := Blk.new w 25 #[.int .i64 ins, .int .i64 regs, .slice A code.length c, .slice B outs.length d]
  have b0 := (Below.refl w.heap.size w).alloc (Nat.le_refl _) (.cells #[.int .i64 ins, .int .i64 regs, .slice A code.length c, .slice B outs.length d] 25)
  have hI0 := hI.below b0
  have hZ0 := hZ.below b0
  clear hI hZ
  unfold progV
  dsimp only
  by_cases hh : 1 ≤ ins ∧ ins ≤ regs ∧ regs ≤ 128 ∧ code.length ≤ 16384 ∧ 1 ≤ outs.length ∧ outs.length ≤ 128
  · obtain ⟨h1, h2, h3, h4, h5, h6⟩ := hh
    have HH : Hid (Pg.Head ⟨ins, regs, code, outs⟩) := ⟨h1, h2, h3, h4, h5, h6⟩
    go_enter Try.func40, Try.ntmps40
    go_wp2_with fail
    generalize hW : w.alloc (.cells #[.int .i64 ins, .int .i64 regs, .slice A code.length c, .slice B outs.length d] 25) = W at *
    clear hW
    obtain ⟨p0, p1, p2, p3⟩ := pg4 x0
    go_loop [44] (fun i => ∃ k : Nat, k ≤ outs.length ∧ i = .int .i64 k ∧ Hid (∀ j, j < k → 0 ≤ lg outs j ∧ lg outs j < regs)) (fun i => outs.length - (intOf i).toNat)
    case atStart => exact ⟨0, by omega, rfl, fun j hj => by omega⟩
    case round =>
      obtain ⟨k, hk, rfl, HA⟩ := hrel
      rcases Nat.lt_or_ge k outs.length with hlt | hge
      · obtain ⟨b', off, rfl, hcell⟩ := hZ0 (by omega)
        have e := hcell k hlt
        clear hcell
        obtain ⟨r, hr⟩ := named (lg outs k)
        rw [hr.out] at e
        have hdec : decide ((k : Int) < (outs.length : Int)) = true := by simpa using hlt
        go_wp2
        all_goals first
          | (go_ret2
             refine ⟨ChkAns.wrong _ ?_, b0⟩
             rintro ⟨_, hq, _⟩
             have hq2 := hq _ (lg_mem hlt)
             rw [hr.out] at hq2
             dsimp only at hq2
             omega)
          | (go_round
             case rel =>
               refine ⟨k + 1, by omega, by go_num, fun j hj => ?_⟩
               rcases Nat.lt_or_ge j k with h1 | h1
               · exact HA.out j h1
               · obtain rfl : j = k := by omega
                 rw [hr.out]; exact ⟨by omega, by omega⟩
             case measure => simp [intOf]; omega)
      · have hdec : decide ((k : Int) < (outs.length : Int)) = false := by simpa using hge
        have HO : Hid (∀ r ∈ outs, 0 ≤ r ∧ r < regs) := all_lg fun j hj => HA.out j (by omega)
        go_wp2
        go_loopw [60] (fun i wr => ∃ k : Nat, k ≤ code.length ∧ i = .int .i64 k ∧ Hid (∀ j, j < k → May (code.getD j default) regs) ∧ Below w.heap.size w wr ∧ RdI wr A code ∧ Blk wr w.heap.size 25 #[.int .i64 ins, .int .i64 regs, .slice A code.length c, .slice B outs.length d]) (fun i _ => code.length - (intOf i).toNat)
        case atStart => exact ⟨0, by omega, rfl, fun j hj => by omega, b0, hI0, x0⟩
        case round =>
          obtain ⟨k, hk, rfl, HB, bw, hIw, xw⟩ := hrel
          obtain ⟨y0, y1, y2, y3⟩ := pg4 xw
          rcases Nat.lt_or_ge k code.length with hlt | hge
          · have hIw' := hIw
            obtain ⟨b', off, rfl, hcell⟩ := hIw (by omega)
            obtain ⟨e0, e1, e2, e3, e4⟩ := hcell k hlt
            clear hcell
            obtain ⟨I, hI⟩ := named (code.getD k default)
            rw [hI.out] at e0 e1 e2 e3 e4
            obtain ⟨op, dst, ra, rb, cc⟩ := I
            dsimp only at e0 e1 e2 e3 e4
            have hdec : decide ((k : Int) < (code.length : Int)) = true := by simpa using hlt
            have ba := (Below.refl wr.heap.size wr).alloc (Nat.le_refl _) (.cells (insV op dst ra rb cc) 72)
            have v1 : wr.heap.size ≠ w.heap.size := Nat.ne_of_gt xw.lt
            obtain ⟨z0, z1, z2, z3⟩ := pg4 (xw.alloc (.cells (insV op dst ra rb cc) 72))
            go_wp2_with (go_at_call 88; refine (may_calls _ _ _ _ _ _).mono ?_; rintro e wm ⟨rfl, hbm⟩)
            all_goals first
              | (go_ret2
                 refine ⟨ChkAns.wrong _ ?_, below_to (below_to bw ba) hbm⟩
                 rintro ⟨_, _, hq⟩
                 have hq2 := hq _ (getD_mem hlt)
                 rw [hI.out] at hq2
                 simp_all)
              | (go_roundw
                 case rel =>
                   refine ⟨k + 1, by omega, by go_num, ?_, below_to (below_to bw ba) hbm, (hIw'.below ba).below hbm, Blk.below (xw.alloc _) hbm (xw.alloc _).lt⟩
                   intro j hj
                   rcases Nat.lt_or_ge j k with h1 | h1
                   · exact HB.out j h1
                   · obtain rfl : j = k := by omega
                     rw [hI.out]
                     simp_all
                 case measure => simp [intOf]; omega)
          · have hdec : decide ((k : Int) < (code.length : Int)) = false := by simpa using hge
            have HC : Hid (∀ i ∈ code, May i regs) := all_getD fun j hj => HB.out j (by omega)
            go_wp2
            go_ret2
            exact ⟨ChkAns.right ⟨HH.out, HO.out, HC.out⟩, bw⟩
  · have HH : Hid (¬ Pg.Head ⟨ins, regs, code, outs⟩) := hh
    clear hh
    go_enter Try.func40, Try.ntmps40
    go_wp2_with fail
    all_goals first
      | (go_ret2
         exact ⟨ChkAns.wrong _ fun h => HH.out h.1, b0⟩)
      | (exfalso
         refine HH.out ?_
         unfold Pg.Head
         dsimp only
         omega)
end Go.Proofs.Ytnchlckncknaiaa
/- append at the program's element types; rows of numbers that append makes. -/
namespace Go.Proofs.Ytnchlckncknaiaa
open Go.RowKit

structure Elem (P : Program) (t e : TypeId) (z : Value) (size bytes : Nat) : Prop where
  ht : P.underlying t = some (.slice e)
  hi : ∃ i, P.info? e = some i ∧ i.zero = some z ∧ i.size = size ∧ i.bytes = bytes
  hz : z.cells.size = size
  hsz : 0 < size
theorem Elem.of {P : Program} {t e : TypeId} {z : Value} {size bytes : Nat} (ht : P.underlying t = some (.slice e)) (h : (P.info? e).map (fun i => (i.zero, i.size, i.bytes)) = some (some z, size, bytes)) (hz : z.cells.size = size) (hsz : 0 < size) : Elem P t e z size bytes := by
  refine ⟨ht, ?_, hz, hsz⟩
  cases hi : P.info? e with
  | none => rw [hi] at h; cases h
  | some i =>
    rw [hi] at h
    simp only [Option.map_some, Option.some.injEq, Prod.mk.injEq] at h
    exact ⟨i, rfl, h.1, h.2.1, h.2.2⟩
def zI : Value := .agg #[.bool false, .slice none 0 0]
def zIns : Value := .agg #[.int .i64 0, .int .i64 0, .int .i64 0, .int .i64 0, .int .i64 0]
theorem infI : (Try.prog.info? 61).map (fun i => (i.zero, i.size, i.bytes)) = some (some zI, 2, 32) := by kernel_rfl
theorem infIns : (Try.prog.info? 72).map (fun i => (i.zero, i.size, i.bytes)) = some (some zIns, 5, 40) := by kernel_rfl
theorem infZ : (Try.prog.info? 3).map (fun i => (i.zero, i.size, i.bytes)) = some (some (.int .i64 0), 1, 8) := by kernel_rfl
theorem elI : Elem Try.prog 33 61 zI 2 32 := .of Try.underlying33 infI rfl (by omega)
theorem elIns : Elem Try.prog 22 72 zIns 5 40 := .of Try.underlying22 infIns rfl (by omega)
theorem elZ : Elem Try.prog 23 3 (.int .i64 0) 1 8 := .of Try.underlying23 infZ rfl (by omega)

theorem wpList_append_e {P : Program} {w : World} {ops : Array Oper} {rest : List Oper} {o : Oper} {a : Act} {Q : Exit → Act → World → Prop} (hgd : o.guard = none) (s x : Operand) {t e : TypeId} {z : Value} {size bytes : Nat}
    (ho : o.op = .call { callee := .builtin .append, args := #[s, x], argTypes := #[t, t] }) (E : Elem P t e z size bytes)
    (base : Nat) (v : Value) (n : Nat) (xs : List Value) (hs : a.eval s = v) (hown : RowZ w base e z v n xs)
    (g : Nat) (c : Nat) (news : List Value) (hx : a.eval x = .slice (some ⟨g, 0, none⟩) 1 c) (hl : news.length = size) (hnews : ∃ t' fr, w.heap[g]? = some (.cells news.toArray t' fr)) (h1 : ∀ u ∈ news, u.oneCell' = true)
    (h63 : n < 1099511627776) (hby : bytes ≤ 64) (hbase : base ≤ w.heap.size)
    (h : ∀ g cap w', RowZ w' base e z (.slice (some ⟨g, 0, none⟩) (n + 1) cap) (n + 1) (xs ++ news) → w.grownBy w' v.ownBlock → (v.ownBlock = some g ∨ g = w.heap.size) → wpList P ops Q rest (a.put o.dst (.slice (some ⟨g, 0, none⟩) (n + 1) cap)) w') : wpList P ops Q (o :: rest) a w := by
  obtain ⟨i, hi, hz, hs1, hb1⟩ := E.hi
  obtain ⟨t', fr, hn⟩ := hnews
  have hb2 : (n + 1) * bytes ≤ (n + 1) * 64 := Nat.mul_le_mul_left _ hby
  exact wpList_append_z hgd s x t ho base e i z bytes E.ht hi hz (by rw [E.hz, hs1]) hb1 (by rw [E.hz]; exact E.hsz) v n xs hs hown ⟨g, 0, none⟩ 1 c news hx (by rw [E.hz, hl]; omega) (fun j u hu => World.news_of_block hn j u (by simpa using hu)) h1 (by omega) (by unfold maxLen; omega) (by omega) hbase h
theorem step_append_e {P : Program} {w : World} {ops : Array Oper} {o : Oper} {a : Act} {K : Act → World → Prop} {Q : Exit → Act → World → Prop} {E' : Prop} (hgd : o.guard = none) (s x : Operand) {t e : TypeId} {z : Value} {size bytes : Nat}
    (ho : o.op = .call { callee := .builtin .append, args := #[s, x], argTypes := #[t, t] }) (E : Elem P t e z size bytes)
    (base : Nat) (v : Value) (n : Nat) (xs : List Value) (hs : a.eval s = v) (hown : RowZ w base e z v n xs)
    (g : Nat) (c : Nat) (news : List Value) (hx : a.eval x = .slice (some ⟨g, 0, none⟩) 1 c) (hl : news.length = size) (hnews : ∃ t' fr, w.heap[g]? = some (.cells news.toArray t' fr)) (h1 : ∀ u ∈ news, u.oneCell' = true)
    (h63 : n < 1099511627776) (hby : bytes ≤ 64) (hbase : base ≤ w.heap.size)
    (h : ∀ g cap w', RowZ w' base e z (.slice (some ⟨g, 0, none⟩) (n + 1) cap) (n + 1) (xs ++ news) → w.grownBy w' v.ownBlock → (v.ownBlock = some g ∨ g = w.heap.size) → K (a.put o.dst (.slice (some ⟨g, 0, none⟩) (n + 1) cap)) w') :
    if Region.wanted o (yielded ops a.tmps) = true then Oper.wp P o a w K Q else E' := by
  obtain ⟨i, hi, hz, hs1, hb1⟩ := E.hi
  obtain ⟨t', fr, hn⟩ := hnews
  have hb2 : (n + 1) * bytes ≤ (n + 1) * 64 := Nat.mul_le_mul_left _ hby
  exact step_append_z hgd s x t ho base e i z bytes E.ht hi hz (by rw [E.hz, hs1]) hb1 (by rw [E.hz]; exact E.hsz) v n xs hs hown ⟨g, 0, none⟩ 1 c news hx (by rw [E.hz, hl]; omega) (fun j u hu => World.news_of_block hn j u (by simpa using hu)) h1 (by omega) (by unfold maxLen; omega) (by omega) hbase h

/-- Words stay where only a row without words has turned. -/
theorem RdU.grown {w w' : World} {A : Option Addr} {n : Nat} {xs : List Int} {row : Option Nat} (h : RdU w A n xs) (hg : w.grownBy w' row) (hr : ∀ g, row = some g → ∀ i z, w.cell? ⟨g, i, none⟩ ≠ some (.int .u32 z)) : RdU w' A n xs :=
  ⟨h.1, fun hn => by
    obtain ⟨b, off, e, hc⟩ := h.2 hn
    refine ⟨b, off, e, fun j hj => ?_⟩
    have hcj := hc j hj
    have hlt := World.block_lt_of_cell? w _ hcj
    rw [← hcj]
    exact World.cell?_of_block (hg.block b hlt (fun e2 => hr b e2.symm _ _ hcj))⟩
theorem IntB.grown {w w' : World} {v : Value} {z : Int} {N : Nat} {row : Option Nat} (h : IntB w v z N) (hg : w.grownBy w' row) (hr : ∀ g, row = some g → ∀ i z, w.cell? ⟨g, i, none⟩ ≠ some (.int .u32 z)) : IntB w' v z N := by
  obtain ⟨neg, s, xs, e, ⟨A, c, e2, h1, h2⟩, h3⟩ := h
  exact ⟨neg, s, xs, e, ⟨A, c, e2, h1, h2.grown hg hr⟩, h3⟩
theorem below_of_row {w w' : World} {base n : Nat} {e : TypeId} {z v : Value} {xs : List Value} (h : RowZ w base e z v n xs) (hg : w.grownBy w' v.ownBlock) (hb : base ≤ w.heap.size) : Below base w w' :=
  below_of_grown hg (fun _ hr => (h.lt hr).2) hb

/-- A row of numbers that append has made. -/
def OwnN (w : World) (base : Nat) (v : Value) (zs : List Int) (N : Nat) : Prop :=
  ∃ xs, RowZ w base 61 zI v zs.length xs ∧ (∀ u ∈ xs, notU u) ∧ ∀ j, j < zs.length → ∃ p s k c, xs[j * 2]? = some (.bool p) ∧ xs[j * 2 + 1]? = some (.slice s k c) ∧ IntB w (.agg #[.bool p, .slice s k c]) (lg zs j) N
theorem OwnN.nil (w : World) (base N : Nat) : OwnN w base (.slice none 0 0) [] N := ⟨[], RowZ.nil _ _ _ _, by simp, fun j hj => absurd hj (by simp)⟩
theorem OwnN.below {w w' : World} {base N : Nat} {v : Value} {zs : List Int} (h : OwnN w base v zs N) (hb : Below w.heap.size w w') : OwnN w' base v zs N := by
  obtain ⟨xs, h1, h2, h3⟩ := h
  refine ⟨xs, h1.below hb, h2, fun j hj => ?_⟩
  obtain ⟨p, s, k, c, e1, e2, e3⟩ := h3 j hj
  exact ⟨p, s, k, c, e1, e2, e3.below hb⟩
theorem notU_zI : ∀ u ∈ zI.cells, notU u := by
  intro u hu
  simp [zI, Value.cells] at hu
  intro n
  rcases hu with rfl | rfl <;> simp
theorem OwnN.noU {w : World} {base n : Nat} {v : Value} {xs : List Value} (h : RowZ w base 61 zI v n xs) (h2 : ∀ u ∈ xs, notU u) : ∀ g, v.ownBlock = some g → ∀ i z, w.cell? ⟨g, i, none⟩ ≠ some (.int .u32 z) := by
  intro g hg i z hc
  rcases h.cells hg hc with h1 | h1
  · exact h2 _ h1 z rfl
  · exact notU_zI _ h1 z rfl
theorem lg_snoc (zs : List Int) (z : Int) (j : Nat) : lg (zs ++ [z]) j = if j < zs.length then lg zs j else if j = zs.length then z else 0 := by
  unfold lg
  rw [List.getD_eq_getElem?_getD, List.getElem?_append]
  split
  · rfl
  · split
    · rename_i h; simp [h]
    · rename_i h1 h2
      rw [List.getElem?_eq_none (by simp; omega)]; rfl
/-- A number more. -/
theorem OwnN.snoc {w w' : World} {base N g cap : Nat} {v : Value} {zs : List Int} {xs : List Value} {p : Bool} {s : Option Addr} {k c : Nat} {z : Int} (h : RowZ w base 61 zI v zs.length xs) (h2 : ∀ u ∈ xs, notU u)
    (h3 : ∀ j, j < zs.length → ∃ p s k c, xs[j * 2]? = some (.bool p) ∧ xs[j * 2 + 1]? = some (.slice s k c) ∧ IntB w (.agg #[.bool p, .slice s k c]) (lg zs j) N)
    (hz : IntB w (.agg #[.bool p, .slice s k c]) z N) (hr : RowZ w' base 61 zI (.slice (some ⟨g, 0, none⟩) (zs.length + 1) cap) (zs.length + 1) (xs ++ [.bool p, .slice s k c])) (hg : w.grownBy w' v.ownBlock) :
    OwnN w' base (.slice (some ⟨g, 0, none⟩) (zs.length + 1) cap) (zs ++ [z]) N := by
  have hn := OwnN.noU h h2
  have hxl : xs.length = zs.length * 2 := by rw [h.1]; rfl
  refine ⟨xs ++ [.bool p, .slice s k c], by simpa using hr, ?_, fun j hj => ?_⟩
  · intro u hu
    rcases List.mem_append.1 hu with hu | hu
    · exact h2 u hu
    · simp at hu
      intro n
      rcases hu with rfl | rfl <;> simp
  · rw [lg_snoc]
    simp at hj
    by_cases hlt : j < zs.length
    · rw [if_pos hlt]
      obtain ⟨p', s', k', c', e1, e2, e3⟩ := h3 j hlt
      exact ⟨p', s', k', c', by rw [List.getElem?_append_left (by omega)]; exact e1, by rw [List.getElem?_append_left (by omega)]; exact e2, e3.grown hg hn⟩
    · obtain rfl : j = zs.length := by omega
      rw [if_neg (by omega), if_pos rfl]
      exact ⟨p, s, k, c, by rw [List.getElem?_append_right (by omega), hxl]; simp, by rw [List.getElem?_append_right (by omega), hxl]; simp, hz.grown hg hn⟩
/-- Read as a slice. -/
def SlN (w : World) (v : Value) (zs : List Int) (N : Nat) : Prop := ∃ A c, v = .slice A zs.length c ∧ zs.length ≤ c ∧ RdN w A zs N
theorem SlN.below {w w1 : World} {v : Value} {zs : List Int} {N : Nat} (h : SlN w v zs N) (hb : Below w.heap.size w w1) : SlN w1 v zs N := by
  obtain ⟨A, c, e, h1, h2⟩ := h
  exact ⟨A, c, e, h1, h2.below hb⟩
theorem OwnN.sl {w : World} {base N : Nat} {v : Value} {zs : List Int} (h : OwnN w base v zs N) : SlN w v zs N := by
  obtain ⟨xs, ⟨hl, h1⟩, h2, h3⟩ := h
  rcases h1 with ⟨rfl, h0⟩ | ⟨g, cap, sp, rfl, hb, hB, hc, hm, hs, hz⟩
  · exact ⟨none, 0, by rw [h0], by omega, fun h => absurd h (by omega)⟩
  · have hxl : xs.length = zs.length * 2 := by rw [hl]; rfl
    refine ⟨_, cap, rfl, hc, fun _ => ⟨g, 0, rfl, fun j hj => ?_⟩⟩
    obtain ⟨p, s, k, c, e1, e2, e3⟩ := h3 j hj
    refine ⟨p, s, k, c, ?_, ?_, e3⟩
    · rw [Blk.cell hB, Nat.zero_add, List.getElem?_toArray, List.getElem?_append_left (by omega)]; exact e1
    · rw [Blk.cell hB, Nat.zero_add, List.getElem?_toArray, List.getElem?_append_left (by omega)]; exact e2
end Go.Proofs.Ytnchlckncknaiaa
/- row.Of, row.Cmp, row.Same. -/
namespace Go.Proofs.Ytnchlckncknaiaa
open Go.RowKit

/-- int64s stand from A on. -/
def RdL (w : World) (A : Option Addr) (l : List Int) : Prop :=
  0 < l.length → ∃ b off, A = some ⟨b, off, none⟩ ∧ ∀ j, j < l.length → w.cell? ⟨b, off + j, none⟩ = some (.int .i64 (lg l j))
theorem RdL.below {w w1 : World} {A : Option Addr} {l : List Int} (h : RdL w A l) (hb : Below w.heap.size w w1) : RdL w1 A l := by
  intro h0
  obtain ⟨b, off, e, hj⟩ := h h0
  exact ⟨b, off, e, fun j hjl => below_cell hb (hj j hjl)⟩

set_option maxHeartbeats 4000000 in
theorem rowof_calls {w : World} {A : Option Addr} {l : List Int} {c : Nat} (hl : RdL w A l) (hn : l.length ≤ 1000000) (hw : ∀ j, j < l.length → -9223372036854775808 ≤ lg l j ∧ lg l j < 9223372036854775808) :
    Calls Try.prog 15 #[.slice A l.length c] w fun e w' => (∃ v, e = .returned v ∧ OwnN w' w.heap.size v l 2) ∧ Below w.heap.size w w' := by
  have HW := hide hw
  clear hw
  go_enter Try.func15, Try.ntmps15
  go_wp2
  go_loopw [3, 8] (fun out i wr => ∃ k : Nat, k ≤ l.length ∧ i = .int .i64 k ∧ OwnN wr w.heap.size out (l.take k) 2 ∧ Below w.heap.size w wr) (fun _ i _ => l.length - (intOf i).toNat)
  case atStart => exact ⟨0, by omega, rfl, OwnN.nil _ _ _, Below.refl _ _⟩
  case round =>
    obtain ⟨k, hk, rfl, hown, bw⟩ := hrel
    rcases Nat.lt_or_ge k l.length with hlt | hge
    · obtain ⟨b', off, rfl, hcell⟩ := (hl.below bw) (by omega)
      have e0 := hcell k hlt
      clear hcell
      obtain ⟨n, hn'⟩ := named (lg l k)
      have hn2 := HW.out k hlt
      rw [hn'.out] at e0 hn2
      have hdec : decide (k < l.length) = true := by simpa using hlt
      have HO := hide (of_calls (w := wr) n (by omega) (by omega))
      go_wp2_with fail
      refine HO.out.mono ?_
      rintro e w1 ⟨⟨x, rfl, hx⟩, hb1⟩
      have hx0 := hx
      obtain ⟨n1, s1, us, rfl, ⟨A1, c1, rfl, hc1, hr1⟩, hrest⟩ := hx
      clear hrest
      have ba := (Below.refl w1.heap.size w1).alloc (Nat.le_refl _) (.cells #[.bool n1, .slice A1 us.length c1] 61)
      have hx2 := hx0.below ba
      have x2 := Blk.new w1 61 #[.bool n1, .slice A1 us.length c1]
      obtain ⟨xs, r1, r2, r3⟩ := (hown.below hb1).below ba
      have hkl : (l.take k).length = k := by rw [List.length_take]; omega
      rw [hkl] at r1 r3
      have bw2 := below_to (below_to bw hb1) ba
      have hkl' := hide hkl
      clear hkl hown
      go_wp2_with (at_builtin; refine wpList_append_e rfl (.tmp 12) (.tmp 15) rfl elI w.heap.size u3 k xs rfl r1 w1.heap.size _ [.bool n1, .slice A1 us.length c1] rfl rfl ⟨_, _, x2⟩ ?h1 ?h2 ?h3 ?h4 ?h5)
      case h1 => intro u hu; simp at hu; rcases hu with rfl | rfl <;> rfl
      case h2 => omega
      case h3 => omega
      case h4 => exact bw2.size
      case h5 =>
        intro g cap w3 hr3 hg3 hor
        have bw3 := below_of_row r1 hg3 bw2.size
        go_wp2
        go_roundw
        case rel =>
          refine ⟨k + 1, by omega, by go_num, ?_, bw2.trans bw3⟩
          have hz : (l.take k).length = k := hkl'.out
          have hs := OwnN.snoc (zs := l.take k) (by rw [hz]; exact r1) r2 (by rw [hz]; exact r3) hx2 (by rw [hz]; exact hr3) hg3
          rw [hz] at hs
          rw [take_snocI l hlt, hn'.out]
          exact hs
        case measure => simp [intOf]; omega
    · obtain rfl : k = l.length := by omega
      have hdec : decide (l.length < l.length) = false := by simp
      rw [List.take_length] at hown
      go_wp2
      go_ret
      exact ⟨⟨_, rfl, hown⟩, bw⟩
end Go.Proofs.Ytnchlckncknaiaa
