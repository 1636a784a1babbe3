/- Words and contracts that the claim's last text uses: part 5. -/
import Derived.Test.YtnchlckncknaiaaSa4
import Derived.BigQuiet
import Derived.Deep.RegionHeld3
import Derived.Deep.QuietTactic
/- share: reckon. -/
namespace Go.Proofs.Ytnchlckncknaiaa
open Go.RowKit Go.Maps

/-- What is bounded of a table. -/
structure TbOK (T : Tb) : Prop where
  next : 0 ≤ T.next ∧ T.next < 1000000
  len : 0 < T.held.length ∧ T.held.length ≤ 1000
  held : ∀ k, k < T.held.length → 0 ≤ lg T.held k ∧ lg T.held k < T.next

theorem keyF_wf {T : Tb} (h : TbOK T) {op dst c : Int} {i j : Nat} (hi : i < T.held.length) (hj : isTwo op = true → j < T.held.length) (h1 : 1 ≤ op) (h8 : op ≤ 8) (hc : I64 c) : (keyF T.held ⟨op, dst, i, j, c⟩).Wf := by
  have ha := h.held i hi
  obtain ⟨n0, n1⟩ := h.next
  unfold keyF
  dsimp only
  rw [Int.toNat_natCast, Int.toNat_natCast]
  cases ht : isTwo op
  · have h3 : ¬ op = 3 := by rintro rfl; simp [isTwo] at ht
    rw [if_neg (fun e => h3 e.1)]
    exact ⟨⟨by dsimp only; omega, by dsimp only; omega⟩, ⟨by dsimp only; omega, by dsimp only; omega⟩, ⟨by simp, by simp⟩, hc⟩
  · have hb := h.held j (hj ht)
    simp only [if_true]
    split
    · exact ⟨⟨by dsimp only; omega, by dsimp only; omega⟩, ⟨by dsimp only; omega, by dsimp only; omega⟩, ⟨by dsimp only; omega, by dsimp only; omega⟩, hc⟩
    · exact ⟨⟨by dsimp only; omega, by dsimp only; omega⟩, ⟨by dsimp only; omega, by dsimp only; omega⟩, ⟨by dsimp only; omega, by dsimp only; omega⟩, hc⟩

theorem look_two {W : World} {b n : Nat} {D : DataW Unit} {f : Ky → Option Int} (h : MapB W b n D) (hf : KnownIs D f) {K : Ky} (hw : K.Wf) :
    ∃ cv, (Instr.lookup 86 (.map (some b)) K.val true).run Try.prog W = .ok (.tuple #[.int .i64 cv, .bool (f K).isSome]) W := by
  have hw0 : (Lit.int .i64 0).wf = true := by decide
  obtain ⟨v, ps, hrun, hv⟩ := h.look_ok keyedK Try.underlying86 (zeroE _) (plainElem_int Try.underlying3 hw0) (kd_key hw)
  obtain ⟨c, rfl, _, _⟩ := plainElem_int_inv Try.underlying3 hv
  rw [(hf K hw).1] at hrun
  exact ⟨c, hrun⟩
theorem look_any {W : World} {b n : Nat} {D : DataW Unit} (h : MapB W b n D) {K : Ky} (hw : K.Wf) :
    ∃ cv, (Instr.lookup 86 (.map (some b)) K.val false).run Try.prog W = .ok (.int .i64 cv) W ∧ D.atKey (kd K) (.lit (.int .i64 0)) = .lit (.int .i64 cv) := by
  obtain ⟨c, h1, h2, _⟩ := h.lookup_int keyedK Try.underlying86 Try.underlying3 (zeroE _) (kd_key hw)
  exact ⟨c, h1, h2⟩
theorem look_known {W : World} {b n : Nat} {D : DataW Unit} {f : Ky → Option Int} (h : MapB W b n D) (hf : KnownIs D f) {K : Ky} (hw : K.Wf) {v : Int} (hv : f K = some v) :
    (Instr.lookup 86 (.map (some b)) K.val false).run Try.prog W = .ok (.int .i64 v) W := by
  obtain ⟨c, h1, h2⟩ := look_any h hw
  have := (hf K hw).2 v hv
  rw [this] at h2
  have e : v = c := by simpa using h2
  rw [e]
  exact h1
theorem Blk.grownM {w w' : World} {a b n : Nat} {t : TypeId} {x : Array Value} {D : DataW Unit} (ha : Blk w a t x) (hm : MapB w b n D) (hg : w.grownBy w' (some b)) : Blk w' a t x :=
  (hg.block a ha.lt (fun e => map_ne ha hm (Option.some.inj e).symm)).trans ha
theorem RowZ.grownM {w w' : World} {base n m b : Nat} {e : TypeId} {z v : Value} {xs : List Value} {D : DataW Unit} (h : RowZ w base e z v n xs) (hm : MapB w b m D) (hg : w.grownBy w' (some b)) : RowZ w' base e z v n xs :=
  h.kept fun g hgo => hg.block g (h.lt hgo).1 (fun e => h.neM hm g hgo (Option.some.inj e))
theorem reckon_new (w : World) (a : Array Value) : Blk (w.alloc (.cells a 72)) w.heap.size 72 a ∧ Below w.heap.size w (w.alloc (.cells a 72)) :=
  ⟨Blk.new _ _ _, (Below.refl _ _).alloc (Nat.le_refl _) _⟩
/-- All blocks but the table's own are as they were. -/
def Keeps (w w' : World) : Prop := ∀ a s x, Blk w a s x → s ≠ 88 → Blk w' a s x
theorem Keeps.trans {a b c : World} (h : Keeps a b) (k : Keeps b c) : Keeps a c := fun i s x hb hs => k i s x (h i s x hb hs) hs
theorem Keeps.of {w w' : World} (h : Below w.heap.size w w') : Keeps w w' := fun _ _ _ hb _ => Blk.below hb h hb.lt
theorem Keeps.map {w w' : World} {b n : Nat} {D : DataW Unit} (hm : MapB w b n D) (hg : w.grownBy w' (some b)) : Keeps w w' := fun _ _ _ hb _ => hb.grownM hm hg
theorem Keeps.tab {w : World} {t : Nat} {x : Array Value} (ht : Blk w t 88 x) (i : Nat) (u : Value) : Keeps w (w.setCell ⟨t, i, none⟩ u) := fun _ _ _ hb hs => hb.far (p := ⟨t, i, none⟩) (blk_ne hb ht hs) u
/-- What reckon answers. -/
def RkAns (v : Int) (e : Ending) : Prop := ∃ f : Int, e = .returned (.tuple #[.int .i64 v, .int .i64 f])

set_option maxHeartbeats 4000000 in
theorem reckon_move {w : World} {base t : Nat} {T : Tb} {dst c nn : Int} {i j : Nat} (h : TabB w base t T) (hi : i < T.held.length) (hl : T.held.length ≤ 1000) :
    Calls Try.prog 44 #[.pointer (some ⟨t, 0, none⟩), .int .i64 nn, .agg (insV 1 dst i j c)] w fun e w' => RkAns (lg T.held i) e ∧ Below w.heap.size w w' := by
  obtain ⟨x0, b0⟩ := reckon_new w (insV 1 dst i j c)
  have hT0 := h.below b0
  obtain ⟨g, cap, t0, htl, hgl, hc⟩ := hT0.row (by omega)
  have a0 := hc i hi
  obtain ⟨va, hva⟩ := named (lg T.held i)
  rw [hva.out] at a0 ⊢
  clear hc
  obtain ⟨e0, e1, e2, e3, e4⟩ := ins5 x0
  have i0 : (0 : Int) ≤ (i : Int) := by omega
  have i1 : (i : Int) < (T.held.length : Int) := by omega
  go_enter Try.func44, Try.ntmps44
  go_wp2_with fail
  generalize w.alloc _ = W at *
  go_quiet (fail)
  go_wp2
  go_ret2
  exact ⟨⟨-1, rfl⟩, below_drewN b0 _⟩

set_option maxHeartbeats 4000000 in
theorem reckon_calls {w : World} {base t : Nat} {T : Tb} {op dst c nn : Int} {i j : Nat} (h : TabB w base t T) (hb : base ≤ w.heap.size) (hT : TbOK T) (hi : i < T.held.length) (hj : isTwo op = true → j < T.held.length) (h1 : 1 ≤ op) (h8 : op ≤ 8) (hc : I64 c) (hnn : I64 nn) (hop : ¬ op = 1) :
    Calls Try.prog 44 #[.pointer (some ⟨t, 0, none⟩), .int .i64 nn, .agg (insV op dst i j c)] w fun e w' => RkAns (valF T ⟨op, dst, i, j, c⟩) e ∧ TabB w' base t (reckF T ⟨op, dst, i, j, c⟩) ∧ Below base w w' ∧ Keeps w w' := by
  obtain ⟨x0, b0⟩ := reckon_new w (insV op dst i j c)
  have hT0 := h.below b0
  have hKW := keyF_wf hT (dst := dst) hi hj h1 h8 hc
  have HC := hide (keyed_calls (dst := dst) (c := c) hT0 hi hj hT.len.2 h1 h8)
  obtain ⟨K, hK⟩ := named (keyF T.held ⟨op, dst, i, j, c⟩)
  have hV : Hid (valF T ⟨op, dst, i, j, c⟩ = (T.known K).getD T.next) := by unfold Hid valF; rw [if_neg hop, hK.out]
  have hR : Hid (reckF T ⟨op, dst, i, j, c⟩ = if (T.known K).isSome then T else { T with known := fun k => if k = K then some T.next else T.known k, next := T.next + 1 }) := by unfold Hid reckF; rw [if_neg hop, hK.out]
  rw [hV.out, hR.out]
  rw [hK.out] at HC hKW
  clear hV hR hK
  obtain ⟨ko, ka, kb, kc⟩ := K
  have hne : (op == 1) = false := by simpa using hop
  obtain ⟨e0, e1, e2, e3, e4⟩ := ins5 x0
  obtain ⟨res, hres⟩ := named ((T.known ⟨ko, ka, kb, kc⟩).getD T.next)
  obtain ⟨T1, hT1⟩ := named (if (T.known ⟨ko, ka, kb, kc⟩).isSome then T else { T with known := fun k => if k = ⟨ko, ka, kb, kc⟩ then some T.next else T.known k, next := T.next + 1 })
  rw [hres.out, hT1.out]
  unfold Ky.val at HC
  dsimp only at HC
  go_enter Try.func44, Try.ntmps44
  go_wp2_with fail
  generalize w.alloc _ = W0 at *
  refine HC.out.mono ?_
  rintro e w1 ⟨rfl, hb1⟩
  have hTa := hT0.below hb1
  have ba := (Below.refl w1.heap.size w1).alloc (Nat.le_refl _) (.cells #[.int .i64 ko, .int .i64 ka, .int .i64 kb, .int .i64 kc] 143)
  have y2 := Blk.new w1 143 #[.int .i64 ko, .int .i64 ka, .int .i64 kb, .int .i64 kc]
  have hTb := hTa.below ba
  have bb := below_to (below_to b0 hb1) ba
  clear hT0 hTa e0 e1 e2 e3 e4 x0 HC h
  have hbb : base ≤ w.heap.size := hb
  go_wp2_with fail
  generalize w1.alloc _ = W at *
  generalize w1.heap.size = k8 at *
  clear ba hb1 b0
  have hTd : TabB W.drew base t T := hTb
  have y2d : Blk W.drew _ _ _ := y2
  have bbd := bb.drew
  obtain ⟨hA, hcap, mk, mf, Dk, Df, k1, k2, k3, k4, k5⟩ := hTd
  obtain ⟨cv, HL⟩ := look_two k3 k5.2.2.2.2 hKW
  unfold Ky.val at HL
  dsimp only at HL
  obtain ⟨t0, t1, t2, t3⟩ := tab4 k1
  obtain ⟨q0, q1, q2, q3⟩ := key4 y2d
  obtain ⟨hs, hhs⟩ := named (T.known ⟨ko, ka, kb, kc⟩).isSome
  rw [hhs.out] at HL
  have K5 := hide k5
  clear k5
  go_region_held3 (fun w' => w'.cell? ⟨t, 1, none⟩ = some (.map (some mk)) ∧ w'.cell? ⟨k8, 0, none⟩ = some (.int .i64 ko) ∧ w'.cell? ⟨k8, 1, none⟩ = some (.int .i64 ka) ∧ w'.cell? ⟨k8, 2, none⟩ = some (.int .i64 kb) ∧ w'.cell? ⟨k8, 3, none⟩ = some (.int .i64 kc))
    (first | exact ⟨t1, q0, q1, q2, q3⟩) (fail)
  have bbd2 := bbd
  clear t0 t1 t2 t3 q0 q1 q2 q3 HL y2 hTb bb bbd
  generalize W.drew = V at *
  clear W
  cases hkn : T.known ⟨ko, ka, kb, kc⟩ with
  | some v0 =>
    obtain rfl : hs = true := by rw [← hhs.out, hkn]; rfl
    have hrv : res = v0 := by rw [← hres.out, hkn]; rfl
    have hT1v : T1 = T := by rw [← hT1.out, hkn]; rfl
    subst hrv hT1v
    have hval := hkn
    clear hkn hhs hT1 hres
    have m1 : Blk V.drew _ _ _ := k1
    have m3 : MapB V.drew _ _ _ := k3
    have m4 : MapB V.drew _ _ _ := k4
    have m5 := K5.out.2.2.2.2
    have y3 : Blk V.drew _ _ _ := y2d
    obtain ⟨c2, HL2, _⟩ := look_any (W := V.drew) m4 hKW
    have HL1 := look_known (W := V.drew) m3 m5 hKW hval
    unfold Ky.val at HL1 HL2
    dsimp only at HL1 HL2
    obtain ⟨t0, t1, t2, t3⟩ := tab4 m1
    obtain ⟨q0, q1, q2, q3⟩ := key4 y3
    go_wp2_with fail
    go_region_held3 (fun w' => w'.cell? ⟨t, 1, none⟩ = some (.map (some mk)) ∧ w'.cell? ⟨t, 2, none⟩ = some (.map (some mf)) ∧ w'.cell? ⟨k8, 0, none⟩ = some (.int .i64 ko) ∧ w'.cell? ⟨k8, 1, none⟩ = some (.int .i64 ka) ∧ w'.cell? ⟨k8, 2, none⟩ = some (.int .i64 kb) ∧ w'.cell? ⟨k8, 3, none⟩ = some (.int .i64 kc))
      (first | exact ⟨t1, t2, q0, q1, q2, q3⟩) (fail)
    all_goals go_wp2
    all_goals
      go_ret2
      refine ⟨⟨_, rfl⟩, ?_, ?_⟩
      · exact ⟨hA, hcap, mk, mf, Dk, Df, m1, k2, m3, m4, K5.out⟩
      · exact ⟨(bbd2.mono hbb).drew, Keeps.of bbd2.drew⟩
  | none =>
    obtain rfl : hs = false := by rw [← hhs.out, hkn]; rfl
    have hrv : res = T.next := by rw [← hres.out, hkn]; rfl
    have hT1v : T1 = { T with known := fun k => if k = ⟨ko, ka, kb, kc⟩ then some T.next else T.known k, next := T.next + 1 } := by rw [← hT1.out, hkn]; rfl
    subst hrv hT1v
    obtain ⟨n0, n1⟩ := hT.next
    clear hkn hhs hT1 hres
    have hmax : T.next.toNat < maxLen := by unfold maxLen; omega
    have k1d : Blk V.drew _ _ _ := k1
    have k2d : RowZ V.drew _ _ _ _ _ _ := k2
    have k3d : MapB V.drew _ _ _ := k3
    have k4d : MapB V.drew _ _ _ := k4
    have y3d : Blk V.drew _ _ _ := y2d
    have hx : I64 T.next := ⟨by omega, by omega⟩
    have HE := map_entry k3d hKW hmax hx
    obtain ⟨v0, st, W1, W2, HE⟩ := HE
    obtain ⟨E1, E2, M2, G1, G2, S1, S2⟩ := HE
    have hmm := K5.out.1
    have j4 : MapB W2 mf _ _ := mapB_kept k4d (G2.block mf k4d.lt (fun e => hmm (Option.some.inj e).symm))
    have k1a := k1d.grownM k3d G1
    have y3a := y3d.grownM k3d G1
    have k1b := k1d.grownM k3d G2
    have y3b := y3d.grownM k3d G2
    have k2b := k2d.grownM k3d G2
    obtain ⟨v1, st1, W3, W4, E3, E4, M4, G3, G4, S3, S4⟩ := map_entry (W := W2) j4 hKW hmax (x := nn) hnn
    have k1c := k1b.grownM j4 G3
    have y3c := y3b.grownM j4 G3
    have k1e := k1b.grownM j4 G4
    have y3e := y3b.grownM j4 G4
    have k2e := k2b.grownM j4 G4
    have M2e : MapB W4 mk _ _ := mapB_kept M2 (G4.block mk M2.lt (fun e => hmm (Option.some.inj e)))
    have bbe : Below base w W4 := ((bbd2.mono hbb).drew.trans (below_of_grown (B := base) G2 (fun g e => by rw [← Option.some.inj e]; exact K5.out.2.2.1) (by have := bbd2.size; simp; omega))).trans (below_of_grown (B := base) G4 (fun g e => by rw [← Option.some.inj e]; exact K5.out.2.2.2.1) (by rw [S2]; have := bbd2.size; simp; omega))
    have hKp : Keeps w W4 := ((Keeps.of bbd2.drew).trans (Keeps.map k3d G2)).trans (Keeps.map j4 G4)
    have hD := k3.isMap
    clear hmm G1 G2 G3 G4 S1 S2 S3 S4 k2b k2d k3d k4d M2 j4 k3 k4 k2
    unfold Ky.val at E1 E3
    dsimp only at E1 E3
    obtain ⟨_, a1, a2, a3⟩ := tab4 k1d
    obtain ⟨a4, a5, a6, a7⟩ := key4 y3d
    obtain ⟨_, b1, b2, b3⟩ := tab4 k1a
    obtain ⟨b4, b5, b6, b7⟩ := key4 y3a
    obtain ⟨_, d1, d2, d3⟩ := tab4 k1c
    obtain ⟨d4, d5, d6, d7⟩ := key4 y3c
    obtain ⟨_, f1, f2, f3⟩ := tab4 k1b
    obtain ⟨f4, f5, f6, f7⟩ := key4 y3b
    obtain ⟨_, g1, g2, g3⟩ := tab4 k1e
    obtain ⟨g4, g5, g6, g7⟩ := key4 y3e
    have u3 := k1e.frozen 3
    go_wp2_with fail
    go_region_held3 (fun w' => w'.cell? ⟨t, 1, none⟩ = some (.map (some mk)) ∧ w'.cell? ⟨t, 2, none⟩ = some (.map (some mf)) ∧ w'.cell? ⟨t, 3, none⟩ = some (.int .i64 T.next) ∧ w'.cell? ⟨k8, 0, none⟩ = some (.int .i64 ko) ∧ w'.cell? ⟨k8, 1, none⟩ = some (.int .i64 ka) ∧ w'.cell? ⟨k8, 2, none⟩ = some (.int .i64 kb) ∧ w'.cell? ⟨k8, 3, none⟩ = some (.int .i64 kc))
      (first | exact ⟨a1, a2, a3, a4, a5, a6, a7⟩ | exact ⟨b1, b2, b3, b4, b5, b6, b7⟩ | exact ⟨f1, f2, f3, f4, f5, f6, f7⟩ | exact ⟨d1, d2, d3, d4, d5, d6, d7⟩ | exact ⟨g1, g2, g3, g4, g5, g6, g7⟩) (fail)
    all_goals go_wp2_with fail
    have hkt : k8 ≠ t := (blk_ne k1e y3e (by decide)).symm
    have hval : (fun k => if k = ⟨ko, ka, kb, kc⟩ then some T.next else T.known k) ⟨ko, ka, kb, kc⟩ = some T.next := by simp
    have m1 : Blk (W4.setCell ⟨t, 3, none⟩ (.int .i64 (T.next + 1))).drew t 88 #[.slice hA T.held.length hcap, .map (some mk), .map (some mf), .int .i64 (T.next + 1)] := k1e.set 3 (.int .i64 (T.next + 1))
    have hnx : T.next.toNat + 1 = (T.next + 1).toNat := by omega
    rw [hnx] at M2e M4
    have m3 : MapB (W4.setCell ⟨t, 3, none⟩ (.int .i64 (T.next + 1))).drew mk (T.next + 1).toNat _ := mapB_kept M2e (heap_set_other W4 ⟨t, 3, none⟩ _ (map_ne k1e M2e))
    have m4 : MapB (W4.setCell ⟨t, 3, none⟩ (.int .i64 (T.next + 1))).drew mf (T.next + 1).toNat _ := mapB_kept M4 (heap_set_other W4 ⟨t, 3, none⟩ _ (map_ne k1e M4))
    have m5 := KnownIs.put K5.out.2.2.2.2 hD hKW T.next
    have y3 : Blk (W4.setCell ⟨t, 3, none⟩ (.int .i64 (T.next + 1))).drew _ _ _ := y3e.far (p := ⟨t, 3, none⟩) hkt _
    have r2 : RowZ (W4.setCell ⟨t, 3, none⟩ (.int .i64 (T.next + 1))).drew _ _ _ _ _ _ := k2e.kept (w' := (W4.setCell ⟨t, 3, none⟩ (.int .i64 (T.next + 1))).drew) fun g hg => heap_set_other W4 ⟨t, 3, none⟩ _ (k2e.ne k1e (by decide) g hg)
    have bf : Below base w (W4.setCell ⟨t, 3, none⟩ (.int .i64 (T.next + 1))).drew := (bbe.setCell (p := ⟨t, 3, none⟩) K5.out.2.1 _).drew
    have hKq : Keeps w (W4.setCell ⟨t, 3, none⟩ (.int .i64 (T.next + 1))).drew := hKp.trans (Keeps.tab k1e 3 _)
    have HKQ := hide hKq
    clear hKp hKq
    have HNX := hide hnx
    have HVAL := hide hval
    clear hnx a1 a2 a3 a4 a5 a6 a7 b1 b2 b3 b4 b5 b6 b7 d1 d2 d3 d4 d5 d6 d7 f1 f2 f3 f4 f5 f6 f7 g1 g2 g3 g4 g5 g6 g7 u3 E1 E2 E3 E4 k1a y3a k1b y3b k1c y3c k1d y3d bbe M2e M4
    obtain ⟨c2, HL2, _⟩ := look_any m4 hKW
    have HL1 := look_known m3 m5 hKW HVAL.out
    clear hval
    unfold Ky.val at HL1 HL2
    dsimp only at HL1 HL2
    obtain ⟨t0, t1, t2, t3⟩ := tab4 m1
    obtain ⟨q0, q1, q2, q3⟩ := key4 y3
    go_region_held3 (fun w' => w'.cell? ⟨t, 1, none⟩ = some (.map (some mk)) ∧ w'.cell? ⟨t, 2, none⟩ = some (.map (some mf)) ∧ w'.cell? ⟨k8, 0, none⟩ = some (.int .i64 ko) ∧ w'.cell? ⟨k8, 1, none⟩ = some (.int .i64 ka) ∧ w'.cell? ⟨k8, 2, none⟩ = some (.int .i64 kb) ∧ w'.cell? ⟨k8, 3, none⟩ = some (.int .i64 kc))
      (first | exact ⟨t1, t2, q0, q1, q2, q3⟩) (fail)
    all_goals go_wp2
    all_goals
      go_ret2
      refine ⟨⟨_, rfl⟩, ?_, bf, HKQ.out⟩
      exact ⟨hA, hcap, mk, mf, _, _, m1, r2, m3, m4, K5.out.1, K5.out.2.1, K5.out.2.2.1, K5.out.2.2.2.1, m5⟩

theorem reckon_all {w : World} {base t : Nat} {T : Tb} {op dst c nn : Int} {i j : Nat} (h : TabB w base t T) (hb : base ≤ w.heap.size) (hT : TbOK T) (hi : i < T.held.length) (hj : isTwo op = true → j < T.held.length) (h1 : 1 ≤ op) (h8 : op ≤ 8) (hc : I64 c) (hnn : I64 nn) :
    Calls Try.prog 44 #[.pointer (some ⟨t, 0, none⟩), .int .i64 nn, .agg (insV op dst i j c)] w fun e w' => RkAns (valF T ⟨op, dst, i, j, c⟩) e ∧ TabB w' base t (reckF T ⟨op, dst, i, j, c⟩) ∧ Below base w w' ∧ Keeps w w' := by
  by_cases hop : op = 1
  · subst hop
    have e1 : valF T ⟨1, dst, i, j, c⟩ = lg T.held i := by simp [valF]
    have e2 : reckF T ⟨1, dst, i, j, c⟩ = T := by simp [reckF]
    rw [e1, e2]
    exact (reckon_move h hi hT.len.2).mono fun e w' ⟨ha, hbw⟩ => ⟨ha, h.below hbw, hbw.mono hb, Keeps.of hbw⟩
  · exact reckon_calls h hb hT hi hj h1 h8 hc hnn hop
end Go.Proofs.Ytnchlckncknaiaa
/- share: what the pass lays out, in memory. -/
namespace Go.Proofs.Ytnchlckncknaiaa
open Go.RowKit Go.Maps

theorem passF_snoc : ∀ (l : List Ins) (T : Tb) (i : Ins), passF T (l ++ [i]) = ((passF T l).1 ++ emitF (passF T l).2 i, nextF (passF T l).2 i)
  | [], T, i => by simp [passF]
  | a :: l, T, i => by
    simp only [List.cons_append, passF]
    rw [passF_snoc l]
    simp [List.append_assoc]
theorem reckF_held (T : Tb) (i : Ins) : (reckF T i).held = T.held := by
  unfold reckF
  split
  · rfl
  · split <;> rfl
theorem emitF_length (T : Tb) (i : Ins) : (emitF T i).length ≤ 1 := by
  unfold emitF
  dsimp only
  split
  · simp
  · split <;> simp
theorem passF_length : ∀ (l : List Ins) (T : Tb), (passF T l).1.length ≤ l.length
  | [], T => by simp [passF]
  | a :: l, T => by
    have := passF_length l (nextF T a)
    have := emitF_length T a
    simp only [passF, List.length_append, List.length_cons]
    omega

/-- The table's numbers are bounded. -/
structure TbK (T : Tb) (n : Nat) (b : Int) : Prop where
  next : 0 ≤ T.next ∧ T.next ≤ b
  len : T.held.length = n
  held : ∀ k, k < T.held.length → 0 ≤ lg T.held k ∧ lg T.held k < T.next
  known : ∀ k v, T.known k = some v → 0 ≤ v ∧ v < T.next
theorem TbK.ok {T : Tb} {n : Nat} {b : Int} (h : TbK T n b) (hn : 0 < n ∧ n ≤ 1000) (hb : b < 1000000) : TbOK T :=
  ⟨⟨h.next.1, by have := h.next.2; omega⟩, by rw [h.len]; exact hn, h.held⟩
theorem TbK.val {T : Tb} {n : Nat} {b : Int} (h : TbK T n b) {i : Ins} (hi : i.OK n) : 0 ≤ valF T i ∧ valF T i ≤ T.next := by
  unfold valF
  split
  · have := h.held i.a.toNat (by rw [h.len]; exact lt_toNat hi.2.2.2.1)
    omega
  · cases hk : T.known (keyF T.held i) with
    | none => simp; exact h.next.1
    | some v => have := h.known _ _ hk; simp; omega
theorem TbK.step {T : Tb} {n : Nat} {b : Int} (h : TbK T n b) {i : Ins} (hi : i.OK n) : TbK (nextF T i) n (b + 1) := by
  have hv := h.val hi
  have hlt : valF T i < (nextF T i).next ∧ T.next ≤ (nextF T i).next ∧ (nextF T i).next ≤ b + 1 := by
    unfold valF nextF reckF
    dsimp only
    by_cases h1 : i.op = 1
    · rw [if_pos h1, if_pos h1]
      have := h.held i.a.toNat (by rw [h.len]; exact lt_toNat hi.2.2.2.1)
      have := h.next.2
      exact ⟨by omega, by omega, by omega⟩
    · rw [if_neg h1, if_neg h1]
      cases hk : T.known (keyF T.held i) with
      | none => have := h.next; simp; omega
      | some v => have := h.known _ _ hk; have := h.next; simp; omega
  refine ⟨⟨by have := h.next; omega, hlt.2.2⟩, ?_, ?_, ?_⟩
  · unfold nextF
    dsimp only
    split
    · exact h.len
    · rw [List.length_set, h.len]
  · intro k hk
    have key : ∀ k, k < T.held.length → 0 ≤ lg (T.held.set i.dst.toNat (valF T i)) k ∧ lg (T.held.set i.dst.toNat (valF T i)) k < (nextF T i).next := by
      intro k hk
      rw [lg_set _ _ _ _ (by rw [h.len]; exact lt_toNat hi.2.2.1)]
      split
      · exact ⟨hv.1, hlt.1⟩
      · have := h.held k hk; omega
    have e : (nextF T i).held = if lg T.held i.dst.toNat = valF T i then T.held else T.held.set i.dst.toNat (valF T i) := rfl
    rw [e] at hk ⊢
    split
    · rename_i h2
      rw [if_pos h2] at hk
      have := h.held k hk; omega
    · rename_i h2
      rw [if_neg h2, List.length_set] at hk
      exact key k hk
  · intro k v hk
    have : T.known k = some v ∨ v = T.next ∧ (nextF T i).next = T.next + 1 := by
      unfold nextF reckF at hk ⊢
      dsimp only at hk ⊢
      by_cases h1 : i.op = 1
      · rw [if_pos h1] at hk
        exact .inl hk
      · rw [if_neg h1] at hk ⊢
        split at hk
        · exact .inl hk
        · rename_i h2
          rw [if_neg h2]
          dsimp only at hk ⊢
          split at hk
          · injection hk with hk; exact .inr ⟨hk.symm, rfl⟩
          · exact .inl hk
    rcases this with h3 | ⟨h3, h4⟩
    · have := h.known k v h3; omega
    · rw [h3, h4]; have := h.next; omega
theorem TbK.pass : ∀ (l : List Ins) {T : Tb} {n : Nat} {b : Int}, TbK T n b → (∀ i ∈ l, i.OK n) → TbK (passF T l).2 n (b + l.length)
  | [], T, n, b, h, _ => by simpa [passF] using h
  | a :: l, T, n, b, h, hok => by
    have := TbK.pass l (h.step (hok a (by simp))) (fun j hj => hok j (List.mem_cons_of_mem _ hj))
    simp only [passF, List.length_cons]
    have e : b + ((l.length + 1 : Nat) : Int) = b + 1 + (l.length : Int) := by omega
    rw [e]; exact this
theorem tb0_ok {ins : Int} {n : Nat} (h1 : 1 ≤ ins) : TbK (tb0 ins n) n (ins + 1) := by
  refine ⟨⟨by show 0 ≤ ins + 1; omega, by show ins + 1 ≤ ins + 1; omega⟩, by simp [tb0], ?_, ?_⟩
  · intro k hk
    have e : (tb0 ins n).held = held0 n ins := by unfold tb0 held0; rw [Int.toNat_natCast]
    have e2 : (tb0 ins n).next = ins + 1 := rfl
    rw [e, held0_length] at hk
    rw [e, e2]
    have : lg (held0 n ins) k = min (k : Int) ins := by simp [lg, held0, hk]
    rw [this]; omega
  · intro k v hk; cases hk

/-- Instructions as cells. -/
def insVs (l : List Ins) : List Value := l.flatMap fun i => [.int .i64 i.op, .int .i64 i.dst, .int .i64 i.a, .int .i64 i.b, .int .i64 i.c]
theorem insVs_length : ∀ (l : List Ins), (insVs l).length = l.length * 5
  | [] => rfl
  | i :: l => by
    have := insVs_length l
    unfold insVs at this ⊢
    rw [List.flatMap_cons, List.length_append, this]
    simp; omega
theorem insVs_snoc (l : List Ins) (i : Ins) : insVs (l ++ [i]) = insVs l ++ [.int .i64 i.op, .int .i64 i.dst, .int .i64 i.a, .int .i64 i.b, .int .i64 i.c] := by
  unfold insVs
  rw [List.flatMap_append]
  simp
theorem insVs_get : ∀ (l : List Ins) (j : Nat), j < l.length → (insVs l)[j * 5]? = some (.int .i64 (l.getD j default).op) ∧ (insVs l)[j * 5 + 1]? = some (.int .i64 (l.getD j default).dst) ∧ (insVs l)[j * 5 + 2]? = some (.int .i64 (l.getD j default).a) ∧ (insVs l)[j * 5 + 3]? = some (.int .i64 (l.getD j default).b) ∧ (insVs l)[j * 5 + 4]? = some (.int .i64 (l.getD j default).c)
  | [], j, h => absurd h (by simp)
  | i :: l, 0, _ => by simp [insVs]
  | i :: l, j + 1, h => by
    have := insVs_get l j (by simpa using h)
    have e : insVs (i :: l) = [.int .i64 i.op, .int .i64 i.dst, .int .i64 i.a, .int .i64 i.b, .int .i64 i.c] ++ insVs l := rfl
    have key : ∀ r, (insVs (i :: l))[(j + 1) * 5 + r]? = (insVs l)[j * 5 + r]? := by
      intro r
      rw [e, List.getElem?_append_right (by simp; omega)]
      congr 1
      simp; omega
    have key0 := key 0
    simp only [Nat.add_zero] at key0
    rw [key0, key 1, key 2, key 3, key 4]
    simpa using this
theorem RowZ.rdI {w : World} {base n : Nat} {A : Option Addr} {cap : Nat} {l : List Ins} (h : RowZ w base 72 zIns (.slice A n cap) n (insVs l)) : l.length = n ∧ n ≤ cap ∧ RdI w A l := by
  obtain ⟨hl, h⟩ := h
  rw [insVs_length] at hl
  have hl' : l.length = n := by
    have : zIns.cells.size = 5 := rfl
    rw [this] at hl; omega
  rcases h with ⟨e, h0⟩ | ⟨g, cap', sp, e, hb, hB, hc, hr⟩
  · injection e with e1 e2 e3
    refine ⟨hl', by omega, fun h => absurd h (by omega)⟩
  · injection e with e1 e2 e3
    subst e1 e3
    refine ⟨hl', hc, fun _ => ⟨g, 0, rfl, fun j hj => ?_⟩⟩
    obtain ⟨g0, g1, g2, g3, g4⟩ := insVs_get l j hj
    have hln := insVs_length l
    refine ⟨?_, ?_, ?_, ?_, ?_⟩
    · rw [Blk.cell hB, Nat.zero_add, List.getElem?_toArray, List.getElem?_append_left (by omega)]; exact g0
    · rw [Blk.cell hB, Nat.zero_add, List.getElem?_toArray, List.getElem?_append_left (by omega)]; exact g1
    · rw [Blk.cell hB, Nat.zero_add, List.getElem?_toArray, List.getElem?_append_left (by omega)]; exact g2
    · rw [Blk.cell hB, Nat.zero_add, List.getElem?_toArray, List.getElem?_append_left (by omega)]; exact g3
    · rw [Blk.cell hB, Nat.zero_add, List.getElem?_toArray, List.getElem?_append_left (by omega)]; exact g4
theorem RowZ.rdZ {w : World} {base n : Nat} {A : Option Addr} {cap : Nat} {l : List Int} (h : RowZ w base 3 (.int .i64 0) (.slice A n cap) n (intsV l)) : l.length = n ∧ n ≤ cap ∧ RdZ w A l := by
  have h' := h
  obtain ⟨hl, h2⟩ := h'
  rw [intsV_length] at hl
  have hl' : l.length = n := by rw [hl]; simp [Value.cells]
  have hcap : n ≤ cap := by
    rcases h2 with ⟨e, h0⟩ | ⟨g, cap', sp, e, hb, hB, hc, hr⟩
    · omega
    · injection e with e1 e2 e3; omega
  refine ⟨hl', hcap, fun h0 => ?_⟩
  obtain ⟨g, sp, e, _, _, _, hc⟩ := h.ints (by omega)
  exact ⟨g, 0, e, fun j hj => by rw [Nat.zero_add]; exact hc j (by omega)⟩
theorem res_prog {fn : Func} {p q : Tmp} (h : fn.results = #[.cell p 25, .tmp q]) {tmps : Array Value} {w : World} {g : Nat} {a b c d x : Value} (hp : tmps.getD p undef = .pointer (some ⟨g, 0, none⟩)) (hq : tmps.getD q undef = x) (hv : Blk w g 25 #[a, b, c, d]) :
    (results fn tmps).run Try.prog w = .ok (.tuple #[.agg #[a, b, c, d], x]) w := by
  have hp' : tmps[p]?.getD undef = .pointer (some ⟨g, 0, none⟩) := by simpa using hp
  have hq' : tmps[q]?.getD undef = x := by simpa using hq
  have h0 := Blk.cell hv 0
  have h1 := Blk.cell hv 1
  have h2 := Blk.cell hv 2
  have h3 := Blk.cell hv 3
  simp at h0 h1 h2 h3
  simp [results, h, hp', hq', go_sem, h0, h1, h2, h3]
end Go.Proofs.Ytnchlckncknaiaa
/- share.Pass. -/
namespace Go.Proofs.Ytnchlckncknaiaa
open Go.RowKit Go.Maps

theorem RowZ.keeps {w w' : World} {base n : Nat} {e : TypeId} {z v : Value} {xs : List Value} (h : RowZ w base e z v n xs) (hk : Keeps w w') (hne : e ≠ 88) : RowZ w' base e z v n xs := by
  obtain ⟨hl, h⟩ := h
  refine ⟨hl, ?_⟩
  rcases h with h | ⟨g, cap, sp, rfl, hb, hB, hr⟩
  · exact .inl h
  · exact .inr ⟨g, cap, sp, rfl, hb, hk _ _ _ hB hne, hr⟩
theorem nextF_same {T : Tb} {i : Ins} (h : lg T.held i.dst.toNat = valF T i) : nextF T i = reckF T i := by
  unfold nextF
  rw [if_pos h]
  have := reckF_held T i
  cases hT : reckF T i
  rw [hT] at this
  simp only at this
  simp [this]
theorem nextF_other {T : Tb} {i : Ins} (h : ¬ lg T.held i.dst.toNat = valF T i) : nextF T i = { reckF T i with held := (reckF T i).held.set i.dst.toNat (valF T i) } := by
  unfold nextF
  rw [if_neg h, reckF_held]
theorem TabB.grown {w w' : World} {base b2 t n : Nat} {T : Tb} {e : TypeId} {z v : Value} {xs : List Value} (h : TabB w base t T) (hr : RowZ w b2 e z v n xs) (h1 : e ≠ 88) (h2 : e ≠ 3) (hg : w.grownBy w' v.ownBlock) : TabB w' base t T := by
  obtain ⟨hA, hcap, mk, mf, Dk, Df, k1, k2, k3, k4, k5⟩ := h
  refine ⟨hA, hcap, mk, mf, Dk, Df, k1.grownRow hr h1 hg, k2.kept (fun g hgo => ?_), mapB_kept k3 (hg.block mk k3.lt fun e2 => hr.neM k3 mk e2.symm rfl), mapB_kept k4 (hg.block mf k4.lt fun e2 => hr.neM k4 mf e2.symm rfl), k5⟩
  have hlt := (k2.lt hgo).1
  refine hg.block g hlt fun e2 => ?_
  obtain ⟨_, k2'⟩ := k2
  rcases k2' with ⟨e3, _⟩ | ⟨g', cap', sp', e3, hb', hB', _⟩
  · rw [e3] at hgo; cases hgo
  · rw [e3] at hgo
    have e4 := Option.some.inj hgo
    dsimp only at e4
    subst e4
    exact hr.ne hB' h2 _ e2.symm rfl
theorem TabB.grownP {w w' : World} {base t g : Nat} {T : Tb} {x : Array Value} (h : TabB w base t T) (hp : Blk w g 25 x) (hg : w.grownBy w' (some g)) : TabB w' base t T := by
  obtain ⟨hA, hcap, mk, mf, Dk, Df, k1, k2, k3, k4, k5⟩ := h
  refine ⟨hA, hcap, mk, mf, Dk, Df, (hg.block t k1.lt fun e => blk_ne k1 hp (by decide) (Option.some.inj e)).trans k1, k2.kept (fun g' hgo => hg.block g' (k2.lt hgo).1 fun e => k2.ne hp (by decide) g' hgo (Option.some.inj e)), mapB_kept k3 (hg.block mk k3.lt fun e => map_ne hp k3 (Option.some.inj e)), mapB_kept k4 (hg.block mf k4.lt fun e => map_ne hp k4 (Option.some.inj e)), k5⟩
/-- The outs. -/
def outsF (T : Tb) (l : List Int) : List Int := l.map fun r => holderF T.held (lg T.held r.toNat)
theorem outsF_length (T : Tb) (l : List Int) : (outsF T l).length = l.length := by simp [outsF]
theorem outsF_snoc (T : Tb) (l : List Int) (r : Int) : outsF T (l ++ [r]) = outsF T l ++ [holderF T.held (lg T.held r.toNat)] := by simp [outsF]
abbrev prog0 : Array Value := #[.int .i64 0, .int .i64 0, .slice none 0 0, .slice none 0 0]
theorem pass_new (w : World) (a b : Array Value) :
    let W := (w.alloc (.cells a 25)).alloc (.cells b 25)
    Blk W w.heap.size 25 a ∧ Blk W (w.heap.size + 1) 25 b ∧ Below w.heap.size w W := by
  have h1 := Blk.new w 25 a
  have h2 := Blk.new (w.alloc (.cells a 25)) 25 b
  rw [World.size_alloc] at h2
  exact ⟨h1.alloc _, h2, ((Below.refl _ _).alloc (Nat.le_refl _) _).alloc (by simp) _⟩

set_option maxHeartbeats 8000000 in
set_option maxRecDepth 100000 in
theorem sharepass_calls {w : World} {v : Value} {p : Pg} (h : PgB w v p) (hr : p.Right) : Calls Try.prog 13 #[v] w fun e w' =>
    (∃ u, e = .returned (.tuple #[u, .int .i64 0]) ∧ PgB w' u (shareF p)) ∧ Below w.heap.size w w' := by
  have h' := h
  obtain ⟨A, cA, B, d, rfl, k1, k2, hI, hZ⟩ := h'
  have HR := hide hr
  obtain ⟨ins, regs, code, outs⟩ := p
  obtain ⟨hHead, ho, hc⟩ := hr
  obtain ⟨q1, q2, q3, q4, q5, q6⟩ := hHead
  dsimp only at hI hZ k1 k2 q1 q2 q3 q4 q5 q6 ho hc ⊢
  obtain ⟨n, rfl⟩ : ∃ n : Nat, regs = (n : Int) := ⟨regs.toNat, by omega⟩
  have HO := hide ho
  have HM := hide hc
  have HK : Hid (∀ i ∈ code, i.OK n) := fun i hi => (hc i hi).ok
  clear ho hc
  obtain ⟨x0, x1, b0⟩ := pass_new w #[.int .i64 ins, .int .i64 (n : Int), .slice A code.length cA, .slice B outs.length d] prog0
  have HC := hide (check_calls (h.below b0))
  have HPB := hide h
  clear h
  unfold progV
  go_enter Try.func13, Try.ntmps13
  go_wp2_with fail
  refine HC.out.mono ?_
  rintro e w1 ⟨⟨kk, rfl, hkk⟩, hb1⟩
  have hk0 := hkk HR.out
  subst hk0
  clear hkk
  rw [if_pos HR.out]
  have b1 := below_to b0 hb1
  have x0 := Blk.below x0 hb1 x0.lt
  have x1 := Blk.below x1 hb1 x1.lt
  clear b0 hb1 HC
  have HN := hide (newtable_calls (HPB.out.below b1) HR.out.1)
  obtain ⟨p0, p1, p2, p3⟩ := pg4 x0
  go_wp2_with fail
  refine HN.out.mono ?_
  rintro e w2 ⟨⟨t, rfl, hT⟩, hb2⟩
  have b2 := below_to b1 hb2
  have x0 := Blk.below x0 hb2 x0.lt
  have x1 := Blk.below x1 hb2 x1.lt
  have hw1 : w.heap.size ≤ w1.heap.size := b1.size
  have hw2 : w1.heap.size ≤ w2.heap.size := hb2.size
  clear b1 hb2 HN p0 p1 p2 p3
  generalize w1.heap.size = base at *
  obtain ⟨p0, p1, p2, p3⟩ := pg4 x0
  have y0 := x0.alloc (.cells #[.int .i64 ins, .int .i64 (n : Int), .slice none 0 0, .slice none 0 0] 25)
  have y1 := x1.alloc (.cells #[.int .i64 ins, .int .i64 (n : Int), .slice none 0 0, .slice none 0 0] 25)
  have y7 := Blk.new w2 25 #[.int .i64 ins, .int .i64 (n : Int), .slice none 0 0, .slice none 0 0]
  have b3 := b2.alloc (by omega) (.cells #[.int .i64 ins, .int .i64 (n : Int), .slice none 0 0, .slice none 0 0] 25)
  have hT3 := hT.below ((Below.refl w2.heap.size w2).alloc (Nat.le_refl _) (.cells #[.int .i64 ins, .int .i64 (n : Int), .slice none 0 0, .slice none 0 0] 25))
  have v0 : w2.heap.size ≠ w.heap.size := Nat.ne_of_gt x0.lt
  have v1 : w2.heap.size ≠ w.heap.size + 1 := Nat.ne_of_gt x1.lt
  have hw3 : base ≤ (w2.alloc (.cells #[.int .i64 ins, .int .i64 (n : Int), .slice none 0 0, .slice none 0 0] 25)).heap.size := by simp; omega
  have hw7 : w.heap.size + 1 < w2.heap.size := x1.lt
  obtain ⟨r0, r1, r2, r3⟩ := pg4 y0
  go_wp2_with fail
  clear hT x0 x1 p0 p1 p2 p3 b2 r0 r1 r2 r3
  generalize w2.alloc _ = W at *
  generalize w2.heap.size = g7 at *
  clear w2
  go_loopw [34] (fun i wr => ∃ (k : Nat) (L : List Ins) (T : Tb) (eA : Option Addr) (ec : Nat), k ≤ code.length ∧ i = .int .i64 k ∧ Hid (passF (tb0 ins n) (code.take k) = (L, T)) ∧ Below w.heap.size w wr ∧ TabB wr base t T ∧
    Blk wr w.heap.size 25 #[.int .i64 ins, .int .i64 (n : Int), .slice A code.length cA, .slice B outs.length d] ∧ Blk wr (w.heap.size + 1) 25 prog0 ∧
    Blk wr g7 25 #[.int .i64 ins, .int .i64 (n : Int), .slice eA L.length ec, .slice none 0 0] ∧ RowZ wr w.heap.size 72 zIns (.slice eA L.length ec) L.length (insVs L) ∧ base ≤ wr.heap.size) (fun i _ => code.length - (intOf i).toNat)
  case atStart => exact ⟨0, [], tb0 ins n, none, 0, by omega, rfl, rfl, b3, hT3, y0, y1, y7, RowZ.nil _ _ _ _, hw3⟩
  case round =>
    clear y0 y1 y7 b3 hT3 hw3
    obtain ⟨k, L, T, eA, ec, hk, rfl, HP, bw, hTw, y0, y1, y7, rz, hwb⟩ := hrel
    have hTK : TbK T n (ins + 1 + (code.take k).length) := by
      have := TbK.pass (code.take k) (tb0_ok (n := n) q1) (fun i hi => HK.out i (List.mem_of_mem_take hi))
      rw [HP.out] at this
      exact this
    have hkl : (code.take k).length ≤ 16384 := by rw [List.length_take]; omega
    have hTO : TbOK T := hTK.ok ⟨by omega, by omega⟩ (by omega)
    have hLl : L.length ≤ 16384 := by
      have := passF_length (code.take k) (tb0 ins n)
      rw [HP.out] at this
      dsimp only at this
      omega
    have hTl := hTK.len
    rcases Nat.lt_or_ge k code.length with hlt | hge
    · have hdec : decide (k < code.length) = true := by simpa using hlt
      obtain ⟨b', off, rfl, hcell⟩ := (hI.below bw) (by omega)
      obtain ⟨e0, e1, e2, e3, e4⟩ := hcell k hlt
      clear hcell
      obtain ⟨I, hIn⟩ := named (code.getD k default)
      have hIM := HM.out _ (getD_mem hlt)
      rw [hIn.out] at e0 e1 e2 e3 e4 hIM
      obtain ⟨op, dst, ra, rb, c⟩ := I
      have hIO := hIM.ok
      obtain ⟨o1, o8, ⟨od0, od1⟩, ⟨oa0, oa1⟩, ⟨ob0, ob1⟩, oc⟩ := hIO
      dsimp only at e0 e1 e2 e3 e4 o1 o8 od0 od1 oa0 oa1 ob0 ob1 oc
      have hcc : I64 c := by
        have := hIM.2.2.2.2.2
        dsimp only at this
        rw [constP_iff] at this
        unfold I64
        omega
      obtain ⟨ia, rfl⟩ := Int.eq_ofNat_of_zero_le oa0
      obtain ⟨ib, rfl⟩ := Int.eq_ofNat_of_zero_le ob0
      obtain ⟨id, rfl⟩ := Int.eq_ofNat_of_zero_le od0
      have hHIM := hide hIM
      clear hIM
      have hia : ia < T.held.length := by omega
      have hib : ib < T.held.length := by omega
      have hid : id < T.held.length := by omega
      have x9 := Blk.new wr 72 (insV op id ia ib c)
      have ba := (Below.refl wr.heap.size wr).alloc (Nat.le_refl _) (.cells (insV op id ia ib c) 72)
      have HRk := hide (reckon_all (nn := (k : Int)) (hTw.below ba) (by simp; omega) hTO hia (fun _ => hib) o1 o8 hcc (dst := (id : Int)) ⟨by omega, by omega⟩)
      obtain ⟨vv, hvv⟩ := named (valF T ⟨op, id, ia, ib, c⟩)
      rw [hvv.out] at HRk
      obtain ⟨r0, r1, r2, r3⟩ := pg4 y0
      go_wp2_with fail
      refine HRk.out.mono ?_
      rintro e w5 ⟨⟨ff, rfl⟩, hT5, hb5, hk5⟩
      have x95 := hk5 _ _ _ x9 (by decide)
      have y05 := hk5 _ _ _ (y0.alloc (.cells (insV op id ia ib c) 72)) (by decide)
      have y15 := hk5 _ _ _ (y1.alloc (.cells (insV op id ia ib c) 72)) (by decide)
      have y75 := hk5 _ _ _ (y7.alloc (.cells (insV op id ia ib c) 72)) (by decide)
      have rz5 := (rz.below ba).keeps hk5 (by decide)
      have bw5 := (bw.alloc bw.size (.cells (insV op id ia ib c) 72)).trans (hb5.mono hw1)
      have hwb5 : base ≤ w5.heap.size := by have := hb5.size; simp at this; omega
      have hg9 : w.heap.size + 1 < wr.heap.size ∧ g7 < wr.heap.size ∧ base ≤ wr.heap.size := ⟨y1.lt, y7.lt, hwb⟩
      have hgr : ∀ g, (Value.slice eA L.length ec).ownBlock = some g → g < wr.heap.size := fun g hg => (rz.lt hg).1
      generalize wr.heap.size = g9 at *
      clear x9 y0 y1 y7 rz bw hTw ba hb5 hk5 e0 e1 e2 e3 e4 r0 r1 r2 r3 hwb HRk
      obtain ⟨T1, hT1⟩ := named (reckF T ⟨op, id, ia, ib, c⟩)
      have hhd : T1.held = T.held := by rw [← hT1.out]; exact reckF_held _ _
      rw [hT1.out] at hT5
      have HAs0 := asked_calls (dst := (id : Int)) (c := c) hT5 (i := ia) (j := ib) (by rw [hhd]; exact hia) (fun _ => by rw [hhd]; exact hib) (by rw [hhd]; omega) o1 o8
      rw [hhd] at HAs0
      obtain ⟨ea, hea⟩ := named (holderF T.held (lg T.held ia))
      obtain ⟨eb, heb⟩ := named (if isTwo op = true then holderF T.held (lg T.held ib) else (ib : Int))
      rw [hea.out, heb.out] at HAs0
      have HAs := hide HAs0
      have HHD := hide hhd
      clear HAs0 hhd
      obtain ⟨f0, f1, f2, f3, f4⟩ := ins5 x95
      go_wp2_with fail
      refine HAs.out.mono ?_
      rintro e w6 ⟨rfl, hb6⟩
      have x96 := Blk.below x95 hb6 x95.lt
      have y06 := Blk.below y05 hb6 y05.lt
      have y16 := Blk.below y15 hb6 y15.lt
      have y76 := Blk.below y75 hb6 y75.lt
      have rz6 := rz5.below hb6
      have hT6 := hT5.below hb6
      have bw6 := below_to bw5 hb6
      have hwb6 : base ≤ w6.heap.size := by have := hb6.size; omega
      clear x95 y05 y15 y75 rz5 hT5 bw5 hb6 hwb5 f0 f1 f2 f3 f4 HAs
      obtain ⟨f0, f1, f2, f3, f4⟩ := ins5 x96
      have s0 := x96.frozen 0
      have s1 := x96.frozen 1
      have s2 := x96.frozen 2
      have s3 := x96.frozen 3
      have s4 := x96.frozen 4
      have n0 : w.heap.size ≠ g9 := by omega
      have n1 : w.heap.size + 1 ≠ g9 := by omega
      have n7 : g7 ≠ g9 := by omega
      go_wp2_with fail
      have z9 : Blk (((((w6.setCell ⟨g9, 0, none⟩ (.int .i64 op)).setCell ⟨g9, 1, none⟩ (.int .i64 (id : Int))).setCell ⟨g9, 2, none⟩ (.int .i64 ea)).setCell ⟨g9, 3, none⟩ (.int .i64 eb)).setCell ⟨g9, 4, none⟩ (.int .i64 c)) g9 72 (insV op id ea eb c) := ((((x96.set 0 (.int .i64 op)).set 1 (.int .i64 (id : Int))).set 2 (.int .i64 ea)).set 3 (.int .i64 eb)).set 4 (.int .i64 c)
      have z0 : Blk (((((w6.setCell ⟨g9, 0, none⟩ (.int .i64 op)).setCell ⟨g9, 1, none⟩ (.int .i64 (id : Int))).setCell ⟨g9, 2, none⟩ (.int .i64 ea)).setCell ⟨g9, 3, none⟩ (.int .i64 eb)).setCell ⟨g9, 4, none⟩ (.int .i64 c)) _ _ _ := ((((y06.far (p := ⟨g9, 0, none⟩) n0 _).far (p := ⟨g9, 1, none⟩) n0 _).far (p := ⟨g9, 2, none⟩) n0 _).far (p := ⟨g9, 3, none⟩) n0 _).far (p := ⟨g9, 4, none⟩) n0 _
      have z1 : Blk (((((w6.setCell ⟨g9, 0, none⟩ (.int .i64 op)).setCell ⟨g9, 1, none⟩ (.int .i64 (id : Int))).setCell ⟨g9, 2, none⟩ (.int .i64 ea)).setCell ⟨g9, 3, none⟩ (.int .i64 eb)).setCell ⟨g9, 4, none⟩ (.int .i64 c)) _ _ _ := ((((y16.far (p := ⟨g9, 0, none⟩) n1 _).far (p := ⟨g9, 1, none⟩) n1 _).far (p := ⟨g9, 2, none⟩) n1 _).far (p := ⟨g9, 3, none⟩) n1 _).far (p := ⟨g9, 4, none⟩) n1 _
      have z7 : Blk (((((w6.setCell ⟨g9, 0, none⟩ (.int .i64 op)).setCell ⟨g9, 1, none⟩ (.int .i64 (id : Int))).setCell ⟨g9, 2, none⟩ (.int .i64 ea)).setCell ⟨g9, 3, none⟩ (.int .i64 eb)).setCell ⟨g9, 4, none⟩ (.int .i64 c)) _ _ _ := ((((y76.far (p := ⟨g9, 0, none⟩) n7 _).far (p := ⟨g9, 1, none⟩) n7 _).far (p := ⟨g9, 2, none⟩) n7 _).far (p := ⟨g9, 3, none⟩) n7 _).far (p := ⟨g9, 4, none⟩) n7 _
      have t7 : TabB (((((w6.setCell ⟨g9, 0, none⟩ (.int .i64 op)).setCell ⟨g9, 1, none⟩ (.int .i64 (id : Int))).setCell ⟨g9, 2, none⟩ (.int .i64 ea)).setCell ⟨g9, 3, none⟩ (.int .i64 eb)).setCell ⟨g9, 4, none⟩ (.int .i64 c)) base t T1 := ((((hT6.far (p := ⟨g9, 0, none⟩) x96 (by decide) (by decide) rfl).far (p := ⟨g9, 1, none⟩) (x96.set 0 (.int .i64 op)) (by decide) (by decide) rfl).far (p := ⟨g9, 2, none⟩) ((x96.set 0 (.int .i64 op)).set 1 (.int .i64 (id : Int))) (by decide) (by decide) rfl).far (p := ⟨g9, 3, none⟩) (((x96.set 0 (.int .i64 op)).set 1 (.int .i64 (id : Int))).set 2 (.int .i64 ea)) (by decide) (by decide) rfl).far (p := ⟨g9, 4, none⟩) ((((x96.set 0 (.int .i64 op)).set 1 (.int .i64 (id : Int))).set 2 (.int .i64 ea)).set 3 (.int .i64 eb)) (by decide) (by decide) rfl
      have zr : RowZ (((((w6.setCell ⟨g9, 0, none⟩ (.int .i64 op)).setCell ⟨g9, 1, none⟩ (.int .i64 (id : Int))).setCell ⟨g9, 2, none⟩ (.int .i64 ea)).setCell ⟨g9, 3, none⟩ (.int .i64 eb)).setCell ⟨g9, 4, none⟩ (.int .i64 c)) w.heap.size 72 zIns (.slice eA L.length ec) L.length (insVs L) := rz6.kept fun g hg => by
        have hne : g ≠ g9 := Nat.ne_of_lt (hgr g hg)
        rw [heap_set_other _ ⟨g9, 4, none⟩ _ hne, heap_set_other _ ⟨g9, 3, none⟩ _ hne, heap_set_other _ ⟨g9, 2, none⟩ _ hne, heap_set_other _ ⟨g9, 1, none⟩ _ hne, heap_set_other _ ⟨g9, 0, none⟩ _ hne]
      have hww9 : w.heap.size ≤ g9 := by omega
      have bz : Below w.heap.size w (((((w6.setCell ⟨g9, 0, none⟩ (.int .i64 op)).setCell ⟨g9, 1, none⟩ (.int .i64 (id : Int))).setCell ⟨g9, 2, none⟩ (.int .i64 ea)).setCell ⟨g9, 3, none⟩ (.int .i64 eb)).setCell ⟨g9, 4, none⟩ (.int .i64 c)) := ((((bw6.setCell (p := ⟨g9, 0, none⟩) hww9 _).setCell (p := ⟨g9, 1, none⟩) hww9 _).setCell (p := ⟨g9, 2, none⟩) hww9 _).setCell (p := ⟨g9, 3, none⟩) hww9 _).setCell (p := ⟨g9, 4, none⟩) hww9 _
      have hwz : base ≤ (((((w6.setCell ⟨g9, 0, none⟩ (.int .i64 op)).setCell ⟨g9, 1, none⟩ (.int .i64 (id : Int))).setCell ⟨g9, 2, none⟩ (.int .i64 ea)).setCell ⟨g9, 3, none⟩ (.int .i64 eb)).setCell ⟨g9, 4, none⟩ (.int .i64 c)).heap.size := by simpa [World.setCell] using hwb6
      clear x96 y06 y16 y76 rz6 hT6 bw6 hwb6 f0 f1 f2 f3 f4 s0 s1 s2 s3 s4
      generalize (((((w6.setCell ⟨g9, 0, none⟩ (.int .i64 op)).setCell ⟨g9, 1, none⟩ (.int .i64 (id : Int))).setCell ⟨g9, 2, none⟩ (.int .i64 ea)).setCell ⟨g9, 3, none⟩ (.int .i64 eb)).setCell ⟨g9, 4, none⟩ (.int .i64 c)) = W7 at *
      clear w6 w5
      obtain ⟨f0, f1, f2, f3, f4⟩ := ins5 z9
      obtain ⟨g, cap, t0, htl, hgl, hcl⟩ := t7.row (by rw [HHD.out]; omega)
      rw [HHD.out] at t0 hcl
      have a0 := hcl id hid
      clear hcl
      obtain ⟨vd, hvd⟩ := named (lg T.held id)
      rw [hvd.out] at a0
      have i0 : (0 : Int) ≤ (id : Int) := by omega
      have i1 : (id : Int) < (T.held.length : Int) := by omega
      go_quiet (fail)
      have z9d : Blk (W7.drewN nq) _ _ _ := z9
      have z0d : Blk (W7.drewN nq) _ _ _ := z0
      have z1d : Blk (W7.drewN nq) _ _ _ := z1
      have z7d : Blk (W7.drewN nq) _ _ _ := z7
      have t7d : TabB (W7.drewN nq) base t T1 := t7
      have zrd : RowZ (W7.drewN nq) w.heap.size 72 zIns (.slice eA L.length ec) L.length (insVs L) := zr
      have bzd := below_drewN bz nq
      have hwzd : base ≤ (W7.drewN nq).heap.size := hwz
      clear z9 z0 z1 z7 t7 zr bz hwz f0 f1 f2 f3 f4 t0 a0 htl hgl
      generalize W7.drewN nq = V at *
      clear W7
      have z9 := z9d
      have z0 := z0d
      have z1 := z1d
      have z7 := z7d
      have t7 := t7d
      have zr := zrd
      have bz := bzd
      have hwz := hwzd
      clear z9d z0d z1d z7d t7d zrd bzd hwzd
      by_cases hve : vd = vv
      · have HVE := hide hve
        have heq : (vd == vv) = true := by simpa using hve
        clear hve
        go_wp2
        refine ⟨⟨k + 1, L, T1, eA, ec, by omega, by go_num, ?_, bz, t7, z0, z1, z7, zr, hwz⟩, by simp [intOf]; omega⟩
        unfold Hid
        have hnv : lg T.held (id : Int).toNat = valF T ⟨op, id, ia, ib, c⟩ := by rw [Int.toNat_natCast, hvd.out, hvv.out]; exact HVE.out
        rw [take_snoc' _ hlt, hIn.out, passF_snoc, HP.out]
        dsimp only
        rw [nextF_same hnv, hT1.out]
        have : emitF T ⟨op, id, ia, ib, c⟩ = [] := by unfold emitF; dsimp only; rw [if_pos hnv]
        rw [this, List.append_nil]
      · have HNE := hide hve
        have hne : (vd == vv) = false := by simpa using hve
        clear hve
        have HH0 := holder_calls (v := vv) t7 (by rw [HHD.out]; omega) (by rw [HHD.out]; omega)
        rw [HHD.out] at HH0
        obtain ⟨rh, hrh⟩ := named (holderF T.held vv)
        rw [hrh.out] at HH0
        have HH := hide HH0
        clear HH0
        have hnv : Hid (¬ lg T.held (id : Int).toNat = valF T ⟨op, id, ia, ib, c⟩) := by unfold Hid; rw [Int.toNat_natCast, hvd.out, hvv.out]; exact HNE.out
        obtain ⟨f0, f1, f2, f3, f4⟩ := ins5 z9
        go_wp2_with fail
        refine HH.out.mono ?_
        rintro e wx ⟨rfl, rfl⟩
        by_cases hge : 0 ≤ rh
        · have HEm : Hid (emitF T ⟨op, id, ia, ib, c⟩ = [⟨1, id, rh, 0, 0⟩]) := by
            unfold Hid emitF
            dsimp only
            rw [if_neg hnv.out, hvv.out, hrh.out, if_pos hge]
          have s0 := z9.frozen 0
          have s1 := z9.frozen 1
          have s2 := z9.frozen 2
          have s3 := z9.frozen 3
          have s4 := z9.frozen 4
          go_upto_region 15 with fail
          have z9u : Blk (((((V.setCell ⟨g9, 0, none⟩ (.int .i64 1)).setCell ⟨g9, 1, none⟩ (.int .i64 (id : Int))).setCell ⟨g9, 2, none⟩ (.int .i64 rh)).setCell ⟨g9, 3, none⟩ (.int .i64 0)).setCell ⟨g9, 4, none⟩ (.int .i64 0)) g9 72 (insV 1 (id : Int) rh 0 0) := ((((z9.set 0 (.int .i64 1)).set 1 (.int .i64 (id : Int))).set 2 (.int .i64 rh)).set 3 (.int .i64 0)).set 4 (.int .i64 0)
          have z0u : Blk (((((V.setCell ⟨g9, 0, none⟩ (.int .i64 1)).setCell ⟨g9, 1, none⟩ (.int .i64 (id : Int))).setCell ⟨g9, 2, none⟩ (.int .i64 rh)).setCell ⟨g9, 3, none⟩ (.int .i64 0)).setCell ⟨g9, 4, none⟩ (.int .i64 0)) _ _ _ := ((((z0.far (p := ⟨g9, 0, none⟩) n0 _).far (p := ⟨g9, 1, none⟩) n0 _).far (p := ⟨g9, 2, none⟩) n0 _).far (p := ⟨g9, 3, none⟩) n0 _).far (p := ⟨g9, 4, none⟩) n0 _
          have z1u : Blk (((((V.setCell ⟨g9, 0, none⟩ (.int .i64 1)).setCell ⟨g9, 1, none⟩ (.int .i64 (id : Int))).setCell ⟨g9, 2, none⟩ (.int .i64 rh)).setCell ⟨g9, 3, none⟩ (.int .i64 0)).setCell ⟨g9, 4, none⟩ (.int .i64 0)) _ _ _ := ((((z1.far (p := ⟨g9, 0, none⟩) n1 _).far (p := ⟨g9, 1, none⟩) n1 _).far (p := ⟨g9, 2, none⟩) n1 _).far (p := ⟨g9, 3, none⟩) n1 _).far (p := ⟨g9, 4, none⟩) n1 _
          have z7u : Blk (((((V.setCell ⟨g9, 0, none⟩ (.int .i64 1)).setCell ⟨g9, 1, none⟩ (.int .i64 (id : Int))).setCell ⟨g9, 2, none⟩ (.int .i64 rh)).setCell ⟨g9, 3, none⟩ (.int .i64 0)).setCell ⟨g9, 4, none⟩ (.int .i64 0)) _ _ _ := ((((z7.far (p := ⟨g9, 0, none⟩) n7 _).far (p := ⟨g9, 1, none⟩) n7 _).far (p := ⟨g9, 2, none⟩) n7 _).far (p := ⟨g9, 3, none⟩) n7 _).far (p := ⟨g9, 4, none⟩) n7 _
          have t7u : TabB (((((V.setCell ⟨g9, 0, none⟩ (.int .i64 1)).setCell ⟨g9, 1, none⟩ (.int .i64 (id : Int))).setCell ⟨g9, 2, none⟩ (.int .i64 rh)).setCell ⟨g9, 3, none⟩ (.int .i64 0)).setCell ⟨g9, 4, none⟩ (.int .i64 0)) base t T1 := ((((t7.far (p := ⟨g9, 0, none⟩) z9 (by decide) (by decide) rfl).far (p := ⟨g9, 1, none⟩) (z9.set 0 (.int .i64 1)) (by decide) (by decide) rfl).far (p := ⟨g9, 2, none⟩) ((z9.set 0 (.int .i64 1)).set 1 (.int .i64 (id : Int))) (by decide) (by decide) rfl).far (p := ⟨g9, 3, none⟩) (((z9.set 0 (.int .i64 1)).set 1 (.int .i64 (id : Int))).set 2 (.int .i64 rh)) (by decide) (by decide) rfl).far (p := ⟨g9, 4, none⟩) ((((z9.set 0 (.int .i64 1)).set 1 (.int .i64 (id : Int))).set 2 (.int .i64 rh)).set 3 (.int .i64 0)) (by decide) (by decide) rfl
          have zru : RowZ (((((V.setCell ⟨g9, 0, none⟩ (.int .i64 1)).setCell ⟨g9, 1, none⟩ (.int .i64 (id : Int))).setCell ⟨g9, 2, none⟩ (.int .i64 rh)).setCell ⟨g9, 3, none⟩ (.int .i64 0)).setCell ⟨g9, 4, none⟩ (.int .i64 0)) w.heap.size 72 zIns (.slice eA L.length ec) L.length (insVs L) := zr.kept fun g hg => by
            have hne : g ≠ g9 := Nat.ne_of_lt (hgr g hg)
            rw [heap_set_other _ ⟨g9, 4, none⟩ _ hne, heap_set_other _ ⟨g9, 3, none⟩ _ hne, heap_set_other _ ⟨g9, 2, none⟩ _ hne, heap_set_other _ ⟨g9, 1, none⟩ _ hne, heap_set_other _ ⟨g9, 0, none⟩ _ hne]
          have bzu : Below w.heap.size w (((((V.setCell ⟨g9, 0, none⟩ (.int .i64 1)).setCell ⟨g9, 1, none⟩ (.int .i64 (id : Int))).setCell ⟨g9, 2, none⟩ (.int .i64 rh)).setCell ⟨g9, 3, none⟩ (.int .i64 0)).setCell ⟨g9, 4, none⟩ (.int .i64 0)) := ((((bz.setCell (p := ⟨g9, 0, none⟩) hww9 _).setCell (p := ⟨g9, 1, none⟩) hww9 _).setCell (p := ⟨g9, 2, none⟩) hww9 _).setCell (p := ⟨g9, 3, none⟩) hww9 _).setCell (p := ⟨g9, 4, none⟩) hww9 _
          have hwzu : base ≤ (((((V.setCell ⟨g9, 0, none⟩ (.int .i64 1)).setCell ⟨g9, 1, none⟩ (.int .i64 (id : Int))).setCell ⟨g9, 2, none⟩ (.int .i64 rh)).setCell ⟨g9, 3, none⟩ (.int .i64 0)).setCell ⟨g9, 4, none⟩ (.int .i64 0)).heap.size := by simpa [World.setCell] using hwz
          clear f0 f1 f2 f3 f4 s0 s1 s2 s3 s4 HH
          generalize (((((V.setCell ⟨g9, 0, none⟩ (.int .i64 1)).setCell ⟨g9, 1, none⟩ (.int .i64 (id : Int))).setCell ⟨g9, 2, none⟩ (.int .i64 rh)).setCell ⟨g9, 3, none⟩ (.int .i64 0)).setCell ⟨g9, 4, none⟩ (.int .i64 0)) = U at *
          clear z9 z0 z1 z7 t7 zr bz hwz
          have z9 := z9u
          have z0 := z0u
          have z1 := z1u
          have z7 := z7u
          have t7 := t7u
          have zr := zru
          have bz := bzu
          have hwz := hwzu
          clear z9u z0u z1u z7u t7u zru bzu hwzu
          have ba := (Below.refl U.heap.size U).alloc (Nat.le_refl _) (.cells (insV 1 (id : Int) rh 0 0) 72)
          have r2 := zr.below ba
          have xn := Blk.new U 72 (insV 1 (id : Int) rh 0 0)
          have hsz : w.heap.size ≤ (U.alloc (.cells (insV 1 (id : Int) rh 0 0) 72)).heap.size := by have := bz.size; simp; omega
          obtain ⟨f0, f1, f2, f3, f4⟩ := ins5 z9
          obtain ⟨m0, m1, m2, m3⟩ := pg4 z7
          have hlen : L.length < 1099511627776 := by omega
          go_wp2_with (at_builtin; refine wpList_append_e rfl (.tmp 69) (.tmp 71) rfl elIns w.heap.size (.slice eA L.length ec) L.length (insVs L) rfl r2 U.heap.size _ [.int .i64 1, .int .i64 (id : Int), .int .i64 rh, .int .i64 0, .int .i64 0] rfl rfl ⟨_, _, xn⟩ ?h1 hlen ?h3 hsz ?h5)
          case h1 => intro u hu; simp at hu; rcases hu with rfl | rfl | rfl | rfl | rfl <;> rfl
          case h3 => omega
          case h5 =>
            intro g2 cap2 W10 hr3 hg3 hor
            have a7 := (z7.alloc (.cells (insV 1 (id : Int) rh 0 0) 72)).grownRow r2 (by decide) hg3
            have a0' := (z0.alloc (.cells (insV 1 (id : Int) rh 0 0) 72)).grownRow r2 (by decide) hg3
            have a1' := (z1.alloc (.cells (insV 1 (id : Int) rh 0 0) 72)).grownRow r2 (by decide) hg3
            have a9 : Blk W10 g9 72 (insV 1 (id : Int) rh 0 0) := (hg3.block g9 (z9.alloc (.cells (insV 1 (id : Int) rh 0 0) 72)).lt fun e2 => Nat.lt_irrefl _ (hgr g9 e2.symm)).trans (z9.alloc (.cells (insV 1 (id : Int) rh 0 0) 72))
            have at7 := (t7.below ba).grown r2 (by decide) (by decide) hg3
            have b10 := (bz.alloc bz.size (.cells (insV 1 (id : Int) rh 0 0) 72)).trans (below_of_row r2 hg3 hsz)
            have hw10 : base ≤ W10.heap.size := by have := hg3.size; simp at this; omega
            have m2' := (pg4 a7).2.2.1
            have u2 := a7.frozen 2
            have c7 : Blk (W10.setCell ⟨g7, 2, none⟩ (.slice (some ⟨g2, 0, none⟩) (L.length + 1) cap2)) g7 25 #[.int .i64 ins, .int .i64 (n : Int), .slice (some ⟨g2, 0, none⟩) (L.length + 1) cap2, .slice none 0 0] := a7.set 2 _
            have c0 := a0'.far (p := ⟨g7, 2, none⟩) (show w.heap.size ≠ g7 by omega) (.slice (some ⟨g2, 0, none⟩) (L.length + 1) cap2)
            have c1 := a1'.far (p := ⟨g7, 2, none⟩) (show w.heap.size + 1 ≠ g7 by omega) (.slice (some ⟨g2, 0, none⟩) (L.length + 1) cap2)
            have c9 := a9.far (p := ⟨g7, 2, none⟩) (show g9 ≠ g7 by omega) (.slice (some ⟨g2, 0, none⟩) (L.length + 1) cap2)
            have ct := at7.far (p := ⟨g7, 2, none⟩) (u := .slice (some ⟨g2, 0, none⟩) (L.length + 1) cap2) a7 (by decide) (by decide) rfl
            have cr := hr3.kept (w' := W10.setCell ⟨g7, 2, none⟩ (.slice (some ⟨g2, 0, none⟩) (L.length + 1) cap2)) fun g hg => heap_set_other _ ⟨g7, 2, none⟩ _ (hr3.ne a7 (by decide) g hg)
            have cb := b10.setCell (p := ⟨g7, 2, none⟩) (show w.heap.size ≤ g7 by omega) (.slice (some ⟨g2, 0, none⟩) (L.length + 1) cap2)
            have cw : base ≤ (W10.setCell ⟨g7, 2, none⟩ (.slice (some ⟨g2, 0, none⟩) (L.length + 1) cap2)).heap.size := by simpa [World.setCell] using hw10
            clear hor
            go_wp2_with fail
            clear a7 a0' a1' a9 at7 b10 hw10 m2' u2 hr3 hg3 r2 xn ba hsz f0 f1 f2 f3 f4 m0 m1 m2 m3 zr z0 z1 z7 z9 bz t7 hwz
            generalize W10.setCell ⟨g7, 2, none⟩ (.slice (some ⟨g2, 0, none⟩) (L.length + 1) cap2) = W11 at *
            clear W10
            obtain ⟨g, cap, mk, mf, t0, t1, t2, t3, hgt, hbg, hbt, htl, hgl, hca, hcf, ⟨xx, hBg⟩, hput⟩ := ct.put (i := id) (by rw [HHD.out]; exact hid)
            have hP2 := hput vv
            clear hput
            rw [HHD.out] at t0
            obtain ⟨f0, f1, f2, f3, f4⟩ := ins5 c9
            have hg9' : g ≠ g9 := blk_ne hBg c9 (by decide)
            have l0 : (W11.setCell ⟨g, id, none⟩ (.int .i64 vv)).drew.cell? ⟨t, 0, none⟩ = some (.slice (some ⟨g, 0, none⟩) T.held.length cap) := (World.cell?_setCell_other W11 _ _ _ (by intro e; injection e with e; exact hgt e)).trans t0
            have l1 : (W11.setCell ⟨g, id, none⟩ (.int .i64 vv)).drew.cell? ⟨g9, 1, none⟩ = some (.int .i64 (id : Int)) := (World.cell?_setCell_other W11 _ _ _ (by intro e; injection e with e; exact hg9' e)).trans f1
            go_region_held3 (fun w' => w'.cell? ⟨t, 0, none⟩ = some (.slice (some ⟨g, 0, none⟩) T.held.length cap) ∧ w'.cell? ⟨g9, 1, none⟩ = some (.int .i64 (id : Int)))
              (first | exact ⟨t0, f1⟩ | exact ⟨l0, l1⟩) (fail)
            all_goals go_wp2
            all_goals
              go_roundw
              case rel =>
                refine ⟨k + 1, L ++ [⟨1, id, rh, 0, 0⟩], { T1 with held := T1.held.set id vv }, some ⟨g2, 0, none⟩, cap2, by omega, by go_num, ?_, ?_, hP2, ?_, ?_, ?_, ?_, ?_⟩
                · unfold Hid
                  have hnv : ¬ lg T.held (id : Int).toNat = valF T ⟨op, id, ia, ib, c⟩ := by rw [Int.toNat_natCast, hvd.out, hvv.out]; exact HNE.out
                  rw [take_snoc' _ hlt, hIn.out, passF_snoc, HP.out]
                  dsimp only
                  rw [nextF_other hnv, hT1.out, hvv.out, Int.toNat_natCast, HEm.out]
                · exact (cb.setCell (p := ⟨g, id, none⟩) (show w.heap.size ≤ g by omega) _).drew
                · exact c0.far (p := ⟨g, id, none⟩) (blk_ne c0 hBg (by decide)) _
                · exact c1.far (p := ⟨g, id, none⟩) (blk_ne c1 hBg (by decide)) _
                · simp only [List.length_append, List.length_cons, List.length_nil]
                  exact c7.far (p := ⟨g, id, none⟩) (blk_ne c7 hBg (by decide)) (.int .i64 vv)
                · rw [insVs_snoc]
                  simp only [List.length_append, List.length_cons, List.length_nil]
                  exact cr.kept (w' := (W11.setCell ⟨g, id, none⟩ (.int .i64 vv)).drew) fun g' hg' => heap_set_other W11 ⟨g, id, none⟩ _ (cr.ne hBg (by decide) g' hg')
                · simpa [World.setCell] using cw
              case measure => simp [intOf]; omega
        · have HEm : Hid (emitF T ⟨op, id, ia, ib, c⟩ = [⟨op, id, ea, eb, c⟩]) := by
            unfold Hid emitF
            dsimp only
            rw [if_neg hnv.out, hvv.out, hrh.out, if_neg hge]
            unfold askedF
            dsimp only
            rw [Int.toNat_natCast, Int.toNat_natCast, hea.out, heb.out]
          clear f0 f1 f2 f3 f4
          have ba := (Below.refl V.heap.size V).alloc (Nat.le_refl _) (.cells (insV op (id : Int) ea eb c) 72)
          have r2 := zr.below ba
          have xn := Blk.new V 72 (insV op (id : Int) ea eb c)
          have hsz : w.heap.size ≤ (V.alloc (.cells (insV op (id : Int) ea eb c) 72)).heap.size := by have := bz.size; simp; omega
          obtain ⟨f0, f1, f2, f3, f4⟩ := ins5 z9
          obtain ⟨m0, m1, m2, m3⟩ := pg4 z7
          have hlen : L.length < 1099511627776 := by omega
          go_wp2_with (at_builtin; refine wpList_append_e rfl (.tmp 69) (.tmp 71) rfl elIns w.heap.size (.slice eA L.length ec) L.length (insVs L) rfl r2 V.heap.size _ [.int .i64 op, .int .i64 (id : Int), .int .i64 ea, .int .i64 eb, .int .i64 c] rfl rfl ⟨_, _, xn⟩ ?h1 hlen ?h3 hsz ?h5)
          case h1 => intro u hu; simp at hu; rcases hu with rfl | rfl | rfl | rfl | rfl <;> rfl
          case h3 => omega
          case h5 =>
            intro g2 cap2 W10 hr3 hg3 hor
            have a7 := (z7.alloc (.cells (insV op (id : Int) ea eb c) 72)).grownRow r2 (by decide) hg3
            have a0' := (z0.alloc (.cells (insV op (id : Int) ea eb c) 72)).grownRow r2 (by decide) hg3
            have a1' := (z1.alloc (.cells (insV op (id : Int) ea eb c) 72)).grownRow r2 (by decide) hg3
            have a9 : Blk W10 g9 72 (insV op (id : Int) ea eb c) := (hg3.block g9 (z9.alloc (.cells (insV op (id : Int) ea eb c) 72)).lt fun e2 => Nat.lt_irrefl _ (hgr g9 e2.symm)).trans (z9.alloc (.cells (insV op (id : Int) ea eb c) 72))
            have at7 := (t7.below ba).grown r2 (by decide) (by decide) hg3
            have b10 := (bz.alloc bz.size (.cells (insV op (id : Int) ea eb c) 72)).trans (below_of_row r2 hg3 hsz)
            have hw10 : base ≤ W10.heap.size := by have := hg3.size; simp at this; omega
            have m2' := (pg4 a7).2.2.1
            have u2 := a7.frozen 2
            have c7 : Blk (W10.setCell ⟨g7, 2, none⟩ (.slice (some ⟨g2, 0, none⟩) (L.length + 1) cap2)) g7 25 #[.int .i64 ins, .int .i64 (n : Int), .slice (some ⟨g2, 0, none⟩) (L.length + 1) cap2, .slice none 0 0] := a7.set 2 _
            have c0 := a0'.far (p := ⟨g7, 2, none⟩) (show w.heap.size ≠ g7 by omega) (.slice (some ⟨g2, 0, none⟩) (L.length + 1) cap2)
            have c1 := a1'.far (p := ⟨g7, 2, none⟩) (show w.heap.size + 1 ≠ g7 by omega) (.slice (some ⟨g2, 0, none⟩) (L.length + 1) cap2)
            have c9 := a9.far (p := ⟨g7, 2, none⟩) (show g9 ≠ g7 by omega) (.slice (some ⟨g2, 0, none⟩) (L.length + 1) cap2)
            have ct := at7.far (p := ⟨g7, 2, none⟩) (u := .slice (some ⟨g2, 0, none⟩) (L.length + 1) cap2) a7 (by decide) (by decide) rfl
            have cr := hr3.kept (w' := W10.setCell ⟨g7, 2, none⟩ (.slice (some ⟨g2, 0, none⟩) (L.length + 1) cap2)) fun g hg => heap_set_other _ ⟨g7, 2, none⟩ _ (hr3.ne a7 (by decide) g hg)
            have cb := b10.setCell (p := ⟨g7, 2, none⟩) (show w.heap.size ≤ g7 by omega) (.slice (some ⟨g2, 0, none⟩) (L.length + 1) cap2)
            have cw : base ≤ (W10.setCell ⟨g7, 2, none⟩ (.slice (some ⟨g2, 0, none⟩) (L.length + 1) cap2)).heap.size := by simpa [World.setCell] using hw10
            clear hor
            go_wp2_with fail
            clear a7 a0' a1' a9 at7 b10 hw10 m2' u2 hr3 hg3 r2 xn ba hsz f0 f1 f2 f3 f4 m0 m1 m2 m3 zr z0 z1 z7 z9 bz t7 hwz
            generalize W10.setCell ⟨g7, 2, none⟩ (.slice (some ⟨g2, 0, none⟩) (L.length + 1) cap2) = W11 at *
            clear W10
            obtain ⟨g, cap, mk, mf, t0, t1, t2, t3, hgt, hbg, hbt, htl, hgl, hca, hcf, ⟨xx, hBg⟩, hput⟩ := ct.put (i := id) (by rw [HHD.out]; exact hid)
            have hP2 := hput vv
            clear hput
            rw [HHD.out] at t0
            obtain ⟨f0, f1, f2, f3, f4⟩ := ins5 c9
            have hg9' : g ≠ g9 := blk_ne hBg c9 (by decide)
            have l0 : (W11.setCell ⟨g, id, none⟩ (.int .i64 vv)).drew.cell? ⟨t, 0, none⟩ = some (.slice (some ⟨g, 0, none⟩) T.held.length cap) := (World.cell?_setCell_other W11 _ _ _ (by intro e; injection e with e; exact hgt e)).trans t0
            have l1 : (W11.setCell ⟨g, id, none⟩ (.int .i64 vv)).drew.cell? ⟨g9, 1, none⟩ = some (.int .i64 (id : Int)) := (World.cell?_setCell_other W11 _ _ _ (by intro e; injection e with e; exact hg9' e)).trans f1
            go_region_held3 (fun w' => w'.cell? ⟨t, 0, none⟩ = some (.slice (some ⟨g, 0, none⟩) T.held.length cap) ∧ w'.cell? ⟨g9, 1, none⟩ = some (.int .i64 (id : Int)))
              (first | exact ⟨t0, f1⟩ | exact ⟨l0, l1⟩) (fail)
            all_goals go_wp2
            all_goals
              go_roundw
              case rel =>
                refine ⟨k + 1, L ++ [⟨op, id, ea, eb, c⟩], { T1 with held := T1.held.set id vv }, some ⟨g2, 0, none⟩, cap2, by omega, by go_num, ?_, ?_, hP2, ?_, ?_, ?_, ?_, ?_⟩
                · unfold Hid
                  have hnv : ¬ lg T.held (id : Int).toNat = valF T ⟨op, id, ia, ib, c⟩ := by rw [Int.toNat_natCast, hvd.out, hvv.out]; exact HNE.out
                  rw [take_snoc' _ hlt, hIn.out, passF_snoc, HP.out]
                  dsimp only
                  rw [nextF_other hnv, hT1.out, hvv.out, Int.toNat_natCast, HEm.out]
                · exact (cb.setCell (p := ⟨g, id, none⟩) (show w.heap.size ≤ g by omega) _).drew
                · exact c0.far (p := ⟨g, id, none⟩) (blk_ne c0 hBg (by decide)) _
                · exact c1.far (p := ⟨g, id, none⟩) (blk_ne c1 hBg (by decide)) _
                · simp only [List.length_append, List.length_cons, List.length_nil]
                  exact c7.far (p := ⟨g, id, none⟩) (blk_ne c7 hBg (by decide)) (.int .i64 vv)
                · rw [insVs_snoc]
                  simp only [List.length_append, List.length_cons, List.length_nil]
                  exact cr.kept (w' := (W11.setCell ⟨g, id, none⟩ (.int .i64 vv)).drew) fun g' hg' => heap_set_other W11 ⟨g, id, none⟩ _ (cr.ne hBg (by decide) g' hg')
                · simpa [World.setCell] using cw
              case measure => simp [intOf]; omega
    · obtain rfl : k = code.length := by omega
      have hdec : decide (code.length < code.length) = false := by simp
      rw [List.take_length] at HP
      clear hkl hTK
      generalize wr = w0 at *
      obtain ⟨r0, r1, r2, r3⟩ := pg4 y0
      have hH : w.heap.size ≤ w0.heap.size := bw.size
      go_wp2_with fail
      go_loopw [86] (fun i wr => ∃ (k : Nat) (oA : Option Addr) (oc : Nat), k ≤ outs.length ∧ i = .int .i64 k ∧ w0.grownBy wr (some g7) ∧
        Blk wr g7 25 #[.int .i64 ins, .int .i64 (n : Int), .slice eA L.length ec, .slice oA k oc] ∧ RowZ wr w0.heap.size 3 (.int .i64 0) (.slice oA k oc) k (intsV (outsF T (outs.take k)))) (fun i _ => outs.length - (intOf i).toNat)
      case atStart => exact ⟨0, none, 0, by omega, rfl, ⟨rfl, rfl, rfl, Nat.le_refl _, fun _ _ _ => rfl⟩, y7, RowZ.nil _ _ _ _⟩
      case round =>
        obtain ⟨k, oA, oc, hk2, rfl, hgw, z7, zo⟩ := hrel
        have tq := hTw.grownP y7 hgw
        have z0 : Blk wr _ _ _ := (hgw.block _ y0.lt fun e => absurd (Option.some.inj e) (by omega)).trans y0
        have z1 : Blk wr _ _ _ := (hgw.block _ y1.lt fun e => absurd (Option.some.inj e) (by omega)).trans y1
        rcases Nat.lt_or_ge k outs.length with hlt | hge2
        · have hdec2 : decide (k < outs.length) = true := by simpa using hlt
          have bq : Below w.heap.size w wr := bw.trans (below_of_grown hgw (fun g e => by rw [← Option.some.inj e]; omega) hH)
          obtain ⟨b', off, rfl, hcell⟩ := (hZ.below bq) (by omega)
          have e0 := hcell k hlt
          clear hcell
          obtain ⟨r, hr⟩ := named (lg outs k)
          have hr2 := HO.out _ (lg_mem hlt)
          rw [hr.out] at e0 hr2
          obtain ⟨ir, rfl⟩ := Int.eq_ofNat_of_zero_le hr2.1
          have hir : ir < T.held.length := by omega
          have i0 : (0 : Int) ≤ (ir : Int) := by omega
          have i1 : (ir : Int) < (T.held.length : Int) := by omega
          have i1n : (ir : Int) < (n : Int) := hr2.2
          clear hr2
          obtain ⟨g, cap, t0, htl, hgl, hcl⟩ := tq.row (by omega)
          have a0 := hcl ir hir
          clear hcl
          obtain ⟨vd, hvd⟩ := named (lg T.held ir)
          rw [hvd.out] at a0
          obtain ⟨rh, hrh⟩ := named (holderF T.held vd)
          have tqd : TabB wr.drew base t T := tq
          have HH0 := holder_calls (v := vd) tqd (by omega) (by omega)
          rw [hrh.out] at HH0
          have HH := hide HH0
          clear HH0
          have ba := (Below.refl wr.heap.size wr).alloc (Nat.le_refl _) (.cells #[.int .i64 rh] 3)
          have xn := Blk.new wr 3 #[.int .i64 rh]
          have r2 : RowZ (wr.alloc (.cells #[.int .i64 rh] 3)).drew w0.heap.size 3 (.int .i64 0) (.slice oA k oc) k (intsV (outsF T (outs.take k))) := zo.below ba.drew
          have hsz : w0.heap.size ≤ (wr.alloc (.cells #[.int .i64 rh] 3)).drew.heap.size := by have := hgw.size; simp; omega
          have HSZ := hide hsz
          have hnew : ∀ u ∈ [Value.int .i64 rh], u.oneCell' = true := by intro u hu; simp at hu; subst hu; rfl
          have HNW := hide hnew
          have hnb : ∃ t' fr, (wr.alloc (.cells #[.int .i64 rh] 3)).drew.heap[wr.heap.size]? = some (.cells [Value.int .i64 rh].toArray t' fr) := ⟨_, _, xn⟩
          have HNB := hide hnb
          clear hsz hnew hnb
          have z7d : Blk (wr.alloc (.cells #[.int .i64 rh] 3)).drew _ _ _ := z7.alloc (.cells #[.int .i64 rh] 3)
          have l0 : (wr.alloc (.cells #[.int .i64 rh] 3)).drew.cell? ⟨t, 0, none⟩ = some (.slice (some ⟨g, 0, none⟩) T.held.length cap) := below_cell ba t0
          have l1 : (wr.alloc (.cells #[.int .i64 rh] 3)).drew.cell? ⟨g, ir, none⟩ = some (.int .i64 vd) := below_cell ba a0
          have l2 := (pg4 z7).2.2.2
          have l3 := (pg4 z7d).2.2.2
          obtain ⟨p0, p1, p2, p3⟩ := pg4 z0
          have hnu : ∀ g', (Value.slice oA k oc).ownBlock = some g' → w0.heap.size ≤ g' := fun g' hg' => (zo.lt hg').2
          have hgw0 : g < w0.heap.size := by
            obtain ⟨gx, capx, tx, _, hgx, _⟩ := hTw.row (by omega)
            have e1 : wr.cell? ⟨t, 0, none⟩ = w0.cell? ⟨t, 0, none⟩ := World.cell?_of_block (hgw.block t (World.block_lt_of_cell? w0 _ tx) fun e => by
              obtain ⟨_, _, _, _, _, _, kt, _⟩ := hTw
              exact blk_ne kt y7 (by decide) (Option.some.inj e))
            rw [t0, tx] at e1
            injection e1 with e1
            injection e1 with e1 _ _
            injection e1 with e1
            injection e1 with e1 _ _
            rw [e1]; exact hgx
          have htw0 : t < w0.heap.size := by
            obtain ⟨_, _, _, _, _, _, kt, _⟩ := hTw
            exact kt.lt
          have hg7 : t ≠ g7 := by
            obtain ⟨_, _, _, _, _, _, kt, _⟩ := hTw
            exact blk_ne kt y7 (by decide)
          have hg7' : g ≠ g7 := by
            obtain ⟨hA, hcap, _, _, _, _, kt, kr, _⟩ := tq
            obtain ⟨dt, _⟩ := tab4 kt
            rw [t0] at dt
            injection dt with dt
            injection dt with e1 _ _
            exact kr.ne z7 (by decide) g (by rw [← e1]; rfl)
          have HNU := hide hnu
          clear hnu
          go_wp2_with fail
          go_region_law (first
              | (go_simp
                 go_at_call 46
                 refine HH.out.mono ?_
                 rintro e wx ⟨rfl, rfl⟩)
              | (refine step_append_e rfl (.tmp 91) (.tmp 101) rfl elZ w0.heap.size (.slice oA k oc) k (intsV (outsF T (outs.take k))) (by simp [Act.eval]) r2 wr.heap.size 1 [.int .i64 rh] (by simp [Act.eval]) rfl HNB.out HNW.out (by omega) (by omega) HSZ.out ?_
                 intro g2 cap2 w3 hr3 hg3 _
                 have j0 : w3.cell? ⟨t, 0, none⟩ = some (.slice (some ⟨g, 0, none⟩) T.held.length cap) := (World.cell?_of_block (hg3.block t (World.block_lt_of_cell? _ _ l0) fun e => absurd (HNU.out t e.symm) (by omega))).trans l0
                 have j1 : w3.cell? ⟨g, ir, none⟩ = some (.int .i64 vd) := (World.cell?_of_block (hg3.block g (World.block_lt_of_cell? _ _ l1) fun e => absurd (HNU.out g e.symm) (by omega))).trans l1
                 have j7 : Blk w3 g7 _ _ := (hg3.block g7 z7d.lt fun e => absurd (HNU.out g7 e.symm) (by have := y7.lt; omega)).trans z7d
                 have j3 := (pg4 j7).2.2.2
                 have jf := j7.frozen 3
                 have i2 : (w3.setCell ⟨g7, 3, none⟩ (.slice (some ⟨g2, 0, none⟩) (k + 1) cap2)).cell? ⟨t, 0, none⟩ = some (.slice (some ⟨g, 0, none⟩) T.held.length cap) := (World.cell?_setCell_other w3 _ _ _ (by intro e; injection e with e; exact hg7 e.symm)).trans j0
                 have i3 : (w3.setCell ⟨g7, 3, none⟩ (.slice (some ⟨g2, 0, none⟩) (k + 1) cap2)).cell? ⟨g, ir, none⟩ = some (.int .i64 vd) := (World.cell?_setCell_other w3 _ _ _ (by intro e; injection e with e; exact hg7' e.symm)).trans j1))
          all_goals go_wp2
          all_goals
            go_roundw
            case rel =>
              refine ⟨k + 1, some ⟨g2, 0, none⟩, cap2, by omega, by go_num, ?_, ?_, ?_⟩
              · refine ⟨hg3.os.trans hgw.os, hg3.tape.trans hgw.tape, hg3.output.trans hgw.output, ?_, fun i hi hne => ?_⟩
                · have h1 := hg3.size
                  have h2 := hgw.size
                  simp [World.setCell] at h1 ⊢
                  omega
                · have h2 := hgw.size
                  rw [heap_set_other w3 ⟨g7, 3, none⟩ _ (fun e => hne (by rw [e]))]
                  exact ((hg3.block i (by simp; omega) fun e => absurd (HNU.out i e.symm) (by omega)).trans (Below.heap_alloc wr _ i (by omega))).trans (hgw.block i hi hne)
              · exact j7.set 3 _
              · have hs : intsV (outsF T (outs.take (k + 1))) = intsV (outsF T (outs.take k)) ++ [.int .i64 rh] := by
                  rw [take_snocI outs hlt, hr.out, outsF_snoc, Int.toNat_natCast, hvd.out, hrh.out]
                  simp [intsV]
                rw [hs]
                exact hr3.kept fun g' hg' => heap_set_other w3 ⟨g7, 3, none⟩ _ (hr3.ne j7 (by decide) g' hg')
            case measure => simp [intOf]; omega
        · obtain rfl : k = outs.length := by omega
          have hdec2 : decide (outs.length < outs.length) = false := by simp
          rw [List.take_length] at zo
          obtain ⟨m0, m1, m2, m3⟩ := pg4 z7
          obtain ⟨p0, p1, p2, p3⟩ := pg4 z1
          have u0 := z1.frozen 0
          have u1 := z1.frozen 1
          have u2 := z1.frozen 2
          have u3 := z1.frozen 3
          have bq : Below w.heap.size w wr := bw.trans (below_of_grown hgw (fun g e => by rw [← Option.some.inj e]; omega) hH)
          have rzq : RowZ wr w.heap.size 72 zIns (.slice eA L.length ec) L.length (insVs L) := rz.kept fun g' hg' => hgw.block g' (rz.lt hg').1 fun e => rz.ne y7 (by decide) g' hg' (Option.some.inj e)
          go_wp2
          have zz := (((z1.set 0 (.int .i64 ins)).set 1 (.int .i64 (n : Int))).set 2 (.slice eA L.length ec)).set 3 (.slice oA outs.length oc)
          refine bodyPost_ret (v := .tuple #[.agg #[.int .i64 ins, .int .i64 (n : Int), .slice eA L.length ec, .slice oA outs.length oc], .int .i64 0]) (res_prog (fn := Try.f13) (p := 2) (q := 3) rfl rfl rfl zz) rfl ⟨⟨_, rfl, ?_⟩, ?_⟩
          · have hsh : shareF ⟨ins, (n : Int), code, outs⟩ = ⟨ins, n, L, outsF T outs⟩ := by
              unfold shareF
              dsimp only
              rw [HP.out]; rfl
            have keep : ∀ {base m : Nat} {e : TypeId} {z v : Value} {xs : List Value}, RowZ wr base e z v m xs → e ≠ 25 → RowZ ((((wr.setCell ⟨w.heap.size + 1, 0, none⟩ (.int .i64 ins)).setCell ⟨w.heap.size + 1, 1, none⟩ (.int .i64 (n : Int))).setCell ⟨w.heap.size + 1, 2, none⟩ (.slice eA L.length ec)).setCell ⟨w.heap.size + 1, 3, none⟩ (.slice oA outs.length oc)) base e z v m xs := by
              intro base m e z v xs hx hne
              refine hx.kept fun g' hg' => ?_
              have hn := hx.ne z1 hne g' hg'
              rw [heap_set_other _ ⟨w.heap.size + 1, 3, none⟩ _ hn, heap_set_other _ ⟨w.heap.size + 1, 2, none⟩ _ hn, heap_set_other _ ⟨w.heap.size + 1, 1, none⟩ _ hn, heap_set_other _ ⟨w.heap.size + 1, 0, none⟩ _ hn]
            obtain ⟨_, c1, c2⟩ := (keep rzq (by decide)).rdI
            obtain ⟨d0, d1, d2⟩ := (keep zo (by decide)).rdZ
            rw [hsh]
            refine ⟨eA, ec, oA, oc, ?_, c1, ?_, c2, d2⟩
            · unfold progV
              rw [d0]
            · rw [d0]; exact d1
          · exact (((bq.setCell (p := ⟨w.heap.size + 1, 0, none⟩) (Nat.le_succ _) _).setCell (p := ⟨w.heap.size + 1, 1, none⟩) (Nat.le_succ _) _).setCell (p := ⟨w.heap.size + 1, 2, none⟩) (Nat.le_succ _) _).setCell (p := ⟨w.heap.size + 1, 3, none⟩) (Nat.le_succ _) _
end Go.Proofs.Ytnchlckncknaiaa
/- swageref08: May, Check, Right; swagelaw14: long, shifts. -/
namespace Go.Proofs.Ytnchlckncknaiaa
open Go.RowKit

set_option maxHeartbeats 4000000 in
theorem refmay_calls {w : World} (op dst a b c n : Int) : Calls Try.prog 89 #[.agg (insV op dst a b c), .int .i64 n] w fun e w' =>
    e = .returned (.bool (decide (May ⟨op, dst, a, b, c⟩ n))) ∧ Below w.heap.size w w' := by
  have b0 := (Below.refl w.heap.size w).alloc (Nat.le_refl _) (.cells (insV op dst a b c) 72)
  go_enter Try.func89, Try.ntmps89
  go_wp2
  all_goals
    go_ret
    refine ⟨ret_bool ?_, (Below.refl _ _).alloc (Nat.le_refl _) _⟩
    clear b0
    rw [Bool.eq_iff_iff]
    simp_all [May, constP_iff]
    try omega

/-- What swageref08.Check answers. -/
def RefAns (p : Pg) (e : Ending) : Prop := ∃ k : Int, e = .returned (.tuple #[.int .i64 k, .bool (decide (¬ p.Right))])
theorem RefAns.wrong {p : Pg} (k : Int) (h : ¬ p.Right) : RefAns p (.returned (.tuple #[.int .i64 k, .bool true])) := ⟨k, by rw [decide_eq_true h]⟩
theorem RefAns.right {p : Pg} (h : p.Right) : RefAns p (.returned (.tuple #[.int .i64 0, .bool false])) := ⟨0, by rw [decide_eq_false (fun h' => h' h)]⟩

set_option maxHeartbeats 4000000 in
theorem refcheck_calls {w : World} {v : Value} {p : Pg} (h : PgB w v p) : Calls Try.prog 42 #[v] w fun e w' => RefAns p e ∧ Below w.heap.size w w' := by
  obtain ⟨A, c, B, d, rfl, _, _, hI, hZ⟩ := h
  obtain ⟨ins, regs, code, outs⟩ := p
  dsimp only at hI hZ
  have x0 := Blk.new w 25 #[.int .i64 ins, .int .i64 regs, .slice A code.length c, .slice B outs.length d]
  have b0 := (Below.refl w.heap.size w).alloc (Nat.le_refl _) (.cells #[.int .i64 ins, .int .i64 regs, .slice A code.length c, .slice B outs.length d] 25)
  have hI0 := hI.below b0
  have hZ0 := hZ.below b0
  clear hI hZ
  unfold progV
  dsimp only
  by_cases hh : 1 ≤ ins ∧ ins ≤ regs ∧ regs ≤ 128 ∧ code.length ≤ 16384 ∧ 1 ≤ outs.length ∧ outs.length ≤ 128
  · obtain ⟨h1, h2, h3, h4, h5, h6⟩ := hh
    have HH : Hid (Pg.Head ⟨ins, regs, code, outs⟩) := ⟨h1, h2, h3, h4, h5, h6⟩
    go_enter Try.func42, Try.ntmps42
    go_wp2_with fail
    generalize hW : w.alloc (.cells #[.int .i64 ins, .int .i64 regs, .slice A code.length c, .slice B outs.length d] 25) = W at *
    clear hW
    go_loopw [4] (fun i wr => ∃ k : Nat, k ≤ outs.length ∧ i = .int .i64 k ∧ Hid (∀ j, j < k → 0 ≤ lg outs j ∧ lg outs j < regs) ∧ Below w.heap.size w wr ∧ RdI wr A code ∧ RdZ wr B outs ∧ Blk wr w.heap.size 25 #[.int .i64 ins, .int .i64 regs, .slice A code.length c, .slice B outs.length d]) (fun i _ => outs.length - (intOf i).toNat)
    case atStart => exact ⟨0, by omega, rfl, fun j hj => by omega, b0, hI0, hZ0, x0⟩
    case round =>
      obtain ⟨k, hk, rfl, HA, bw, hIw, hZw, xw⟩ := hrel
      obtain ⟨p0, p1, p2, p3⟩ := pg4 xw
      rcases Nat.lt_or_ge k outs.length with hlt | hge
      · have hZw' := hZw
        obtain ⟨b', off, rfl, hcell⟩ := hZw (by omega)
        have e := hcell k hlt
        clear hcell
        obtain ⟨r, hr⟩ := named (lg outs k)
        rw [hr.out] at e
        have hdec : decide (k < outs.length) = true := by simpa using hlt
        have i0 : (0 : Int) ≤ (k : Int) := by omega
        have i1 : (k : Int) < (outs.length : Int) := by omega
        rcases Int.lt_or_le r 0 with hr0 | hr0
        · go_wp2_with fail
          go_quiet (fail)
          go_wp2
          go_ret2
          refine ⟨RefAns.wrong _ ?_, below_drewN bw _⟩
          rintro ⟨_, hq, _⟩
          have hq2 := hq _ (lg_mem hlt)
          rw [hr.out] at hq2
          dsimp only at hq2
          omega
        · have hr0' : decide (r < 0) = false := by simpa using hr0
          go_wp2_with fail
          go_quiet (fail)
          go_wp2
          all_goals first
            | (go_ret2
               refine ⟨RefAns.wrong _ ?_, below_drewN bw _⟩
               rintro ⟨_, hq, _⟩
               have hq2 := hq _ (lg_mem hlt)
               rw [hr.out] at hq2
               dsimp only at hq2
               omega)
            | (go_roundw
               case rel =>
                 refine ⟨k + 1, by omega, by go_num, ?_, below_drewN bw _, hIw, hZw', xw⟩
                 intro j hj
                 rcases Nat.lt_or_ge j k with h1 | h1
                 · exact HA.out j h1
                 · obtain rfl : j = k := by omega
                   rw [hr.out]; exact ⟨by omega, by omega⟩
               case measure => simp [intOf]; omega)
      · have hdec : decide (k < outs.length) = false := by simpa using hge
        have HO : Hid (∀ r ∈ outs, 0 ≤ r ∧ r < regs) := all_lg fun j hj => HA.out j (by omega)
        go_wp2
        go_loopw [5] (fun i wr => ∃ k : Nat, k ≤ code.length ∧ i = .int .i64 k ∧ Hid (∀ j, j < k → May (code.getD j default) regs) ∧ Below w.heap.size w wr ∧ RdI wr A code ∧ Blk wr w.heap.size 25 #[.int .i64 ins, .int .i64 regs, .slice A code.length c, .slice B outs.length d]) (fun i _ => code.length - (intOf i).toNat)
        case atStart => exact ⟨0, by omega, rfl, fun j hj => by omega, bw, hIw, xw⟩
        clear bw hIw hZw xw p0 p1 p2 p3
        case round =>
          rename_i wq
          obtain ⟨k, hk, rfl, HB, bw, hIw, xw⟩ := hrel
          obtain ⟨y0, y1, y2, y3⟩ := pg4 xw
          rcases Nat.lt_or_ge k code.length with hlt | hge
          · have hIw' := hIw
            obtain ⟨b', off, rfl, hcell⟩ := hIw (by omega)
            obtain ⟨e0, e1, e2, e3, e4⟩ := hcell k hlt
            clear hcell
            obtain ⟨I, hI⟩ := named (code.getD k default)
            rw [hI.out] at e0 e1 e2 e3 e4
            obtain ⟨op, dst, ra, rb, cc⟩ := I
            dsimp only at e0 e1 e2 e3 e4
            have hdec : decide (k < code.length) = true := by simpa using hlt
            have i0 : (0 : Int) ≤ (k : Int) := by omega
            have i1 : (k : Int) < (code.length : Int) := by omega
            go_wp2_with fail
            go_region_held3 (fun w' => w'.cell? ⟨w.heap.size, 1, none⟩ = some (.int .i64 regs) ∧ w'.cell? ⟨w.heap.size, 2, none⟩ = some (.slice (some ⟨b', off, none⟩) code.length c) ∧ w'.cell? ⟨b', off + k * 5, none⟩ = some (.int .i64 op) ∧ w'.cell? ⟨b', off + k * 5 + 1, none⟩ = some (.int .i64 dst) ∧ w'.cell? ⟨b', off + k * 5 + 2, none⟩ = some (.int .i64 ra) ∧ w'.cell? ⟨b', off + k * 5 + 3, none⟩ = some (.int .i64 rb) ∧ w'.cell? ⟨b', off + k * 5 + 4, none⟩ = some (.int .i64 cc))
              (first | exact ⟨y1, y2, e0, e1, e2, e3, e4⟩ | exact ⟨m1, m2, n0, n1, n2, n3, n4⟩)
              (first
                | (go_at_call 89
                   refine (refmay_calls _ _ _ _ _ _).mono ?_
                   rintro e wm ⟨rfl, hbm⟩
                   have m1 := below_cell hbm y1
                   have m2 := below_cell hbm y2
                   have n0 := below_cell hbm e0
                   have n1 := below_cell hbm e1
                   have n2 := below_cell hbm e2
                   have n3 := below_cell hbm e3
                   have n4 := below_cell hbm e4))
            all_goals go_wp2
            all_goals first
              | (go_ret2
                 refine ⟨RefAns.wrong _ ?_, below_to bw.drew hbm⟩
                 rintro ⟨_, _, hq⟩
                 have hq2 := hq _ (getD_mem hlt)
                 rw [hI.out] at hq2
                 simp_all)
              | (go_roundw
                 case rel =>
                   refine ⟨k + 1, by omega, by go_num, ?_, below_to bw.drew hbm, RdI.below (w := wr.drew) hIw' hbm, Blk.below (xw.drew) hbm xw.drew.lt⟩
                   intro j hj
                   rcases Nat.lt_or_ge j k with h1 | h1
                   · exact HB.out j h1
                   · obtain rfl : j = k := by omega
                     rw [hI.out]
                     simp_all
                 case measure => simp [intOf]; omega)
          · have hdec : decide (k < code.length) = false := by simpa using hge
            have HC : Hid (∀ i ∈ code, May i regs) := all_getD fun j hj => HB.out j (by omega)
            go_wp2
            go_ret2
            exact ⟨RefAns.right ⟨HH.out, HO.out, HC.out⟩, bw⟩
  · have HH : Hid (¬ Pg.Head ⟨ins, regs, code, outs⟩) := hh
    clear hh
    go_enter Try.func42, Try.ntmps42
    go_wp2_with fail
    all_goals first
      | (go_ret2
         exact ⟨RefAns.wrong _ fun h => HH.out h.1, b0⟩)
      | (exfalso
         refine HH.out ?_
         unfold Pg.Head
         dsimp only
         omega)
end Go.Proofs.Ytnchlckncknaiaa
/- swageref08: Right, Count; swagelaw14: long, shifts. -/
namespace Go.Proofs.Ytnchlckncknaiaa
open Go.RowKit

theorem refright_calls {w : World} {v : Value} {p : Pg} (h : PgB w v p) : Calls Try.prog 10 #[v] w fun e w' => e = .returned (.bool (decide p.Right)) ∧ Below w.heap.size w w' := by
  have h' := h
  obtain ⟨A, c, B, d, rfl, k1, k2, hI, hZ⟩ := h'
  have b0 := (Below.refl w.heap.size w).alloc (Nat.le_refl _) (.cells #[.int .i64 p.ins, .int .i64 p.regs, .slice A p.code.length c, .slice B p.outs.length d] 25)
  have HC := hide (refcheck_calls (h.below b0))
  clear h hI hZ
  unfold progV at *
  go_enter Try.func10, Try.ntmps10
  go_wp2_with fail
  refine HC.out.mono ?_
  rintro e w1 ⟨⟨k, rfl⟩, hb⟩
  go_wp2
  all_goals
    go_ret
    exact ⟨ret_bool (by simp), below_to b0 hb⟩

theorem long14_calls {w : World} {v : Value} {p : Pg} (h : PgB w v p) : Calls Try.prog 11 #[v] w fun e w' => e = .returned (.bool (decide (150 < p.code.length ∨ 150 < p.outs.length))) ∧ Below w.heap.size w w' := by
  obtain ⟨A, c, B, d, rfl, k1, k2, hI, hZ⟩ := h
  have b0 := (Below.refl w.heap.size w).alloc (Nat.le_refl _) (.cells #[.int .i64 p.ins, .int .i64 p.regs, .slice A p.code.length c, .slice B p.outs.length d] 25)
  clear hI hZ
  unfold progV at *
  go_enter Try.func11, Try.ntmps11
  go_wp2
  all_goals
    go_ret
    refine ⟨ret_bool ?_, b0⟩
    rw [Bool.eq_iff_iff]
    simp_all
    try omega
set_option maxHeartbeats 1000000 in
theorem shifts14_calls {w : World} {v : Value} {p : Pg} (h : PgB w v p) (hl : p.code.length ≤ 16384) : Calls Try.prog 12 #[v] w fun e w' => (∃ n : Int, e = .returned (.int .i64 n)) ∧ Below w.heap.size w w' := by
  obtain ⟨A, c, B, d, rfl, k1, k2, hI, hZ⟩ := h
  obtain ⟨ins, regs, code, outs⟩ := p
  dsimp only at hI hZ hl
  have b0 := (Below.refl w.heap.size w).alloc (Nat.le_refl _) (.cells #[.int .i64 ins, .int .i64 regs, .slice A code.length c, .slice B outs.length d] 25)
  have x0 := Blk.new w 25 #[.int .i64 ins, .int .i64 regs, .slice A code.length c, .slice B outs.length d]
  have hI0 := hI.below b0
  clear hI hZ
  unfold progV at *
  go_enter Try.func12, Try.ntmps12
  go_wp2_with fail
  generalize hW : w.alloc _ = W at *
  clear hW
  obtain ⟨p0, p1, p2, p3⟩ := pg4 x0
  go_loop [3, 4] (fun n i => ∃ (k : Nat) (m : Int), k ≤ code.length ∧ i = .int .i64 k ∧ n = .int .i64 m) (fun _ i => code.length - (intOf i).toNat)
  case atStart => exact ⟨0, 0, by omega, rfl, rfl⟩
  case round =>
    obtain ⟨k, m, hk, rfl, rfl⟩ := hrel
    rcases Nat.lt_or_ge k code.length with hlt | hge
    · obtain ⟨b', off, rfl, hcell⟩ := hI0 (by omega)
      obtain ⟨e0, _⟩ := hcell k hlt
      clear hcell
      obtain ⟨I, hI⟩ := named (code.getD k default)
      rw [hI.out] at e0
      have hdec : decide (k < code.length) = true := by simpa using hlt
      go_wp2
      all_goals
        go_round
        case rel => exact ⟨k + 1, _, by omega, by go_num, rfl⟩
        case measure => simp [intOf]; omega
    · have hdec : decide (k < code.length) = false := by simpa using hge
      go_wp2
      go_ret
      exact ⟨⟨_, rfl⟩, b0⟩
end Go.Proofs.Ytnchlckncknaiaa
