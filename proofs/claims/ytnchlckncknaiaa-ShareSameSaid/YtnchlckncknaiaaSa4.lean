/- Words and contracts that the claim's last text uses: part 4. -/
import Derived.Test.YtnchlckncknaiaaSa3
import Derived.Test.YtnchlckncknaiaaRows
import Derived.ProofKit
import Derived.OpenShut
import Derived.Deep.Slices
import Derived.Deep.Fields
import Derived.Lib.SmallJoins
import Derived.Maps.OwnSet
import Derived.Maps.OwnOps
import Derived.DeepKeys4
import Derived.WideKeyEntry
import Derived.Deep.RegionLaw
import Derived.WalkLawsBesides
import Derived.Deep.RegionHeld3
/- Arguments opened: programs, slices of numbers; the law's last step. -/
namespace Go.Proofs.Ytnchlckncknaiaa
open Go.ChangeShapes Go.WideShapes Go.RowKit Go.Deep Go.Joins

section
variable {H : Type} {enc : TypeId × Value → H} {P : Program} {w : World} {base : Nat} {spare : Nat → Bool} {held : Bool}
/-- A slice of structs of one-cell fields, opened to its cells. -/
theorem open_fields {t e : TypeId} {fs : Array Field} {fuel : Nat} {cs : List Value} {x : DataW H × List MemPlace} (ht : P.underlying t = some (.slice e)) (he : P.underlying e = some (.struct fs))
    (hone : oneCellFields P fs = true) (hC : P.cellsOf e = fs.size) (h : DataW.trod enc P w base spare held fuel t cs = some x) :
    (cs = [.slice none 0 0]) ∨
    ∃ (a : Addr) (len cap : Nat), cs = [.slice (some a) len cap] ∧ len ≤ cap ∧ cap ≤ maxLen ∧
      ∀ i, i < len → ∀ (j : Nat) (f : Field), fs[j]? = some f → ∃ (v : Value) (n : Nat) (y : DataW H × List MemPlace), w.cell? (a.add (i * fs.size + j)) = some v ∧ DataW.trod enc P w base spare held n f.type [v] = some y := by
  rcases open_slice ht h with h0 | ⟨a, len, cap, m, n, D, Pl, hcs, hb, hl, hm, hmm, hx, hi⟩
  · exact .inl h0.1
  · refine .inr ⟨a, len, cap, hcs, hl, hm, fun i him j f hj => ?_⟩
    have him' : i < m := by
      rw [hmm]
      split <;> omega
    obtain ⟨cs', hc, ht'⟩ := hi i him'
    rw [hC] at hc
    obtain ⟨ys, n', hn', hy, hlen, hyl, hf⟩ := DataW.trod_struct he ht'
    obtain ⟨_, hcl, hat⟩ := World.cells?_some hc
    obtain ⟨ho, hk⟩ := hone_of hone j f hj
    have hjl : j < fs.size := (Array.getElem?_eq_some_iff.1 hj).1
    have hcell := hat j hjl
    have hv : cs'[j]? = some (cs'[j]'(by omega)) := List.getElem?_eq_getElem (by omega)
    have h1 := hf j f hj
    rw [ho, hk] at h1
    have hone' : (cs'.drop j).take 1 = [cs'[j]'(by omega)] := by
      rw [List.drop_eq_getElem_cons (by omega)]
      rfl
    rw [hone'] at h1
    have hys : ys[j]? = some (ys[j]'(by omega)) := List.getElem?_eq_getElem (by omega)
    refine ⟨_, n', _, ?_, h1.trans hys⟩
    rw [← Go.Deep.add_add, hcell, hv]
end

/-- The number that a cell holds. -/
def cellZ (w : World) (b o : Nat) : Int := match w.cell? ⟨b, o, none⟩ with | some (.int _ z) => z | _ => 0
theorem cellZ_of {w : World} {b o : Nat} {z : Int} (h : w.cell? ⟨b, o, none⟩ = some (.int .i64 z)) : cellZ w b o = z := by unfold cellZ; rw [h]
def insAt (w : World) (b o : Nat) : Ins := ⟨cellZ w b o, cellZ w b (o + 1), cellZ w b (o + 2), cellZ w b (o + 3), cellZ w b (o + 4)⟩

section
variable {H : Type} {enc : TypeId × Value → H} {w : World} {base : Nat} {spare : Nat → Bool} {held : Bool}
theorem int_of {t : TypeId} (ht : Try.prog.underlying t = some (.int .i64)) {n : Nat} {v : Value} {y : DataW H × List MemPlace} (h : DataW.trod enc Try.prog w base spare held n t [v] = some y) : ∃ z : Int, v = .int .i64 z ∧ -9223372036854775808 ≤ z ∧ z ≤ 9223372036854775807 := by
  obtain ⟨a, e, _, hw⟩ := DataW.trod_int ht h
  injection e with e _
  have := bounds_i64 hw
  exact ⟨a, e, this.1, this.2⟩
theorem cell_int {b o k m : Nat} (h : ∃ (v : Value) (n : Nat) (y : DataW H × List MemPlace), w.cell? ((⟨b, o, none⟩ : Addr).add (m + k)) = some v ∧ DataW.trod enc Try.prog w base spare held n 3 [v] = some y) : w.cell? ⟨b, o + m + k, none⟩ = some (.int .i64 (cellZ w b (o + m + k))) := by
  obtain ⟨v, n, y, h1, h2⟩ := h
  obtain ⟨z, rfl, _⟩ := int_of Try.underlying3 h2
  rw [Addr.add_lit] at h1
  have e1 : o + (m + k) = o + m + k := by omega
  rw [e1] at h1
  rw [cellZ_of h1, h1]
theorem cellsIns : Try.prog.cellsOf 72 = 5 := by kernel_rfl
theorem cellsPg : Try.prog.cellsOf 25 = 4 := by kernel_rfl
theorem cellsInt : Try.prog.cellsOf 3 = 1 := by kernel_rfl
theorem open_code {n : Nat} {v : Value} {y : DataW H × List MemPlace} (h : DataW.trod enc Try.prog w base spare held n 22 [v] = some y) : ∃ A c, ∃ l : List Ins, v = .slice A l.length c ∧ l.length ≤ c ∧ RdI w A l := by
  rcases open_fields Try.underlying22 Try.underlying72 (by kernel_rfl) cellsIns h with e | ⟨a, len, cap, e, hl, hm, hc⟩
  · injection e with e _
    exact ⟨none, 0, [], e, Nat.le_refl _, fun h => absurd h (by simp)⟩
  · injection e with e _
    rcases Nat.eq_zero_or_pos len with h0 | h0
    · subst h0
      exact ⟨some a, cap, [], e, hl, fun h => absurd h (by simp)⟩
    · obtain ⟨b, off, spot⟩ := a
      obtain ⟨v0, _, _, hv0, _⟩ := hc 0 h0 0 _ rfl
      have hspot : spot = none := by simpa [Addr.add] using World.cell?_spot hv0
      subst hspot
      refine ⟨some ⟨b, off, none⟩, cap, (List.range len).map fun i => insAt w b (off + i * 5), by simpa using e, by simpa using hl, fun _ => ⟨b, off, rfl, fun j hj => ?_⟩⟩
      simp at hj
      have hg : ((List.range len).map fun i => insAt w b (off + i * 5)).getD j default = insAt w b (off + j * 5) := by simp [hj]
      rw [hg]
      exact ⟨cell_int (hc j hj 0 _ rfl), cell_int (hc j hj 1 _ rfl), cell_int (hc j hj 2 _ rfl), cell_int (hc j hj 3 _ rfl), cell_int (hc j hj 4 _ rfl)⟩
theorem open_nums {t e : TypeId} (ht : Try.prog.underlying t = some (.slice e)) (he : Try.prog.underlying e = some (.int .i64)) (hce : Try.prog.cellsOf e = 1) {n : Nat} {v : Value} {y : DataW H × List MemPlace} (h : DataW.trod enc Try.prog w base spare held n t [v] = some y) :
    ∃ A c, ∃ l : List Int, v = .slice A l.length c ∧ l.length ≤ c ∧ c ≤ maxLen ∧ RdZ w A l ∧ ∀ j, j < l.length → -9223372036854775808 ≤ lg l j ∧ lg l j < 9223372036854775808 := by
  rcases open_slice1 ht hce h with ⟨e1, _⟩ | ⟨a, len, cap, m, n', V, D, Pl, e1, hb, hl, hm, hmm, hx, hc⟩
  · injection e1 with e1 _
    exact ⟨none, 0, [], e1, Nat.le_refl _, Nat.zero_le _, fun h => absurd h (by simp), fun j hj => absurd hj (by simp)⟩
  · injection e1 with e1 _
    have hlm : ∀ i, i < len → i < m := by
      intro i hi
      rw [hmm]
      split <;> omega
    rcases Nat.eq_zero_or_pos len with h0 | h0
    · subst h0
      exact ⟨some a, cap, [], e1, hl, hm, fun h => absurd h (by simp), fun j hj => absurd hj (by simp)⟩
    · obtain ⟨b, off, spot⟩ := a
      have hspot : spot = none := by simpa [Addr.add] using World.cell?_spot (hc 0 (hlm 0 h0)).1
      subst hspot
      have key : ∀ j, j < len → w.cell? ⟨b, off + j, none⟩ = some (.int .i64 (cellZ w b (off + j))) ∧ -9223372036854775808 ≤ cellZ w b (off + j) ∧ cellZ w b (off + j) ≤ 9223372036854775807 := by
        intro j hj
        obtain ⟨h1, h2⟩ := hc j (hlm j hj)
        obtain ⟨z, hz, h3, h4⟩ := int_of he h2
        rw [Addr.add_lit, hz] at h1
        rw [cellZ_of h1]
        exact ⟨h1, h3, h4⟩
      have hg : ∀ j, j < len → lg ((List.range len).map fun i => cellZ w b (off + i)) j = cellZ w b (off + j) := by
        intro j hj
        simp [lg, hj]
      refine ⟨some ⟨b, off, none⟩, cap, (List.range len).map fun i => cellZ w b (off + i), by simpa using e1, by simpa using hl, hm, fun _ => ⟨b, off, rfl, fun j hj => ?_⟩, fun j hj => ?_⟩
      · simp at hj
        rw [hg j hj]
        exact (key j hj).1
      · simp at hj
        rw [hg j hj]
        have := (key j hj).2
        omega
set_option maxRecDepth 10000 in
theorem open_prog {r : Reach} {b0 : Nat} {v : Value} {d : DataW H} {pl : List MemPlace} (hv : Value.okWide Try.prog w r b0 25 v) (h : DataW.Trod enc Try.prog w base spare held 25 v d pl) : ∃ p : Pg, PgB w v p := by
  obtain ⟨v0, v1, v2, v3, y0, y1, y2, y3, n, rfl, _, _, h0, h1, h2, h3⟩ := open_agg4 Try.underlying25 (by kernel_rfl) cellsPg hv h
  obtain ⟨ins, rfl, _⟩ := int_of Try.underlying3 h0
  obtain ⟨regs, rfl, _⟩ := int_of Try.underlying3 h1
  obtain ⟨A, c, code, rfl, hc, hI⟩ := open_code h2
  obtain ⟨B, e, outs, rfl, he, _, hZ, _⟩ := open_nums Try.underlying23 Try.underlying3 cellsInt h3
  exact ⟨⟨ins, regs, code, outs⟩, A, c, B, e, rfl, hc, he, hI, hZ⟩
end

section
variable {H : Type} {enc : TypeId × Value → H} {P : Program}
/-- The row's last step, of a call that has made memory and left the old as it was. -/
theorem post_below {f : Func} {s : ChangeSpec} {apart fresh handsOn again : Bool} {W W' : World} {args : Array Value} {v : Value} {ds gs : List (DataW H)} {before pa pv : List MemPlace}
    (hW : DataW.Whole enc P f.params.toList s.vars apart W args.toList ds gs before)
    (hres : ∀ (b : Nat) (sp : Nat → Bool) (hd : Bool), DataW.TrodAll enc P W' b sp hd f.resultTypes.toList (v.resultList f.resultTypes.size) (s.fn H (ds ++ gs)).results [])
    (hargs : ∀ sp : Nat → Bool, (∀ p ∈ before, sp p.block = true) → DataW.TrodAll enc P W' 0 sp true f.params.toList args.toList (s.fn H (ds ++ gs)).args pa)
    (hvars : ∀ sp : Nat → Bool, (∀ p ∈ before, sp p.block = true) → DataW.TrodVars enc P W' sp s.vars (s.fn H (ds ++ gs)).vars pv)
    (hps : before = pa ++ pv) (hb : Below W.heap.size W W')
    (hok : ∀ (j : Nat) (t : TypeId) (r : Value), f.resultTypes[j]? = some t → (v.resultList f.resultTypes.size)[j]? = some r → Value.okWide P W' .any 0 t r) :
    s.post enc P f apart fresh handsOn again W args v W' := by
  have hlt : ∀ p ∈ before, p.block < W.heap.size := fun p hp => hW.lt p hp
  have hold : ∀ p ∈ before, (fun b => decide (b < W.heap.size)) p.block = true := fun p hp => by simpa using hlt p hp
  refine ⟨ds, gs, before, [], pa, pv, hW, hres _ _ _, hargs _ hold, hvars _ hold, World.keptBut_mono (fun p hp => ⟨hp, ?_⟩) (hb.frame (· ∈ before)), fun _ => ?_⟩
  · rw [hps, List.mem_append] at hp
    exact Or.inr hp
  · obtain ⟨_, _, _, _, _, hz, hn⟩ := hW
    refine ⟨hok, _, _, ([] ++ pa) ++ pv, ⟨[] ++ pa, pv, trodAll_append (hargs _ (fun _ _ => rfl)) (hres _ _ _), hvars _ (fun _ _ => rfl), rfl, ?_, ?_⟩, ?_⟩
    · intro b off hp
      have hin : MemPlace.cell b off ∈ before := by rw [hps]; simpa using hp
      rw [hb.frozen (hlt _ hin)]
      exact hz b off hin
    · intro ha
      have := hn ha
      rw [hps] at this
      simpa using this
    · intro p hp _
      rw [hps]
      simpa using hp
/-- What was read before the call reads so behind it. -/
theorem trod_later {t : TypeId} (hl : laidOutB P = true) (hr : P.readableRec t = true) (hrow : t < P.types.size) {W W' : World} {v : Value} {d : DataW H} {ps : List MemPlace} {sp : Nat → Bool}
    (h : DataW.Trod enc P W 0 (fun _ => true) true t v d ps) (hb : Below W.heap.size W W') (hlt : ∀ x ∈ ps, x.block < W.heap.size) (hsp : ∀ x ∈ ps, sp x.block = true) : DataW.Trod enc P W' 0 sp true t v d ps :=
  WideElems.Trod_stays hl hr hrow h (fun x hx => hb.same (hlt x hx)) hsp
end
end Go.Proofs.Ytnchlckncknaiaa
/- share.Pass, without memory: what it makes of a program answers the same. -/
namespace Go.Proofs.Ytnchlckncknaiaa
open Go.RowKit

/-- What an instruction reckons with. -/
structure Ky where
  op : Int
  a : Int
  b : Int
  c : Int
deriving DecidableEq, Inhabited
/-- What registers hold, and what was reckoned. -/
structure Tb where
  held : List Int
  known : Ky → Option Int
  next : Int

/-- The first register that holds a value; below 0: none does. -/
def holderF (held : List Int) (v : Int) : Int := if held.idxOf v < held.length then (held.idxOf v : Int) else -1
def keyF (held : List Int) (i : Ins) : Ky :=
  let a := lg held i.a.toNat
  let b := if isTwo i.op then lg held i.b.toNat else -1
  if i.op = 3 ∧ b < a then ⟨i.op, b, a, i.c⟩ else ⟨i.op, a, b, i.c⟩
/-- The value that an instruction reckons. -/
def valF (t : Tb) (i : Ins) : Int := if i.op = 1 then lg t.held i.a.toNat else (t.known (keyF t.held i)).getD t.next
/-- The table behind it, but for what the register holds. -/
def reckF (t : Tb) (i : Ins) : Tb :=
  if i.op = 1 then t else if (t.known (keyF t.held i)).isSome then t else { t with known := fun k => if k = keyF t.held i then some t.next else t.known k, next := t.next + 1 }
def askedF (held : List Int) (i : Ins) : Ins := { i with a := holderF held (lg held i.a.toNat), b := if isTwo i.op then holderF held (lg held i.b.toNat) else i.b }
/-- What is laid out for an instruction. -/
def emitF (t : Tb) (i : Ins) : List Ins :=
  let v := valF t i
  if lg t.held i.dst.toNat = v then [] else if 0 ≤ holderF t.held v then [⟨1, i.dst, holderF t.held v, 0, 0⟩] else [askedF t.held i]
def nextF (t : Tb) (i : Ins) : Tb := { reckF t i with held := if lg t.held i.dst.toNat = valF t i then t.held else t.held.set i.dst.toNat (valF t i) }
def passF : Tb → List Ins → List Ins × Tb
  | t, [] => ([], t)
  | t, i :: l => ((emitF t i) ++ (passF (nextF t i) l).1, (passF (nextF t i) l).2)
def tb0 (ins regs : Int) : Tb := ⟨(List.range regs.toNat).map fun (r : Nat) => min (r : Int) ins, fun _ => none, ins + 1⟩
def shareF (p : Pg) : Pg := ⟨p.ins, p.regs, (passF (tb0 p.ins p.regs) p.code).1, p.outs.map fun r => holderF (passF (tb0 p.ins p.regs) p.code).2.held (lg (passF (tb0 p.ins p.regs) p.code).2.held r.toNat)⟩

theorem holder_at (held : List Int) (v : Int) (r : Nat) (hr : r < held.length) (h : lg held r = v) : ∃ k : Nat, k < held.length ∧ holderF held v = k ∧ lg held k = v := by
  have hm : v ∈ held := by
    subst h
    unfold lg
    rw [List.getD_eq_getElem?_getD, List.getElem?_eq_getElem hr]
    exact List.getElem_mem hr
  have hi := List.idxOf_lt_length_iff.2 hm
  refine ⟨held.idxOf v, hi, by unfold holderF; rw [if_pos hi], ?_⟩
  unfold lg
  rw [List.getD_eq_getElem?_getD, List.getElem?_eq_getElem hi]
  exact List.getElem_idxOf hi
theorem holder_none (held : List Int) (v : Int) (h : ∀ r, r < held.length → lg held r ≠ v) : holderF held v = -1 := by
  unfold holderF
  rw [if_neg]
  intro hi
  have := List.getElem_idxOf hi
  refine h _ hi ?_
  unfold lg
  rw [List.getD_eq_getElem?_getD, List.getElem?_eq_getElem hi]
  exact this

/-- The registers hold what the table says, the values being s. -/
structure Inv (n : Nat) (t : Tb) (r : List Int) (s : Int → Int) : Prop where
  hl : t.held.length = n
  rl : r.length = n
  held : ∀ j, j < n → 0 ≤ lg t.held j ∧ lg t.held j < t.next ∧ lg r j = s (lg t.held j)
  known : ∀ k v, t.known k = some v → (0 ≤ v ∧ v < t.next) ∧ k.a < t.next ∧ k.b < t.next ∧ s v = stepV k.op (s k.a) (s k.b) k.c ∧ stepOk k.op (s k.a) k.c = true

theorem stepV_one {op : Int} (h : isTwo op = false) (a b b' c : Int) : stepV op a b c = stepV op a b' c := by
  simp [isTwo] at h
  unfold stepV
  simp [h]
theorem lt_toNat {a : Int} {n : Nat} (h : InR a n) : a.toNat < n := by obtain ⟨h1, h2⟩ := h; omega

/-- What a key says of an instruction's value. -/
theorem key_step {n : Nat} {t : Tb} {r : List Int} {s : Int → Int} (h : Inv n t r s) {i : Ins} (hi : i.OK n) :
    let k := keyF t.held i
    k.op = i.op ∧ k.c = i.c ∧ k.a < t.next ∧ k.b < t.next ∧ stepV k.op (s k.a) (s k.b) k.c = stepV i.op (lg r i.a.toNat) (lg r i.b.toNat) i.c ∧ stepOk k.op (s k.a) k.c = stepOk i.op (lg r i.a.toNat) i.c := by
  obtain ⟨o1, o8, hd, ha, hb, hc⟩ := hi
  obtain ⟨a0, a1, a2⟩ := h.held _ (lt_toNat ha)
  obtain ⟨b0, b1, b2⟩ := h.held _ (lt_toNat hb)
  unfold keyF
  dsimp only
  cases ht : isTwo i.op
  · have h3 : ¬ i.op = 3 := by intro e; rw [e] at ht; simp [isTwo] at ht
    rw [if_neg (fun e => h3 e.1)]
    refine ⟨rfl, rfl, a1, by simp; omega, ?_, by rw [a2]⟩
    rw [a2]
    exact stepV_one ht _ _ _ _
  · simp only [if_true]
    by_cases hs : i.op = 3 ∧ lg t.held i.b.toNat < lg t.held i.a.toNat
    · rw [if_pos hs]
      refine ⟨rfl, rfl, b1, a1, ?_, ?_⟩
      · rw [hs.1]; simp [stepV, ← a2, ← b2]; omega
      · rw [hs.1]; simp [stepOk]
    · rw [if_neg hs]
      exact ⟨rfl, rfl, a1, b1, by rw [a2, b2], by rw [a2]⟩

theorem asked_same {n : Nat} {t : Tb} {r : List Int} {s : Int → Int} (h : Inv n t r s) {i : Ins} (hi : i.OK n) :
    (askedF t.held i).OK n ∧ stepV i.op (lg r (askedF t.held i).a.toNat) (lg r (askedF t.held i).b.toNat) i.c = stepV i.op (lg r i.a.toNat) (lg r i.b.toNat) i.c ∧ lg r (askedF t.held i).a.toNat = lg r i.a.toNat := by
  obtain ⟨o1, o8, hd, ha, hb, hc⟩ := hi
  obtain ⟨a0, a1, a2⟩ := h.held _ (lt_toNat ha)
  obtain ⟨b0, b1, b2⟩ := h.held _ (lt_toNat hb)
  obtain ⟨ka, la, ea, fa⟩ := holder_at t.held _ i.a.toNat (by rw [h.hl]; exact lt_toNat ha) rfl
  obtain ⟨kb, lb, eb, fb⟩ := holder_at t.held _ i.b.toNat (by rw [h.hl]; exact lt_toNat hb) rfl
  rw [h.hl] at la lb
  have qa : lg r ka = lg r i.a.toNat := by rw [(h.held _ la).2.2, fa, a2]
  have qb : lg r kb = lg r i.b.toNat := by rw [(h.held _ lb).2.2, fb, b2]
  unfold askedF
  dsimp only
  rw [ea, eb]
  cases ht : isTwo i.op
  · simp only [Bool.false_eq_true, if_false, Int.toNat_natCast]
    exact ⟨⟨o1, o8, hd, ⟨by simp, by simpa using la⟩, hb, hc⟩, by rw [qa], qa⟩
  · simp only [if_true, Int.toNat_natCast]
    exact ⟨⟨o1, o8, hd, ⟨by simp, by simpa using la⟩, ⟨by simp, by simpa using lb⟩, hc⟩, by rw [qa, qb], qa⟩

/-- Laid behind the value's own register: nothing turns. -/
theorem Inv.put {n : Nat} {t : Tb} {r : List Int} {s : Int → Int} (h : Inv n t r s) {d : Nat} (hd : d < n) {v : Int} (hv : 0 ≤ v ∧ v < t.next) : Inv n { t with held := t.held.set d v } (r.set d (s v)) s := by
  refine ⟨by simp [h.hl], by simp [h.rl], fun j hj => ?_, h.known⟩
  dsimp only
  rw [lg_set _ _ _ _ (by rw [h.hl]; exact hd), lg_set _ _ _ _ (by rw [h.rl]; exact hd)]
  split
  · exact ⟨hv.1, hv.2, rfl⟩
  · exact h.held j hj
theorem tb_eta (t : Tb) : { t with held := t.held } = t := rfl

/-- One instruction. -/
theorem emit_step {n : Nat} {t : Tb} {r : List Int} {s : Int → Int} (h : Inv n t r s) (hn : 0 ≤ t.next) {i : Ins} (hi : i.OK n) :
    (stepOk i.op (lg r i.a.toNat) i.c = false → runO (emitF t i) r = none) ∧
    (stepOk i.op (lg r i.a.toNat) i.c = true → ∃ s', runO (emitF t i) r = some (r.set i.dst.toNat (stepV i.op (lg r i.a.toNat) (lg r i.b.toNat) i.c)) ∧ Inv n (nextF t i) (r.set i.dst.toNat (stepV i.op (lg r i.a.toNat) (lg r i.b.toNat) i.c)) s' ∧ 0 ≤ (nextF t i).next) := by
  have hk := key_step h hi
  have hq := asked_same h hi
  obtain ⟨o1, o8, hd, ha, hb, hc⟩ := hi
  obtain ⟨a0, a1, a2⟩ := h.held _ (lt_toNat ha)
  obtain ⟨d0, d1, d2⟩ := h.held _ (lt_toNat hd)
  have hdn := lt_toNat hd
  -- where the value is there
  have there : ∀ v : Int, valF t i = v → 0 ≤ v → v < t.next → reckF t i = t → s v = stepV i.op (lg r i.a.toNat) (lg r i.b.toNat) i.c → stepOk i.op (lg r i.a.toNat) i.c = true →
      ∃ s', runO (emitF t i) r = some (r.set i.dst.toNat (stepV i.op (lg r i.a.toNat) (lg r i.b.toNat) i.c)) ∧ Inv n (nextF t i) (r.set i.dst.toNat (stepV i.op (lg r i.a.toNat) (lg r i.b.toNat) i.c)) s' ∧ 0 ≤ (nextF t i).next := by
    intro v hv v0 v1 hr hs ho
    refine ⟨s, ?_, ?_, ?_⟩
    · unfold emitF
      rw [hv]
      dsimp only
      by_cases e : lg t.held i.dst.toNat = v
      · rw [if_pos e, ← hs, ← e, ← d2, set_same]
        rfl
      · rw [if_neg e]
        by_cases e2 : 0 ≤ holderF t.held v
        · rw [if_pos e2]
          have : ∃ j, j < n ∧ lg t.held j = v := by
            apply Classical.byContradiction
            intro hno
            rw [holder_none t.held v (fun j hj => fun e => hno ⟨j, by rw [← h.hl]; exact hj, e⟩)] at e2
            omega
          obtain ⟨j, hj, ej⟩ := this
          obtain ⟨k, hkl, ek, fk⟩ := holder_at t.held v j (by rw [h.hl]; exact hj) ej
          rw [h.hl] at hkl
          rw [ek]
          simp only [runO, Int.toNat_natCast]
          rw [if_pos (by simp [stepOk])]
          have : stepV 1 (lg r k) (lg r (0 : Int).toNat) 0 = lg r k := by simp [stepV]
          rw [this, (h.held k hkl).2.2, fk, hs]
        · rw [if_neg e2]
          simp only [runO]
          have e3 : (askedF t.held i).op = i.op ∧ (askedF t.held i).c = i.c ∧ (askedF t.held i).dst = i.dst := ⟨rfl, rfl, rfl⟩
          rw [e3.1, e3.2.1, e3.2.2, hq.2.1, hq.2.2, if_pos ho]
    · unfold nextF
      rw [hr, hv, ← hs]
      by_cases e : lg t.held i.dst.toNat = v
      · rw [if_pos e, ← e, ← d2, set_same]
        exact h
      · rw [if_neg e]
        exact h.put hdn ⟨v0, v1⟩
    · unfold nextF
      rw [hr]
      exact hn
  by_cases h1 : i.op = 1
  · have hv : valF t i = lg t.held i.a.toNat := by unfold valF; rw [if_pos h1]
    have hr : reckF t i = t := by unfold reckF; rw [if_pos h1]
    have ho : stepOk i.op (lg r i.a.toNat) i.c = true := by rw [h1]; simp [stepOk]
    refine ⟨fun e => by rw [ho] at e; (cases e), fun _ => ?_⟩
    exact there _ hv a0 a1 hr (by rw [h1, ← a2]; simp [stepV]) ho
  · cases hkn : t.known (keyF t.held i) with
    | some v =>
      have hv : valF t i = v := by unfold valF; rw [if_neg h1, hkn]; rfl
      have hr : reckF t i = t := by unfold reckF; rw [if_neg h1, hkn]; rfl
      obtain ⟨⟨v0, v1⟩, q1, q2, q3, q4⟩ := h.known _ _ hkn
      have ho : stepOk i.op (lg r i.a.toNat) i.c = true := by rw [← hk.2.2.2.2.2]; exact q4
      refine ⟨fun e => by rw [ho] at e; (cases e), fun _ => ?_⟩
      exact there _ hv v0 v1 hr (by rw [← hk.2.2.2.2.1]; exact q3) ho
    | none =>
      have hv : valF t i = t.next := by unfold valF; rw [if_neg h1, hkn]; rfl
      have hno : holderF t.held t.next = -1 := holder_none _ _ fun j hj => by
        rw [h.hl] at hj
        have := (h.held j hj).2.1
        omega
      have he : emitF t i = [askedF t.held i] := by
        unfold emitF
        rw [hv]
        dsimp only
        rw [if_neg (by omega), hno, if_neg (by omega)]
      have e3 : (askedF t.held i).op = i.op ∧ (askedF t.held i).c = i.c ∧ (askedF t.held i).dst = i.dst := ⟨rfl, rfl, rfl⟩
      constructor
      · intro ho
        rw [he]
        simp only [runO]
        rw [e3.1, e3.2.1, hq.2.2, ho]
        rfl
      · intro ho
        have hnx : nextF t i = { held := t.held.set i.dst.toNat t.next, known := fun k => if k = keyF t.held i then some t.next else t.known k, next := t.next + 1 } := by
          have hne : ¬ lg t.held i.dst.toNat = t.next := by omega
          unfold nextF reckF
          rw [hv, if_neg h1, hkn, if_neg hne]
          rfl
        refine ⟨fun v => if v = t.next then stepV i.op (lg r i.a.toNat) (lg r i.b.toNat) i.c else s v, ?_, ?_, ?_⟩
        · rw [he]
          simp only [runO]
          rw [e3.1, e3.2.1, e3.2.2, hq.2.1, hq.2.2, if_pos ho]
        · rw [hnx]
          refine ⟨by simp [h.hl], by simp [h.rl], fun j hj => ?_, fun k v hkv => ?_⟩
          · dsimp only
            rw [lg_set _ _ _ _ (by rw [h.hl]; exact hdn), lg_set _ _ _ _ (by rw [h.rl]; exact hdn)]
            split
            · exact ⟨hn, by omega, by rw [if_pos rfl]⟩
            · obtain ⟨x0, x1, x2⟩ := h.held j hj
              exact ⟨x0, by omega, by rw [if_neg (by omega)]; exact x2⟩
          · dsimp only at hkv ⊢
            by_cases ek : k = keyF t.held i
            · rw [if_pos ek] at hkv
              injection hkv with hkv
              subst hkv
              rw [ek]
              obtain ⟨k1, k2, k3, k4, k5, k6⟩ := hk
              refine ⟨⟨hn, by omega⟩, by omega, by omega, ?_, ?_⟩
              · rw [if_pos rfl, if_neg (by omega), if_neg (by omega), k5]
              · rw [if_neg (by omega), k6]; exact ho
            · rw [if_neg ek] at hkv
              obtain ⟨⟨x0, x1⟩, x2, x3, x4, x5⟩ := h.known k v hkv
              refine ⟨⟨x0, by omega⟩, by omega, by omega, ?_, ?_⟩
              · rw [if_neg (by omega), if_neg (by omega), if_neg (by omega)]; exact x4
              · rw [if_neg (by omega)]; exact x5
        · rw [hnx]
          dsimp only
          omega

theorem runO_append : ∀ (l m : List Ins) (r : List Int), runO (l ++ m) r = (runO l r).bind (runO m)
  | [], m, r => rfl
  | i :: l, m, r => by
    simp only [List.cons_append, runO]
    split
    · exact runO_append l m _
    · rfl
theorem pass_run : ∀ (l : List Ins) {n : Nat} {t : Tb} {r : List Int} {s : Int → Int}, Inv n t r s → 0 ≤ t.next → (∀ i ∈ l, i.OK n) →
    runO (passF t l).1 r = runO l r ∧ ∀ r', runO l r = some r' → ∃ s', Inv n (passF t l).2 r' s'
  | [], n, t, r, s, h, h0, _ => ⟨rfl, fun r' e => by simp [runO] at e; subst e; exact ⟨s, h⟩⟩
  | i :: l, n, t, r, s, h, h0, hok => by
    have hi := hok i (by simp)
    obtain ⟨e1, e2⟩ := emit_step h h0 hi
    unfold passF
    rw [runO_append]
    cases ho : stepOk i.op (lg r i.a.toNat) i.c
    · rw [e1 ho]
      unfold runO
      rw [ho]
      exact ⟨rfl, fun r' e => by simp at e⟩
    · obtain ⟨s', f1, f2, f3⟩ := e2 ho
      rw [f1]
      have := pass_run l f2 f3 (fun j hj => hok j (List.mem_cons_of_mem _ hj))
      have hu : runO (i :: l) r = runO l (r.set i.dst.toNat (stepV i.op (lg r i.a.toNat) (lg r i.b.toNat) i.c)) := by
        rw [runO, if_pos ho]
      rw [hu]
      exact this
end Go.Proofs.Ytnchlckncknaiaa
/- share: keys, maps keyed by them. -/
namespace Go.Proofs.Ytnchlckncknaiaa
open Go.RowKit Go.Maps

theorem laidOut : laidOutB Try.prog = true := by kernel_rfl
theorem rowK : (143 : TypeId) < Try.prog.types.size := of_decide_eq_true (by kernel_rfl)
theorem wideK : (match Try.prog.underlying 143 with | some (.array _ _) | some (.struct _) => true | _ => false) = true := by kernel_rfl
theorem deepK : Try.prog.keyTypeAt (Try.prog.types.size + 1) 143 = true := by kernel_rfl
theorem cellsK : Try.prog.cellsOf 143 = 4 := by kernel_rfl
theorem twoK : Try.prog.keyTypeAt 2 143 = true := by kernel_rfl
theorem lawK : WideMaps.KeyLaw Try.prog 143 := by
  have hl := laidOut
  have h2 := twoK
  have hr := rowK
  have hu := Try.underlying143
  generalize Try.prog = P at *
  refine deep_law_laid hl (m := 2) (by omega) hr h2 ?_
  rw [hu]
theorem keyedK : Keyed Try.prog 143 := Keyed.of_law lawK

def I64 (x : Int) : Prop := -9223372036854775808 ≤ x ∧ x ≤ 9223372036854775807
theorem I64.wf {x : Int} (h : I64 x) : (Lit.int .i64 x).wf = true := WalkArith.wf_i64 h
def Ky.val (k : Ky) : Value := .agg #[.int .i64 k.op, .int .i64 k.a, .int .i64 k.b, .int .i64 k.c]
def Ky.Wf (k : Ky) : Prop := I64 k.op ∧ I64 k.a ∧ I64 k.b ∧ I64 k.c

theorem formedK (k : Ky) : k.val.formed Try.prog 143 = true := by simp [Value.formed, Ky.val, Try.underlying143, cellsK]
theorem sizeT : ∃ m, Try.prog.types.size = m + 2 := ⟨Try.prog.types.size - 2, by have := rowK; have h : (2 : Nat) ≤ Try.prog.types.size := of_decide_eq_true (by kernel_rfl); omega⟩
theorem keyOf_some (k : Ky) (h : k.Wf) : ∃ l, keyOf Try.prog 143 k.val = some l := by
  obtain ⟨h1, h2, h3, h4⟩ := h
  have hkt : Try.prog.keyType 143 = true := deepK
  obtain ⟨m, hm⟩ := sizeT
  have hci : Try.prog.cellsOf 3 = 1 := by kernel_rfl
  unfold keyOf
  rw [Try.underlying143]
  simp only [hkt, formedK, Bool.and_self, if_true, hm]
  simp [Program.keyLits, Try.underlying143, Try.underlying3, cellsK, hci, Ky.val, Value.cells, h1.wf, h2.wf, h3.wf, h4.wf]

/-- A key as a map's datum. -/
noncomputable def kd (k : Ky) : Lit := @Classical.epsilon Lit ⟨.nil⟩ (fun l => keyOf Try.prog 143 k.val = some l)
theorem kd_key {k : Ky} (h : k.Wf) : keyOf Try.prog 143 k.val = some (kd k) := Classical.epsilon_spec (keyOf_some k h)
theorem Ky.val_inj {a b : Ky} (h : a.val = b.val) : a = b := by
  obtain ⟨a1, a2, a3, a4⟩ := a
  obtain ⟨b1, b2, b3, b4⟩ := b
  simp [Ky.val] at h
  simp [h]
theorem key_ne {P : Program} {k : TypeId} (K : Keyed P k) {a b : Ky} {la lb : Lit} (h1 : keyOf P k a.val = some la) (h2 : keyOf P k b.val = some lb) (h : a ≠ b) : la ≠ lb := by
  intro e
  subst e
  exact h (Ky.val_inj (K.inj h1 h2))
theorem kd_ne {a b : Ky} (ha : a.Wf) (hb : b.Wf) (h : a ≠ b) : kd a ≠ kd b := key_ne keyedK (kd_key ha) (kd_key hb) h
theorem key_lit {P : Program} {k : TypeId} (K : Keyed P k) {a : Ky} {la : Lit} (h1 : keyOf P k a.val = some la) : WideAt.IsKeyLit la := K.key h1
theorem lit_of {P : Program} {k : TypeId} (K : Keyed P k) {a : Ky} {la : Lit} (h1 : keyOf P k a.val = some la) : ∃ l, la = l ∧ WideAt.IsKeyLit l := ⟨la, rfl, K.key h1⟩
theorem kd_lit {k : Ky} (h : k.Wf) : WideAt.IsKeyLit (kd k) := by
  obtain ⟨l, e, hl⟩ := lit_of keyedK (kd_key h)
  rw [e]; exact hl
/-- A map that the call owns. -/
abbrev MapB (w : World) (b n : Nat) (D : DataW Unit) : Prop := w.ownsMap Try.prog 143 (plainElem Try.prog 3) b n D
/-- What a map holds. -/
def KnownIs (D : DataW Unit) (f : Ky → Option Int) : Prop := ∀ k : Ky, k.Wf → Maps.has D (kd k) = (f k).isSome ∧ ∀ v, f k = some v → D.atKey (kd k) (.lit (.int .i64 0)) = .lit (.int .i64 v)
theorem KnownIs.nil : KnownIs (.map []) (fun _ => none) := fun k _ => ⟨rfl, by simp⟩
theorem KnownIs.put {D : DataW Unit} {f : Ky → Option Int} (h : KnownIs D f) (hD : IsMap D) {k0 : Ky} (h0 : k0.Wf) (v : Int) : KnownIs (D.put (kd k0) (.lit (.int .i64 v))) (fun k => if k = k0 then some v else f k) := by
  intro k hk
  have hkl := kd_lit h0
  by_cases e : k = k0
  · subst e
    refine ⟨by rw [has_put_same hD hkl]; simp, fun v' hv' => ?_⟩
    simp at hv'
    rw [atKey_put_same hD hkl, hv']
  · have hne := kd_ne hk h0 e
    obtain ⟨h1, h2⟩ := h k hk
    refine ⟨by rw [has_put_other hne, h1]; simp [e], fun v' hv' => ?_⟩
    simp only [e, if_false] at hv'
    rw [atKey_put_other hne]
    exact h2 v' hv'

def intsV (l : List Int) : List Value := l.map (.int .i64)
theorem intsV_length (l : List Int) : (intsV l).length = l.length := by simp [intsV]
theorem intsV_get (l : List Int) {j : Nat} (h : j < l.length) : (intsV l)[j]? = some (.int .i64 (lg l j)) := by simp [intsV, lg, h]
/-- The table in memory. -/
def TabB (w : World) (base t : Nat) (T : Tb) : Prop :=
  ∃ hA hcap mk mf Dk Df, Blk w t 88 #[.slice hA T.held.length hcap, .map (some mk), .map (some mf), .int .i64 T.next] ∧ RowZ w base 3 (.int .i64 0) (.slice hA T.held.length hcap) T.held.length (intsV T.held) ∧
    MapB w mk T.next.toNat Dk ∧ MapB w mf T.next.toNat Df ∧ mk ≠ mf ∧ base ≤ t ∧ base ≤ mk ∧ base ≤ mf ∧ KnownIs Dk T.known
theorem mapB_kept {w w' : World} {b n : Nat} {D : DataW Unit} (h : MapB w b n D) (hk : w'.heap[b]? = w.heap[b]?) : MapB w' b n D := by
  obtain ⟨es, clock, h1, h2⟩ := h
  exact ⟨es, clock, hk.trans h1, h2⟩
theorem TabB.below {w w' : World} {base t : Nat} {T : Tb} (h : TabB w base t T) (hb : Below w.heap.size w w') : TabB w' base t T := by
  obtain ⟨hA, hcap, mk, mf, Dk, Df, h1, h2, h3, h4, h5⟩ := h
  exact ⟨hA, hcap, mk, mf, Dk, Df, Blk.below h1 hb h1.lt, h2.below hb, mapB_kept h3 (hb.block _ h3.lt), mapB_kept h4 (hb.block _ h4.lt), h5⟩
/-- The row of what registers hold. -/
theorem RowZ.ints {w : World} {base n : Nat} {A : Option Addr} {cap : Nat} {l : List Int} (h : RowZ w base 3 (.int .i64 0) (.slice A n cap) n (intsV l)) (hn : 0 < n) :
    ∃ g sp, A = some ⟨g, 0, none⟩ ∧ base ≤ g ∧ Blk w g 3 (intsV l ++ sp).toArray ∧ l.length = n ∧ ∀ j, j < n → w.cell? ⟨g, j, none⟩ = some (.int .i64 (lg l j)) := by
  obtain ⟨hl, h⟩ := h
  rw [intsV_length] at hl
  have hl' : l.length = n := by rw [hl]; simp [Value.cells]
  rcases h with ⟨_, h0⟩ | ⟨g, cap', sp, e, hb, hB, hr⟩
  · omega
  · injection e with e1 e2 e3
    refine ⟨g, sp, e1, hb, hB, hl', fun j hj => ?_⟩
    rw [Blk.cell hB, List.getElem?_toArray, List.getElem?_append_left (by rw [intsV_length]; omega)]
    exact intsV_get l (by omega)
theorem tab4 {w : World} {g : Nat} {a b c d : Value} (h : Blk w g 88 #[a, b, c, d]) :
    w.cell? ⟨g, 0, none⟩ = some a ∧ w.cell? ⟨g, 1, none⟩ = some b ∧ w.cell? ⟨g, 2, none⟩ = some c ∧ w.cell? ⟨g, 3, none⟩ = some d :=
  ⟨Blk.cell h 0, Blk.cell h 1, Blk.cell h 2, Blk.cell h 3⟩

theorem holder_hit {held : List Int} {v : Int} {k : Nat} (hk : k < held.length) (h : lg held k = v) (hn : ∀ j, j < k → lg held j ≠ v) : holderF held v = k := by
  obtain ⟨i, hi, e, f⟩ := holder_at held v k hk h
  rw [e]
  have h1 : ¬ i < k := fun h' => hn i h' f
  have h2 : ¬ k < i := by
    intro h'
    have hx : held.idxOf v = i := by
      unfold holderF at e
      split at e
      · omega
      · omega
    have := List.not_of_lt_findIdx (p := (· == v)) (xs := held) (i := k) (by show k < held.idxOf v; omega)
    unfold lg at h
    rw [List.getD_eq_getElem?_getD, List.getElem?_eq_getElem hk] at h
    simp at this h
    exact this h
  have : i = k := by omega
  rw [this]

set_option maxHeartbeats 1000000 in
theorem holder_calls {w : World} {base t : Nat} {T : Tb} {v : Int} (h : TabB w base t T) (hl : T.held.length ≤ 1000) (h0 : 0 < T.held.length) :
    Calls Try.prog 46 #[.pointer (some ⟨t, 0, none⟩), .int .i64 v] w fun e w' => e = .returned (.int .i64 (holderF T.held v)) ∧ w = w' := by
  obtain ⟨hA, hcap, mk, mf, Dk, Df, h1, h2, _⟩ := h
  obtain ⟨held, known, next⟩ := T
  dsimp only at *
  obtain ⟨g, sp, rfl, hbg, hB, _, hc⟩ := h2.ints h0
  have HC := hide hc
  obtain ⟨t0, t1, t2, t3⟩ := tab4 h1
  clear h1 h2 hB hc
  go_enter Try.func46, Try.ntmps46
  go_wp2_with fail
  go_step3
  go_wp2_with fail
  go_step3
  go_wp2_with fail
  go_loop [12] (fun i => ∃ k : Nat, k ≤ held.length ∧ i = .int .i64 k ∧ Hid (∀ j, j < k → lg held j ≠ v)) (fun i => held.length - (intOf i).toNat)
  case atStart => exact ⟨0, by omega, rfl, fun j hj => by omega⟩
  case round =>
    obtain ⟨k, hk, rfl, HA⟩ := hrel
    rcases Nat.lt_or_ge k held.length with hlt | hge
    · have e0 := HC.out k hlt
      obtain ⟨r, hr⟩ := named (lg held k)
      rw [hr.out] at e0
      have hdec : decide (k < held.length) = true := by simpa using hlt
      by_cases hv : r = v
      · have hne : (r != v) = false := by simpa using hv
        have HV := hide hv
        clear hv
        go_wp2
        go_ret
        refine ⟨ret_int ?_, rfl⟩
        exact (holder_hit hlt (by rw [hr.out, HV.out]) HA.out).symm
      · have hne : (r != v) = true := by simpa using hv
        have HV := hide hv
        clear hv
        go_wp2
        refine ⟨⟨k + 1, by omega, by go_num, ?_⟩, by simp [intOf]; omega⟩
        intro j hj
        rcases Nat.lt_or_ge j k with h1 | h1
        · exact HA.out j h1
        · obtain rfl : j = k := by omega
          rw [hr.out]; exact HV.out
    · have hdec : decide (k < held.length) = false := by simpa using hge
      go_wp2
      go_ret
      refine ⟨ret_int ?_, rfl⟩
      exact (holder_none held v fun j hj => HA.out j (by omega)).symm
end Go.Proofs.Ytnchlckncknaiaa
/- share: the table grows, is written; newTable. -/
namespace Go.Proofs.Ytnchlckncknaiaa
open Go.RowKit Go.Maps

/-- Blocks of different kinds are different blocks. -/
theorem blk_ne {w : World} {a b : Nat} {s t : TypeId} {x y : Array Value} (ha : Blk w a s x) (hb : Blk w b t y) (h : s ≠ t) : a ≠ b := by
  rintro rfl
  unfold Blk at ha hb
  rw [ha] at hb
  injection hb with hb
  injection hb with h1 h2 h3
  exact h h2
theorem map_ne {w : World} {a b n : Nat} {s : TypeId} {x : Array Value} {D : DataW Unit} (ha : Blk w a s x) (hb : MapB w b n D) : b ≠ a := by
  rintro rfl
  obtain ⟨es, clock, h1, _⟩ := hb
  unfold Blk at ha
  rw [ha] at h1
  injection h1 with h1
  cases h1
theorem RowZ.ne {w : World} {base n : Nat} {e t : TypeId} {z v : Value} {xs : List Value} {a : Nat} {x : Array Value} (h : RowZ w base e z v n xs) (ha : Blk w a t x) (hne : e ≠ t) : ∀ g, v.ownBlock = some g → g ≠ a := by
  obtain ⟨hl, h⟩ := h
  intro g hg
  rcases h with ⟨rfl, _⟩ | ⟨g', cap, sp, rfl, hb, hB, hr⟩
  · cases hg
  · injection hg with hg
    subst hg
    exact blk_ne hB ha hne
theorem RowZ.neM {w : World} {base n m : Nat} {e : TypeId} {z v : Value} {xs : List Value} {a : Nat} {D : DataW Unit} (h : RowZ w base e z v n xs) (ha : MapB w a m D) : ∀ g, v.ownBlock = some g → g ≠ a := by
  obtain ⟨hl, h⟩ := h
  intro g hg
  rcases h with ⟨rfl, _⟩ | ⟨g', cap, sp, rfl, hb, hB, hr⟩
  · cases hg
  · injection hg with hg
    subst hg
    exact (map_ne hB ha).symm
theorem Blk.grownRow {w w' : World} {base n a : Nat} {e t : TypeId} {z v : Value} {xs : List Value} {x : Array Value} (ha : Blk w a t x) (h : RowZ w base e z v n xs) (hne : e ≠ t) (hg : w.grownBy w' v.ownBlock) : Blk w' a t x :=
  (hg.block a ha.lt fun e2 => (h.ne ha hne a e2.symm) rfl).trans ha
theorem heap_set_other (w : World) (p : Addr) (u : Value) {g : Nat} (h : g ≠ p.block) : (w.setCell p u).heap[g]? = w.heap[g]? := Below.heap_setCell w p u g h

/-- A value more in the table's row. -/
theorem TabB.snoc {w w' : World} {base t g cap mk mf : Nat} {hA : Option Addr} {hcap : Nat} {T : Tb} {Dk Df : DataW Unit} {x : Int}
    (h1 : Blk w t 88 #[.slice hA T.held.length hcap, .map (some mk), .map (some mf), .int .i64 T.next]) (h2 : RowZ w base 3 (.int .i64 0) (.slice hA T.held.length hcap) T.held.length (intsV T.held))
    (h3 : MapB w mk T.next.toNat Dk) (h4 : MapB w mf T.next.toNat Df) (hr : mk ≠ mf ∧ base ≤ t ∧ base ≤ mk ∧ base ≤ mf ∧ KnownIs Dk T.known)
    (hn : RowZ w' base 3 (.int .i64 0) (.slice (some ⟨g, 0, none⟩) (T.held.length + 1) cap) (T.held.length + 1) (intsV T.held ++ [.int .i64 x])) (hg : w.grownBy w' (Value.slice hA T.held.length hcap).ownBlock) :
    TabB (w'.setCell ⟨t, 0, none⟩ (.slice (some ⟨g, 0, none⟩) (T.held.length + 1) cap)) base t { T with held := T.held ++ [x] } := by
  have k1 : w'.heap[t]? = w.heap[t]? := hg.block t h1.lt fun e => (h2.ne h1 (by decide) t e.symm) rfl
  have k3 : w'.heap[mk]? = w.heap[mk]? := hg.block mk h3.lt fun e => (h2.neM h3 mk e.symm) rfl
  have k4 : w'.heap[mf]? = w.heap[mf]? := hg.block mf h4.lt fun e => (h2.neM h4 mf e.symm) rfl
  have j1 : Blk w' t 88 _ := k1.trans h1
  have j3 := mapB_kept h3 k3
  have j4 := mapB_kept h4 k4
  have hgt := hn.ne j1 (by decide) g rfl
  refine ⟨some ⟨g, 0, none⟩, cap, mk, mf, Dk, Df, ?_, ?_, ?_, ?_, hr⟩
  · have := j1.set 0 (.slice (some ⟨g, 0, none⟩) (T.held.length + 1) cap)
    simpa using this
  · have := hn.kept (w' := w'.setCell ⟨t, 0, none⟩ (.slice (some ⟨g, 0, none⟩) (T.held.length + 1) cap)) fun g' e => by
      injection e with e
      subst e
      exact heap_set_other _ _ _ hgt
    simpa [intsV] using this
  · exact mapB_kept j3 (heap_set_other _ _ _ (map_ne j1 j3))
  · exact mapB_kept j4 (heap_set_other _ _ _ (map_ne j1 j4))

/-- A register's value is written. -/
theorem TabB.put {w : World} {base t : Nat} {T : Tb} (h : TabB w base t T) {i : Nat} (hi : i < T.held.length) :
    ∃ g cap mk mf, w.cell? ⟨t, 0, none⟩ = some (.slice (some ⟨g, 0, none⟩) T.held.length cap) ∧ w.cell? ⟨t, 1, none⟩ = some (.map (some mk)) ∧ w.cell? ⟨t, 2, none⟩ = some (.map (some mf)) ∧ w.cell? ⟨t, 3, none⟩ = some (.int .i64 T.next) ∧ g ≠ t ∧ base ≤ g ∧ base ≤ t ∧ t < w.heap.size ∧ g < w.heap.size ∧
      w.cell? ⟨g, i, none⟩ = some (.int .i64 (lg T.held i)) ∧ w.frozen? ⟨g, i, none⟩ = false ∧ (∃ x, Blk w g 3 x) ∧ ∀ v, TabB (w.setCell ⟨g, i, none⟩ (.int .i64 v)) base t { T with held := T.held.set i v } := by
  obtain ⟨hA, hcap, mk, mf, Dk, Df, h1, h2, h3, h4, h5⟩ := h
  obtain ⟨g, sp, rfl, hbg, hB, _, hc⟩ := h2.ints (by omega)
  obtain ⟨t0, t1, t2, t3⟩ := tab4 h1
  have hgt := blk_ne hB h1 (by decide)
  refine ⟨g, hcap, mk, mf, t0, t1, t2, t3, hgt, hbg, h5.2.1, h1.lt, hB.lt, hc i hi, hB.frozen i, ⟨_, hB⟩, fun v => ?_⟩
  obtain ⟨hl, h2'⟩ := h2
  rcases h2' with ⟨e, _⟩ | ⟨g', cap', sp', e, hb, hB', hcl, hm, hs, hz⟩
  · cases e
  · injection e with e1 e2 e3
    injection e1 with e1
    injection e1 with e1 _ _
    subst e1 e3
    have hset : ((intsV T.held ++ sp').toArray.setIfInBounds i (.int .i64 v)) = (intsV (T.held.set i v) ++ sp').toArray := by
      apply Array.toList_inj.1
      rw [Array.toList_setIfInBounds]
      simp only [List.set_append, intsV_length, hi, if_true]
      rw [intsV, intsV, List.map_set]
    refine ⟨some ⟨g, 0, none⟩, hcap, mk, mf, Dk, Df, ?_, ⟨?_, .inr ⟨g, hcap, sp', ?_, hb, ?_, ?_, hm, ?_, hz⟩⟩, ?_, ?_, h5⟩
    · simp only [List.length_set]
      exact h1.far (fun e => hgt e.symm) _
    · simpa [intsV] using hl
    · simp only [List.length_set]
    · have := hB'.set i (.int .i64 v)
      rw [hset] at this
      exact this
    · simpa using hcl
    · simpa [intsV] using hs
    · exact mapB_kept h3 (heap_set_other _ _ _ (map_ne hB' h3))
    · exact mapB_kept h4 (heap_set_other _ _ _ (map_ne hB' h4))
end Go.Proofs.Ytnchlckncknaiaa
/- share.newTable. -/
namespace Go.Proofs.Ytnchlckncknaiaa
open Go.RowKit Go.Maps

/-- The table's first values. -/
def held0 (k : Nat) (ins : Int) : List Int := (List.range k).map fun (r : Nat) => min (r : Int) ins
theorem held0_length (k : Nat) (ins : Int) : (held0 k ins).length = k := by simp [held0]
theorem held0_succ (k : Nat) (ins : Int) : held0 (k + 1) ins = held0 k ins ++ [min (k : Int) ins] := by simp [held0, List.range_succ]

/-- The table, empty. -/
theorem tab_made (w : World) (o : Obj) (ins : Int) :
    let W := (((w.alloc o).alloc (.map #[] 0)).alloc (.map #[] 0)).alloc (.cells #[.slice none 0 0, .map (some (w.heap.size + 1)), .map (some (w.heap.size + 1 + 1)), .int .i64 (ins + 1)] 88)
    TabB W w.heap.size (w.heap.size + 1 + 1 + 1) ⟨held0 0 ins, fun _ => none, ins + 1⟩ ∧ Below w.heap.size w W := by
  have h1 := World.ownsMap_made (H := Unit) (w.alloc o) Try.prog 143 (plainElem Try.prog 3)
  have h2 := World.ownsMap_made (H := Unit) ((w.alloc o).alloc (.map #[] 0)) Try.prog 143 (plainElem Try.prog 3)
  have h3 := Blk.new (((w.alloc o).alloc (.map #[] 0)).alloc (.map #[] 0)) 88 #[.slice none 0 0, .map (some (w.heap.size + 1)), .map (some (w.heap.size + 1 + 1)), .int .i64 (ins + 1)]
  rw [World.size_alloc] at h1
  rw [World.size_alloc, World.size_alloc] at h2
  rw [World.size_alloc, World.size_alloc, World.size_alloc] at h3
  refine ⟨⟨none, 0, w.heap.size + 1, w.heap.size + 1 + 1, _, _, h3, RowZ.nil _ _ _ _, ((h1.alloc _).alloc _).mono (Nat.zero_le _), (h2.alloc _).mono (Nat.zero_le _), by omega, by omega, by omega, by omega, KnownIs.nil⟩, ?_⟩
  exact ((((Below.refl _ _).alloc (Nat.le_refl _) _).alloc (by simp) _).alloc (by simp; omega) _).alloc (by simp; omega) _

set_option maxHeartbeats 4000000 in
theorem newtable_calls {w : World} {v : Value} {p : Pg} (h : PgB w v p) (hh : p.Head) : Calls Try.prog 43 #[v] w fun e w' =>
    (∃ t, e = .returned (.pointer (some ⟨t, 0, none⟩)) ∧ TabB w' w.heap.size t (tb0 p.ins p.regs)) ∧ Below w.heap.size w w' := by
  obtain ⟨A, c, B, d, rfl, _, _, hI, hZ⟩ := h
  obtain ⟨ins, regs, code, outs⟩ := p
  obtain ⟨h1, h2, h3, _⟩ := hh
  dsimp only at hI hZ h1 h2 h3 ⊢
  obtain ⟨n, rfl⟩ : ∃ n : Nat, regs = (n : Int) := ⟨regs.toNat, by omega⟩
  clear hI hZ
  have hmm := @run_makeMap Try.prog
  unfold progV
  obtain ⟨ht0, hb0⟩ := tab_made w (.cells #[.int .i64 ins, .int .i64 (n : Int), .slice A code.length c, .slice B outs.length d] 25) ins
  have x0 := (((Blk.new w 25 #[.int .i64 ins, .int .i64 (n : Int), .slice A code.length c, .slice B outs.length d]).alloc (.map #[] 0)).alloc (.map #[] 0)).alloc (.cells #[.slice none 0 0, .map (some (w.heap.size + 1)), .map (some (w.heap.size + 1 + 1)), .int .i64 (ins + 1)] 88)
  go_enter Try.func43, Try.ntmps43
  go_wp2_with fail
  generalize hW : (((w.alloc _).alloc _).alloc _).alloc _ = W at *
  clear hW hmm
  have htl : w.heap.size < w.heap.size + 1 + 1 + 1 := by omega
  generalize w.heap.size + 1 + 1 + 1 = t at *
  go_loopw [14] (fun i wr => ∃ k : Nat, k ≤ n ∧ i = .int .i64 k ∧ TabB wr w.heap.size t ⟨held0 k ins, fun _ => none, ins + 1⟩ ∧ Below w.heap.size w wr ∧ Blk wr w.heap.size 25 #[.int .i64 ins, .int .i64 (n : Int), .slice A code.length c, .slice B outs.length d]) (fun i _ => n - (intOf i).toNat)
  case atStart => exact ⟨0, by omega, rfl, ht0, hb0, x0⟩
  case round =>
    obtain ⟨k, hk, rfl, ht, bw, y0⟩ := hrel
    rcases Nat.lt_or_ge k n with hlt | hge
    · have hdec : decide (k < n) = true := by simpa using hlt
      obtain ⟨hA, hcap, mk, mf, Dk, Df, k1, k2, k3, k4, k5⟩ := ht
      dsimp only at k1 k2 k3 k4 k5
      obtain ⟨t0, t1, t2, t3⟩ := tab4 k1
      obtain ⟨p0, p1, p2, p3⟩ := pg4 y0
      have hkl := held0_length k ins
      rw [hkl] at k1 k2 t0
      have HK := hide hkl
      have hlt0 := k1.lt
      clear hkl
      have ba := (Below.refl wr.heap.size wr).alloc (Nat.le_refl _) (.cells #[.int .i64 (min (k : Int) ins)] 3)
      have x2 := Blk.new wr 3 #[.int .i64 (min (k : Int) ins)]
      have r2 := k2.below ba
      have j1 := k1.alloc (.cells #[.int .i64 (min (k : Int) ins)] 3)
      have j3 := mapB_kept k3 (ba.block _ k3.lt)
      have j4 := mapB_kept k4 (ba.block _ k4.lt)
      go_wp2_with fail
      have hnew : ∀ u ∈ [Value.int .i64 (min (k : Int) ins)], u.oneCell' = true := by intro u hu; simp at hu; subst hu; rfl
      have HN := hide hnew
      have hnb : ∃ t' fr, (wr.alloc (.cells #[.int .i64 (min (k : Int) ins)] 3)).drew.heap[wr.heap.size]? = some (.cells [Value.int .i64 (min (k : Int) ins)].toArray t' fr) := ⟨_, _, x2⟩
      have HB := hide hnb
      have r2d : RowZ (wr.alloc (.cells #[.int .i64 (min (k : Int) ins)] 3)).drew w.heap.size 3 (.int .i64 0) (.slice hA k hcap) k (intsV (held0 k ins)) := r2
      have hsz : w.heap.size ≤ (wr.alloc (.cells #[.int .i64 (min (k : Int) ins)] 3)).drew.heap.size := by
        have := bw.size
        simp; omega
      have HZ := hide hsz
      clear hnew hnb hsz
      have j1d : Blk (wr.alloc (.cells #[.int .i64 (min (k : Int) ins)] 3)).drew _ _ _ := j1
      have j3d : MapB (wr.alloc (.cells #[.int .i64 (min (k : Int) ins)] 3)).drew _ _ _ := j3
      have j4d : MapB (wr.alloc (.cells #[.int .i64 (min (k : Int) ins)] 3)).drew _ _ _ := j4
      have y0d : Blk (wr.alloc (.cells #[.int .i64 (min (k : Int) ins)] 3)).drew _ _ _ := y0.alloc _
      have bad : Below w.heap.size w (wr.alloc (.cells #[.int .i64 (min (k : Int) ins)] 3)).drew := (below_to bw ba).drew
      have K5 := hide k5
      clear k5
      go_region_law ((refine step_append_e rfl (.tmp 21) (.tmp 26) rfl elZ w.heap.size (.slice hA k hcap) k (intsV (held0 k ins)) (by simp [Act.eval]) r2d wr.heap.size 1 [.int .i64 (min (k : Int) ins)] (by simp [Act.eval]) rfl HB.out HN.out (by omega) (by omega) HZ.out ?_; intro g cap w3 hr3 hg3 _; have b3 := Blk.grownRow j1d r2d (by decide) hg3; obtain ⟨c0, c1, c2, c3⟩ := tab4 b3; have f0 := b3.frozen 0))
      all_goals go_wp2
      all_goals
        go_roundw
        case rel =>
          have hb3 := below_of_row r2d hg3 bad.size
          have y3 := Blk.grownRow y0d r2d (by decide) hg3
          refine ⟨k + 1, by omega, by go_num, ?_, (bad.trans hb3).setCell (by simp; omega) _, y3.far (by simp; omega) _⟩
          have hs := TabB.snoc (T := ⟨held0 k ins, fun _ => none, ins + 1⟩) (by rw [HK.out]; exact j1d) (by rw [HK.out]; exact r2d) j3d j4d K5.out (by rw [HK.out]; exact hr3) (by rw [HK.out]; exact hg3)
          rw [HK.out] at hs
          rw [held0_succ]
          exact hs
        case measure => simp [intOf]; omega
    · obtain rfl : k = n := by omega
      have hdec : decide (k < k) = false := by simp
      go_wp2
      go_ret
      refine ⟨⟨t, rfl, ?_⟩, bw⟩
      unfold tb0
      rw [Int.toNat_natCast]
      exact ht
end Go.Proofs.Ytnchlckncknaiaa
/- share: keyed. -/
namespace Go.Proofs.Ytnchlckncknaiaa
open Go.RowKit Go.Maps

/-- The row of what registers hold, opened. -/
theorem TabB.row {w : World} {base t : Nat} {T : Tb} (h : TabB w base t T) (h0 : 0 < T.held.length) :
    ∃ g cap, w.cell? ⟨t, 0, none⟩ = some (.slice (some ⟨g, 0, none⟩) T.held.length cap) ∧ t < w.heap.size ∧ g < w.heap.size ∧ ∀ j, j < T.held.length → w.cell? ⟨g, j, none⟩ = some (.int .i64 (lg T.held j)) := by
  obtain ⟨hA, hcap, mk, mf, Dk, Df, h1, h2, h3, h4, h5⟩ := h
  obtain ⟨g, sp, rfl, hbg, hB, _, hc⟩ := h2.ints h0
  exact ⟨g, hcap, (tab4 h1).1, h1.lt, hB.lt, hc⟩
theorem res_key {fn : Func} {p : Tmp} (h : fn.results = #[.cell p 143]) {tmps : Array Value} {w : World} {g : Nat} {a b c d : Value} (hp : tmps.getD p undef = .pointer (some ⟨g, 0, none⟩)) (hv : Blk w g 143 #[a, b, c, d]) :
    (results fn tmps).run Try.prog w = .ok (.agg #[a, b, c, d]) w := by
  have hp' : tmps[p]?.getD undef = .pointer (some ⟨g, 0, none⟩) := by simpa using hp
  have h0 := Blk.cell hv 0
  have h1 := Blk.cell hv 1
  have h2 := Blk.cell hv 2
  have h3 := Blk.cell hv 3
  simp at h0 h1 h2 h3
  simp [results, h, hp', go_sem, h0, h1, h2, h3]
theorem key4 {w : World} {g : Nat} {a b c d : Value} (h : Blk w g 143 #[a, b, c, d]) :
    w.cell? ⟨g, 0, none⟩ = some a ∧ w.cell? ⟨g, 1, none⟩ = some b ∧ w.cell? ⟨g, 2, none⟩ = some c ∧ w.cell? ⟨g, 3, none⟩ = some d :=
  ⟨Blk.cell h 0, Blk.cell h 1, Blk.cell h 2, Blk.cell h 3⟩
theorem keyed_new (w : World) (a b : Array Value) :
    let W := (w.alloc (.cells a 72)).alloc (.cells b 143)
    Blk W w.heap.size 72 a ∧ Blk W (w.heap.size + 1) 143 b ∧ Below w.heap.size w W := by
  have h1 := Blk.new w 72 a
  have h2 := Blk.new (w.alloc (.cells a 72)) 143 b
  rw [World.size_alloc] at h2
  exact ⟨h1.alloc _, h2, ((Below.refl _ _).alloc (Nat.le_refl _) _).alloc (by simp) _⟩
abbrev key0 : Array Value := #[.int .i64 0, .int .i64 0, .int .i64 0, .int .i64 0]

set_option maxHeartbeats 4000000 in
theorem keyed_calls {w : World} {base t : Nat} {T : Tb} {op dst c : Int} {i j : Nat} (h : TabB w base t T) (hi : i < T.held.length) (hj : isTwo op = true → j < T.held.length) (hl : T.held.length ≤ 1000) (h1 : 1 ≤ op) (h8 : op ≤ 8) :
    Calls Try.prog 90 #[.pointer (some ⟨t, 0, none⟩), .agg (insV op dst i j c)] w fun e w' => e = .returned (keyF T.held ⟨op, dst, i, j, c⟩).val ∧ Below w.heap.size w w' := by
  obtain ⟨x0, x1, b0⟩ := keyed_new w (insV op dst i j c) key0
  have h0 := h.below b0
  obtain ⟨g, cap, t0, htl, hgl, hc⟩ := h0.row (by omega)
  have a0 := hc i hi
  have HC := hide hc
  obtain ⟨va, hva⟩ := named (lg T.held i)
  rw [hva.out] at a0
  clear hc
  have i0 : (0 : Int) ≤ (i : Int) := by omega
  have i1 : (i : Int) < (T.held.length : Int) := by omega
  have HK := fun W : World => asks_calls (w := W) op dst i j c
  have HK2 := hide HK
  clear HK
  go_enter Try.func90, Try.ntmps90
  go_upto_region 1 with fail
  generalize hW : (w.alloc (.cells (insV op dst i j c) 72)).alloc (.cells key0 143) = W at *
  clear hW
  obtain ⟨e0, e1, e2, e3, e4⟩ := ins5 x0
  have n1 := World.new_ne W _ e0
  have n2 := World.new_ne W _ e2
  have n3 := World.new_ne W _ e4
  have n4 := World.new_ne W _ t0
  have n5 := World.new_ne W _ a0
  have n6 := World.new_ne W _ e3
  go_region_held3 (fun w' => w'.cell? ⟨w.heap.size, 0, none⟩ = some (.int .i64 op) ∧ w'.cell? ⟨w.heap.size, 2, none⟩ = some (.int .i64 (i : Int)) ∧ w'.cell? ⟨w.heap.size, 4, none⟩ = some (.int .i64 c) ∧ w'.cell? ⟨t, 0, none⟩ = some (.slice (some ⟨g, 0, none⟩) T.held.length cap) ∧ w'.cell? ⟨g, i, none⟩ = some (.int .i64 va))
    (go_keep) (fail)
  have y0 : Blk (W.alloc (.cells #[.int .i64 op, .int .i64 va, .int .i64 (-1), .int .i64 c] 143)).drew _ _ _ := x0.alloc _
  have y1 : Blk (W.alloc (.cells #[.int .i64 op, .int .i64 va, .int .i64 (-1), .int .i64 c] 143)).drew _ _ _ := x1.alloc _
  have y2 : Blk (W.alloc (.cells #[.int .i64 op, .int .i64 va, .int .i64 (-1), .int .i64 c] 143)).drew W.heap.size 143 #[.int .i64 op, .int .i64 va, .int .i64 (-1), .int .i64 c] := Blk.new _ _ _
  have bw := ((Below.refl W.heap.size W).alloc (Nat.le_refl _) (.cells #[.int .i64 op, .int .i64 va, .int .i64 (-1), .int .i64 c] 143)).drew
  have hT1 := h0.below bw
  have b1 := below_to b0 bw
  have hx1 : w.heap.size + 1 < W.heap.size := x1.lt
  clear x0 x1 b0 h0 t0 a0 e0 e1 e2 e3 e4 n1 n2 n3 n4 n5 n6 bw HC hgl htl
  generalize (W.alloc (.cells #[.int .i64 op, .int .i64 va, .int .i64 (-1), .int .i64 c] 143)).drew = W1 at *
  generalize W.heap.size = k5 at *
  clear W
  obtain ⟨e0, e1, e2, e3, e4⟩ := ins5 y0
  cases ht : isTwo op
  · have h3 : ¬ op = 3 := by rintro rfl; simp [isTwo] at ht
    have h4 : ¬ op = 4 := by rintro rfl; simp [isTwo] at ht
    have hL : asksF ⟨op, dst, i, j, c⟩ = [(i : Int)] := asksF_one _ _ _ _ _ (by omega)
    have hK : Hid (keyF T.held ⟨op, dst, i, j, c⟩ = ⟨op, va, -1, c⟩) := by
      unfold Hid keyF
      dsimp only
      rw [ht, if_neg (fun e => h3 e.1), Int.toNat_natCast, hva.out]
      rfl
    rw [hL] at HK2
    clear hL ht
    go_wp2_with fail
    refine (HK2.out _).mono ?_
    rintro e w3 ⟨⟨A, rfl, hZ⟩, hb3⟩
    clear hZ
    obtain ⟨f0, f1, f2, f3, f4⟩ := ins5 (Blk.below y0 hb3 y0.lt)
    have z1 := Blk.below y1 hb3 y1.lt
    have z2 := Blk.below y2 hb3 y2.lt
    obtain ⟨q0, q1, q2, q3⟩ := key4 z2
    obtain ⟨r0, r1, r2, r3⟩ := key4 z1
    have s0 := z1.frozen 0
    have s1 := z1.frozen 1
    have s2 := z1.frozen 2
    have s3 := z1.frozen 3
    go_wp2
    have zz := (((z1.set 0 (.int .i64 op)).set 1 (.int .i64 va)).set 2 (.int .i64 (-1))).set 3 (.int .i64 c)
    refine bodyPost_ret (res_key (fn := Try.f90) (p := 4) rfl rfl zz) rfl ⟨?_, ?_⟩
    · rw [hK.out]; rfl
    · exact ((below_to b1 hb3).setCell (p := ⟨w.heap.size + 1, 0, none⟩) (by simp) _ |>.setCell (p := ⟨w.heap.size + 1, 1, none⟩) (by simp) _ |>.setCell (p := ⟨w.heap.size + 1, 2, none⟩) (by simp) _ |>.setCell (p := ⟨w.heap.size + 1, 3, none⟩) (by simp) _)
  · have hjl := hj ht
    have hop : op = 3 ∨ op = 4 := by simpa [isTwo] using ht
    have hL : asksF ⟨op, dst, i, j, c⟩ = [(i : Int), (j : Int)] := asksF_two _ _ _ _ _ hop
    obtain ⟨vb, hvb⟩ := named (lg T.held j)
    have hK0 : Hid (keyF T.held ⟨op, dst, i, j, c⟩ = if op = 3 ∧ vb < va then ⟨op, vb, va, c⟩ else ⟨op, va, vb, c⟩) := by
      unfold Hid keyF
      dsimp only
      rw [ht]
      simp only [if_true, Int.toNat_natCast, hva.out, hvb.out]
    rw [hL] at HK2
    clear hL ht hj
    have j0 : (0 : Int) ≤ (j : Int) := by omega
    have j1 : (j : Int) < (T.held.length : Int) := by omega
    go_wp2_with fail
    refine (HK2.out _).mono ?_
    rintro e w3 ⟨⟨A, rfl, hZ⟩, hb3⟩
    clear hZ
    have hT3 := hT1.below hb3
    obtain ⟨g', cap', t0, htl, hgl, hc⟩ := hT3.row (by omega)
    have a0 := hc j hjl
    rw [hvb.out] at a0
    clear hc
    obtain ⟨f0, f1, f2, f3, f4⟩ := ins5 (Blk.below y0 hb3 y0.lt)
    have z0 := Blk.below y0 hb3 y0.lt
    have z1 := Blk.below y1 hb3 y1.lt
    have z2 := Blk.below y2 hb3 y2.lt
    have s2 := z2.frozen 2
    have q2 : _ = some (Value.int .i64 (-1)) := Blk.cell z2 2
    go_wp2_with fail
    have hwk : w.heap.size ≠ k5 := by omega
    have hT3' := hT3
    obtain ⟨hA, hcap, mk, mf, Dk, Df, d1, d2, _⟩ := hT3'
    have htk : t ≠ k5 := blk_ne d1 z2 (by decide)
    have hgk : g' ≠ k5 := by
      obtain ⟨dt, _⟩ := tab4 d1
      rw [t0] at dt
      injection dt with dt
      injection dt with e1 _ _
      exact d2.ne z2 (by decide) g' (by rw [← e1]; rfl)
    clear d1 d2
    have m3 : (w3.setCell ⟨k5, 2, none⟩ (.int .i64 vb)).drew.cell? ⟨w.heap.size, 3, none⟩ = some (.int .i64 (j : Int)) := (World.cell?_setCell_other w3 _ _ _ (by intro e; injection e with e; exact hwk e.symm)).trans f3
    have mt : (w3.setCell ⟨k5, 2, none⟩ (.int .i64 vb)).drew.cell? ⟨t, 0, none⟩ = some (.slice (some ⟨g', 0, none⟩) T.held.length cap') := (World.cell?_setCell_other w3 _ _ _ (by intro e; injection e with e; exact htk e.symm)).trans t0
    have ma : (w3.setCell ⟨k5, 2, none⟩ (.int .i64 vb)).drew.cell? ⟨g', j, none⟩ = some (.int .i64 vb) := (World.cell?_setCell_other w3 _ _ _ (by intro e; injection e with e; exact hgk e.symm)).trans a0
    go_region_held3 (fun w' => w'.cell? ⟨w.heap.size, 3, none⟩ = some (.int .i64 (j : Int)) ∧ w'.cell? ⟨t, 0, none⟩ = some (.slice (some ⟨g', 0, none⟩) T.held.length cap') ∧ w'.cell? ⟨g', j, none⟩ = some (.int .i64 vb))
      (first | exact ⟨f3, t0, a0⟩ | exact ⟨m3, mt, ma⟩) (fail)
    have hw1 : w.heap.size + 1 ≠ k5 := by omega
    have b3 := ((below_to b1 hb3).setCell (p := ⟨k5, 2, none⟩) (show w.heap.size ≤ k5 by omega) (.int .i64 vb)).drew
    have z0' : Blk (w3.setCell ⟨k5, 2, none⟩ (.int .i64 vb)).drew _ _ _ := z0.far (p := ⟨k5, 2, none⟩) hwk _
    have z1' : Blk (w3.setCell ⟨k5, 2, none⟩ (.int .i64 vb)).drew _ _ _ := z1.far (p := ⟨k5, 2, none⟩) hw1 _
    have z2' : Blk (w3.setCell ⟨k5, 2, none⟩ (.int .i64 vb)).drew k5 143 #[.int .i64 op, .int .i64 va, .int .i64 vb, .int .i64 c] := z2.set 2 (.int .i64 vb)
    clear m3 mt ma f0 f1 f2 f3 f4 t0 a0 q2 s2 hT3 hb3 z0 z1 z2 e0 e1 e2 e3 e4 y0 y1 y2 hT1 htl hgl
    generalize (w3.setCell ⟨k5, 2, none⟩ (.int .i64 vb)).drew = W3 at *
    obtain ⟨f0, f1, f2, f3, f4⟩ := ins5 z0'
    obtain ⟨q0, q1, q2, q3⟩ := key4 z2'
    have z1 := z1'
    have z2 := z2'
    clear z1' z2' z0'
    rcases hop with rfl | rfl
    · by_cases hlt : vb < va
      · have hK : Hid (keyF T.held ⟨3, dst, i, j, c⟩ = ⟨3, vb, va, c⟩) := by
          unfold Hid; rw [hK0.out, if_pos ⟨rfl, hlt⟩]
        clear q0 q1 q2 q3
        obtain ⟨r0, r1, r2, r3⟩ := key4 z1
        have u0 := z1.frozen 0
        have u1 := z1.frozen 1
        have u2 := z1.frozen 2
        have u3 := z1.frozen 3
        have v0 := z2.frozen 0
        have v1 := z2.frozen 1
        have v2 := z2.frozen 2
        have v3 := z2.frozen 3
        obtain ⟨q0, q1, q2, q3⟩ := key4 z2
        go_wp2
        have zz := ((((((z1.far (p := ⟨k5, 1, none⟩) hw1 (.int .i64 vb)).far (p := ⟨k5, 2, none⟩) hw1 (.int .i64 va)).set 0 (.int .i64 3)).set 1 (.int .i64 vb)).set 2 (.int .i64 va)).set 3 (.int .i64 c))
        refine bodyPost_ret (res_key (fn := Try.f90) (p := 4) rfl rfl zz) rfl ⟨?_, ?_⟩
        · rw [hK.out]; rfl
        · exact ((b3.setCell (p := ⟨k5, 1, none⟩) (show w.heap.size ≤ k5 by omega) _ |>.setCell (p := ⟨k5, 2, none⟩) (show w.heap.size ≤ k5 by omega) _) |>.setCell (p := ⟨w.heap.size + 1, 0, none⟩) (by simp) _ |>.setCell (p := ⟨w.heap.size + 1, 1, none⟩) (by simp) _ |>.setCell (p := ⟨w.heap.size + 1, 2, none⟩) (by simp) _ |>.setCell (p := ⟨w.heap.size + 1, 3, none⟩) (by simp) _)
      · have hK : Hid (keyF T.held ⟨3, dst, i, j, c⟩ = ⟨3, va, vb, c⟩) := by
          unfold Hid; rw [hK0.out, if_neg (fun e => hlt e.2)]
        have hlt' : decide (vb < va) = false := by simpa using hlt
        clear q0 q1 q2 q3
        obtain ⟨r0, r1, r2, r3⟩ := key4 z1
        have u0 := z1.frozen 0
        have u1 := z1.frozen 1
        have u2 := z1.frozen 2
        have u3 := z1.frozen 3
        have v0 := z2.frozen 0
        have v1 := z2.frozen 1
        have v2 := z2.frozen 2
        have v3 := z2.frozen 3
        obtain ⟨q0, q1, q2, q3⟩ := key4 z2
        go_wp2
        have zz := (((z1.set 0 (.int .i64 3)).set 1 (.int .i64 va)).set 2 (.int .i64 vb)).set 3 (.int .i64 c)
        refine bodyPost_ret (res_key (fn := Try.f90) (p := 4) rfl rfl zz) rfl ⟨?_, ?_⟩
        · rw [hK.out]; rfl
        · exact (b3.setCell (p := ⟨w.heap.size + 1, 0, none⟩) (by simp) _ |>.setCell (p := ⟨w.heap.size + 1, 1, none⟩) (by simp) _ |>.setCell (p := ⟨w.heap.size + 1, 2, none⟩) (by simp) _ |>.setCell (p := ⟨w.heap.size + 1, 3, none⟩) (by simp) _)
    · have hK : Hid (keyF T.held ⟨4, dst, i, j, c⟩ = ⟨4, va, vb, c⟩) := by
        unfold Hid; rw [hK0.out, if_neg (fun e => absurd e.1 (by decide))]
      clear q0 q1 q2 q3
      obtain ⟨r0, r1, r2, r3⟩ := key4 z1
      have u0 := z1.frozen 0
      have u1 := z1.frozen 1
      have u2 := z1.frozen 2
      have u3 := z1.frozen 3
      have v0 := z2.frozen 0
      have v1 := z2.frozen 1
      have v2 := z2.frozen 2
      have v3 := z2.frozen 3
      obtain ⟨q0, q1, q2, q3⟩ := key4 z2
      go_wp2
      have zz := (((z1.set 0 (.int .i64 4)).set 1 (.int .i64 va)).set 2 (.int .i64 vb)).set 3 (.int .i64 c)
      refine bodyPost_ret (res_key (fn := Try.f90) (p := 4) rfl rfl zz) rfl ⟨?_, ?_⟩
      · rw [hK.out]; rfl
      · exact (b3.setCell (p := ⟨w.heap.size + 1, 0, none⟩) (by simp) _ |>.setCell (p := ⟨w.heap.size + 1, 1, none⟩) (by simp) _ |>.setCell (p := ⟨w.heap.size + 1, 2, none⟩) (by simp) _ |>.setCell (p := ⟨w.heap.size + 1, 3, none⟩) (by simp) _)
end Go.Proofs.Ytnchlckncknaiaa
/- share: asked. -/
namespace Go.Proofs.Ytnchlckncknaiaa
open Go.RowKit Go.Maps

theorem res_ins {fn : Func} {p : Tmp} (h : fn.results = #[.cell p 72]) {tmps : Array Value} {w : World} {g : Nat} {a b c d e : Value} (hp : tmps.getD p undef = .pointer (some ⟨g, 0, none⟩)) (hv : Blk w g 72 #[a, b, c, d, e]) :
    (results fn tmps).run Try.prog w = .ok (.agg #[a, b, c, d, e]) w := by
  have hp' : tmps[p]?.getD undef = .pointer (some ⟨g, 0, none⟩) := by simpa using hp
  have h0 := Blk.cell hv 0
  have h1 := Blk.cell hv 1
  have h2 := Blk.cell hv 2
  have h3 := Blk.cell hv 3
  have h4 := Blk.cell hv 4
  simp at h0 h1 h2 h3 h4
  simp [results, h, hp', go_sem, h0, h1, h2, h3, h4]
abbrev ins0 : Array Value := #[.int .i64 0, .int .i64 0, .int .i64 0, .int .i64 0, .int .i64 0]
theorem asked_new (w : World) (a b : Array Value) :
    let W := (w.alloc (.cells a 72)).alloc (.cells b 72)
    Blk W w.heap.size 72 a ∧ Blk W (w.heap.size + 1) 72 b ∧ Below w.heap.size w W := by
  have h1 := Blk.new w 72 a
  have h2 := Blk.new (w.alloc (.cells a 72)) 72 b
  rw [World.size_alloc] at h2
  exact ⟨h1.alloc _, h2, ((Below.refl _ _).alloc (Nat.le_refl _) _).alloc (by simp) _⟩
/-- Nothing of the table lies in a new block. -/
theorem TabB.far {w w' : World} {base t : Nat} {T : Tb} (h : TabB w base t T) {p : Addr} {u : Value} {s : TypeId} {x : Array Value} (hp : Blk w p.block s x) (h1 : s ≠ 88) (h2 : s ≠ 3) (hw : w' = w.setCell p u) : TabB w' base t T := by
  subst hw
  obtain ⟨hA, hcap, mk, mf, Dk, Df, k1, k2, k3, k4, k5⟩ := h
  refine ⟨hA, hcap, mk, mf, Dk, Df, k1.far (blk_ne k1 hp h1.symm) u, k2.kept (fun g hg => heap_set_other _ _ _ (k2.ne hp h2.symm g hg)), mapB_kept k3 (heap_set_other _ _ _ (map_ne hp k3)), mapB_kept k4 (heap_set_other _ _ _ (map_ne hp k4)), k5⟩

set_option maxHeartbeats 4000000 in
theorem asked_calls {w : World} {base t : Nat} {T : Tb} {op dst c : Int} {i j : Nat} (h : TabB w base t T) (hi : i < T.held.length) (hj : isTwo op = true → j < T.held.length) (hl : T.held.length ≤ 1000) (h1 : 1 ≤ op) (h8 : op ≤ 8) :
    Calls Try.prog 45 #[.pointer (some ⟨t, 0, none⟩), .agg (insV op dst i j c)] w fun e w' =>
      e = .returned (.agg (insV op dst (holderF T.held (lg T.held i)) (if isTwo op then holderF T.held (lg T.held j) else j) c)) ∧ Below w.heap.size w w' := by
  obtain ⟨va, hva⟩ := named (lg T.held i)
  obtain ⟨vb, hvb⟩ := named (lg T.held j)
  obtain ⟨ra, hra⟩ := named (holderF T.held va)
  obtain ⟨rb, hrb⟩ := named (holderF T.held vb)
  rw [hva.out, hvb.out, hra.out, hrb.out]
  obtain ⟨rx, hrx⟩ := named (if isTwo op = true then rb else (j : Int))
  rw [hrx.out]
  obtain ⟨x0, x1, b0⟩ := asked_new w (insV op dst i j c) ins0
  have hT0 := h.below b0
  have i0 : (0 : Int) ≤ (i : Int) := by omega
  have i1 : (i : Int) < (T.held.length : Int) := by omega
  have HK := fun W : World => asks_calls (w := W) op dst i j c
  obtain ⟨L, hLn⟩ := named (asksF ⟨op, dst, i, j, c⟩)
  have hL1 : Hid (decide (1 < L.length) = isTwo op) := by
    unfold Hid
    rw [← hLn.out]
    cases ht : isTwo op
    · rw [asksF_one _ _ _ _ _ (by have h3 : ¬ op = 3 := (by rintro rfl; simp [isTwo] at ht); have h4 : ¬ op = 4 := (by rintro rfl; simp [isTwo] at ht); omega)]; rfl
    · rw [asksF_two _ _ _ _ _ (by simpa [isTwo] using ht)]; rfl
  have hL2 : L.length ≤ 2 := by rw [← hLn.out]; exact asksF_len _
  simp only [hLn.out] at HK
  have HK2 := hide HK
  clear HK hLn
  go_enter Try.func45, Try.ntmps45
  go_wp2_with fail
  generalize hW : (w.alloc _).alloc _ = W at *
  clear hW
  obtain ⟨e0, e1, e2, e3, e4⟩ := ins5 x0
  refine (HK2.out _).mono ?_
  rintro e w3 ⟨⟨A, rfl, hZ⟩, hb3⟩
  clear hZ HK2
  have hT3 := hT0.below hb3
  obtain ⟨g, cap, t0, htl, hgl, hc⟩ := hT3.row (by omega)
  have a0 := hc i hi
  rw [hva.out] at a0
  clear hc
  have z0 := Blk.below x0 hb3 x0.lt
  have z1 := Blk.below x1 hb3 x1.lt
  have b3 := below_to b0 hb3
  clear x0 x1 b0 hT0 e0 e1 e2 e3 e4 hb3
  obtain ⟨f0, f1, f2, f3, f4⟩ := ins5 z0
  have s2 := z0.frozen 2
  have hT3d : TabB w3.drew base t T := hT3
  have HH := hide (holder_calls (v := va) hT3d hl (by omega))
  rw [hra.out] at HH
  have htw : t ≠ w.heap.size := by
    obtain ⟨hA, hcap, mk, mf, Dk, Df, d1, d2, _⟩ := hT3
    exact blk_ne d1 z0 (by decide)
  have hgw : g ≠ w.heap.size := by
    obtain ⟨hA, hcap, mk, mf, Dk, Df, d1, d2, _⟩ := hT3
    obtain ⟨dt, _⟩ := tab4 d1
    rw [t0] at dt
    injection dt with dt
    injection dt with e1 _ _
    exact d2.ne z0 (by decide) g (by rw [← e1]; rfl)
  have mt : (w3.setCell ⟨w.heap.size, 2, none⟩ (.int .i64 ra)).drew.cell? ⟨t, 0, none⟩ = some (.slice (some ⟨g, 0, none⟩) T.held.length cap) := (World.cell?_setCell_other w3 _ _ _ (by intro e; injection e with e; exact htw e.symm)).trans t0
  have ma : (w3.setCell ⟨w.heap.size, 2, none⟩ (.int .i64 ra)).drew.cell? ⟨g, i, none⟩ = some (.int .i64 va) := (World.cell?_setCell_other w3 _ _ _ (by intro e; injection e with e; exact hgw e.symm)).trans a0
  go_wp2_with fail
  go_region_law (first
      | (go_simp
         go_at_call 46
         refine HH.out.mono ?_
         rintro e wm ⟨rfl, rfl⟩))
  all_goals
    have b4 := (b3.setCell (p := ⟨w.heap.size, 2, none⟩) (Nat.le_refl _) (.int .i64 ra)).drew
    have y0 : Blk (w3.setCell ⟨w.heap.size, 2, none⟩ (.int .i64 ra)).drew w.heap.size 72 (insV op dst ra j c) := z0.set 2 (.int .i64 ra)
    have y1 : Blk (w3.setCell ⟨w.heap.size, 2, none⟩ (.int .i64 ra)).drew (w.heap.size + 1) 72 ins0 := z1.far (p := ⟨w.heap.size, 2, none⟩) (by simp) _
    have hT4 : TabB (w3.setCell ⟨w.heap.size, 2, none⟩ (.int .i64 ra)).drew base t T :=
      show TabB (w3.setCell ⟨w.heap.size, 2, none⟩ (.int .i64 ra)) base t T from hT3.far (p := ⟨w.heap.size, 2, none⟩) (u := .int .i64 ra) z0 (by decide) (by decide) rfl
    clear mt ma t0 a0 f0 f1 f2 f3 f4 s2 z0 z1 b3 hT3 hT3d HH htl hgl htw hgw
    generalize (w3.setCell ⟨w.heap.size, 2, none⟩ (.int .i64 ra)).drew = W at *
    clear w3
    obtain ⟨f0, f1, f2, f3, f4⟩ := ins5 y0
    cases ht : isTwo op
    · have hdec : (L.length : Int) ≤ 1 := by
        have h9 := hL1.out
        rw [ht] at h9
        have h9 := of_decide_eq_false h9
        omega
      have hx : (j : Int) = rx := by rw [← hrx.out, ht]; rfl
      have HX := hide hx
      clear ht hx
      obtain ⟨r0, r1, r2, r3, r4⟩ := ins5 y1
      have u0 := y1.frozen 0
      have u1 := y1.frozen 1
      have u2 := y1.frozen 2
      have u3 := y1.frozen 3
      have u4 := y1.frozen 4
      go_wp2
      have zz := ((((y1.set 0 (.int .i64 op)).set 1 (.int .i64 dst)).set 2 (.int .i64 ra)).set 3 (.int .i64 (j : Int))).set 4 (.int .i64 c)
      refine bodyPost_ret (v := .agg (insV op dst ra j c)) (res_ins (fn := Try.f45) (p := 4) rfl rfl zz) rfl ⟨by rw [← HX.out], ?_⟩
      exact (((((b4.setCell (p := ⟨w.heap.size + 1, 0, none⟩) (by simp) _).setCell (p := ⟨w.heap.size + 1, 1, none⟩) (by simp) _).setCell (p := ⟨w.heap.size + 1, 2, none⟩) (by simp) _).setCell (p := ⟨w.heap.size + 1, 3, none⟩) (by simp) _).setCell (p := ⟨w.heap.size + 1, 4, none⟩) (by simp) _)
    · have hdec : (1 : Int) < (L.length : Int) := by
        have h9 := hL1.out
        rw [ht] at h9
        have h9 := of_decide_eq_true h9
        omega
      have hjl := hj ht
      have hx : rb = rx := by rw [← hrx.out, ht]; rfl
      have HX := hide hx
      clear ht hj hx
      have j0 : (0 : Int) ≤ (j : Int) := by omega
      have j1 : (j : Int) < (T.held.length : Int) := by omega
      obtain ⟨g, cap, t0, htl, hgl, hc⟩ := hT4.row (by omega)
      have a0 := hc j hjl
      rw [hvb.out] at a0
      clear hc
      have s3 := y0.frozen 3
      have hT4d : TabB W.drew base t T := hT4
      have HH := hide (holder_calls (v := vb) hT4d hl (by omega))
      rw [hrb.out] at HH
      have htw : t ≠ w.heap.size := by
        obtain ⟨hA, hcap, mk, mf, Dk, Df, d1, d2, _⟩ := hT4
        exact blk_ne d1 y0 (by decide)
      have hgw : g ≠ w.heap.size := by
        obtain ⟨hA, hcap, mk, mf, Dk, Df, d1, d2, _⟩ := hT4
        obtain ⟨dt, _⟩ := tab4 d1
        rw [t0] at dt
        injection dt with dt
        injection dt with e1 _ _
        exact d2.ne y0 (by decide) g (by rw [← e1]; rfl)
      have mt : (W.setCell ⟨w.heap.size, 3, none⟩ (.int .i64 rb)).drew.cell? ⟨t, 0, none⟩ = some (.slice (some ⟨g, 0, none⟩) T.held.length cap) := (World.cell?_setCell_other W _ _ _ (by intro e; injection e with e; exact htw e.symm)).trans t0
      have ma : (W.setCell ⟨w.heap.size, 3, none⟩ (.int .i64 rb)).drew.cell? ⟨g, j, none⟩ = some (.int .i64 vb) := (World.cell?_setCell_other W _ _ _ (by intro e; injection e with e; exact hgw e.symm)).trans a0
      go_wp2_with fail
      go_region_law (first
          | (go_simp
             go_at_call 46
             refine HH.out.mono ?_
             rintro e wm ⟨rfl, rfl⟩))
      all_goals
        have b5 := (b4.setCell (p := ⟨w.heap.size, 3, none⟩) (Nat.le_refl _) (.int .i64 rb)).drew
        have v0 : Blk (W.setCell ⟨w.heap.size, 3, none⟩ (.int .i64 rb)).drew w.heap.size 72 (insV op dst ra rb c) := y0.set 3 (.int .i64 rb)
        have v1 : Blk (W.setCell ⟨w.heap.size, 3, none⟩ (.int .i64 rb)).drew (w.heap.size + 1) 72 ins0 := y1.far (p := ⟨w.heap.size, 3, none⟩) (by simp) _
        clear mt ma t0 a0 f0 f1 f2 f3 f4 s3 y0 y1 b4 hT4 hT4d HH htl hgl htw hgw
        generalize (W.setCell ⟨w.heap.size, 3, none⟩ (.int .i64 rb)).drew = W5 at *
        clear W
        obtain ⟨f0, f1, f2, f3, f4⟩ := ins5 v0
        obtain ⟨r0, r1, r2, r3, r4⟩ := ins5 v1
        have u0 := v1.frozen 0
        have u1 := v1.frozen 1
        have u2 := v1.frozen 2
        have u3 := v1.frozen 3
        have u4 := v1.frozen 4
        go_wp2
        have zz := ((((v1.set 0 (.int .i64 op)).set 1 (.int .i64 dst)).set 2 (.int .i64 ra)).set 3 (.int .i64 rb)).set 4 (.int .i64 c)
        refine bodyPost_ret (v := .agg (insV op dst ra rb c)) (res_ins (fn := Try.f45) (p := 4) rfl rfl zz) rfl ⟨by rw [← HX.out], ?_⟩
        exact (((((b5.setCell (p := ⟨w.heap.size + 1, 0, none⟩) (by simp) _).setCell (p := ⟨w.heap.size + 1, 1, none⟩) (by simp) _).setCell (p := ⟨w.heap.size + 1, 2, none⟩) (by simp) _).setCell (p := ⟨w.heap.size + 1, 3, none⟩) (by simp) _).setCell (p := ⟨w.heap.size + 1, 4, none⟩) (by simp) _)
end Go.Proofs.Ytnchlckncknaiaa
/- share: a value more in both maps. -/
namespace Go.Proofs.Ytnchlckncknaiaa
open Go.RowKit Go.Maps

theorem zeroE (w : World) : (zeroValue 3).run Try.prog w = .ok (.int .i64 0) w := by kernel_rfl
/-- One entry: laid, then written. -/
theorem map_entry {W : World} {b n : Nat} {D : DataW Unit} (h : MapB W b n D) {K : Ky} (hw : K.Wf) (hn : n < maxLen) {x : Int} (hx : I64 x) :
    ∃ (v0 : Value) (st : Nat) (W1 W2 : World), (Instr.mapEntry 86 (.map (some b)) K.val).run Try.prog W = .ok (.tuple #[v0, .int .i64 (st : Int)]) W1 ∧
      (Instr.entryStore 86 (.map (some b)) (.int .i64 (st : Int)) (.int .i64 x)).run Try.prog W1 = .ok () W2 ∧
      MapB W2 b (n + 1) (D.put (kd K) (.lit (.int .i64 x))) ∧ W.grownBy W1 (some b) ∧ W.grownBy W2 (some b) ∧ W1.heap.size = W.heap.size ∧ W2.heap.size = W.heap.size := by
  have h' := h
  obtain ⟨es, clock, hb, F, hs, rfl⟩ := h'
  obtain ⟨v0, st, es1, clock1, h1, _, h3⟩ := WideElems.entry_then_store (P := Try.prog) lawK Try.underlying86 (z := .int .i64 0) zeroE hb F (kd_key hw)
  obtain ⟨es', clock', e1, e2⟩ := h3 (ChangeMaps.setBlock W b (.map es1 clock1)) (.int .i64 x) (ChangeMaps.heap_setBlock_same hb _)
  obtain ⟨w', u1, u2, u3⟩ := h.update keyedK Try.underlying86 hn (kd_key hw) (plainElem_int Try.underlying3 hx.wf)
  rw [e2] at u1
  injection u1 with _ u1
  have hb1 : (ChangeMaps.setBlock W b (.map es1 clock1)).heap[b]? = some (.map es1 clock1) := ChangeMaps.heap_setBlock_same hb _
  have hb2 : (ChangeMaps.setBlock (ChangeMaps.setBlock W b (.map es1 clock1)) b (.map es' clock')).heap[b]? = some (.map es' clock') := ChangeMaps.heap_setBlock_same hb1 _
  refine ⟨v0, st, _, _, h1, e1, mapB_kept u2 ?_, ?_, ?_, ?_, ?_⟩
  · rw [hb2, ← u1]
    exact (ChangeMaps.heap_setBlock_same hb _).symm
  · exact ⟨rfl, rfl, rfl, by simp [ChangeMaps.setBlock], fun i _ hi => ChangeMaps.heap_setBlock_other hb _ (fun e => hi (by rw [e]))⟩
  · exact ⟨rfl, rfl, rfl, by simp [ChangeMaps.setBlock], fun i _ hi => (ChangeMaps.heap_setBlock_other hb1 _ (fun e => hi (by rw [e]))).trans (ChangeMaps.heap_setBlock_other hb _ (fun e => hi (by rw [e])))⟩
  · simp [ChangeMaps.setBlock]
  · simp [ChangeMaps.setBlock]
end Go.Proofs.Ytnchlckncknaiaa
