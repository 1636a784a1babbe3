/- Words and contracts that the claim's last text uses: part 0. -/
import Derived.WalkKit
import Derived.Lib.Hide
import Derived.Deep.Draws
import Derived.Deep.OwnRows
import Derived.Test.YtnchlckncknaiaaChecked
import Derived.Deep.QuietTactic
import Derived.BigQuiet
import Derived.Laws.CopyOwn
import Derived.WalkSmall
import Derived.Laws.BitsAllLaws
import Derived.Deep.DeepCutAuto
import Derived.Deep.CutBlock
/- Plain facts on lists of limbs (base 2^32) over Int. -/
namespace Go.Proofs.Ytnchlckncknaiaa
def rdI (xs : List Int) (i : Int) : Int := xs.getD i.toNat 0

def val : List Int → Int
  | [] => 0
  | x :: xs => x + 4294967296 * val xs

def Lim (xs : List Int) : Prop := ∀ x ∈ xs, 0 ≤ x ∧ x < 4294967296

def pw (n : Nat) : Int := (4294967296 : Int) ^ n

theorem pw_zero : pw 0 = 1 := rfl
theorem pw_succ (n : Nat) : pw (n + 1) = 4294967296 * pw n := by unfold pw; rw [Int.pow_succ, Int.mul_comm]
theorem pw_add (m n : Nat) : pw (m + n) = pw m * pw n := by unfold pw; rw [Int.pow_add]
theorem pw_pos (n : Nat) : 0 < pw n := by unfold pw; exact Int.pow_pos (by decide)

theorem Lim.nil : Lim [] := by intro x h; cases h
theorem Lim.cons {x : Int} {xs : List Int} (h : Lim (x :: xs)) : (0 ≤ x ∧ x < 4294967296) ∧ Lim xs :=
  ⟨h x (by simp), fun y hy => h y (by simp [hy])⟩
theorem Lim.mk {x : Int} {xs : List Int} (h : 0 ≤ x ∧ x < 4294967296) (t : Lim xs) : Lim (x :: xs) := by
  intro y hy; rcases List.mem_cons.1 hy with rfl | hy
  · exact h
  · exact t y hy
theorem Lim.append {xs ys : List Int} (h : Lim xs) (t : Lim ys) : Lim (xs ++ ys) := by
  intro y hy; rcases List.mem_append.1 hy with hy | hy
  · exact h y hy
  · exact t y hy
theorem Lim.take {xs : List Int} (h : Lim xs) (n : Nat) : Lim (xs.take n) := fun y hy => h y (List.mem_of_mem_take hy)
theorem Lim.drop {xs : List Int} (h : Lim xs) (n : Nat) : Lim (xs.drop n) := fun y hy => h y (List.mem_of_mem_drop hy)
theorem Lim.set {xs : List Int} (h : Lim xs) (n : Nat) {v : Int} (hv : 0 ≤ v ∧ v < 4294967296) : Lim (xs.set n v) := by
  intro y hy; rcases List.mem_or_eq_of_mem_set hy with hy | rfl
  · exact h y hy
  · exact hv
theorem Lim.replicate (n : Nat) : Lim (List.replicate n 0) := by
  intro y hy; have := (List.mem_replicate.1 hy).2; subst this; decide
theorem Lim.getD {xs : List Int} (h : Lim xs) (i : Nat) : 0 ≤ xs.getD i 0 ∧ xs.getD i 0 < 4294967296 := by
  rw [List.getD_eq_getElem?_getD]
  by_cases hi : i < xs.length
  · rw [List.getElem?_eq_getElem hi]; exact h _ (List.getElem_mem hi)
  · rw [List.getElem?_eq_none (by omega)]; decide

theorem val_append (xs ys : List Int) : val (xs ++ ys) = val xs + pw xs.length * val ys := by
  induction xs with
  | nil => simp [val, pw_zero]
  | cons x xs ih => simp only [List.cons_append, val, ih, List.length_cons, pw_succ]; grind

theorem val_replicate (n : Nat) : val (List.replicate n 0) = 0 := by
  induction n with
  | zero => rfl
  | succ n ih => simp [List.replicate_succ, val, ih]

theorem val_nonneg {xs : List Int} (h : Lim xs) : 0 ≤ val xs := by
  induction xs with
  | nil => simp [val]
  | cons x xs ih => obtain ⟨h1, h2⟩ := h.cons; have := ih h2; simp only [val]; omega

theorem val_lt {xs : List Int} (h : Lim xs) : val xs < pw xs.length := by
  induction xs with
  | nil => simp [val, pw_zero]
  | cons x xs ih => obtain ⟨h1, h2⟩ := h.cons; have := ih h2; simp only [val, List.length_cons, pw_succ]; omega

theorem val_take_drop (xs : List Int) (i : Nat) (h : i ≤ xs.length) : val xs = val (xs.take i) + pw i * val (xs.drop i) := by
  conv => lhs; rw [← List.take_append_drop i xs]
  rw [val_append, List.length_take, Nat.min_eq_left h]

theorem drop_getD (xs : List Int) (i : Nat) (h : i < xs.length) : xs.drop i = xs.getD i 0 :: xs.drop (i + 1) := by
  rw [List.drop_eq_getElem_cons h, List.getD_eq_getElem?_getD, List.getElem?_eq_getElem h]; rfl
theorem take_getD (xs : List Int) (i : Nat) (h : i < xs.length) : xs.take (i + 1) = xs.take i ++ [xs.getD i 0] := by
  rw [List.take_succ_eq_append_getElem h, List.getD_eq_getElem?_getD, List.getElem?_eq_getElem h]; rfl

theorem val_take_succ (xs : List Int) (i : Nat) (h : i < xs.length) : val (xs.take (i + 1)) = val (xs.take i) + pw i * xs.getD i 0 := by
  rw [take_getD xs i h, val_append, List.length_take, Nat.min_eq_left (by omega)]; simp [val]
theorem val_drop_succ (xs : List Int) (i : Nat) (h : i < xs.length) : val (xs.drop i) = xs.getD i 0 + 4294967296 * val (xs.drop (i + 1)) := by
  rw [drop_getD xs i h]; rfl

theorem val_set (xs : List Int) (i : Nat) (v : Int) (h : i < xs.length) : val (xs.set i v) = val xs + pw i * (v - xs.getD i 0) := by
  induction xs generalizing i with
  | nil => simp at h
  | cons x xs ih =>
    cases i with
    | zero => simp [val, pw_zero]; omega
    | succ i =>
      have := ih i (by simpa using h)
      simp only [List.set_cons_succ, val, this, pw_succ, List.getD_cons_succ]; grind

/-- Lists of limbs without high noughts. -/
def Nrm (xs : List Int) : Prop := Lim xs ∧ (xs = [] ∨ xs.getD (xs.length - 1) 0 ≠ 0)

theorem val_zero {xs : List Int} (h : Lim xs) (hz : val xs = 0) : ∀ i, xs.getD i 0 = 0 := by
  induction xs with
  | nil => simp
  | cons x xs ih =>
    obtain ⟨h1, h2⟩ := h.cons
    have hn := val_nonneg h2
    simp only [val] at hz
    intro i
    cases i with
    | zero => simp; omega
    | succ i => simpa using ih h2 (by omega) i

theorem Nrm.zero {xs : List Int} (h : Nrm xs) (hz : val xs = 0) : xs = [] := by
  rcases h.2 with h' | h'
  · exact h'
  · exact absurd (val_zero h.1 hz _) h'

theorem Nrm.low {xs : List Int} (h : Nrm xs) (hne : xs ≠ []) : pw (xs.length - 1) ≤ val xs := by
  have hl : xs.length - 1 < xs.length := by have := List.length_pos_iff.2 hne; omega
  have h1 := val_take_drop xs (xs.length - 1) (by omega)
  have h2 := val_drop_succ xs (xs.length - 1) hl
  have h3 : xs.drop (xs.length - 1 + 1) = [] := List.drop_eq_nil_of_le (by omega)
  rw [h3] at h2; simp only [val] at h2
  have h4 := val_nonneg (h.1.take (xs.length - 1))
  have h5 := h.1.getD (xs.length - 1)
  have h6 : xs.getD (xs.length - 1) 0 ≠ 0 := by exact h.2.resolve_left hne
  have hp := pw_pos (xs.length - 1)
  have h7 : pw (xs.length - 1) * 1 ≤ pw (xs.length - 1) * val (xs.drop (xs.length - 1)) := Int.mul_le_mul_of_nonneg_left (by omega) (by omega)
  omega

theorem pw_mono {m n : Nat} (h : m ≤ n) : pw m ≤ pw n := by
  obtain ⟨k, rfl⟩ := Nat.exists_eq_add_of_le h
  rw [pw_add]
  have h1 := pw_pos m
  have h2 := pw_pos k
  have : pw m * 1 ≤ pw m * pw k := Int.mul_le_mul_of_nonneg_left (by omega) (by omega)
  omega

theorem Nrm.len_lt {xs ys : List Int} (h : Nrm xs) (k : Nrm ys) (hl : xs.length < ys.length) : val xs < val ys := by
  have h1 := val_lt h.1
  have h2 := k.low (by intro e; subst e; simp at hl)
  have h3 := pw_mono (show xs.length ≤ ys.length - 1 by omega)
  omega

theorem lim_inj {xs ys : List Int} (h : Lim xs) (k : Lim ys) (hl : xs.length = ys.length) (hv : val xs = val ys) : xs = ys := by
  induction xs generalizing ys with
  | nil => cases ys with
    | nil => rfl
    | cons y ys => simp at hl
  | cons x xs ih =>
    cases ys with
    | nil => simp at hl
    | cons y ys =>
      obtain ⟨h1, h2⟩ := h.cons
      obtain ⟨k1, k2⟩ := k.cons
      simp only [val] at hv
      have : val xs = val ys := by omega
      have e := ih h2 k2 (by simpa using hl) this
      subst e
      have : x = y := by omega
      subst this; rfl

theorem Nrm.inj {xs ys : List Int} (h : Nrm xs) (k : Nrm ys) (hv : val xs = val ys) : xs = ys := by
  rcases Nat.lt_trichotomy xs.length ys.length with hl | hl | hl
  · have := h.len_lt k hl; omega
  · exact lim_inj h.1 k.1 hl hv
  · have := k.len_lt h hl; omega

end Go.Proofs.Ytnchlckncknaiaa
/- Words on memory: slices of limbs that are read, blocks of the call's own. -/
namespace Go.Proofs.Ytnchlckncknaiaa
open Go.RowKit

theorem hide {p : Prop} (h : p) : Hid p := h

/-- A number of a list; its own name, so that the walk's simp leaves it as it is. -/
def lg (xs : List Int) (j : Nat) : Int := xs.getD j 0
theorem lg_def (xs : List Int) (j : Nat) : lg xs j = xs.getD j 0 := rfl
theorem lg_lim {xs : List Int} (h : Lim xs) (j : Nat) : 0 ≤ lg xs j ∧ lg xs j < 4294967296 := h.getD j

/-- Block g is known whole: the cells cs of element type t, none frozen. -/
def Blk (w : World) (g : Nat) (t : TypeId) (cs : Array Value) : Prop := w.heap[g]? = some (.cells cs t (0, 0))

section
variable {w w' : World} {g : Nat} {t : TypeId} {cs : Array Value}
theorem Blk.lt (h : Blk w g t cs) : g < w.heap.size := by
  rcases Nat.lt_or_ge g w.heap.size with hlt | hge
  · exact hlt
  · unfold Blk at h; rw [Array.getElem?_eq_none hge] at h; cases h
theorem Blk.cell (h : Blk w g t cs) (i : Nat) : w.cell? ⟨g, i, none⟩ = cs[i]? := cell_of_row w g i cs t (0, 0) h
theorem Blk.frozen (h : Blk w g t cs) (i : Nat) : w.frozen? ⟨g, i, none⟩ = false := by
  unfold Blk at h
  simp [World.frozen?, h]
theorem Blk.new (w : World) (t : TypeId) (cs : Array Value) : Blk (w.alloc (.cells cs t)) w.heap.size t cs := heap_alloc_new w _
theorem Blk.drew (h : Blk w g t cs) : Blk w.drew g t cs := h
theorem Blk.drewN (h : Blk w g t cs) (n : Nat) : Blk (w.drewN n) g t cs := h
theorem Blk.alloc (h : Blk w g t cs) (o : Obj) : Blk (w.alloc o) g t cs := (Below.heap_alloc w o g h.lt).trans h
theorem Blk.set (h : Blk w g t cs) (i : Nat) (u : Value) : Blk (w.setCell ⟨g, i, none⟩ u) g t (cs.setIfInBounds i u) := by
  unfold Blk at h ⊢
  simp [World.setCell, Array.getElem?_modify, h]
theorem Blk.far (h : Blk w g t cs) {p : Addr} (hp : g ≠ p.block) (u : Value) : Blk (w.setCell p u) g t cs := (Below.heap_setCell w p u g hp).trans h
theorem Blk.below {B : Nat} (h : Blk w g t cs) (hb : Below B w w') (hg : g < B) : Blk w' g t cs := (hb.block g hg).trans h
end

theorem below_drewN {B : Nat} {a w : World} (h : Below B a w) (n : Nat) : Below B a (w.drewN n) := ⟨h.os, h.tape, h.output, h.size, h.block⟩
/-- The world is the old one, orders having been drawn. -/
def Drawn (w w' : World) : Prop := ∃ q, w' = w.drewN q
theorem Drawn.refl (w : World) : Drawn w w := ⟨0, rfl⟩
theorem Drawn.drewN {w w' : World} (h : Drawn w w') (n : Nat) : Drawn w (w'.drewN n) := by
  obtain ⟨q, rfl⟩ := h
  exact ⟨_, World.drewN_drewN ..⟩
theorem Drawn.trans {a b c : World} (h : Drawn a b) (k : Drawn b c) : Drawn a c := by
  obtain ⟨q, rfl⟩ := k
  exact h.drewN q
theorem Drawn.below {w w' : World} (h : Drawn w w') (B : Nat) : Below B w w' := by
  obtain ⟨q, rfl⟩ := h
  exact below_drewN (Below.refl B w) q
theorem below_then {B : Nat} {w w1 w2 : World} (h : Below B w w1) (hB : B ≤ w1.heap.size) (k : Below w1.heap.size w1 w2) : Below B w w2 :=
  h.trans (k.mono hB)
theorem below_cell {w w1 : World} (h : Below w.heap.size w w1) {a : Addr} {v : Value} (hc : w.cell? a = some v) : w1.cell? a = some v := (h.cell (World.block_lt_of_cell? w a hc)).trans hc

/-- A slice of n limbs is read: A its address. -/
def RdU (w : World) (A : Option Addr) (n : Nat) (xs : List Int) : Prop :=
  xs.length = n ∧ (0 < n → ∃ b off, A = some ⟨b, off, none⟩ ∧ ∀ j, j < n → w.cell? ⟨b, off + j, none⟩ = some (.int .u32 (lg xs j)))

theorem RdU.at_ {w : World} {A : Option Addr} {n : Nat} {xs : List Int} (h : RdU w A n xs) {j : Nat} (hj : j < n) : ∃ b off, A = some ⟨b, off, none⟩ ∧ w.cell? ⟨b, off + j, none⟩ = some (.int .u32 (lg xs j)) := by
  obtain ⟨b, off, e, hc⟩ := h.2 (by omega)
  exact ⟨b, off, e, hc j hj⟩
theorem RdU.below {w w1 : World} {A : Option Addr} {n : Nat} {xs : List Int} (h : RdU w A n xs) (hb : Below w.heap.size w w1) : RdU w1 A n xs :=
  ⟨h.1, fun hn => by
    obtain ⟨b, off, e, hc⟩ := h.2 hn
    exact ⟨b, off, e, fun j hj => below_cell hb (hc j hj)⟩⟩
theorem RdU.nil (w : World) (A : Option Addr) : RdU w A 0 [] := ⟨rfl, fun h => absurd h (by omega)⟩
theorem lg_take (xs : List Int) (k j : Nat) (h : j < k) : lg (xs.take k) j = lg xs j := by
  simp [lg, h]
theorem RdU.take {w : World} {A : Option Addr} {n : Nat} {xs : List Int} (h : RdU w A n xs) {k : Nat} (hk : k ≤ n) : RdU w A k (xs.take k) :=
  ⟨by rw [List.length_take, h.1]; omega, fun hn => by
    obtain ⟨b, off, e, hc⟩ := h.2 (by omega)
    exact ⟨b, off, e, fun j hj => by rw [lg_take _ _ _ hj]; exact hc j (by omega)⟩⟩

def u32s (xs : List Int) : Array Value := (xs.map (Value.int .u32)).toArray
/-- A block whose first cells are limbs. -/
def UB (w : World) (g : Nat) (xs : List Int) : Prop := ∃ tl : Array Value, Blk w g 153 (u32s xs ++ tl)
theorem u32s_size (xs : List Int) : (u32s xs).size = xs.length := by simp [u32s]
theorem u32s_get (xs : List Int) (j : Nat) (h : j < xs.length) : (u32s xs)[j]? = some (.int .u32 (lg xs j)) := by
  simp [u32s, lg, h]
theorem u32s_set (xs : List Int) (i : Nat) (v : Int) : (u32s xs).setIfInBounds i (.int .u32 v) = u32s (xs.set i v) := by
  simp [u32s, List.map_set]
theorem UB.cell {w : World} {g : Nat} {xs : List Int} (h : UB w g xs) {j : Nat} (hj : j < xs.length) : w.cell? ⟨g, j, none⟩ = some (.int .u32 (lg xs j)) := by
  obtain ⟨tl, h⟩ := h
  rw [Blk.cell h, Array.getElem?_append_left (by rw [u32s_size]; exact hj), u32s_get xs j hj]
theorem UB.frozen {w : World} {g : Nat} {xs : List Int} (h : UB w g xs) (j : Nat) : w.frozen? ⟨g, j, none⟩ = false := by
  obtain ⟨tl, h⟩ := h
  exact Blk.frozen h j
theorem UB.set {w : World} {g : Nat} {xs : List Int} (h : UB w g xs) (i : Nat) (v : Int) : UB (w.setCell ⟨g, i, none⟩ (.int .u32 v)) g (xs.set i v) := by
  obtain ⟨tl, h⟩ := h
  have h2 := Blk.set h i (.int .u32 v)
  rcases Nat.lt_or_ge i xs.length with hi | hi
  · rw [Array.setIfInBounds_append_left (by rw [u32s_size]; exact hi), u32s_set] at h2
    exact ⟨tl, h2⟩
  · rw [Array.setIfInBounds_append_right (by rw [u32s_size]; exact hi)] at h2
    rw [List.set_eq_of_length_le hi]
    exact ⟨_, h2⟩
theorem UB.lt {w : World} {g : Nat} {xs : List Int} (h : UB w g xs) : g < w.heap.size := by
  obtain ⟨tl, h⟩ := h
  exact Blk.lt h
theorem UB.below {B : Nat} {w w' : World} {g : Nat} {xs : List Int} (h : UB w g xs) (hb : Below B w w') (hg : g < B) : UB w' g xs := by
  obtain ⟨tl, h⟩ := h
  exact ⟨tl, Blk.below h hb hg⟩
theorem UB.of_blk {w : World} {g : Nat} {xs : List Int} (h : Blk w g 153 (u32s xs)) : UB w g xs := ⟨#[], by rw [Array.append_empty]; exact h⟩
theorem UB.rd {w : World} {g : Nat} {xs : List Int} (h : UB w g xs) : RdU w (some ⟨g, 0, none⟩) xs.length xs :=
  ⟨rfl, fun _ => ⟨g, 0, rfl, fun j hj => by rw [Nat.zero_add]; exact h.cell hj⟩⟩
/-- A row of limbs that append has made. -/
theorem UB.of_own {w : World} {base n : Nat} {v : Value} {xs : List Int} (h : w.ownsRow base 153 1 v n (xs.map (Value.int .u32))) (hn : 0 < n) : ∃ g cap, v = .slice (some ⟨g, 0, none⟩) n cap ∧ n ≤ cap ∧ base ≤ g ∧ UB w g xs ∧ xs.length = n := by
  obtain ⟨hl, h⟩ := h
  rcases h with ⟨_, h0⟩ | ⟨g, cap, cur, rfl, hb, hh, hnc, _, hsz, htk⟩
  · omega
  · have hxl : xs.length = n := by simpa using hl
    refine ⟨g, cap, rfl, hnc, hb, ⟨(cur.toList.drop n).toArray, ?_⟩, hxl⟩
    unfold Blk
    rw [hh]
    have : cur = u32s xs ++ (cur.toList.drop n).toArray := by
      apply Array.toList_inj.1
      rw [Array.toList_append]
      unfold u32s
      rw [Nat.mul_one] at htk
      simp only [← htk]
      exact (List.take_append_drop n cur.toList).symm
    rw [← this]

/-- make([]uint32, n): an equation for every world. -/
theorem A_info32 : (Try.prog.info? 153).map (fun i => (i.zero, i.size, i.bytes)) = some (some (.int .u32 0), 1, 4) := by kernel_rfl
theorem make_u32 (n : Nat) (hn : n ≤ 1099511627776) (W : World) :
    (Instr.makeSlice 59 (.int .i64 (n : Int)) (.int .i64 (n : Int))).run Try.prog W = .ok (.slice (some ⟨W.heap.size, 0, none⟩) n n) (W.alloc (.cells (madeCells #[.int .u32 0] n) 153)) :=
  run_make_row' 59 153 (.int .u32 0) 4 Try.underlying59 A_info32 rfl .i64 .i64 n (by omega) (by omega) W
theorem make_u32' (n : Nat) (k : Int) (hk : k = (n : Int)) (hn : n ≤ 1099511627776) (W : World) :
    (Instr.makeSlice 59 (.int .i64 k) (.int .i64 k)).run Try.prog W = .ok (.slice (some ⟨W.heap.size, 0, none⟩) n n) (W.alloc (.cells (madeCells #[.int .u32 0] n) 153)) := by
  subst hk; exact make_u32 n hn W
theorem madeCells_one (v : Value) (n : Nat) : madeCells #[v] n = (List.replicate n v).toArray := by
  unfold madeCells
  apply Array.ext
  · simp
  · intro i h1 h2
    simp [Nat.mod_one]
theorem UB.made (W : World) (n : Nat) : UB (W.alloc (.cells (madeCells #[.int .u32 0] n) 153)) W.heap.size (List.replicate n 0) := by
  refine UB.of_blk ?_
  unfold u32s
  rw [List.map_replicate, ← madeCells_one]
  exact Blk.new _ _ _

/-- A slice's value, read. -/
def SlU (w : World) (v : Value) (xs : List Int) : Prop := ∃ A c, v = .slice A xs.length c ∧ xs.length ≤ c ∧ RdU w A xs.length xs
theorem SlU.below {w w1 : World} {v : Value} {xs : List Int} (h : SlU w v xs) (hb : Below w.heap.size w w1) : SlU w1 v xs := by
  obtain ⟨A, c, e, h1, h2⟩ := h
  exact ⟨A, c, e, h1, h2.below hb⟩
/-- The same, its capacity its length. -/
def SlX (w : World) (v : Value) (xs : List Int) : Prop := ∃ A, v = .slice A xs.length xs.length ∧ RdU w A xs.length xs
theorem SlX.sl {w : World} {v : Value} {xs : List Int} (h : SlX w v xs) : SlU w v xs := by
  obtain ⟨A, e, h1⟩ := h
  exact ⟨A, _, e, Nat.le_refl _, h1⟩
theorem SlX.below {w w1 : World} {v : Value} {xs : List Int} (h : SlX w v xs) (hb : Below w.heap.size w w1) : SlX w1 v xs := by
  obtain ⟨A, e, h1⟩ := h
  exact ⟨A, e, h1.below hb⟩
theorem UB.sl {w : World} {g n c : Nat} {xs : List Int} (h : UB w g xs) (hn : xs.length = n) (hc : n ≤ c) : SlU w (.slice (some ⟨g, 0, none⟩) n c) xs := by
  subst hn
  exact ⟨_, c, rfl, hc, h.rd⟩

end Go.Proofs.Ytnchlckncknaiaa
/- limb.trim, Norm, Cmp. -/
namespace Go.Proofs.Ytnchlckncknaiaa
open Go.RowKit

def trimN : List Int → Nat → Nat
  | _, 0 => 0
  | xs, n + 1 => if lg xs n = 0 then trimN xs n else n + 1
def trimL (xs : List Int) : List Int := xs.take (trimN xs xs.length)

theorem trimN_zero (xs : List Int) (n : Nat) (h : lg xs n = 0) : trimN xs (n + 1) = trimN xs n := by simp [trimN, h]
theorem trimN_stop (xs : List Int) (n : Nat) (h : lg xs n ≠ 0) : trimN xs (n + 1) = n + 1 := by simp [trimN, h]
theorem trimN_le (xs : List Int) (n : Nat) : trimN xs n ≤ n := by
  induction n with
  | zero => simp [trimN]
  | succ n ih => simp only [trimN]; split <;> omega
theorem trimN_top (xs : List Int) (n : Nat) : 0 < trimN xs n → lg xs (trimN xs n - 1) ≠ 0 := by
  induction n with
  | zero => simp [trimN]
  | succ n ih => simp only [trimN]; split
                 · exact ih
                 · rename_i h; intro _; simpa using h
theorem trimN_rest (xs : List Int) (n j : Nat) (h : trimN xs n ≤ j) (hj : j < n) : lg xs j = 0 := by
  induction n with
  | zero => omega
  | succ n ih =>
    simp only [trimN] at h
    by_cases hz : lg xs n = 0
    · rw [if_pos hz] at h
      by_cases hjn : j = n
      · subst hjn; exact hz
      · exact ih h (by omega)
    · rw [if_neg hz] at h; omega
theorem trimL_length (xs : List Int) : (trimL xs).length = trimN xs xs.length := by
  unfold trimL; rw [List.length_take]; have := trimN_le xs xs.length; omega
theorem trimL_le (xs : List Int) : (trimL xs).length ≤ xs.length := by rw [trimL_length]; exact trimN_le _ _
theorem val_drop_zero (xs : List Int) (k : Nat) (h : ∀ j, k ≤ j → j < xs.length → lg xs j = 0) : val (xs.drop k) = 0 := by
  by_cases hk : k < xs.length
  · rw [val_drop_succ xs k hk]
    have h1 : xs.getD k 0 = 0 := h k (Nat.le_refl _) hk
    rw [h1, val_drop_zero xs (k + 1) (fun j hj hl => h j (by omega) hl)]; rfl
  · rw [List.drop_eq_nil_of_le (by omega)]; rfl
termination_by xs.length - k
theorem trimL_val (xs : List Int) : val (trimL xs) = val xs := by
  have h := val_take_drop xs (trimN xs xs.length) (trimN_le _ _)
  rw [val_drop_zero xs _ (fun j hj hl => trimN_rest xs xs.length j hj hl)] at h
  unfold trimL; omega
theorem trimL_nrm {xs : List Int} (h : Lim xs) : Nrm (trimL xs) := by
  refine ⟨h.take _, ?_⟩
  by_cases h0 : trimN xs xs.length = 0
  · left; unfold trimL; rw [h0]; rfl
  · right
    have h1 := trimN_top xs xs.length (by omega)
    rw [trimL_length]
    have h2 := lg_take xs (trimN xs xs.length) (trimN xs xs.length - 1) (by omega)
    unfold lg at h2 h1
    unfold trimL
    rw [h2]; exact h1
theorem trimL_of_nrm {xs : List Int} (h : Nrm xs) : trimL xs = xs := by
  rcases h.2 with rfl | h1
  · rfl
  · by_cases hl : xs.length = 0
    · have := List.eq_nil_of_length_eq_zero hl; subst this; rfl
    · unfold trimL
      obtain ⟨m, hm⟩ : ∃ m, xs.length = m + 1 := ⟨xs.length - 1, by omega⟩
      have : trimN xs xs.length = xs.length := by
        rw [hm] at h1 ⊢
        exact trimN_stop xs m h1
      rw [this, List.take_length]

theorem sl_take {w : World} {A : Option Addr} {k : Nat} {xs : List Int} (h : RdU w A xs.length xs) (hk : k ≤ xs.length) : SlX w (.slice A k k) (xs.take k) := by
  have hl : (xs.take k).length = k := by rw [List.length_take]; omega
  refine ⟨A, by rw [hl], ?_⟩
  rw [hl]
  exact h.take hk

set_option maxHeartbeats 1000000 in
theorem trim_calls_x {w : World} {v : Value} {xs : List Int} (h : SlU w v xs) (hn : xs.length ≤ 1099511627776) :
    Calls Try.prog 142 #[v] w fun e w' => (∃ v', e = .returned v' ∧ SlX w v' (trimL xs)) ∧ w' = w := by
  obtain ⟨A, cap, rfl, hcap, hr⟩ := h
  have Hr := hide hr; clear hr
  obtain ⟨n, hnn⟩ : ∃ n, xs.length = n := ⟨_, rfl⟩
  have Hn := hide hnn
  rw [hnn] at hn hcap ⊢
  clear hnn
  go_enter Try.func142, Try.ntmps142
  go_wp2
  go_loop [3] (fun m => ∃ k : Nat, k ≤ n ∧ m = .int .i64 k ∧ Hid (trimN xs k = trimN xs n)) (fun m => (intOf m).toNat)
  case atStart => exact ⟨n, Nat.le_refl _, rfl, rfl⟩
  case round =>
    obtain ⟨k, hk, rfl, Hz⟩ := hrel
    by_cases h0 : 0 < k
    · obtain ⟨m, rfl⟩ : ∃ m, k = m + 1 := ⟨k - 1, by omega⟩
      obtain ⟨b, off, rfl, hcell⟩ := Hr.out.at_ (j := m) (by have := Hn.out; omega)
      by_cases h1 : lg xs m = 0
      · have h1' : (lg xs m == 0) = true := by simpa using h1
        have Hz' : Hid (trimN xs m = trimN xs n) := (trimN_zero xs m h1).symm.trans Hz.out
        clear Hz h1
        go_wp2
        go_round
        case rel => exact ⟨m, by omega, by go_num, Hz'⟩
        case measure => simp [intOf]
      · have h1' : (lg xs m == 0) = false := by simpa using h1
        have Hz' : Hid (m + 1 = trimN xs n) := (trimN_stop xs m h1).symm.trans Hz.out
        clear Hz h1
        go_wp2
        go_ret
        refine ⟨⟨_, rfl, ?_⟩, rfl⟩
        have e := Hz'.out
        have e2 := Hn.out
        unfold trimL
        rw [e2, ← e]
        exact sl_take Hr.out (by omega)
    · obtain rfl : k = 0 := by omega
      go_wp2
      go_ret
      refine ⟨⟨_, rfl, ?_⟩, rfl⟩
      have e := Hz.out
      have e2 := Hn.out
      unfold trimL
      rw [e2, ← e]
      exact sl_take Hr.out (by omega)
theorem trim_calls {w : World} {v : Value} {xs : List Int} (h : SlU w v xs) (hn : xs.length ≤ 1099511627776) :
    Calls Try.prog 142 #[v] w fun e w' => (∃ v', e = .returned v' ∧ SlU w v' (trimL xs)) ∧ w' = w :=
  (trim_calls_x h hn).mono fun _ _ ⟨⟨v', e, h⟩, hw⟩ => ⟨⟨v', e, h.sl⟩, hw⟩
end Go.Proofs.Ytnchlckncknaiaa
/- Plain laws of the loops of limb.Add, Sub, Mul, DivSmall, Shl, Shr. -/
namespace Go.Proofs.Ytnchlckncknaiaa

theorem lg_out (xs : List Int) (i : Nat) (h : xs.length ≤ i) : lg xs i = 0 := by
  simp [lg, List.getElem?_eq_none h]
theorem val_take_lg (xs : List Int) (i : Nat) : val (xs.take (i + 1)) = val (xs.take i) + pw i * lg xs i := by
  by_cases h : i < xs.length
  · exact val_take_succ xs i h
  · rw [lg_out xs i (by omega), List.take_of_length_le (by omega), List.take_of_length_le (by omega)]; omega
theorem take_set_lt (xs : List Int) (i : Nat) (v : Int) (h : i < xs.length) : (xs.set i v).take (i + 1) = xs.take i ++ [v] := by
  rw [List.take_succ_eq_append_getElem (by simpa using h), List.getElem_set_self, List.take_set_of_le (Nat.le_refl _)]
theorem val_take_set (xs : List Int) (i : Nat) (v : Int) (h : i < xs.length) : val ((xs.set i v).take (i + 1)) = val (xs.take i) + pw i * v := by
  rw [take_set_lt xs i v h, val_append, List.length_take, Nat.min_eq_left (by omega)]; simp [val]
theorem lg_set_ne (xs : List Int) (i j : Nat) (v : Int) (h : i ≠ j) : lg (xs.set i v) j = lg xs j := by
  simp [lg, h]
theorem lg_set_eq (xs : List Int) (i : Nat) (v : Int) (h : i < xs.length) : lg (xs.set i v) i = v := by
  simp [lg, h]

/-! ### Add -/
def AddInv (xs ys zs : List Int) (i : Nat) (c : Int) : Prop :=
  zs.length = xs.length + 1 ∧ Lim zs ∧ 0 ≤ c ∧ c ≤ 1 ∧ val (zs.take i) + pw i * c = val (xs.take i) + val (ys.take i)
theorem AddInv.start (xs ys : List Int) : AddInv xs ys (List.replicate (xs.length + 1) 0) 0 0 := by
  refine ⟨by simp, Lim.replicate _, by omega, by omega, ?_⟩
  simp [val]
theorem AddInv.step {xs ys zs : List Int} {i : Nat} {c : Int} (hx : Lim xs) (hy : Lim ys) (h : AddInv xs ys zs i c) (hi : i < xs.length) :
    AddInv xs ys (zs.set i ((c + lg xs i + lg ys i) % 4294967296)) (i + 1) ((c + lg xs i + lg ys i) / 4294967296) := by
  obtain ⟨h1, h2, h3, h4, h5⟩ := h
  have bx := lg_lim hx i
  have by_ := lg_lim hy i
  refine ⟨by simpa using h1, h2.set _ (by omega), by omega, by omega, ?_⟩
  rw [val_take_set zs i _ (by omega), val_take_lg xs, val_take_lg ys, pw_succ]
  have e := Int.mul_ediv_add_emod (c + lg xs i + lg ys i) 4294967296
  grind
theorem AddInv.done {xs ys zs : List Int} {c : Int} (h : AddInv xs ys zs xs.length c) (hl : ys.length ≤ xs.length) :
    Lim (zs.set xs.length c) ∧ val (zs.set xs.length c) = val xs + val ys ∧ (zs.set xs.length c).length = xs.length + 1 := by
  obtain ⟨h1, h2, h3, h4, h5⟩ := h
  refine ⟨h2.set _ (by omega), ?_, by simpa using h1⟩
  have e := val_take_set zs xs.length c (by omega)
  rw [List.take_of_length_le (by simp; omega)] at e
  rw [e, h5, List.take_of_length_le (Nat.le_refl _), List.take_of_length_le hl]

/-! ### Sub -/
def SubInv (xs ys zs : List Int) (i : Nat) (c : Int) : Prop :=
  zs.length = xs.length ∧ Lim zs ∧ 0 ≤ c ∧ c ≤ 1 ∧ val (zs.take i) - pw i * c = val (xs.take i) - val (ys.take i)
theorem SubInv.start (xs ys : List Int) : SubInv xs ys (List.replicate xs.length 0) 0 0 := by
  refine ⟨by simp, Lim.replicate _, by omega, by omega, ?_⟩
  simp [val]
theorem SubInv.step {xs ys zs : List Int} {i : Nat} {c d : Int} (h : SubInv xs ys zs i c) (hi : i < xs.length) (hd0 : 0 ≤ d) (hd1 : d ≤ 1)
    (hz0 : 0 ≤ lg xs i - (c + lg ys i) + 4294967296 * d) (hz1 : lg xs i - (c + lg ys i) + 4294967296 * d < 4294967296) :
    SubInv xs ys (zs.set i (lg xs i - (c + lg ys i) + 4294967296 * d)) (i + 1) d := by
  obtain ⟨h1, h2, h3, h4, h5⟩ := h
  refine ⟨by simpa using h1, h2.set _ ⟨hz0, hz1⟩, hd0, hd1, ?_⟩
  rw [val_take_set zs i _ (by omega), val_take_lg xs, val_take_lg ys, pw_succ]
  grind
theorem SubInv.done {xs ys zs : List Int} {c : Int} (h : SubInv xs ys zs xs.length c) (hl : ys.length ≤ xs.length) (hge : val ys ≤ val xs) :
    Lim zs ∧ val zs = val xs - val ys ∧ zs.length = xs.length := by
  obtain ⟨h1, h2, h3, h4, h5⟩ := h
  refine ⟨h2, ?_, h1⟩
  rw [List.take_of_length_le (Nat.le_of_eq h1), List.take_of_length_le (Nat.le_refl _), List.take_of_length_le hl] at h5
  have b := val_lt h2
  rw [h1] at b
  have p := pw_pos xs.length
  have : c = 0 := by
    rcases (by omega : c = 0 ∨ c = 1) with h | h
    · exact h
    · subst h; omega
  subst this; omega

/-! ### Mul -/
/-- Row i, behind k limbs of ys: base is the value ahead of the row. -/
def MulRow (x : Int) (ys zs : List Int) (i k : Nat) (c base : Int) (n : Nat) : Prop :=
  zs.length = n ∧ Lim zs ∧ 0 ≤ c ∧ c < 4294967296 ∧ val zs + pw (i + k) * c = base + x * (pw i * val (ys.take k)) ∧ (∀ j, i + ys.length ≤ j → lg zs j = 0)
theorem mul_bound {x y c o : Int} (hx : 0 ≤ x ∧ x < 4294967296) (hy : 0 ≤ y ∧ y < 4294967296) (hc : 0 ≤ c ∧ c < 4294967296) (ho : 0 ≤ o ∧ o < 4294967296) :
    0 ≤ x * y ∧ x * y ≤ 18446744065119617025 ∧ 0 ≤ c + (x * y + o) ∧ c + (x * y + o) ≤ 18446744073709551615 := by
  have h1 : 0 ≤ x * y := Int.mul_nonneg hx.1 hy.1
  have h2 : x * y ≤ 4294967295 * 4294967295 := Int.mul_le_mul (by omega) (by omega) hy.1 (by decide)
  omega
theorem MulRow.step {x : Int} {ys zs : List Int} {i k n : Nat} {c base : Int} (hx : 0 ≤ x ∧ x < 4294967296) (hy : Lim ys) (h : MulRow x ys zs i k c base n) (hk : k < ys.length) (hn : i + ys.length ≤ n) :
    MulRow x ys (zs.set (i + k) ((c + (x * lg ys k + lg zs (i + k))) % 4294967296)) i (k + 1) ((c + (x * lg ys k + lg zs (i + k))) / 4294967296) base n := by
  obtain ⟨h1, h2, h3, h4, h5, h6⟩ := h
  have b := mul_bound hx (lg_lim hy k) ⟨h3, h4⟩ (lg_lim h2 (i + k))
  refine ⟨by simpa using h1, h2.set _ (by omega), by omega, by omega, ?_, fun j hj => ?_⟩
  · rw [val_set zs (i + k) _ (by omega), val_take_lg ys, ← Nat.add_assoc, pw_succ]
    have e := Int.mul_ediv_add_emod (c + (x * lg ys k + lg zs (i + k))) 4294967296
    have p : pw (i + k) = pw i * pw k := pw_add i k
    rw [← lg_def zs (i + k)]
    generalize (c + (x * lg ys k + lg zs (i + k))) / 4294967296 = q at *
    generalize (c + (x * lg ys k + lg zs (i + k))) % 4294967296 = r at *
    grind
  · rw [lg_set_ne _ _ _ _ (by omega)]; exact h6 j hj
def MulInv (xs ys zs : List Int) (i : Nat) (n : Nat) : Prop :=
  zs.length = n ∧ Lim zs ∧ val zs = val (xs.take i) * val ys ∧ ∀ j, i + ys.length ≤ j → lg zs j = 0
theorem MulInv.start (xs ys : List Int) : MulInv xs ys (List.replicate (xs.length + ys.length) 0) 0 (xs.length + ys.length) := by
  refine ⟨by simp, Lim.replicate _, by simp [val_replicate, val], fun j hj => ?_⟩
  simp only [lg, List.getD_eq_getElem?_getD, List.getElem?_replicate]
  split <;> rfl
theorem MulInv.row {xs ys zs : List Int} {i n : Nat} (h : MulInv xs ys zs i n) (x : Int) : MulRow x ys zs i 0 0 (val zs) n := by
  obtain ⟨h1, h2, h3, h4⟩ := h
  exact ⟨h1, h2, by omega, by omega, by simp [val], h4⟩
theorem MulRow.done {xs ys zs0 zs : List Int} {i n : Nat} {c : Int} (h0 : MulInv xs ys zs0 i n) (h : MulRow (lg xs i) ys zs i ys.length c (val zs0) n) (hn : i + ys.length < n) :
    MulInv xs ys (zs.set (i + ys.length) c) (i + 1) n := by
  obtain ⟨_, _, k3, _⟩ := h0
  obtain ⟨h1, h2, h3, h4, h5, h6⟩ := h
  refine ⟨by simpa using h1, h2.set _ ⟨h3, h4⟩, ?_, fun j hj => ?_⟩
  · rw [val_set zs _ _ (by omega), ← lg_def, h6 _ (Nat.le_refl _), val_take_lg xs]
    rw [List.take_of_length_le (Nat.le_refl _)] at h5
    grind
  · by_cases e : i + ys.length = j
    · omega
    · rw [lg_set_ne _ _ _ _ e]; exact h6 j (by omega)
theorem MulInv.done {xs ys zs : List Int} {n : Nat} (h : MulInv xs ys zs xs.length n) : Lim zs ∧ val zs = val xs * val ys ∧ zs.length = n := by
  obtain ⟨h1, h2, h3, _⟩ := h
  rw [List.take_of_length_le (Nat.le_refl _)] at h3
  exact ⟨h2, h3, h1⟩

/-! ### DivSmall -/
def DivInv (xs zs : List Int) (i : Nat) (c r : Int) : Prop :=
  zs.length = xs.length ∧ Lim zs ∧ 0 ≤ r ∧ r < c ∧ val (xs.drop i) = val (zs.drop i) * c + r
theorem DivInv.start (xs : List Int) {c : Int} (hc : 0 < c) : DivInv xs (List.replicate xs.length 0) xs.length c 0 := by
  refine ⟨by simp, Lim.replicate _, by omega, hc, ?_⟩
  rw [List.drop_eq_nil_of_le (Nat.le_refl _), List.drop_eq_nil_of_le (by simp)]; simp [val]
theorem drop_set_gt (xs : List Int) (i : Nat) (v : Int) : (xs.set i v).drop (i + 1) = xs.drop (i + 1) := by
  rw [List.drop_set_of_lt (by omega)]
theorem DivInv.step {xs zs : List Int} {i : Nat} {c r : Int} (hx : Lim xs) (hc : c < 4294967296) (h : DivInv xs zs (i + 1) c r) (hi : i < xs.length) :
    (0 ≤ r * 4294967296 + lg xs i ∧ r * 4294967296 + lg xs i < c * 4294967296) ∧
    DivInv xs (zs.set i ((r * 4294967296 + lg xs i) / c)) i c ((r * 4294967296 + lg xs i) % c) := by
  obtain ⟨h1, h2, h3, h4, h5⟩ := h
  have bx := lg_lim hx i
  have hb : 0 ≤ r * 4294967296 + lg xs i ∧ r * 4294967296 + lg xs i < c * 4294967296 := by omega
  have hcp : 0 < c := by omega
  refine ⟨hb, by simpa using h1, h2.set _ ⟨Int.ediv_nonneg hb.1 (by omega), Int.ediv_lt_of_lt_mul hcp (by omega)⟩, Int.emod_nonneg _ (by omega), Int.emod_lt_of_pos _ hcp, ?_⟩
  rw [val_drop_succ xs i hi, val_drop_succ (zs.set i _) i (by simpa using (by omega : i < zs.length)), drop_set_gt, h5, ← lg_def, ← lg_def, lg_set_eq _ _ _ (by omega)]
  have e := Int.mul_ediv_add_emod (r * 4294967296 + lg xs i) c
  grind
theorem DivInv.done {xs zs : List Int} {c r : Int} (h : DivInv xs zs 0 c r) : Lim zs ∧ val xs = val zs * c + r ∧ zs.length = xs.length ∧ 0 ≤ r ∧ r < c := by
  obtain ⟨h1, h2, h3, h4, h5⟩ := h
  simp only [List.drop_zero] at h5
  exact ⟨h2, h5, h1, h3, h4⟩
end Go.Proofs.Ytnchlckncknaiaa
/- limb.Cmp, Norm. -/
namespace Go.Proofs.Ytnchlckncknaiaa
open Go.RowKit

theorem ret_int {k : IntKind} {a b : Int} (h : a = b) : Ending.returned (.int k a) = .returned (.int k b) := by rw [h]

/-- -1, 0, 1. -/
def cmpI (a b : Int) : Int := if a < b then -1 else if b < a then 1 else 0
theorem cmpI_lt {a b : Int} (h : a < b) : cmpI a b = -1 := by simp [cmpI, h]
theorem cmpI_gt {a b : Int} (h : b < a) : cmpI a b = 1 := by have : ¬ a < b := by omega
                                                             simp [cmpI, h, this]
theorem cmpI_eq {a b : Int} (h : a = b) : cmpI a b = 0 := by subst h; simp [cmpI]
theorem val_top_lt {xs ys : List Int} {i : Nat} (hx : Lim xs) (hy : Lim ys) (hl : xs.length = ys.length) (hi : i < xs.length) (hd : xs.drop (i + 1) = ys.drop (i + 1)) (h : lg xs i < lg ys i) : val xs < val ys := by
  have ex := val_take_drop xs i (by omega)
  have ey := val_take_drop ys i (by omega)
  have ex2 := val_drop_succ xs i hi
  have ey2 := val_drop_succ ys i (by omega)
  rw [hd] at ex2
  have b1 := val_lt (hx.take i)
  have b2 := val_nonneg (hy.take i)
  rw [List.length_take, Nat.min_eq_left (by omega)] at b1
  have p := pw_pos i
  unfold lg at h
  have e : val (ys.drop i) = val (xs.drop i) + (ys.getD i 0 - xs.getD i 0) := by omega
  rw [e] at ey
  have : pw i * 1 ≤ pw i * (ys.getD i 0 - xs.getD i 0) := Int.mul_le_mul_of_nonneg_left (by omega) (by omega)
  have e3 : pw i * (val (xs.drop i) + (ys.getD i 0 - xs.getD i 0)) = pw i * val (xs.drop i) + pw i * (ys.getD i 0 - xs.getD i 0) := Int.mul_add _ _ _
  omega
theorem drop_eq_step {xs ys : List Int} {i : Nat} (hl : xs.length = ys.length) (hi : i < xs.length) (hd : xs.drop (i + 1) = ys.drop (i + 1)) (h : lg xs i = lg ys i) : xs.drop i = ys.drop i := by
  rw [drop_getD xs i hi, drop_getD ys i (by omega), hd]; unfold lg at h; rw [h]

set_option maxHeartbeats 2000000 in
theorem cmp_calls {w : World} {u v : Value} {xs ys : List Int} (hu : SlU w u xs) (hv : SlU w v ys) (hx : Lim xs) (hy : Lim ys) (hn : xs.length ≤ 1099511627776) (hm : ys.length ≤ 1099511627776) :
    Calls Try.prog 107 #[u, v] w fun e w' => e = .returned (.int .i64 (cmpI (val xs) (val ys))) ∧ Drawn w w' := by
  have Tx := trim_calls hu hn
  have Ty := trim_calls hv hm
  have ex := trimL_val xs
  have ey := trimL_val ys
  have nx := trimL_nrm hx
  have ny := trimL_nrm hy
  have lx := trimL_le xs
  have ly := trimL_le ys
  have Hex := hide ex
  have Hey := hide ey
  have HTx := hide Tx
  have HTy := hide Ty
  clear Tx Ty ex ey
  obtain ⟨A, c, rfl, hc, hr⟩ := hu
  obtain ⟨B, d, rfl, hd, hs⟩ := hv
  go_enter Try.func107, Try.ntmps107
  go_wp2_with fail
  refine HTx.out.mono ?_
  rintro e w1 ⟨⟨v1, rfl, h1⟩, rfl⟩
  obtain ⟨A1, c1, rfl, hc1, hr1⟩ := h1
  go_wp2_with fail
  refine HTy.out.mono ?_
  rintro e w2 ⟨⟨v2, rfl, h2⟩, rfl⟩
  obtain ⟨A2, c2, rfl, hc2, hr2⟩ := h2
  clear HTx HTy
  generalize trimL xs = ps at *
  generalize trimL ys = qs at *
  by_cases hlt : ps.length < qs.length
  · go_wp2
    go_ret
    exact ⟨ret_int (by rw [← Hex.out, ← Hey.out, cmpI_lt (nx.len_lt ny hlt)]), Drawn.refl _⟩
  by_cases hgt : qs.length < ps.length
  · go_wp2
    go_ret
    exact ⟨ret_int (by rw [← Hex.out, ← Hey.out, cmpI_gt (ny.len_lt nx hgt)]), Drawn.refl _⟩
  have Heq : Hid (ps.length = qs.length) := by unfold Hid; omega
  go_wp2
  clear hlt hgt
  go_loopw [5] (fun i wr => ∃ x : Int, -1 ≤ x ∧ x < (ps.length : Int) ∧ i = .int .i64 x ∧ Hid (ps.drop (x + 1).toNat = qs.drop (x + 1).toNat) ∧ Drawn w2 wr) (fun i _ => (intOf i + 1).toNat)
  case atStart =>
    refine ⟨(ps.length : Int) - 1, by omega, by omega, rfl, ?_, Drawn.refl _⟩
    have e := Heq.out
    unfold Hid
    rw [List.drop_eq_nil_of_le (by omega), List.drop_eq_nil_of_le (by omega)]
  case round =>
    obtain ⟨x, hx0, hx1, rfl, Hd, HW⟩ := hrel
    obtain ⟨q, rfl⟩ := HW
    have HW : Drawn w2 (w2.drewN q) := ⟨q, rfl⟩
    by_cases h0 : 0 ≤ x
    · obtain ⟨k, rfl⟩ := Int.eq_ofNat_of_zero_le h0
      have hk : k < ps.length := by omega
      have hk2 : k < qs.length := by have := Heq.out; omega
      obtain ⟨b1, o1, rfl, hcell1⟩ := hr1.at_ hk
      obtain ⟨b2, o2, rfl, hcell2⟩ := hr2.at_ hk2
      have Hd' : Hid (ps.drop (k + 1) = qs.drop (k + 1)) := Hd
      clear Hd
      by_cases l1 : lg ps k < lg qs k
      · have d1 : decide (lg ps k < lg qs k) = true := by simpa using l1
        have HV : Hid (val ps < val qs) := val_top_lt nx.1 ny.1 Heq.out hk Hd'.out l1
        go_wp2
        go_quiet (fail)
        go_wp2
        go_ret
        exact ⟨ret_int (by rw [← Hex.out, ← Hey.out, cmpI_lt HV.out]), HW.drewN _⟩
      · have d1 : decide (lg ps k < lg qs k) = false := by simpa using l1
        by_cases l2 : lg qs k < lg ps k
        · have d2 : decide (lg qs k < lg ps k) = true := by simpa using l2
          have HV : Hid (val qs < val ps) := val_top_lt ny.1 nx.1 Heq.out.symm hk2 Hd'.out.symm l2
          go_wp2
          go_quiet (fail)
          go_wp2
          go_quiet (fail)
          go_wp2
          go_ret
          exact ⟨ret_int (by rw [← Hex.out, ← Hey.out, cmpI_gt HV.out]), (HW.drewN _).drewN _⟩
        · have d2 : decide (lg qs k < lg ps k) = false := by simpa using l2
          have HV : Hid (ps.drop k = qs.drop k) := drop_eq_step Heq.out hk Hd'.out (by omega)
          go_wp2
          go_quiet (fail)
          go_wp2
          go_quiet (fail)
          go_wp2
          go_roundw
          case rel => exact ⟨(k : Int) - 1, by omega, by omega, by go_num, by rw [show ((k : Int) - 1 + 1).toNat = k by omega]; exact HV, by first | exact ⟨_, rfl⟩ | exact (HW.drewN _).drewN _⟩
          case measure => simp [intOf]
    · have HV : Hid (ps = qs) := by
        have := Hd.out
        rw [show (x + 1).toNat = 0 by omega] at this
        unfold Hid; simpa using this
      go_wp2
      go_ret
      exact ⟨ret_int (by rw [← Hex.out, ← Hey.out, cmpI_eq (by rw [HV.out])]), HW⟩

theorem add_off (b off j : Nat) : (⟨b, off, none⟩ : Addr).add j = ⟨b, off + j, none⟩ := by unfold Addr.add; split <;> simp_all
theorem rdU_copy {w : World} {A : Option Addr} {n : Nat} {xs : List Int} (h : RdU w A n xs) : 0 < xs.length → ∃ ad, A = some ad ∧ ∀ (j : Nat) (a : Int), xs[j]? = some a → w.cell? (ad.add j) = some (.int .u32 a) := by
  intro hp
  obtain ⟨b, off, e, hcell⟩ := h.2 (by have := h.1; omega)
  refine ⟨_, e, fun j a ha => ?_⟩
  have hj : j < xs.length := by
    rcases Nat.lt_or_ge j xs.length with h | h
    · exact h
    · rw [List.getElem?_eq_none h] at ha; cases ha
  rw [add_off, hcell j (by have := h.1; omega)]
  simp [lg, ha]

set_option maxHeartbeats 1000000 in
theorem norm_calls {w : World} {v : Value} {xs : List Int} (h : SlU w v xs) (hn : xs.length ≤ 1099511627776) :
    Calls Try.prog 139 #[v] w fun e w' => (∃ v', e = .returned v' ∧ SlU w' v' (trimL xs)) ∧ Below w.heap.size w w' := by
  have HT := hide (trim_calls h hn)
  have hl := trimL_le xs
  obtain ⟨A, cap, rfl, hcap, hr⟩ := h
  generalize trimL xs = ps at *
  go_enter Try.func139, Try.ntmps139
  go_wp2_with fail
  refine HT.out.mono ?_
  clear HT
  rintro e w1 ⟨⟨v1, rfl, h1⟩, rfl⟩
  obtain ⟨A1, c1, rfl, hc1, hr1⟩ := h1
  have hmk := make_u32 ps.length (by omega)
  have hb0 : Below w1.heap.size w1 (w1.alloc (.cells (madeCells #[.int .u32 0] ps.length) 153)) := (Below.refl _ _).alloc (Nat.le_refl _) _
  have hub := hide (Blk.new w1 153 (madeCells #[.int .u32 0] ps.length))
  have hrd := hr1.below hb0
  go_wp2_with (with_reducible refine wpList_copy_splice rfl (.tmp 9) (.tmp 10) 59 59 rfl 153 Try.underlying59 (by kernel_rfl) _ A1 _ _ _ _ rfl rfl w1.heap.size 0 (List.replicate ps.length (.int .u32 0)) 153 ?c1 (ps.map (Value.int .u32)) ?c2 ?c3 ?c4 ?c5 w1.heap.size w1 hb0 (Nat.le_refl _) ?c7)
  case c1 => have h := hub.out; unfold Blk at h; rw [h, madeCells_one]
  case c2 => simp
  case c3 =>
    exact rdU_copy hrd
  case c4 => simp
  case c5 => intro v hv; obtain ⟨x, _, rfl⟩ := List.mem_map.1 hv; rfl
  case c7 =>
    intro w3 hw3 hb3
    go_wp2
    go_ret
    refine ⟨⟨_, rfl, ?_⟩, hb3⟩
    have hu : UB w3 w1.heap.size ps := by
      have := hw3.out
      refine UB.of_blk ?_
      unfold Blk u32s
      rw [this]
      simp [splice]
    exact hu.sl rfl (Nat.le_refl _)

end Go.Proofs.Ytnchlckncknaiaa
/- limb.Add. -/
namespace Go.Proofs.Ytnchlckncknaiaa
open Go.RowKit

set_option maxHeartbeats 4000000 in
set_option maxRecDepth 100000 in
theorem add_core (sw : Bool) {w : World} {u v : Value} {xs ys : List Int} (hu : SlU w u xs) (hv : SlU w v ys) (hx : Lim xs) (hy : Lim ys) (hn : xs.length ≤ 1099511627770) (hl : ys.length ≤ xs.length) (hs : sw = true → ys.length < xs.length) :
    Calls Try.prog 134 (if sw then #[v, u] else #[u, v]) w fun e w' => (∃ v' zs, e = .returned v' ∧ SlU w' v' (trimL zs) ∧ Lim zs ∧ val zs = val xs + val ys ∧ zs.length ≤ xs.length + 1) ∧ Below w.heap.size w w' := by
  obtain ⟨A, c, rfl, hc, hr⟩ := hu
  obtain ⟨B, d, rfl, hd, hq⟩ := hv
  have hmk := make_u32' (xs.length + 1) ((xs.length : Int) + 1) rfl (by omega)
  have hb0 : Below w.heap.size w (w.alloc (.cells (madeCells #[.int .u32 0] (xs.length + 1)) 153)) := (Below.refl _ _).alloc (Nat.le_refl _) _
  have hub := UB.made w (xs.length + 1)
  have hl1 : ¬ (xs.length < ys.length) := by omega
  cases sw
  case' true => have hl2 := hs rfl
  all_goals
    clear hs
    try simp only [Bool.false_eq_true, if_false, if_true]
    go_enter Try.func134, Try.ntmps134
    go_wp2
    clear hmk
    go_loopw [6, 22] (fun ca i wr => ∃ (k : Nat) (cy : Int) (zs : List Int), k ≤ xs.length ∧ i = .int .i64 k ∧ ca = .int .u64 cy ∧ 0 ≤ cy ∧ cy ≤ 1 ∧ AddInv xs ys zs k cy ∧ UB wr w.heap.size zs ∧ Below w.heap.size w wr) (fun _ i _ => xs.length - (intOf i).toNat)
    case atStart => exact ⟨0, 0, _, by omega, rfl, rfl, by omega, by omega, AddInv.start xs ys, hub, hb0⟩
    case round =>
      obtain ⟨k, cy, zs, hk, rfl, rfl, hc0, hc1, HI, HU, HB⟩ := hrel
      have hzl := hide HI.1
      by_cases hlt : k < xs.length
      · obtain ⟨b1, o1, rfl, hcell1⟩ := (hr.below HB).at_ hlt
        have bx := lg_lim hx k
        have by_ := lg_lim hy k
        have hstep := HI.step hx hy hlt
        have hf := HU.frozen k
        have hce := HU.cell (j := k) (by have := hzl.out; omega)
        by_cases hy2 : k < ys.length
        · obtain ⟨b2, o2, rfl, hcell2⟩ := (hq.below HB).at_ hy2
          go_wp2
          go_roundw
          case rel => exact ⟨k + 1, _, _, by omega, by go_num, rfl, hstep.2.2.1, hstep.2.2.2.1, hstep, HU.set _ _, HB.setCell (p := ⟨w.heap.size, k, none⟩) (Nat.le_refl _) _⟩
          case measure => simp [intOf]; omega
        · rw [lg_out ys k (by omega), Int.add_zero] at hstep
          go_wp2
          go_roundw
          case rel => exact ⟨k + 1, _, _, by omega, by go_num, rfl, hstep.2.2.1, hstep.2.2.2.1, hstep, HU.set _ _, HB.setCell (p := ⟨w.heap.size, k, none⟩) (Nat.le_refl _) _⟩
          case measure => simp [intOf]; omega
      · have hke : k = xs.length := by omega
        have hd := HI
        rw [hke] at hd
        have HD := hide (hd.done hl)
        have hf := HU.frozen xs.length
        have hce := HU.cell (j := xs.length) (by have := hzl.out; omega)
        have Hke := hide hke
        clear hke hd
        have HU2 := HU.set xs.length cy
        have HB2 := HB.setCell (p := ⟨w.heap.size, xs.length, none⟩) (Nat.le_refl _) (.int .u32 cy)
        go_wp2_with fail
        have HT := trim_calls (HU2.sl (c := xs.length + 1) HD.out.2.2 (Nat.le_refl _)) (by rw [HD.out.2.2]; omega)
        refine HT.mono ?_
        rintro e w1 ⟨⟨v1, rfl, h1⟩, rfl⟩
        go_wp2
        go_ret
        exact ⟨⟨_, _, rfl, h1, HD.out.1, HD.out.2.1, Nat.le_of_eq HD.out.2.2⟩, HB2⟩

theorem add_calls {w : World} {u v : Value} {xs ys : List Int} (hu : SlU w u xs) (hv : SlU w v ys) (hx : Lim xs) (hy : Lim ys) (hn : xs.length ≤ 1099511627770) (hm : ys.length ≤ 1099511627770) :
    Calls Try.prog 134 #[u, v] w fun e w' => (∃ v' zs, e = .returned v' ∧ SlU w' v' (trimL zs) ∧ Lim zs ∧ val zs = val xs + val ys ∧ zs.length ≤ max xs.length ys.length + 1) ∧ Below w.heap.size w w' := by
  by_cases h : xs.length < ys.length
  · refine (add_core true hv hu hy hx hm (by omega) (fun _ => h)).mono ?_
    rintro e w1 ⟨⟨v1, zs, h1, h2, h3, h4, h5⟩, h6⟩
    exact ⟨⟨v1, zs, h1, h2, h3, by omega, by omega⟩, h6⟩
  · refine (add_core false hu hv hx hy hn (by omega) (fun h => by cases h)).mono ?_
    rintro e w1 ⟨⟨v1, zs, h1, h2, h3, h4, h5⟩, h6⟩
    exact ⟨⟨v1, zs, h1, h2, h3, h4, by omega⟩, h6⟩
end Go.Proofs.Ytnchlckncknaiaa
/- Small laws on bits. -/
namespace Go.Proofs.Ytnchlckncknaiaa
open Go.RowKit

def bor (d : Int) : Int := if d < 0 then 1 else 0
theorem bor_range (d : Int) : 0 ≤ bor d ∧ bor d ≤ 1 := by unfold bor; split <;> omega
theorem bor_z {d : Int} (h1 : -4294967296 ≤ d) (h2 : d < 4294967296) : IntKind.u64.wrap d % 4294967296 = d + 4294967296 * bor d := by
  rw [IntKind.wrap_u64]; unfold bor; split <;> omega
theorem bor_b {d : Int} (h1 : -4294967296 ≤ d) (h2 : d < 4294967296) : bits .and .u64 (IntKind.u64.wrap d / 4294967296) 1 = bor d := by
  rw [IntKind.wrap_u64, and_one_u64 _ (by omega) (by omega)]; unfold bor; split <;> omega
theorem bor_ge {d : Int} (h1 : -4294967296 ≤ d) (h2 : d < 4294967296) : 0 ≤ d + 4294967296 * bor d ∧ d + 4294967296 * bor d < 4294967296 := by
  unfold bor; split <;> omega

theorem or_add (a b k : Nat) (hb : b < 2 ^ k) : (2 ^ k * a) ||| b = 2 ^ k * a + b := (Nat.two_pow_add_eq_or_of_lt hb a).symm
/-- A limb above a limb. -/
theorem or_hi (a b : Int) (ha0 : 0 ≤ a) (ha : a < 4294967296) (hb0 : 0 ≤ b) (hb : b < 4294967296) : bits .or .u64 (a * 4294967296) b = a * 4294967296 + b := by
  rw [u64_or _ _ (by omega) (by omega) hb0 (by omega)]
  have h := or_add a.toNat b.toNat 32 (by omega)
  have e : (a * 4294967296).toNat = 2 ^ 32 * a.toNat := by omega
  rw [e, h]; omega
theorem or_hi' (a b : Int) (ha0 : 0 ≤ a) (ha : a < 4294967296) (hb0 : 0 ≤ b) (hb : b < 4294967296) : bits .or .u64 b (a * 4294967296) = b + a * 4294967296 := by
  rw [u64_or _ _ hb0 (by omega) (by omega) (by omega), Nat.or_comm]
  have h := or_add a.toNat b.toNat 32 (by omega)
  have e : (a * 4294967296).toNat = 2 ^ 32 * a.toNat := by omega
  rw [e, h]; omega
theorem and_low (a : Int) (h0 : 0 ≤ a) (h1 : a ≤ 18446744073709551615) : bits .and .u64 a 4294967295 = a % 4294967296 := by
  rw [u64_and a 4294967295 h0 (by omega) (by omega) (by omega)]
  have : (4294967295 : Int).toNat = 2 ^ 32 - 1 := by decide
  rw [this, Nat.and_two_pow_sub_one_eq_mod]; omega
end Go.Proofs.Ytnchlckncknaiaa
/- limb.Shl. -/
namespace Go.Proofs.Ytnchlckncknaiaa
open Go.RowKit

/-- Behind i limbs: q whole limbs and b bits up. -/
def ShlInv (xs zs : List Int) (q b : Nat) (i : Nat) : Prop :=
  zs.length = xs.length + q + 1 ∧ Lim zs ∧ val zs = pw q * (2 : Int) ^ b * val (xs.take i) ∧ lg zs (i + q) < (2 : Int) ^ b ∧ ∀ j, i + q < j → lg zs j = 0
theorem lg_replicate (n j : Nat) : lg (List.replicate n 0) j = 0 := by
  simp only [lg, List.getD_eq_getElem?_getD, List.getElem?_replicate]
  split <;> rfl
theorem two_pos (b : Nat) : 0 < (2 : Int) ^ b := Int.pow_pos (by decide)
theorem ShlInv.start (xs : List Int) (q b : Nat) : ShlInv xs (List.replicate (xs.length + q + 1) 0) q b 0 :=
  ⟨by simp, Lim.replicate _, by simp [val_replicate, val], by rw [lg_replicate]; exact two_pos b, fun j _ => lg_replicate _ _⟩

theorem shl_nat (X Z b : Nat) (hb : b < 32) (hX : X < 4294967296) (hZ : Z < 2 ^ b) :
    (Z ||| (X * 2 ^ b) % 4294967296) = Z + (X * 2 ^ b) % 4294967296 ∧ Z + (X * 2 ^ b) % 4294967296 < 4294967296 ∧ X * 2 ^ b / 4294967296 < 2 ^ b ∧ X * 2 ^ b < 9223372036854775808 := by
  have h32 : 4294967296 = 2 ^ b * 2 ^ (32 - b) := by rw [← Nat.pow_add, show b + (32 - b) = 32 by omega]
  have hm : (X * 2 ^ b) % 4294967296 = 2 ^ b * (X % 2 ^ (32 - b)) := by
    rw [h32, Nat.mul_comm X, Nat.mul_mod_mul_left]
  have hp : 0 < 2 ^ b := Nat.two_pow_pos b
  have hlt : X % 2 ^ (32 - b) < 2 ^ (32 - b) := Nat.mod_lt _ (Nat.two_pow_pos _)
  have hb2 : 2 ^ b ≤ 2 ^ 31 := Nat.pow_le_pow_right (by omega) (by omega)
  refine ⟨?_, ?_, ?_, ?_⟩
  · rw [hm, Nat.or_comm, or_add _ _ _ hZ, Nat.add_comm]
  · rw [hm]
    have : 2 ^ b * (X % 2 ^ (32 - b)) + 2 ^ b ≤ 2 ^ b * 2 ^ (32 - b) := by
      rw [← Nat.mul_succ]; exact Nat.mul_le_mul_left _ hlt
    omega
  · apply Nat.div_lt_of_lt_mul
    rw [Nat.mul_comm]
    exact (Nat.mul_lt_mul_left hp).2 hX |> fun h => by rw [Nat.mul_comm 4294967296]; exact h
  · have : X * 2 ^ b ≤ 4294967295 * 2 ^ 31 := Nat.mul_le_mul (by omega) hb2
    omega

theorem shl_bits {x z : Int} {b : Nat} (hb : b < 32) (hx : 0 ≤ x ∧ x < 4294967296) (hz0 : 0 ≤ z) (hz : z < (2 : Int) ^ b) :
    bits .or .u32 z (IntKind.u64.wrap (x * 2 ^ b) % 4294967296) = z + (x * 2 ^ b) % 4294967296 ∧
    bits .or .u32 0 (IntKind.u64.wrap (x * 2 ^ b) / 4294967296 % 4294967296) = x * 2 ^ b / 4294967296 ∧
    0 ≤ z + (x * 2 ^ b) % 4294967296 ∧ z + (x * 2 ^ b) % 4294967296 < 4294967296 ∧ 0 ≤ x * 2 ^ b / 4294967296 ∧ x * 2 ^ b / 4294967296 < (2 : Int) ^ b ∧ (2 : Int) ^ b ≤ 2147483648 := by
  obtain ⟨X, rfl⟩ := Int.eq_ofNat_of_zero_le hx.1
  obtain ⟨Z, rfl⟩ := Int.eq_ofNat_of_zero_le hz0
  have hp : ((2 : Int) ^ b) = ((2 ^ b : Nat) : Int) := by norm_cast
  have hb2 : 2 ^ b ≤ 2 ^ 31 := Nat.pow_le_pow_right (by omega) (by omega)
  rw [hp] at hz ⊢
  obtain ⟨h1, h2, h3, h4⟩ := shl_nat X Z b hb (by omega) (by omega)
  have hm : ((X : Int) * ((2 ^ b : Nat) : Int)) = ((X * 2 ^ b : Nat) : Int) := by norm_cast
  rw [hm]
  generalize X * 2 ^ b = y at *
  have hw : IntKind.u64.wrap (y : Int) = (y : Int) := by rw [IntKind.wrap_u64]; omega
  rw [hw]
  refine ⟨?_, ?_, by omega, by omega, by omega, by omega, by omega⟩
  · rw [u32_or _ _ (by omega) (by omega) (by omega) (by omega)]
    have e1 : ((Z : Int)).toNat = Z := by omega
    have e2 : ((y : Int) % 4294967296).toNat = y % 4294967296 := by omega
    rw [e1, e2, h1]; omega
  · rw [u32_or _ _ (by omega) (by omega) (by omega) (by omega)]
    have e1 : ((0 : Int)).toNat = 0 := rfl
    rw [e1, Nat.zero_or]; omega
theorem ShlInv.step {xs zs : List Int} {q b i : Nat} (h : ShlInv xs zs q b i) (hx : Lim xs) (hb : b < 32) (hi : i < xs.length) :
    ShlInv xs ((zs.set (i + q) (lg zs (i + q) + (lg xs i * 2 ^ b) % 4294967296)).set (i + q + 1) (lg xs i * 2 ^ b / 4294967296)) q b (i + 1) := by
  obtain ⟨h1, h2, h3, h4, h5⟩ := h
  have hz := lg_lim h2 (i + q)
  obtain ⟨_, _, k1, k2, k3, k4, k5⟩ := shl_bits hb (lg_lim hx i) hz.1 h4
  refine ⟨by simpa using h1, (h2.set _ ⟨k1, k2⟩).set _ ⟨k3, by omega⟩, ?_, ?_, ?_⟩
  · rw [val_set _ _ _ (by simp; omega), val_set _ _ _ (by omega), ← lg_def, ← lg_def, lg_set_ne _ _ _ _ (by omega), h5 (i + q + 1) (by omega), h3, val_take_lg, pw_succ]
    have e := Int.mul_ediv_add_emod (lg xs i * 2 ^ b) 4294967296
    have p : pw (i + q) = pw i * pw q := pw_add i q
    rw [p]
    generalize lg xs i * 2 ^ b / 4294967296 = hi at *
    generalize hlo : lg xs i * 2 ^ b % 4294967296 = lo at *
    grind
  · rw [show i + 1 + q = i + q + 1 by omega, lg_set_eq _ _ _ (by simp; omega)]; exact k4
  · intro j hj
    rw [lg_set_ne _ _ _ _ (by omega), lg_set_ne _ _ _ _ (by omega)]; exact h5 j (by omega)
theorem ShlInv.done {xs zs : List Int} {n : Nat} (h : ShlInv xs zs (n / 32) (n % 32) xs.length) : Lim zs ∧ val zs = val xs * 2 ^ n ∧ zs.length = xs.length + n / 32 + 1 := by
  obtain ⟨h1, h2, h3, _, _⟩ := h
  refine ⟨h2, ?_, h1⟩
  rw [h3, List.take_of_length_le (Nat.le_refl _)]
  have : pw (n / 32) * (2 : Int) ^ (n % 32) = 2 ^ n := by
    unfold pw
    have e : (4294967296 : Int) = 2 ^ 32 := by decide
    rw [e, ← Int.pow_mul, ← Int.pow_add, Nat.div_add_mod]
  rw [this, Int.mul_comm]

set_option maxHeartbeats 4000000 in
set_option maxRecDepth 100000 in
theorem shl_calls {w : World} {u : Value} {xs : List Int} {n : Nat} (hu : SlU w u xs) (hx : Lim xs) (hn : xs.length ≤ 1099511620000) (hn2 : n ≤ 65536) :
    Calls Try.prog 171 #[u, .int .i64 (n : Int)] w fun e w' => (∃ v' zs, e = .returned (.tuple #[v', .int .i64 0]) ∧ SlX w' v' (trimL zs) ∧ Lim zs ∧ val zs = val xs * 2 ^ n ∧ zs.length ≤ xs.length + n / 32 + 1) ∧ Below w.heap.size w w' := by
  obtain ⟨A, cp, rfl, hcp, hr⟩ := hu
  have hmk := make_u32' (xs.length + n / 32 + 1) ((xs.length : Int) + (n : Int) / 32 + 1) (by omega) (by omega)
  have hb0 : Below w.heap.size w (w.alloc (.cells (madeCells #[.int .u32 0] (xs.length + n / 32 + 1)) 153)) := (Below.refl _ _).alloc (Nat.le_refl _) _
  have hub := UB.made w (xs.length + n / 32 + 1)
  go_enter Try.func171, Try.ntmps171
  go_wp2
  clear hmk
  go_loopw [26] (fun i wr => ∃ (k : Nat) (zs : List Int), k ≤ xs.length ∧ i = .int .i64 k ∧ ShlInv xs zs (n / 32) (n % 32) k ∧ UB wr w.heap.size zs ∧ Below w.heap.size w wr) (fun i _ => xs.length - (intOf i).toNat)
  case atStart => exact ⟨0, _, by omega, rfl, ShlInv.start xs _ _, hub, hb0⟩
  case round =>
    obtain ⟨k, zs, hk, rfl, HI, HU, HB⟩ := hrel
    have hzl := hide HI.1
    by_cases hlt : k < xs.length
    · obtain ⟨b1, o1, rfl, hcell1⟩ := (hr.below HB).at_ hlt
      have bx := lg_lim hx k
      have hf := HU.frozen (k + n / 32)
      have hce := HU.cell (j := k + n / 32) (by have := hzl.out; omega)
      have hf2 := HU.frozen (k + n / 32 + 1)
      have hce2 := HU.cell (j := k + n / 32 + 1) (by have := hzl.out; omega)
      have hb32 : n % 32 < 32 := Nat.mod_lt _ (by omega)
      have hbits := shl_bits hb32 bx (lg_lim HI.2.1 (k + n / 32)).1 HI.2.2.2.1
      have Hz := hide (HI.2.2.2.2 (k + n / 32 + 1) (by omega))
      have Hb := hide (And.intro hbits.1 hbits.2.1)
      clear hbits
      have hstep := HI.step hx hb32 hlt
      rw [Hz.out] at hce2
      go_wp2
      all_goals
        go_roundw
        case rel =>
          rw [Hb.out.1, Hb.out.2]
          exact ⟨k + 1, _, by omega, by go_num, hstep, (HU.set _ _).set _ _, (HB.setCell (p := ⟨w.heap.size, k + n / 32, none⟩) (Nat.le_refl _) _).setCell (p := ⟨w.heap.size, k + n / 32 + 1, none⟩) (Nat.le_refl _) _⟩
        case measure => simp [intOf]; omega
    · have hke : k = xs.length := by omega
      have hd := HI
      rw [hke] at hd
      have HD := hide hd.done
      clear hke hd HI
      go_wp2_with fail
      have HT := trim_calls_x (HU.sl (c := xs.length + n / 32 + 1) HD.out.2.2 (Nat.le_refl _)) (by rw [HD.out.2.2]; omega)
      refine HT.mono ?_
      rintro e w1 ⟨⟨v1, rfl, h1⟩, rfl⟩
      go_wp2
      go_ret2
      exact ⟨⟨_, _, rfl, h1, HD.out.1, HD.out.2.1, Nat.le_of_eq HD.out.2.2⟩, HB⟩
end Go.Proofs.Ytnchlckncknaiaa
/- limb.less. -/
namespace Go.Proofs.Ytnchlckncknaiaa
open Go.RowKit

/-- Of what lay, block g alone has turned. -/
def Only (g : Nat) (w w' : World) : Prop := w.grownBy w' (some g)
theorem Only.refl (g : Nat) (w : World) : Only g w w := World.grownBy.refl w _
theorem Only.drewN {g : Nat} {a w : World} (h : Only g a w) (n : Nat) : Only g a (w.drewN n) := ⟨h.os, h.tape, h.output, h.size, h.block⟩
theorem Only.setCell {g : Nat} {a w : World} (h : Only g a w) (i : Nat) (u : Value) : Only g a (w.setCell ⟨g, i, none⟩ u) :=
  ⟨h.os, h.tape, h.output, by simpa [World.setCell] using h.size, fun i' hi hne => (Below.heap_setCell w ⟨g, i, none⟩ u i' (by rintro rfl; exact hne rfl)).trans (h.block i' hi hne)⟩
theorem Only.trans {g : Nat} {a b c : World} (h : Only g a b) (k : Only g b c) : Only g a c :=
  ⟨k.os.trans h.os, k.tape.trans h.tape, k.output.trans h.output, Nat.le_trans h.size k.size, fun i hi hne => (k.block i (Nat.lt_of_lt_of_le hi h.size) hne).trans (h.block i hi hne)⟩
theorem Only.below {g : Nat} {w w' : World} (h : Only g w w') (hg : g ≤ w.heap.size) : Below g w w' :=
  ⟨h.os, h.tape, h.output, h.size, fun k hk => h.block k (by omega) (by intro e; injection e; omega)⟩
theorem Only.cell {g : Nat} {w w' : World} (h : Only g w w') {p : Addr} {v : Value} (hp : p.block ≠ g) (hc : w.cell? p = some v) : w'.cell? p = some v :=
  (World.cell?_of_block (h.block p.block (World.block_lt_of_cell? w p hc) (by intro e; injection e with e; exact hp e))).trans hc
/-- A slice that does not lie in block g. -/
def Far (g : Nat) (A : Option Addr) : Prop := ∀ a, A = some a → a.block ≠ g
theorem RdU.only {w w' : World} {A : Option Addr} {n g : Nat} {xs : List Int} (h : RdU w A n xs) (hf : Far g A) (ho : Only g w w') : RdU w' A n xs :=
  ⟨h.1, fun hn => by
    obtain ⟨b, off, e, hc⟩ := h.2 hn
    exact ⟨b, off, e, fun j hj => ho.cell (hf ⟨b, off, none⟩ e : b ≠ g) (hc j hj)⟩⟩

/-- The value of k limbs from off on. -/
def sv (cur : List Int) (off : Nat) : Nat → Int
  | 0 => 0
  | k + 1 => sv cur off k + pw k * lg cur (off + k)
theorem sv_congr {cur cur' : List Int} {off : Nat} : ∀ k, (∀ j, off ≤ j → j < off + k → lg cur' j = lg cur j) → sv cur' off k = sv cur off k
  | 0, _ => rfl
  | k + 1, h => by simp only [sv]; rw [sv_congr k (fun j h1 h2 => h j h1 (by omega)), h (off + k) (by omega) (by omega)]
theorem sv_val (cur : List Int) (off : Nat) : ∀ k, sv cur off k = val ((cur.drop off).take k)
  | 0 => by simp [sv, val]
  | k + 1 => by rw [val_take_lg, lg_drop', sv, sv_val cur off k]
where lg_drop' {xs : List Int} {q j : Nat} : lg (xs.drop q) j = lg xs (q + j) := by simp [lg]

def LessInv (cur cur' : List Int) (off : Nat) (ys : List Int) (T : Int) (k : Nat) (c b : Int) : Prop :=
  cur'.length = cur.length ∧ Lim cur' ∧ 0 ≤ c ∧ c < 4294967296 ∧ 0 ≤ b ∧ b ≤ 1 ∧ sv cur' off k + T * val (ys.take k) = sv cur off k + pw k * (c + b) ∧ (∀ j, j < off ∨ off + k ≤ j → lg cur' j = lg cur j) ∧ (ys.length < k → c = 0)
theorem LessInv.start {cur : List Int} (h : Lim cur) (off : Nat) (ys : List Int) (T : Int) : LessInv cur cur off ys T 0 0 0 :=
  ⟨rfl, h, by omega, by omega, by omega, by omega, by simp [sv, val], fun _ _ => rfl, fun h => by omega⟩
theorem less_p {c y T : Int} (hc0 : 0 ≤ c) (hc1 : c < 4294967296) (hy : 0 ≤ y ∧ y < 4294967296) (hT : 0 ≤ T ∧ T < 4294967296) :
    0 ≤ y * T ∧ y * T ≤ 18446744065119617025 ∧ 0 ≤ c + y * T ∧ c + y * T ≤ 18446744073709551615 ∧ 0 ≤ (c + y * T) / 4294967296 ∧ (c + y * T) / 4294967296 < 4294967296 := by
  have := mul_bound hy hT ⟨hc0, hc1⟩ (show (0 : Int) ≤ 0 ∧ (0 : Int) < 4294967296 by omega)
  omega
theorem LessInv.step {cur cur' : List Int} {off : Nat} {ys : List Int} {T : Int} {k : Nat} {c b : Int} (h : LessInv cur cur' off ys T k c b) (hy : Lim ys) (hT : 0 ≤ T ∧ T < 4294967296) (hk : off + k < cur.length) (d : Int)
    (hd : d = lg cur' (off + k) - (c + lg ys k * T) % 4294967296 - b) :
    LessInv cur (cur'.set (off + k) (d + 4294967296 * bor d)) off ys T (k + 1) ((c + lg ys k * T) / 4294967296) (bor d) := by
  obtain ⟨h1, h2, h3, h4, h5, h6, h7, h8, h9⟩ := h
  have bu := lg_lim h2 (off + k)
  have bp := less_p h3 h4 (lg_lim hy k) hT
  have bb := bor_range d
  have bd := bor_ge (d := d) (by omega) (by omega)
  refine ⟨by simpa using h1, h2.set _ bd, by omega, by omega, bb.1, bb.2, ?_, ?_, ?_⟩
  · have e1 : sv (cur'.set (off + k) (d + 4294967296 * bor d)) off k = sv cur' off k := sv_congr k (fun j _ hj => lg_set_ne _ _ _ _ (by omega))
    simp only [sv]
    rw [e1, lg_set_eq _ _ _ (by omega), val_take_lg, pw_succ, ← h8 (off + k) (by omega)]
    have e := Int.mul_ediv_add_emod (c + lg ys k * T) 4294967296
    generalize (c + lg ys k * T) / 4294967296 = q at *
    generalize (c + lg ys k * T) % 4294967296 = r at *
    generalize bor d = bd' at *
    grind
  · intro j hj
    rw [lg_set_ne _ _ _ _ (by omega)]; exact h8 j (by omega)
  · intro hl
    rw [lg_out ys k (by omega)]; omega
theorem LessInv.done {cur cur' : List Int} {off : Nat} {ys : List Int} {T : Int} {c b : Int} (h : LessInv cur cur' off ys T (ys.length + 1) c b) :
    cur'.length = cur.length ∧ Lim cur' ∧ 0 ≤ b ∧ b ≤ 1 ∧ sv cur' off (ys.length + 1) + T * val ys = sv cur off (ys.length + 1) + pw (ys.length + 1) * b ∧ (∀ j, j < off ∨ off + (ys.length + 1) ≤ j → lg cur' j = lg cur j) := by
  obtain ⟨h1, h2, h3, h4, h5, h6, h7, h8, h9⟩ := h
  rw [h9 (by omega), List.take_of_length_le (by omega)] at h7
  exact ⟨h1, h2, h5, h6, by rw [h7]; congr 2; omega, h8⟩
theorem wrap_sub (a b : Int) : IntKind.u64.wrap (IntKind.u64.wrap a - b) = IntKind.u64.wrap (a - b) := by
  simp only [IntKind.wrap_u64]; omega

set_option maxHeartbeats 4000000 in
set_option maxRecDepth 100000 in
theorem less_calls {w : World} {g off m c d : Nat} {cur ys : List Int} {B : Option Addr} {T : Int} (hu : UB w g cur) (hcur : Lim cur) (hoff : off + (m + 1) ≤ cur.length) (hq : RdU w B m ys) (hfar : Far g B) (hy : Lim ys) (hT : 0 ≤ T ∧ T < 4294967296) (hm : m ≤ 1099511620000) :
    Calls Try.prog 184 #[.slice (some ⟨g, off, none⟩) (m + 1) c, .slice B m d, .int .u64 T] w fun e w' => (∃ cur' bo, e = .returned (.bool (decide (0 < bo))) ∧ UB w' g cur' ∧ cur'.length = cur.length ∧ Lim cur' ∧ 0 ≤ bo ∧ bo ≤ 1 ∧ sv cur' off (m + 1) + T * val ys = sv cur off (m + 1) + pw (m + 1) * bo ∧ (∀ j, j < off ∨ off + (m + 1) ≤ j → lg cur' j = lg cur j)) ∧ Only g w w' := by
  have hTa := hT.1
  have hTb := hT.2
  go_enter Try.func184, Try.ntmps184
  go_wp2
  go_loopw [7, 8, 13] (fun ca bo i wr => ∃ (k : Nat) (cy b : Int) (ct : List Int), k ≤ m + 1 ∧ i = .int .i64 k ∧ ca = .int .u64 cy ∧ bo = .int .u64 b ∧ 0 ≤ cy ∧ cy < 4294967296 ∧ 0 ≤ b ∧ b ≤ 1 ∧ LessInv cur ct off ys T k cy b ∧ UB wr g ct ∧ Only g w wr) (fun _ _ i _ => m + 1 - (intOf i).toNat)
  case atStart => exact ⟨0, 0, 0, cur, by omega, rfl, rfl, rfl, by omega, by omega, by omega, by omega, LessInv.start hcur off ys T, hu, Only.refl _ _⟩
  case round =>
    obtain ⟨k, cy, b, ct, hk, rfl, rfl, rfl, hc0, hc1, hb0, hb1, HI, HU, HO⟩ := hrel
    have hzl := hide HI.1
    by_cases hlt : k < m + 1
    · have hf := HU.frozen (off + k)
      have hce := HU.cell (j := off + k) (by have := hzl.out; omega)
      have bu := lg_lim HI.2.1 (off + k)
      have by_ := lg_lim hy k
      have bp := less_p hc0 hc1 by_ hT
      have Hand := and_low (cy + lg ys k * T) bp.2.2.1 bp.2.2.2.1
      have hstep := HI.step hy hT (by omega) _ rfl
      have Hz := hide (bor_z (d := lg ct (off + k) - (cy + lg ys k * T) % 4294967296 - b) (by omega) (by omega))
      have Hb := hide (bor_b (d := lg ct (off + k) - (cy + lg ys k * T) % 4294967296 - b) (by omega) (by omega))
      have Hl := hide hq.1
      by_cases hlt2 : k < m
      · obtain ⟨b2, o2, rfl, hcell2⟩ := (hq.only hfar HO).at_ hlt2
        go_wp2
        go_roundw
        case rel =>
          rw [wrap_sub, Hz.out, Hb.out]
          exact ⟨k + 1, _, _, _, by omega, by go_num, rfl, rfl, hstep.2.2.1, hstep.2.2.2.1, hstep.2.2.2.2.1, hstep.2.2.2.2.2.1, hstep, HU.set _ _, HO.setCell _ _⟩
        case measure => simp [intOf]; omega
      · rw [lg_out ys k (by have := Hl.out; omega), Int.zero_mul, Int.add_zero] at hstep Hz Hb Hand
        go_wp2
        go_roundw
        case rel =>
          rw [wrap_sub, Hz.out, Hb.out]
          exact ⟨k + 1, _, _, _, by omega, by go_num, rfl, rfl, hstep.2.2.1, hstep.2.2.2.1, hstep.2.2.2.2.1, hstep.2.2.2.2.2.1, hstep, HU.set _ _, HO.setCell _ _⟩
        case measure => simp [intOf]; omega
    · have hke : k = m + 1 := by omega
      have hd := HI
      rw [hke, ← hq.1] at hd
      have HD := hd.done
      rw [hq.1] at HD
      have HD := hide HD
      clear hke hd HI
      go_wp2
      go_ret
      exact ⟨⟨_, b, rfl, HU, HD.out.1, HD.out.2.1, hb0, hb1, HD.out.2.2.2.2.1, HD.out.2.2.2.2.2⟩, HO⟩
end Go.Proofs.Ytnchlckncknaiaa
/- Plain law of a quotient's limb (limb.digit). -/
namespace Go.Proofs.Ytnchlckncknaiaa

/-- What digit leans on: V in parts, U in parts. B is 2^32, P a power of it. -/
structure DigIn (U V P h h2 u2 u1 u0 : Int) : Prop where
  P0 : 0 < P
  h_lo : 2147483648 ≤ h
  h_hi : h < 4294967296
  h2_0 : 0 ≤ h2
  h2_1 : h2 < 4294967296
  u2_0 : 0 ≤ u2
  u1_0 : 0 ≤ u1 ∧ u1 < 4294967296
  u0_0 : 0 ≤ u0 ∧ u0 < 4294967296
  V1 : P * (h2 + 4294967296 * h) ≤ V
  V2 : V < P * (h2 + 4294967296 * h + 1)
  U1 : P * (u0 + 4294967296 * (u1 + 4294967296 * u2)) ≤ U
  U2 : U < P * (u0 + 4294967296 * (u1 + 4294967296 * u2) + 1)
  UV : U < 4294967296 * V

def Mend (U V h top g r : Int) : Prop := g * h + r = top ∧ 0 ≤ r ∧ r < 4294967296 ∧ 0 ≤ g ∧ g ≤ 4294967297 ∧ U < (g + 1) * V ∧ (g = 4294967297 → r + h < 4294967296)
/-- What is known behind the mending. -/
def Mended (U V g : Int) : Prop := 0 ≤ g ∧ g < 4294967296 ∧ U < (g + 1) * V ∧ (g - 1) * V ≤ U

section
variable {U V P h h2 u2 u1 u0 : Int}
theorem DigIn.vpos (d : DigIn U V P h h2 u2 u1 u0) : 0 < V := by
  have h1 := d.P0
  have h2' := d.h_lo
  have h3 := d.h2_0
  have : P * 1 ≤ P * (h2 + 4294967296 * h) := Int.mul_le_mul_of_nonneg_left (by omega) (by omega)
  have := d.V1
  omega
theorem DigIn.start (d : DigIn U V P h h2 u2 u1 u0) : Mend U V h (u2 * 4294967296 + u1) ((u2 * 4294967296 + u1) / h) ((u2 * 4294967296 + u1) % h) := by
  obtain ⟨P0, hl, hh, a0, a1, b0, b1, c0, V1, V2, U1, U2, UV⟩ := d
  have e := Int.mul_ediv_add_emod (u2 * 4294967296 + u1) h
  have r0 : 0 ≤ (u2 * 4294967296 + u1) % h := Int.emod_nonneg _ (by omega)
  have r1 : (u2 * 4294967296 + u1) % h < h := Int.emod_lt_of_pos _ (by omega)
  have g0 : 0 ≤ (u2 * 4294967296 + u1) / h := Int.ediv_nonneg (by omega) (by omega)
  generalize hg : (u2 * 4294967296 + u1) / h = g at *
  generalize (u2 * 4294967296 + u1) % h = r at *
  have hgh : h * g = g * h := Int.mul_comm _ _
  -- top < B (h + 1)
  have ht : u2 * 4294967296 + u1 < 4294967296 * (h + 1) := by
    have h1 : P * (u0 + 4294967296 * (u1 + 4294967296 * u2)) < P * (4294967296 * (h2 + 4294967296 * h + 1)) := by
      have : 4294967296 * V < P * (4294967296 * (h2 + 4294967296 * h + 1)) := by grind
      omega
    have h2' := Int.lt_of_mul_lt_mul_left h1 (by omega)
    omega
  have gB : g ≤ 4294967297 := by
    by_cases hc : g ≤ 4294967297
    · exact hc
    · have : 4294967298 * h ≤ g * h := Int.mul_le_mul_of_nonneg_right (by omega) (by omega)
      omega
  refine ⟨by omega, r0, by omega, g0, gB, ?_, ?_⟩
  · have h1 : u0 + 4294967296 * (u1 + 4294967296 * u2) + 1 ≤ (g + 1) * (4294967296 * h) := by
      have : (g + 1) * (4294967296 * h) = 4294967296 * (g * h) + 4294967296 * h := by grind
      omega
    have h3 : P * (u0 + 4294967296 * (u1 + 4294967296 * u2) + 1) ≤ P * ((g + 1) * (4294967296 * h)) := Int.mul_le_mul_of_nonneg_left h1 (by omega)
    have h4 : (g + 1) * (P * (h2 + 4294967296 * h)) ≤ (g + 1) * V := Int.mul_le_mul_of_nonneg_left V1 (by omega)
    have h5 : (g + 1) * (P * (h2 + 4294967296 * h)) = P * ((g + 1) * (4294967296 * h)) + (g + 1) * P * h2 := by grind
    have h6 : 0 ≤ (g + 1) * P * h2 := Int.mul_nonneg (Int.mul_nonneg (by omega) (by omega)) a0
    omega
  · intro hg7; subst hg7; omega
theorem Mend.go {top g r : Int} (d : DigIn U V P h h2 u2 u1 u0) (ht : top = u2 * 4294967296 + u1) (m : Mend U V h top g r)
    (hc : 4294967296 ≤ g ∨ r * 4294967296 + u0 < g * h2) :
    1 ≤ g ∧ (r + h < 4294967296 → Mend U V h top (g - 1) (r + h)) ∧ (4294967296 ≤ r + h → Mended U V (g - 1)) := by
  have vp := d.vpos
  obtain ⟨P0, hl, hh, a0, a1, b0, b1, c0, V1, V2, U1, U2, UV⟩ := d
  obtain ⟨m1, m2, m3, m4, m5, m6, m7⟩ := m
  have g1 : 1 ≤ g := by
    rcases hc with hc | hc
    · omega
    · by_cases hz : g = 0
      · subst hz; omega
      · omega
  have hU : U < g * V := by
    rcases hc with hc | hc
    · have : 4294967296 * V ≤ g * V := Int.mul_le_mul_of_nonneg_right hc (by omega)
      omega
    · have h1 : u0 + 4294967296 * (u1 + 4294967296 * u2) + 1 ≤ g * (h2 + 4294967296 * h) := by
        have : g * (h2 + 4294967296 * h) = g * h2 + 4294967296 * (g * h) := by grind
        omega
      have h3 : P * (u0 + 4294967296 * (u1 + 4294967296 * u2) + 1) ≤ P * (g * (h2 + 4294967296 * h)) := Int.mul_le_mul_of_nonneg_left h1 (by omega)
      have h4 : g * (P * (h2 + 4294967296 * h)) ≤ g * V := Int.mul_le_mul_of_nonneg_left V1 (by omega)
      have h5 : P * (g * (h2 + 4294967296 * h)) = g * (P * (h2 + 4294967296 * h)) := by grind
      omega
  have e1 : (g - 1) * h = g * h - h := by grind
  have e2 : (g - 1 + 1) * V = g * V := by grind
  refine ⟨g1, fun hr => ⟨by omega, by omega, hr, by omega, by omega, by omega, fun h => by omega⟩, fun hr => ?_⟩
  have g2 : g ≤ 4294967296 := by
    rcases Int.lt_or_le g 4294967297 with h | h
    · omega
    · have := m7 (by omega); omega
  refine ⟨by omega, by omega, by omega, ?_⟩
  -- (g - 1) V ≤ U, so all the more (g - 2) V
  have h1 : (g - 1) * (h2 + 4294967296 * h + 1) ≤ 4294967296 * top := by
    have e3 : (g - 1) * (h2 + 4294967296 * h + 1) = (g - 1) * (h2 + 1) + 4294967296 * ((g - 1) * h) := by grind
    have e4 : (g - 1) * (h2 + 1) ≤ 4294967295 * 4294967296 := Int.mul_le_mul (by omega) (by omega) (by omega) (by omega)
    omega
  have h2' : (g - 1) * V ≤ (g - 1) * (P * (h2 + 4294967296 * h + 1)) := Int.mul_le_mul_of_nonneg_left (by omega) (by omega)
  have h3 : P * ((g - 1) * (h2 + 4294967296 * h + 1)) ≤ P * (4294967296 * top) := Int.mul_le_mul_of_nonneg_left h1 (by omega)
  have h4 : (g - 1) * (P * (h2 + 4294967296 * h + 1)) = P * ((g - 1) * (h2 + 4294967296 * h + 1)) := by grind
  have h5 : P * (4294967296 * top) ≤ P * (u0 + 4294967296 * (u1 + 4294967296 * u2)) := Int.mul_le_mul_of_nonneg_left (by omega) (by omega)
  have h6 : (g - 1 - 1) * V = (g - 1) * V - V := by grind
  omega
theorem Mend.stop {top g r : Int} (d : DigIn U V P h h2 u2 u1 u0) (ht : top = u2 * 4294967296 + u1) (m : Mend U V h top g r)
    (hc : g < 4294967296) (hc2 : g * h2 ≤ r * 4294967296 + u0) : Mended U V g := by
  have vp := d.vpos
  obtain ⟨P0, hl, hh, a0, a1, b0, b1, c0, V1, V2, U1, U2, UV⟩ := d
  obtain ⟨m1, m2, m3, m4, m5, m6, m7⟩ := m
  refine ⟨m4, hc, m6, ?_⟩
  have h1 : g * (h2 + 4294967296 * h) ≤ u0 + 4294967296 * (u1 + 4294967296 * u2) := by
    have : g * (h2 + 4294967296 * h) = g * h2 + 4294967296 * (g * h) := by grind
    omega
  have h3 : P * (g * (h2 + 4294967296 * h)) ≤ P * (u0 + 4294967296 * (u1 + 4294967296 * u2)) := Int.mul_le_mul_of_nonneg_left h1 (by omega)
  have h4 : g * V ≤ g * (P * (h2 + 4294967296 * h + 1)) := Int.mul_le_mul_of_nonneg_left (by omega) (by omega)
  have h5 : g * (P * (h2 + 4294967296 * h + 1)) = P * (g * (h2 + 4294967296 * h)) + P * g := by grind
  have h6 : P * g ≤ P * (h2 + 4294967296 * h) := Int.mul_le_mul_of_nonneg_left (by omega) (by omega)
  have h7 : (g - 1) * V = g * V - V := by grind
  omega
end
end Go.Proofs.Ytnchlckncknaiaa
/- limb.digit. -/
namespace Go.Proofs.Ytnchlckncknaiaa
open Go.RowKit

theorem sv_range {cur : List Int} (h : Lim cur) (off : Nat) : ∀ k, 0 ≤ sv cur off k ∧ sv cur off k < pw k
  | 0 => by simp [sv, pw_zero]
  | k + 1 => by
    have ih := sv_range h off k
    have b := lg_lim h (off + k)
    have p := pw_pos k
    simp only [sv, pw_succ]
    have h1 : 0 ≤ pw k * lg cur (off + k) := Int.mul_nonneg (by omega) b.1
    have h2 : pw k * lg cur (off + k) ≤ pw k * 4294967295 := Int.mul_le_mul_of_nonneg_left (by omega) (by omega)
    omega
theorem digIn_of {cur ys : List Int} {off p : Nat} (hc : Lim cur) (hy : Lim ys) (hl : ys.length = p + 2) (htop : 2147483648 ≤ lg ys (p + 1)) (hU : sv cur off (p + 3) < 4294967296 * val ys) :
    DigIn (sv cur off (p + 3)) (val ys) (pw p) (lg ys (p + 1)) (lg ys p) (lg cur (off + (p + 2))) (lg cur (off + (p + 1))) (lg cur (off + p)) := by
  have e : val ys = val (ys.take p) + pw p * lg ys p + pw (p + 1) * lg ys (p + 1) := by
    have h := val_take_lg ys (p + 1)
    rw [List.take_of_length_le (by omega), val_take_lg] at h
    exact h
  have b := lg_lim hy
  have bc := lg_lim hc
  have r := sv_range hc off p
  have v0 := val_nonneg (hy.take p)
  have v1 := val_lt (hy.take p)
  rw [List.length_take, Nat.min_eq_left (by omega)] at v1
  have pp := pw_pos p
  have eU : sv cur off (p + 3) = sv cur off p + pw p * (lg cur (off + p) + 4294967296 * (lg cur (off + (p + 1)) + 4294967296 * lg cur (off + (p + 2)))) := by
    simp only [sv, pw_succ]; grind
  have eV : val ys = val (ys.take p) + pw p * (lg ys p + 4294967296 * lg ys (p + 1)) := by
    rw [e, pw_succ]; grind
  have e5 : ∀ X : Int, pw p * (X + 1) = pw p * X + pw p := fun X => by grind
  refine ⟨pp, htop, (b _).2, (b _).1, (b _).2, (bc _).1, bc _, bc _, ?_, ?_, ?_, ?_, hU⟩
  · omega
  · rw [e5]; omega
  · omega
  · rw [eU, e5]; omega

/-- Once is added back. -/
def BackInv (cur cur' : List Int) (off : Nat) (ys : List Int) (k : Nat) (c : Int) : Prop :=
  cur'.length = cur.length ∧ Lim cur' ∧ 0 ≤ c ∧ c ≤ 1 ∧ sv cur' off k + pw k * c = sv cur off k + val (ys.take k) ∧ (∀ j, j < off ∨ off + k ≤ j → lg cur' j = lg cur j)
theorem BackInv.start {cur : List Int} (h : Lim cur) (off : Nat) (ys : List Int) : BackInv cur cur off ys 0 0 := ⟨rfl, h, by omega, by omega, by simp [sv, val], fun _ _ => rfl⟩
theorem BackInv.step {cur cur' : List Int} {off : Nat} {ys : List Int} {k : Nat} {c : Int} (h : BackInv cur cur' off ys k c) (hy : Lim ys) (hk : off + k < cur.length) :
    BackInv cur (cur'.set (off + k) ((c + lg cur' (off + k) + lg ys k) % 4294967296)) off ys (k + 1) ((c + lg cur' (off + k) + lg ys k) / 4294967296) := by
  obtain ⟨h1, h2, h3, h4, h5, h6⟩ := h
  have bu := lg_lim h2 (off + k)
  have by_ := lg_lim hy k
  refine ⟨by simpa using h1, h2.set _ (by omega), by omega, by omega, ?_, ?_⟩
  · have e1 : sv (cur'.set (off + k) ((c + lg cur' (off + k) + lg ys k) % 4294967296)) off k = sv cur' off k := sv_congr k (fun j _ hj => lg_set_ne _ _ _ _ (by omega))
    simp only [sv]
    rw [e1, lg_set_eq _ _ _ (by omega), val_take_lg, pw_succ, ← h6 (off + k) (by omega)]
    have e := Int.mul_ediv_add_emod (c + lg cur' (off + k) + lg ys k) 4294967296
    generalize (c + lg cur' (off + k) + lg ys k) / 4294967296 = q at *
    generalize (c + lg cur' (off + k) + lg ys k) % 4294967296 = r at *
    grind
  · intro j hj
    rw [lg_set_ne _ _ _ _ (by omega)]; exact h6 j (by omega)

theorem digit_back {cur c1 ct ys : List Int} {off p : Nat} {U V q cy : Int} (hcur : Lim cur) (hlim1 : Lim c1) (hl : ys.length = p + 2) (M : Mended U V q) (hU : sv cur off (p + 3) = U) (hV : val ys = V)
    (e2 : sv c1 off (p + 3) = U - q * V + pw (p + 3)) (B : BackInv c1 ct off ys (p + 3) cy) :
    sv ct off (p + 3) = U - (q - 1) * V ∧ 0 ≤ sv ct off (p + 3) ∧ sv ct off (p + 3) < V ∧ 0 ≤ q - 1 ∧ q - 1 < 4294967296 := by
  obtain ⟨k1, k2, k3, k4, k5, k6⟩ := B
  rw [List.take_of_length_le (by omega), hV, e2] at k5
  have h2 : (q - 1) * V = q * V - V := by grind
  have hr := sv_range k2 off (p + 3)
  have hu0 := sv_range hcur off (p + 3)
  have hb4 := (sv_range hlim1 off (p + 3)).2
  rw [e2] at hb4
  rw [hU] at hu0
  have m4 := M.2.2.2
  have m1 := M.1
  have m2 := M.2.1
  clear M k6 k2
  generalize pw (p + 3) = P at *
  generalize sv ct off (p + 3) = S at *
  have hcy : cy = 1 := by
    rcases (by omega : cy = 0 ∨ cy = 1) with h | h
    · subst h; omega
    · exact h
  subst hcy
  have hq1 : 1 ≤ q := by
    rcases Int.lt_or_le q 1 with h | h
    · have : q = 0 := by omega
      subst this; omega
    · exact h
  refine ⟨by omega, by omega, by omega, by omega, by omega⟩

set_option maxHeartbeats 8000000 in
set_option maxRecDepth 100000 in
theorem digit_calls {w : World} {g off p c d : Nat} {cur ys : List Int} {B : Option Addr} (hu : UB w g cur) (hcur : Lim cur) (hoff : off + (p + 3) ≤ cur.length) (hq : RdU w B (p + 2) ys) (hfar : Far g B) (hy : Lim ys) (hm : p ≤ 1099511610000)
    (htop : 2147483648 ≤ lg ys (p + 1)) (hU : sv cur off (p + 3) < 4294967296 * val ys) :
    Calls Try.prog 172 #[.slice (some ⟨g, off, none⟩) (p + 3) c, .slice B (p + 2) d] w fun e w' => (∃ cur' q, e = .returned (.int .u32 q) ∧ UB w' g cur' ∧ cur'.length = cur.length ∧ Lim cur' ∧ 0 ≤ q ∧ q < 4294967296 ∧ sv cur' off (p + 3) = sv cur off (p + 3) - q * val ys ∧ 0 ≤ sv cur' off (p + 3) ∧ sv cur' off (p + 3) < val ys ∧ (∀ j, j < off ∨ off + (p + 3) ≤ j → lg cur' j = lg cur j)) ∧ Only g w w' := by
  have D := digIn_of hcur hy hq.1 htop hU
  have M0 := D.start
  have b2 := lg_lim hcur (off + (p + 2))
  have b1 := lg_lim hcur (off + (p + 1))
  have b0 := lg_lim hcur (off + p)
  have bh := lg_lim hy (p + 1)
  have bh2 := lg_lim hy p
  have hcu2 := hu.cell (j := off + (p + 2)) (by omega)
  have hcu1 := hu.cell (j := off + (p + 1)) (by omega)
  have hcu0 := hu.cell (j := off + p) (by omega)
  obtain ⟨vb, vo, rfl, hcv⟩ := hq.2 (by omega)
  have hcv1 := hcv (p + 1) (by omega)
  have hcv2 := hcv p (by omega)
  clear hcv
  have Hor := or_hi (lg cur (off + (p + 2))) (lg cur (off + (p + 1))) b2.1 b2.2 b1.1 b1.2
  have hh0 : (lg ys (p + 1) == 0) = false := by simp; omega
  go_enter Try.func172, Try.ntmps172
  go_wp2
  go_step3
  go_wp2
  go_quiet (fail)
  go_wp2
  go_quiet (fail)
  go_wp2
  go_step3
  go_upto_block 0 with fail
  have HD := hide D
  have HM := hide M0
  clear D M0
  have HDV := hide (show (∀ x : Int, Mended (sv cur off (p + 3)) (val ys) x → Mended (sv cur off (p + 3)) (val ys) x) from fun _ h => h)
  generalize hU' : sv cur off (p + 3) = U at *
  generalize hV' : val ys = V at *
  generalize hP' : pw p = P at *
  have HU' := hide hU'
  have HV' := hide hV'
  clear hU' hV' hP'
  rw [show p + 2 - 1 = p + 1 from rfl]
  go_cut [7, 8] (fun gq re wx => ∃ q r : Int, gq = .int .u64 q ∧ re = .int .u64 r ∧ Mended U V q ∧ Drawn w wx)
  case first =>
    go_wp2_with fail
    go_loopw [7, 8] (fun gq re wx => ∃ q r : Int, gq = .int .u64 q ∧ re = .int .u64 r ∧ 0 ≤ q ∧ q ≤ 4294967297 ∧ 0 ≤ r ∧ r < 4294967296 ∧ Mend U V (lg ys (p + 1)) (lg cur (off + (p + 2)) * 4294967296 + lg cur (off + (p + 1))) q r ∧ Drawn w wx) (fun gq _ _ => (intOf gq).toNat)
    case atStart =>
      have m := HM.out
      exact ⟨_, _, rfl, rfl, m.2.2.2.1, m.2.2.2.2.1, m.2.1, m.2.2.1, m, by first | exact ⟨_, rfl⟩ | exact Drawn.drewN ⟨_, rfl⟩ _⟩
    case round =>
      obtain ⟨q, r, rfl, rfl, hq0, hq1, hr0, hr1, M, ⟨k, rfl⟩⟩ := hrel
      have HK : Drawn w (w.drewN k) := ⟨k, rfl⟩
      have HMq := hide M
      clear M
      have Hor2 := or_hi r (lg cur (off + p)) hr0 hr1 b0.1 b0.2
      by_cases c1 : 4294967296 ≤ q
      · have d1 : decide (0 < q / 4294967296) = true := by simp; omega
        have HG := hide (HMq.out.go HD.out rfl (.inl c1))
        have hq1' := HG.out.1
        by_cases c3 : 4294967296 ≤ r + lg ys (p + 1)
        · have d3 : decide (0 < (r + lg ys (p + 1)) / 4294967296) = true := by simp; omega
          go_wp2
          go_quiet (fail)
          go_wp2
          go_meet
          case rel => exact ⟨_, _, rfl, rfl, HG.out.2.2 c3, by first | exact ⟨_, rfl⟩ | exact HK.drewN _⟩
        · have d3 : decide (0 < (r + lg ys (p + 1)) / 4294967296) = false := by simp; omega
          go_wp2
          go_quiet (fail)
          go_wp2
          go_roundw
          case rel =>
            have m := HG.out.2.1 (by omega)
            exact ⟨_, _, rfl, rfl, by omega, by omega, m.2.1, m.2.2.1, m, by first | exact ⟨_, rfl⟩ | exact HK.drewN _⟩
          case measure => simp [intOf]; omega
      · have d1 : decide (0 < q / 4294967296) = false := by simp; omega
        have bp := mul_bound (x := q) (y := lg ys p) (c := 0) (o := 0) ⟨hq0, by omega⟩ bh2 (by omega) (by omega)
        have bp1 := bp.1
        have bp2 := bp.2.1
        clear bp
        by_cases c2 : r * 4294967296 + lg cur (off + p) < q * lg ys p
        · have d2 : decide (r * 4294967296 + lg cur (off + p) < q * lg ys p) = true := by simpa using c2
          have HG := hide (HMq.out.go HD.out rfl (.inr c2))
          have hq1' := HG.out.1
          by_cases c3 : 4294967296 ≤ r + lg ys (p + 1)
          · have d3 : decide (0 < (r + lg ys (p + 1)) / 4294967296) = true := by simp; omega
            go_wp2
            go_quiet (fail)
            go_wp2
            go_meet
            case rel => exact ⟨_, _, rfl, rfl, HG.out.2.2 c3, by first | exact ⟨_, rfl⟩ | exact HK.drewN _⟩
          · have d3 : decide (0 < (r + lg ys (p + 1)) / 4294967296) = false := by simp; omega
            go_wp2
            go_quiet (fail)
            go_wp2
            go_roundw
            case rel =>
              have m := HG.out.2.1 (by omega)
              exact ⟨_, _, rfl, rfl, by omega, by omega, m.2.1, m.2.2.1, m, by first | exact ⟨_, rfl⟩ | exact HK.drewN _⟩
            case measure => simp [intOf]; omega
        · have d2 : decide (r * 4294967296 + lg cur (off + p) < q * lg ys p) = false := by simpa using c2
          have HS := hide (HMq.out.stop HD.out rfl (by omega) (by omega))
          go_wp2
          go_quiet (fail)
          go_wp2
          go_meet
          case rel => exact ⟨_, _, rfl, rfl, HS.out, by first | exact ⟨_, rfl⟩ | exact HK.drewN _⟩
  case rest =>
    obtain ⟨q, r, rfl, rfl, HMq, ⟨k, rfl⟩⟩ := hcut
    have hq0 := HMq.1
    have hq1 := HMq.2.1
    have HM2 := hide HMq
    clear HMq
    go_wp2_with fail
    refine (less_calls (m := p + 2) (T := q) (show UB (w.drewN k) g cur from hu) hcur hoff hq hfar hy ⟨hq0, hq1⟩ (by omega)).mono ?_
    rintro e w1 ⟨⟨c1, bo, rfl, hu1, hl1, hlim1, hb0, hb1, hs1, ho1⟩, hO1⟩
    have HS1 := hide hs1
    have HL1 := hide hl1
    have HO1 := hide ho1
    clear hs1 hl1 ho1
    have hOnly : Only g w w1 := Only.trans (Only.drewN (Only.refl g w) k) hO1
    by_cases hbz : bo = 0
    · have d1 : decide (0 < bo) = false := by simp; omega
      go_wp2
      rw [Exit.noGoto_ret]
      go_ret
      have e : sv c1 off (p + 3) = U - q * V := by
        have h := HS1.out
        rw [hbz, show p + 2 + 1 = p + 3 from rfl, HU'.out, HV'.out] at h
        omega
      have M := HM2.out
      have h2 : (q + 1) * V = q * V + V := by grind
      have hr := sv_range hlim1 off (p + 3)
      exact ⟨⟨c1, q, rfl, hu1, HL1.out, hlim1, hq0, hq1, by rw [HU'.out, HV'.out]; exact e, hr.1, by rw [e, HV'.out]; have := M.2.2.1; omega, HO1.out⟩, hOnly⟩
    · have hbz1 : bo = 1 := by omega
      have d1 : decide (0 < bo) = true := by simp; omega
      have hone : 1 ≤ q ∧ sv c1 off (p + 3) = U - q * V + pw (p + 3) := by
        have h := HS1.out
        rw [hbz1, show p + 2 + 1 = p + 3 from rfl, HU'.out, HV'.out, Int.mul_one] at h
        have hr := sv_range hlim1 off (p + 3)
        have hu0 := sv_range hcur off (p + 3)
        rw [HU'.out] at hu0
        refine ⟨?_, by omega⟩
        rcases Int.lt_or_le q 1 with hq | hq
        · have : q = 0 := by omega
          subst this; omega
        · exact hq
      have hq2 := hone.1
      have HS2 := hide hone.2
      clear hone hbz
      have Hbz := hide hbz1
      clear hbz1
      go_wp2
      go_loopw [9, 89] (fun ca i wx => ∃ (j : Nat) (cy : Int) (ct : List Int), j ≤ p + 3 ∧ i = .int .i64 j ∧ ca = .int .u64 cy ∧ 0 ≤ cy ∧ cy ≤ 1 ∧ BackInv c1 ct off ys j cy ∧ UB wx g ct ∧ Only g w wx) (fun _ i _ => p + 3 - (intOf i).toNat)
      case atStart => exact ⟨0, 0, c1, by omega, rfl, rfl, by omega, by omega, BackInv.start hlim1 off ys, hu1, hOnly⟩
      case round =>
        obtain ⟨j, cy, ct, hj, rfl, rfl, hc0, hc1, HI, HU, HO⟩ := hrel
        have hzl := hide (HI.1.trans HL1.out)
        by_cases hlt : j < p + 3
        · have hf := HU.frozen (off + j)
          have hce := HU.cell (j := off + j) (by have := hzl.out; omega)
          have bu := lg_lim HI.2.1 (off + j)
          have by_ := lg_lim hy j
          have hstep := HI.step hy (by have := HL1.out; omega)
          have Hl := hide hq.1
          by_cases hlt2 : j < p + 2
          · obtain ⟨_, _, he, hcell2⟩ := (hq.only hfar HO).at_ hlt2
            injection he with he; injection he with e1 e2; subst e1; subst e2
            go_wp2
            go_roundw
            case rel => exact ⟨j + 1, _, _, by omega, by go_num, rfl, hstep.2.2.1, hstep.2.2.2.1, hstep, HU.set _ _, HO.setCell _ _⟩
            case measure => simp [intOf]; omega
          · rw [lg_out ys j (by have := Hl.out; omega), Int.add_zero] at hstep
            go_wp2
            go_roundw
            case rel => exact ⟨j + 1, _, _, by omega, by go_num, rfl, hstep.2.2.1, hstep.2.2.2.1, hstep, HU.set _ _, HO.setCell _ _⟩
            case measure => simp [intOf]; omega
        · have hje : j = p + 3 := by omega
          have hd := HI
          rw [hje] at hd
          have HD3 := hide hd
          clear hje hd HI
          go_wp2
          rw [Exit.noGoto_ret]
          go_ret
          have HE := digit_back hcur hlim1 hq.1 HM2.out HU'.out HV'.out HS2.out HD3.out
          rw [HU'.out, HV'.out]
          exact ⟨⟨ct, q - 1, rfl, HU, HD3.out.1.trans HL1.out, HD3.out.2.1, HE.2.2.2.1, HE.2.2.2.2, HE.1, HE.2.1, HE.2.2.1, fun i hi => (HD3.out.2.2.2.2.2 i hi).trans (HO1.out i hi)⟩, HO⟩
end Go.Proofs.Ytnchlckncknaiaa
