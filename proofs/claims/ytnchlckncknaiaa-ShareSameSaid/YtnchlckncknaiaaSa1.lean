/- Words and contracts that the claim's last text uses: part 1. -/
import Derived.Test.YtnchlckncknaiaaSa0
import Derived.Lib.ItoaNum
import Derived.Shelf.Small.Bits
import Derived.Shelf.Strconv.Itoa0
import Derived.Ground.Names2Prog
import Derived.Shelf.Slices.Clone
import Derived.Shelf.Slices.CompactI
import Derived.Shelf.Slices.SearchI
import Derived.Shelf.Slices.Cells
import Derived.Ground.SlgnProg
import Derived.Shelf.SlicesE.Clone
import Derived.Test.YtnchlckncknaiaaProg
import Derived.Maps.AppendAt
/- limb.Shr. -/
namespace Go.Proofs.Ytnchlckncknaiaa
open Go.RowKit

def shrAt (xs : List Int) (b j : Nat) : Int := ((lg xs j + lg xs (j + 1) * 4294967296) / 2 ^ b) % 4294967296
theorem shr_one {x h T' : Int} {b : Nat} (hb : b < 32) (hx : 0 ≤ x ∧ x < 4294967296) :
    ((x + h * 4294967296) / 2 ^ b) % 4294967296 + 4294967296 * ((h + 4294967296 * T') / 2 ^ b) = (x + 4294967296 * (h + 4294967296 * T')) / 2 ^ b := by
  obtain ⟨m, hm⟩ : ∃ m : Int, m = (2 : Int) ^ (32 - b) := ⟨_, rfl⟩
  have hB : (4294967296 : Int) = 2 ^ b * m := by
    rw [hm, ← Int.pow_add, show b + (32 - b) = 32 by omega]; rfl
  have hp := two_pos b
  have hmp : 0 < m := by rw [hm]; exact two_pos _
  generalize (2 : Int) ^ b = P at *
  have e1 : (x + h * 4294967296) / P = x / P + m * h := by
    rw [hB, show x + h * (P * m) = x + P * (m * h) by grind, Int.add_mul_ediv_left _ _ (by omega)]
  have e2 : (x + 4294967296 * (h + 4294967296 * T')) / P = x / P + m * (h + 4294967296 * T') := by
    conv => lhs; rw [show x + 4294967296 * (h + 4294967296 * T') = x + P * (m * (h + 4294967296 * T')) by rw [← Int.mul_assoc, ← hB]]
    rw [Int.add_mul_ediv_left _ _ (by omega)]
  have e3 : (h + 4294967296 * T') / P = h / P + m * T' := by
    conv => lhs; rw [show h + 4294967296 * T' = h + P * (m * T') by rw [← Int.mul_assoc, ← hB]]
    rw [Int.add_mul_ediv_left _ _ (by omega)]
  have d1 := Int.mul_ediv_add_emod h P
  have b1 : 0 ≤ h % P := Int.emod_nonneg _ (by omega)
  have b2 : h % P < P := Int.emod_lt_of_pos _ hp
  have x1 : 0 ≤ x / P := Int.ediv_nonneg hx.1 (by omega)
  have x2 : x / P < m := Int.ediv_lt_of_lt_mul hp (by rw [Int.mul_comm, ← hB]; exact hx.2)
  have hr : x / P + m * h = (x / P + m * (h % P)) + 4294967296 * (h / P) := by
    conv => lhs; rw [← d1]
    rw [hB]; grind
  have hlt : m * (h % P) ≤ m * (P - 1) := Int.mul_le_mul_of_nonneg_left (by omega) (by omega)
  have hge : 0 ≤ m * (h % P) := Int.mul_nonneg (by omega) b1
  have hmul : m * (P - 1) = 4294967296 - m := by rw [hB]; grind
  rw [e1, e2, e3, hr, Int.add_mul_emod_self_left, Int.emod_eq_of_lt (by omega) (by omega)]
  have : m * h = m * (h % P) + 4294967296 * (h / P) := by omega
  grind
theorem val_shr (b : Nat) (hb : b < 32) : ∀ (xs zs : List Int), Lim xs → zs.length = xs.length → (∀ j, j < xs.length → lg zs j = shrAt xs b j) → val zs = val xs / 2 ^ b
  | [], zs, _, hl, _ => by
    have := List.eq_nil_of_length_eq_zero (by simpa using hl); subst this; simp [val]
  | x :: t, [], _, hl, _ => by simp at hl
  | x :: t, z :: zt, hx, hl, h => by
    obtain ⟨h1, h2⟩ := hx.cons
    have ih := val_shr b hb t zt h2 (by simpa using hl) (fun j hj => by
      have := h (j + 1) (by simp; omega)
      exact this)
    have h0 := h 0 (by simp)
    have hz : z = ((x + lg t 0 * 4294967296) / 2 ^ b) % 4294967296 := h0
    simp only [val]
    rw [ih, hz]
    cases t with
    | nil =>
      have := shr_one (x := x) (h := 0) (T' := 0) hb h1
      simpa [val, lg] using this
    | cons y t' =>
      have := shr_one (x := x) (h := y) (T' := val t') hb h1
      simpa [val, lg] using this
def ShrInv (xs zs : List Int) (b i : Nat) : Prop := zs.length = xs.length ∧ Lim zs ∧ ∀ j, j < i → lg zs j = shrAt xs b j
theorem shrAt_lim (xs : List Int) (b j : Nat) : 0 ≤ shrAt xs b j ∧ shrAt xs b j < 4294967296 := by unfold shrAt; omega
theorem ShrInv.start (xs : List Int) (b : Nat) : ShrInv xs (List.replicate xs.length 0) b 0 := ⟨by simp, Lim.replicate _, fun j hj => by omega⟩
theorem ShrInv.step {xs zs : List Int} {b i : Nat} (h : ShrInv xs zs b i) (hi : i < xs.length) : ShrInv xs (zs.set i (shrAt xs b i)) b (i + 1) := by
  obtain ⟨h1, h2, h3⟩ := h
  refine ⟨by simpa using h1, h2.set _ (shrAt_lim xs b i), fun j hj => ?_⟩
  by_cases e : i = j
  · subst e; exact lg_set_eq _ _ _ (by omega)
  · rw [lg_set_ne _ _ _ _ e]; exact h3 j (by omega)
theorem lg_drop (xs : List Int) (q j : Nat) : lg (xs.drop q) j = lg xs (q + j) := by simp [lg]
theorem val_drop_div (xs : List Int) (hx : Lim xs) (q : Nat) : val (xs.drop q) = val xs / pw q := by
  have hp := pw_pos q
  by_cases h : q ≤ xs.length
  · have e := val_take_drop xs q h
    have b0 := val_nonneg (hx.take q)
    have b1 := val_lt (hx.take q)
    rw [List.length_take, Nat.min_eq_left h] at b1
    rw [e, Int.add_mul_ediv_left _ _ (by omega), Int.ediv_eq_zero_of_lt b0 b1]; omega
  · rw [List.drop_eq_nil_of_le (by omega)]
    have b0 := val_nonneg hx
    have b1 := val_lt hx
    have := pw_mono (show xs.length ≤ q by omega)
    rw [Int.ediv_eq_zero_of_lt b0 (by omega)]; rfl
theorem pw_two (n : Nat) : pw (n / 32) * (2 : Int) ^ (n % 32) = 2 ^ n := by
  unfold pw
  have e : (4294967296 : Int) = 2 ^ 32 := by decide
  rw [e, ← Int.pow_mul, ← Int.pow_add, Nat.div_add_mod]
theorem ShrInv.done {xs zs : List Int} (hx : Lim xs) {n : Nat} (h : ShrInv (xs.drop (n / 32)) zs (n % 32) (xs.length - n / 32)) :
    Lim zs ∧ val zs = val xs / 2 ^ n ∧ zs.length = xs.length - n / 32 := by
  obtain ⟨h1, h2, h3⟩ := h
  rw [List.length_drop] at h1
  refine ⟨h2, ?_, h1⟩
  rw [val_shr (n % 32) (Nat.mod_lt _ (by omega)) (xs.drop (n / 32)) zs (hx.drop _) (by rw [List.length_drop]; exact h1) (fun j hj => h3 j (by rwa [List.length_drop] at hj)), val_drop_div xs hx,
    Int.ediv_ediv_of_nonneg (Int.le_of_lt (pw_pos _)), pw_two]

set_option maxHeartbeats 4000000 in
set_option maxRecDepth 100000 in
theorem shr_calls {w : World} {u : Value} {xs : List Int} {n : Nat} (hu : SlU w u xs) (hx : Lim xs) (hn : xs.length ≤ 1099511620000) (hn2 : n ≤ 9223372036854775807) :
    Calls Try.prog 173 #[u, .int .i64 (n : Int)] w fun e w' => (∃ v' zs, e = .returned (.tuple #[v', .int .i64 0]) ∧ SlU w' v' (trimL zs) ∧ Lim zs ∧ val zs = val xs / 2 ^ n ∧ zs.length ≤ xs.length) ∧ Below w.heap.size w w' := by
  have HT := hide (trim_calls hu (by omega))
  have hl := trimL_le xs
  have Hv := hide (trimL_val xs)
  have hlim := (trimL_nrm hx).1
  obtain ⟨A, cp, rfl, hcp, hr⟩ := hu
  generalize hps : trimL xs = ps at *
  clear hps
  go_enter Try.func173, Try.ntmps173
  go_wp2_with fail
  refine HT.out.mono ?_
  clear HT
  rintro e w1 ⟨⟨v1, rfl, h1⟩, rfl⟩
  obtain ⟨A1, c1, rfl, hc1, hr1⟩ := h1
  by_cases hq : ps.length ≤ n / 32
  · go_wp2
    go_ret2
    refine ⟨⟨_, [], rfl, ⟨none, 0, rfl, Nat.le_refl _, RdU.nil _ _⟩, Lim.nil, ?_, by simp⟩, Below.refl _ _⟩
    rw [← Hv.out, ← pw_two n, ← Int.ediv_ediv_of_nonneg (Int.le_of_lt (pw_pos _)), ← val_drop_div ps hlim, List.drop_eq_nil_of_le hq]
    simp [val]
  have hL : ps.length - n / 32 = (ps.drop (n / 32)).length := by simp
  have HL := hide hL
  clear hL
  obtain ⟨b1, o1, rfl, _⟩ := hr1.at_ (j := 0) (by omega)
  have hmk := make_u32 (ps.length - n / 32) (by omega)
  have hb0 : Below w1.heap.size w1 (w1.alloc (.cells (madeCells #[.int .u32 0] (ps.length - n / 32)) 153)) := (Below.refl _ _).alloc (Nat.le_refl _) _
  have hub := UB.made w1 (ps.length - n / 32)
  go_wp2
  clear hmk
  go_loopw [31] (fun i wr => ∃ (k : Nat) (zs : List Int), k ≤ ps.length - n / 32 ∧ i = .int .i64 k ∧ ShrInv (ps.drop (n / 32)) zs (n % 32) k ∧ UB wr w1.heap.size zs ∧ Below w1.heap.size w1 wr) (fun i _ => ps.length - n / 32 - (intOf i).toNat)
  case atStart => exact ⟨0, _, by omega, rfl, by have h := ShrInv.start (ps.drop (n / 32)) (n % 32); rw [← HL.out] at h; exact h, hub, hb0⟩
  case round =>
    obtain ⟨k, zs, hk, rfl, HI, HU, HB⟩ := hrel
    have hzl := hide (HI.1.trans HL.out.symm)
    by_cases hlt : k < ps.length - n / 32
    · obtain ⟨_, _, he, hcell1⟩ := (hr1.below HB).at_ (j := n / 32 + k) (by omega)
      injection he with he; injection he with e1 e2; subst e1; subst e2
      rw [← Nat.add_assoc] at hcell1
      have bx := lg_lim hlim (n / 32 + k)
      have bx2 := lg_lim hlim (n / 32 + k + 1)
      have hf := HU.frozen k
      have hce := HU.cell (j := k) (by have := hzl.out; omega)
      have hstep := HI.step (by have := HL.out; omega)
      have Hat : Hid (shrAt (ps.drop (n / 32)) (n % 32) k = ((lg ps (n / 32 + k) + lg ps (n / 32 + k + 1) * 4294967296) / 2 ^ (n % 32)) % 4294967296) := by
        unfold shrAt Hid; rw [lg_drop, lg_drop, Nat.add_assoc]
      by_cases hlt2 : k + 1 < ps.length - n / 32
      · obtain ⟨_, _, he, hcell2⟩ := (hr1.below HB).at_ (j := n / 32 + k + 1) (by omega)
        injection he with he; injection he with e1 e2; subst e1; subst e2
        rw [show o1 + (n / 32 + k + 1) = o1 + n / 32 + (k + 1) by omega] at hcell2
        have Hor := or_hi' (lg ps (n / 32 + k + 1)) (lg ps (n / 32 + k)) bx2.1 bx2.2 bx.1 bx.2
        go_wp2
        all_goals
          go_roundw
          case rel =>
            rw [Hat.out] at hstep
            exact ⟨k + 1, _, by omega, by go_num, hstep, HU.set _ _, HB.setCell (p := ⟨w1.heap.size, k, none⟩) (Nat.le_refl _) _⟩
          case measure => simp [intOf]; omega
      · rw [lg_out ps (n / 32 + k + 1) (by omega), Int.zero_mul, Int.add_zero] at Hat
        go_wp2
        all_goals
          go_roundw
          case rel =>
            rw [Hat.out] at hstep
            exact ⟨k + 1, _, by omega, by go_num, hstep, HU.set _ _, HB.setCell (p := ⟨w1.heap.size, k, none⟩) (Nat.le_refl _) _⟩
          case measure => simp [intOf]; omega
    · have hke : k = ps.length - n / 32 := by omega
      have hd := HI
      rw [hke] at hd
      have HD := hide (hd.done hlim)
      clear hke hd HI
      go_wp2_with fail
      have HT := trim_calls (HU.sl (c := ps.length - n / 32) HD.out.2.2 (Nat.le_refl _)) (by rw [HD.out.2.2]; omega)
      refine HT.mono ?_
      rintro e w2 ⟨⟨v1, rfl, h1⟩, rfl⟩
      go_wp2
      go_ret2
      exact ⟨⟨_, _, rfl, h1, HD.out.1, by rw [← Hv.out]; exact HD.out.2.1, by have := HD.out.2.2; omega⟩, HB⟩
end Go.Proofs.Ytnchlckncknaiaa
/- Plain law of long division (limb.DivMod). -/
namespace Go.Proofs.Ytnchlckncknaiaa

theorem len_of_val {zs : List Int} {n : Nat} (h : Nrm zs) (hl : pw n ≤ val zs) (hu : val zs < pw (n + 1)) : zs.length = n + 1 := by
  have b := val_lt h.1
  rcases Nat.lt_trichotomy zs.length (n + 1) with h1 | h1 | h1
  · have := pw_mono (show zs.length ≤ n by omega); omega
  · exact h1
  · have h2 := h.low (by intro e; subst e; simp at h1)
    have := pw_mono (show n + 1 ≤ zs.length - 1 by omega); omega
theorem top_ge {zs : List Int} {n : Nat} (h : Lim zs) (hl : zs.length = n + 1) (hv : 2147483648 * pw n ≤ val zs) : 2147483648 ≤ lg zs n := by
  have e := val_take_lg zs n
  rw [List.take_of_length_le (by omega)] at e
  have b := val_lt (h.take n)
  rw [List.length_take, Nat.min_eq_left (by omega)] at b
  rcases Int.lt_or_le (lg zs n) 2147483648 with h1 | h1
  · have : pw n * lg zs n ≤ pw n * 2147483647 := Int.mul_le_mul_of_nonneg_left (by omega) (Int.le_of_lt (pw_pos n))
    omega
  · exact h1
theorem bitLen_top {x : Int} (h0 : 0 < x) (h1 : x < 4294967296) :
    Lib.bitLen x.toNat ≤ 32 ∧ 1 ≤ Lib.bitLen x.toNat ∧ 2147483648 ≤ x * 2 ^ (32 - Lib.bitLen x.toNat) ∧ (x + 1) * 2 ^ (32 - Lib.bitLen x.toNat) ≤ 4294967296 := by
  obtain ⟨X, rfl⟩ := Int.eq_ofNat_of_zero_le (Int.le_of_lt h0)
  rw [Int.toNat_natCast]
  obtain ⟨b1, b2, b3⟩ := Lib.bitLenAux_bounds 64 X (by omega) (by omega)
  change 1 ≤ Lib.bitLen X at b1
  change 2 ^ (Lib.bitLen X - 1) ≤ X at b2
  change X < 2 ^ Lib.bitLen X at b3
  generalize Lib.bitLen X = b at *
  have hb : b ≤ 32 := by
    rcases Nat.lt_or_ge 32 b with h | h
    · have : 2 ^ 32 ≤ 2 ^ (b - 1) := Nat.pow_le_pow_right (by omega) (by omega)
      omega
    · exact h
  refine ⟨hb, b1, ?_, ?_⟩
  · have e : 2 ^ (b - 1) * 2 ^ (32 - b) = 2 ^ 31 := by rw [← Nat.pow_add]; congr 1; omega
    have : 2 ^ (b - 1) * 2 ^ (32 - b) ≤ X * 2 ^ (32 - b) := Nat.mul_le_mul_right _ b2
    have e2 : ((X * 2 ^ (32 - b) : Nat) : Int) = (X : Int) * 2 ^ (32 - b) := by rw [Int.natCast_mul, Int.natCast_pow]; rfl
    omega
  · have e : 2 ^ b * 2 ^ (32 - b) = 2 ^ 32 := by rw [← Nat.pow_add]; congr 1; omega
    have : (X + 1) * 2 ^ (32 - b) ≤ 2 ^ b * 2 ^ (32 - b) := Nat.mul_le_mul_right _ b3
    have e2 : (((X + 1) * 2 ^ (32 - b) : Nat) : Int) = ((X : Int) + 1) * 2 ^ (32 - b) := by rw [Int.natCast_mul, Int.natCast_pow]; rfl
    omega
/-- What is shifted up. -/
theorem shift_up {ps zs : List Int} {n : Nat} (hp : Nrm ps) (hl : ps.length = n + 1) (hz : Nrm zs) (hv : val zs = val ps * 2 ^ (32 - Lib.bitLen (lg ps n).toNat)) :
    zs.length = n + 1 ∧ 2147483648 ≤ lg zs n := by
  have bt := lg_lim hp.1 n
  have ht : 0 < lg ps n := by
    have h := hp.2.resolve_left (by intro e; subst e; simp at hl)
    rw [hl] at h
    have : lg ps n ≠ 0 := h
    omega
  obtain ⟨h1, h2, h3, h4⟩ := bitLen_top ht bt.2
  have e := val_take_lg ps n
  rw [List.take_of_length_le (by omega)] at e
  have b0 := val_nonneg (hp.1.take n)
  have b := val_lt (hp.1.take n)
  rw [List.length_take, Nat.min_eq_left (by omega)] at b
  generalize (32 - Lib.bitLen (lg ps n).toNat) = s at *
  have sp := two_pos s
  have pp := pw_pos n
  generalize (2 : Int) ^ s = S at *
  have g1 : pw n * 2147483648 ≤ pw n * (lg ps n * S) := Int.mul_le_mul_of_nonneg_left h3 (by omega)
  have g2 : pw n * ((lg ps n + 1) * S) ≤ pw n * 4294967296 := Int.mul_le_mul_of_nonneg_left h4 (by omega)
  have g3 : pw n * (lg ps n * S) ≤ val ps * S := by
    rw [← Int.mul_assoc]; exact Int.mul_le_mul_of_nonneg_right (by omega) (by omega)
  have g4 : val ps * S < pw n * ((lg ps n + 1) * S) := by
    rw [← Int.mul_assoc]
    exact Int.mul_lt_mul_of_pos_right (by rw [Int.mul_add]; omega) sp
  have hl2 : zs.length = n + 1 := len_of_val hz (by omega) (by rw [pw_succ]; omega)
  exact ⟨hl2, top_ge hz.1 hl2 (by omega)⟩

theorem sv_high {cur : List Int} {off n : Nat} (h : ∀ j, off + n ≤ j → lg cur j = 0) : ∀ m, n ≤ m → sv cur off m = sv cur off n
  | 0, hm => by have : n = 0 := by omega
                subst this; rfl
  | m + 1, hm => by
    by_cases e : n = m + 1
    · subst e; rfl
    · simp only [sv]
      rw [sv_high h m (by omega), h (off + m) (by omega)]; omega
theorem sv_split (cur : List Int) (off a : Nat) : ∀ b, sv cur off (a + b) = sv cur off a + pw a * sv cur (off + a) b
  | 0 => by simp [sv]
  | b + 1 => by
    rw [show a + (b + 1) = (a + b) + 1 by omega]
    simp only [sv]
    rw [sv_split cur off a b, pw_add, Nat.add_assoc]; grind
theorem sv_zero_val (cur : List Int) : sv cur 0 cur.length = val cur := by
  rw [sv_val, List.drop_zero, List.take_of_length_le (Nat.le_refl _)]

/-- Long division, the limbs of the quotient from k on being there. -/
def DivLoop (u0 V : Int) (cur qs : List Int) (n k : Nat) : Prop :=
  Lim cur ∧ Lim qs ∧ qs.length + n = cur.length ∧ k ≤ qs.length ∧ u0 = pw k * val (qs.drop k) * V + val cur ∧ sv cur k n < V ∧ ∀ j, k + n ≤ j → lg cur j = 0
theorem DivLoop.start {cur : List Int} {V : Int} {n m : Nat} (hc : Lim cur) (hl : m + (n + 1) = cur.length) (htop : lg cur (m + n) = 0) (hV : pw n ≤ V) : DivLoop (val cur) V cur (List.replicate m 0) (n + 1) m := by
  refine ⟨hc, Lim.replicate _, by simp; omega, by simp, ?_, ?_, fun j hj => lg_out _ _ (by omega)⟩
  · rw [List.drop_eq_nil_of_le (by simp)]; simp [val]
  · simp only [sv]
    rw [htop]
    have := sv_range hc m n
    omega
theorem DivLoop.below {u0 V : Int} {cur qs : List Int} {n k : Nat} (h : DivLoop u0 V cur qs (n + 1) (k + 1)) : sv cur k (n + 2) < 4294967296 * V := by
  obtain ⟨h1, h2, h3, h4, h5, h6, h7⟩ := h
  have e := sv_split cur k 1 (n + 1)
  rw [show 1 + (n + 1) = n + 2 by omega] at e
  have e1 : sv cur k 1 = lg cur k := by simp [sv, pw_zero]
  have e2 : pw 1 = 4294967296 := rfl
  have b := lg_lim h1 k
  rw [e, e1, e2]; omega
theorem DivLoop.step {u0 V : Int} {cur cur' qs : List Int} {n k : Nat} {q : Int} (h : DivLoop u0 V cur qs (n + 1) (k + 1)) (hq : 0 ≤ q ∧ q < 4294967296) (hc : Lim cur') (hl : cur'.length = cur.length) (hV : V < pw (n + 1))
    (hs : sv cur' k (n + 2) = sv cur k (n + 2) - q * V) (hs2 : sv cur' k (n + 2) < V) (ho : ∀ j, j < k ∨ k + (n + 2) ≤ j → lg cur' j = lg cur j) : DivLoop u0 V cur' (qs.set k q) (n + 1) k := by
  obtain ⟨h1, h2, h3, h4, h5, h6, h7⟩ := h
  have hzero : lg cur' (k + (n + 1)) = 0 := by
    have e : sv cur' k (n + 2) = sv cur' k (n + 1) + pw (n + 1) * lg cur' (k + (n + 1)) := rfl
    have b := lg_lim hc (k + (n + 1))
    have r := sv_range hc k (n + 1)
    rcases Int.lt_or_le 0 (lg cur' (k + (n + 1))) with h | h
    · have : pw (n + 1) * 1 ≤ pw (n + 1) * lg cur' (k + (n + 1)) := Int.mul_le_mul_of_nonneg_left (by omega) (Int.le_of_lt (pw_pos _))
      omega
    · omega
  refine ⟨hc, h2.set _ hq, by simp; omega, by simp; omega, ?_, ?_, ?_⟩
  · have e1 : val cur = sv cur 0 k + pw k * sv cur k (n + 2) + pw (k + (n + 2)) * sv cur (k + (n + 2)) (cur.length - (k + (n + 2))) := by
      have a := sv_split cur 0 k (n + 2)
      have b := sv_split cur 0 (k + (n + 2)) (cur.length - (k + (n + 2)))
      rw [show k + (n + 2) + (cur.length - (k + (n + 2))) = cur.length by omega, sv_zero_val] at b
      rw [b, a]; simp
    have e2 : val cur' = sv cur' 0 k + pw k * sv cur' k (n + 2) + pw (k + (n + 2)) * sv cur' (k + (n + 2)) (cur.length - (k + (n + 2))) := by
      have a := sv_split cur' 0 k (n + 2)
      have b := sv_split cur' 0 (k + (n + 2)) (cur.length - (k + (n + 2)))
      rw [show k + (n + 2) + (cur.length - (k + (n + 2))) = cur'.length by omega, sv_zero_val] at b
      rw [b, a]; simp
    have e3 : sv cur' 0 k = sv cur 0 k := sv_congr k (fun j _ hj => ho j (by omega))
    have e4 : sv cur' (k + (n + 2)) (cur.length - (k + (n + 2))) = sv cur (k + (n + 2)) (cur.length - (k + (n + 2))) := sv_congr _ (fun j hj _ => ho j (by omega))
    have e5 : val ((qs.set k q).drop k) = q + 4294967296 * val (qs.drop (k + 1)) := by
      rw [val_drop_succ _ _ (by simp; omega), drop_set_gt, ← lg_def, lg_set_eq _ _ _ (by omega)]
    rw [e5, e2, e3, e4, hs, h5, e1, pw_succ]; grind
  · have e : sv cur' k (n + 2) = sv cur' k (n + 1) + pw (n + 1) * lg cur' (k + (n + 1)) := rfl
    rw [hzero] at e; omega
  · intro j hj
    by_cases e : j = k + (n + 1)
    · subst e; exact hzero
    · rw [ho j (by omega)]; exact h7 j (by omega)
theorem DivLoop.done {u0 V : Int} {cur qs : List Int} {n : Nat} (h : DivLoop u0 V cur qs n 0) : u0 = val qs * V + val cur ∧ 0 ≤ val cur ∧ val cur < V := by
  obtain ⟨h1, h2, h3, h4, h5, h6, h7⟩ := h
  refine ⟨?_, val_nonneg h1, ?_⟩
  · rw [h5, pw_zero]; simp
  · rw [← sv_zero_val, sv_high (n := n) (fun j hj => h7 j (by omega)) _ (by omega)]; exact h6
/-- What was shifted up is shifted down. -/
theorem shift_down {a b q R S : Int} (hS : 0 < S) (h : a * S = q * (b * S) + R) (h0 : 0 ≤ R) (h1 : R < b * S) : a = q * b + R / S ∧ 0 ≤ R / S ∧ R / S < b := by
  have e : R = (a - q * b) * S := by grind
  have e2 : R / S = a - q * b := by rw [e, Int.mul_ediv_cancel _ (by omega)]
  rw [e2]
  rw [e] at h0 h1
  refine ⟨by omega, ?_, Int.lt_of_mul_lt_mul_right h1 (by omega)⟩
  exact Int.nonneg_of_mul_nonneg_left h0 hS
end Go.Proofs.Ytnchlckncknaiaa
/- limb.DivSmall. -/
namespace Go.Proofs.Ytnchlckncknaiaa
open Go.RowKit

set_option maxHeartbeats 4000000 in
set_option maxRecDepth 100000 in
theorem divSmall_calls {w : World} {u : Value} {xs : List Int} {c : Int} (hu : SlU w u xs) (hx : Lim xs) (hn : xs.length ≤ 1099511627770) (hc0 : 0 < c) (hc1 : c < 4294967296) :
    Calls Try.prog 169 #[u, .int .u32 c] w fun e w' => (∃ v' zs r, e = .returned (.tuple #[v', .int .u32 r, .int .i64 0]) ∧ SlU w' v' (trimL zs) ∧ Lim zs ∧ val xs = val zs * c + r ∧ 0 ≤ r ∧ r < c ∧ zs.length ≤ xs.length) ∧ Below w.heap.size w w' := by
  obtain ⟨A, cp, rfl, hcp, hr⟩ := hu
  have hmk := make_u32 xs.length (by omega)
  have hb0 : Below w.heap.size w (w.alloc (.cells (madeCells #[.int .u32 0] xs.length) 153)) := (Below.refl _ _).alloc (Nat.le_refl _) _
  have hub := UB.made w xs.length
  have hcz : (c == 0) = false := by simp; omega
  go_enter Try.func169, Try.ntmps169
  go_wp2
  clear hmk
  go_loopw [8, 9] (fun re i wr => ∃ (x r : Int) (zs : List Int), -1 ≤ x ∧ x < (xs.length : Int) ∧ i = .int .i64 x ∧ re = .int .u64 r ∧ 0 ≤ r ∧ r < c ∧ DivInv xs zs (x + 1).toNat c r ∧ UB wr w.heap.size zs ∧ Below w.heap.size w wr) (fun _ i _ => (intOf i + 1).toNat)
  case atStart =>
    refine ⟨(xs.length : Int) - 1, 0, _, by omega, by omega, rfl, rfl, by omega, hc0, ?_, hub, hb0⟩
    rw [show ((xs.length : Int) - 1 + 1).toNat = xs.length by omega]
    exact DivInv.start xs hc0
  case round =>
    obtain ⟨x, r, zs, hx0, hx1, rfl, rfl, hr0, hr1, HI, HU, HB⟩ := hrel
    have hzl := hide HI.1
    by_cases h0 : 0 ≤ x
    · obtain ⟨k, rfl⟩ := Int.eq_ofNat_of_zero_le h0
      have hk : k < xs.length := by omega
      obtain ⟨b1, o1, rfl, hcell1⟩ := (hr.below HB).at_ hk
      have bx := lg_lim hx k
      have HI' : DivInv xs zs (k + 1) c r := HI
      obtain ⟨hsb, hstep⟩ := HI'.step hx hc1 hk
      have hf := HU.frozen k
      have hce := HU.cell (j := k) (by have := hzl.out; omega)
      have Hor := or_hi r (lg xs k) hr0 (by omega) bx.1 bx.2
      clear HI'
      have hq1 : 0 ≤ (r * 4294967296 + lg xs k) / c := Int.ediv_nonneg hsb.1 (by omega)
      have hq2 : (r * 4294967296 + lg xs k) / c < 4294967296 := Int.ediv_lt_of_lt_mul hc0 (by omega)
      have hr2 := hstep.2.2.1
      have hr3 := hstep.2.2.2.1
      go_wp2
      go_roundw
      case rel =>
        refine ⟨(k : Int) - 1, _, _, by omega, by omega, rfl, rfl, hr2, hr3, ?_, HU.set _ _, HB.setCell (p := ⟨w.heap.size, k, none⟩) (Nat.le_refl _) _⟩
        rw [show ((k : Int) - 1 + 1).toNat = k by omega]
        exact hstep
      case measure => simp [intOf]
    · have HD : Hid _ := (by
        have h := HI
        rw [show (x + 1).toNat = 0 by omega] at h
        exact hide h.done)
      clear HI
      go_wp2_with fail
      have HT := trim_calls (HU.sl (c := xs.length) HD.out.2.2.1 (Nat.le_refl _)) (by rw [HD.out.2.2.1]; omega)
      refine HT.mono ?_
      rintro e w1 ⟨⟨v1, rfl, h1⟩, rfl⟩
      go_wp2
      go_ret3
      exact ⟨⟨_, _, _, rfl, h1, HD.out.1, HD.out.2.1, hr0, hr1, Nat.le_of_eq HD.out.2.2.1⟩, HB⟩
end Go.Proofs.Ytnchlckncknaiaa
/- limb.Sub. -/
namespace Go.Proofs.Ytnchlckncknaiaa
open Go.RowKit

theorem cmpI_not_lt {a b : Int} (h : b ≤ a) : ¬ (cmpI a b < 0) := by unfold cmpI; split <;> (try split) <;> omega

set_option maxHeartbeats 4000000 in
set_option maxRecDepth 100000 in
theorem sub_calls {w : World} {u v : Value} {xs ys : List Int} (hu : SlU w u xs) (hv : SlU w v ys) (hx : Lim xs) (hy : Lim ys) (hn : xs.length ≤ 1099511627770) (hl : ys.length ≤ xs.length) (hge : val ys ≤ val xs) :
    Calls Try.prog 135 #[u, v] w fun e w' => (∃ v' zs, e = .returned (.tuple #[v', .int .i64 0]) ∧ SlU w' v' (trimL zs) ∧ Lim zs ∧ val zs = val xs - val ys ∧ zs.length ≤ xs.length) ∧ Below w.heap.size w w' := by
  have HC := hide (cmp_calls hu hv hx hy (by omega) (by omega))
  have hcm := cmpI_not_lt hge
  have Hge := hide hge
  clear hge
  generalize hcc : cmpI (val xs) (val ys) = cc at *
  clear hcc
  obtain ⟨A, c, rfl, hc, hr⟩ := hu
  obtain ⟨B, d, rfl, hd, hq⟩ := hv
  go_enter Try.func135, Try.ntmps135
  go_wp2_with fail
  refine HC.out.mono ?_
  clear HC
  rintro e w1 ⟨rfl, q0, rfl⟩
  have hmk := make_u32 xs.length (by omega)
  have hb0 : Below w.heap.size w ((w.drewN q0).alloc (.cells (madeCells #[.int .u32 0] xs.length) 153)) := Below.alloc (below_drewN (Below.refl _ _) q0) (Nat.le_refl _) _
  have hub := UB.made (w.drewN q0) xs.length
  have hsz : (w.drewN q0).heap.size = w.heap.size := rfl
  rw [hsz] at hub
  clear hsz
  go_wp2
  clear hmk
  go_loopw [7, 21] (fun ca i wr => ∃ (k : Nat) (cy : Int) (zs : List Int), k ≤ xs.length ∧ i = .int .i64 k ∧ ca = .int .u64 cy ∧ 0 ≤ cy ∧ cy ≤ 1 ∧ SubInv xs ys zs k cy ∧ UB wr w.heap.size zs ∧ Below w.heap.size w wr) (fun _ i _ => xs.length - (intOf i).toNat)
  case atStart => exact ⟨0, 0, _, by omega, rfl, rfl, by omega, by omega, SubInv.start xs ys, hub, hb0⟩
  case round =>
    obtain ⟨k, cy, zs, hk, rfl, rfl, hc0, hc1, HI, HU, HB⟩ := hrel
    have hzl := hide HI.1
    by_cases hlt : k < xs.length
    · obtain ⟨b1, o1, rfl, hcell1⟩ := (hr.below HB).at_ hlt
      have bx := lg_lim hx k
      have by_ := lg_lim hy k
      have hf := HU.frozen k
      have hce := HU.cell (j := k) (by have := hzl.out; omega)
      have hd1 : -4294967296 ≤ lg xs k - (cy + lg ys k) := by omega
      have hd2 : lg xs k - (cy + lg ys k) < 4294967296 := by omega
      have he := bor_range (lg xs k - (cy + lg ys k))
      have hg := bor_ge hd1 hd2
      have hstep := HI.step hlt he.1 he.2 hg.1 hg.2
      have Hz := hide (bor_z hd1 hd2)
      have Hb := hide (bor_b hd1 hd2)
      by_cases hy2 : k < ys.length
      · obtain ⟨b2, o2, rfl, hcell2⟩ := (hq.below HB).at_ hy2
        go_wp2
        go_roundw
        case rel =>
          rw [Hz.out, Hb.out]
          exact ⟨k + 1, _, _, by omega, by go_num, rfl, he.1, he.2, hstep, HU.set _ _, HB.setCell (p := ⟨w.heap.size, k, none⟩) (Nat.le_refl _) _⟩
        case measure => simp [intOf]; omega
      · rw [lg_out ys k (by omega), Int.add_zero] at hstep Hz Hb hd1 hd2 he
        go_wp2
        go_roundw
        case rel =>
          rw [Hz.out, Hb.out]
          exact ⟨k + 1, _, _, by omega, by go_num, rfl, he.1, he.2, hstep, HU.set _ _, HB.setCell (p := ⟨w.heap.size, k, none⟩) (Nat.le_refl _) _⟩
        case measure => simp [intOf]; omega
    · have hke : k = xs.length := by omega
      have hd := HI
      rw [hke] at hd
      have HD := hide (hd.done hl Hge.out)
      clear hke hd
      go_wp2_with fail
      have HT := trim_calls (HU.sl (c := xs.length) HD.out.2.2 (Nat.le_refl _)) (by rw [HD.out.2.2]; omega)
      refine HT.mono ?_
      rintro e w1 ⟨⟨v1, rfl, h1⟩, rfl⟩
      go_wp2
      go_ret2
      exact ⟨⟨_, _, rfl, h1, HD.out.1, HD.out.2.1, Nat.le_of_eq HD.out.2.2⟩, HB⟩
end Go.Proofs.Ytnchlckncknaiaa
/-
  DERIVED: THE SHELF's CONTRACTS AT THIS DUMP, IN PLAIN WORDS (tools/lay-plain.mjs out of 'TryShelf.lean', which tools/lay-shelf.mjs wrote): THE SAME DECLARATIONS UNDER THE SAME NAMES: 'import', 'namespace', 'open', 'def', 'theorem' AND NOTHING ELSE: no command of the shelf's: FOR A HAND-IN. Each laying: the table of numbers ('.._ren') and one theorem, a field a fact of the dump's own or the kernel's comparison; each contract: ONE APPLICATION.
-/
namespace Go.Proofs
open Go.Shelf
def Try.lays128_ren : Go.Shelf.Ren := ⟨fun | 128 => 153 | n => n, fun | 51 => 153 | 3 => 3 | 4 => 4 | 46 => 154 | 5 => 5 | 9 => 9 | n => n, fun | n => n⟩
theorem Try.lays128 : Go.Proofs.Lays.n128 Try.prog Try.lays128_ren := {
  mixed := by kernel_rfl
  f128 := Try.func153.trans (congrArg some (by kernel_rfl))
  t3 := Try.underlying3
  a3 := Try.isAgg3
  z3 := Try.sizeOf3
  v3 := Try.zeroValue3
  t4 := Try.underlying4
  a4 := Try.isAgg4
  z4 := Try.sizeOf4
  v4 := Try.zeroValue4
  t5 := Try.underlying5
  a5 := Try.isAgg5
  z5 := Try.sizeOf5
  v5 := Try.zeroValue5
  t9 := Try.underlying9
  a9 := Try.isAgg9
  z9 := Try.sizeOf9
  v9 := Try.zeroValue9
  t46 := Try.underlying154
  a46 := Try.isAgg154
  z46 := Try.sizeOf154
  v46 := Try.zeroValue154
  t51 := Try.underlying153
  a51 := Try.isAgg153
  z51 := Try.sizeOf153
  v51 := Try.zeroValue153 }
/-- bits.Len32: "Len32 returns the minimum number of bits required to represent x; the result is 0 for x == 0.": IT RETURNS 'Lib.bitLen x'; the world is as it was. ('h0', 'h1': x is a uint32.) (LAID: no walk: one application.) -/
theorem Try.bits_Len32 (x : Int) (w : World) (h0 : 0 ≤ x) (h1 : x ≤ 4294967295) :
    Calls Try.prog 153 #[.int .u32 x] w fun e w' => e = .returned (.int .i64 (Lib.bitLen x.toNat)) ∧ w' = w := Any.bits_Len32 Try.lays128 x w h0 h1
def Try.lays125_ren : Go.Shelf.Ren := ⟨fun | 125 => 112 | 128 => 153 | 129 => 154 | n => n, fun | 46 => 154 | 3 => 3 | 51 => 153 | 53 => 151 | 4 => 4 | 5 => 5 | 9 => 9 | n => n, fun | n => n⟩
theorem Try.lays125 : Go.Proofs.Lays.n125 Try.prog Try.lays125_ren := {
  mixed := by kernel_rfl
  f125 := Try.func112.trans (congrArg some (by kernel_rfl))
  f128 := Try.func153.trans (congrArg some (by kernel_rfl))
  f129 := Try.func154.trans (congrArg some (by kernel_rfl))
  t3 := Try.underlying3
  a3 := Try.isAgg3
  z3 := Try.sizeOf3
  v3 := Try.zeroValue3
  t4 := Try.underlying4
  a4 := Try.isAgg4
  z4 := Try.sizeOf4
  v4 := Try.zeroValue4
  t5 := Try.underlying5
  a5 := Try.isAgg5
  z5 := Try.sizeOf5
  v5 := Try.zeroValue5
  t9 := Try.underlying9
  a9 := Try.isAgg9
  z9 := Try.sizeOf9
  v9 := Try.zeroValue9
  t46 := Try.underlying154
  a46 := Try.isAgg154
  z46 := Try.sizeOf154
  v46 := Try.zeroValue154
  t51 := Try.underlying153
  a51 := Try.isAgg153
  z51 := Try.sizeOf153
  v51 := Try.zeroValue153
  t53 := Try.underlying151
  a53 := Try.isAgg151
  z53 := Try.sizeOf151
  v53 := Try.zeroValue151 }
/-- bits.Len: "Len returns the minimum number of bits required to represent x; the result is 0 for x == 0.": IT RETURNS 'Lib.bitLen x'; the world is as it was. (A uint has 64 bits in the model.) ITS CALLEE bits.Len64 IS MET BY ITS OWN CONTRACT OFF THE SHELF (lay that first). (LAID: no walk: one application.) -/
theorem Try.bits_Len (x : Int) (w : World) (h0 : 0 ≤ x) (h1 : x ≤ 18446744073709551615) :
    Calls Try.prog 112 #[.int .u64 x] w fun e w' => e = .returned (.int .i64 (Lib.bitLen x.toNat)) ∧ w' = w := Any.bits_Len Try.lays125 x w h0 h1
def Try.lays133_ren : Go.Shelf.Ren := ⟨fun | 133 => 170 | 128 => 153 | n => n, fun | 51 => 153 | 3 => 3 | 4 => 4 | 46 => 154 | 5 => 5 | 9 => 9 | n => n, fun | n => n⟩
theorem Try.lays133 : Go.Proofs.Lays.n133 Try.prog Try.lays133_ren := {
  mixed := by kernel_rfl
  f128 := Try.func153.trans (congrArg some (by kernel_rfl))
  f133 := Try.func170.trans (congrArg some (by kernel_rfl))
  t3 := Try.underlying3
  a3 := Try.isAgg3
  z3 := Try.sizeOf3
  v3 := Try.zeroValue3
  t4 := Try.underlying4
  a4 := Try.isAgg4
  z4 := Try.sizeOf4
  v4 := Try.zeroValue4
  t5 := Try.underlying5
  a5 := Try.isAgg5
  z5 := Try.sizeOf5
  v5 := Try.zeroValue5
  t9 := Try.underlying9
  a9 := Try.isAgg9
  z9 := Try.sizeOf9
  v9 := Try.zeroValue9
  t46 := Try.underlying154
  a46 := Try.isAgg154
  z46 := Try.sizeOf154
  v46 := Try.zeroValue154
  t51 := Try.underlying153
  a51 := Try.isAgg153
  z51 := Try.sizeOf153
  v51 := Try.zeroValue153 }
/-- bits.LeadingZeros32: "LeadingZeros32 returns the number of leading zero bits in x; the result is 32 for x == 0.": IT RETURNS '32 - Lib.bitLen x'; the world is as it was. ITS CALLEE bits.Len32 IS MET BY ITS OWN CONTRACT OFF THE SHELF (lay that first): entered in place it sends the kernel out of memory. (LAID: no walk: one application.) -/
theorem Try.bits_LeadingZeros32 (x : Int) (w : World) (h0 : 0 ≤ x) (h1 : x ≤ 4294967295) :
    Calls Try.prog 170 #[.int .u32 x] w fun e w' => e = .returned (.int .i64 (32 - (Lib.bitLen x.toNat : Int))) ∧ w' = w := Any.bits_LeadingZeros32 Try.lays133 x w h0 h1
def Try.lays129_ren : Go.Shelf.Ren := ⟨fun | 129 => 154 | n => n, fun | 53 => 151 | 3 => 3 | 4 => 4 | 46 => 154 | 5 => 5 | 9 => 9 | n => n, fun | n => n⟩
theorem Try.lays129 : Go.Proofs.Lays.n129 Try.prog Try.lays129_ren := {
  mixed := by kernel_rfl
  f129 := Try.func154.trans (congrArg some (by kernel_rfl))
  t3 := Try.underlying3
  a3 := Try.isAgg3
  z3 := Try.sizeOf3
  v3 := Try.zeroValue3
  t4 := Try.underlying4
  a4 := Try.isAgg4
  z4 := Try.sizeOf4
  v4 := Try.zeroValue4
  t5 := Try.underlying5
  a5 := Try.isAgg5
  z5 := Try.sizeOf5
  v5 := Try.zeroValue5
  t9 := Try.underlying9
  a9 := Try.isAgg9
  z9 := Try.sizeOf9
  v9 := Try.zeroValue9
  t46 := Try.underlying154
  a46 := Try.isAgg154
  z46 := Try.sizeOf154
  v46 := Try.zeroValue154
  t53 := Try.underlying151
  a53 := Try.isAgg151
  z53 := Try.sizeOf151
  v53 := Try.zeroValue151 }
/-- bits.Len64: "Len64 returns the minimum number of bits required to represent x; the result is 0 for x == 0.": IT RETURNS 'Lib.bitLen x'; the world is as it was. ('h0', 'h1': x is a uint64.) (LAID: no walk: one application.) -/
theorem Try.bits_Len64 (x : Int) (w : World) (h0 : 0 ≤ x) (h1 : x ≤ 18446744073709551615) :
    Calls Try.prog 154 #[.int .u64 x] w fun e w' => e = .returned (.int .i64 (Lib.bitLen x.toNat)) ∧ w' = w := Any.bits_Len64 Try.lays129 x w h0 h1
def Try.laysNm215_ren : Go.Shelf.Ren := ⟨fun | 15 => 102 | n => n, fun | 22 => 23 | 3 => 3 | 4 => 4 | n => n, fun | n => n⟩
theorem Try.laysNm215 : Go.Proofs.Lays2.n15 Try.prog Try.laysNm215_ren := {
  mixed := by kernel_rfl
  f15 := Try.func102.trans (congrArg some (by kernel_rfl))
  t3 := Try.underlying3
  a3 := Try.isAgg3
  z3 := Try.sizeOf3
  v3 := Try.zeroValue3
  t4 := Try.underlying4
  a4 := Try.isAgg4
  z4 := Try.sizeOf4
  v4 := Try.zeroValue4
  t22 := Try.underlying23
  a22 := Try.isAgg23
  z22 := Try.sizeOf23
  v22 := Try.zeroValue23
  i3 := by kernel_rfl }
open Go.RowKit Go.Lib in
/-- slices.Clone at []int: "Clone returns a copy of the slice. The elements are copied using assignment, so this is a shallow clone. The result may have additional unused capacity. The result preserves the nilness of s.": OF A SLICE THAT IS NOT nil IT RETURNS A SLICE THAT IS NOT nil, OF THE SAME ELEMENTS, IN MEMORY OF THE CALL's OWN: in the how-to's words (6f): 'w'.ownsRow B e 1 v' n cells': v' begins at the head of a row among the blocks from B on (B: the heap's size at the call), not frozen, whose first cells are the elements · 'Below B w w'': below B all is as it was. The capacity is whatever the run-time gives. 'zs': what the cells behind the slice's address hold; 'zs.take n': its elements. (LAID: no walk: one application.) -/
theorem Try.slices_Clone_int (b off n c : Nat) (zs : List Int) (w : World) (hz : n ≤ zs.length) (hbig : n * 8 ≤ 140737488355328) (hc : ∀ j, j < zs.length → w.cell? ⟨b, off + j, none⟩ = some (.int .i64 (zs.getD j 0))) :
    Calls Try.prog 102 #[.slice (some ⟨b, off, none⟩) n c] w fun e w' => ∃ v', e = .returned v' ∧ w'.ownsRow w.heap.size 3 1 v' n ((zs.take n).map (Value.int .i64)) ∧ v' ≠ .slice none 0 0 ∧ Below w.heap.size w w' := Any.slices_Clone_int Try.laysNm215 b off n c zs w hz hbig hc
open Go.RowKit Go.Lib in
/-- The same at nil: nil comes back; the world is as it was. (LAID: no walk: one application.) -/
theorem Try.slices_Clone_int_nil (n c : Nat) (w : World) :
    Calls Try.prog 102 #[.slice none n c] w fun e w' => e = .returned (.slice none 0 0) ∧ w' = w := Any.slices_Clone_int_nil Try.laysNm215 n c w
open Go.RowKit Go.Lib in
/-- The same at a slice of length 0 that is not nil, WHATEVER ITS ADDRESS (no cell is asked for): a slice that is not nil and owns nothing comes back. (LAID: no walk: one application.) -/
theorem Try.slices_Clone_int_zero (a : Addr) (c : Nat) (w : World) :
    Calls Try.prog 102 #[.slice (some a) 0 c] w fun e w' => ∃ v', e = .returned v' ∧ w'.ownsRow w.heap.size 3 1 v' 0 [] ∧ v' ≠ .slice none 0 0 ∧ Below w.heap.size w w' := Any.slices_Clone_int_zero Try.laysNm215 a c w
def Try.laysNm220_ren : Go.Shelf.Ren := ⟨fun | 20 => 70 | n => n, fun | 22 => 23 | 3 => 3 | 4 => 4 | 0 => 0 | n => n, fun | n => n⟩
theorem Try.laysNm220 : Go.Proofs.Lays2.n20 Try.prog Try.laysNm220_ren := {
  mixed := by kernel_rfl
  f20 := Try.func70.trans (congrArg some (by kernel_rfl))
  t0 := Try.underlying0
  a0 := Try.isAgg0
  z0 := Try.sizeOf0
  v0 := Try.zeroValue0
  t3 := Try.underlying3
  a3 := Try.isAgg3
  z3 := Try.sizeOf3
  v3 := Try.zeroValue3
  t4 := Try.underlying4
  a4 := Try.isAgg4
  z4 := Try.sizeOf4
  v4 := Try.zeroValue4
  t22 := Try.underlying23
  a22 := Try.isAgg23
  z22 := Try.sizeOf23
  v22 := Try.zeroValue23
  i3 := by kernel_rfl }
open Go.RowKit Go.Lib Go.Sort in
/-- slices.Compact at []int, over an array: the library's two loops are walked. (LAID: no walk: one application.) -/
theorem Try.slices_Compact_int_arr (blk off cap : Nat) (d : Array Int) (w : World) (hH : Holds encI w blk off d) (hsz : d.size ≤ 9223372036854775807) (hcap : d.size ≤ cap) :
    Calls Try.prog 70 #[.slice (some ⟨blk, off, none⟩) d.size cap] w fun e w' => e = .returned (.slice (some ⟨blk, off, none⟩) (compactUpTo d d.size).length cap) ∧ ∃ q, w' = putRow encI (Sort.ahead w q) blk off (compactUpTo d d.size ++ List.replicate (d.size - (compactUpTo d d.size).length) 0).toArray := Any.slices_Compact_int_arr Try.laysNm220 blk off cap d w hH hsz hcap
open Go.RowKit Go.Lib Go.Sort in
/-- slices.Compact at []int: "Compact replaces consecutive runs of equal elements with a single copy. This is like the uniq command found on Unix. Compact modifies the contents of the slice s and returns the modified slice, which may have a smaller length. Compact zeroes the elements between the new length and the original length. The result preserves the nilness of s.": IT RETURNS THE SLICE CUT TO 'Lib.compact zs'; ITS CELLS HOLD 'Lib.compact zs', THEN ZERO VALUES up to the old length; all else is as it was, but for the count of draws. IN THE WORDS OF slices.Sort's CONTRACT ('Holds', 'putRow'): so the everyday 'slices.Sort(xs); xs = slices.Compact(xs)' goes from the one contract to the other. It asks 'zs.length ≤ cap' (every slice's: the reslicing 's[:k]' looks at it). Length 0, nil: '.._empty'. (LAID: no walk: one application.) -/
theorem Try.slices_Compact_int (blk off cap : Nat) (zs : List Int) (w : World) (hH : Holds (Value.int .i64) w blk off zs.toArray) (hsz : zs.length ≤ 9223372036854775807) (hcap : zs.length ≤ cap) :
    Calls Try.prog 70 #[.slice (some ⟨blk, off, none⟩) zs.length cap] w fun e w' => e = .returned (.slice (some ⟨blk, off, none⟩) (Lib.compact zs).length cap) ∧ ∃ q, w' = putRow (Value.int .i64) (Sort.ahead w q) blk off (Lib.compact zs ++ List.replicate (zs.length - (Lib.compact zs).length) 0).toArray := Any.slices_Compact_int Try.laysNm220 blk off cap zs w hH hsz hcap
open Go.RowKit Go.Lib Go.Sort in
/-- The same at a slice of length 0, a nil one too: it comes back as it is. (LAID: no walk: one application.) -/
theorem Try.slices_Compact_int_empty (a : Option Addr) (cap : Nat) (w : World) :
    Calls Try.prog 70 #[.slice a 0 cap] w fun e w' => e = .returned (.slice a 0 cap) ∧ w' = w := Any.slices_Compact_int_empty Try.laysNm220 a cap w
def Try.laysNm237_ren : Go.Shelf.Ren := ⟨fun | 37 => 180 | n => n, fun | 3 => 3 | 4 => 4 | n => n, fun | n => n⟩
theorem Try.laysNm237 : Go.Proofs.Lays2.n37 Try.prog Try.laysNm237_ren := {
  mixed := by kernel_rfl
  f37 := Try.func180.trans (congrArg some (by kernel_rfl))
  t3 := Try.underlying3
  a3 := Try.isAgg3
  z3 := Try.sizeOf3
  v3 := Try.zeroValue3
  t4 := Try.underlying4
  a4 := Try.isAgg4
  z4 := Try.sizeOf4
  v4 := Try.zeroValue4 }
open Go.RowKit Go.Lib in
/-- cmp.isNaN[int]: 'x != x': false. (LAID: no walk: one application.) -/
theorem Try.cmp_isNaN_int2 (x : Int) (w : World) :
    Calls Try.prog 180 #[.int .i64 x] w fun e w' => e = .returned (.bool false) ∧ w' = w := Any.cmp_isNaN_int2 Try.laysNm237 x w
def Try.laysNm231_ren : Go.Shelf.Ren := ⟨fun | 31 => 150 | 37 => 180 | n => n, fun | 3 => 3 | 4 => 4 | n => n, fun | n => n⟩
theorem Try.laysNm231 : Go.Proofs.Lays2.n31 Try.prog Try.laysNm231_ren := {
  mixed := by kernel_rfl
  f31 := Try.func150.trans (congrArg some (by kernel_rfl))
  f37 := Try.func180.trans (congrArg some (by kernel_rfl))
  t3 := Try.underlying3
  a3 := Try.isAgg3
  z3 := Try.sizeOf3
  v3 := Try.zeroValue3
  t4 := Try.underlying4
  a4 := Try.isAgg4
  z4 := Try.sizeOf4
  v4 := Try.zeroValue4 }
open Go.RowKit Go.Lib in
/-- cmp.Less[int]: "Less reports whether x is less than y.": 'x < y'; the world is as it was. (LAID: no walk: one application.) -/
theorem Try.cmp_Less_int2 (x y : Int) (w : World) :
    Calls Try.prog 150 #[.int .i64 x, .int .i64 y] w fun e w' => e = .returned (.bool (decide (x < y))) ∧ w' = w := Any.cmp_Less_int2 Try.laysNm231 x y w
open Go.RowKit Go.Lib Go.Sort in
/-- slices.Compact at []int, of an argument: the slice cut to 'Lib.compact (elements)'; the n cells hold that, then zeros. (LAID: no walk: one application.) -/
theorem Try.slices_Compact_int_cells (b off n c : Nat) (zs : List Int) (w : World) (hz : n ≤ zs.length) (hbig : n ≤ 9223372036854775807) (hcap : n ≤ c) (hc : ∀ j, j < zs.length → w.cell? ⟨b, off + j, none⟩ = some (.int .i64 (zs.getD j 0))) (hf : ∀ j, j < n → w.frozen? ⟨b, off + j, none⟩ = false) :
    Calls Try.prog 70 #[.slice (some ⟨b, off, none⟩) n c] w fun e w' => e = .returned (.slice (some ⟨b, off, none⟩) (Lib.compact (zs.take n)).length c) ∧ ∃ q, w' = (w.drewN q).setCells b off ((Lib.compact (zs.take n) ++ List.replicate (n - (Lib.compact (zs.take n)).length) 0).map (Value.int .i64)) := Any.slices_Compact_int_cells Try.laysNm220 b off n c zs w hz hbig hcap hc hf
def Try.laysSlE041_f21_ren : Go.Shelf.Ren := ⟨fun | 41 => 21 | n => n, fun | 22 => 26 | 23 => 2 | 4 => 4 | n => n, fun | n => n⟩
theorem Try.laysSlE041_f21 : Go.Proofs.SlLaysE0.n41 Try.prog Try.laysSlE041_f21_ren := {
  mixed := by kernel_rfl
  f41 := ⟨Try.f21.name, by decide, Try.func21.trans (congrArg some (by kernel_rfl))⟩
  t4 := Try.underlying4
  a4 := Try.isAgg4
  z4 := Try.sizeOf4
  v4 := Try.zeroValue4
  t22 := Try.underlying26
  a22 := Try.isAgg26
  z22 := Try.sizeOf26
  v22 := Try.zeroValue26 }
open Go.RowKit Go.Lib in
/-- slices.Clone: "Clone returns a copy of the slice. The elements are copied using assignment, so this is a shallow clone. The result may have additional unused capacity. The result preserves the nilness of s.": OF A SLICE THAT IS NOT nil IT RETURNS A SLICE THAT IS NOT nil, OF THE SAME CELLS, IN MEMORY OF THE CALL's OWN ('ownsRow': the how-to's 6f); below the heap's size at the call all is as it was. (LAID AT THE INSTANCE 'slices.Clone[[]int64,int64]': no walk: one application.) -/
theorem Try.slices_Clone_f21 (i0 : TypeInfo) (z : Value) (size bytes : Nat) (hi : Try.prog.info? 2 = some i0) (hz0 : i0.zero = some z) (hz1 : i0.size = size) (hz2 : i0.bytes = bytes) (hzs : z.cells.size = size) (hsz : 0 < size) (z23 : ∀ w, (Go.sizeOf 2).run Try.prog w = .ok size w) (b off n c : Nat) (news : List Value) (w : World) (hl : news.length = n * size) (hn : n ≤ maxLen) (hbig : n * bytes ≤ 140737488355328) (hc : ∀ j u, news[j]? = some u → w.cell? ⟨b, off + j, none⟩ = some u) (h1 : ∀ u ∈ news, u.oneCell' = true) :
    Calls Try.prog 21 #[.slice (some ⟨b, off, none⟩) n c] w fun e w' => ∃ v', e = .returned v' ∧ w'.ownsRow w.heap.size 2 size v' n news ∧ v' ≠ .slice none 0 0 ∧ Below w.heap.size w w' := AnyE.slices_Clone Try.laysSlE041_f21 i0 z size bytes hi hz0 hz1 hz2 hzs hsz z23 b off n c news w hl hn hbig hc h1
def Try.laysSlE041_f102_ren : Go.Shelf.Ren := ⟨fun | 41 => 102 | n => n, fun | 22 => 23 | 23 => 3 | 4 => 4 | n => n, fun | n => n⟩
theorem Try.laysSlE041_f102 : Go.Proofs.SlLaysE0.n41 Try.prog Try.laysSlE041_f102_ren := {
  mixed := by kernel_rfl
  f41 := ⟨Try.f102.name, by decide, Try.func102.trans (congrArg some (by kernel_rfl))⟩
  t4 := Try.underlying4
  a4 := Try.isAgg4
  z4 := Try.sizeOf4
  v4 := Try.zeroValue4
  t22 := Try.underlying23
  a22 := Try.isAgg23
  z22 := Try.sizeOf23
  v22 := Try.zeroValue23 }
open Go.RowKit Go.Lib in
/-- slices.Clone: "Clone returns a copy of the slice. The elements are copied using assignment, so this is a shallow clone. The result may have additional unused capacity. The result preserves the nilness of s.": OF A SLICE THAT IS NOT nil IT RETURNS A SLICE THAT IS NOT nil, OF THE SAME CELLS, IN MEMORY OF THE CALL's OWN ('ownsRow': the how-to's 6f); below the heap's size at the call all is as it was. (LAID AT THE INSTANCE 'slices.Clone[[]int,int]': no walk: one application.) -/
theorem Try.slices_Clone_f102 (i0 : TypeInfo) (z : Value) (size bytes : Nat) (hi : Try.prog.info? 3 = some i0) (hz0 : i0.zero = some z) (hz1 : i0.size = size) (hz2 : i0.bytes = bytes) (hzs : z.cells.size = size) (hsz : 0 < size) (z23 : ∀ w, (Go.sizeOf 3).run Try.prog w = .ok size w) (b off n c : Nat) (news : List Value) (w : World) (hl : news.length = n * size) (hn : n ≤ maxLen) (hbig : n * bytes ≤ 140737488355328) (hc : ∀ j u, news[j]? = some u → w.cell? ⟨b, off + j, none⟩ = some u) (h1 : ∀ u ∈ news, u.oneCell' = true) :
    Calls Try.prog 102 #[.slice (some ⟨b, off, none⟩) n c] w fun e w' => ∃ v', e = .returned v' ∧ w'.ownsRow w.heap.size 3 size v' n news ∧ v' ≠ .slice none 0 0 ∧ Below w.heap.size w w' := AnyE.slices_Clone Try.laysSlE041_f102 i0 z size bytes hi hz0 hz1 hz2 hzs hsz z23 b off n c news w hl hn hbig hc h1
def Try.laysSlE041_f117_ren : Go.Shelf.Ren := ⟨fun | 41 => 117 | n => n, fun | 22 => 59 | 23 => 153 | 4 => 4 | n => n, fun | n => n⟩
theorem Try.laysSlE041_f117 : Go.Proofs.SlLaysE0.n41 Try.prog Try.laysSlE041_f117_ren := {
  mixed := by kernel_rfl
  f41 := ⟨Try.f117.name, by decide, Try.func117.trans (congrArg some (by kernel_rfl))⟩
  t4 := Try.underlying4
  a4 := Try.isAgg4
  z4 := Try.sizeOf4
  v4 := Try.zeroValue4
  t22 := Try.underlying59
  a22 := Try.isAgg59
  z22 := Try.sizeOf59
  v22 := Try.zeroValue59 }
open Go.RowKit Go.Lib in
/-- slices.Clone: "Clone returns a copy of the slice. The elements are copied using assignment, so this is a shallow clone. The result may have additional unused capacity. The result preserves the nilness of s.": OF A SLICE THAT IS NOT nil IT RETURNS A SLICE THAT IS NOT nil, OF THE SAME CELLS, IN MEMORY OF THE CALL's OWN ('ownsRow': the how-to's 6f); below the heap's size at the call all is as it was. (LAID AT THE INSTANCE 'slices.Clone[[]uint32,uint32]': no walk: one application.) -/
theorem Try.slices_Clone_f117 (i0 : TypeInfo) (z : Value) (size bytes : Nat) (hi : Try.prog.info? 153 = some i0) (hz0 : i0.zero = some z) (hz1 : i0.size = size) (hz2 : i0.bytes = bytes) (hzs : z.cells.size = size) (hsz : 0 < size) (z23 : ∀ w, (Go.sizeOf 153).run Try.prog w = .ok size w) (b off n c : Nat) (news : List Value) (w : World) (hl : news.length = n * size) (hn : n ≤ maxLen) (hbig : n * bytes ≤ 140737488355328) (hc : ∀ j u, news[j]? = some u → w.cell? ⟨b, off + j, none⟩ = some u) (h1 : ∀ u ∈ news, u.oneCell' = true) :
    Calls Try.prog 117 #[.slice (some ⟨b, off, none⟩) n c] w fun e w' => ∃ v', e = .returned v' ∧ w'.ownsRow w.heap.size 153 size v' n news ∧ v' ≠ .slice none 0 0 ∧ Below w.heap.size w w' := AnyE.slices_Clone Try.laysSlE041_f117 i0 z size bytes hi hz0 hz1 hz2 hzs hsz z23 b off n c news w hl hn hbig hc h1
open Go.RowKit Go.Lib in
/-- The same at nil: nil comes back; the world is as it was; nothing is asked of the element's type. (LAID AT THE INSTANCE 'slices.Clone[[]int64,int64]': no walk: one application.) -/
theorem Try.slices_Clone_nil_f21 (n c : Nat) (w : World) :
    Calls Try.prog 21 #[.slice none n c] w fun e w' => e = .returned (.slice none 0 0) ∧ w' = w := AnyE.slices_Clone_nil Try.laysSlE041_f21 n c w
open Go.RowKit Go.Lib in
/-- The same at nil: nil comes back; the world is as it was; nothing is asked of the element's type. (LAID AT THE INSTANCE 'slices.Clone[[]int,int]': no walk: one application.) -/
theorem Try.slices_Clone_nil_f102 (n c : Nat) (w : World) :
    Calls Try.prog 102 #[.slice none n c] w fun e w' => e = .returned (.slice none 0 0) ∧ w' = w := AnyE.slices_Clone_nil Try.laysSlE041_f102 n c w
open Go.RowKit Go.Lib in
/-- The same at nil: nil comes back; the world is as it was; nothing is asked of the element's type. (LAID AT THE INSTANCE 'slices.Clone[[]uint32,uint32]': no walk: one application.) -/
theorem Try.slices_Clone_nil_f117 (n c : Nat) (w : World) :
    Calls Try.prog 117 #[.slice none n c] w fun e w' => e = .returned (.slice none 0 0) ∧ w' = w := AnyE.slices_Clone_nil Try.laysSlE041_f117 n c w
end Go.Proofs
/- limb.DivMod: the three short ways. -/
namespace Go.Proofs.Ytnchlckncknaiaa
open Go.RowKit

/-- What DivMod answers. -/
def DivAns (xs ys : List Int) (w w' : World) (e : Ending) : Prop :=
  ∃ q r qs rs, e = .returned (.tuple #[q, r, .int .i64 0]) ∧ SlU w' q (trimL qs) ∧ SlU w' r (trimL rs) ∧ Lim qs ∧ Lim rs ∧ val xs = val qs * val ys + val rs ∧ 0 ≤ val rs ∧ val rs < val ys ∧ (trimL qs).length ≤ xs.length + 4 ∧ (trimL rs).length ≤ xs.length + 4 ∧ Below w.heap.size w w'

theorem trimL_nil : trimL [] = [] := rfl
theorem cmpI_neg {a b : Int} (h : a < b) : cmpI a b = -1 := cmpI_lt h
theorem blk_one (W : World) (x : Int) : SlU (W.alloc (.cells #[.int .u32 x] 153)) (.slice (some ⟨W.heap.size, 0, none⟩) 1 1) [x] := by
  have h : UB (W.alloc (.cells #[.int .u32 x] 153)) W.heap.size [x] := UB.of_blk (Blk.new _ _ _)
  exact h.sl rfl (Nat.le_refl _)

set_option maxHeartbeats 4000000 in
set_option maxRecDepth 100000 in
theorem divMod_short {w : World} {u v : Value} {xs ys : List Int} (hu : SlU w u xs) (hv : SlU w v ys) (hx : Lim xs) (hy : Lim ys) (hn : xs.length ≤ 549755813000) (hm : ys.length ≤ 549755813000) (hpos : 0 < val ys)
    (hs : val xs < val ys ∨ (trimL ys).length = 1) :
    Calls Try.prog 137 #[u, v] w fun e w' => DivAns xs ys w w' e := by
  have HTy := hide (trim_calls hv (by omega))
  have Hvy := hide (trimL_val ys)
  have ny := trimL_nrm hy
  have ly := trimL_le ys
  have HNx := hide (norm_calls (w := w) hu (by omega))
  have hu' := hu
  have hne : (trimL ys).length ≠ 0 := by
    intro h
    have := List.eq_nil_of_length_eq_zero h
    have e := trimL_val ys
    rw [this] at e; simp [val] at e; omega
  obtain ⟨A, c, rfl, hc, hr⟩ := hu
  obtain ⟨B, d, rfl, hd, hq⟩ := hv
  generalize hps : trimL ys = ps at *
  clear hps
  go_enter Try.func137, Try.ntmps137
  go_wp2_with fail
  refine HTy.out.mono ?_
  clear HTy
  rintro e w1 ⟨⟨v1, rfl, h1⟩, rfl⟩
  obtain ⟨B1, d1, rfl, hd1, hq1⟩ := h1
  have hz : ((ps.length : Int) == 0) = false := beq_eq_false_iff_ne.2 (by omega)
  have HC := hide (cmp_calls (w := w1) hu' ⟨B1, d1, rfl, hd1, hq1⟩ hx ny.1 (by omega) (by omega))
  by_cases hlt : val xs < val ps
  · have HN := hide (cmpI_lt hlt)
    have HLT := hide hlt
    rw [cmpI_lt hlt] at HC
    clear hlt hs
    go_wp2_with fail
    refine HC.out.mono ?_
    clear HC
    rintro e w2 ⟨rfl, q0, rfl⟩
    have HN2 := hide (norm_calls (w := w1.drewN q0) (v := .slice A xs.length c) ⟨A, c, rfl, hc, hr⟩ (by omega))
    go_wp2_with fail
    refine HN2.out.mono ?_
    clear HN2
    rintro e w3 ⟨⟨v3, rfl, h3⟩, hb3⟩
    go_wp2
    go_ret3
    refine ⟨.slice none 0 0, v3, [], xs, rfl, ⟨none, 0, rfl, Nat.le_refl _, RdU.nil _ _⟩, h3, Lim.nil, hx, by simp [val], val_nonneg hx, by rw [← Hvy.out]; exact HLT.out, by rw [trimL_nil]; simp, by have := trimL_le xs; omega, ?_⟩
    exact (below_drewN (Below.refl _ w1) q0).trans hb3
  · have HV := hide Hvy.out
    have h1 : ps.length = 1 := by
      rcases hs with h | h
      · rw [Hvy.out] at hlt; exact absurd h hlt
      · exact h
    obtain ⟨x, rfl⟩ : ∃ x, ps = [x] := by
      match ps, h1 with
      | [x], _ => exact ⟨x, rfl⟩
    have hcx := cmpI_not_lt (a := val xs) (b := val [x]) (by omega)
    generalize hcc : cmpI (val xs) (val [x]) = cc at *
    clear hcc hlt hs
    have bx := ny.1.cons.1
    have hx0 : 0 < x := by
      have e := Hvy.out; simp [val] at e; omega
    have He : Hid (val ys = x) := by have e := Hvy.out; simp [val] at e; exact e.symm
    clear hne hz h1 HV Hvy
    go_wp2_with fail
    refine HC.out.mono ?_
    clear HC
    rintro e w2 ⟨rfl, q0, rfl⟩
    obtain ⟨b1, o1, rfl, hcell⟩ := hq1.at_ (j := 0) (by simp)
    have hcell' : w1.cell? ⟨b1, o1, none⟩ = some (.int .u32 x) := hcell
    clear hcell
    have HD := hide (divSmall_calls (w := w1.drewN q0) (u := .slice A xs.length c) (c := x) ⟨A, c, rfl, hc, hr⟩ hx (by omega) hx0 bx.2)
    simp only [List.length_singleton] at *
    go_wp2_with fail
    refine HD.out.mono ?_
    clear HD
    rintro e w3 ⟨⟨v3, zs, r, rfl, h3, hz1, hz2, hz3, hz4, hz5⟩, hb3⟩
    have HZ := hide hz2
    clear hz2
    go_wp2_with fail
    have hone := blk_one w3 r
    have hb4 : Below w1.heap.size w1 (w3.alloc (.cells #[.int .u32 r] 153)) := ((below_drewN (Below.refl _ w1) q0).trans hb3).alloc hb3.size _
    have h4 := h3.below ((Below.refl _ w3).alloc (Nat.le_refl _) (.cells #[.int .u32 r] 153))
    refine (norm_calls hone (by simp)).mono ?_
    rintro e w5 ⟨⟨v5, rfl, h5⟩, hb5⟩
    go_wp2
    go_ret3
    refine ⟨v3, v5, zs, [r], rfl, h4.below hb5, h5, hz1, Lim.mk ⟨by omega, by omega⟩ Lim.nil, by rw [He.out, HZ.out]; simp [val], by simp [val]; omega, by rw [He.out]; simp [val]; omega, by have := trimL_le zs; omega, by have := trimL_le [r]; simp at this; omega, ?_⟩
    exact below_then hb4 hb4.size hb5
end Go.Proofs.Ytnchlckncknaiaa
/- limb.DivMod: long division. -/
namespace Go.Proofs.Ytnchlckncknaiaa
open Go.RowKit

theorem UB.only {w w' : World} {g g' : Nat} {xs : List Int} (h : UB w g' xs) (ho : Only g w w') (hne : g' ≠ g) : UB w' g' xs := by
  have hl := h.lt
  obtain ⟨tl, h⟩ := h
  exact ⟨tl, (ho.block g' hl (by intro e; injection e with e; exact hne e)).trans h⟩
theorem RdU.lt {w : World} {A : Option Addr} {n : Nat} {xs : List Int} (h : RdU w A n xs) (hn : 0 < n) : ∀ a, A = some a → a.block < w.heap.size := by
  obtain ⟨b, off, e, hc⟩ := h.2 hn
  intro a ha
  rw [e] at ha; injection ha with ha; subst ha
  exact World.block_lt_of_cell? w _ (hc 0 hn)
theorem UB.far {w : World} {g g' i : Nat} {xs : List Int} (h : UB w g' xs) (hne : g' ≠ g) (v : Value) : UB (w.setCell ⟨g, i, none⟩ v) g' xs := by
  obtain ⟨tl, h⟩ := h
  exact ⟨tl, Blk.far h (p := ⟨g, i, none⟩) hne v⟩
theorem RdU.setFar {w : World} {A : Option Addr} {n g i : Nat} {xs : List Int} (h : RdU w A n xs) (hf : Far g A) (v : Value) : RdU (w.setCell ⟨g, i, none⟩ v) A n xs :=
  h.only hf (Only.setCell (Only.refl g w) i v)

theorem rdU_vals {w : World} {A : Option Addr} {n : Nat} {xs : List Int} (h : RdU w A n xs) : ∀ b, A = some b → ∀ (j : Nat) (u : Value), (xs.map (Value.int .u32))[j]? = some u → w.cell? (b.add j) = some u := by
  intro b hb j u hu
  rw [List.getElem?_map] at hu
  obtain ⟨x, hx, rfl⟩ := Option.map_eq_some_iff.1 hu
  have hj : j < xs.length := (List.getElem?_eq_some_iff.1 hx).1
  obtain ⟨b', off, e, hc⟩ := h.2 (by have := h.1; omega)
  rw [hb] at e; injection e with e; subst e
  rw [add_off, hc j (by have := h.1; omega)]
  simp [lg, hx]

set_option maxHeartbeats 8000000 in
set_option maxRecDepth 100000 in
theorem divMod_long {w : World} {u v : Value} {xs ys : List Int} (hu : SlU w u xs) (hv : SlU w v ys) (hx : Lim xs) (hy : Lim ys) (hn : xs.length ≤ 549755813000) (hm : ys.length ≤ 549755813000)
    (hge : val ys ≤ val xs) (p : Nat) (hp : (trimL ys).length = p + 2) :
    Calls Try.prog 137 #[u, v] w fun e w' => DivAns xs ys w w' e := by
  have HTy := hide (trim_calls hv (by omega))
  have Hvy := hide (trimL_val ys)
  have ny := trimL_nrm hy
  have ly := trimL_le ys
  have hu' := hu
  obtain ⟨A, c, rfl, hc, hr⟩ := hu
  obtain ⟨B, d, rfl, hd, hq⟩ := hv
  generalize hps : trimL ys = ps at *
  clear hps
  have Hp := hide hp
  have hpb : p ≤ 549755813000 := by omega
  have hz0 : (((p : Int) + 2) == 0) = false := beq_eq_false_iff_ne.2 (by omega)
  have hz1 : (((p : Int) + 2) == 1) = false := beq_eq_false_iff_ne.2 (by omega)
  have hcx := cmpI_not_lt (a := val xs) (b := val ps) (by rw [Hvy.out]; exact hge)
  have Hge := hide hge
  clear hge
  have bt := lg_lim ny.1 (p + 1)
  have htp : 0 < lg ps (p + 1) := by
    have h := ny.2.resolve_left (by intro e; subst e; simp at hp)
    rw [hp] at h
    have : lg ps (p + 1) ≠ 0 := h
    omega
  have HLZ : ∀ W, Hid (Calls Try.prog 170 #[.int .u32 (lg ps (p + 1))] W fun e w' => e = .returned (.int .i64 ((32 - Lib.bitLen (lg ps (p + 1)).toNat : Nat) : Int)) ∧ w' = W) := fun W =>
    (Try.bits_LeadingZeros32 (lg ps (p + 1)) W (by omega) (by omega)).mono fun e w' ⟨h1, h2⟩ => ⟨by rw [h1]; exact ret_int (by have := (bitLen_top htp bt.2).1; omega), h2⟩
  have HSU := hide (fun (zs : List Int) (hz : Nrm zs) (hv : val zs = val ps * 2 ^ (32 - Lib.bitLen (lg ps (p + 1)).toNat)) => shift_up ny hp hz hv)
  have hs32 : 32 - Lib.bitLen (lg ps (p + 1)).toNat ≤ 32 := by omega
  generalize 32 - Lib.bitLen (lg ps (p + 1)).toNat = s at *
  go_enter Try.func137, Try.ntmps137
  go_wp2_with fail
  refine HTy.out.mono ?_
  clear HTy
  rintro e w1 ⟨⟨v1, rfl, h1⟩, rfl⟩
  obtain ⟨B1, d1, rfl, hd1, hq1⟩ := h1
  have HC := hide (cmp_calls (w := w1) hu' ⟨B1, d1, rfl, hd1, hq1⟩ hx ny.1 (by omega) (by omega))
  generalize hcc : cmpI (val xs) (val ps) = cc at *
  clear hcc
  rw [hp] at hq1 hd1 HC ⊢
  clear hp
  go_wp2_with fail
  refine HC.out.mono ?_
  clear HC
  rintro e w2 ⟨rfl, q0, rfl⟩
  obtain ⟨b1, o1, rfl, hcell⟩ := hq1.at_ (j := p + 1) (by omega)
  go_wp2_with fail
  refine (HLZ _).out.mono ?_
  clear HLZ
  rintro e w3 ⟨rfl, rfl⟩
  go_wp2_with fail
  refine (shl_calls (n := s) (xs := ps) ⟨_, _, by rw [Hp.out], by rw [Hp.out]; exact hd1, by rw [Hp.out]; exact hq1⟩ ny.1 (by rw [Hp.out]; omega) (by omega)).mono ?_
  rintro e w4 ⟨⟨v4, zs, rfl, h4, hzl, hzv, _⟩, hb4⟩
  obtain ⟨hvl', hvt⟩ := HSU.out (trimL zs) (trimL_nrm hzl) (by rw [trimL_val]; exact hzv)
  have hvl : (trimL zs).length = p + 2 := hvl'
  clear hvl'
  have nz := trimL_nrm hzl
  have Hzv : Hid (val (trimL zs) = val ps * 2 ^ s) := by rw [trimL_val]; exact hzv
  obtain ⟨A4, rfl, hr4⟩ := h4
  clear HSU hzv hzl
  generalize trimL zs = vs at *
  rw [hvl] at hr4 ⊢
  have Hvl := hide hvl
  clear hvl
  have hbw4 : Below w1.heap.size w1 w4 := (below_drewN (Below.refl _ w1) q0).trans hb4
  have hvs : vs.length = p + 2 := Hvl.out
  go_wp2_with fail
  refine (shl_calls (n := s) (xs := xs) (w := w4) ⟨A, c, rfl, hc, hr.below hbw4⟩ hx (by omega) (by omega)).mono ?_
  rintro e w5 ⟨⟨v5, zs, rfl, h5, hzl, hzv, hzz⟩, hb5⟩
  have nu := trimL_nrm hzl
  have Huv : Hid (val (trimL zs) = val xs * 2 ^ s) := by rw [trimL_val]; exact hzv
  have hul := trimL_le zs
  have huL : p + 2 ≤ (trimL zs).length := by
    rcases Nat.lt_or_ge (trimL zs).length (p + 2) with h | h
    · have h1 := nu.len_lt nz (by omega)
      rw [Huv.out, Hzv.out, Hvy.out] at h1
      have h2 := Int.mul_le_mul_of_nonneg_right Hge.out (Int.le_of_lt (two_pos s))
      omega
    · exact h
  obtain ⟨A5, rfl, hr5⟩ := h5
  clear hzv hzl
  generalize trimL zs = us at *
  have hus1 : us.length ≤ xs.length + 3 := by
    have : s / 32 ≤ 1 := by omega
    omega
  clear hzz hul hvs
  obtain ⟨L, hL⟩ : ∃ L, us.length = L := ⟨_, rfl⟩
  rw [hL] at hr5 huL hus1 ⊢
  have HL := hide hL
  clear hL
  have hbw5 : Below w1.heap.size w1 w5 := below_then hbw4 hbw4.size hb5
  have hr4' := hr4.below hb5
  obtain ⟨i0, hi0, hzz⟩ := Option.map_eq_some_iff.1 A_info32
  simp only [Prod.mk.injEq] at hzz
  obtain ⟨hz0', hz1', hz2'⟩ := hzz
  have Hi0 := hide hi0
  have Hz0' := hide hz0'
  have Hz1' := hide hz1'
  have Hz2' := hide hz2'
  clear hi0 hz0' hz1' hz2'
  go_wp2_with (at_builtin; refine wpList_append_grows _ rfl (.tmp 66) (.tmp 67) 59 rfl 153 i0 (.int .u32 0) 1 4 Try.underlying59 Hi0.out Hz0'.out Hz1'.out Hz2'.out rfl (by omega) A5 L L (us.map (Value.int .u32)) rfl ?c1 ?c2 ?c3 ⟨w5.heap.size, 0, none⟩ 1 1 [.int .u32 0] rfl rfl ?c4 ?c5 ?c6 ?c7 ?c8 ?c9)
  case c1 => intro h; obtain ⟨b, off, e, _⟩ := hr5.2 (by omega); rw [e] at h; cases h
  case c2 => rw [List.length_map, HL.out]; omega
  case c3 => exact rdU_vals (hr5.below ((Below.refl _ w5).alloc (Nat.le_refl _) _))
  case c4 => exact cell_one_new _ _ _
  case c5 => intro u hu; simp at hu; subst hu; rfl
  case c6 => omega
  case c7 => unfold maxLen; omega
  case c8 => omega
  case c9 =>
    intro v6 w6 hown hgrow
    have hown' : w6.ownsRow (w5.heap.size + 1) 153 1 v6 (L + 1) ((us ++ [0]).map (Value.int .u32)) := by rw [List.map_append]; exact hown
    obtain ⟨g, cap, rfl, hcap, hgb, hU6, hul6⟩ := UB.of_own hown' (by omega)
    have hb6 : Below w5.heap.size w5 w6 := ((Below.refl _ w5).alloc (Nat.le_refl _) _).grown hgrow (by simp) (by simp)
    have hbw6 : Below w1.heap.size w1 w6 := below_then hbw5 hbw5.size hb6
    have hr6 := hr4'.below hb6
    have hfar : Far g A4 := fun a ha => by
      have := hr4'.lt (by omega) a ha
      omega
    clear hown hown' hgrow
    have Hul6 := hide hul6
    clear hul6
    have hmk := make_u32' (L - (p + 1)) ((L : Int) + 1 - ((p : Int) + 2)) (by omega) (by omega)
    go_wp2
    clear hmk
    have hU7 := hU6.below (B := w6.heap.size) ((Below.refl _ w6).alloc (Nat.le_refl _) (.cells (madeCells #[.int .u32 0] (L - (p + 1))) 153)) hU6.lt
    have hQ7 := UB.made w6 (L - (p + 1))
    have hr7 := hr6.below ((Below.refl _ w6).alloc (Nat.le_refl _) (.cells (madeCells #[.int .u32 0] (L - (p + 1))) 153))
    have hb7 : Below w1.heap.size w1 (w6.alloc (.cells (madeCells #[.int .u32 0] (L - (p + 1))) 153)) := hbw6.alloc hbw6.size _
    have hgl := hU6.lt
    have hlim0 : Lim (us ++ [0]) := nu.1.append (Lim.mk (by omega) Lim.nil)
    go_loopw [17] (fun i wr => ∃ (x : Int) (cur qs : List Int), -1 ≤ x ∧ x < ((L - (p + 1) : Nat) : Int) ∧ i = .int .i64 x ∧ DivLoop (val (us ++ [0])) (val vs) cur qs (p + 2) (x + 1).toNat ∧ Hid (cur.length = L + 1) ∧ Hid (qs.length = L - (p + 1)) ∧ UB wr g cur ∧ UB wr w6.heap.size qs ∧ RdU wr A4 (p + 2) vs ∧ Below w1.heap.size w1 wr) (fun i _ => (intOf i + 1).toNat)
    case atStart =>
      refine ⟨(L : Int) + 1 - ((p : Int) + 2) - 1, us ++ [0], _, by omega, by omega, rfl, ?_, Hul6.out, hide (by simp), hU7, hQ7, hr7, hb7⟩
      rw [show ((L : Int) + 1 - ((p : Int) + 2) - 1 + 1).toNat = L - (p + 1) by omega]
      refine DivLoop.start (n := p + 1) hlim0 (by rw [Hul6.out]; omega) ?_ ?_
      · rw [show L - (p + 1) + (p + 1) = us.length by rw [HL.out]; omega]; simp [lg]
      · have h := nz.low (by intro e; have := Hvl.out; rw [e] at this; simp at this)
        rw [Hvl.out] at h
        exact h
    case round =>
      obtain ⟨x, cur, qs, hx0, hx1, rfl, HD, Hcl, Hql, HU, HQ, HR, HB⟩ := hrel
      by_cases h0 : 0 ≤ x
      · obtain ⟨k, rfl⟩ := Int.eq_ofNat_of_zero_le h0
        have HD' : DivLoop (val (us ++ [0])) (val vs) cur qs (p + 1 + 1) (k + 1) := HD
        have hbel := HD'.below
        go_wp2_with fail
        rw [show k + (p + 2) + 1 - k = p + 3 by omega]
        have hVlt : val vs < pw (p + 2) := by
          have h := val_lt nz.1
          rw [Hvl.out] at h; exact h
        refine (digit_calls HU HD.1 (by have := Hcl.out; omega) HR hfar nz.1 (by omega) hvt hbel).mono ?_
        rintro e w8 ⟨⟨cur', q, rfl, hU8, hl8, hlim8, hq0, hq1, hs8, hs9, hs10, ho8⟩, hO8⟩
        have HD8 := HD'.step ⟨hq0, hq1⟩ hlim8 hl8 hVlt hs8 hs10 ho8
        have Hl8 := hide (hl8.trans Hcl.out)
        clear hl8 hs8 ho8 HD' hbel hVlt
        have hQ8 := HQ.only hO8 (by omega)
        have hR8 := HR.only hfar hO8
        have hB8 : Below w1.heap.size w1 w8 := HB.trans ((hO8.below (by have := HU.lt; omega)).mono (by have := hbw5.size; omega))
        have hf := hQ8.frozen k
        have hce := hQ8.cell (j := k) (by have := Hql.out; omega)
        go_wp2
        go_roundw
        case rel =>
          refine ⟨(k : Int) - 1, cur', _, by omega, by omega, rfl, ?_, Hl8, ?_, hU8.far (by omega) _, hQ8.set _ _, hR8.setFar ?_ _, hB8.setCell (p := ⟨w6.heap.size, k, none⟩) (by have := hbw6.size; exact this) _⟩
          · rw [show ((k : Int) - 1 + 1).toNat = k by omega]; exact HD8
          · have := Hql.out; unfold Hid; simpa using this
          · intro a ha
            have := hr4'.lt (by omega) a ha
            have := hb6.size
            omega
        case measure => simp [intOf]
      · have HE : Hid _ := (by
          have h := HD
          rw [show (x + 1).toNat = 0 by omega] at h
          exact hide h.done)
        have hlc := HD.1
        have hlq := HD.2.1
        clear HD
        have HS := hide (shr_calls (w := wr) (n := s) (HU.sl (c := cap) Hcl.out (by omega)) hlc (by have := Hcl.out; omega) (by omega))
        go_wp2_with fail
        refine HS.out.mono ?_
        clear HS
        rintro e w9 ⟨⟨v9, rs, rfl, h9, hrl, hrv, hrn⟩, hb9⟩
        have HRv := hide hrv
        clear hrv
        have hQ9 := HQ.below (B := wr.heap.size) hb9 HQ.lt
        go_wp2_with fail
        refine (trim_calls (hQ9.sl (c := L - (p + 1)) Hql.out (Nat.le_refl _)) (by have := Hql.out; omega)).mono ?_
        rintro e w10 ⟨⟨v10, rfl, h10⟩, rfl⟩
        go_wp2
        go_ret3
        have E := HE.out
        rw [val_append, Huv.out, Hzv.out, Hvy.out] at E
        obtain ⟨e1, e2, e3⟩ := E
        have hsd := shift_down (a := val xs) (b := val ys) (q := val qs) (R := val cur) (two_pos s) (by rw [← e1]; simp [val]) e2 e3
        rw [← HRv.out] at hsd
        refine ⟨v10, v9, qs, rs, rfl, h10, h9, hlq, hrl, hsd.1, hsd.2.1, hsd.2.2, ?_, ?_, below_then HB HB.size hb9⟩
        · have := trimL_le qs; have := Hql.out; omega
        · have := trimL_le rs; have := Hcl.out; omega
end Go.Proofs.Ytnchlckncknaiaa
/- integer: the words; made, Neg, Abs, Sign, Make, Of. -/
namespace Go.Proofs.Ytnchlckncknaiaa
open Go.RowKit

/-- What DivMod answers, whatever the operands. -/
theorem divMod_limbs {w : World} {u v : Value} {xs ys : List Int} (hu : SlU w u xs) (hv : SlU w v ys) (hx : Lim xs) (hy : Lim ys) (hn : xs.length ≤ 549755813000) (hm : ys.length ≤ 549755813000) (hpos : 0 < val ys) :
    Calls Try.prog 137 #[u, v] w fun e w' => DivAns xs ys w w' e := by
  by_cases h1 : val xs < val ys
  · exact divMod_short hu hv hx hy hn hm hpos (.inl h1)
  · by_cases h2 : (trimL ys).length = 1
    · exact divMod_short hu hv hx hy hn hm hpos (.inr h2)
    · have h0 : (trimL ys).length ≠ 0 := by
        intro h
        have e0 := List.eq_nil_of_length_eq_zero h
        have e := trimL_val ys
        rw [e0] at e; simp [val] at e; omega
      exact divMod_long hu hv hx hy hn hm (by omega) ((trimL ys).length - 2) (by omega)

def sgn (neg : Bool) (z : Int) : Int := if neg then -z else z
/-- A number of the program's: its value; it has at most N limbs. -/
def IntB (w : World) (v : Value) (z : Int) (N : Nat) : Prop :=
  ∃ neg s xs, v = .agg #[.bool neg, s] ∧ SlU w s xs ∧ Nrm xs ∧ xs.length ≤ N ∧ (neg = true → xs ≠ []) ∧ z = sgn neg (val xs)
theorem IntB.below {w w1 : World} {v : Value} {z : Int} {N : Nat} (h : IntB w v z N) (hb : Below w.heap.size w w1) : IntB w1 v z N := by
  obtain ⟨neg, s, xs, e, h1, h2⟩ := h
  exact ⟨neg, s, xs, e, h1.below hb, h2⟩
theorem IntB.mono {w : World} {v : Value} {z : Int} {N M : Nat} (h : IntB w v z N) (hm : N ≤ M) : IntB w v z M := by
  obtain ⟨neg, s, xs, e, h1, h2, h3, h4⟩ := h
  exact ⟨neg, s, xs, e, h1, h2, Nat.le_trans h3 hm, h4⟩
theorem val_pos {xs : List Int} (h : Nrm xs) (hne : xs ≠ []) : 0 < val xs := by
  have h1 := h.low hne
  have h2 := pw_pos (xs.length - 1)
  omega
theorem sgn_len (neg : Bool) (xs : List Int) : sgn (neg && decide (0 < xs.length)) (val xs) = sgn neg (val xs) := by
  cases xs with
  | nil => cases neg <;> simp [sgn, val]
  | cons x t => simp
theorem IntB.of {w : World} {s : Value} {xs : List Int} {N : Nat} (neg : Bool) (h : SlU w s xs) (hn : Nrm xs) (hl : xs.length ≤ N) : IntB w (.agg #[.bool (neg && decide (0 < xs.length)), s]) (sgn neg (val xs)) N :=
  ⟨_, s, xs, rfl, h, hn, hl, by cases xs <;> simp, (sgn_len neg xs).symm⟩

theorem ret_agg {v v' : Value} (h : v = v') : Ending.returned v = .returned v' := by rw [h]

set_option maxHeartbeats 1000000 in
theorem made_calls {w : World} {s : Value} {xs : List Int} {N : Nat} (neg : Bool) (h : SlU w s xs) (hn : Nrm xs) (hl : xs.length ≤ N) :
    Calls Try.prog 133 #[.bool neg, s] w fun e w' => (∃ v, e = .returned v ∧ IntB w' v (sgn neg (val xs)) N) ∧ Below w.heap.size w w' := by
  have hI := IntB.of neg h hn hl
  obtain ⟨A, c, rfl, hc, hr⟩ := h
  have hb : Below w.heap.size w (w.alloc (.cells #[.bool (neg && decide (0 < xs.length)), .slice A xs.length c] 61)) := (Below.refl _ _).alloc (Nat.le_refl _) _
  have HI := hI.below hb
  clear hI
  cases neg
  · go_enter Try.func133, Try.ntmps133
    go_wp2
    exact bodyPost_ret (v := .agg #[.bool false, .slice A xs.length c]) (by simp [results, Try.results133, go_sem]) rfl ⟨⟨_, rfl, HI⟩, hb⟩
  · by_cases h0 : 0 < xs.length
    · simp only [h0, decide_true, Bool.and_true] at HI hb
      have hd : decide (0 < xs.length) = true := by simpa using h0
      go_enter Try.func133, Try.ntmps133
      go_wp2
      exact bodyPost_ret (v := .agg #[.bool true, .slice A xs.length c]) (by simp [results, Try.results133, go_sem]) rfl ⟨⟨_, rfl, HI⟩, hb⟩
    · simp only [h0, decide_false, Bool.and_false] at HI hb
      have hd : decide (0 < xs.length) = false := by simpa using h0
      go_enter Try.func133, Try.ntmps133
      go_wp2
      exact bodyPost_ret (v := .agg #[.bool false, .slice A xs.length c]) (by simp [results, Try.results133, go_sem]) rfl ⟨⟨_, rfl, HI⟩, hb⟩

theorem sgn_not (neg : Bool) (z : Int) : sgn (!neg) z = - sgn neg z := by cases neg <;> simp [sgn]

/-- A variable of the program's numbers, in a block of its own. -/
def IV (w : World) (g : Nat) (a b : Value) : Prop := Blk w g 61 #[a, b]
theorem IV.c0 {w : World} {g : Nat} {a b : Value} (h : IV w g a b) : w.cell? ⟨g, 0, none⟩ = some a := by rw [Blk.cell h]; rfl
theorem IV.c1 {w : World} {g : Nat} {a b : Value} (h : IV w g a b) : w.cell? ⟨g, 1, none⟩ = some b := by rw [Blk.cell h]; rfl
theorem IV.f {w : World} {g : Nat} {a b : Value} (h : IV w g a b) (i : Nat) : w.frozen? ⟨g, i, none⟩ = false := Blk.frozen h i
theorem IV.lt {w : World} {g : Nat} {a b : Value} (h : IV w g a b) : g < w.heap.size := Blk.lt h
theorem IV.below {B : Nat} {w w' : World} {g : Nat} {a b : Value} (h : IV w g a b) (hb : Below B w w') (hg : g < B) : IV w' g a b := Blk.below h hb hg
theorem IV.put {w : World} {g : Nat} {a b : Value} (h : IV w g a b) (x y : Value) : IV ((w.setCell ⟨g, 0, none⟩ x).setCell ⟨g, 1, none⟩ y) g x y := by
  have h1 := Blk.set (Blk.set h 0 x) 1 y
  exact h1
theorem IV.new (w : World) (a b : Value) : IV (w.alloc (.cells #[a, b] 61)) w.heap.size a b := Blk.new _ _ _
theorem IV.alloc {w : World} {g : Nat} {a b : Value} (h : IV w g a b) (o : Obj) : IV (w.alloc o) g a b := Blk.alloc h o
/-- Neither cell of a variable is a limb. -/
def notU (a : Value) : Prop := ∀ n, a ≠ .int .u32 n
theorem RdU.iv {w : World} {A : Option Addr} {n : Nat} {xs : List Int} (h : RdU w A n xs) {g : Nat} {p : Bool} {s : Option Addr} {k c : Nat} (hv : IV w g (.bool p) (.slice s k c)) (x y : Value) :
    RdU ((w.setCell ⟨g, 0, none⟩ x).setCell ⟨g, 1, none⟩ y) A n xs :=
  ⟨h.1, fun hn => by
    obtain ⟨b, off, e, hc⟩ := h.2 hn
    refine ⟨b, off, e, fun j hj => ?_⟩
    have hne : b ≠ g := by
      rintro rfl
      have h1 := hc j hj
      rw [Blk.cell hv] at h1
      match h2 : off + j with
      | 0 => rw [h2] at h1; simp at h1
      | 1 => rw [h2] at h1; simp at h1
      | k + 2 => rw [h2] at h1; simp at h1
    rw [World.cell?_setCell_other _ _ _ _ (by intro e; injection e with e; exact hne e.symm), World.cell?_setCell_other _ _ _ _ (by intro e; injection e with e; exact hne e.symm)]
    exact hc j hj⟩
theorem IntB.iv {w : World} {v : Value} {z : Int} {N : Nat} (h : IntB w v z N) {g : Nat} {p : Bool} {s : Option Addr} {k c : Nat} (hv : IV w g (.bool p) (.slice s k c)) (x y : Value) :
    IntB ((w.setCell ⟨g, 0, none⟩ x).setCell ⟨g, 1, none⟩ y) v z N := by
  obtain ⟨neg, s, xs, e, ⟨A, c, e2, h1, h2⟩, h3⟩ := h
  exact ⟨neg, s, xs, e, ⟨A, c, e2, h1, h2.iv hv x y⟩, h3⟩
theorem res_int {fn : Func} {p : Tmp} (h : fn.results = #[.cell p 61]) {tmps : Array Value} {w : World} {g : Nat} {a b : Value} (hp : tmps.getD p undef = .pointer (some ⟨g, 0, none⟩)) (hv : IV w g a b) :
    (results fn tmps).run Try.prog w = .ok (.agg #[a, b]) w := by
  have h0 := hv.c0
  have h1 := hv.c1
  have hp' : (tmps[p]?).getD undef = .pointer (some ⟨g, 0, none⟩) := by simpa using hp
  simp [results, h, hp', go_sem, h0, h1]

/-- The end of a function whose result is a number in a variable of its own. -/
theorem bp_int {fn : Func} {p : Tmp} (h : fn.results = #[.cell p 61]) {R : Ending → World → Prop} {a : Act} {w0 w1 : World} {g B k c N : Nat} {x y : Value} {pb : Bool} {s : Option Addr} {z : Int}
    (hd : a.defers = []) (hp : a.tmps.getD p undef = .pointer (some ⟨g, 0, none⟩)) (hv : IV w1 g (.bool pb) (.slice s k c)) (hI : IntB w1 (.agg #[x, y]) z N) (hb : Below B w0 w1) (hB : B ≤ g)
    (hR : ∀ v W, IntB W v z N → Below B w0 W → R (.returned v) W) : bodyPost Try.prog fn R .ret a ((w1.setCell ⟨g, 0, none⟩ x).setCell ⟨g, 1, none⟩ y) :=
  bodyPost_ret (res_int h hp (hv.put x y)) hd (hR _ _ (hI.iv hv x y) ((hb.setCell (p := ⟨g, 0, none⟩) hB x).setCell (p := ⟨g, 1, none⟩) hB y))

set_option maxHeartbeats 1000000 in
theorem neg_calls {w : World} {v : Value} {z : Int} {N : Nat} (h : IntB w v z N) :
    Calls Try.prog 92 #[v] w fun e w' => (∃ v', e = .returned v' ∧ IntB w' v' (-z) N) ∧ Below w.heap.size w w' := by
  obtain ⟨neg, s, xs, rfl, hs, hn, hl, _, rfl⟩ := h
  obtain ⟨A, c, rfl, hc, hr⟩ := hs
  have hb0 : Below w.heap.size w ((w.alloc (.cells #[.bool neg, .slice A xs.length c] 61)).alloc (.cells #[.bool false, .slice none 0 0] 61)) := ((Below.refl _ _).alloc (Nat.le_refl _) _).alloc (by simp) _
  have hv0 := IV.new (w.alloc (.cells #[.bool neg, .slice A xs.length c] 61)) (.bool false) (.slice none 0 0)
  rw [World.size_alloc] at hv0
  go_enter Try.func92, Try.ntmps92
  go_wp2_with fail
  refine (made_calls (!neg) ⟨A, c, rfl, hc, hr.below hb0⟩ hn hl).mono ?_
  rintro e w1 ⟨⟨v1, rfl, h1⟩, hb1⟩
  rw [sgn_not] at h1
  have hv1 := hv0.below hb1 hv0.lt
  have hI := h1
  obtain ⟨n1, s1, ys, rfl, ⟨A1, c1, rfl, hc1, hr1⟩, hrest⟩ := h1
  have hk0 := hv1.c0
  have hk1 := hv1.c1
  have hf0 := hv1.f 0
  have hf1 := hv1.f 1
  go_wp2
  exact bp_int rfl rfl rfl hv1 hI (below_then hb0 hb0.size hb1) (by omega) fun v W h1 h2 => ⟨⟨v, rfl, h1⟩, h2⟩

set_option maxHeartbeats 1000000 in
theorem abs_calls {w : World} {v : Value} {z : Int} {N : Nat} (h : IntB w v z N) :
    Calls Try.prog 138 #[v] w fun e w' => (∃ v', e = .returned v' ∧ IntB w' v' (z.natAbs : Int) N) ∧ Below w.heap.size w w' := by
  obtain ⟨neg, s, xs, rfl, hs, hn, hl, _, rfl⟩ := h
  obtain ⟨A, c, rfl, hc, hr⟩ := hs
  have hb0 : Below w.heap.size w ((w.alloc (.cells #[.bool neg, .slice A xs.length c] 61)).alloc (.cells #[.bool false, .slice none 0 0] 61)) := ((Below.refl _ _).alloc (Nat.le_refl _) _).alloc (by simp) _
  have hv0 := IV.new (w.alloc (.cells #[.bool neg, .slice A xs.length c] 61)) (.bool false) (.slice none 0 0)
  rw [World.size_alloc] at hv0
  have hz : Hid (sgn false (val xs) = ((sgn neg (val xs)).natAbs : Int)) := by
    have := val_nonneg hn.1
    cases neg <;> simp [sgn, Hid] <;> omega
  go_enter Try.func138, Try.ntmps138
  go_wp2_with fail
  refine (made_calls false ⟨A, c, rfl, hc, hr.below hb0⟩ hn hl).mono ?_
  rintro e w1 ⟨⟨v1, rfl, h1⟩, hb1⟩
  rw [hz.out] at h1
  have hv1 := hv0.below hb1 hv0.lt
  have hI := h1
  obtain ⟨n1, s1, ys, rfl, ⟨A1, c1, rfl, hc1, hr1⟩, hrest⟩ := h1
  have hk0 := hv1.c0
  have hk1 := hv1.c1
  have hf0 := hv1.f 0
  have hf1 := hv1.f 1
  go_wp2
  exact bp_int rfl rfl rfl hv1 hI (below_then hb0 hb0.size hb1) (by omega) fun v W h1 h2 => ⟨⟨v, rfl, h1⟩, h2⟩

def sgnI (z : Int) : Int := if z = 0 then 0 else if z < 0 then -1 else 1
set_option maxHeartbeats 1000000 in
theorem sign_calls {w : World} {v : Value} {z : Int} {N : Nat} (h : IntB w v z N) :
    Calls Try.prog 98 #[v] w fun e w' => e = .returned (.int .i64 (sgnI z)) ∧ Below w.heap.size w w' := by
  obtain ⟨neg, s, xs, rfl, hs, hn, hl, hne, rfl⟩ := h
  obtain ⟨A, c, rfl, hc, hr⟩ := hs
  by_cases h0 : xs.length = 0
  · obtain rfl := List.eq_nil_of_length_eq_zero h0
    have hz : (((([] : List Int).length : Int)) == 0) = true := rfl
    go_enter Try.func98, Try.ntmps98
    go_wp2
    go_ret
    exact ⟨ret_int (by cases neg <;> simp [sgnI, sgn, val]), (Below.refl _ _).alloc (Nat.le_refl _) _⟩
  · have hz : ((xs.length : Int) == 0) = false := beq_eq_false_iff_ne.2 (by omega)
    have hp := val_pos hn (by intro e; subst e; exact h0 rfl)
    have HP : Hid (sgnI (sgn neg (val xs)) = if neg then -1 else 1) := by
      cases neg <;> simp [sgn, Hid, sgnI] <;> omega
    clear hp
    cases neg
    · go_enter Try.func98, Try.ntmps98
      go_wp2
      go_ret
      exact ⟨ret_int (by rw [HP.out]; rfl), (Below.refl _ _).alloc (Nat.le_refl _) _⟩
    · go_enter Try.func98, Try.ntmps98
      go_wp2
      go_ret
      exact ⟨ret_int (by rw [HP.out]; rfl), (Below.refl _ _).alloc (Nat.le_refl _) _⟩

set_option maxHeartbeats 1000000 in
theorem make_calls {w : World} {s : Value} {xs : List Int} (neg : Bool) (hs : SlU w s xs) (hx : Lim xs) (hl : xs.length ≤ 1099511627776) :
    Calls Try.prog 99 #[.bool neg, s] w fun e w' => (∃ v', e = .returned v' ∧ IntB w' v' (sgn neg (val xs)) xs.length) ∧ Below w.heap.size w w' := by
  obtain ⟨A, c, rfl, hc, hr⟩ := hs
  have hb0 : Below w.heap.size w (w.alloc (.cells #[.bool false, .slice none 0 0] 61)) := (Below.refl _ _).alloc (Nat.le_refl _) _
  have hv0 := IV.new w (.bool false) (.slice none 0 0)
  go_enter Try.func99, Try.ntmps99
  go_wp2_with fail
  refine (norm_calls (xs := xs) ⟨A, c, rfl, hc, hr.below hb0⟩ hl).mono ?_
  rintro e w1 ⟨⟨v1, rfl, h1⟩, hb1⟩
  have hv1 := hv0.below hb1 hv0.lt
  have hb01 := below_then hb0 hb0.size hb1
  go_wp2_with fail
  refine (made_calls neg h1 (trimL_nrm hx) (trimL_le xs)).mono ?_
  rintro e w2 ⟨⟨v2, rfl, h2⟩, hb2⟩
  rw [trimL_val] at h2
  have hv2 := hv1.below hb2 hv1.lt
  have hI := h2
  obtain ⟨n1, s1, ys, rfl, ⟨A1, c1, rfl, hc1, hr1⟩, hrest⟩ := h2
  have hk0 := hv2.c0
  have hk1 := hv2.c1
  have hf0 := hv2.f 0
  have hf1 := hv2.f 1
  go_wp2
  exact bp_int rfl rfl rfl hv2 hI (below_then hb01 hb01.size hb2) (by omega) fun v W h1 h2 => ⟨⟨v, rfl, h1⟩, h2⟩
end Go.Proofs.Ytnchlckncknaiaa
