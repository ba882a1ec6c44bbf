/- Made by hand in this session (NOTES.md). -/
import Derived.Test.YtbkeihhkcaihiaaDoorB
import Derived.IntWalk
import Derived.Test.YtbkeihhkcaihiaaDoorA4
import Derived.Test.YtbkeihhkcaihiaaDoorA8
import Derived.Test.YtbkeihhkcaihiaaDoorA12
import Derived.Test.YtbkeihhkcaihiaaDoorA13
import Derived.Test.YtbkeihhkcaihiaaDoorA14
import Derived.Test.YtbkeihhkcaihiaaDoorA15
import Derived.Test.YtbkeihhkcaihiaaDoorH
import Derived.Test.YtbkeihhkcaihiaaDoorA17
namespace Go.Proofs.YtbkeihhkcaihiaaDoor.Pure
open Go.RowKit Go.Proofs.YtbkeihhkcaihiaaDoorW.PrintWords Go.Proofs.YtbkeihhkcaihiaaDoorW.PrintMore
/-- With rounds enough, f tells v. -/
def Tells {α : Type} (f : Nat → Option α) (v : α) : Prop := ∃ K, ∀ k, K ≤ k → f k = some v
section
variable {α β : Type} {f g : Nat → Option α} {v : α}
theorem Tells.of (o : Option α) (h : o = some v) : Tells (fun _ => o) v := ⟨0, fun _ _ => h⟩
theorem Tells.now (v : α) : Tells (fun _ => some v) v := ⟨0, fun _ _ => rfl⟩
theorem Tells.ex (h : Tells f v) : ∃ k, f k = some v := let ⟨K, hK⟩ := h; ⟨K, hK K (Nat.le_refl _)⟩
theorem Tells.congr (h : Tells f v) (e : ∀ k, g k = f k) : Tells g v := let ⟨K, hK⟩ := h; ⟨K, fun k hk => (e k).trans (hK k hk)⟩
theorem Tells.step (e : ∀ k, g (k + 1) = f k) (h : Tells f v) : Tells g v := by
  obtain ⟨K, hK⟩ := h
  refine ⟨K + 1, fun k hk => ?_⟩
  obtain ⟨k', rfl⟩ : ∃ k', k = k' + 1 := ⟨k - 1, by omega⟩
  rw [e]
  exact hK k' (by omega)
theorem Tells.bind {f : Nat → Option α} {g : Nat → α → Option β} {u : β} (h : Tells f v) (h2 : Tells (fun k => g k v) u) : Tells (fun k => (f k).bind (g k)) u := by
  obtain ⟨K, hK⟩ := h
  obtain ⟨L, hL⟩ := h2
  exact ⟨max K L, fun k hk => by show (f k).bind (g k) = some u; rw [hK k (by omega), Option.bind_some]; exact hL k (by omega)⟩
theorem Tells.pos {c : Prop} [Decidable c] (hc : c) (h : Tells f v) : Tells (fun k => if c then f k else g k) v := h.congr (fun _ => if_pos hc)
theorem Tells.neg {c : Prop} [Decidable c] (hc : ¬c) (h : Tells g v) : Tells (fun k => if c then f k else g k) v := h.congr (fun _ => if_neg hc)
end
theorem wrap_nat (i : Nat) (h : i < 9223372036854775808) : wrap64 (i : Int) = (i : Int) := by unfold wrap64; omega
theorem wrap_succ (i : Nat) (h : i < 9223372036854775807) : wrap64 ((i : Int) + 1) = ((i + 1 : Nat) : Int) := by unfold wrap64; omega
theorem wrap_id (x : Int) (h : -9223372036854775808 ≤ x) (h2 : x ≤ 9223372036854775807) : wrap64 x = x := by unfold wrap64; omega
theorem rd_get (l : List Int) (i : Nat) (h : i < l.length) : rd l (i : Int) = l[i] := by
  unfold rd
  simp [List.getD_eq_getElem?_getD, List.getElem?_eq_getElem h]
/-! ### bits -/
theorem u32_lt {m : Nat} (h : m < 4294967296) : m < 2 ^ 32 := h
theorem has_eq (m p : Nat) (hm : m < 4294967296) : (Go.bits .and .u32 (shr .u32 (m : Int) (p : Int)) 1 == 1) = m.testBit p := by
  have h1 : shr .u32 (m : Int) (p : Int) = ((m / 2 ^ min p 32 : Nat) : Int) := by
    unfold shr
    simp [IntKind.bits]
  rw [h1, show (1 : Int) = ((1 : Nat) : Int) from rfl, u32_and _ _ (Nat.lt_of_le_of_lt (Nat.div_le_self _ _) hm) (by omega), Nat.and_one_is_mod]
  rcases Nat.lt_or_ge p 33 with hp | hp
  · rw [Nat.min_eq_left (by omega), Nat.testBit_eq_decide_div_mod_eq]
    rcases Nat.mod_two_eq_zero_or_one (m / 2 ^ p) with h | h <;> rw [h] <;> rfl
  · rw [Nat.min_eq_right (by omega), Nat.testBit_lt_two_pow (Nat.lt_of_lt_of_le hm (by rw [show (4294967296 : Nat) = 2 ^ 32 from rfl]; exact Nat.pow_le_pow_right (by omega) (by omega)))]
    rw [Nat.div_eq_of_lt (show m < 2 ^ 32 from hm)]
    rfl
theorem shl_lt (p : Nat) (hp : p < 32) : shl .u32 1 (p : Int) = ((2 ^ p : Nat) : Int) := by
  unfold shl
  rw [wrap_u32n]
  simp only [Int.toNat_natCast, IntKind.bits, Int.one_mul]
  rw [Nat.min_eq_left (by omega)]
  have : (2 : Nat) ^ p < 2 ^ 32 := Nat.pow_lt_pow_right (by omega) hp
  have h2 : ((2 ^ p : Nat) : Int) = (2 : Int) ^ p := by simp
  rw [← h2]
  have h3 : (2 : Nat) ^ p < 4294967296 := this
  clear h2 this
  generalize (2 : Nat) ^ p = q at h3 ⊢
  omega
theorem two_lt (p : Nat) (hp : p < 32) : (2 : Nat) ^ p < 4294967296 := Nat.pow_lt_pow_right (by omega : 1 < 2) hp
theorem or_eq (m p : Nat) (hm : m < 4294967296) (hp : p < 32) : Go.bits .or .u32 (m : Int) (shl .u32 1 (p : Int)) = ((m ||| 2 ^ p : Nat) : Int) := by
  rw [shl_lt p hp, u32_or _ _ hm (two_lt p hp)]
theorem or_lt (m p : Nat) (hm : m < 4294967296) (hp : p < 32) : m ||| 2 ^ p < 4294967296 := Nat.or_lt_two_pow (n := 32) hm (two_lt p hp)
theorem testBit_or1 (m p q : Nat) : (m ||| 2 ^ p).testBit q = (m.testBit q || decide (p = q)) := by
  rw [Nat.testBit_or, Nat.testBit_two_pow]
/-- The set bits below 32, in ascending order. -/
def bitsOf (m : Nat) : List Nat := (List.range 32).filter (fun p => m.testBit p)
theorem mem_bitsOf (m p : Nat) (hm : m < 4294967296) : p ∈ bitsOf m ↔ m.testBit p = true := by
  unfold bitsOf
  rw [List.mem_filter, List.mem_range]
  refine ⟨fun h => h.2, fun h => ⟨?_, h⟩⟩
  rcases Nat.lt_or_ge p 32 with h2 | h2
  · exact h2
  · rw [Nat.testBit_lt_two_pow (Nat.lt_of_lt_of_le (show m < 2 ^ 32 from hm) (Nat.pow_le_pow_right (by omega) h2))] at h
    cases h
theorem popc_filter : ∀ (f m : Nat), popc f m = ((List.range f).filter (fun p => m.testBit p)).length
  | 0, m => rfl
  | f + 1, m => by
    rw [popc, popc_filter f (m / 2), List.range_succ_eq_map, List.filter_cons, List.filter_map, Nat.testBit_zero]
    have e : ((fun p => m.testBit p) ∘ Nat.succ) = fun p => (m / 2).testBit p := by
      funext p
      simp [Function.comp, Nat.testBit_succ]
    rw [e]
    rcases Nat.mod_two_eq_zero_or_one m with h | h <;> simp [h] <;> omega
theorem popc_bits (m : Nat) : popc 32 m = (bitsOf m).length := popc_filter 32 m
/-- Bits of u32 without others. -/
theorem u32_andNot (a b : Nat) (ha : a < 4294967296) (hb : b < 4294967296) : Go.bits .andNot .u32 (a : Int) (b : Int) = ((a &&& (4294967295 - b) : Nat) : Int) := by
  have e : ~~~ (BitVec.ofInt 32 (b : Int)) = BitVec.ofNat 32 (4294967295 - b) := by
    apply BitVec.eq_of_toNat_eq
    rw [BitVec.toNat_not, ofInt_u32 b hb, BitVec.toNat_ofNat, Nat.mod_eq_of_lt (by omega)]
  have hx : a &&& (4294967295 - b) < 2 ^ 32 := Nat.and_lt_two_pow _ (by omega)
  show IntKind.u32.wrap ((BitVec.ofInt 32 (a : Int) &&& ~~~ (BitVec.ofInt 32 (b : Int))).toNat : Int) = _
  rw [BitVec.toNat_and, ofInt_u32 a ha, e, BitVec.toNat_ofNat, Nat.mod_eq_of_lt (by omega : 4294967295 - b < 2 ^ 32), wrap_u32n]
  omega
theorem testBit_not (b q : Nat) (hb : b < 4294967296) : (4294967295 - b).testBit q = (decide (q < 32) && !b.testBit q) := by
  have h := Nat.testBit_two_pow_sub_succ (x := b) (n := 32) hb q
  rw [← h]
  congr 1
  omega
/-- m without bit p. -/
def drop1 (m p : Nat) : Nat := m &&& (4294967295 - 2 ^ p)
theorem drop1_eq (m p : Nat) (hm : m < 4294967296) (hp : p < 32) : Go.bits .andNot .u32 (m : Int) (shl .u32 1 (p : Int)) = ((drop1 m p : Nat) : Int) := by
  rw [shl_lt p hp, u32_andNot _ _ hm (two_lt p hp)]
  rfl
theorem drop1_lt (m p : Nat) (hm : m < 4294967296) : drop1 m p < 4294967296 := Nat.lt_of_le_of_lt Nat.and_le_left hm
theorem testBit_drop1 (m p q : Nat) (hm : m < 4294967296) (hp : p < 32) : (drop1 m p).testBit q = (m.testBit q && !decide (p = q)) := by
  unfold drop1
  rw [Nat.testBit_and, testBit_not _ _ (two_lt p hp), Nat.testBit_two_pow]
  rcases Nat.lt_or_ge q 32 with h | h
  · simp [h]
  · rw [Nat.testBit_lt_two_pow (Nat.lt_of_lt_of_le (show m < 2 ^ 32 from hm) (Nat.pow_le_pow_right (by omega) h))]
    simp
/-- The lowest set bit, and the number without it. -/
theorem low_bit (m : Nat) (hm : m < 4294967296) (h0 : m ≠ 0) : ∃ t, Lib.ctz 32 m = t ∧ t < 32 ∧ m.testBit t = true ∧ (∀ p, p < t → m.testBit p = false) ∧ ∀ p, (m &&& (m - 1)).testBit p = (m.testBit p && decide (t < p)) := by
  refine ⟨_, rfl, ?_⟩
  have hc : Lib.ctz 32 m = Lib.ctzFrom 32 m := by unfold Lib.ctz; rw [if_neg h0]
  obtain ⟨q, hq, hlt⟩ := Lib.ctzFrom_spec 32 m (by omega) hm
  rw [hc]
  generalize Lib.ctzFrom 32 m = t at hq hlt
  have hb : ∀ p, m.testBit p = (decide (t ≤ p) && (2 * q + 1).testBit (p - t)) := by
    intro p
    rw [hq, Nat.testBit_two_pow_mul]
  have hm1 : m - 1 = 2 ^ t * (2 * q) + (2 ^ t - 1) := by
    have h1 : 0 < 2 ^ t := Nat.two_pow_pos t
    rw [hq, Nat.mul_add, Nat.mul_one]
    omega
  have hb1 : ∀ p, (m - 1).testBit p = if p < t then true else (2 * q).testBit (p - t) := by
    intro p
    rw [hm1, Nat.testBit_two_pow_mul_add _ (by have := Nat.two_pow_pos t; omega)]
    by_cases h : p < t
    · rw [if_pos h, if_pos h, Nat.testBit_two_pow_sub_one]
      simpa using h
    · rw [if_neg h, if_neg h]
  refine ⟨hlt, ?_, fun p hp => ?_, fun p => ?_⟩
  · rw [hb, Nat.sub_self]
    simp
  · rw [hb]
    simp
    omega
  · rw [Nat.testBit_and, hb1, hb]
    rcases Nat.lt_trichotomy p t with h | h | h
    · have h1 : ¬ t ≤ p := by omega
      simp [h1]
    · subst h
      simp
    · have h1 : ¬ p < t := by omega
      have h2 : t ≤ p := by omega
      have e : p - t = (p - t - 1) + 1 := by omega
      rw [if_neg h1, e, Nat.testBit_succ, Nat.testBit_succ]
      simp [h, h2]
      have h3 : (2 * q + 1) / 2 = q := by omega
      rw [h3]
      simp
/-- The ascending list begins with the lowest bit. -/
theorem bits_cons (m : Nat) (hm : m < 4294967296) (h0 : m ≠ 0) : bitsOf m = Lib.ctz 32 m :: bitsOf (m &&& (m - 1)) := by
  obtain ⟨t, ht, hlt, h1, h2, h3⟩ := low_bit m hm h0
  rw [ht]
  have key : ∀ f, t < f → (List.range f).filter (fun p => m.testBit p) = t :: (List.range f).filter (fun p => (m &&& (m - 1)).testBit p) := by
    intro f
    induction f with
    | zero => intro h; omega
    | succ f ih =>
      intro h
      rw [List.range_succ, List.filter_append, List.filter_append]
      rcases Nat.lt_or_ge t f with h4 | h4
      · rw [ih h4, List.cons_append]
        congr 2
        rw [List.filter_cons, List.filter_cons, h3]
        simp [h4]
      · obtain rfl : t = f := by omega
        have e1 : (List.range t).filter (fun p => m.testBit p) = [] := by
          rw [List.filter_eq_nil_iff]
          intro p hp
          rw [h2 p (List.mem_range.mp hp)]
          simp
        have e2 : (List.range t).filter (fun p => (m &&& (m - 1)).testBit p) = [] := by
          rw [List.filter_eq_nil_iff]
          intro p hp
          rw [h3, h2 p (List.mem_range.mp hp)]
          simp
        rw [e1, e2, List.filter_cons, List.filter_cons, h3, h1]
        simp
  exact key 32 hlt
theorem bits_zero : bitsOf 0 = [] := by
  unfold bitsOf
  rw [List.filter_eq_nil_iff]
  intro p _
  simp
theorem ext_bits {m m' : Nat} (h : ∀ p, m.testBit p = m'.testBit p) : bitsOf m = bitsOf m' := by
  unfold bitsOf
  congr 1
  funext p
  exact h p
end Go.Proofs.YtbkeihhkcaihiaaDoor.Pure

namespace Go.Proofs.YtbkeihhkcaihiaaDoor.Pure
open Go.RowKit Go.Proofs.YtbkeihhkcaihiaaDoor.FnSeatings Go.Proofs.YtbkeihhkcaihiaaDoorW.PrintWords Go.Proofs.YtbkeihhkcaihiaaDoorW.PrintMore
set_option linter.unusedVariables false
theorem within_eq (a b c : Int) : impl_within.f a b c = some (decide (b ≤ a ∧ a ≤ c)) := by
  unfold impl_within.f
  by_cases h : a ≥ b
  · rw [if_pos h]
    simp [h]
  · rw [if_neg h]
    have : ¬ b ≤ a := h
    simp [this]
theorem in_eq (a b c : Int) : spec_l1In.f a b c = some (decide (b ≤ a ∧ a ≤ c)) := by
  unfold spec_l1In.f
  by_cases h : a ≥ b
  · rw [if_pos h]
    simp [h]
  · rw [if_neg h]
    have : ¬ b ≤ a := h
    simp [this]
/-- The numbers of travelers and of lost passes are valid. -/
def good (n k : Int) : Bool := decide (1 ≤ n ∧ n ≤ 12) && decide (0 ≤ k ∧ k ≤ n)
theorem plane_eq (n k : Int) : impl_isPlane.f n k = some (good n k) := by
  unfold impl_isPlane.f good
  rw [within_eq, Option.bind_some]
  by_cases h : 1 ≤ n ∧ n ≤ 12
  · simp [h, within_eq]
  · simp [h]
theorem good_eq (n k : Int) : spec_l5Good.f n k = some (good n k) := by
  unfold spec_l5Good.f good
  rw [in_eq, Option.bind_some]
  by_cases h : 1 ≤ n ∧ n ≤ 12
  · simp [h, in_eq]
  · simp [h]
theorem has_l0 (l : List Int) (x : Int) (hl : l.length < 1000000) : ∀ (d i : Nat), i + d = l.length → Tells (fun k => spec_l1Has.l0 k l x (i : Int)) (decide (x ∈ l.drop i))
  | 0, i, h => by
    refine Tells.step (fun k => ?_) (Tells.now _)
    rw [spec_l1Has.l0, if_neg (by omega)]
    rw [List.drop_of_length_le (by omega)]
    simp
  | d + 1, i, h => by
    have hi : i < l.length := by omega
    have e : l.drop i = l[i] :: l.drop (i + 1) := List.drop_eq_getElem_cons hi
    by_cases hx : l[i] = x
    · refine Tells.step (fun k => ?_) (Tells.now _)
      rw [spec_l1Has.l0, if_pos (by omega), if_pos (by omega), rd_get l i hi, if_pos hx, e]
      simp [hx]
    · refine Tells.step (f := fun k => spec_l1Has.l0 k l x ((i + 1 : Nat) : Int)) (fun k => ?_) ?_
      · rw [spec_l1Has.l0, if_pos (by omega), if_pos (by omega), rd_get l i hi, if_neg hx, wrap_succ i (by omega)]
      · have h2 := has_l0 l x hl d (i + 1) (by omega)
        rw [e]
        have e2 : decide (x ∈ l[i] :: l.drop (i + 1)) = decide (x ∈ l.drop (i + 1)) := by
          have h3 : ¬ x = l[i] := fun h => hx h.symm
          rw [decide_eq_decide, List.mem_cons]
          exact ⟨fun h => h.resolve_left h3, Or.inr⟩
        rw [e2]
        exact h2
theorem has_tells (l : List Int) (x : Int) (hl : l.length < 1000000) : Tells (fun k => spec_l1Has.f k l x) (decide (x ∈ l)) := by
  have h := has_l0 l x hl l.length 0 (by omega)
  rw [List.drop_zero] at h
  exact h
/-- The seats below n that are not among b, in ascending order. -/
def freeFrom (n : Nat) (b : List Int) (i : Nat) : List Int := ((List.range' i (n - i)).filter (fun (p : Nat) => !decide ((p : Int) ∈ b))).map (fun (p : Nat) => (p : Int))
def freeL (n : Nat) (b : List Int) : List Int := freeFrom n b 0
def choices (n k : Nat) (b : List Int) : List Int := if k ≤ b.length ∧ ¬ (b.length : Int) ∈ b then [(b.length : Int)] else freeL n b
theorem freeFrom_end (n : Nat) (b : List Int) (i : Nat) (h : n ≤ i) : freeFrom n b i = [] := by
  unfold freeFrom
  rw [show n - i = 0 by omega]
  rfl
theorem freeFrom_step (n : Nat) (b : List Int) (i : Nat) (h : i < n) : freeFrom n b i = if (i : Int) ∈ b then freeFrom n b (i + 1) else (i : Int) :: freeFrom n b (i + 1) := by
  unfold freeFrom
  rw [show n - i = (n - (i + 1)) + 1 by omega, List.range'_succ, List.filter_cons]
  by_cases hb : (i : Int) ∈ b <;> simp [hb]
theorem choices_l0 (n : Nat) (b : List Int) (hb : b.length < 1000000) (hn : n < 1000000) : ∀ (d i : Nat) (acc : List Int), i + d = n → acc.length ≤ i → Tells (fun k => spec_l5Choices.l0 k (n : Int) b acc (i : Int)) (acc ++ freeFrom n b i)
  | 0, i, acc, h, ha => by
    refine Tells.step (fun k => ?_) (Tells.now _)
    rw [spec_l5Choices.l0, if_neg (by omega), freeFrom_end n b i (by omega), List.append_nil]
  | d + 1, i, acc, h, ha => by
    refine Tells.step (f := fun k => (spec_l1Has.f k b (i : Int)).bind fun t => (if t = true then (spec_l5Choices.l0 k (n : Int) b acc ((i + 1 : Nat) : Int)) else (if acc.length < 17592186044416 then (spec_l5Choices.l0 k (n : Int) b (acc ++ [(i : Int)]) ((i + 1 : Nat) : Int)) else (none)))) (fun k => ?_) ?_
    · rw [spec_l5Choices.l0, if_pos (by omega), wrap_succ i (by omega)]
    · refine Tells.bind (has_tells b i hb) ?_
      rw [freeFrom_step n b i (by omega)]
      by_cases hx : (i : Int) ∈ b
      · simp only [hx, decide_true, if_true]
        exact choices_l0 n b hb hn d (i + 1) acc (by omega) (by omega)
      · simp only [hx, decide_false, if_false, Bool.false_eq_true]
        refine Tells.pos (by omega) ?_
        have h2 := choices_l0 n b hb hn d (i + 1) (acc ++ [(i : Int)]) (by omega) (by simp; omega)
        rw [List.append_assoc, List.singleton_append] at h2
        exact h2
theorem choices_tells (n k : Nat) (b : List Int) (hb : b.length < 1000000) (hn : n < 1000000) : Tells (fun q => spec_l5Choices.f q (n : Int) (k : Int) b) (choices n k b) := by
  have hfree : Tells (fun q => spec_l5Choices.j0 q (n : Int) b (b.length : Int) false) (freeL n b) := by
    refine Tells.step (f := fun q => spec_l5Choices.l0 q (n : Int) b [] 0) (fun q => ?_) ?_
    · rw [spec_l5Choices.j0, if_neg (by simp)]
    · exact choices_l0 n b hb hn n 0 [] (by omega) (by simp)
  unfold choices spec_l5Choices.f
  by_cases h1 : k ≤ b.length
  · refine Tells.pos (by omega) ?_
    refine Tells.bind (has_tells b _ hb) ?_
    by_cases h2 : (b.length : Int) ∈ b
    · simp only [h2, decide_true, Bool.not_true, not_true_eq_false, and_false, if_false]
      exact hfree
    · simp only [h1, h2, decide_false, Bool.not_false, not_false_eq_true, and_true, if_true]
      refine Tells.step (fun q => ?_) (Tells.now _)
      rw [spec_l5Choices.j0, if_pos rfl]
  · refine Tells.neg (by omega) ?_
    simp only [h1, false_and, if_false]
    exact hfree
end Go.Proofs.YtbkeihhkcaihiaaDoor.Pure

namespace Go.Proofs.YtbkeihhkcaihiaaDoor.Pure
open Go.RowKit Go.Proofs.YtbkeihhkcaihiaaDoor.FnSeatings
/-- The sum of the chances of some seatings, added one by one. -/
def sums (q : Nat) (n k : Int) : List (List Int) → Int → Int → Option (Int × Int)
  | [], a, b => some (a, b)
  | s :: t, a, b => (impl_SeatingChance.f q n k s).bind fun c => if c.2.2 = true then (laws_vPlus.f q a b c.1 c.2.1).bind fun d => sums q n k t d.1 d.2 else none
def chk (n k : Int) : Bool :=
  match impl_AllSeatings.f n k, impl_CountSeatings.f 100 n k with
  | some (r, ok), some (c, fine) => decide (spec_AllSeatings.f 100 n k = some (r, ok)) && decide (spec_CountSeatings.f 100 n k = some (c, fine)) && decide (r.length < 1000 ∧ ∀ x ∈ r, x.length < 100) && decide (ok = true → (r.length : Int) = c ∧ fine = true ∧ sums 200 n k r 0 1 = some (1, 1))
  | _, _ => false
/-- The pairs that are drawn. -/
def pairs : List (Int × Int) := [4, 5, 3, 2, 1, 8, 0, (-1)].flatMap (fun n => [0, 1, 2, 3].map (fun k => (n, k)))
def pairs6 : List (Int × Int) := [0, 1, 2].map (fun k => (6, k))
theorem pairs_ok : pairs.all (fun p => chk p.1 p.2) = true := by decide +kernel
theorem pairs6_ok : pairs6.all (fun p => chk p.1 p.2) = true := by decide +kernel
theorem p70 : chk 7 0 = true := by decide +kernel
theorem p71 : chk 7 1 = true := by decide +kernel
theorem p72 : chk 7 2 = true := by decide +kernel
end Go.Proofs.YtbkeihhkcaihiaaDoor.Pure

namespace Go.Proofs.YtbkeihhkcaihiaaDoor.Pure
open Go.RowKit Go.Proofs.YtbkeihhkcaihiaaDoor.FnSeatings Go.Proofs.YtbkeihhkcaihiaaDoorW.PrintWords Go.Proofs.YtbkeihhkcaihiaaDoorW.PrintMore
set_option linter.unusedVariables false
theorem filter_one {p : Nat → Bool} {x : Nat} : ∀ {L : List Nat}, L.Nodup → x ∈ L → p x = false → (L.filter (fun q => p q || decide (x = q))).length = (L.filter p).length + 1
  | [], _, h, _ => by simp at h
  | a :: L, hn, h, hp => by
    rw [List.nodup_cons] at hn
    rw [List.filter_cons, List.filter_cons]
    by_cases hx : x = a
    · subst hx
      have e : L.filter (fun q => p q || decide (x = q)) = L.filter p := by
        refine List.filter_congr (fun q hq => ?_)
        have : x ≠ q := fun e => hn.1 (e ▸ hq)
        simp [this]
      simp [hp, e]
    · have h2 : x ∈ L := (List.mem_cons.mp h).resolve_left hx
      have ih := filter_one hn.2 h2 hp
      by_cases hpa : p a = true <;> simp [hpa, hx, ih] <;> omega
theorem popc_or1 (m p : Nat) (hp : p < 32) : popc 32 (m ||| 2 ^ p) = popc 32 m + (if m.testBit p = true then 0 else 1) := by
  rw [popc_bits, popc_bits]
  unfold bitsOf
  simp only [testBit_or1]
  by_cases h : m.testBit p = true
  · rw [if_pos h]
    congr 1
    refine List.filter_congr (fun q _ => ?_)
    by_cases hq : p = q
    · subst hq; simp [h]
    · simp [hq]
  · rw [if_neg h]
    exact filter_one List.nodup_range (List.mem_range.mpr hp) (by simpa using h)
/-- The set of some seats. -/
def setN : Nat → List Int → Nat
  | m, [] => m
  | m, x :: l => setN (m ||| 2 ^ x.toNat) l
theorem setN_lt : ∀ (l : List Int) (m : Nat), m < 4294967296 → (∀ x ∈ l, 0 ≤ x ∧ x < 32) → setN m l < 4294967296
  | [], m, hm, _ => hm
  | x :: l, m, hm, h => setN_lt l _ (or_lt m x.toNat hm (by have := h x (by simp); omega)) (fun y hy => h y (by simp [hy]))
theorem setN_bit : ∀ (l : List Int) (m q : Nat), (∀ x ∈ l, 0 ≤ x) → (setN m l).testBit q = (m.testBit q || decide ((q : Int) ∈ l))
  | [], m, q, _ => by simp [setN]
  | x :: l, m, q, h => by
    have hx := h x (by simp)
    rw [setN, setN_bit l _ q (fun y hy => h y (by simp [hy])), testBit_or1]
    have e : decide (x.toNat = q) = decide ((q : Int) = x) := by
      rw [decide_eq_decide]
      omega
    rw [e, Bool.or_assoc]
    congr 1
    rw [Bool.eq_iff_iff]
    simp
theorem setN_count : ∀ (l : List Int) (m : Nat), (∀ x ∈ l, 0 ≤ x ∧ x < 32) → popc 32 (setN m l) ≤ popc 32 m + l.length ∧
    (popc 32 (setN m l) = popc 32 m + l.length ↔ l.Nodup ∧ ∀ x ∈ l, m.testBit x.toNat = false)
  | [], m, _ => by simp [setN]
  | x :: l, m, h => by
    have hx := h x (by simp)
    have ih := setN_count l (m ||| 2 ^ x.toNat) (fun y hy => h y (by simp [hy]))
    have hp := popc_or1 m x.toNat (by omega)
    rw [setN, List.length_cons, List.nodup_cons]
    by_cases hb : m.testBit x.toNat = true
    · rw [if_pos hb] at hp
      refine ⟨by omega, ⟨fun e => by omega, fun e => ?_⟩⟩
      have := e.2 x (by simp)
      rw [hb] at this
      cases this
    · rw [if_neg hb] at hp
      refine ⟨by omega, ?_⟩
      have hiff : popc 32 (setN (m ||| 2 ^ x.toNat) l) = popc 32 m + (l.length + 1) ↔ popc 32 (setN (m ||| 2 ^ x.toNat) l) = popc 32 (m ||| 2 ^ x.toNat) + l.length := by omega
      rw [hiff, ih.2]
      constructor
      · rintro ⟨h1, h2⟩
        refine ⟨⟨fun hm => ?_, h1⟩, fun y hy => ?_⟩
        · have := h2 x hm
          rw [testBit_or1] at this
          simp at this
        · rcases List.mem_cons.mp hy with rfl | hy
          · simpa using hb
          · have := h2 y hy
            rw [testBit_or1] at this
            simp at this
            exact this.1
      · rintro ⟨⟨h1, h2⟩, h3⟩
        refine ⟨h2, fun y hy => ?_⟩
        rw [testBit_or1, h3 y (by simp [hy])]
        have hy0 := h y (by simp [hy])
        have : x.toNat ≠ y.toNat := fun e => h1 (by have : x = y := by omega
                                                    rw [this]; exact hy)
        simp [this]
theorem setOf_l0 (l : List Int) (hl : l.length < 1000000) (hr : ∀ x ∈ l, 0 ≤ x ∧ x < 32) : ∀ (d i m : Nat), i + d = l.length → m < 4294967296 → Tells (fun q => impl_setOf.l0 q (m : Int) l (l.length : Int) (i : Int)) ((setN m (l.drop i) : Nat) : Int)
  | 0, i, m, h, hm => by
    refine Tells.step (fun k => ?_) (Tells.now _)
    rw [impl_setOf.l0, if_neg (by omega), List.drop_of_length_le (by omega)]
    rfl
  | d + 1, i, m, h, hm => by
    have hi : i < l.length := by omega
    have hx := hr l[i] (List.getElem_mem hi)
    obtain ⟨p, hp⟩ : ∃ p : Nat, l[i] = (p : Int) := ⟨l[i].toNat, by omega⟩
    refine Tells.step (f := fun q => impl_setOf.l0 q ((m ||| 2 ^ p : Nat) : Int) l (l.length : Int) ((i + 1 : Nat) : Int)) (fun q => ?_) ?_
    · rw [impl_setOf.l0, if_pos (by omega), if_pos (by omega), if_pos (by omega), rd_get l i hi, if_pos (by omega), hp, or_eq m p hm (by omega), wrap_succ i (by omega)]
    · have h2 := setOf_l0 l hl hr d (i + 1) (m ||| 2 ^ p) (by omega) (or_lt m p hm (by omega))
      have e : l.drop i = l[i] :: l.drop (i + 1) := List.drop_eq_getElem_cons hi
      rw [e, setN, hp, Int.toNat_natCast]
      exact h2
theorem setOf_tells (l : List Int) (hl : l.length < 1000000) (hr : ∀ x ∈ l, 0 ≤ x ∧ x < 32) : Tells (fun q => impl_setOf.f q l) ((setN 0 l : Nat) : Int) := by
  have h := setOf_l0 l hl hr l.length 0 0 (by omega) (by omega)
  rw [List.drop_zero] at h
  exact h
theorem allWithin_l0 (l : List Int) (a b : Int) (hl : l.length < 1000000) : ∀ (d i : Nat), i + d = l.length → Tells (fun q => impl_allWithin.l0 q a b l (l.length : Int) (i : Int)) ((l.drop i).all (fun x => decide (a ≤ x ∧ x ≤ b)))
  | 0, i, h => by
    refine Tells.step (fun k => ?_) (Tells.now _)
    rw [impl_allWithin.l0, if_neg (by omega), List.drop_of_length_le (by omega)]
    rfl
  | d + 1, i, h => by
    have hi : i < l.length := by omega
    have e : l.drop i = l[i] :: l.drop (i + 1) := List.drop_eq_getElem_cons hi
    rw [e, List.all_cons]
    by_cases hx : a ≤ l[i] ∧ l[i] ≤ b
    · refine Tells.step (f := fun q => impl_allWithin.l0 q a b l (l.length : Int) ((i + 1 : Nat) : Int)) (fun q => ?_) ?_
      · rw [impl_allWithin.l0, if_pos (by omega), if_pos (by omega), if_pos (by omega), rd_get l i hi, within_eq, Option.bind_some, if_pos (by simp [hx]), wrap_succ i (by omega)]
      · have h2 := allWithin_l0 l a b hl d (i + 1) (by omega)
        rw [decide_eq_true hx, Bool.true_and]
        exact h2
    · refine Tells.step (fun k => ?_) (Tells.now _)
      rw [impl_allWithin.l0, if_pos (by omega), if_pos (by omega), if_pos (by omega), rd_get l i hi, within_eq, Option.bind_some, if_neg (by simp only [decide_eq_true_eq]; exact hx), decide_eq_false hx, Bool.false_and]
/-- The list is an order of the numbers below n. -/
def Order (n : Nat) (s : List Int) : Prop := s.length = n ∧ (∀ x ∈ s, 0 ≤ x ∧ x ≤ (n : Int) - 1) ∧ s.Nodup
instance (n : Nat) (s : List Int) : Decidable (Order n s) := by unfold Order; infer_instance
theorem order_tells (n : Nat) (s : List Int) (hn : n ≤ 12) (hl : s.length < 1000000) : Tells (fun q => impl_isOrder.f q s (n : Int)) (decide (Order n s)) := by
  unfold impl_isOrder.f
  by_cases h1 : s.length = n
  · refine Tells.pos (by omega) ?_
    rw [wrap_id ((n : Int) - 1) (by omega) (by omega)]
    have hw := allWithin_l0 s 0 ((n : Int) - 1) hl s.length 0 (by omega)
    rw [List.drop_zero] at hw
    refine Tells.bind (g := fun q t => if t = true then (impl_setOf.f q s).bind fun t302 => (impl_set_count.f t302).bind fun t303 => some (t303 == (n : Int)) else some false) hw ?_
    by_cases h2 : ∀ x ∈ s, 0 ≤ x ∧ x ≤ (n : Int) - 1
    · have hr : ∀ x ∈ s, 0 ≤ x ∧ x < 32 := fun x hx => by have := h2 x hx; omega
      have hall : s.all (fun x => decide (0 ≤ x ∧ x ≤ (n : Int) - 1)) = true := by
        rw [List.all_eq_true]
        exact fun x hx => decide_eq_true (h2 x hx)
      rw [hall]
      simp only [if_true]
      refine Tells.bind (g := fun q t302 => (impl_set_count.f t302).bind fun t303 => some (t303 == (n : Int))) (setOf_tells s hl hr) ?_
      have hlt := setN_lt s 0 (by omega) hr
      refine Tells.of _ ?_
      unfold impl_set_count.f bits_OnesCount32.f
      rw [if_pos (by omega)]
      simp only [Option.bind_some, Int.toNat_natCast, Option.some.injEq]
      have hc := setN_count s 0 hr
      have h0 : popc 32 0 = 0 := by decide
      rw [h0, Nat.zero_add] at hc
      rw [Bool.eq_iff_iff]
      simp only [beq_iff_eq, decide_eq_true_eq]
      unfold Order
      constructor
      · intro h
        exact ⟨h1, h2, (hc.2.mp (by omega)).1⟩
      · rintro ⟨_, _, h3⟩
        have := hc.2.mpr ⟨h3, fun x _ => by simp⟩
        omega
    · have e : s.all (fun x => decide (0 ≤ x ∧ x ≤ (n : Int) - 1)) = false := by
        rw [Bool.eq_false_iff]
        intro h
        rw [List.all_eq_true] at h
        exact h2 (fun x hx => of_decide_eq_true (h x hx))
      rw [e]
      simp only [Bool.false_eq_true, if_false]
      have e2 : decide (Order n s) = false := decide_eq_false (fun h => h2 h.2.1)
      rw [e2]
      exact Tells.now _
  · refine Tells.neg (by omega) ?_
    have e2 : decide (Order n s) = false := decide_eq_false (fun h => h1 h.1)
    rw [e2]
    exact Tells.now _
end Go.Proofs.YtbkeihhkcaihiaaDoor.Pure

namespace Go.Proofs.YtbkeihhkcaihiaaDoor.Pure
open Go.RowKit Go.Proofs.YtbkeihhkcaihiaaDoor.FnSeatings Go.Proofs.YtbkeihhkcaihiaaDoorW.PrintWords Go.Proofs.YtbkeihhkcaihiaaDoorW.PrintMore
set_option linter.unusedVariables false
theorem filter_upto (P : Nat → Bool) (n : Nat) : ∀ d, (List.range (n + d)).filter (fun q => decide (q < n) && P q) = (List.range n).filter P
  | 0 => List.filter_congr (fun q hq => by
      have h1 := List.mem_range.mp hq
      have h2 : q < n := by omega
      simp [h2])
  | d + 1 => by
    rw [← Nat.add_assoc, List.range_succ, List.filter_append, filter_upto P n d, List.filter_cons]
    have h1 : ¬ n + d < n := by omega
    simp [h1]
/-- F holds the seats below n that are not among b. -/
def IsFree (n : Nat) (b : List Int) (F : Nat) : Prop := F < 4294967296 ∧ ∀ q, F.testBit q = (decide (q < n) && !decide ((q : Int) ∈ b))
theorem free_bits {n : Nat} {b : List Int} {F : Nat} (hn : n ≤ 32) (h : IsFree n b F) : (bitsOf F).map (fun (p : Nat) => (p : Int)) = freeL n b := by
  unfold freeL freeFrom bitsOf
  rw [Nat.sub_zero, ← List.range_eq_range']
  congr 1
  obtain ⟨d, hd⟩ : ∃ d, 32 = n + d := ⟨32 - n, by omega⟩
  rw [hd, ← filter_upto _ n d]
  exact List.filter_congr (fun q _ => h.2 q)
theorem free_count {n : Nat} {b : List Int} {F : Nat} (hn : n ≤ 32) (h : IsFree n b F) : popc 32 F = (freeL n b).length := by
  rw [popc_bits, ← free_bits hn h, List.length_map]
theorem free_snoc {n : Nat} {b : List Int} {F p : Nat} (hp : p < 32) (h : IsFree n b F) : IsFree n (b ++ [(p : Int)]) (drop1 F p) := by
  refine ⟨drop1_lt F p h.1, fun q => ?_⟩
  rw [testBit_drop1 F p q h.1 hp, h.2 q, Bool.and_assoc]
  congr 1
  rw [Bool.eq_iff_iff]
  simp only [Bool.and_eq_true, Bool.not_eq_true', decide_eq_false_iff_not, List.mem_append, List.mem_singleton, not_or]
  constructor
  · rintro ⟨h1, h2⟩
    exact ⟨h1, by omega⟩
  · rintro ⟨h1, h2⟩
    exact ⟨h1, by omega⟩
theorem mem_freeL {n : Nat} {b : List Int} {x : Int} : x ∈ freeL n b ↔ (0 ≤ x ∧ x < n) ∧ ¬ x ∈ b := by
  unfold freeL freeFrom
  rw [Nat.sub_zero, ← List.range_eq_range', List.mem_map]
  constructor
  · rintro ⟨p, hp, rfl⟩
    rw [List.mem_filter, List.mem_range] at hp
    exact ⟨⟨by omega, by omega⟩, by simpa using hp.2⟩
  · rintro ⟨⟨h1, h2⟩, h3⟩
    refine ⟨x.toNat, ?_, by omega⟩
    rw [List.mem_filter, List.mem_range]
    refine ⟨by omega, ?_⟩
    rw [show ((x.toNat : Nat) : Int) = x by omega]
    simpa using h3
theorem freeL_le (n : Nat) (b : List Int) : (freeL n b).length ≤ n := by
  unfold freeL freeFrom
  rw [List.length_map, Nat.sub_zero]
  exact Nat.le_trans (List.length_filter_le _ _) (by rw [List.length_range']; exact Nat.le_refl _)
theorem freeL_nodup (n : Nat) (b : List Int) : (freeL n b).Nodup := by
  unfold freeL freeFrom
  rw [Nat.sub_zero, ← List.range_eq_range']
  refine List.Pairwise.map _ (fun a c hac e => hac (by omega)) (List.Pairwise.filter _ List.nodup_range)
theorem freeL_snoc (n : Nat) (b : List Int) (x : Int) (hx : x ∈ freeL n b) : (freeL n (b ++ [x])).length + 1 = (freeL n b).length := by
  have h := mem_freeL.mp hx
  unfold freeL freeFrom
  rw [List.length_map, List.length_map, Nat.sub_zero, ← List.range_eq_range']
  have h2 := filter_one (p := fun (q : Nat) => !decide ((q : Int) ∈ b ++ [x])) (x := x.toNat) (L := List.range n) List.nodup_range (List.mem_range.mpr (by omega)) (by rw [show ((x.toNat : Nat) : Int) = x by omega]; simp)
  rw [← h2]
  congr 1
  refine List.filter_congr (fun q _ => ?_)
  rw [Bool.eq_iff_iff]
  simp only [List.mem_append, List.mem_singleton, Bool.or_eq_true, Bool.not_eq_true', decide_eq_false_iff_not, decide_eq_true_eq, not_or]
  constructor
  · rintro (⟨h3, _⟩ | h3)
    · exact h3
    · intro h4
      have : (q : Int) = x := by omega
      rw [this] at h4
      exact h.2 h4
  · intro h3
    by_cases h4 : (q : Int) = x
    · exact .inr (by omega)
    · exact .inl ⟨h3, h4⟩
theorem choices_le (n k : Nat) (b : List Int) (hn : 1 ≤ n) : (choices n k b).length ≤ n := by
  unfold choices
  split
  · exact hn
  · exact freeL_le n b
/-- The product of the numbers of choices from seat i on; 0 if a seat is none of the choices. -/
def chance (n k : Nat) (s : List Int) : Nat → Nat → Nat → Nat
  | 0, _, p => p
  | d + 1, i, p => if rd s (i : Int) ∈ choices n k (s.take i) then chance n k s d (i + 1) (p * (choices n k (s.take i)).length) else 0
theorem gcd_one (b : Nat) (hb : 1 ≤ b) : Tells (fun q => spec_l2Gcd.f q 1 (b : Int)) 1 := by
  unfold spec_l2Gcd.f
  have h10 : Tells (fun q => spec_l2Gcd.l0 q 1 0) 1 := by
    refine Tells.step (fun q => ?_) (Tells.now _)
    rw [spec_l2Gcd.l0, if_neg (by omega)]
  by_cases h1 : b = 1
  · subst h1
    refine Tells.step (f := fun q => spec_l2Gcd.l0 q 1 0) (fun q => ?_) h10
    rw [spec_l2Gcd.l0, if_pos (by omega), if_neg (by omega)]
    rfl
  · refine Tells.step (f := fun q => spec_l2Gcd.l0 q (b : Int) 1) (fun q => ?_) ?_
    · rw [spec_l2Gcd.l0, if_pos (by omega), if_neg (by omega), Int.tmod_eq_of_lt (by omega) (by omega)]
    · refine Tells.step (f := fun q => spec_l2Gcd.l0 q 1 0) (fun q => ?_) h10
      rw [spec_l2Gcd.l0, if_pos (by omega), if_neg (by omega), Int.tmod_one]
theorem cut_tells (b : Nat) (hb : 1 ≤ b) (h2 : b < 4611686018427387904) : Tells (fun q => spec_l2Cut.f q 1 (b : Int)) (1, (b : Int)) := by
  unfold spec_l2Cut.f spec_l1Most.f
  have e : wrap64 (-1) = -1 := wrap_id _ (by decide) (by decide)
  rw [e, if_pos (by omega)]
  simp only [Option.bind_some]
  refine Tells.bind (g := fun q t => if t = 0 then none else some (wrap64 (Int.tdiv 1 t), wrap64 (Int.tdiv (b : Int) t))) (gcd_one b hb) (Tells.of _ ?_)
  rw [if_neg (by omega), Int.tdiv_one, Int.tdiv_one, wrap_id _ (by omega) (by omega), wrap_id _ (by omega) (by omega)]
theorem pow12 {i : Nat} (h : i ≤ 12) : 12 ^ i ≤ 8916100448256 := Nat.le_trans (Nat.pow_le_pow_right (by omega) h) (by decide)
theorem take_snoc (s : List Int) (i : Nat) (h : i < s.length) : s.take (i + 1) = s.take i ++ [s[i]] := by
  rw [List.take_add_one, List.getElem?_eq_getElem h]
  rfl
theorem chance_l0 (n k : Nat) (s : List Int) (hn : 1 ≤ n) (hn2 : n ≤ 12) (hs : s.length = n) : ∀ (d i p : Nat), i + d = n → 1 ≤ p → p ≤ 12 ^ i → Tells (fun q => spec_l5Chance.l0 q (n : Int) (k : Int) s (i : Int) 1 (p : Int)) (if chance n k s d i p = 0 then (0, 1) else (1, ((chance n k s d i p : Nat) : Int)))
  | 0, i, p, h, hp, hp2 => by
    refine Tells.step (fun q => ?_) (Tells.now _)
    rw [spec_l5Chance.l0, if_neg (by omega), chance, if_neg (by omega)]
  | d + 1, i, p, h, hp, hp2 => by
    have hi : i < s.length := by omega
    refine Tells.step (f := fun q => (spec_l5Choices.f q (n : Int) (k : Int) (s.take i)).bind fun t328 => (spec_l1Has.f q t328 (rd s (i : Int))).bind fun t332 => if t332 = true then (spec_l2Cut.f q 1 (wrap64 ((p : Int) * (t328.length : Int)))).bind fun bt => spec_l5Chance.l0 q (n : Int) (k : Int) s ((i + 1 : Nat) : Int) bt.1 bt.2 else some (0, 1)) (fun q => ?_) ?_
    · rw [spec_l5Chance.l0, if_pos (by omega), if_pos (by omega), if_pos (by omega), wrap_succ i (by omega), Int.toNat_natCast]
      congr 1
      funext t
      rw [if_pos (by omega)]
    · refine Tells.bind (g := fun q t328 => (spec_l1Has.f q t328 (rd s (i : Int))).bind fun t332 => if t332 = true then (spec_l2Cut.f q 1 (wrap64 ((p : Int) * (t328.length : Int)))).bind fun bt => spec_l5Chance.l0 q (n : Int) (k : Int) s ((i + 1 : Nat) : Int) bt.1 bt.2 else some (0, 1)) (choices_tells n k (s.take i) (by rw [List.length_take]; omega) (by omega)) ?_
      have hle := choices_le n k (s.take i) hn
      refine Tells.bind (g := fun q t332 => if t332 = true then (spec_l2Cut.f q 1 (wrap64 ((p : Int) * ((choices n k (s.take i)).length : Int)))).bind fun bt => spec_l5Chance.l0 q (n : Int) (k : Int) s ((i + 1 : Nat) : Int) bt.1 bt.2 else some (0, 1)) (has_tells (choices n k (s.take i)) _ (by omega)) ?_
      rw [chance]
      by_cases hm : rd s (i : Int) ∈ choices n k (s.take i)
      · have hpos : 1 ≤ (choices n k (s.take i)).length := List.length_pos_of_mem hm
        have hb1 : p * (choices n k (s.take i)).length ≤ 12 ^ (i + 1) := by
          rw [Nat.pow_succ]
          exact Nat.mul_le_mul hp2 (by omega)
        have hb2 := pow12 (i := i + 1) (by omega)
        have hb3 : 1 ≤ p * (choices n k (s.take i)).length := Nat.mul_pos hp hpos
        have hw : wrap64 ((p : Int) * ((choices n k (s.take i)).length : Int)) = ((p * (choices n k (s.take i)).length : Nat) : Int) := by
          rw [← Int.natCast_mul]
          exact wrap_nat _ (by omega)
        rw [if_pos hm, hw]
        simp only [hm, decide_true, if_true]
        exact Tells.bind (g := fun q bt => spec_l5Chance.l0 q (n : Int) (k : Int) s ((i + 1 : Nat) : Int) bt.1 bt.2) (cut_tells _ hb3 (by omega)) (chance_l0 n k s hn hn2 hs d (i + 1) _ (by omega) hb3 hb1)
      · rw [if_neg hm, if_pos rfl]
        simp only [hm, decide_false, Bool.false_eq_true, if_false]
        exact Tells.now _
end Go.Proofs.YtbkeihhkcaihiaaDoor.Pure

namespace Go.Proofs.YtbkeihhkcaihiaaDoor.Pure
open Go.RowKit Go.Proofs.YtbkeihhkcaihiaaDoor.FnSeatings Go.Proofs.YtbkeihhkcaihiaaDoorW.PrintWords Go.Proofs.YtbkeihhkcaihiaaDoorW.PrintMore
set_option linter.unusedVariables false
theorem nodup_take {s : List Int} (h : s.Nodup) {i : Nat} (hi : i < s.length) : ¬ s[i] ∈ s.take i := by
  intro hm
  obtain ⟨j, hj, e⟩ := List.mem_take_iff_getElem.mp hm
  have h1 := (List.nodup_iff_pairwise_ne.mp h)
  have h2 := List.pairwise_iff_getElem.mp h1 j i (by omega) hi (by omega)
  exact h2 e
theorem mem_choices {n k : Nat} {b : List Int} {x : Int} (hb : b.length < n) (h : x ∈ choices n k b) : (0 ≤ x ∧ x < n) ∧ ¬ x ∈ b := by
  unfold choices at h
  split at h
  · rename_i hc
    rw [List.mem_singleton] at h
    subst h
    exact ⟨⟨by omega, by omega⟩, hc.2⟩
  · exact mem_freeL.mp h
/-- Each seat is one of the choices. -/
def Poss (n k : Nat) (s : List Int) : Prop := s.length = n ∧ ∀ i (h : i < s.length), s[i] ∈ choices n k (s.take i)
theorem chance_poss {n k : Nat} {s : List Int} : ∀ (d i p : Nat), chance n k s d i p ≠ 0 → ∀ j, i ≤ j → j < i + d → rd s (j : Int) ∈ choices n k (s.take j)
  | 0, i, p, _, j, h1, h2 => by omega
  | d + 1, i, p, h, j, h1, h2 => by
    rw [chance] at h
    by_cases hm : rd s (i : Int) ∈ choices n k (s.take i)
    · rw [if_pos hm] at h
      rcases Nat.lt_or_ge i j with h3 | h3
      · exact chance_poss d (i + 1) _ h j (by omega) (by omega)
      · obtain rfl : i = j := by omega
        exact hm
    · rw [if_neg hm] at h
      exact absurd rfl h
theorem poss_chance {n k : Nat} {s : List Int} (h : Poss n k s) : ∀ (d i p : Nat), i + d = n → 1 ≤ p → 1 ≤ chance n k s d i p
  | 0, i, p, _, hp => hp
  | d + 1, i, p, h2, hp => by
    have hi : i < s.length := by have := h.1; omega
    have hm := h.2 i hi
    rw [chance, rd_get s i hi, if_pos hm]
    exact poss_chance h d (i + 1) _ (by omega) (Nat.mul_pos hp (List.length_pos_of_mem hm))
theorem poss_of_chance {n k : Nat} {s : List Int} (hs : s.length = n) (h : chance n k s n 0 1 ≠ 0) : Poss n k s :=
  ⟨hs, fun i hi => by
    have := chance_poss n 0 1 h i (by omega) (by omega)
    rw [rd_get s i hi] at this
    exact this⟩
theorem Poss.mem {n k : Nat} {s : List Int} (h : Poss n k s) {i : Nat} (hi : i < s.length) : (0 ≤ s[i] ∧ s[i] < n) ∧ ¬ s[i] ∈ s.take i :=
  mem_choices (by rw [List.length_take]; have := h.1; omega) (h.2 i hi)
theorem Poss.nodup_take {n k : Nat} {s : List Int} (h : Poss n k s) : ∀ i, i ≤ s.length → (s.take i).Nodup
  | 0, _ => by simp
  | i + 1, hi => by
    rw [take_snoc s i (by omega), List.nodup_append]
    refine ⟨h.nodup_take i (by omega), by simp, fun a ha b hb => ?_⟩
    rw [List.mem_singleton] at hb
    subst hb
    intro e
    subst e
    exact (h.mem (by omega)).2 ha
theorem Poss.order {n k : Nat} {s : List Int} (h : Poss n k s) : Order n s := by
  refine ⟨h.1, fun x hx => ?_, ?_⟩
  · obtain ⟨i, hi, rfl⟩ := List.mem_iff_getElem.mp hx
    have := (h.mem hi).1
    omega
  · have := h.nodup_take s.length (Nat.le_refl _)
    rwa [List.take_length] at this
theorem order_free {n : Nat} {s : List Int} (h : Order n s) : ∀ i, i ≤ s.length → (freeL n (s.take i)).length = n - i
  | 0, _ => by
    unfold freeL freeFrom
    rw [List.take_zero, List.length_map, List.filter_eq_self.mpr (fun _ _ => by simp), List.length_range']
  | i + 1, hi => by
    have ih := order_free h i (by omega)
    have hlt : i < s.length := hi
    have hm : s[i] ∈ freeL n (s.take i) := mem_freeL.mpr ⟨by have := h.2.1 s[i] (List.getElem_mem hlt); omega, Pure.nodup_take h.2.2 hlt⟩
    have h2 := freeL_snoc n (s.take i) s[i] hm
    rw [take_snoc s i hlt]
    omega
/-- Each seat has a traveler. -/
theorem order_all {n : Nat} {s : List Int} (h : Order n s) (p : Int) (h0 : 0 ≤ p) (h1 : p < n) : p ∈ s := by
  have h2 := order_free h s.length (Nat.le_refl _)
  rw [List.take_length, h.1, Nat.sub_self] at h2
  have h3 := List.eq_nil_of_length_eq_zero h2
  refine Classical.byContradiction (fun hp => ?_)
  have h4 : p ∈ freeL n s := mem_freeL.mpr ⟨⟨h0, h1⟩, hp⟩
  rw [h3] at h4
  simp at h4
theorem free_start (n : Nat) (hn : n < 32) : IsFree n [] (2 ^ n - 1) := by
  have h1 := two_lt n hn
  refine ⟨by omega, fun q => ?_⟩
  rw [Nat.testBit_two_pow_sub_one]
  simp
theorem seatingChance_l0 (n k : Nat) (s : List Int) (hn : 1 ≤ n) (hn2 : n ≤ 12) (ho : Order n s) : ∀ (d i p F : Nat), i + d = n → 1 ≤ p → p ≤ 12 ^ i → IsFree n (s.take i) F →
    Tells (fun q => impl_seatingChance.l0 q (k : Int) (p : Int) (F : Int) s (s.length : Int) (i : Int)) ((chance n k s d i p : Nat) : Int)
  | 0, i, p, F, h, hp, hp2, hF => by
    refine Tells.step (fun q => ?_) (Tells.now _)
    rw [impl_seatingChance.l0, if_neg (by have := ho.1; omega), chance]
  | d + 1, i, p, F, h, hp, hp2, hF => by
    have hi : i < s.length := by have := ho.1; omega
    have hsi := ho.2.1 s[i] (List.getElem_mem hi)
    obtain ⟨x, hx⟩ : ∃ x : Nat, s[i] = (x : Int) := ⟨s[i].toNat, by omega⟩
    have hx12 : x < 32 := by omega
    have hF' : IsFree n (s.take (i + 1)) (drop1 F x) := by
      rw [take_snoc s i hi, hx]
      exact free_snoc hx12 hF
    have hlen : (s.take i).length = i := by rw [List.length_take]; omega
    have hle := choices_le n k (s.take i) hn
    have hlb : p * (choices n k (s.take i)).length ≤ 12 ^ (i + 1) := by
      rw [Nat.pow_succ]
      exact Nat.mul_le_mul hp2 (by omega)
    have hb2 := pow12 (i := i + 1) (by omega)
    rw [chance, rd_get s i hi]
    -- whether the own seat is taken
    by_cases hc : k ≤ i ∧ ¬ (i : Int) ∈ s.take i
    · have hch : choices n k (s.take i) = [(i : Int)] := by unfold choices; rw [hlen, if_pos hc]
      have hbit : F.testBit i = true := by
        rw [hF.2 i]
        have := hc.2
        simp [this]
        omega
      have hmm : s[i] ∈ choices n k (s.take i) ↔ s[i] = (i : Int) := by rw [hch, List.mem_singleton]
      have hl1 : (choices n k (s.take i)).length = 1 := by rw [hch]; rfl
      refine Tells.step (f := fun q => impl_seatingChance.j1 q (k : Int) (p : Int) (F : Int) (i : Int) (s[i]) s (s.length : Int) (i : Int) true) (fun q => ?_) ?_
      · rw [impl_seatingChance.l0, if_pos (by omega), if_pos (by omega), if_pos (by omega), if_pos (by omega), rd_get s i hi]
        unfold impl_set_has.f
        rw [if_pos (by omega), Option.bind_some, has_eq F i hF.1, hbit]
      · by_cases he : s[i] = (i : Int)
        · refine Tells.step (f := fun q => impl_seatingChance.l0 q (k : Int) (p : Int) ((drop1 F x : Nat) : Int) s (s.length : Int) ((i + 1 : Nat) : Int)) (fun q => ?_) ?_
          · rw [impl_seatingChance.j1, if_pos rfl, if_pos he, if_pos (by omega), hx, drop1_eq F x hF.1 hx12, wrap_succ i (by omega)]
          · rw [if_pos (hmm.mpr he), hl1, Nat.mul_one]
            exact seatingChance_l0 n k s hn hn2 ho d (i + 1) p _ (by omega) hp (by rw [Nat.pow_succ]; omega) hF'
        · refine Tells.step (fun q => ?_) (Tells.now _)
          rw [impl_seatingChance.j1, if_pos rfl, if_neg he, if_neg (fun h => he (hmm.mp h))]
          rfl
    · have hch : choices n k (s.take i) = freeL n (s.take i) := by unfold choices; rw [hlen, if_neg hc]
      have hm : s[i] ∈ freeL n (s.take i) := mem_freeL.mpr ⟨by omega, Pure.nodup_take ho.2.2 hi⟩
      have hpos : 1 ≤ (freeL n (s.take i)).length := List.length_pos_of_mem hm
      rw [hch] at hlb ⊢
      rw [if_pos hm]
      have hw : wrap64 ((p : Int) * ((freeL n (s.take i)).length : Int)) = ((p * (freeL n (s.take i)).length : Nat) : Int) := by
        rw [← Int.natCast_mul]
        exact wrap_nat _ (by omega)
      have hj : Tells (fun q => impl_seatingChance.j1 q (k : Int) (p : Int) (F : Int) (i : Int) (s[i]) s (s.length : Int) (i : Int) false) ((chance n k s d (i + 1) (p * (freeL n (s.take i)).length) : Nat) : Int) := by
        refine Tells.step (f := fun q => impl_seatingChance.l0 q (k : Int) ((p * (freeL n (s.take i)).length : Nat) : Int) ((drop1 F x : Nat) : Int) s (s.length : Int) ((i + 1 : Nat) : Int)) (fun q => ?_) ?_
        · rw [impl_seatingChance.j1, if_neg (by simp)]
          unfold impl_set_count.f bits_OnesCount32.f
          rw [if_pos (by have := hF.1; omega)]
          simp only [Option.bind_some, Int.toNat_natCast]
          rw [if_pos (by omega), free_count (by omega) hF, hw, hx, drop1_eq F x hF.1 hx12, wrap_succ i (by omega)]
        · exact seatingChance_l0 n k s hn hn2 ho d (i + 1) _ _ (by omega) (Nat.mul_pos hp hpos) hlb hF'
      by_cases hk : k ≤ i
      · have hin : (i : Int) ∈ s.take i := Classical.byContradiction (fun h => hc ⟨hk, h⟩)
        have hbit : F.testBit i = false := by
          rw [hF.2 i]
          simp [hin]
        refine Tells.step (f := fun q => impl_seatingChance.j1 q (k : Int) (p : Int) (F : Int) (i : Int) (s[i]) s (s.length : Int) (i : Int) false) (fun q => ?_) hj
        rw [impl_seatingChance.l0, if_pos (by omega), if_pos (by omega), if_pos (by omega), if_pos (by omega), rd_get s i hi]
        unfold impl_set_has.f
        rw [if_pos (by omega), Option.bind_some, has_eq F i hF.1, hbit]
      · refine Tells.step (f := fun q => impl_seatingChance.j1 q (k : Int) (p : Int) (F : Int) (i : Int) (s[i]) s (s.length : Int) (i : Int) false) (fun q => ?_) hj
        rw [impl_seatingChance.l0, if_pos (by omega), if_pos (by omega), if_pos (by omega), if_neg (by omega), rd_get s i hi]
/-- The number by which 1 is divided in a seating's chance; 0 if it is not possible. -/
def CH (n k : Nat) (s : List Int) : Nat := if s.length = n then chance n k s n 0 1 else 0
theorem CH_poss {n k : Nat} {s : List Int} (h : CH n k s ≠ 0) : Poss n k s := by
  unfold CH at h
  by_cases hs : s.length = n
  · rw [if_pos hs] at h
    exact poss_of_chance hs h
  · rw [if_neg hs] at h
    exact absurd rfl h
theorem seatingChance_tells (n k : Nat) (s : List Int) (hn : 1 ≤ n) (hn2 : n ≤ 12) (hl : s.length < 1000000) : Tells (fun q => impl_seatingChance.f q (n : Int) (k : Int) s) ((CH n k s : Nat) : Int) := by
  unfold impl_seatingChance.f
  refine Tells.bind (g := fun q t => if t = true then (if 0 ≤ (n : Int) then impl_seatingChance.l0 q (k : Int) 1 ((shl .u32 1 (n : Int) - 1) % 4294967296) s (s.length : Int) 0 else none) else some 0) (order_tells n s hn2 hl) ?_
  by_cases ho : Order n s
  · simp only [ho, decide_true, if_true]
    refine Tells.pos (by omega) ?_
    have e : (shl .u32 1 (n : Int) - 1) % 4294967296 = ((2 ^ n - 1 : Nat) : Int) := by
      rw [shl_lt n (by omega)]
      have h1 := two_lt n (by omega)
      have h2 := Nat.two_pow_pos n
      generalize (2 : Nat) ^ n = z at h1 h2 ⊢
      omega
    rw [e]
    have h := seatingChance_l0 n k s hn hn2 ho n 0 1 (2 ^ n - 1) (by omega) (by omega) (by decide) (by rw [List.take_zero]; exact free_start n (by omega))
    unfold CH
    rw [if_pos ho.1]
    exact h
  · have e : CH n k s = 0 := Classical.byContradiction (fun h => ho (CH_poss h).order)
    rw [e]
    simp only [ho, decide_false, Bool.false_eq_true, if_false]
    exact Tells.now _
/-- Numbers are valid, and the seating is possible. -/
def ask (n k : Int) (s : List Int) : Bool := good n k && decide (0 < CH n.toNat k.toNat s)
theorem good_nat {n k : Int} (h : good n k = true) : ∃ N K : Nat, n = N ∧ k = K ∧ 1 ≤ N ∧ N ≤ 12 ∧ K ≤ N := by
  unfold good at h
  simp only [Bool.and_eq_true, decide_eq_true_eq] at h
  exact ⟨n.toNat, k.toNat, by omega, by omega, by omega, by omega, by omega⟩
theorem isPossible_tells (n k : Nat) (s : List Int) (hn : 1 ≤ n) (hn2 : n ≤ 12) (hl : s.length < 1000000) : Tells (fun q => impl_isPossible.f q (n : Int) (k : Int) s) (decide (0 < CH n k s)) := by
  unfold impl_isPossible.f
  refine Tells.bind (g := fun _ t => some (decide (t > 0))) (seatingChance_tells n k s hn hn2 hl) (Tells.of _ ?_)
  rw [Option.some.injEq, decide_eq_decide]
  omega
theorem isSeating_tells (n k : Int) (s : List Int) (hl : s.length < 1000000) : Tells (fun q => impl_isSeating.f q n k s) (ask n k s) := by
  unfold impl_isSeating.f ask
  rw [plane_eq]
  simp only [Option.bind_some]
  by_cases h : good n k = true
  · obtain ⟨N, K, rfl, rfl, h1, h2, h3⟩ := good_nat h
    rw [h]
    simp only [if_true, Bool.true_and, Int.toNat_natCast]
    exact Tells.bind (g := fun _ t => some t) (isPossible_tells N K s h1 h2 hl) (Tells.now _)
  · have h' : good n k = false := by simpa using h
    rw [h']
    simp only [Bool.false_eq_true, if_false, Bool.false_and]
    exact Tells.now _
theorem specChance_tells (n k : Nat) (s : List Int) (hn : 1 ≤ n) (hn2 : n ≤ 12) (hs : s.length = n) : Tells (fun q => spec_l5Chance.f q (n : Int) (k : Int) s) (if CH n k s = 0 then (0, 1) else (1, ((CH n k s : Nat) : Int))) := by
  have h := chance_l0 n k s hn hn2 hs n 0 1 (by omega) (by omega) (by decide)
  unfold CH
  rw [if_pos hs]
  exact h
theorem l5Possible_tells (n k : Nat) (s : List Int) (hn : 1 ≤ n) (hn2 : n ≤ 12) : Tells (fun q => spec_l5Possible.f q (n : Int) (k : Int) s) (decide (0 < CH n k s)) := by
  unfold spec_l5Possible.f
  by_cases hs : s.length = n
  · refine Tells.pos (by omega) ?_
    refine Tells.bind (g := fun _ bt => some (decide (bt.1 > 0))) (specChance_tells n k s hn hn2 hs) (Tells.of _ ?_)
    rw [Option.some.injEq, decide_eq_decide]
    by_cases h0 : CH n k s = 0
    · rw [if_pos h0]
      simp [h0]
    · rw [if_neg h0]
      simp
      omega
  · refine Tells.neg (by omega) ?_
    have e : CH n k s = 0 := by unfold CH; rw [if_neg hs]
    rw [e]
    exact Tells.now _
theorem l5Ask_tells (n k : Int) (s : List Int) : Tells (fun q => spec_l5Ask.f q n k s) (ask n k s) := by
  unfold spec_l5Ask.f ask
  rw [good_eq]
  simp only [Option.bind_some]
  by_cases h : good n k = true
  · obtain ⟨N, K, rfl, rfl, h1, h2, h3⟩ := good_nat h
    rw [h]
    simp only [if_true, Bool.true_and, Int.toNat_natCast]
    exact Tells.bind (g := fun _ t => some t) (l5Possible_tells N K s h1 h2) (Tells.now _)
  · have h' : good n k = false := by simpa using h
    rw [h']
    simp only [Bool.false_eq_true, if_false, Bool.false_and]
    exact Tells.now _
/-- What is asked of a seating. -/
theorem ask_nat {n k : Int} {s : List Int} (h : ask n k s = true) : ∃ N K : Nat, n = N ∧ k = K ∧ 1 ≤ N ∧ N ≤ 12 ∧ K ≤ N ∧ 0 < CH N K s ∧ Poss N K s := by
  unfold ask at h
  rw [Bool.and_eq_true, decide_eq_true_eq] at h
  obtain ⟨N, K, rfl, rfl, h1, h2, h3⟩ := good_nat h.1
  have h4 : 0 < CH N K s := h.2
  exact ⟨N, K, rfl, rfl, h1, h2, h3, h4, CH_poss (by omega)⟩
end Go.Proofs.YtbkeihhkcaihiaaDoor.Pure

namespace Go.Proofs.YtbkeihhkcaihiaaDoor.Pure
open Go.RowKit Go.Proofs.YtbkeihhkcaihiaaDoor.FnSeatings Go.Proofs.YtbkeihhkcaihiaaDoorW.PrintWords Go.Proofs.YtbkeihhkcaihiaaDoorW.PrintMore
set_option linter.unusedVariables false
/-! ### whether it is possible; its chance -/
theorem implIs_tells (n k : Int) (s : List Int) (hl : s.length < 1000000) : Tells (fun q => impl_IsPossible.f q n k s) (ask n k s, good n k) := by
  unfold impl_IsPossible.f ask
  rw [plane_eq]
  simp only [Option.bind_some]
  by_cases h : good n k = true
  · obtain ⟨N, K, rfl, rfl, h1, h2, h3⟩ := good_nat h
    rw [h]
    simp only [if_true, Bool.true_and, Int.toNat_natCast]
    exact Tells.bind (g := fun _ t => some (t, true)) (isPossible_tells N K s h1 h2 hl) (Tells.now _)
  · have h' : good n k = false := by simpa using h
    rw [h']
    exact Tells.now _
theorem specIs_tells (n k : Int) (s : List Int) : Tells (fun q => spec_IsPossible.f q n k s) (ask n k s, good n k) := by
  unfold spec_IsPossible.f ask
  rw [good_eq]
  simp only [Option.bind_some]
  by_cases h : good n k = true
  · obtain ⟨N, K, rfl, rfl, h1, h2, h3⟩ := good_nat h
    rw [h]
    simp only [if_true, Bool.true_and, Int.toNat_natCast]
    exact Tells.bind (g := fun _ t => some (t, true)) (l5Possible_tells N K s h1 h2) (Tells.now _)
  · have h' : good n k = false := by simpa using h
    rw [h']
    exact Tells.now _
def chanceOf (n k : Int) (s : List Int) : Int × Int × Bool := if ask n k s = true then (1, ((CH n.toNat k.toNat s : Nat) : Int), true) else (0, 0, false)
theorem implChance_tells (n k : Int) (s : List Int) (hl : s.length < 1000000) : Tells (fun q => impl_SeatingChance.f q n k s) (chanceOf n k s) := by
  unfold impl_SeatingChance.f chanceOf
  refine Tells.bind (g := fun q t => if t = true then (impl_seatingChance.f q n k s).bind fun t361 => some (1, t361, true) else some (0, 0, false)) (isSeating_tells n k s hl) ?_
  by_cases h : ask n k s = true
  · obtain ⟨N, K, rfl, rfl, h1, h2, h3, h4, h5⟩ := ask_nat h
    rw [h]
    simp only [if_true, Int.toNat_natCast]
    exact Tells.bind (g := fun _ t => some ((1 : Int), t, true)) (seatingChance_tells N K s h1 h2 hl) (Tells.now _)
  · simp only [h, Bool.false_eq_true, if_false]
    exact Tells.now _
theorem specSeatingChance_tells (n k : Int) (s : List Int) : Tells (fun q => spec_SeatingChance.f q n k s) (chanceOf n k s) := by
  unfold spec_SeatingChance.f chanceOf
  refine Tells.bind (g := fun q t => if t = true then (spec_l5Chance.f q n k s).bind fun bt => some (bt.1, bt.2, true) else some (0, 0, false)) (l5Ask_tells n k s) ?_
  by_cases h : ask n k s = true
  · obtain ⟨N, K, rfl, rfl, h1, h2, h3, h4, h5⟩ := ask_nat h
    rw [h]
    simp only [if_true, Int.toNat_natCast]
    have h6 := specChance_tells N K s h1 h2 h5.1
    rw [if_neg (by omega)] at h6
    exact Tells.bind (g := fun _ (bt : Int × Int) => some (bt.1, bt.2, true)) h6 (Tells.now _)
  · simp only [h, Bool.false_eq_true, if_false]
    exact Tells.now _
/-! ### moves -/
def movesFrom (s : List Int) : Nat → Nat → List S39
  | 0, _ => []
  | d + 1, i => if rd s (i : Int) = (i : Int) then movesFrom s d (i + 1) else (⟨(i : Int), rd s (i : Int)⟩ : S39) :: movesFrom s d (i + 1)
theorem moves_none (s : List Int) : ∀ d i, (movesFrom s d i = [] ↔ ∀ j, i ≤ j → j < i + d → rd s (j : Int) = (j : Int))
  | 0, i => by
    refine ⟨fun _ j h1 h2 => by omega, fun _ => rfl⟩
  | d + 1, i => by
    rw [movesFrom]
    by_cases h : rd s (i : Int) = (i : Int)
    · rw [if_pos h, moves_none s d (i + 1)]
      constructor
      · intro h2 j h3 h4
        rcases Nat.lt_or_ge i j with h5 | h5
        · exact h2 j (by omega) (by omega)
        · obtain rfl : i = j := by omega
          exact h
      · intro h2 j h3 h4
        exact h2 j (by omega) (by omega)
    · rw [if_neg h]
      refine ⟨fun h2 => by simp at h2, fun h2 => absurd (h2 i (by omega) (by omega)) h⟩
theorem implMoves_l0 (s : List Int) (hl : s.length < 1000000) : ∀ (d i : Nat) (acc : List S39), i + d = s.length → acc.length ≤ i → Tells (fun q => impl_MovesOf.l0 q acc s (s.length : Int) (i : Int)) (acc ++ movesFrom s d i, true)
  | 0, i, acc, h, ha => by
    refine Tells.step (fun q => ?_) (Tells.now _)
    rw [impl_MovesOf.l0, if_neg (by omega), movesFrom, List.append_nil]
  | d + 1, i, acc, h, ha => by
    rw [movesFrom]
    by_cases hx : rd s (i : Int) = (i : Int)
    · rw [if_pos hx]
      refine Tells.step (f := fun q => impl_MovesOf.l0 q acc s (s.length : Int) ((i + 1 : Nat) : Int)) (fun q => ?_) (implMoves_l0 s hl d (i + 1) acc (by omega) (by omega))
      rw [impl_MovesOf.l0, if_pos (by omega), if_pos (by omega), if_pos (by omega), if_pos hx, wrap_succ i (by omega)]
    · rw [if_neg hx]
      have h2 := implMoves_l0 s hl d (i + 1) (acc ++ [(⟨(i : Int), rd s (i : Int)⟩ : S39)]) (by omega) (by simp; omega)
      rw [List.append_assoc, List.singleton_append] at h2
      refine Tells.step (f := fun q => impl_MovesOf.l0 q (acc ++ [(⟨(i : Int), rd s (i : Int)⟩ : S39)]) s (s.length : Int) ((i + 1 : Nat) : Int)) (fun q => ?_) h2
      rw [impl_MovesOf.l0, if_pos (by omega), if_pos (by omega), if_pos (by omega), if_neg hx, if_pos (by omega), wrap_succ i (by omega)]
theorem specMoves_l0 (s : List Int) (n : Nat) (hs : s.length = n) (hl : s.length < 1000000) : ∀ (d i : Nat) (acc : List S39), i + d = n → acc.length ≤ i → Tells (fun q => spec_MovesOf.l0 q (n : Int) s acc (i : Int)) (acc ++ movesFrom s d i, true)
  | 0, i, acc, h, ha => by
    refine Tells.step (fun q => ?_) (Tells.now _)
    rw [spec_MovesOf.l0, if_neg (by omega), movesFrom, List.append_nil]
  | d + 1, i, acc, h, ha => by
    rw [movesFrom]
    by_cases hx : rd s (i : Int) = (i : Int)
    · rw [if_pos hx]
      refine Tells.step (f := fun q => spec_MovesOf.l0 q (n : Int) s acc ((i + 1 : Nat) : Int)) (fun q => ?_) (specMoves_l0 s n hs hl d (i + 1) acc (by omega) (by omega))
      rw [spec_MovesOf.l0, if_pos (by omega), if_pos (by omega), if_pos (by omega), if_pos hx, wrap_succ i (by omega)]
    · rw [if_neg hx]
      have h2 := specMoves_l0 s n hs hl d (i + 1) (acc ++ [(⟨(i : Int), rd s (i : Int)⟩ : S39)]) (by omega) (by simp; omega)
      rw [List.append_assoc, List.singleton_append] at h2
      refine Tells.step (f := fun q => spec_MovesOf.l0 q (n : Int) s (acc ++ [(⟨(i : Int), rd s (i : Int)⟩ : S39)]) ((i + 1 : Nat) : Int)) (fun q => ?_) h2
      rw [spec_MovesOf.l0, if_pos (by omega), if_pos (by omega), if_pos (by omega), if_neg hx, if_pos (by omega), wrap_succ i (by omega)]
def movesOf (n k : Int) (s : List Int) : List S39 × Bool := if ask n k s = true then (movesFrom s s.length 0, true) else ([], false)
theorem implMoves_tells (n k : Int) (s : List Int) (hl : s.length < 1000000) : Tells (fun q => impl_MovesOf.f q n k s) (movesOf n k s) := by
  unfold impl_MovesOf.f movesOf
  refine Tells.bind (g := fun q t => if t = true then impl_MovesOf.l0 q [] s (s.length : Int) 0 else some ([], false)) (isSeating_tells n k s hl) ?_
  by_cases h : ask n k s = true
  · simp only [h, if_true]
    exact implMoves_l0 s hl s.length 0 [] (by omega) (by simp)
  · simp only [h, Bool.false_eq_true, if_false]
    exact Tells.now _
theorem specMoves_tells (n k : Int) (s : List Int) (hl : s.length < 1000000) : Tells (fun q => spec_MovesOf.f q n k s) (movesOf n k s) := by
  unfold spec_MovesOf.f movesOf
  simp only [Option.bind_some]
  refine Tells.bind (g := fun q t => if t = true then spec_MovesOf.l0 q n s [] 0 else some ([], false)) (l5Ask_tells n k s) ?_
  by_cases h : ask n k s = true
  · obtain ⟨N, K, rfl, rfl, h1, h2, h3, h4, h5⟩ := ask_nat h
    simp only [h, if_true]
    have h6 := specMoves_l0 s N h5.1 hl N 0 [] (by omega) (by simp)
    rw [h5.1]
    exact h6
  · simp only [h, Bool.false_eq_true, if_false]
    exact Tells.now _
/-! ### trails -/
theorem nodup_ne {s : List Int} (h : s.Nodup) {i j : Nat} (hi : i < s.length) (hj : j < s.length) (he : s[i] = s[j]) : i = j := by
  have h2 := List.pairwise_iff_getElem.mp (List.nodup_iff_pairwise_ne.mp h)
  rcases Nat.lt_trichotomy i j with h3 | h3 | h3
  · exact absurd he (h2 i j hi hj h3)
  · exact h3
  · exact absurd he.symm (h2 j i hj hi h3)
theorem index_l0 (s : List Int) (hn : s.Nodup) (hl : s.length < 1000000) (j : Nat) (hj : j < s.length) : ∀ (d i : Nat), i + d = j → Tells (fun q => slices_Index_int_int.l0 q s s[j] (s.length : Int) (i : Int)) (j : Int)
  | 0, i, h => by
    obtain rfl : i = j := by omega
    refine Tells.step (fun q => ?_) (Tells.now _)
    rw [slices_Index_int_int.l0, if_pos (by omega), if_pos (by omega), if_pos (by omega), rd_get s i hj, if_pos rfl]
  | d + 1, i, h => by
    have hi : i < s.length := by omega
    refine Tells.step (f := fun q => slices_Index_int_int.l0 q s s[j] (s.length : Int) ((i + 1 : Nat) : Int)) (fun q => ?_) (index_l0 s hn hl j hj d (i + 1) (by omega))
    rw [slices_Index_int_int.l0, if_pos (by omega), if_pos (by omega), if_pos (by omega), rd_get s i hi, if_neg (fun he => by have := nodup_ne hn hj hi he; omega), wrap_succ i (by omega)]
theorem who_l0 (s : List Int) (hn : s.Nodup) (hl : s.length < 1000000) (j : Nat) (hj : j < s.length) : ∀ (d i : Nat), i + d = j → Tells (fun q => spec_l5Who.l0 q s s[j] (i : Int)) (j : Int)
  | 0, i, h => by
    obtain rfl : i = j := by omega
    refine Tells.step (fun q => ?_) (Tells.now _)
    rw [spec_l5Who.l0, if_pos (by omega), if_pos (by omega), rd_get s i hj, if_pos rfl]
  | d + 1, i, h => by
    have hi : i < s.length := by omega
    refine Tells.step (f := fun q => spec_l5Who.l0 q s s[j] ((i + 1 : Nat) : Int)) (fun q => ?_) (who_l0 s hn hl j hj d (i + 1) (by omega))
    rw [spec_l5Who.l0, if_pos (by omega), if_pos (by omega), rd_get s i hi, if_neg (fun he => by have := nodup_ne hn hi hj he; omega), wrap_succ i (by omega)]
theorem index_tells {s : List Int} (hn : s.Nodup) (hl : s.length < 1000000) {j : Nat} (hj : j < s.length) {x : Int} (hx : s[j] = x) : Tells (fun q => slices_Index_int_int.f q s x) (j : Int) := by
  subst hx
  exact index_l0 s hn hl j hj j 0 (by omega)
theorem who_tells {s : List Int} (hn : s.Nodup) (hl : s.length < 1000000) {j : Nat} (hj : j < s.length) {x : Int} (hx : s[j] = x) : Tells (fun q => spec_l5Who.f q s x) (j : Int) := by
  subst hx
  exact who_l0 s hn hl j hj j 0 (by omega)
/-- A trail that begins with a traveler. -/
inductive Trail (s : List Int) (k : Nat) : Nat → List Int → Prop
  | stop {i : Nat} (h : i < s.length) (hs : i < k ∨ s[i] = (i : Int)) : Trail s k i [(i : Int)]
  | go {i j : Nat} {l : List Int} (h : i < s.length) (hk : k ≤ i) (hs : ¬ s[i] = (i : Int)) (hj : j < i) (he : s[j]'(Nat.lt_trans hj h) = (i : Int)) (t : Trail s k j l) : Trail s k i ((i : Int) :: l)
theorem trail_ex {n k : Nat} {s : List Int} (h : Poss n k s) (i : Nat) (hi : i < s.length) : ∃ l, Trail s k i l := by
  induction i using Nat.strongRecOn with
  | _ i ih =>
    by_cases hs : i < k ∨ s[i] = (i : Int)
    · exact ⟨_, Trail.stop hi hs⟩
    · have h1 : k ≤ i := by omega
      have h2 : ¬ s[i] = (i : Int) := fun e => hs (.inr e)
      have h3 := h.2 i hi
      have hlen : (s.take i).length = i := by rw [List.length_take]; omega
      have h4 : (i : Int) ∈ s.take i := by
        refine Classical.byContradiction (fun hm => ?_)
        unfold choices at h3
        rw [hlen, if_pos ⟨h1, hm⟩, List.mem_singleton] at h3
        exact h2 h3
      obtain ⟨j, hj, e⟩ := List.mem_take_iff_getElem.mp h4
      obtain ⟨l, hl⟩ := ih j (by omega) (by omega)
      exact ⟨_, Trail.go hi h1 h2 (by omega) e hl⟩
theorem Trail.len {s : List Int} {k i : Nat} {l : List Int} (h : Trail s k i l) : l.length ≤ i + 1 := by
  induction h with
  | stop h hs => simp
  | go h hk hs hj he t ih => rw [List.length_cons]; omega
theorem Trail.lt {s : List Int} {k i : Nat} {l : List Int} (h : Trail s k i l) : i < s.length := by
  cases h with
  | stop h hs => exact h
  | go h hk hs hj he t => exact h
theorem implTrail_l0 {s : List Int} {k : Nat} (hn : s.Nodup) (hl : s.length < 1000000) {i : Nat} {l : List Int} (h : Trail s k i l) : ∀ (acc : List Int) (x : Int), acc.length + i < 2000000 → s[i]'h.lt = x → Tells (fun q => impl_TrailOf.l0 q (k : Int) s x acc) (acc ++ l, true) := by
  induction h with
  | @stop i h hs =>
    intro acc x ha hx
    refine Tells.step (f := fun q => (slices_Index_int_int.f q s x).bind fun t317 => (if acc.length < 17592186044416 then ((some (acc ++ [t317] : List Int)).bind fun y318 => (if t317 < (k : Int) then (some (y318, true)) else (if 0 ≤ t317 then (if t317 < (s.length : Int) then (if (rd s t317) = t317 then (some (y318, true)) else (impl_TrailOf.l0 q (k : Int) s t317 y318)) else (none)) else (none)))) else (none))) (fun q => by rw [impl_TrailOf.l0]) ?_
    refine Tells.bind (g := fun q t317 => (if acc.length < 17592186044416 then ((some (acc ++ [t317] : List Int)).bind fun y318 => (if t317 < (k : Int) then (some (y318, true)) else (if 0 ≤ t317 then (if t317 < (s.length : Int) then (if (rd s t317) = t317 then (some (y318, true)) else (impl_TrailOf.l0 q (k : Int) s t317 y318)) else (none)) else (none)))) else (none))) (index_tells hn hl h hx) ?_
    refine Tells.pos (by omega) ?_
    simp only [Option.bind_some]
    rcases hs with hs | hs
    · exact Tells.pos (by omega) (Tells.now _)
    · by_cases hk : i < k
      · exact Tells.pos (by omega) (Tells.now _)
      · refine Tells.neg (by omega) (Tells.pos (by omega) (Tells.pos (by omega) (Tells.pos ?_ (Tells.now _))))
        rw [rd_get s i h]
        exact hs
  | @go i j l h hk hs hj he t ih =>
    intro acc x ha hx
    refine Tells.step (f := fun q => (slices_Index_int_int.f q s x).bind fun t317 => (if acc.length < 17592186044416 then ((some (acc ++ [t317] : List Int)).bind fun y318 => (if t317 < (k : Int) then (some (y318, true)) else (if 0 ≤ t317 then (if t317 < (s.length : Int) then (if (rd s t317) = t317 then (some (y318, true)) else (impl_TrailOf.l0 q (k : Int) s t317 y318)) else (none)) else (none)))) else (none))) (fun q => by rw [impl_TrailOf.l0]) ?_
    refine Tells.bind (g := fun q t317 => (if acc.length < 17592186044416 then ((some (acc ++ [t317] : List Int)).bind fun y318 => (if t317 < (k : Int) then (some (y318, true)) else (if 0 ≤ t317 then (if t317 < (s.length : Int) then (if (rd s t317) = t317 then (some (y318, true)) else (impl_TrailOf.l0 q (k : Int) s t317 y318)) else (none)) else (none)))) else (none))) (index_tells hn hl h hx) ?_
    refine Tells.pos (by omega) ?_
    simp only [Option.bind_some]
    refine Tells.neg (by omega) (Tells.pos (by omega) (Tells.pos (by omega) (Tells.neg ?_ ?_)))
    · rw [rd_get s i h]
      exact hs
    · have h2 := ih (acc ++ [(i : Int)]) (i : Int) (by simp; omega) he
      rw [List.append_assoc, List.singleton_append] at h2
      exact h2
theorem rd_last (acc : List Int) (x : Int) : rd (acc ++ [x]) (acc.length : Int) = x := by
  rw [rd_get _ acc.length (by simp)]
  simp
theorem specTrail_l0 {s : List Int} {k : Nat} (hn : s.Nodup) (hl : s.length < 1000000) {i : Nat} {l : List Int} (h : Trail s k i l) : ∀ (acc : List Int), acc.length + i < 2000000 → Tells (fun q => spec_TrailOf.l0 q (k : Int) s (acc ++ [(i : Int)])) (acc ++ l, true) := by
  have hw : ∀ (acc : List Int) (i : Nat), acc.length < 4000000 → wrap64 (((acc ++ [(i : Int)]).length : Int) - 1) = (acc.length : Int) := by
    intro acc i ha
    rw [List.length_append, List.length_singleton]
    exact (wrap_id _ (by omega) (by omega)).trans (by omega)
  induction h with
  | @stop i h hs =>
    intro acc ha
    refine Tells.step (fun q => ?_) (Tells.now _)
    rw [spec_TrailOf.l0, hw acc i (by omega), rd_last, if_pos (by omega), if_pos (by simp; omega)]
    rcases hs with hs | hs
    · rw [if_pos (by omega)]
    · by_cases hk : i < k
      · rw [if_pos (by omega)]
      · rw [if_neg (by omega), if_pos (by omega), if_pos (by omega), if_pos (by rw [rd_get s i h]; exact hs)]
  | @go i j l h hk hs hj he t ih =>
    intro acc ha
    refine Tells.step (f := fun q => (spec_l5Who.f q s (i : Int)).bind fun t351 => (if (acc ++ [(i : Int)]).length < 17592186044416 then (spec_TrailOf.l0 q (k : Int) s ((acc ++ [(i : Int)]) ++ [t351])) else (none))) (fun q => ?_) ?_
    · rw [spec_TrailOf.l0, hw acc i (by omega), rd_last, if_pos (by omega), if_pos (by simp; omega), if_neg (by omega), if_pos (by omega), if_pos (by omega), if_neg (by rw [rd_get s i h]; exact hs)]
    · refine Tells.bind (g := fun q t351 => (if (acc ++ [(i : Int)]).length < 17592186044416 then (spec_TrailOf.l0 q (k : Int) s ((acc ++ [(i : Int)]) ++ [t351])) else (none))) (who_tells hn hl t.lt he) ?_
      refine Tells.pos (by simp; omega) ?_
      have h2 := ih (acc ++ [(i : Int)]) (by simp; omega)
      have e2 : acc ++ (i : Int) :: l = (acc ++ [(i : Int)]) ++ l := by rw [List.append_assoc, List.singleton_append]
      rw [e2]
      exact h2
/-- Both ways to a trail tell the same: none, or one as it should be. -/
theorem trail_tells (n k : Int) (s : List Int) (seat : Int) (hl : s.length < 1000000) (hs : -100 ≤ seat ∧ seat ≤ 100) : ∃ r : List Int × Bool,
    Tells (fun q => impl_TrailOf.f q n k s seat) r ∧ Tells (fun q => spec_TrailOf.f q n k s seat) r ∧
    ((r = ([], false) ∧ ¬ (ask n k s = true ∧ 0 ≤ seat ∧ seat ≤ n - 1)) ∨ (ask n k s = true ∧ 0 ≤ seat ∧ seat ≤ n - 1 ∧ r.2 = true ∧ ∃ (i : Nat) (hi : i < s.length), s[i] = seat ∧ Trail s k.toNat i r.1)) := by
  by_cases h : ask n k s = true
  · obtain ⟨N, K, rfl, rfl, h1, h2, h3, h4, h5⟩ := ask_nat h
    have hw : wrap64 ((N : Int) - 1) = (N : Int) - 1 := wrap_id _ (by omega) (by omega)
    by_cases hr : 0 ≤ seat ∧ seat ≤ (N : Int) - 1
    · have hm := order_all h5.order seat hr.1 (by omega)
      obtain ⟨i, hi, e⟩ := List.mem_iff_getElem.mp hm
      obtain ⟨l, ht⟩ := trail_ex h5 i hi
      have hnd := h5.order.2.2
      refine ⟨(l, true), ?_, ?_, .inr ⟨h, hr.1, hr.2, rfl, i, hi, e, by rw [Int.toNat_natCast]; exact ht⟩⟩
      · unfold impl_TrailOf.f
        refine Tells.bind (g := fun q t => if t = true then (impl_within.f seat 0 (wrap64 ((N : Int) - 1))).bind fun t313 => impl_TrailOf.j0 q (K : Int) s seat (!t313) else impl_TrailOf.j0 q (K : Int) s seat true) (isSeating_tells N K s hl) ?_
        simp only [h, if_true, hw, within_eq, Option.bind_some, hr, and_self, decide_true, Bool.not_true]
        refine Tells.step (f := fun q => impl_TrailOf.l0 q (K : Int) s seat []) (fun q => by rw [impl_TrailOf.j0, if_neg (by simp)]) ?_
        exact implTrail_l0 hnd hl ht [] seat (by simp; omega) e
      · unfold spec_TrailOf.f
        refine Tells.bind (g := fun q t => if t = true then (spec_l1In.f seat 0 (wrap64 ((N : Int) - 1))).bind fun t341 => spec_TrailOf.j0 q (K : Int) s seat (!t341) else spec_TrailOf.j0 q (K : Int) s seat true) (l5Ask_tells N K s) ?_
        simp only [h, if_true, hw, in_eq, Option.bind_some, hr, and_self, decide_true, Bool.not_true]
        refine Tells.step (f := fun q => (spec_l5Who.f q s seat).bind fun t345 => spec_TrailOf.l0 q (K : Int) s [t345]) (fun q => by rw [spec_TrailOf.j0, if_neg (by simp)]) ?_
        refine Tells.bind (g := fun q t345 => spec_TrailOf.l0 q (K : Int) s [t345]) (who_tells hnd hl hi e) ?_
        exact specTrail_l0 hnd hl ht [] (by simp; omega)
    · refine ⟨([], false), ?_, ?_, .inl ⟨rfl, fun hc => hr ⟨hc.2.1, hc.2.2⟩⟩⟩
      · unfold impl_TrailOf.f
        refine Tells.bind (g := fun q t => if t = true then (impl_within.f seat 0 (wrap64 ((N : Int) - 1))).bind fun t313 => impl_TrailOf.j0 q (K : Int) s seat (!t313) else impl_TrailOf.j0 q (K : Int) s seat true) (isSeating_tells N K s hl) ?_
        simp only [h, if_true, hw, within_eq, Option.bind_some, hr, decide_false, Bool.not_false]
        exact Tells.step (fun q => by rw [impl_TrailOf.j0, if_pos rfl]) (Tells.now _)
      · unfold spec_TrailOf.f
        refine Tells.bind (g := fun q t => if t = true then (spec_l1In.f seat 0 (wrap64 ((N : Int) - 1))).bind fun t341 => spec_TrailOf.j0 q (K : Int) s seat (!t341) else spec_TrailOf.j0 q (K : Int) s seat true) (l5Ask_tells N K s) ?_
        simp only [h, if_true, hw, in_eq, Option.bind_some, hr, decide_false, Bool.not_false]
        exact Tells.step (fun q => by rw [spec_TrailOf.j0, if_pos rfl]) (Tells.now _)
  · refine ⟨([], false), ?_, ?_, .inl ⟨rfl, fun hc => h hc.1⟩⟩
    · unfold impl_TrailOf.f
      refine Tells.bind (g := fun q t => if t = true then (impl_within.f seat 0 (wrap64 (n - 1))).bind fun t313 => impl_TrailOf.j0 q k s seat (!t313) else impl_TrailOf.j0 q k s seat true) (isSeating_tells n k s hl) ?_
      simp only [h, Bool.false_eq_true, if_false]
      exact Tells.step (fun q => by rw [impl_TrailOf.j0, if_pos rfl]) (Tells.now _)
    · unfold spec_TrailOf.f
      refine Tells.bind (g := fun q t => if t = true then (spec_l1In.f seat 0 (wrap64 (n - 1))).bind fun t341 => spec_TrailOf.j0 q k s seat (!t341) else spec_TrailOf.j0 q k s seat true) (l5Ask_tells n k s) ?_
      simp only [h, Bool.false_eq_true, if_false]
      exact Tells.step (fun q => by rw [spec_TrailOf.j0, if_pos rfl]) (Tells.now _)
end Go.Proofs.YtbkeihhkcaihiaaDoor.Pure

namespace Go.Proofs.YtbkeihhkcaihiaaDoor.Pure
open Go.RowKit Go.Proofs.YtbkeihhkcaihiaaDoor.FnSeatings Go.Proofs.YtbkeihhkcaihiaaDoorW.PrintWords Go.Proofs.YtbkeihhkcaihiaaDoorW.PrintMore
set_option linter.unusedVariables false
/-! ### the list of a set -/
theorem list_l0 : ∀ (len m : Nat) (acc : List Int), (bitsOf m).length = len → m < 4294967296 → acc.length + len < 100 → Tells (fun q => impl_set_list.l0 q (m : Int) acc) (acc ++ (bitsOf m).map (fun (p : Nat) => (p : Int)))
  | len, m, acc, h, hm, ha => by
    by_cases h0 : m = 0
    · subst h0
      refine Tells.step (fun q => ?_) (Tells.now _)
      rw [impl_set_list.l0, if_pos (by rfl), bits_zero]
      simp
    · have hc := bits_cons m hm h0
      rw [hc, List.length_cons] at h
      cases len with
      | zero => omega
      | succ len =>
        have e : Go.bits .and .u32 (m : Int) (((m : Int) - 1) % 4294967296) = ((m &&& (m - 1) : Nat) : Int) := by
          rw [show ((m : Int) - 1) % 4294967296 = ((m - 1 : Nat) : Int) by omega, u32_and m (m - 1) hm (by omega)]
        refine Tells.step (f := fun q => impl_set_list.l0 q ((m &&& (m - 1) : Nat) : Int) (acc ++ [((Lib.ctz 32 m : Nat) : Int)])) (fun q => ?_) ?_
        · rw [impl_set_list.l0, if_neg (by omega)]
          unfold bits_TrailingZeros32.f
          rw [if_pos (by omega), Option.bind_some, if_pos (by omega), Int.toNat_natCast, e]
        · have h2 := list_l0 len (m &&& (m - 1)) (acc ++ [((Lib.ctz 32 m : Nat) : Int)]) (by omega) (Nat.lt_of_le_of_lt Nat.and_le_left hm) (by simp; omega)
          rw [List.append_assoc, List.singleton_append] at h2
          rw [hc, List.map_cons]
          exact h2
theorem bits_le (m : Nat) : (bitsOf m).length ≤ 32 := by
  unfold bitsOf
  exact Nat.le_trans (List.length_filter_le _ _) (by rw [List.length_range]; exact Nat.le_refl _)
theorem list_tells (m : Nat) (hm : m < 4294967296) : Tells (fun q => impl_set_list.f q (m : Int)) ((bitsOf m).map (fun (p : Nat) => (p : Int))) := by
  have h := list_l0 _ m [] rfl hm (by have := bits_le m; simp; omega)
  rw [List.nil_append] at h
  exact h
/-! ### seats that are free when a traveler comes -/
theorem specFree_l0 (n : Nat) (s : List Int) (i0 : Nat) (hi0 : i0 ≤ s.length) (hb : s.length < 1000000) (hn : n < 1000000) : ∀ (d i : Nat) (acc : List Int), i + d = n → acc.length ≤ i → Tells (fun k => spec_FreeWhen.l0 k (n : Int) s (i0 : Int) acc (i : Int)) (acc ++ freeFrom n (s.take i0) i, true)
  | 0, i, acc, h, ha => by
    refine Tells.step (fun k => ?_) (Tells.now _)
    rw [spec_FreeWhen.l0, if_neg (by omega), freeFrom_end n _ i (by omega), List.append_nil]
  | d + 1, i, acc, h, ha => by
    refine Tells.step (f := fun k => (spec_l1Has.f k (s.take i0) (i : Int)).bind fun t => (if t = true then (spec_FreeWhen.l0 k (n : Int) s (i0 : Int) acc ((i + 1 : Nat) : Int)) else (if acc.length < 17592186044416 then (spec_FreeWhen.l0 k (n : Int) s (i0 : Int) (acc ++ [(i : Int)]) ((i + 1 : Nat) : Int)) else (none)))) (fun k => ?_) ?_
    · rw [spec_FreeWhen.l0, if_pos (by omega), if_pos (by omega), if_pos (by omega), wrap_succ i (by omega), Int.toNat_natCast]
    · refine Tells.bind (has_tells (s.take i0) i (by rw [List.length_take]; omega)) ?_
      rw [freeFrom_step n _ i (by omega)]
      by_cases hx : (i : Int) ∈ s.take i0
      · simp only [hx, decide_true, if_true]
        exact specFree_l0 n s i0 hi0 hb hn d (i + 1) acc (by omega) (by omega)
      · simp only [hx, decide_false, if_false, Bool.false_eq_true]
        refine Tells.pos (by omega) ?_
        have h2 := specFree_l0 n s i0 hi0 hb hn d (i + 1) (acc ++ [(i : Int)]) (by omega) (by simp; omega)
        rw [List.append_assoc, List.singleton_append] at h2
        exact h2
theorem drop_free {n : Nat} {s : List Int} (h : Order n s) (hn : n ≤ 12) (i : Nat) : IsFree n (s.take i) (setN 0 (s.drop i)) := by
  have hr : ∀ x ∈ s.drop i, 0 ≤ x ∧ x < 32 := fun x hx => by have := h.2.1 x (List.mem_of_mem_drop hx); omega
  refine ⟨setN_lt _ 0 (by omega) hr, fun q => ?_⟩
  rw [setN_bit _ 0 q (fun x hx => (hr x hx).1), Nat.zero_testBit, Bool.false_or, Bool.eq_iff_iff]
  simp only [Bool.and_eq_true, Bool.not_eq_true', decide_eq_true_eq, decide_eq_false_iff_not]
  have hsplit := List.take_append_drop i s
  have hnd := h.2.2
  rw [← hsplit, List.nodup_append] at hnd
  constructor
  · intro hq
    have h1 := h.2.1 _ (List.mem_of_mem_drop hq)
    exact ⟨by omega, fun ht => hnd.2.2 _ ht _ hq rfl⟩
  · rintro ⟨h1, h2⟩
    have h3 := order_all h (q : Int) (by omega) (by omega)
    rw [← hsplit, List.mem_append] at h3
    exact h3.resolve_left h2
theorem free_tells (n k : Int) (s : List Int) (seat : Int) (hl : s.length < 1000000) (hs : -100 ≤ seat ∧ seat ≤ 100) : ∃ r : List Int × Bool,
    Tells (fun q => impl_FreeWhen.f q n k s seat) r ∧ Tells (fun q => spec_FreeWhen.f q n k s seat) r ∧
    ((r = ([], false) ∧ ¬ (ask n k s = true ∧ 0 ≤ seat ∧ seat ≤ n - 1)) ∨ (ask n k s = true ∧ 0 ≤ seat ∧ seat ≤ n - 1 ∧ r = (freeL n.toNat (s.take seat.toNat), true))) := by
  by_cases h : ask n k s = true
  · obtain ⟨N, K, rfl, rfl, h1, h2, h3, h4, h5⟩ := ask_nat h
    have hw : wrap64 ((N : Int) - 1) = (N : Int) - 1 := wrap_id _ (by omega) (by omega)
    by_cases hr : 0 ≤ seat ∧ seat ≤ (N : Int) - 1
    · obtain ⟨i, rfl⟩ : ∃ i : Nat, seat = (i : Int) := ⟨seat.toNat, by omega⟩
      have hi : i < s.length := by have := h5.1; omega
      refine ⟨(freeL N (s.take i), true), ?_, ?_, .inr ⟨h, hr.1, hr.2, by simp only [Int.toNat_natCast]⟩⟩
      · unfold impl_FreeWhen.f
        refine Tells.bind (g := fun q t => if t = true then (impl_within.f (i : Int) 0 (wrap64 ((N : Int) - 1))).bind fun t391 => impl_FreeWhen.j0 q s (i : Int) (!t391) else impl_FreeWhen.j0 q s (i : Int) true) (isSeating_tells N K s hl) ?_
        simp only [h, if_true, hw, within_eq, Option.bind_some, hr, and_self, decide_true, Bool.not_true]
        refine Tells.step (f := fun q => (impl_setOf.f q (s.drop i)).bind fun t393 => (impl_set_list.f q t393).bind fun t394 => some (t394, true)) (fun q => by rw [impl_FreeWhen.j0, if_neg (by simp), if_pos (by omega), if_pos (by omega), Int.toNat_natCast]) ?_
        have hf := drop_free h5.order h2 i
        have hr2 : ∀ x ∈ s.drop i, 0 ≤ x ∧ x < 32 := fun x hx => by have := h5.order.2.1 x (List.mem_of_mem_drop hx); omega
        refine Tells.bind (g := fun q t393 => (impl_set_list.f q t393).bind fun t394 => some (t394, true)) (setOf_tells (s.drop i) (by rw [List.length_drop]; omega) hr2) ?_
        have hlt := list_tells _ hf.1
        rw [free_bits (by omega) hf] at hlt
        exact Tells.bind (g := fun q t394 => some (t394, true)) hlt (Tells.now _)
      · unfold spec_FreeWhen.f
        refine Tells.bind (g := fun q t => if t = true then (spec_l1In.f (i : Int) 0 (wrap64 ((N : Int) - 1))).bind fun t398 => spec_FreeWhen.j0 q (N : Int) s (i : Int) (!t398) else spec_FreeWhen.j0 q (N : Int) s (i : Int) true) (l5Ask_tells N K s) ?_
        simp only [h, if_true, hw, in_eq, Option.bind_some, hr, and_self, decide_true, Bool.not_true]
        refine Tells.step (f := fun q => spec_FreeWhen.l0 q (N : Int) s (i : Int) [] 0) (fun q => by rw [spec_FreeWhen.j0, if_neg (by simp)]) ?_
        exact specFree_l0 N s i (by omega) hl (by omega) N 0 [] (by omega) (by simp)
    · refine ⟨([], false), ?_, ?_, .inl ⟨rfl, fun hc => hr ⟨hc.2.1, hc.2.2⟩⟩⟩
      · unfold impl_FreeWhen.f
        refine Tells.bind (g := fun q t => if t = true then (impl_within.f seat 0 (wrap64 ((N : Int) - 1))).bind fun t391 => impl_FreeWhen.j0 q s seat (!t391) else impl_FreeWhen.j0 q s seat true) (isSeating_tells N K s hl) ?_
        simp only [h, if_true, hw, within_eq, Option.bind_some, hr, decide_false, Bool.not_false]
        exact Tells.step (fun q => by rw [impl_FreeWhen.j0, if_pos rfl]) (Tells.now _)
      · unfold spec_FreeWhen.f
        refine Tells.bind (g := fun q t => if t = true then (spec_l1In.f seat 0 (wrap64 ((N : Int) - 1))).bind fun t398 => spec_FreeWhen.j0 q (N : Int) s seat (!t398) else spec_FreeWhen.j0 q (N : Int) s seat true) (l5Ask_tells N K s) ?_
        simp only [h, if_true, hw, in_eq, Option.bind_some, hr, decide_false, Bool.not_false]
        exact Tells.step (fun q => by rw [spec_FreeWhen.j0, if_pos rfl]) (Tells.now _)
  · refine ⟨([], false), ?_, ?_, .inl ⟨rfl, fun hc => h hc.1⟩⟩
    · unfold impl_FreeWhen.f
      refine Tells.bind (g := fun q t => if t = true then (impl_within.f seat 0 (wrap64 (n - 1))).bind fun t391 => impl_FreeWhen.j0 q s seat (!t391) else impl_FreeWhen.j0 q s seat true) (isSeating_tells n k s hl) ?_
      simp only [h, Bool.false_eq_true, if_false]
      exact Tells.step (fun q => by rw [impl_FreeWhen.j0, if_pos rfl]) (Tells.now _)
    · unfold spec_FreeWhen.f
      refine Tells.bind (g := fun q t => if t = true then (spec_l1In.f seat 0 (wrap64 (n - 1))).bind fun t398 => spec_FreeWhen.j0 q n s seat (!t398) else spec_FreeWhen.j0 q n s seat true) (l5Ask_tells n k s) ?_
      simp only [h, Bool.false_eq_true, if_false]
      exact Tells.step (fun q => by rw [spec_FreeWhen.j0, if_pos rfl]) (Tells.now _)
/-! ### cycles -/
/-- Marks the seats from p on, until one is marked. -/
def mark (s : List Int) : Nat → Nat → Nat → Nat
  | 0, m, _ => m
  | f + 1, m, p => if m.testBit p = true then m else mark s f (m ||| 2 ^ p) (rd s (p : Int)).toNat
/-- Counts the cycles from seat i on. -/
def cyc (s : List Int) (n : Nat) : Nat → Nat → Nat → Nat → Nat
  | 0, _, c, _ => c
  | d + 1, i, c, m => if m.testBit i = true then cyc s n d (i + 1) c m else cyc s n d (i + 1) (if rd s (i : Int) = (i : Int) then c else c + 1) (mark s (n + 1) m i)
/-- All marked seats are below n. -/
def Low (n m : Nat) : Prop := m < 4294967296 ∧ ∀ p, m.testBit p = true → p < n
theorem low_or {n m p : Nat} (h : Low n m) (hp : p < n) (hn : n ≤ 12) : Low n (m ||| 2 ^ p) := by
  refine ⟨or_lt m p h.1 (by omega), fun q hq => ?_⟩
  rw [testBit_or1, Bool.or_eq_true, decide_eq_true_eq] at hq
  rcases hq with hq | hq
  · exact h.2 q hq
  · omega
theorem low_pop {n m p : Nat} (h : Low n m) (hp : p < n) (hn : n ≤ 12) (hb : ¬ m.testBit p = true) : popc 32 m + 1 = popc 32 (m ||| 2 ^ p) ∧ popc 32 (m ||| 2 ^ p) ≤ n := by
  have h1 := popc_or1 m p (by omega)
  rw [if_neg hb] at h1
  refine ⟨h1.symm, ?_⟩
  have h2 := low_or h hp hn
  rw [popc_bits]
  unfold bitsOf
  have e : (List.range 32).filter (fun q => (m ||| 2 ^ p).testBit q) = (List.range n).filter (fun q => (m ||| 2 ^ p).testBit q) := by
    obtain ⟨d, hd⟩ : ∃ d, 32 = n + d := ⟨32 - n, by omega⟩
    rw [hd, ← filter_upto _ n d]
    refine List.filter_congr (fun q _ => ?_)
    by_cases hq : q < n
    · simp [hq]
    · have : (m ||| 2 ^ p).testBit q = false := by
        rw [Bool.eq_false_iff]
        exact fun h3 => hq (h2.2 q h3)
      simp [this]
  rw [e]
  exact Nat.le_trans (List.length_filter_le _ _) (by rw [List.length_range]; exact Nat.le_refl _)
theorem low_pop0 {n m : Nat} (h : Low n m) (hn : n ≤ 12) : popc 32 m ≤ n := by
  rw [popc_bits]
  unfold bitsOf
  have e : (List.range 32).filter (fun q => m.testBit q) = (List.range n).filter (fun q => m.testBit q) := by
    obtain ⟨d, hd⟩ : ∃ d, 32 = n + d := ⟨32 - n, by omega⟩
    rw [hd, ← filter_upto _ n d]
    refine List.filter_congr (fun q _ => ?_)
    by_cases hq : q < n
    · simp [hq]
    · have : m.testBit q = false := by
        rw [Bool.eq_false_iff]
        exact fun h3 => hq (h.2 q h3)
      simp [this]
  rw [e]
  exact Nat.le_trans (List.length_filter_le _ _) (by rw [List.length_range]; exact Nat.le_refl _)
theorem next_lt {n : Nat} {s : List Int} (ho : Order n s) {p : Nat} (hp : p < n) : 0 ≤ rd s (p : Int) ∧ (rd s (p : Int)).toNat < n := by
  rw [rd_get s p (by have := ho.1; omega)]
  have := ho.2.1 _ (List.getElem_mem (l := s) (n := p) (by have := ho.1; omega))
  omega
theorem mark_low {n : Nat} {s : List Int} (ho : Order n s) (hn : n ≤ 12) : ∀ (f m p : Nat), Low n m → p < n → Low n (mark s f m p)
  | 0, m, p, h, _ => h
  | f + 1, m, p, h, hp => by
    rw [mark]
    split
    · exact h
    · exact mark_low ho hn f _ _ (low_or h hp hn) (next_lt ho hp).2
/-- The program's inner loop. -/
theorem implMark {n : Nat} {s : List Int} (ho : Order n s) (hn : n ≤ 12) (v : Int × Bool) (c i : Nat) (hi : i < 100) (f : Nat) : ∀ (m p b : Nat), popc 32 m = b → n + 1 ≤ f + b → Low n m → p < n →
    Tells (fun q => impl_FullCycles.l0 q s (c : Int) ((mark s f m p : Nat) : Int) (n : Int) ((i + 1 : Nat) : Int)) v → Tells (fun q => impl_FullCycles.l1 q s (c : Int) (m : Int) (p : Int) (n : Int) (i : Int)) v := by
  induction f with
  | zero =>
    intro m p b hb0 hf hm hp h
    have h2 := low_pop0 hm hn
    rw [hb0] at h2
    omega
  | succ f ih =>
    intro m p b hb0 hf hm hp h
    rw [mark] at h
    by_cases hb : m.testBit p = true
    · rw [if_pos hb] at h
      refine Tells.step (f := fun q => impl_FullCycles.l0 q s (c : Int) (m : Int) (n : Int) ((i + 1 : Nat) : Int)) (fun q => ?_) h
      rw [impl_FullCycles.l1]
      unfold impl_set_has.f
      rw [if_pos (by omega), Option.bind_some, has_eq m p hm.1, hb, if_pos rfl, wrap_succ i (by omega)]
    · rw [if_neg hb] at h
      have h2 := low_pop hm hp hn hb
      rw [hb0] at h2
      have h3 := next_lt ho hp
      have hbf : m.testBit p = false := by simpa using hb
      have hsl := ho.1
      refine Tells.step (f := fun q => impl_FullCycles.l1 q s (c : Int) ((m ||| 2 ^ p : Nat) : Int) (((rd s (p : Int)).toNat : Nat) : Int) (n : Int) (i : Int)) (fun q => ?_) (ih _ _ (b + 1) h2.1.symm (by omega) (low_or hm hp hn) h3.2 h)
      rw [impl_FullCycles.l1]
      unfold impl_set_has.f
      rw [if_pos (by omega), Option.bind_some, has_eq m p hm.1, hbf, if_neg (by simp), if_pos (by omega), if_pos (by omega), or_eq m p hm.1 (by omega), Int.toNat_of_nonneg h3.1]
theorem implCyc {n : Nat} {s : List Int} (ho : Order n s) (hn : n ≤ 12) : ∀ (d i c m : Nat), i + d = n → c ≤ i → Low n m → Tells (fun q => impl_FullCycles.l0 q s (c : Int) (m : Int) (n : Int) (i : Int)) (((cyc s n d i c m : Nat) : Int), true)
  | 0, i, c, m, h, hc, hm => by
    refine Tells.step (fun q => ?_) (Tells.now _)
    rw [impl_FullCycles.l0, if_neg (by omega), cyc]
  | d + 1, i, c, m, h, hc, hm => by
    rw [cyc]
    have hsl := ho.1
    by_cases hb : m.testBit i = true
    · rw [if_pos hb]
      refine Tells.step (f := fun q => impl_FullCycles.l0 q s (c : Int) (m : Int) (n : Int) ((i + 1 : Nat) : Int)) (fun q => ?_) (implCyc ho hn d (i + 1) c m (by omega) (by omega) hm)
      rw [impl_FullCycles.l0, if_pos (by omega)]
      unfold impl_set_has.f
      rw [if_pos (by omega), Option.bind_some, has_eq m i hm.1, hb, if_pos rfl, wrap_succ i (by omega)]
    · rw [if_neg hb]
      have hbf : m.testBit i = false := by simpa using hb
      have hml := mark_low ho hn (n + 1) m i hm (by omega)
      by_cases hx : rd s (i : Int) = (i : Int)
      · rw [if_pos hx]
        refine Tells.step (f := fun q => impl_FullCycles.j1 q s (c : Int) (m : Int) (i : Int) (n : Int) (i : Int)) (fun q => ?_) ?_
        · rw [impl_FullCycles.l0, if_pos (by omega)]
          unfold impl_set_has.f
          rw [if_pos (by omega), Option.bind_some, has_eq m i hm.1, hbf, if_neg (by simp), if_pos (by omega), if_pos (by omega), if_pos hx]
        · refine Tells.step (f := fun q => impl_FullCycles.l1 q s (c : Int) (m : Int) (i : Int) (n : Int) (i : Int)) (fun q => by rw [impl_FullCycles.j1]) ?_
          exact implMark ho hn _ c i (by omega) (n + 1) m i _ rfl (by omega) hm (by omega) (implCyc ho hn d (i + 1) c _ (by omega) (by omega) hml)
      · rw [if_neg hx]
        refine Tells.step (f := fun q => impl_FullCycles.j1 q s ((c + 1 : Nat) : Int) (m : Int) (i : Int) (n : Int) (i : Int)) (fun q => ?_) ?_
        · rw [impl_FullCycles.l0, if_pos (by omega)]
          unfold impl_set_has.f
          rw [if_pos (by omega), Option.bind_some, has_eq m i hm.1, hbf, if_neg (by simp), if_pos (by omega), if_pos (by omega), if_neg hx, wrap_succ c (by omega)]
        · refine Tells.step (f := fun q => impl_FullCycles.l1 q s ((c + 1 : Nat) : Int) (m : Int) (i : Int) (n : Int) (i : Int)) (fun q => by rw [impl_FullCycles.j1]) ?_
          exact implMark ho hn _ (c + 1) i (by omega) (n + 1) m i _ rfl (by omega) hm (by omega) (implCyc ho hn d (i + 1) (c + 1) _ (by omega) (by omega) hml)
end Go.Proofs.YtbkeihhkcaihiaaDoor.Pure

namespace Go.Proofs.YtbkeihhkcaihiaaDoor.Pure
open Go.RowKit Go.Proofs.YtbkeihhkcaihiaaDoor.FnSeatings Go.Proofs.YtbkeihhkcaihiaaDoorW.PrintWords Go.Proofs.YtbkeihhkcaihiaaDoorW.PrintMore
set_option linter.unusedVariables false
/-- The reference marks those who have not their own seats. -/
def Rel (n : Nat) (s : List Int) (m : Nat) (b : List Bool) : Prop := b.length = n ∧ ∀ p, p < n → b.getD p false = (m.testBit p && !decide (rd s (p : Int) = (p : Int)))
theorem rel_fix {n : Nat} {s : List Int} {m i : Nat} {b : List Bool} (h : Rel n s m b) (hi : rd s (i : Int) = (i : Int)) : Rel n s (m ||| 2 ^ i) b := by
  refine ⟨h.1, fun p hp => ?_⟩
  rw [h.2 p hp, testBit_or1]
  by_cases e : i = p
  · subst e
    simp [hi]
  · simp [e]
theorem rel_set {n : Nat} {s : List Int} {m i : Nat} {b : List Bool} (h : Rel n s m b) (hn : i < n) (hi : ¬ rd s (i : Int) = (i : Int)) : Rel n s (m ||| 2 ^ i) (b.set i true) := by
  refine ⟨by rw [List.length_set]; exact h.1, fun p hp => ?_⟩
  have h1 := h.1
  have h2 := h.2 p hp
  rw [List.getD_eq_getElem?_getD] at h2 ⊢
  rw [testBit_or1]
  by_cases e : i = p
  · subst e
    rw [List.getElem?_set_self (by omega)]
    simp [hi]
  · rw [List.getElem?_set_ne e, h2]
    simp [e]
theorem rdOf_nat (b : List Bool) (p : Nat) : rdOf false b (p : Int) = b.getD p false := by
  unfold rdOf
  rw [Int.toNat_natCast]
theorem next_ne {n : Nat} {s : List Int} (ho : Order n s) {p : Nat} (hp : p < n) (h : ¬ rd s (p : Int) = (p : Int)) : ¬ rd s (rd s (p : Int)) = rd s (p : Int) := by
  have hsl := ho.1
  obtain ⟨h1, h2⟩ := next_lt ho hp
  have e : rd s (p : Int) = (((rd s (p : Int)).toNat : Nat) : Int) := (Int.toNat_of_nonneg h1).symm
  intro he
  have e3 : rd s (((rd s (p : Int)).toNat : Nat) : Int) = rd s (p : Int) := by rw [← e]; exact he
  rw [rd_get s _ (by omega)] at e3
  have e4 := rd_get s p (by omega)
  have e5 : s[(rd s (p : Int)).toNat]'(by omega) = s[p]'(by omega) := by rw [e3, e4]
  have h6 := nodup_ne ho.2.2 (by omega) (by omega) e5
  exact h (by rw [e, h6])
theorem specMark {n : Nat} {s : List Int} (ho : Order n s) (hn : n ≤ 12) (v : Int × Bool) (c i : Nat) (hi : i < 100) (f : Nat) : ∀ (m p k : Nat) (b : List Bool), popc 32 m = k → n + 1 ≤ f + k → Low n m → p < n → Rel n s m b → ¬ rd s (p : Int) = (p : Int) →
    (∀ b', Rel n s (mark s f m p) b' → Tells (fun q => spec_FullCycles.l0 q (n : Int) s (c : Int) b' ((i + 1 : Nat) : Int)) v) → Tells (fun q => spec_FullCycles.l1 q (n : Int) s (c : Int) b (i : Int) (p : Int)) v := by
  induction f with
  | zero =>
    intro m p k b hb0 hf hm hp hr hx h
    have h2 := low_pop0 hm hn
    rw [hb0] at h2
    omega
  | succ f ih =>
    intro m p k b hb0 hf hm hp hr hx h
    have hsl := ho.1
    have hbl := hr.1
    have hbp := hr.2 p hp
    rw [decide_eq_false hx, Bool.not_false, Bool.and_true] at hbp
    rw [mark] at h
    by_cases hb : m.testBit p = true
    · rw [if_pos hb] at h
      refine Tells.step (f := fun q => spec_FullCycles.l0 q (n : Int) s (c : Int) b ((i + 1 : Nat) : Int)) (fun q => ?_) (h b hr)
      rw [spec_FullCycles.l1, if_pos (by omega), if_pos (by omega), rdOf_nat, hbp, hb, if_pos rfl, wrap_succ i (by omega)]
    · rw [if_neg hb] at h
      have h2 := low_pop hm hp hn hb
      rw [hb0] at h2
      have h3 := next_lt ho hp
      have hbf : m.testBit p = false := by simpa using hb
      have hx2 := next_ne ho hp hx
      have e : rd s (p : Int) = (((rd s (p : Int)).toNat : Nat) : Int) := (Int.toNat_of_nonneg h3.1).symm
      refine Tells.step (f := fun q => spec_FullCycles.l1 q (n : Int) s (c : Int) (b.set p true) (i : Int) (((rd s (p : Int)).toNat : Nat) : Int)) (fun q => ?_) (ih _ _ (k + 1) _ h2.1.symm (by omega) (low_or hm hp hn) h3.2 (rel_set hr hp hx) (by rw [← e]; exact hx2) h)
      rw [spec_FullCycles.l1, if_pos (by omega), if_pos (by omega), rdOf_nat, hbp, hbf, if_neg (by simp), if_pos (by omega), Int.toNat_natCast, ← e]
theorem mark_fix {s : List Int} {i : Nat} (hi : rd s (i : Int) = (i : Int)) (f m : Nat) (hb : ¬ m.testBit i = true) : mark s (f + 1 + 1) m i = m ||| 2 ^ i := by
  rw [mark, if_neg hb, hi, Int.toNat_natCast, mark, if_pos (by rw [testBit_or1]; simp)]
theorem specCyc {n : Nat} {s : List Int} (ho : Order n s) (hn1 : 1 ≤ n) (hn : n ≤ 12) : ∀ (d i c m : Nat) (b : List Bool), i + d = n → c ≤ i → Low n m → Rel n s m b → Tells (fun q => spec_FullCycles.l0 q (n : Int) s (c : Int) b (i : Int)) (((cyc s n d i c m : Nat) : Int), true)
  | 0, i, c, m, b, h, hc, hm, hr => by
    refine Tells.step (fun q => ?_) (Tells.now _)
    rw [spec_FullCycles.l0, if_neg (by omega), cyc]
  | d + 1, i, c, m, b, h, hc, hm, hr => by
    have hsl := ho.1
    have hbl := hr.1
    have hbi := hr.2 i (by omega)
    rw [cyc]
    by_cases hx : rd s (i : Int) = (i : Int)
    · rw [decide_eq_true hx, Bool.not_true, Bool.and_false] at hbi
      refine Tells.step (f := fun q => spec_FullCycles.j1 q (n : Int) s (c : Int) b (i : Int) true) (fun q => ?_) ?_
      · rw [spec_FullCycles.l0, if_pos (by omega), if_pos (by omega), if_pos (by omega), rdOf_nat, hbi, if_neg (by simp), if_pos (by omega), hx, beq_self_eq_true]
      · refine Tells.step (f := fun q => spec_FullCycles.l0 q (n : Int) s (c : Int) b ((i + 1 : Nat) : Int)) (fun q => by rw [spec_FullCycles.j1, if_pos rfl, wrap_succ i (by omega)]) ?_
        by_cases hb : m.testBit i = true
        · rw [if_pos hb]
          exact specCyc ho hn1 hn d (i + 1) c m b (by omega) (by omega) hm hr
        · rw [if_neg hb, if_pos hx]
          obtain ⟨n', rfl⟩ : ∃ n', n = n' + 1 := ⟨n - 1, by omega⟩
          rw [mark_fix hx n' m hb]
          exact specCyc ho hn1 hn d (i + 1) c _ b (by omega) (by omega) (low_or hm (by omega) hn) (rel_fix hr hx)
    · rw [decide_eq_false hx, Bool.not_false, Bool.and_true] at hbi
      by_cases hb : m.testBit i = true
      · rw [if_pos hb]
        refine Tells.step (f := fun q => spec_FullCycles.j1 q (n : Int) s (c : Int) b (i : Int) true) (fun q => ?_) ?_
        · rw [spec_FullCycles.l0, if_pos (by omega), if_pos (by omega), if_pos (by omega), rdOf_nat, hbi, hb, if_pos rfl]
        · refine Tells.step (f := fun q => spec_FullCycles.l0 q (n : Int) s (c : Int) b ((i + 1 : Nat) : Int)) (fun q => by rw [spec_FullCycles.j1, if_pos rfl, wrap_succ i (by omega)]) ?_
          exact specCyc ho hn1 hn d (i + 1) c m b (by omega) (by omega) hm hr
      · rw [if_neg hb, if_neg hx]
        have hbf : m.testBit i = false := by simpa using hb
        have hml := mark_low ho hn (n + 1) m i hm (by omega)
        refine Tells.step (f := fun q => spec_FullCycles.j1 q (n : Int) s (c : Int) b (i : Int) false) (fun q => ?_) ?_
        · rw [spec_FullCycles.l0, if_pos (by omega), if_pos (by omega), if_pos (by omega), rdOf_nat, hbi, hbf, if_neg (by simp), if_pos (by omega), beq_eq_false_iff_ne.mpr hx]
        · refine Tells.step (f := fun q => spec_FullCycles.l1 q (n : Int) s ((c + 1 : Nat) : Int) b (i : Int) (i : Int)) (fun q => by rw [spec_FullCycles.j1, if_neg (by simp), wrap_succ c (by omega)]) ?_
          exact specMark ho hn _ (c + 1) i (by omega) (n + 1) m i _ b rfl (by omega) hm (by omega) hr hx (fun b' hb' => specCyc ho hn1 hn d (i + 1) (c + 1) _ b' (by omega) (by omega) hml hb')
def cyclesOf (n k : Int) (s : List Int) : Int × Bool := if ask n k s = true then (((cyc s n.toNat n.toNat 0 0 0 : Nat) : Int), true) else (0, false)
theorem low_zero (n : Nat) : Low n 0 := ⟨by omega, fun p hp => by rw [Nat.zero_testBit] at hp; cases hp⟩
theorem implCycles_tells (n k : Int) (s : List Int) (hl : s.length < 1000000) : Tells (fun q => impl_FullCycles.f q n k s) (cyclesOf n k s) := by
  unfold impl_FullCycles.f cyclesOf
  refine Tells.bind (g := fun q t => if t = true then impl_FullCycles.l0 q s 0 0 n 0 else some (0, false)) (isSeating_tells n k s hl) ?_
  by_cases h : ask n k s = true
  · obtain ⟨N, K, rfl, rfl, h1, h2, h3, h4, h5⟩ := ask_nat h
    simp only [h, if_true, Int.toNat_natCast]
    exact implCyc h5.order h2 N 0 0 0 (by omega) (by omega) (low_zero N)
  · simp only [h, Bool.false_eq_true, if_false]
    exact Tells.now _
theorem specCycles_tells (n k : Int) (s : List Int) (hl : s.length < 1000000) : Tells (fun q => spec_FullCycles.f q n k s) (cyclesOf n k s) := by
  unfold spec_FullCycles.f cyclesOf
  refine Tells.bind (g := fun q t => if t = true then (if 0 ≤ n then (if n.toNat ≤ 281474976710656 then spec_FullCycles.l0 q n s 0 (List.replicate n.toNat false) 0 else none) else none) else some (0, false)) (l5Ask_tells n k s) ?_
  by_cases h : ask n k s = true
  · obtain ⟨N, K, rfl, rfl, h1, h2, h3, h4, h5⟩ := ask_nat h
    simp only [h, if_true, Int.toNat_natCast]
    refine Tells.pos (by omega) (Tells.pos (by omega) ?_)
    refine specCyc h5.order h1 h2 N 0 0 0 _ (by omega) (by omega) (low_zero N) ⟨List.length_replicate, fun p hp => ?_⟩
    rw [Nat.zero_testBit, Bool.false_and, List.getD_eq_getElem?_getD, List.getElem?_replicate, if_pos hp]
    rfl
  · simp only [h, Bool.false_eq_true, if_false]
    exact Tells.now _
/-! ### how many cycles -/
/-- What is marked leads to what is marked. -/
def Shut (n : Nat) (s : List Int) (m : Nat) : Prop := ∀ q, m.testBit q = true → m.testBit (rd s (q : Int)).toNat = true
theorem mark_shut {n : Nat} {s : List Int} (ho : Order n s) (hn : n ≤ 12) (f : Nat) : ∀ (m p k : Nat), popc 32 m = k → n + 1 ≤ f + k → Low n m → p < n → (∀ q, m.testBit q = true → m.testBit (rd s (q : Int)).toNat = true ∨ (rd s (q : Int)).toNat = p) →
    Shut n s (mark s f m p) ∧ (mark s f m p).testBit p = true ∧ (∀ q, m.testBit q = true → (mark s f m p).testBit q = true) := by
  induction f with
  | zero =>
    intro m p k hb0 hf hm hp h
    have h2 := low_pop0 hm hn
    rw [hb0] at h2
    omega
  | succ f ih =>
    intro m p k hb0 hf hm hp h
    rw [mark]
    by_cases hb : m.testBit p = true
    · rw [if_pos hb]
      refine ⟨fun q hq => ?_, hb, fun q hq => hq⟩
      rcases h q hq with h2 | h2
      · exact h2
      · rw [h2]; exact hb
    · rw [if_neg hb]
      have h2 := low_pop hm hp hn hb
      rw [hb0] at h2
      have h3 := next_lt ho hp
      obtain ⟨g1, g2, g3⟩ := ih (m ||| 2 ^ p) (rd s (p : Int)).toNat (k + 1) h2.1.symm (by omega) (low_or hm hp hn) h3.2 (fun q hq => by
        rw [testBit_or1, Bool.or_eq_true, decide_eq_true_eq] at hq ⊢
        rcases hq with hq | hq
        · rcases h q hq with h4 | h4
          · exact .inl (.inl h4)
          · exact .inl (.inr h4.symm)
        · subst hq
          exact .inr rfl)
      exact ⟨g1, g3 p (by rw [testBit_or1]; simp), fun q hq => g3 q (by rw [testBit_or1, hq]; rfl)⟩
theorem own_taken {n k : Nat} {s : List Int} (h : Poss n k s) {i : Nat} (hi : i < n) (hk : k ≤ i) (hx : ¬ rd s (i : Int) = (i : Int)) : ∃ j, j < i ∧ rd s (j : Int) = (i : Int) := by
  have hsl := h.1
  have hlen : (s.take i).length = i := by rw [List.length_take]; omega
  have h3 := h.2 i (by omega)
  rw [rd_get s i (by omega)] at hx
  have h4 : (i : Int) ∈ s.take i := by
    refine Classical.byContradiction (fun hm => ?_)
    unfold choices at h3
    rw [hlen, if_pos ⟨hk, hm⟩, List.mem_singleton] at h3
    exact hx h3
  obtain ⟨j, hj, e⟩ := List.mem_take_iff_getElem.mp h4
  exact ⟨j, by omega, by rw [rd_get s j (by omega)]; exact e⟩
theorem cyc_le {n k : Nat} {s : List Int} (h : Poss n k s) (hn : n ≤ 12) : ∀ (d i c m : Nat), i + d = n → Low n m → Shut n s m → (∀ j, j < i → m.testBit j = true) → cyc s n d i c m ≤ c + (k - i)
  | 0, i, c, m, _, _, _, _ => by rw [cyc]; omega
  | d + 1, i, c, m, hd, hm, hs, ha => by
    rw [cyc]
    by_cases hb : m.testBit i = true
    · rw [if_pos hb]
      have := cyc_le h hn d (i + 1) c m (by omega) hm hs (fun j hj => by
        rcases Nat.lt_or_ge j i with h1 | h1
        · exact ha j h1
        · obtain rfl : j = i := by omega
          exact hb)
      omega
    · rw [if_neg hb]
      obtain ⟨g1, g2, g3⟩ := mark_shut h.order hn (n + 1) m i _ rfl (by omega) hm (by omega) (fun q hq => .inl (hs q hq))
      have hml := mark_low h.order hn (n + 1) m i hm (by omega)
      have hall : ∀ j, j < i + 1 → (mark s (n + 1) m i).testBit j = true := fun j hj => by
        rcases Nat.lt_or_ge j i with h1 | h1
        · exact g3 j (ha j h1)
        · obtain rfl : j = i := by omega
          exact g2
      by_cases hx : rd s (i : Int) = (i : Int)
      · rw [if_pos hx]
        have := cyc_le h hn d (i + 1) c _ (by omega) hml g1 hall
        omega
      · rw [if_neg hx]
        have := cyc_le h hn d (i + 1) (c + 1) _ (by omega) hml g1 hall
        rcases Nat.lt_or_ge i k with hk | hk
        · omega
        · obtain ⟨j, hj, e⟩ := own_taken h (by omega) hk hx
          have h2 := hs j (ha j hj)
          rw [e, Int.toNat_natCast] at h2
          exact absurd h2 hb
theorem cyc_ge {n : Nat} {s : List Int} : ∀ (d i c m : Nat), c ≤ cyc s n d i c m
  | 0, i, c, m => by rw [cyc]; exact Nat.le_refl _
  | d + 1, i, c, m => by
    rw [cyc]
    split
    · exact cyc_ge d (i + 1) c m
    · split
      · exact cyc_ge d (i + 1) c _
      · exact Nat.le_trans (Nat.le_succ _) (cyc_ge d (i + 1) (c + 1) _)
theorem cyc_none {n : Nat} {s : List Int} : ∀ (d i c m : Nat), (∀ j, i ≤ j → j < i + d → rd s (j : Int) = (j : Int)) → cyc s n d i c m = c
  | 0, i, c, m, _ => by rw [cyc]
  | d + 1, i, c, m, h => by
    rw [cyc, if_pos (h i (by omega) (by omega))]
    split
    · exact cyc_none d (i + 1) c m (fun j h1 h2 => h j (by omega) (by omega))
    · exact cyc_none d (i + 1) c _ (fun j h1 h2 => h j (by omega) (by omega))
theorem cyc_some {n : Nat} {s : List Int} (hn1 : 1 ≤ n) : ∀ (d i c m : Nat), (∀ q, m.testBit q = true → rd s (q : Int) = (q : Int)) → (∃ j, i ≤ j ∧ j < i + d ∧ ¬ rd s (j : Int) = (j : Int)) → c + 1 ≤ cyc s n d i c m
  | 0, i, c, m, _, h => by
    obtain ⟨j, h1, h2, _⟩ := h
    omega
  | d + 1, i, c, m, hm, h => by
    obtain ⟨j, h1, h2, h3⟩ := h
    have hnext : ∀ (hi : rd s (i : Int) = (i : Int)), i + 1 ≤ j := fun hi => by
      rcases Nat.lt_or_ge i j with h4 | h4
      · exact h4
      · obtain rfl : i = j := by omega
        exact absurd hi h3
    rw [cyc]
    by_cases hb : m.testBit i = true
    · rw [if_pos hb]
      exact cyc_some hn1 d (i + 1) c m hm ⟨j, hnext (hm i hb), by omega, h3⟩
    · rw [if_neg hb]
      by_cases hx : rd s (i : Int) = (i : Int)
      · rw [if_pos hx]
        obtain ⟨n', rfl⟩ : ∃ n', n = n' + 1 := ⟨n - 1, by omega⟩
        rw [mark_fix hx n' m hb]
        refine cyc_some hn1 d (i + 1) c _ (fun q hq => ?_) ⟨j, hnext hx, by omega, h3⟩
        rw [testBit_or1, Bool.or_eq_true, decide_eq_true_eq] at hq
        rcases hq with hq | hq
        · exact hm q hq
        · rw [← hq]; exact hx
      · rw [if_neg hx]
        exact cyc_ge d (i + 1) (c + 1) _
end Go.Proofs.YtbkeihhkcaihiaaDoor.Pure

namespace Go.Proofs.YtbkeihhkcaihiaaDoor.Pure
open Go.RowKit Go.Proofs.YtbkeihhkcaihiaaDoor.FnSeatings Go.Proofs.YtbkeihhkcaihiaaDoorW.PrintWords Go.Proofs.YtbkeihhkcaihiaaDoorW.PrintMore
set_option linter.unusedVariables false
/-- The code's bytes. -/
def Bytes (l : List Int) : Prop := ∀ x ∈ l, 0 ≤ x ∧ x ≤ 255
theorem and255 (x : Int) : 0 ≤ Go.bits .and .u64 x 255 ∧ Go.bits .and .u64 x 255 ≤ 255 := by
  have e : Go.bits .and .u64 x 255 = IntKind.u64.wrap ((BitVec.ofInt 64 x &&& BitVec.ofInt 64 255).toNat : Int) := rfl
  have h : (BitVec.ofInt 64 x &&& BitVec.ofInt 64 255).toNat ≤ 255 := by
    rw [BitVec.toNat_and]
    exact Nat.le_trans Nat.and_le_right (by decide)
  have hw : ∀ z : Int, IntKind.u64.wrap z = z % 18446744073709551616 := fun z => by simp [IntKind.wrap, IntKind.signed, IntKind.bits]
  rw [e, hw]
  omega
theorem next_some (l : List Int) (hb : Bytes l) (hl : l.length < 1000000) (a s : Int) (h0 : 0 ≤ a) (h1 : a < 1000000) : ∃ b s', spec_l1Cur_next.f l a s = some (b, a + 1, s') ∧ 0 ≤ b ∧ b ≤ 255 := by
  have hw : wrap64 (a + 1) = a + 1 := wrap_id _ (by omega) (by omega)
  unfold spec_l1Cur_next.f
  rw [hw]
  have ha := fun x => and255 x
  by_cases h2 : a < (l.length : Int)
  · rw [if_pos h2, if_pos h0, if_pos (by omega)]
    have hr : 0 ≤ rd l a ∧ rd l a ≤ 255 := by
      have e : a = ((a.toNat : Nat) : Int) := by omega
      rw [e, rd_get l a.toNat (by omega)]
      exact hb _ (List.getElem_mem _)
    refine ⟨_, _, rfl, ?_⟩
    rw [wrap_id _ (by omega) (by omega)]
    exact hr
  · rw [if_neg h2, if_neg (by omega)]
    refine ⟨_, _, rfl, ?_⟩
    have := ha (Go.IntKind.u64.wrap (Go.IntKind.u64.wrap (Go.IntKind.u64.wrap (s * 6364136223846793005)) + 462197) / 1099511627776)
    have hx := and255 ((IntKind.u64.wrap ((IntKind.u64.wrap ((IntKind.u64.wrap (s * 6364136223846793005)))) + 462197)) / 1099511627776)
    rw [wrap_id _ (by omega) (by omega)]
    exact hx
theorem pick_some (l : List Int) (hb : Bytes l) (hl : l.length < 1000000) (a s n : Int) (h0 : 0 ≤ a) (h1 : a < 999000) (hn : n ≤ 200) : ∃ x a' s', spec_l1Cur_pick.f l a s n = some (x, a', s') ∧ 0 ≤ x ∧ (x < n ∨ (x = 0 ∧ n ≤ 1)) ∧ x ≤ 255 ∧ a ≤ a' ∧ a' ≤ a + 1 := by
  unfold spec_l1Cur_pick.f
  by_cases h : n ≤ 1
  · rw [if_pos h]
    exact ⟨0, a, s, rfl, by omega, .inr ⟨rfl, h⟩, by omega, by omega, by omega⟩
  · rw [if_neg h]
    obtain ⟨b, s', e, hb0, hb1⟩ := next_some l hb hl a s h0 (by omega)
    rw [e]
    simp only [Option.bind_some]
    rw [if_neg (by omega), if_neg (by omega)]
    have hm1 := Int.emod_nonneg b (b := n) (by omega)
    have hm2 := Int.emod_lt_of_pos b (b := n) (by omega)
    have he : Int.tmod b n = b % n := Int.tmod_eq_emod_of_nonneg hb0
    refine ⟨_, _, _, rfl, ?_, .inl ?_, ?_, by omega, by omega⟩
    · rw [he]; exact hm1
    · rw [he]; exact hm2
    · rw [he]; omega
theorem among_some (l : List Int) (hb : Bytes l) (hl : l.length < 1000000) (a s : Int) (xs : List Int) (hx : 0 < xs.length) (hx2 : xs.length ≤ 200) (h0 : 0 ≤ a) (h1 : a < 999000) : ∃ x a' s', spec_l1Cur_among.f l a s xs = some (x, a', s') ∧ x ∈ xs ∧ a ≤ a' ∧ a' ≤ a + 1 := by
  unfold spec_l1Cur_among.f
  obtain ⟨x, a', s', e, h2, h3, h4, h5, h6⟩ := pick_some l hb hl a s (xs.length : Int) h0 h1 (by omega)
  rw [e]
  simp only [Option.bind_some]
  have h7 : x < (xs.length : Int) := by omega
  rw [if_pos h2, if_pos h7]
  refine ⟨_, _, _, rfl, ?_, h5, h6⟩
  have e2 : x = ((x.toNat : Nat) : Int) := by omega
  rw [e2, rd_get xs x.toNat (by omega)]
  exact List.getElem_mem _
theorem one_some (l : List Int) (hb : Bytes l) (hl : l.length < 1000000) (a s n : Int) (h0 : 0 ≤ a) (h1 : a < 999000) (hn : n ≤ 200) : ∃ b a' s', spec_l1Cur_one.f l a s n = some (b, a', s') ∧ a ≤ a' ∧ a' ≤ a + 1 := by
  unfold spec_l1Cur_one.f
  obtain ⟨x, a', s', e, h2, h3, h4, h5, h6⟩ := pick_some l hb hl a s n h0 h1 hn
  rw [e]
  exact ⟨_, _, _, rfl, h5, h6⟩
theorem eighth (x : Int) (h : 0 ≤ x) (h2 : x < 24) (c : Int) (hc : 0 ≤ c ∧ c < 1000) : wrap64 (c + wrap64 (Int.tdiv x 8)) = c + x / 8 ∧ 0 ≤ x / 8 ∧ x / 8 ≤ 2 := by
  have e : Int.tdiv x 8 = x / 8 := Int.tdiv_eq_ediv_of_nonneg h
  rw [e, wrap_id (x / 8) (by omega) (by omega)]
  exact ⟨wrap_id _ (by omega) (by omega), by omega, by omega⟩
theorem few5_some (l : List Int) (hb : Bytes l) (hl : l.length < 1000000) : ∃ n k a s, spec_l1Cur_few5.f l 0 0 = some (n, k, a, s) ∧ n ∈ ([4, 5, 3, 2, 1, 6, 7, 8, 0, (-1)] : List Int) ∧ k ∈ ([1, 2, 1, 3, 0] : List Int) ∧ (n > 5 → k ≤ 2) := by
  unfold spec_l1Cur_few5.f
  simp only [Option.bind_some]
  obtain ⟨x, a1, s1, e1, h2, h3, h4, h5, h6⟩ := pick_some l hb hl 0 0 24 (by omega) (by omega) (by omega)
  rw [e1]
  simp only [Option.bind_some]
  obtain ⟨w1, w2, w3⟩ := eighth x h2 (by omega) 7 (by omega)
  rw [w1, if_pos (by omega), if_pos (by simp only [List.length_cons, List.length_nil]; omega)]
  obtain ⟨n, a2, s2, e2, g1, g2, g3⟩ := among_some l hb hl a1 s1 (([4, 5, 3, 2, 1, 6, 7, 8, 0, (-1)] : List Int).take (7 + x / 8).toNat) (by rw [List.length_take]; simp only [List.length_cons, List.length_nil]; omega) (by rw [List.length_take]; simp only [List.length_cons, List.length_nil]; omega) (by omega) (by omega)
  rw [e2]
  simp only [Option.bind_some]
  obtain ⟨k, a3, s3, e3, f1, f2, f3⟩ := among_some l hb hl a2 s2 ([1, 2, 1, 3, 0] : List Int) (by decide) (by decide) (by omega) (by omega)
  rw [e3]
  simp only [Option.bind_some]
  have hn := List.mem_of_mem_take g1
  by_cases h : n > 5
  · rw [if_pos h]
    unfold spec_l1Least.f
    by_cases h7 : k < 2
    · rw [if_pos h7]
      exact ⟨n, k, a3, s3, rfl, hn, f1, fun _ => by omega⟩
    · rw [if_neg h7]
      exact ⟨n, 2, a3, s3, rfl, hn, by decide, fun _ => by omega⟩
  · rw [if_neg h]
    exact ⟨n, k, a3, s3, rfl, hn, f1, fun h8 => absurd h8 h⟩
theorem plane5_some (l : List Int) (hb : Bytes l) (hl : l.length < 1000000) : ∃ n k a s, spec_l1Cur_plane5.f l 0 0 = some (n, k, a, s) ∧ -1 ≤ n ∧ n ≤ 13 ∧ -1 ≤ k ∧ k ≤ 14 ∧ 0 ≤ a ∧ a ≤ 10 := by
  unfold spec_l1Cur_plane5.f
  simp only [Option.bind_some]
  obtain ⟨x, a1, s1, e1, h2, h3, h4, h5, h6⟩ := pick_some l hb hl 0 0 24 (by omega) (by omega) (by omega)
  rw [e1]
  simp only [Option.bind_some]
  obtain ⟨w1, w2, w3⟩ := eighth x h2 (by omega) 9 (by omega)
  rw [w1, if_pos (by omega), if_pos (by simp only [List.length_cons, List.length_nil]; omega)]
  obtain ⟨n, a2, s2, e2, g1, g2, g3⟩ := among_some l hb hl a1 s1 (([4, 5, 3, 6, 2, 1, 7, 10, 12, 0, 13, (-1)] : List Int).take (9 + x / 8).toNat) (by rw [List.length_take]; simp only [List.length_cons, List.length_nil]; omega) (by rw [List.length_take]; simp only [List.length_cons, List.length_nil]; omega) (by omega) (by omega)
  rw [e2]
  simp only [Option.bind_some]
  obtain ⟨k, a3, s3, e3, f1, f2, f3⟩ := among_some l hb hl a2 s2 ([1, 2, 1, 3, 0, 4] : List Int) (by decide) (by decide) (by omega) (by omega)
  rw [e3]
  simp only [Option.bind_some]
  obtain ⟨b, a4, s4, e4, i1, i2⟩ := one_some l hb hl a3 s3 16 (by omega) (by omega) (by omega)
  rw [e4]
  simp only [Option.bind_some]
  have hn := List.mem_of_mem_take g1
  have hn2 : -1 ≤ n ∧ n ≤ 13 := by
    simp only [List.mem_cons, List.not_mem_nil, or_false] at hn
    omega
  have hk2 : -1 ≤ k ∧ k ≤ 14 := by
    simp only [List.mem_cons, List.not_mem_nil, or_false] at f1
    omega
  by_cases h : b = true
  · rw [if_pos h, wrap_id (n + 1) (by omega) (by omega)]
    obtain ⟨k', a5, s5, e5, j1, j2, j3⟩ := among_some l hb hl a4 s4 ([n, n + 1, (-1)] : List Int) (by simp) (by simp) (by omega) (by omega)
    rw [e5]
    simp only [List.mem_cons, List.not_mem_nil, or_false] at j1
    exact ⟨n, k', a5, s5, rfl, by omega, by omega, by omega, by omega, by omega, by omega⟩
  · rw [if_neg h]
    exact ⟨n, k, a4, s4, rfl, by omega, by omega, by omega, by omega, by omega, by omega⟩
/-- Some seat is free while not all are taken. -/
theorem free_some (n : Nat) (b : List Int) (hn : n ≤ 12) (hb : b.length < n) (hr : ∀ x ∈ b, 0 ≤ x ∧ x < n) : 0 < (freeL n b).length := by
  refine Nat.pos_of_ne_zero (fun h0 => ?_)
  have h1 := List.eq_nil_of_length_eq_zero h0
  have hall : ∀ p, p < n → (p : Int) ∈ b := fun p hp => Classical.byContradiction (fun hm => by
    have h2 : (p : Int) ∈ freeL n b := mem_freeL.mpr ⟨⟨by omega, by omega⟩, hm⟩
    rw [h1] at h2
    simp at h2)
  have hr32 : ∀ x ∈ b, 0 ≤ x ∧ x < 32 := fun x hx => by have := hr x hx; omega
  have hc := (setN_count b 0 hr32).1
  have h00 : popc 32 0 = 0 := by decide
  rw [h00, popc_bits] at hc
  unfold bitsOf at hc
  have e : (List.range 32).filter (fun q => (setN 0 b).testBit q) = (List.range n).filter (fun (q : Nat) => decide ((q : Int) ∈ b)) := by
    obtain ⟨d, hd⟩ : ∃ d, 32 = n + d := ⟨32 - n, by omega⟩
    rw [hd, ← filter_upto _ n d]
    refine List.filter_congr (fun q _ => ?_)
    rw [setN_bit b 0 q (fun x hx => (hr x hx).1), Nat.zero_testBit, Bool.false_or]
    by_cases hq : q < n
    · simp [hq]
    · have : ¬ (q : Int) ∈ b := fun hm => by have := hr _ hm; omega
      simp [this]
  rw [e, List.filter_eq_self.mpr (fun q hq => decide_eq_true (hall q (List.mem_range.mp hq))), List.length_range] at hc
  omega
theorem seating_l0 (l : List Int) (hb : Bytes l) (hl : l.length < 1000000) (n k : Nat) (hn1 : 1 ≤ n) (hn : n ≤ 12) : ∀ (d : Nat) (out : List Int) (a s : Int), out.length + d = n → (∀ x ∈ out, 0 ≤ x ∧ x < n) → 0 ≤ a → a ≤ 100 - d →
    ∃ r : List Int × Int × Int, Tells (fun q => spec_l1Cur_seating5.l0 q (n : Int) (k : Int) out l a s) r ∧ r.1.length ≤ 13
  | 0, out, a, s, h, hr, h0, h1 => by
    obtain ⟨x, a1, s1, e1, h2, h3, h4, h5, h6⟩ := pick_some l hb hl a s 20 h0 (by omega) (by omega)
    by_cases hx0 : x = 0
    · obtain ⟨y, a2, s2, e2, g2, g3, g4, g5, g6⟩ := pick_some l hb hl a1 s1 (n : Int) (by omega) (by omega) (by omega)
      obtain ⟨z, a3, s3, e3, f1, f2, f3⟩ := among_some l hb hl a2 s2 ([0, (-1), (n : Int)] : List Int) (by simp) (by simp) (by omega) (by omega)
      refine ⟨_, Tells.step (fun q => ?_) (Tells.now (out.set y.toNat z, a3, s3)), by rw [List.length_set]; omega⟩
      rw [spec_l1Cur_seating5.l0, if_neg (by omega), e1, Option.bind_some, if_pos hx0, e2, Option.bind_some, e3, Option.bind_some, if_pos g2, if_pos (by omega)]
    · by_cases hx1 : x = 1
      · refine ⟨_, Tells.step (fun q => ?_) (Tells.now (out ++ [0], a1, s1)), by rw [List.length_append, List.length_singleton]; omega⟩
        rw [spec_l1Cur_seating5.l0, if_neg (by omega), e1, Option.bind_some, if_neg hx0, if_pos hx1, if_pos (by omega)]
      · refine ⟨_, Tells.step (fun q => ?_) (Tells.now (out, a1, s1)), by show out.length ≤ 13; omega⟩
        rw [spec_l1Cur_seating5.l0, if_neg (by omega), e1, Option.bind_some, if_neg hx0, if_neg hx1]
  | d + 1, out, a, s, h, hr, h0, h1 => by
    have hlt : out.length < n := by omega
    have hch : 0 < (choices n k out).length := by
      unfold choices
      split
      · simp
      · exact free_some n out hn hlt hr
    have hle := choices_le n k out hn1
    obtain ⟨x, a1, s1, e1, h2, h3, h4, h5, h6⟩ := pick_some l hb hl a s ((choices n k out).length : Int) h0 (by omega) (by omega)
    have hxl : x < ((choices n k out).length : Int) := by omega
    have hm : rd (choices n k out) x ∈ choices n k out := by
      have e2 : x = ((x.toNat : Nat) : Int) := by omega
      rw [e2, rd_get _ x.toNat (by omega)]
      exact List.getElem_mem _
    have hmc := mem_choices hlt hm
    obtain ⟨r, hr1, hr2⟩ := seating_l0 l hb hl n k hn1 hn d (out ++ [rd (choices n k out) x]) a1 s1 (by simp; omega) (fun y hy => by
      rcases List.mem_append.mp hy with hy | hy
      · exact hr y hy
      · rw [List.mem_singleton] at hy
        subst hy
        exact hmc.1) (by omega) (by omega)
    refine ⟨r, ?_, hr2⟩
    refine Tells.step (f := fun q => (spec_l5Choices.f q (n : Int) (k : Int) out).bind fun t239 => ((spec_l1Cur_pick.f l a s (t239.length : Int)).bind fun bt242 => (if 0 ≤ bt242.1 then (if bt242.1 < (t239.length : Int) then (if out.length < 17592186044416 then (spec_l1Cur_seating5.l0 q (n : Int) (k : Int) (out ++ [rd t239 bt242.1]) l bt242.2.1 bt242.2.2) else (none)) else (none)) else (none)))) (fun q => ?_) ?_
    · rw [spec_l1Cur_seating5.l0, if_pos (by omega)]
    · refine Tells.bind (g := fun q t239 => ((spec_l1Cur_pick.f l a s (t239.length : Int)).bind fun bt242 => (if 0 ≤ bt242.1 then (if bt242.1 < (t239.length : Int) then (if out.length < 17592186044416 then (spec_l1Cur_seating5.l0 q (n : Int) (k : Int) (out ++ [rd t239 bt242.1]) l bt242.2.1 bt242.2.2) else (none)) else (none)) else (none)))) (choices_tells n k out (by omega) (by omega)) ?_
      rw [e1]
      simp only [Option.bind_some]
      exact Tells.pos h2 (Tells.pos hxl (Tells.pos (by omega) hr1))
theorem seating_some (l : List Int) (hb : Bytes l) (hl : l.length < 1000000) (n k a s : Int) (h0 : 0 ≤ a) (h1 : a ≤ 50) : ∃ r : List Int × Int × Int, Tells (fun q => spec_l1Cur_seating5.f q l a s n k) r ∧ r.1.length ≤ 13 := by
  unfold spec_l1Cur_seating5.f
  rw [good_eq]
  simp only [Option.bind_some]
  by_cases h : good n k = true
  · obtain ⟨N, K, rfl, rfl, h2, h3, h4⟩ := good_nat h
    obtain ⟨r, hr1, hr2⟩ := seating_l0 l hb hl N K h2 h3 N [] a s (by simp) (by simp) h0 (by omega)
    exact ⟨r, Tells.pos h hr1, hr2⟩
  · exact ⟨_, Tells.neg h (Tells.now ([0], a, s)), by simp⟩
theorem drawIs_some (l : List Int) (hb : Bytes l) (hl : l.length < 1000000) : ∃ n k s, Tells (fun q => spec_DrawIsPossible.f q l) (n, k, s) ∧ -1 ≤ n ∧ n ≤ 13 ∧ s.length ≤ 13 := by
  obtain ⟨n, k, a, sd, e1, h1, h2, h3, h4, h5, h6⟩ := plane5_some l hb hl
  obtain ⟨b, a2, s2, e2, g1, g2⟩ := one_some l hb hl a sd 4 h5 (by omega) (by omega)
  have hj : ∀ t : Bool, ∃ s, Tells (fun q => spec_DrawIsPossible.j0 q n k t l a2 s2) (n, k, s) ∧ s.length ≤ 13 := by
    intro t
    by_cases ht : t = true
    · obtain ⟨r, hr1, hr2⟩ := seating_some l hb hl n n a2 s2 (by omega) (by omega)
      refine ⟨r.1, Tells.step (f := fun q => (spec_l1Cur_seating5.f q l a2 s2 n n).bind fun bt => some (n, k, bt.1)) (fun q => by rw [spec_DrawIsPossible.j0, if_pos ht]) ?_, hr2⟩
      exact Tells.bind (g := fun _ (bt : List Int × Int × Int) => some (n, k, bt.1)) hr1 (Tells.now _)
    · obtain ⟨r, hr1, hr2⟩ := seating_some l hb hl n k a2 s2 (by omega) (by omega)
      refine ⟨r.1, Tells.step (f := fun q => (spec_l1Cur_seating5.f q l a2 s2 n k).bind fun bt => some (n, k, bt.1)) (fun q => by rw [spec_DrawIsPossible.j0, if_neg ht]) ?_, hr2⟩
      exact Tells.bind (g := fun _ (bt : List Int × Int × Int) => some (n, k, bt.1)) hr1 (Tells.now _)
  unfold spec_DrawIsPossible.f
  rw [e1]
  simp only [Option.bind_some]
  rw [e2]
  simp only [Option.bind_some, good_eq]
  by_cases hbt : b = true
  · obtain ⟨s, hs1, hs2⟩ := hj (good n k)
    exact ⟨n, k, s, Tells.pos hbt hs1, h1, h2, hs2⟩
  · obtain ⟨s, hs1, hs2⟩ := hj false
    exact ⟨n, k, s, Tells.neg hbt hs1, h1, h2, hs2⟩
theorem drawTrail_some (l : List Int) (hb : Bytes l) (hl : l.length < 1000000) : ∃ n k s seat, Tells (fun q => spec_DrawTrailOf.f q l) (n, k, s, seat) ∧ s.length ≤ 13 ∧ -100 ≤ seat ∧ seat ≤ 100 := by
  obtain ⟨n, k, s, h1, h2, h3, h4⟩ := drawIs_some l hb hl
  have hmost : spec_l1Most.f 1 n = some (if 1 > n then 1 else n) := by
    unfold spec_l1Most.f
    split <;> rfl
  obtain ⟨x, a1, s1, e1, g2, g3, g4, g5, g6⟩ := pick_some l hb hl 0 0 (if 1 > n then 1 else n) (by omega) (by omega) (by split <;> omega)
  obtain ⟨y, a2, s2, e2, f2, f3, f4, f5, f6⟩ := pick_some l hb hl a1 s1 24 (by omega) (by omega) (by omega)
  have hx13 : x ≤ 13 := by
    rcases g3 with h | h
    · split at h <;> omega
    · omega
  have hd : Int.tdiv y 23 = y / 23 := Int.tdiv_eq_ediv_of_nonneg f2
  refine ⟨n, k, s, wrap64 (x - wrap64 (Int.tdiv y 23)), ?_, h4, ?_⟩
  · unfold spec_DrawTrailOf.f
    refine Tells.bind (g := fun q (bt285 : Int × Int × List Int) => ((spec_l1Most.f 1 bt285.1).bind fun t290 => ((spec_l1Cur_pick.f l 0 0 t290).bind fun bt291 => ((spec_l1Cur_pick.f l bt291.2.1 bt291.2.2 24).bind fun bt294 => (some (bt285.1, bt285.2.1, bt285.2.2, wrap64 (bt291.1 - (wrap64 (Int.tdiv bt294.1 23))))))))) h1 (Tells.of _ ?_)
    simp only [hmost, Option.bind_some, e1, e2]
  · rw [hd, wrap_id (y / 23) (by omega) (by omega), wrap_id _ (by omega) (by omega)]
    omega
theorem cut_some (l : List Int) (hb : Bytes l) (hl : l.length < 100000) : ∃ l', laws_vCut.f l 1 = some l' ∧ Bytes l' ∧ l'.length < 1000000 := by
  unfold laws_vCut.f
  by_cases h : (1 : Int) > (l.length : Int)
  · have h0 : l = [] := List.eq_nil_of_length_eq_zero (by omega)
    subst h0
    exact ⟨[0], by rfl, fun x hx => by rw [List.mem_singleton] at hx; omega, by decide⟩
  · rw [if_neg h]
    simp only [Option.bind_some, List.nil_append, List.length_nil, Nat.zero_add]
    have hlen : (l.drop (1 : Int).toNat).length < 100000 := by rw [List.length_drop]; omega
    rw [if_pos (by omega), if_pos (by omega), if_pos (by omega), if_pos (by omega)]
    refine ⟨_, rfl, fun x hx => ?_, by rw [List.length_append, List.length_singleton]; omega⟩
    rcases List.mem_append.mp hx with hx | hx
    · exact hb x (List.mem_of_mem_drop hx)
    · rw [List.mem_singleton] at hx
      omega
end Go.Proofs.YtbkeihhkcaihiaaDoor.Pure

namespace Go.Proofs.YtbkeihhkcaihiaaDoor.Pure
open Go.RowKit Go.Proofs.YtbkeihhkcaihiaaDoor.FnSeatings Go.Proofs.YtbkeihhkcaihiaaDoorW.PrintWords Go.Proofs.YtbkeihhkcaihiaaDoorW.PrintMore
set_option linter.unusedVariables false
theorem Tells.mono {α : Type} {f : Nat → Option α} {v : α} (hm : ∀ k, LeO (f k) (f (k + 1))) {K : Nat} (h : f K = some v) : Tells f v := by
  refine ⟨K, fun k hk => ?_⟩
  induction k with
  | zero =>
    obtain rfl : K = 0 := by omega
    exact h
  | succ k ih =>
    rcases Nat.lt_or_ge k K with h2 | h2
    · obtain rfl : K = k + 1 := by omega
      exact h
    · exact hm k v (ih h2)
theorem ints_l0 (l : List Int) (hl : l.length < 1000000) : ∀ (d i : Nat), i + d = l.length → Tells (fun q => laws_vInts.l0 q l l (i : Int)) true
  | 0, i, h => by
    refine Tells.step (fun q => ?_) (Tells.now _)
    rw [laws_vInts.l0, if_neg (by omega)]
  | d + 1, i, h => by
    refine Tells.step (f := fun q => laws_vInts.l0 q l l ((i + 1 : Nat) : Int)) (fun q => ?_) (ints_l0 l hl d (i + 1) (by omega))
    rw [laws_vInts.l0, if_pos (by omega), if_pos (by omega), if_pos (by omega), if_pos rfl, wrap_succ i (by omega)]
theorem ints_same (l : List Int) (hl : l.length < 1000000) : Tells (fun q => laws_vInts.f q l l) true := by
  unfold laws_vInts.f
  exact Tells.pos rfl (ints_l0 l hl l.length 0 (by omega))
theorem table_l0 (l : List (List Int)) (hl : l.length < 1000000) (hr : ∀ x ∈ l, x.length < 1000000) : ∀ (d i : Nat), i + d = l.length → Tells (fun q => laws_vTable.l0 q l l (i : Int)) true
  | 0, i, h => by
    refine Tells.step (fun q => ?_) (Tells.now _)
    rw [laws_vTable.l0, if_neg (by omega)]
  | d + 1, i, h => by
    have hi : i < l.length := by omega
    have e : rd_L2 l (i : Int) = l[i] := by
      unfold rd_L2
      rw [Int.toNat_natCast, List.getD_eq_getElem?_getD, List.getElem?_eq_getElem hi]
      rfl
    refine Tells.step (f := fun q => (laws_vInts.f q l[i] l[i]).bind fun t => if t = true then laws_vTable.l0 q l l ((i + 1 : Nat) : Int) else some false) (fun q => ?_) ?_
    · rw [laws_vTable.l0, if_pos (by omega), if_pos (by omega), if_pos (by omega), e, wrap_succ i (by omega)]
    · exact Tells.bind (g := fun q t => if t = true then laws_vTable.l0 q l l ((i + 1 : Nat) : Int) else some false) (ints_same l[i] (hr _ (List.getElem_mem hi))) (Tells.pos rfl (table_l0 l hl hr d (i + 1) (by omega)))
theorem table_same (l : List (List Int)) (hl : l.length < 1000000) (hr : ∀ x ∈ l, x.length < 1000000) : Tells (fun q => laws_vTable.f q l l) true := by
  unfold laws_vTable.f
  exact Tells.pos rfl (table_l0 l hl hr l.length 0 (by omega))
theorem pairs_l0 (l : List S39) (hl : l.length < 1000000) : ∀ (d i : Nat), i + d = l.length → Tells (fun q => laws_vPairs.l0 q l l (i : Int)) true
  | 0, i, h => by
    refine Tells.step (fun q => ?_) (Tells.now _)
    rw [laws_vPairs.l0, if_neg (by omega)]
  | d + 1, i, h => by
    refine Tells.step (f := fun q => laws_vPairs.l0 q l l ((i + 1 : Nat) : Int)) (fun q => ?_) (pairs_l0 l hl d (i + 1) (by omega))
    rw [laws_vPairs.l0, if_pos (by omega), if_pos (by omega), if_pos (by omega), if_neg (by simp), wrap_succ i (by omega)]
theorem pairs_same (l : List S39) (hl : l.length < 1000000) : Tells (fun q => laws_vPairs.f q l l) true := by
  unfold laws_vPairs.f
  exact Tells.pos rfl (pairs_l0 l hl l.length 0 (by omega))
theorem moves_len (s : List Int) : ∀ d i, (movesFrom s d i).length ≤ d
  | 0, i => Nat.le_refl _
  | d + 1, i => by
    rw [movesFrom]
    have := moves_len s d (i + 1)
    split
    · omega
    · rw [List.length_cons]; omega
/-! ### the free seats -/
theorem freeL_asc (n : Nat) (b : List Int) : (freeL n b).Pairwise (· < ·) := by
  unfold freeL freeFrom
  rw [Nat.sub_zero, ← List.range_eq_range']
  exact List.Pairwise.map _ (fun a c hac => by omega) (List.Pairwise.filter _ List.pairwise_lt_range)
theorem freeL_ge (n : Nat) (b : List Int) : ∀ (i : Nat) (h : i < (freeL n b).length), (i : Int) ≤ (freeL n b)[i]
  | 0, h => by
    have := (mem_freeL.mp (List.getElem_mem h)).1
    omega
  | i + 1, h => by
    have ih := freeL_ge n b i (by omega)
    have h2 := List.pairwise_iff_getElem.mp (freeL_asc n b) i (i + 1) (by omega) h (by omega)
    omega
theorem free_early {n k : Nat} {s : List Int} (hp : Poss n k s) {seat : Nat} (hs : seat < n) {f : Int} (hf : f ∈ freeL n (s.take seat)) (h1 : f < seat) : f < k := by
  refine Classical.byContradiction (fun hk => ?_)
  have hm := mem_freeL.mp hf
  obtain ⟨p, rfl⟩ : ∃ p : Nat, f = (p : Int) := ⟨f.toNat, by omega⟩
  have hlen := hp.1
  have hpl : p < s.length := by omega
  have hch := hp.2 p hpl
  have hl : (s.take p).length = p := by rw [List.length_take]; omega
  have hnot : ¬ (p : Int) ∈ s.take p := fun h => hm.2 (by
    obtain ⟨j, hj, e⟩ := List.mem_take_iff_getElem.mp h
    exact List.mem_take_iff_getElem.mpr ⟨j, by omega, e⟩)
  unfold choices at hch
  rw [hl, if_pos ⟨by omega, hnot⟩, List.mem_singleton] at hch
  exact hm.2 (List.mem_take_iff_getElem.mpr ⟨p, by omega, hch⟩)
theorem free_l2 {n k : Nat} {s : List Int} (hp : Poss n k s) (hn : n ≤ 12) {seat : Nat} (hs : seat < n) : ∀ (d i e : Nat), i + d = (freeL n (s.take seat)).length → e ≤ i → (k ≤ seat → e ≤ k) →
    Tells (fun q => laws_FnSeatings.l2 q (n : Int) (k : Int) (seat : Int) (freeL n (s.take seat)) (e : Int) (i : Int)) true
  | 0, i, e, h, he, hk => by
    have hlen := order_free hp.order seat (by have := hp.1; omega)
    refine Tells.step (fun q => ?_) (Tells.now _)
    rw [laws_FnSeatings.l2, if_neg (by omega), if_pos (by rw [wrap_id _ (by omega) (by omega)]; omega)]
    by_cases h1 : seat < k
    · rw [if_pos (by omega)]
    · rw [if_neg (by omega)]
      have := hk (by omega)
      simp
      omega
  | d + 1, i, e, h, he, hk => by
    have hlen := order_free hp.order seat (by have := hp.1; omega)
    have hi : i < (freeL n (s.take seat)).length := by omega
    have hge := freeL_ge n (s.take seat) i hi
    have hmem := List.getElem_mem hi
    by_cases h1 : (freeL n (s.take seat))[i] < (seat : Int)
    · have h2 := free_early hp hs hmem h1
      refine Tells.step (f := fun q => laws_FnSeatings.l2 q (n : Int) (k : Int) (seat : Int) (freeL n (s.take seat)) ((e + 1 : Nat) : Int) ((i + 1 : Nat) : Int)) (fun q => ?_) (free_l2 hp hn hs d (i + 1) (e + 1) (by omega) (by omega) (fun _ => by omega))
      rw [laws_FnSeatings.l2, if_pos (by omega), if_pos (by omega), rd_get _ i hi, if_pos h1, wrap_succ e (by omega), wrap_succ i (by omega)]
      by_cases h3 : (seat : Int) ≥ (k : Int)
      · rw [if_pos h3, if_neg (by omega)]
      · rw [if_neg h3]
    · refine Tells.step (f := fun q => laws_FnSeatings.l2 q (n : Int) (k : Int) (seat : Int) (freeL n (s.take seat)) (e : Int) ((i + 1 : Nat) : Int)) (fun q => ?_) (free_l2 hp hn hs d (i + 1) e (by omega) (by omega) hk)
      rw [laws_FnSeatings.l2, if_pos (by omega), if_pos (by omega), rd_get _ i hi, if_neg h1, wrap_succ i (by omega)]
/-! ### the trail -/
theorem Trail.head {s : List Int} {k i : Nat} {l : List Int} (h : Trail s k i l) : ∃ t, l = (i : Int) :: t := by
  cases h with
  | stop h hs => exact ⟨_, rfl⟩
  | go h hk hs hj he t => exact ⟨_, rfl⟩
theorem trail_step {s : List Int} {k i : Nat} {l : List Int} (h : Trail s k i l) : ∀ m (hm : m + 1 < l.length), ∃ a b : Nat, l[m] = (b : Int) ∧ l[m + 1] = (a : Int) ∧ a < b ∧ b < s.length ∧ rd s (a : Int) = (b : Int) := by
  induction h with
  | stop h hs => intro m hm; simp at hm
  | @go i j l h hk hs hj he t ih =>
    intro m hm
    obtain ⟨t', e⟩ := t.head
    cases m with
    | zero =>
      refine ⟨j, i, rfl, ?_, hj, h, by rw [rd_get s j (by omega)]; exact he⟩
      subst e
      rfl
    | succ m =>
      obtain ⟨a, b, h1, h2, h3, h4, h5⟩ := ih m (by simpa using hm)
      exact ⟨a, b, by simpa using h1, by simpa using h2, h3, h4, h5⟩
theorem trail_last {s : List Int} {k i : Nat} {l : List Int} (h : Trail s k i l) : ∃ (e : Nat) (hl : l.length - 1 < l.length), l[l.length - 1] = (e : Int) ∧ e < s.length ∧ (e < k ∨ rd s (e : Int) = (e : Int)) := by
  induction h with
  | @stop i h hs =>
    refine ⟨i, by simp, by simp, h, ?_⟩
    rcases hs with hs | hs
    · exact .inl hs
    · exact .inr (by rw [rd_get s i h]; exact hs)
  | @go i j l h hk hs hj he t ih =>
    obtain ⟨e, hl, h1, h2, h3⟩ := ih
    refine ⟨e, by simp, ?_, h2, h3⟩
    have hl2 : 0 < l.length := by omega
    have e2 : ((i : Int) :: l).length - 1 = (l.length - 1) + 1 := by rw [List.length_cons]; omega
    simp only [e2, List.getElem_cons_succ]
    exact h1
theorem trail_l1 {n k : Nat} {s : List Int} (hs : s.length = n) (hn : n ≤ 12) (seat : Int) (free : List Int) {i0 : Nat} {l : List Int} (h : Trail s k i0 l) (hf : Tells (fun q => laws_FnSeatings.l2 q (n : Int) (k : Int) seat free 0 0) true) :
    ∀ (d i : Nat), i + 1 + d = l.length → Tells (fun q => laws_FnSeatings.l1 q (n : Int) (k : Int) s seat l free ((i + 1 : Nat) : Int)) true
  | 0, i, hd => by
    have hlen := h.len
    have hlt := h.lt
    obtain ⟨e, hl, h1, h2, h3⟩ := trail_last h
    have hw : wrap64 ((l.length : Int) - 1) = ((l.length - 1 : Nat) : Int) := by rw [wrap_id _ (by omega) (by omega)]; omega
    have h6 : Tells (fun q => laws_FnSeatings.j6 q (n : Int) (k : Int) seat free false) true := Tells.step (fun q => by rw [laws_FnSeatings.j6, if_neg (by simp)]) hf
    have hr : rd l (((l.length - 1 : Nat)) : Int) = (e : Int) := by rw [rd_get l _ hl]; exact h1
    refine Tells.step (f := fun q => laws_FnSeatings.j6 q (n : Int) (k : Int) seat free false) (fun q => ?_) h6
    rw [laws_FnSeatings.l1, if_neg (by omega), hw, if_pos (by omega), if_pos (by omega), hr]
    by_cases hk : (e : Int) ≥ (k : Int)
    · rw [if_pos hk, if_pos (by omega), if_pos (by omega)]
      have h4 : rd s (e : Int) = (e : Int) := h3.resolve_left (by omega)
      rw [h4, bne_self_eq_false]
    · rw [if_neg hk]
  | d + 1, i, hd => by
    have hlen := h.len
    have hlt := h.lt
    obtain ⟨a, b, h1, h2, h3, h4, h5⟩ := trail_step h i (by omega)
    have hw : wrap64 (((i + 1 : Nat) : Int) - 1) = (i : Int) := by rw [wrap_id _ (by omega) (by omega)]; omega
    have hra : rd l ((i + 1 : Nat) : Int) = (a : Int) := by rw [rd_get l (i + 1) (by omega)]; exact h2
    have hrb : rd l (i : Int) = (b : Int) := by rw [rd_get l i (by omega)]; exact h1
    refine Tells.step (f := fun q => laws_FnSeatings.l1 q (n : Int) (k : Int) s seat l free ((i + 1 + 1 : Nat) : Int)) (fun q => ?_) (trail_l1 hs hn seat free h hf d (i + 1) (by omega))
    rw [laws_FnSeatings.l1, if_pos (by omega), if_pos (by omega), hra, if_pos (by omega), if_pos (by omega), hw, if_pos (by omega), if_pos (by omega), hrb, if_pos h5, if_neg (by omega), wrap_succ (i + 1) (by omega)]
end Go.Proofs.YtbkeihhkcaihiaaDoor.Pure

namespace Go.Proofs.YtbkeihhkcaihiaaDoor.Pure
open Go.RowKit Go.Proofs.YtbkeihhkcaihiaaDoor.FnSeatings Go.Proofs.YtbkeihhkcaihiaaDoorW.PrintWords Go.Proofs.YtbkeihhkcaihiaaDoorW.PrintMore
set_option linter.unusedVariables false
theorem pair_ok {n k : Int} (hn : n ∈ ([4, 5, 3, 2, 1, 6, 7, 8, 0, (-1)] : List Int)) (hk : k ∈ ([1, 2, 1, 3, 0] : List Int)) (h : n > 5 → k ≤ 2) : chk n k = true := by
  simp only [List.mem_cons, List.not_mem_nil, or_false] at hn hk
  have hk2 : k = 0 ∨ k = 1 ∨ k = 2 ∨ k = 3 := by omega
  have h8 : ∀ n' k' : Int, (n', k') ∈ pairs → chk n' k' = true := fun n' k' hm => List.all_eq_true.mp pairs_ok (n', k') hm
  have h6 : ∀ n' k' : Int, (n', k') ∈ pairs6 → chk n' k' = true := fun n' k' hm => List.all_eq_true.mp pairs6_ok (n', k') hm
  rcases hn with rfl | rfl | rfl | rfl | rfl | rfl | rfl | rfl | rfl | rfl
  · rcases hk2 with rfl | rfl | rfl | rfl <;> exact h8 _ _ (by decide)
  · rcases hk2 with rfl | rfl | rfl | rfl <;> exact h8 _ _ (by decide)
  · rcases hk2 with rfl | rfl | rfl | rfl <;> exact h8 _ _ (by decide)
  · rcases hk2 with rfl | rfl | rfl | rfl <;> exact h8 _ _ (by decide)
  · rcases hk2 with rfl | rfl | rfl | rfl <;> exact h8 _ _ (by decide)
  · rcases hk2 with rfl | rfl | rfl | rfl
    · exact h6 _ _ (by decide)
    · exact h6 _ _ (by decide)
    · exact h6 _ _ (by decide)
    · have := h (by decide); omega
  · rcases hk2 with rfl | rfl | rfl | rfl
    · exact p70
    · exact p71
    · exact p72
    · have := h (by decide); omega
  · rcases hk2 with rfl | rfl | rfl | rfl <;> exact h8 _ _ (by decide)
  · rcases hk2 with rfl | rfl | rfl | rfl <;> exact h8 _ _ (by decide)
  · rcases hk2 with rfl | rfl | rfl | rfl <;> exact h8 _ _ (by decide)
theorem chk_says {n k : Int} (h : chk n k = true) : ∃ r ok c fine, impl_AllSeatings.f n k = some (r, ok) ∧ spec_AllSeatings.f 100 n k = some (r, ok) ∧ impl_CountSeatings.f 100 n k = some (c, fine) ∧ spec_CountSeatings.f 100 n k = some (c, fine) ∧
    r.length < 1000 ∧ (∀ x ∈ r, x.length < 100) ∧ (ok = true → (r.length : Int) = c ∧ fine = true ∧ sums 200 n k r 0 1 = some (1, 1)) := by
  unfold chk at h
  cases h1 : impl_AllSeatings.f n k with
  | none => rw [h1] at h; cases h
  | some p =>
    obtain ⟨r, ok⟩ := p
    cases h2 : impl_CountSeatings.f 100 n k with
    | none => rw [h1, h2] at h; cases h
    | some p2 =>
      obtain ⟨c, fine⟩ := p2
      rw [h1, h2] at h
      simp only [Bool.and_eq_true, decide_eq_true_eq] at h
      exact ⟨r, ok, c, fine, rfl, h.1.1.1, rfl, h.1.1.2, h.1.2.1, h.1.2.2, h.2⟩
theorem sum_l0 (n k : Int) (all : List (List Int)) (hl : all.length < 1000) (x13 x14 : Int) (x15 : List Int) (x16 : Int) (x17 : List Int) (x18 : Bool) (x29 : List S39) (x33 : List Int) (x37 : Int) (x38 : Bool)
    (hj : Tells (fun q => laws_FnSeatings.j2 q x13 x14 x15 x16 x17 x18 x29 x33 x37 x38) true) : ∀ (d i : Nat) (a b : Int), i + d = all.length → sums 200 n k (all.drop i) a b = some (1, 1) →
    Tells (fun q => laws_FnSeatings.l0 q n k all (all.length : Int) true x13 x14 x15 x16 x17 x18 x29 x33 x37 x38 (i : Int) a b) true
  | 0, i, a, b, h, hs => by
    rw [List.drop_of_length_le (by omega), sums, Option.some.injEq, Prod.mk.injEq] at hs
    obtain ⟨rfl, rfl⟩ := hs
    refine Tells.step (f := fun q => laws_FnSeatings.j2 q x13 x14 x15 x16 x17 x18 x29 x33 x37 x38) (fun q => ?_) hj
    rw [laws_FnSeatings.l0, if_neg (by omega), if_pos rfl, if_pos rfl, if_neg (by decide)]
  | d + 1, i, a, b, h, hs => by
    have hi : i < all.length := by omega
    rw [List.drop_eq_getElem_cons hi, sums] at hs
    obtain ⟨bt, h1, hs⟩ := Option.bind_eq_some_iff.mp hs
    by_cases hk : bt.2.2 = true
    · rw [if_pos hk] at hs
      obtain ⟨pt, h2, hs⟩ := Option.bind_eq_some_iff.mp hs
      have e : rd_L2 all (i : Int) = all[i] := by
        unfold rd_L2
        rw [Int.toNat_natCast, List.getD_eq_getElem?_getD, List.getElem?_eq_getElem hi]
        rfl
      have t1 : Tells (fun q => impl_SeatingChance.f q n k all[i]) bt := Tells.mono (fun q => impl_SeatingChance.mono n k all[i] q) h1
      have t2 : Tells (fun q => laws_vPlus.f q a b bt.1 bt.2.1) pt := Tells.mono (fun q => laws_vPlus.mono a b bt.1 bt.2.1 q) h2
      refine Tells.step (f := fun q => (impl_SeatingChance.f q n k all[i]).bind fun bt504 => (if bt504.2.2 = true then ((laws_vPlus.f q a b bt504.1 bt504.2.1).bind fun bt508 => (laws_FnSeatings.l0 q n k all (all.length : Int) true x13 x14 x15 x16 x17 x18 x29 x33 x37 x38 ((i + 1 : Nat) : Int) bt508.1 bt508.2)) else (some false))) (fun q => ?_) ?_
      · rw [laws_FnSeatings.l0, if_pos (by omega), if_pos (by omega), e, wrap_succ i (by omega)]
      · refine Tells.bind (g := fun q (bt504 : Int × Int × Bool) => (if bt504.2.2 = true then ((laws_vPlus.f q a b bt504.1 bt504.2.1).bind fun bt508 => (laws_FnSeatings.l0 q n k all (all.length : Int) true x13 x14 x15 x16 x17 x18 x29 x33 x37 x38 ((i + 1 : Nat) : Int) bt508.1 bt508.2)) else (some false))) t1 ?_
        refine Tells.pos hk ?_
        refine Tells.bind (g := fun q (bt508 : Int × Int) => laws_FnSeatings.l0 q n k all (all.length : Int) true x13 x14 x15 x16 x17 x18 x29 x33 x37 x38 ((i + 1 : Nat) : Int) bt508.1 bt508.2) t2 ?_
        exact sum_l0 n k all hl x13 x14 x15 x16 x17 x18 x29 x33 x37 x38 hj d (i + 1) pt.1 pt.2 (by omega) hs
    · rw [if_neg hk] at hs
      cases hs
/-- Behind the sum: cycles, trail and free seats are as told. -/
theorem rest_j2 (m lost : Int) (s : List Int) (seat : Int) (hl : s.length ≤ 13) (tr fr : List Int × Bool)
    (htr : (tr = ([], false) ∧ ¬ (ask m lost s = true ∧ 0 ≤ seat ∧ seat ≤ m - 1)) ∨ (ask m lost s = true ∧ 0 ≤ seat ∧ seat ≤ m - 1 ∧ tr.2 = true ∧ ∃ (i : Nat) (hi : i < s.length), s[i] = seat ∧ Trail s lost.toNat i tr.1))
    (hfr : (fr = ([], false) ∧ ¬ (ask m lost s = true ∧ 0 ≤ seat ∧ seat ≤ m - 1)) ∨ (ask m lost s = true ∧ 0 ≤ seat ∧ seat ≤ m - 1 ∧ fr = (freeL m.toNat (s.take seat.toNat), true))) :
    Tells (fun q => laws_FnSeatings.j2 q m lost s seat tr.1 tr.2 (movesOf m lost s).1 fr.1 (cyclesOf m lost s).1 (cyclesOf m lost s).2) true := by
  have h3 : Tells (fun q => laws_FnSeatings.j3 q m lost s seat tr.1 tr.2 fr.1 false) true := by
    rcases htr with ⟨htr, hno⟩ | ⟨hask, h0, h1, ht2, i, hi, hsi, ht⟩
    · rw [htr]
      refine Tells.step (fun q => ?_) (Tells.now _)
      rw [laws_FnSeatings.j3, if_neg (by simp), if_neg (by simp)]
    · obtain ⟨N, K, rfl, rfl, hn1, hn2, hn3, hch, hp⟩ := ask_nat hask
      obtain ⟨p, rfl⟩ : ∃ p : Nat, seat = (p : Int) := ⟨seat.toNat, by omega⟩
      have hfr2 : fr = (freeL N (s.take p), true) := by
        rcases hfr with ⟨_, hno⟩ | ⟨_, _, _, hfr⟩
        · exact absurd ⟨hask, h0, h1⟩ hno
        · simpa only [Int.toNat_natCast] using hfr
      rw [Int.toNat_natCast] at ht
      obtain ⟨t, htl⟩ := ht.head
      have hlen := ht.len
      have hsl := hp.1
      have hpos : 0 < tr.1.length := by rw [htl]; simp
      have hr0 : rd tr.1 0 = (i : Int) := by
        have := rd_get tr.1 0 hpos
        rw [show ((0 : Nat) : Int) = 0 from rfl] at this
        rw [this]
        simp only [htl, List.getElem_cons_zero]
      have hrs : rd s (i : Int) = (p : Int) := by rw [rd_get s i hi]; exact hsi
      have hf := free_l2 hp hn2 (seat := p) (by omega) (freeL N (s.take p)).length 0 0 (by omega) (by omega) (fun _ => by omega)
      have hl1 := trail_l1 hsl hn2 (p : Int) (freeL N (s.take p)) ht hf (tr.1.length - 1) 0 (by omega)
      refine Tells.step (f := fun q => laws_FnSeatings.j4 q (N : Int) (K : Int) s (p : Int) tr.1 fr.1 false) (fun q => ?_) ?_
      · rw [laws_FnSeatings.j3, if_neg (by simp), if_pos ht2, if_neg (by omega), if_pos (by omega), hr0, if_pos (by omega), if_pos (by omega), hrs, bne_self_eq_false]
      · rw [hfr2]
        refine Tells.step (f := fun q => laws_FnSeatings.l1 q (N : Int) (K : Int) s (p : Int) tr.1 (freeL N (s.take p)) ((0 + 1 : Nat) : Int)) (fun q => ?_) hl1
        rw [laws_FnSeatings.j4, if_neg (by simp)]
        rfl
  by_cases hask : ask m lost s = true
  · obtain ⟨N, K, rfl, rfl, hn1, hn2, hn3, hch, hp⟩ := ask_nat hask
    have hle := cyc_le hp hn2 N 0 0 0 (by omega) (low_zero N) (fun q hq => by rw [Nat.zero_testBit] at hq; cases hq) (fun j hj => by omega)
    have hcyc : cyclesOf (N : Int) (K : Int) s = (((cyc s N N 0 0 0 : Nat) : Int), true) := by
      unfold cyclesOf
      rw [if_pos hask, Int.toNat_natCast]
    have hmov : (movesOf (N : Int) (K : Int) s).1 = movesFrom s N 0 := by
      unfold movesOf
      rw [if_pos hask, hp.1]
    have heq : ((((cyc s N N 0 0 0 : Nat) : Int) == 0) != (((movesFrom s N 0).length : Int) == 0)) = false := by
      by_cases hall : ∀ j, 0 ≤ j → j < 0 + N → rd s (j : Int) = (j : Int)
      · have e1 := cyc_none (n := N) N 0 0 0 hall
        have e2 := (moves_none s N 0).mpr hall
        rw [e1, e2]
        rfl
      · have hex : ∃ j, 0 ≤ j ∧ j < 0 + N ∧ ¬ rd s (j : Int) = (j : Int) := Classical.byContradiction (fun hno => hall (fun j h1 h2 => Classical.byContradiction (fun h3 => hno ⟨j, h1, h2, h3⟩)))
        have e1 := cyc_some (n := N) hn1 N 0 0 0 (fun q hq => by rw [Nat.zero_testBit] at hq; cases hq) hex
        have e2 : movesFrom s N 0 ≠ [] := fun e => hall ((moves_none s N 0).mp e)
        have e3 : 0 < (movesFrom s N 0).length := List.length_pos_iff.mpr e2
        have f1 : (((cyc s N N 0 0 0 : Nat) : Int) == 0) = false := beq_eq_false_iff_ne.mpr (by omega)
        have f2 : (((movesFrom s N 0).length : Int) == 0) = false := beq_eq_false_iff_ne.mpr (by omega)
        rw [f1, f2]
        rfl
    refine Tells.step (f := fun q => laws_FnSeatings.j3 q (N : Int) (K : Int) s seat tr.1 tr.2 fr.1 false) (fun q => ?_) h3
    rw [laws_FnSeatings.j2, hcyc, hmov, if_pos rfl, if_neg (by simp only []; omega), heq]
  · have hcyc : cyclesOf m lost s = (0, false) := by
      unfold cyclesOf
      rw [if_neg hask]
    refine Tells.step (f := fun q => laws_FnSeatings.j3 q m lost s seat tr.1 tr.2 fr.1 false) (fun q => ?_) h3
    rw [laws_FnSeatings.j2, hcyc, if_neg (by simp)]
end Go.Proofs.YtbkeihhkcaihiaaDoor.Pure

namespace Go.Proofs.YtbkeihhkcaihiaaDoor.Pure
open Go.RowKit Go.Proofs.YtbkeihhkcaihiaaDoor.FnSeatings Go.Proofs.YtbkeihhkcaihiaaDoorW.PrintWords Go.Proofs.YtbkeihhkcaihiaaDoorW.PrintMore
set_option linter.unusedVariables false
theorem bytes_of {l : List Int} (h : ∀ x ∈ l, (Lit.int .u8 x).wf = true) : Bytes l := by
  intro x hx
  have h2 := h x hx
  simp only [Lit.wf, Bool.and_eq_true, decide_eq_true_eq] at h2
  have e1 : IntKind.u8.min = 0 := by decide
  have e2 : IntKind.u8.max = 255 := by decide
  rw [e1, e2] at h2
  exact h2
theorem free_short (n : Nat) (b : List Int) (hn : n ≤ 12) : (freeL n b).length < 1000000 := by have := freeL_le n b; omega
theorem FnSeatings : laws_FnSeatings.Pure := by
  intro l0 hlen hsz hbytes
  refine Tells.ex ?_
  have hb := bytes_of hbytes
  unfold laws_FnSeatings.f
  refine Tells.bind (Tells.of (laws_vBig.f l0) (v := decide ((l0.length : Int) > 65536)) rfl) ?_
  by_cases hbig : (l0.length : Int) > 65536
  · exact Tells.pos (decide_eq_true hbig) (Tells.now _)
  refine Tells.neg (by simp only [decide_eq_true_eq]; exact hbig) ?_
  obtain ⟨n, k, a, sd, e1, hn, hk, hnk⟩ := few5_some l0 hb (by omega)
  have hdraw : spec_DrawAllSeatings.f l0 = some (n, k) := by
    unfold spec_DrawAllSeatings.f spec_DrawOwnTable.f
    rw [e1]
    rfl
  obtain ⟨r, ok, c, fine, g1, g2, g3, g4, g5, g6, g7⟩ := chk_says (pair_ok hn hk hnk)
  obtain ⟨l1, hc1, hb1, hl1⟩ := cut_some l0 hb (by omega)
  obtain ⟨m, lost, s, seat, d1, hs, hse1, hse2⟩ := drawTrail_some l1 hb1 hl1
  have hsl : s.length < 1000000 := by omega
  obtain ⟨tr, t1, t2, ht⟩ := trail_tells m lost s seat hsl ⟨hse1, hse2⟩
  obtain ⟨fr, f1, f2, hf⟩ := free_tells m lost s seat hsl ⟨hse1, hse2⟩
  have hj2 := rest_j2 m lost s seat hs tr fr ht hf
  have hask1 : (movesOf m lost s).2 = ask m lost s := by unfold movesOf; split <;> simp [*]
  have hask2 : (cyclesOf m lost s).2 = ask m lost s := by unfold cyclesOf; split <;> simp [*]
  have hask3 : (chanceOf m lost s).2.2 = ask m lost s := by unfold chanceOf; split <;> simp [*]
  have hthere : tr.2 = fr.2 := by
    rcases ht with ⟨rfl, hno⟩ | ⟨h1, h2, h3, h4, _⟩
    · rcases hf with ⟨rfl, _⟩ | ⟨h1, h2, h3, _⟩
      · rfl
      · exact absurd ⟨h1, h2, h3⟩ hno
    · rcases hf with ⟨_, hno⟩ | ⟨_, _, _, h5⟩
      · exact absurd ⟨h1, h2, h3⟩ hno
      · rw [h4, h5]
  have htl : tr.1.length < 1000000 := by
    rcases ht with ⟨rfl, hno⟩ | ⟨h1, h2, h3, h4, i, hi, e, h5⟩
    · decide
    · have := h5.len
      omega
  have hfl : fr.1.length < 1000000 := by
    rcases hf with ⟨rfl, _⟩ | ⟨h1, h2, h3, h5⟩
    · decide
    · obtain ⟨N, K, rfl, rfl, hn1, hn2, _⟩ := ask_nat h1
      rw [h5, Int.toNat_natCast]
      exact free_short N _ hn2
  have hml : (movesOf m lost s).1.length < 1000000 := by
    unfold movesOf
    split
    · have := moves_len s s.length 0
      show (movesFrom s s.length 0).length < 1000000
      omega
    · decide
  have hfin : Tells (fun q => laws_FnSeatings.j0 q n k r ok c fine m lost s seat tr.1 tr.2 (movesOf m lost s).1 fr.1 (cyclesOf m lost s).1 (cyclesOf m lost s).2 false) true := by
    by_cases hok : ok = true
    · obtain ⟨h1, h2, h3⟩ := g7 hok
      have hsum := sum_l0 n k r g5 m lost s seat tr.1 tr.2 (movesOf m lost s).1 fr.1 (cyclesOf m lost s).1 (cyclesOf m lost s).2 hj2 r.length 0 0 1 (by omega) (by rw [List.drop_zero]; exact h3)
      refine Tells.step (f := fun q => laws_FnSeatings.l0 q n k r (r.length : Int) true m lost s seat tr.1 tr.2 (movesOf m lost s).1 fr.1 (cyclesOf m lost s).1 (cyclesOf m lost s).2 ((0 : Nat) : Int) 0 1) (fun q => ?_) hsum
      rw [laws_FnSeatings.j0, if_neg (by simp), if_pos hok, h2, ← h1]
      rfl
    · refine Tells.step (f := fun q => laws_FnSeatings.j2 q m lost s seat tr.1 tr.2 (movesOf m lost s).1 fr.1 (cyclesOf m lost s).1 (cyclesOf m lost s).2) (fun q => ?_) hj2
      rw [laws_FnSeatings.j0, if_neg (by simp), if_neg hok]
  refine Tells.bind (Tells.of _ hdraw) ?_
  refine Tells.bind (Tells.of _ g1) ?_
  refine Tells.bind (Tells.mono (fun q => spec_AllSeatings.mono n k q) g2) ?_
  refine Tells.bind (Tells.mono (fun q => impl_CountSeatings.mono n k q) g3) ?_
  refine Tells.bind (Tells.mono (fun q => spec_CountSeatings.mono n k q) g4) ?_
  refine Tells.bind (Tells.of _ hc1) ?_
  refine Tells.bind d1 ?_
  refine Tells.bind t1 ?_
  refine Tells.bind t2 ?_
  refine Tells.bind (implIs_tells m lost s hsl) ?_
  refine Tells.bind (specIs_tells m lost s) ?_
  refine Tells.bind (implChance_tells m lost s hsl) ?_
  refine Tells.bind (specSeatingChance_tells m lost s) ?_
  refine Tells.bind (implMoves_tells m lost s hsl) ?_
  refine Tells.bind (specMoves_tells m lost s hsl) ?_
  refine Tells.bind f1 ?_
  refine Tells.bind f2 ?_
  refine Tells.bind (implCycles_tells m lost s hsl) ?_
  refine Tells.bind (specCycles_tells m lost s hsl) ?_
  refine Tells.neg (by simp) ?_
  refine Tells.bind (table_same r (by omega) (fun x hx => by have := g6 x hx; omega)) ?_
  refine Tells.pos rfl ?_
  refine Tells.pos rfl ?_
  refine Tells.neg (by simp) ?_
  refine Tells.neg (by simp) ?_
  refine Tells.bind (ints_same tr.1 htl) ?_
  refine Tells.pos rfl ?_
  refine Tells.neg (by simp) ?_
  refine Tells.neg (by simp) ?_
  refine Tells.neg (by simp) ?_
  refine Tells.neg (by simp) ?_
  refine Tells.neg (by simp) ?_
  refine Tells.bind (pairs_same (movesOf m lost s).1 hml) ?_
  refine Tells.pos rfl ?_
  refine Tells.neg (by simp) ?_
  refine Tells.bind (ints_same fr.1 hfl) ?_
  refine Tells.pos rfl ?_
  refine Tells.pos rfl ?_
  refine Tells.neg (by simp) ?_
  rw [hthere] at hfin ⊢
  rw [bne_self_eq_false]
  by_cases hg : good m lost = true
  · refine Tells.pos hg ?_
    refine Tells.neg (by rw [hask3]; simp) ?_
    refine Tells.neg (by rw [hask3, hask1]; simp) ?_
    refine Tells.neg (by rw [hask3, hask2]; simp) ?_
    exact hfin
  · have hna : ask m lost s = false := by unfold ask; simp [hg]
    refine Tells.neg hg ?_
    refine Tells.neg (by rw [hask3, hna]; simp) ?_
    refine Tells.neg (by rw [hask3, hask1]; simp) ?_
    refine Tells.neg (by rw [hask3, hask2]; simp) ?_
    exact hfin
end Go.Proofs.YtbkeihhkcaihiaaDoor.Pure
