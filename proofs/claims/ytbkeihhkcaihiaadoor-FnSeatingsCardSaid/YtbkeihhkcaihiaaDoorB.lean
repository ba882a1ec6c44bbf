/- What stands beside the printed texts: the library's table in its variable (TabT), and the numbers that the library's bit functions compute. -/
import Derived.Below
import Derived.Deep.Draws
import Derived.Lib.TrailingZeros
import Derived.Laws.Bits64b
import Derived.Test.YtbkeihhkcaihiaaDoorV
namespace Go.Proofs
open Go.RowKit Go.Proofs.YtbkeihhkcaihiaaDoorW.PrintWords
/-- The library's table stands in its variable. -/
structure TabT (w : World) : Prop where mk :: (out : ∀ j, j < 32 → w.cell? ⟨0, j, none⟩ = some (.int .u8 (Lib.deBruijn32tab.getD j 0)))
theorem TabT.below {w W : World} (h : TabT w) (hb : Below w.heap.size w W) : TabT W := ⟨fun j hj => pw_cell_below hb (h.out j hj)⟩
theorem TabT.drewN {w : World} (h : TabT w) (n : Nat) : TabT (w.drewN n) := ⟨fun j hj => h.out j hj⟩
theorem TabT.drew {w : World} (h : TabT w) : TabT w.drew := ⟨fun j hj => h.out j hj⟩

/-- How many bits of the lowest f bits of x are set. -/
def popc : Nat → Nat → Nat
  | 0, _ => 0
  | f + 1, x => x % 2 + popc f (x / 2)
theorem popc_add (a b x : Nat) : popc (a + b) x = popc a x + popc b (x / 2 ^ a) := by
  induction a generalizing x with
  | zero => simp [popc]
  | succ a ih =>
    rw [Nat.add_right_comm a 1 b]
    simp only [popc]
    rw [ih, Nat.div_div_eq_div_mul, Nat.pow_succ, Nat.mul_comm (2 ^ a) 2]
    omega
theorem popc_mod (a x : Nat) : popc a (x % 2 ^ a) = popc a x := by
  induction a generalizing x with
  | zero => rfl
  | succ a ih =>
    simp only [popc]
    have e1 : x % 2 ^ (a + 1) % 2 = x % 2 := Nat.mod_mod_of_dvd _ (by rw [Nat.pow_succ]; exact Nat.dvd_mul_left _ _)
    have e2 : x % 2 ^ (a + 1) / 2 = x / 2 % 2 ^ a := by
      rw [Nat.pow_succ, Nat.mul_comm, Nat.mod_mul_right_div_self]
    rw [e1, e2, ih]
theorem popc_32 (x : Nat) : popc 32 x = popc 8 (x / 16777216 % 256) + popc 8 (x / 65536 % 256) + popc 8 (x / 256 % 256) + popc 8 (x % 256) := by
  have h8 : ∀ y, popc 8 (y % 256) = popc 8 y := fun y => popc_mod 8 y
  have h1 := popc_add 8 24 x
  have h2 := popc_add 8 16 (x / 256)
  have h3 := popc_add 8 8 (x / 65536)
  simp only [show (8 + 24) = 32 from rfl, show (8 + 16) = 24 from rfl, show (8 + 8) = 16 from rfl, show 2 ^ 8 = 256 from rfl, Nat.div_div_eq_div_mul] at h1 h2 h3
  rw [h8, h8, h8, h8, h1, h2]
  simp only [show 256 * 256 = 65536 from rfl] at *
  rw [h3]
  simp only [show 65536 * 256 = 16777216 from rfl]
  omega
theorem popc_le (f x : Nat) : popc f x ≤ f := by
  induction f generalizing x with
  | zero => simp [popc]
  | succ f ih => simp only [popc]; have := ih (x / 2); omega

theorem wrap_u32n (n : Int) : IntKind.u32.wrap n = n % 4294967296 := by simp [IntKind.wrap, IntKind.signed, IntKind.bits]
theorem ofInt_u32 (a : Nat) (ha : a < 4294967296) : (BitVec.ofInt 32 (a : Int)).toNat = a := by
  rw [BitVec.ofInt_natCast, BitVec.toNat_ofNat]; exact Nat.mod_eq_of_lt (by omega)
theorem u32_and (a b : Nat) (ha : a < 4294967296) (hb : b < 4294967296) : Go.bits .and .u32 (a : Int) (b : Int) = ((a &&& b : Nat) : Int) := by
  have hx : a &&& b < 2 ^ 32 := Nat.and_lt_two_pow _ (by omega)
  show IntKind.u32.wrap ((BitVec.ofInt 32 (a : Int) &&& BitVec.ofInt 32 (b : Int)).toNat : Int) = _
  rw [BitVec.toNat_and, ofInt_u32 a ha, ofInt_u32 b hb, wrap_u32n]
  omega
theorem u32_or (a b : Nat) (ha : a < 4294967296) (hb : b < 4294967296) : Go.bits .or .u32 (a : Int) (b : Int) = ((a ||| b : Nat) : Int) := by
  have hx : a ||| b < 2 ^ 32 := Nat.or_lt_two_pow (by omega) (by omega)
  show IntKind.u32.wrap ((BitVec.ofInt 32 (a : Int) ||| BitVec.ofInt 32 (b : Int)).toNat : Int) = _
  rw [BitVec.toNat_or, ofInt_u32 a ha, ofInt_u32 b hb, wrap_u32n]
  omega
theorem tz32_keyn (x a : Nat) (hx : x < 4294967296) (hx0 : x ≠ 0) (hlow : x &&& (4294967296 - x) = a) :
    Go.bits .and .u32 (x : Int) (-(x : Int) % 4294967296) * 125613361 % 4294967296 / 134217728 = ((a * 125613361 % 4294967296 / 134217728 : Nat) : Int) := by
  have e1 : -(x : Int) % 4294967296 = ((4294967296 - x : Nat) : Int) := by omega
  rw [e1, u32_and x _ hx (by omega), hlow]
  omega
end Go.Proofs
