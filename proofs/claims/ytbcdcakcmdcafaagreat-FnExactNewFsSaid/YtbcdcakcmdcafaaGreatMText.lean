/- What is proved: marks as texts and bytes. No condition. -/
import Derived.Test.YtbcdcakcmdcafaaGreatMLaw
import Derived.Test.YtbcdcakcmdcafaaGreatRows3
import Derived.Laws.BytesArg
namespace Go.Proofs.YtbcdcakcmdcafaaGreat
open Go Go.RowKit
set_option linter.unusedVariables false
def mbyte (n : Int) : UInt8 := UInt8.ofNat (n % 256).toNat
theorem mbyte_wrap (n : Int) : IntKind.u8.wrap n = ((mbyte n).toNat : Int) := by
  rw [IntKind.wrap_u8]
  unfold mbyte
  rw [UInt8.toNat_ofNat']
  omega
theorem byte_eq {a b : UInt8} (h : (a.toNat : Int) = (b.toNat : Int)) : a = b := UInt8.toNat_inj.1 (Int.ofNat.inj h)
def bstr (xs : List UInt8) : ByteArray := ⟨xs.toArray⟩
theorem bstr_size (xs : List UInt8) : (bstr xs).size = xs.length := by simp [bstr, ByteArray.size]
/-- The digits of a number ahead of a text, 'm' ahead of all. -/
def mfin (k : Nat) (out : ByteArray) : ByteArray :=
  if h : k = 0 then bstr [109] ++ out else mfin (k / 10) (bstr [mbyte ((48 + k % 10 : Nat) : Int)] ++ out)
termination_by k
decreasing_by omega
theorem mfin_0 (out : ByteArray) : mfin 0 out = bstr [109] ++ out := by rw [mfin]; simp
theorem mfin_s {k : Nat} (out : ByteArray) (h : 0 < k) : mfin k out = mfin (k / 10) (bstr [mbyte ((48 + k % 10 : Nat) : Int)] ++ out) := by rw [mfin, dif_neg (by omega)]
theorem mfin_size : ∀ (d k : Nat) (out : ByteArray), k < 10 ^ d → (mfin k out).size ≤ 1 + d + out.size
  | 0, k, out, h => by
    have : k = 0 := by simpa using h
    subst this
    rw [mfin_0, ByteArray.size_append, bstr_size]
    simp
  | d + 1, k, out, h => by
    by_cases hk : k = 0
    · subst hk
      rw [mfin_0, ByteArray.size_append, bstr_size]
      simp
    · rw [mfin_s out (by omega)]
      have := mfin_size d (k / 10) (bstr [mbyte ((48 + k % 10 : Nat) : Int)] ++ out) (by rw [Nat.pow_succ] at h; omega)
      rw [ByteArray.size_append, bstr_size] at this
      simp only [List.length_cons, List.length_nil] at this
      omega
theorem mfin_d {k d : Nat} (h : 0 < k) (hd : k < 10 ^ d) : k / 10 < 10 ^ (d - 1) := by
  cases d with
  | zero => simp at hd; omega
  | succ d => rw [Nat.pow_succ] at hd; simp only [Nat.add_sub_cancel]; omega
theorem mfin_o {k d n : Nat} {o : ByteArray} (h : 0 < k) (hd : k < 10 ^ d) (ho : o.size + d ≤ n) {b : UInt8} : (bstr [b] ++ o).size + (d - 1) ≤ n := by
  rw [ByteArray.size_append, bstr_size]
  cases d with
  | zero => simp at hd; omega
  | succ d => simp only [List.length_cons, List.length_nil]; omega
def mtext (n : Int) : ByteArray := if n ≤ 0 then bstr [109, 48] else mfin n.toNat ⟨#[]⟩
theorem mtext_size {n : Int} (h : n ≤ 4611686018427387905) : (mtext n).size ≤ 140737488351232 := by
  unfold mtext
  split
  · rw [bstr_size]; simp
  · have := mfin_size 19 n.toNat ⟨#[]⟩ (by omega)
    have e : (⟨#[]⟩ : ByteArray).size = 0 := rfl
    omega
end Go.Proofs.YtbcdcakcmdcafaaGreat
