/- What is proved: the law FnExactNameFault returns true for every string. No condition. -/
import Derived.Test.YtaopaoeokjpdkaaPFnExactNameFaultx1
namespace Go.Proofs.Ytaopaoeokjpdkaa.Pure
open Go.RowKit Go.Proofs.Ytaopaoeokjpdkaa.PFnExactNameFault Go.Proofs.YtaopaoeokjpdkaaW.PrintWords Go.Proofs.YtaopaoeokjpdkaaW.PrintLast

theorem same (s : ByteArray) (hs : ¬ s.toList = ([] : List UInt8)) (k : Nat) : ∀ i : Int, spec_NameFault.l0 k s i = impl_nameFault.l0 k s (s.size : Int) i := by
  induction k with
  | zero => intro i; rfl
  | succ k ih =>
    intro i
    simp only [spec_NameFault.l0, impl_nameFault.l0, ih]
    by_cases h : i < (s.size : Int)
    · simp only [if_pos h]
    · simp only [if_neg h, if_neg hs]

theorem tells (s : ByteArray) (hn : s.size ≤ 140737488351232) (d : Nat) : ∀ (k : Nat) (i : Int), 0 ≤ i → i ≤ s.size → (s.size : Int) - i = d → d < k →
    ∃ r, spec_NameFault.l0 k s i = some r := by
  induction d with
  | zero =>
    intro k i h0 h1 hd hk
    obtain ⟨k, rfl⟩ : ∃ m, k = m + 1 := ⟨k - 1, by omega⟩
    simp only [spec_NameFault.l0]; rw [if_neg (by omega)]
    repeat (first | exact ⟨_, rfl⟩ | split)
  | succ d ih =>
    intro k i h0 h1 hd hk
    obtain ⟨k, rfl⟩ : ∃ m, k = m + 1 := ⟨k - 1, by omega⟩
    have hlt : i < (s.size : Int) := by omega
    have hw : wrap64 (i + 1) = i + 1 := by unfold wrap64; omega
    simp only [spec_NameFault.l0]; rw [if_pos hlt, if_pos h0, hw]
    obtain ⟨r, hr⟩ := ih k (i + 1) (by omega) (by omega) (by omega) (by omega)
    rw [hr]
    repeat (first | exact ⟨_, rfl⟩ | split)

theorem FnExactNameFault : laws_FnExactNameFault.Pure := by
  intro s hn
  refine ⟨s.size + 1, ?_⟩
  unfold laws_FnExactNameFault.f spec_NameFault.f impl_NameFault.f impl_nameFault.f
  by_cases hs : s.toList = ([] : List UInt8)
  · rw [if_pos hs]
    have h0 : ¬ (0 : Int) < (s.size : Int) := by
      have h1 : s.toList.length = s.size := by rw [Go.ByteArray.toList_eq]; rfl
      rw [hs] at h1; simp at h1; omega
    have : spec_NameFault.l0 (s.size + 1) s 0 = some 5 := by
      simp only [spec_NameFault.l0]; rw [if_neg h0, if_pos hs]
    rw [this]
    split <;> simp
  · rw [if_neg hs, ← same s hs]
    obtain ⟨r, hr⟩ := tells s hn s.size (s.size + 1) 0 (by omega) (by omega) (by omega) (by omega)
    rw [hr]
    split <;> simp

end Go.Proofs.Ytaopaoeokjpdkaa.Pure
