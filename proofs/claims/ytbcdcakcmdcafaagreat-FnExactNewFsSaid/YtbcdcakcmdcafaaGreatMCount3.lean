/- What is proved: how much there is to mark, of trees. No condition. -/
import Derived.Test.YtbcdcakcmdcafaaGreatMCount2
import Derived.Test.YtbcdcakcmdcafaaGreatMReach
namespace Go.Proofs.YtbcdcakcmdcafaaGreat
set_option linter.unusedVariables false
set_option linter.unusedSimpArgs false
theorem fs_cnt_wt (f : DFs) : vcnt_DFs f ≤ 3 * wt_DFs f := by
  have h := inodes_cnt_wt f.inodes
  unfold vcnt_DFs wt_DFs
  omega
theorem reachR_cnt (f : DFs) : vcnt_RInts (reachR f) ≤ 40 := by
  unfold vcnt_RInts reachR
  split
  · rename_i h
    have h1 := inodes_10 (treeI h)
    have h2 : (reachL f.inodes 0).length ≤ f.inodes.length := placesTo_len
    simp only; omega
  · simp
theorem entsAt_6 {f : DFs} (h : inodesFault f.inodes = 0) (a : Int) : (entsAt f.inodes a).length ≤ 6 := by
  unfold entsAt
  cases hx : f.inodes[a.toNat]? with
  | none => simp
  | some x => exact ents_6 (inodes_all h x (List.mem_of_getElem? hx))
theorem namesR_cnt (f : DFs) (a : Int) : vcnt_RNames (namesR f a) ≤ 40 := by
  unfold vcnt_RNames namesR
  split
  · rename_i h
    have h2 := entsAt_6 (treeI (dirOk h).1) a
    simp only [namesOf, List.length_map]; omega
  · simp
end Go.Proofs.YtbcdcakcmdcafaaGreat
