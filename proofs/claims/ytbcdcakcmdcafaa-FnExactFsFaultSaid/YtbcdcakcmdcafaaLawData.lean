/- What is proved: nothing: weights and marks of the data types. No condition. -/
import Derived.Test.YtbcdcakcmdcafaaMText
namespace Go.Proofs.Ytbcdcakcmdcafaa
set_option linter.unusedVariables false
def wt_DEnt (x : DEnt) : Nat := x.name.size + 0
def cnt_DEnt (x : DEnt) : Nat := 1 + 1
def mark_DEnt (n : Int) (x : DEnt) : DEnt := ⟨(mtext n), (n + 1)⟩
def vcnt_DEnt (x : DEnt) : Nat := 0 + 0
def vmark_DEnt (n : Int) (x : DEnt) : DEnt := ⟨x.name, x.ino⟩
def wt_DInode (x : DInode) : Nat := 0 + 0 + 0 + x.blocks.length + (x.ents.length + sumF wt_DEnt x.ents)
def cnt_DInode (x : DInode) : Nat := 1 + 1 + 1 + x.blocks.length + (sumF cnt_DEnt x.ents)
def mark_DInode (n : Int) (x : DInode) : DInode := ⟨n, (n + 1), (n + 1 + 1), ((markL (fun _ => 1) (fun m _ => m)) (n + 1 + 1 + 1) x.blocks), ((markL cnt_DEnt mark_DEnt) (n + 1 + 1 + 1 + (x.blocks.length : Int)) x.ents)⟩
def vcnt_DInode (x : DInode) : Nat := 0 + 0 + 0 + x.blocks.length + (sumF cnt_DEnt x.ents)
def vmark_DInode (n : Int) (x : DInode) : DInode := ⟨x.kind, x.links, x.size, ((markL (fun _ => 1) (fun m _ => m)) n x.blocks), ((markL cnt_DEnt mark_DEnt) (n + (x.blocks.length : Int)) x.ents)⟩
def wt_DFs (x : DFs) : Nat := (x.inodes.length + sumF wt_DInode x.inodes) + (x.data.length + sumF (fun x => x.length) x.data)
def cnt_DFs (x : DFs) : Nat := (sumF cnt_DInode x.inodes) + (sumF (fun x => x.length) x.data)
def mark_DFs (n : Int) (x : DFs) : DFs := ⟨((markL cnt_DInode mark_DInode) n x.inodes), ((markL (fun x => x.length) (markL (fun _ => 1) (fun m _ => mbyte m))) (n + ((sumF cnt_DInode x.inodes) : Int)) x.data)⟩
def vcnt_DFs (x : DFs) : Nat := (sumF cnt_DInode x.inodes) + (sumF (fun x => x.length) x.data)
def vmark_DFs (n : Int) (x : DFs) : DFs := ⟨((markL cnt_DInode mark_DInode) n x.inodes), ((markL (fun x => x.length) (markL (fun _ => 1) (fun m _ => mbyte m))) (n + ((sumF cnt_DInode x.inodes) : Int)) x.data)⟩
def wt_RInt (x : RInt) : Nat := 0 + 0
def cnt_RInt (x : RInt) : Nat := 1 + 1
def mark_RInt (n : Int) (x : RInt) : RInt := ⟨n, (n + 1)⟩
def vcnt_RInt (x : RInt) : Nat := 0 + 0
def vmark_RInt (n : Int) (x : RInt) : RInt := ⟨x.code, x.val⟩
def wt_RInts (x : RInts) : Nat := 0 + x.list.length
def cnt_RInts (x : RInts) : Nat := 1 + x.list.length
def mark_RInts (n : Int) (x : RInts) : RInts := ⟨n, ((markL (fun _ => 1) (fun m _ => m)) (n + 1) x.list)⟩
def vcnt_RInts (x : RInts) : Nat := 0 + x.list.length
def vmark_RInts (n : Int) (x : RInts) : RInts := ⟨x.code, ((markL (fun _ => 1) (fun m _ => m)) n x.list)⟩
def wt_RNames (x : RNames) : Nat := 0 + (x.names.length + sumF (fun x => x.size) x.names)
def cnt_RNames (x : RNames) : Nat := 1 + x.names.length
def mark_RNames (n : Int) (x : RNames) : RNames := ⟨n, ((markL (fun _ => 1) (fun m _ => mtext m)) (n + 1) x.names)⟩
def vcnt_RNames (x : RNames) : Nat := 0 + x.names.length
def vmark_RNames (n : Int) (x : RNames) : RNames := ⟨x.code, ((markL (fun _ => 1) (fun m _ => mtext m)) n x.names)⟩
end Go.Proofs.Ytbcdcakcmdcafaa
