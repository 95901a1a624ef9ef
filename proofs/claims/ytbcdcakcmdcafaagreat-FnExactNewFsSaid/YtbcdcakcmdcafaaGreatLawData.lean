/- What is proved: nothing: weights and marks of the data types. No condition. -/
import Derived.Test.YtbcdcakcmdcafaaGreatMText
namespace Go.Proofs.YtbcdcakcmdcafaaGreat
set_option linter.unusedVariables false
def wt_DEnt (x : DEnt) : Nat := x.name.size + 0
def cnt_DEnt (x : DEnt) : Nat := 1 + 1
def mark_DEnt (n : Int) (x : DEnt) : DEnt := ⟨(mtext n), (n + 1)⟩
def vcnt_DEnt (x : DEnt) : Nat := 0 + 0
def vmark_DEnt (n : Int) (x : DEnt) : DEnt := ⟨x.name, x.ino⟩
def wt_DInode (x : DInode) : Nat := 0 + 0 + 0 + x.blocks.length + (x.ents.length + sumF wt_DEnt x.ents)
def cnt_DInode (x : DInode) : Nat := 1 + 1 + 1 + x.blocks.length + (sumF cnt_DEnt x.ents)
def mark_DInode (n : Int) (x : DInode) : DInode := ⟨n, (n + 1), (n + 1 + 1), ((markL (fun _ => 1) (fun m _ => m)) (n + 1 + 1 + 1) x.blocks), ((markL cnt_DEnt mark_DEnt) (n + 1 + 1 + 1 + (x.blocks.length : Int)) x.ents)⟩
def vcnt_DInode (x : DInode) : Nat := 0 + 0 + 0 + x.blocks.length + (sumF cnt_DEnt x.ents)
def vmark_DInode (n : Int) (x : DInode) : DInode := ⟨x.kind, x.links, x.size, ((markL (fun _ => 1) (fun m _ => m)) n x.blocks), ((markL cnt_DEnt mark_DEnt) (n + (x.blocks.length : Int)) x.ents)⟩
def wt_DFs (x : DFs) : Nat := (x.inodes.length + sumF wt_DInode x.inodes) + (x.data.length + sumF (fun x => x.length) x.data)
def cnt_DFs (x : DFs) : Nat := (sumF cnt_DInode x.inodes) + (sumF (fun x => x.length) x.data)
def mark_DFs (n : Int) (x : DFs) : DFs := ⟨((markL cnt_DInode mark_DInode) n x.inodes), ((markL (fun x => x.length) (markL (fun _ => 1) (fun m _ => mbyte m))) (n + ((sumF cnt_DInode x.inodes) : Int)) x.data)⟩
def vcnt_DFs (x : DFs) : Nat := (sumF cnt_DInode x.inodes) + (sumF (fun x => x.length) x.data)
def vmark_DFs (n : Int) (x : DFs) : DFs := ⟨((markL cnt_DInode mark_DInode) n x.inodes), ((markL (fun x => x.length) (markL (fun _ => 1) (fun m _ => mbyte m))) (n + ((sumF cnt_DInode x.inodes) : Int)) x.data)⟩
def wt_RFs (x : RFs) : Nat := 0 + (wt_DFs x.fs)
def cnt_RFs (x : RFs) : Nat := 1 + (cnt_DFs x.fs)
def mark_RFs (n : Int) (x : RFs) : RFs := ⟨n, (mark_DFs (n + 1) x.fs)⟩
def vcnt_RFs (x : RFs) : Nat := 0 + (vcnt_DFs x.fs)
def vmark_RFs (n : Int) (x : RFs) : RFs := ⟨x.code, (vmark_DFs n x.fs)⟩
def wt_RBytes (x : RBytes) : Nat := 0 + x.bytes.length
def cnt_RBytes (x : RBytes) : Nat := 1 + x.bytes.length
def mark_RBytes (n : Int) (x : RBytes) : RBytes := ⟨n, ((markL (fun _ => 1) (fun m _ => mbyte m)) (n + 1) x.bytes)⟩
def vcnt_RBytes (x : RBytes) : Nat := 0 + x.bytes.length
def vmark_RBytes (n : Int) (x : RBytes) : RBytes := ⟨x.code, ((markL (fun _ => 1) (fun m _ => mbyte m)) n x.bytes)⟩
def wt_RInts (x : RInts) : Nat := 0 + x.list.length
def cnt_RInts (x : RInts) : Nat := 1 + x.list.length
def mark_RInts (n : Int) (x : RInts) : RInts := ⟨n, ((markL (fun _ => 1) (fun m _ => m)) (n + 1) x.list)⟩
def vcnt_RInts (x : RInts) : Nat := 0 + x.list.length
def vmark_RInts (n : Int) (x : RInts) : RInts := ⟨x.code, ((markL (fun _ => 1) (fun m _ => m)) n x.list)⟩
def wt_DSrc (x : DSrc) : Nat := x.code.length + 0
def cnt_DSrc (x : DSrc) : Nat := x.code.length + 1
def mark_DSrc (n : Int) (x : DSrc) : DSrc := ⟨((markL (fun _ => 1) (fun m _ => mbyte m)) n x.code), (n + (x.code.length : Int))⟩
def vcnt_DSrc (x : DSrc) : Nat := x.code.length + 0
def vmark_DSrc (n : Int) (x : DSrc) : DSrc := ⟨((markL (fun _ => 1) (fun m _ => mbyte m)) n x.code), x.at_⟩
def wt_RStat (x : RStat) : Nat := 0 + 0 + 0 + 0 + 0
def cnt_RStat (x : RStat) : Nat := 1 + 1 + 1 + 1 + 1
def mark_RStat (n : Int) (x : RStat) : RStat := ⟨n, (n + 1), (n + 1 + 1), (n + 1 + 1 + 1), (n + 1 + 1 + 1 + 1)⟩
def vcnt_RStat (x : RStat) : Nat := 0 + 0 + 0 + 0 + 0
def vmark_RStat (n : Int) (x : RStat) : RStat := ⟨x.code, x.inode, x.kind, x.links, x.size⟩
def wt_RNames (x : RNames) : Nat := 0 + (x.names.length + sumF (fun x => x.size) x.names)
def cnt_RNames (x : RNames) : Nat := 1 + x.names.length
def mark_RNames (n : Int) (x : RNames) : RNames := ⟨n, ((markL (fun _ => 1) (fun m _ => mtext m)) (n + 1) x.names)⟩
def vcnt_RNames (x : RNames) : Nat := 0 + x.names.length
def vmark_RNames (n : Int) (x : RNames) : RNames := ⟨x.code, ((markL (fun _ => 1) (fun m _ => mtext m)) n x.names)⟩
end Go.Proofs.YtbcdcakcmdcafaaGreat
