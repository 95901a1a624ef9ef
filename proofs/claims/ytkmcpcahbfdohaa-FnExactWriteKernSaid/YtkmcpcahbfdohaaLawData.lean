/- What is proved: nothing: weights and marks of the data types. No condition. -/
import Derived.Test.YtkmcpcahbfdohaaMText
namespace Go.Proofs.Ytkmcpcahbfdohaa
set_option linter.unusedVariables false
def wt_DPut (x : DPut) : Nat := 0 + x.words.length
def cnt_DPut (x : DPut) : Nat := 1 + x.words.length
def mark_DPut (n : Int) (x : DPut) : DPut := ⟨n, ((markL (fun _ => 1) (fun m _ => m)) (n + 1) x.words)⟩
def vcnt_DPut (x : DPut) : Nat := 0 + x.words.length
def vmark_DPut (n : Int) (x : DPut) : DPut := ⟨x.at_, ((markL (fun _ => 1) (fun m _ => m)) n x.words)⟩
def wt_DDisk (x : DDisk) : Nat := (x.blocks.length + sumF (fun x => x.length) x.blocks) + (x.cache.length + sumF wt_DPut x.cache)
def cnt_DDisk (x : DDisk) : Nat := (sumF (fun x => x.length) x.blocks) + (sumF cnt_DPut x.cache)
def mark_DDisk (n : Int) (x : DDisk) : DDisk := ⟨((markL (fun x => x.length) (markL (fun _ => 1) (fun m _ => m))) n x.blocks), ((markL cnt_DPut mark_DPut) (n + ((sumF (fun x => x.length) x.blocks) : Int)) x.cache)⟩
def vcnt_DDisk (x : DDisk) : Nat := (sumF (fun x => x.length) x.blocks) + (sumF cnt_DPut x.cache)
def vmark_DDisk (n : Int) (x : DDisk) : DDisk := ⟨((markL (fun x => x.length) (markL (fun _ => 1) (fun m _ => m))) n x.blocks), ((markL cnt_DPut mark_DPut) (n + ((sumF (fun x => x.length) x.blocks) : Int)) x.cache)⟩
def wt_RDisk (x : RDisk) : Nat := 0 + (wt_DDisk x.disk)
def cnt_RDisk (x : RDisk) : Nat := 1 + (cnt_DDisk x.disk)
def mark_RDisk (n : Int) (x : RDisk) : RDisk := ⟨n, (mark_DDisk (n + 1) x.disk)⟩
def vcnt_RDisk (x : RDisk) : Nat := 0 + (vcnt_DDisk x.disk)
def vmark_RDisk (n : Int) (x : RDisk) : RDisk := ⟨x.code, (vmark_DDisk n x.disk)⟩
def wt_DExt (x : DExt) : Nat := 0 + 0 + 0
def cnt_DExt (x : DExt) : Nat := 1 + 1 + 1
def mark_DExt (n : Int) (x : DExt) : DExt := ⟨n, (n + 1), (n + 1 + 1)⟩
def vcnt_DExt (x : DExt) : Nat := 0 + 0 + 0
def vmark_DExt (n : Int) (x : DExt) : DExt := ⟨x.frm, x.cnt, x.key⟩
def wt_DKern (x : DKern) : Nat := (wt_DDisk x.disk) + x.exts.length
def cnt_DKern (x : DKern) : Nat := (cnt_DDisk x.disk) + (sumF cnt_DExt x.exts)
def mark_DKern (n : Int) (x : DKern) : DKern := ⟨(mark_DDisk n x.disk), ((markL cnt_DExt mark_DExt) (n + ((cnt_DDisk x.disk) : Int)) x.exts)⟩
def vcnt_DKern (x : DKern) : Nat := (vcnt_DDisk x.disk) + (sumF cnt_DExt x.exts)
def vmark_DKern (n : Int) (x : DKern) : DKern := ⟨(vmark_DDisk n x.disk), ((markL cnt_DExt mark_DExt) (n + ((vcnt_DDisk x.disk) : Int)) x.exts)⟩
def wt_RKern (x : RKern) : Nat := 0 + x.words.length + (wt_DKern x.kern)
def cnt_RKern (x : RKern) : Nat := 1 + x.words.length + (cnt_DKern x.kern)
def mark_RKern (n : Int) (x : RKern) : RKern := ⟨n, ((markL (fun _ => 1) (fun m _ => m)) (n + 1) x.words), (mark_DKern (n + 1 + (x.words.length : Int)) x.kern)⟩
def vcnt_RKern (x : RKern) : Nat := 0 + x.words.length + (vcnt_DKern x.kern)
def vmark_RKern (n : Int) (x : RKern) : RKern := ⟨x.code, ((markL (fun _ => 1) (fun m _ => m)) n x.words), (vmark_DKern (n + (x.words.length : Int)) x.kern)⟩
def wt_RInts (x : RInts) : Nat := 0 + x.list.length
def cnt_RInts (x : RInts) : Nat := 1 + x.list.length
def mark_RInts (n : Int) (x : RInts) : RInts := ⟨n, ((markL (fun _ => 1) (fun m _ => m)) (n + 1) x.list)⟩
def vcnt_RInts (x : RInts) : Nat := 0 + x.list.length
def vmark_RInts (n : Int) (x : RInts) : RInts := ⟨x.code, ((markL (fun _ => 1) (fun m _ => m)) n x.list)⟩
def wt_RInt (x : RInt) : Nat := 0 + 0
def cnt_RInt (x : RInt) : Nat := 1 + 1
def mark_RInt (n : Int) (x : RInt) : RInt := ⟨n, (n + 1)⟩
def vcnt_RInt (x : RInt) : Nat := 0 + 0
def vmark_RInt (n : Int) (x : RInt) : RInt := ⟨x.code, x.val⟩
def wt_DSrc (x : DSrc) : Nat := x.code.length + 0
def cnt_DSrc (x : DSrc) : Nat := x.code.length + 1
def mark_DSrc (n : Int) (x : DSrc) : DSrc := ⟨((markL (fun _ => 1) (fun m _ => mbyte m)) n x.code), (n + (x.code.length : Int))⟩
def vcnt_DSrc (x : DSrc) : Nat := x.code.length + 0
def vmark_DSrc (n : Int) (x : DSrc) : DSrc := ⟨((markL (fun _ => 1) (fun m _ => mbyte m)) n x.code), x.at_⟩
end Go.Proofs.Ytkmcpcahbfdohaa
