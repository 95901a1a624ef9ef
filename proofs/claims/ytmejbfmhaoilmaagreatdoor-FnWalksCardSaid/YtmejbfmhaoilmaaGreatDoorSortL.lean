/- What is proved: the library's contracts of Sort and Compact at this program, as the kit's tools lay them; told of one's own slice. No condition. -/
import Derived.Shelf.Strings.Builder1
import Derived.Shelf.Strings.Builder2
import Derived.Shelf.Small.Bits
import Derived.Shelf.Utf8.RuneCount
import Derived.Shelf.Strconv.Itoa0
import Derived.Shelf.Strings.Search1
import Derived.Shelf.Strings.Search2
import Derived.Shelf.Strings.Search3
import Derived.Shelf.Strings.Count
import Derived.Shelf.LaysM
import Derived.Shelf.Strings.Shaped
import Derived.Shelf.Strings.Split
import Derived.Shelf.Strings.SplitShaped
import Derived.Shelf.Unicode.Decode
import Derived.Shelf.Strings.RuneCount
import Derived.Shelf.Strings.Explode
import Derived.Shelf.Unicode.DecodeSlow
import Derived.Shelf.Unicode.DecodeAny
import Derived.Ground.SlgnProg
import Derived.Shelf.SlicesG.Turned
import Derived.Shelf.SlicesG.Clone
import Derived.Shelf.SlicesG.CompactI
import Derived.Shelf.SlicesG.SearchI
import Derived.Shelf.SlicesE.Clone
import Derived.Ground.SlgmProg
import Derived.Shelf.SortM.Plain
import Derived.Shelf.SortM.SortNone
import Derived.Test.YtmejbfmhaoilmaaGreatDoorProg
import Derived.Test.YtmejbfmhaoilmaaGreatDoorBase1
import Derived.Test.YtmejbfmhaoilmaaGreatDoorPart0
namespace Go.Proofs
open Go.Shelf
def Tryz.m:Go.Shelf.Ren:=⟨fun | 43=>93 | n=>n,fun | 22=>43 | 23=>2 | 3=>3 | 4=>4 | 0=>0 | n=>n,fun | n=>n⟩
theorem Tryz.i : Go.Proofs.SlLaysN.n43 Tryz.prog Tryz.m := {
  mixed:=by kernel_rfl
  f43:=⟨Tryz.f93.name,by decide,Tryz.func93.trans (congrArg some (by kernel_rfl))⟩
  t0:=Tryz.underlying0
  a0:=Tryz.isAgg0
  z0:=Tryz.sizeOf0
  v0:=Tryz.zeroValue0
  t3:=Tryz.underlying3
  a3:=Tryz.isAgg3
  z3:=Tryz.sizeOf3
  v3:=Tryz.zeroValue3
  t4:=Tryz.underlying4
  a4:=Tryz.isAgg4
  z4:=Tryz.sizeOf4
  v4:=Tryz.zeroValue4
  t22:=Tryz.underlying43
  a22:=Tryz.isAgg43
  z22:=Tryz.sizeOf43
  v22:=Tryz.zeroValue43
  t23:=Tryz.underlying2
  a23:=Tryz.isAgg2
  z23:=Tryz.sizeOf2
  v23:=Tryz.zeroValue2
  i23:=by kernel_rfl}
open Go.RowKit Go.Lib Go.Sort in
theorem Tryz.slices_Compact_int (blk off cap:Nat) (zs:List Int) (w:World) (hH:Holds (Value.int .i64) w blk off zs.toArray) (hsz:zs.length≤9223372036854775807) (hcap:zs.length≤cap):
    Calls Tryz.prog 93 #[.slice (some ⟨blk,off,none⟩) zs.length cap] w fun e w'=>e= .returned (.slice (some ⟨blk,off,none⟩) (Lib.compact zs).length cap)∧∃q,w'=putRow (Value.int .i64) (Sort.ahead w q) blk off (Lib.compact zs++List.replicate (zs.length - (Lib.compact zs).length) 0).toArray:=AnyG.slices_Compact_int Tryz.i blk off cap zs w hH hsz hcap
open Go.RowKit Go.Lib Go.Sort in
theorem Tryz.slices_Compact_int_empty (a:Option Addr) (cap:Nat) (w:World):
    Calls Tryz.prog 93 #[.slice a 0 cap] w fun e w'=>e= .returned (.slice a 0 cap)∧w'=w:=AnyG.slices_Compact_int_empty Tryz.i a cap w
def Tryz.ac:Go.Shelf.Ren:=⟨fun | 5=>92 | 8=>122 | 7=>121 | 19=>152 | 20=>153 | 10=>143 | 11=>144 | 12=>145 | 13=>146 | 14=>147 | 15=>148 | 16=>149 | 17=>150 | 18=>151 | 30=>172 | 31=>173 | 32=>174 | 33=>175 | 34=>176 | 35=>177 | 40=>185 | n=>n,fun | 23=>43 | 25=>2 | 3=>3 | 32=>148 | 22=>43 | 0=>0 | 44=>183 | 46=>185 | 4=>4 | 36=>175 | 35=>174 | 41=>180 | 5=>5 | 9=>9 | 53=>195 | 57=>199 | 63=>213 | 64=>214 | n=>n,fun | n=>n⟩
theorem Tryz.g : Go.Proofs.SlLaysM.n5 Tryz.prog Tryz.ac := {
  mixed:=by kernel_rfl
  f5:=⟨Tryz.f92.name,by decide,Tryz.func92.trans (congrArg some (by kernel_rfl))⟩
  f7:=⟨Tryz.f121.name,by decide,Tryz.func121.trans (congrArg some (by kernel_rfl))⟩
  f8:=Tryz.func122.trans (congrArg some (by kernel_rfl))
  f10:=⟨Tryz.f143.name,by decide,Tryz.func143.trans (congrArg some (by kernel_rfl))⟩
  f11:=⟨Tryz.f144.name,by decide,Tryz.func144.trans (congrArg some (by kernel_rfl))⟩
  f12:=⟨Tryz.f145.name,by decide,Tryz.func145.trans (congrArg some (by kernel_rfl))⟩
  f13:=⟨Tryz.f146.name,by decide,Tryz.func146.trans (congrArg some (by kernel_rfl))⟩
  f14:=⟨Tryz.f147.name,by decide,Tryz.func147.trans (congrArg some (by kernel_rfl))⟩
  f15:=⟨Tryz.f148.name,by decide,Tryz.func148.trans (congrArg some (by kernel_rfl))⟩
  f16:=⟨Tryz.f149.name,by decide,Tryz.func149.trans (congrArg some (by kernel_rfl))⟩
  f17:=⟨Tryz.f150.name,by decide,Tryz.func150.trans (congrArg some (by kernel_rfl))⟩
  f18:=⟨Tryz.f151.name,by decide,Tryz.func151.trans (congrArg some (by kernel_rfl))⟩
  f19:=Tryz.func152.trans (congrArg some (by kernel_rfl))
  f20:=Tryz.func153.trans (congrArg some (by kernel_rfl))
  f30:=⟨Tryz.f172.name,by decide,Tryz.func172.trans (congrArg some (by kernel_rfl))⟩
  f31:=Tryz.func173.trans (congrArg some (by kernel_rfl))
  f32:=Tryz.func174.trans (congrArg some (by kernel_rfl))
  f33:=⟨Tryz.f175.name,by decide,Tryz.func175.trans (congrArg some (by kernel_rfl))⟩
  f34:=⟨Tryz.f176.name,by decide,Tryz.func176.trans (congrArg some (by kernel_rfl))⟩
  f35:=⟨Tryz.f177.name,by decide,Tryz.func177.trans (congrArg some (by kernel_rfl))⟩
  f40:=⟨Tryz.f185.name,by decide,Tryz.func185.trans (congrArg some (by kernel_rfl))⟩
  t0:=Tryz.underlying0
  a0:=Tryz.isAgg0
  z0:=Tryz.sizeOf0
  v0:=Tryz.zeroValue0
  t3:=Tryz.underlying3
  a3:=Tryz.isAgg3
  z3:=Tryz.sizeOf3
  v3:=Tryz.zeroValue3
  t4:=Tryz.underlying4
  a4:=Tryz.isAgg4
  z4:=Tryz.sizeOf4
  v4:=Tryz.zeroValue4
  t5:=Tryz.underlying5
  a5:=Tryz.isAgg5
  z5:=Tryz.sizeOf5
  v5:=Tryz.zeroValue5
  t9:=Tryz.underlying9
  a9:=Tryz.isAgg9
  z9:=Tryz.sizeOf9
  v9:=Tryz.zeroValue9
  t22:=Tryz.underlying43
  a22:=Tryz.isAgg43
  z22:=Tryz.sizeOf43
  v22:=Tryz.zeroValue43
  t23:=Tryz.underlying43
  a23:=Tryz.isAgg43
  z23:=Tryz.sizeOf43
  v23:=Tryz.zeroValue43
  t25:=Tryz.underlying2
  a25:=Tryz.isAgg2
  z25:=Tryz.sizeOf2
  v25:=Tryz.zeroValue2
  t32:=Tryz.underlying148
  a32:=Tryz.isAgg148
  z32:=Tryz.sizeOf148
  v32:=Tryz.zeroValue148
  t35:=Tryz.underlying174
  a35:=Tryz.isAgg174
  z35:=Tryz.sizeOf174
  v35:=Tryz.zeroValue174
  t36:=Tryz.underlying175
  a36:=Tryz.isAgg175
  z36:=Tryz.sizeOf175
  v36:=Tryz.zeroValue175
  t41:=Tryz.underlying180
  a41:=Tryz.isAgg180
  z41:=Tryz.sizeOf180
  v41:=Tryz.zeroValue180
  t44:=Tryz.underlying183
  a44:=Tryz.isAgg183
  z44:=Tryz.sizeOf183
  v44:=Tryz.zeroValue183
  t46:=Tryz.underlying185
  a46:=Tryz.isAgg185
  z46:=Tryz.sizeOf185
  v46:=Tryz.zeroValue185
  t53:=Tryz.underlying195
  a53:=Tryz.isAgg195
  z53:=Tryz.sizeOf195
  v53:=Tryz.zeroValue195
  t57:=Tryz.underlying199
  a57:=Tryz.isAgg199
  z57:=Tryz.sizeOf199
  v57:=Tryz.zeroValue199
  t63:=Tryz.underlying213
  a63:=Tryz.isAgg213
  z63:=Tryz.sizeOf213
  v63:=Tryz.zeroValue213
  t64:=Tryz.underlying214
  a64:=Tryz.isAgg214
  z64:=Tryz.sizeOf214
  v64:=Tryz.zeroValue214}
open Go.Sort Go.RowKit in
theorem Tryz.slices_Sort_int (blk off cap:Nat) (zs:List Int) (w:World) (hH:Holds (Value.int .i64) w blk off zs.toArray) (hblk:blk<w.heap.size) (hsz:zs.length<4611686018427387904):
    Calls Tryz.prog 92 #[.slice (some ⟨blk,off,none⟩) zs.length cap] w fun e w'=>
      e= .returned (.tuple #[])∧∃n os,w'=grow (putRow (Value.int .i64) (Sort.ahead w n) blk off (zs.mergeSort fun x y=>decide (x≤y)).toArray) os:=AnyM.slices_Sort_int Tryz.g blk off cap zs w hH hblk hsz
open Go.RowKit Go.Sort in
theorem Tryz.slices_Sort_int_none (p:Option Addr) (cap:Nat) (w:World):
    Calls Tryz.prog 92 #[.slice p 0 cap] w fun e w'=>e= .returned (.tuple #[])∧w'=w:=AnyM.slices_Sort_int_none Tryz.g p cap w
end Go.Proofs
namespace Go.Proofs.YtmejbfmhaoilmaaGreatDoor
open Go Go.RowKit
theorem aOk {w0:World}{S0:Bs}{zs:List Int}{v0:Value} (hs:cI [aH bK zs [v0]] w0 S0):Calls Tryz.prog 92 #[v0] w0 (aI w0 S0 (fun r l=>r= .tuple #[]∧l= [aH bK (kW zs) [v0]])):=
  aG8 (fun blk off cap zs w h1 h2 h3=>Tryz.slices_Sort_int blk off cap zs w h1 h2 h3) (fun p cap w=>Tryz.slices_Sort_int_none p cap w) (by decide) hs
theorem aOi {w0:World}{S0:Bs}{zs:List Int}{v0:Value} (hs:cI [aH bK zs [v0]] w0 S0):Calls Tryz.prog 93 #[v0] w0 (aI w0 S0 (fun r l=>∃z:Option Addr×Nat,r= .slice z.1 (Lib.compact zs).length z.2∧l= [])):=
  aBw (fun blk off cap zs w h1 h2 h3=>Tryz.slices_Compact_int blk off cap zs w h1 h2 h3) (fun p cap w=>Tryz.slices_Compact_int_empty p cap w) hs
end Go.Proofs.YtmejbfmhaoilmaaGreatDoor
