/- What is proved: the library's contracts of Sort and Compact at this program, as the kit's tools lay them; told of one's own slice. No condition. -/
import Derived.Ground.SlgnProg
import Derived.Shelf.SlicesG.CompactI
import Derived.Ground.SlgmProg
import Derived.Shelf.SortM.Plain
import Derived.Shelf.SortM.SortNone
import Derived.Test.YtmejbfmhaoilmaaGreatProg
import Derived.Test.YtmejbfmhaoilmaaGreatBase1
import Derived.Test.YtmejbfmhaoilmaaGreatTypes
namespace Go.Proofs
open Go.Shelf
def Tryz.h:Go.Shelf.Ren:=⟨fun | 43=>139 | n=>n,fun | 22=>36 | 23=>2 | 3=>3 | 4=>4 | 0=>0 | n=>n,fun | n=>n⟩
theorem Tryz.g : Go.Proofs.SlLaysN.n43 Tryz.prog Tryz.h := {
  mixed:=by kernel_rfl
  f43:=⟨Tryz.f139.name,by decide,Tryz.func139.trans (congrArg some (by kernel_rfl))⟩
  t0:=Tryz.underlying0
  a0:=Tryz.isAgg0
  z0:=Tryz.sizeOf0
  v0:=Tryz.zeroValue0
  t3:=Tryz.underlying3
  a3:=Tryz.isAgg3
  z3:=Tryz.sizeOf3
  v3:=Tryz.zeroValue3
  t4:=Tryz.underlying4
  a4:=Tryz.isAgg4
  z4:=Tryz.sizeOf4
  v4:=Tryz.zeroValue4
  t22:=Tryz.underlying36
  a22:=Tryz.isAgg36
  z22:=Tryz.sizeOf36
  v22:=Tryz.zeroValue36
  t23:=Tryz.underlying2
  a23:=Tryz.isAgg2
  z23:=Tryz.sizeOf2
  v23:=Tryz.zeroValue2
  i23:=by kernel_rfl}
open Go.RowKit Go.Lib Go.Sort in
theorem Tryz.slices_Compact_int (blk off cap:Nat) (zs:List Int) (w:World) (hH:Holds (Value.int .i64) w blk off zs.toArray) (hsz:zs.length≤9223372036854775807) (hcap:zs.length≤cap):
    Calls Tryz.prog 139 #[.slice (some ⟨blk,off,none⟩) zs.length cap] w fun e w'=>e= .returned (.slice (some ⟨blk,off,none⟩) (Lib.compact zs).length cap)∧∃q,w'=putRow (Value.int .i64) (Sort.ahead w q) blk off (Lib.compact zs++List.replicate (zs.length - (Lib.compact zs).length) 0).toArray:=AnyG.slices_Compact_int Tryz.g blk off cap zs w hH hsz hcap
open Go.RowKit Go.Lib Go.Sort in
theorem Tryz.slices_Compact_int_empty (a:Option Addr) (cap:Nat) (w:World):
    Calls Tryz.prog 139 #[.slice a 0 cap] w fun e w'=>e= .returned (.slice a 0 cap)∧w'=w:=AnyG.slices_Compact_int_empty Tryz.g a cap w
def Tryz.i:Go.Shelf.Ren:=⟨fun | 5=>138 | 8=>165 | 7=>164 | 19=>191 | 20=>192 | 10=>182 | 11=>183 | 12=>184 | 13=>185 | 14=>186 | 15=>187 | 16=>188 | 17=>189 | 18=>190 | 30=>198 | 31=>199 | 32=>200 | 33=>201 | 34=>202 | 35=>203 | 40=>208 | n=>n,fun | 23=>36 | 25=>2 | 3=>3 | 32=>176 | 22=>36 | 0=>0 | 44=>203 | 46=>205 | 4=>4 | 36=>195 | 35=>194 | 41=>200 | 5=>5 | 9=>9 | 53=>212 | 57=>216 | 63=>221 | 64=>222 | n=>n,fun | n=>n⟩
theorem Tryz.a : Go.Proofs.SlLaysM.n5 Tryz.prog Tryz.i := {
  mixed:=by kernel_rfl
  f5:=⟨Tryz.f138.name,by decide,Tryz.func138.trans (congrArg some (by kernel_rfl))⟩
  f7:=⟨Tryz.f164.name,by decide,Tryz.func164.trans (congrArg some (by kernel_rfl))⟩
  f8:=Tryz.func165.trans (congrArg some (by kernel_rfl))
  f10:=⟨Tryz.f182.name,by decide,Tryz.func182.trans (congrArg some (by kernel_rfl))⟩
  f11:=⟨Tryz.f183.name,by decide,Tryz.func183.trans (congrArg some (by kernel_rfl))⟩
  f12:=⟨Tryz.f184.name,by decide,Tryz.func184.trans (congrArg some (by kernel_rfl))⟩
  f13:=⟨Tryz.f185.name,by decide,Tryz.func185.trans (congrArg some (by kernel_rfl))⟩
  f14:=⟨Tryz.f186.name,by decide,Tryz.func186.trans (congrArg some (by kernel_rfl))⟩
  f15:=⟨Tryz.f187.name,by decide,Tryz.func187.trans (congrArg some (by kernel_rfl))⟩
  f16:=⟨Tryz.f188.name,by decide,Tryz.func188.trans (congrArg some (by kernel_rfl))⟩
  f17:=⟨Tryz.f189.name,by decide,Tryz.func189.trans (congrArg some (by kernel_rfl))⟩
  f18:=⟨Tryz.f190.name,by decide,Tryz.func190.trans (congrArg some (by kernel_rfl))⟩
  f19:=Tryz.func191.trans (congrArg some (by kernel_rfl))
  f20:=Tryz.func192.trans (congrArg some (by kernel_rfl))
  f30:=⟨Tryz.f198.name,by decide,Tryz.func198.trans (congrArg some (by kernel_rfl))⟩
  f31:=Tryz.func199.trans (congrArg some (by kernel_rfl))
  f32:=Tryz.func200.trans (congrArg some (by kernel_rfl))
  f33:=⟨Tryz.f201.name,by decide,Tryz.func201.trans (congrArg some (by kernel_rfl))⟩
  f34:=⟨Tryz.f202.name,by decide,Tryz.func202.trans (congrArg some (by kernel_rfl))⟩
  f35:=⟨Tryz.f203.name,by decide,Tryz.func203.trans (congrArg some (by kernel_rfl))⟩
  f40:=⟨Tryz.f208.name,by decide,Tryz.func208.trans (congrArg some (by kernel_rfl))⟩
  t0:=Tryz.underlying0
  a0:=Tryz.isAgg0
  z0:=Tryz.sizeOf0
  v0:=Tryz.zeroValue0
  t3:=Tryz.underlying3
  a3:=Tryz.isAgg3
  z3:=Tryz.sizeOf3
  v3:=Tryz.zeroValue3
  t4:=Tryz.underlying4
  a4:=Tryz.isAgg4
  z4:=Tryz.sizeOf4
  v4:=Tryz.zeroValue4
  t5:=Tryz.underlying5
  a5:=Tryz.isAgg5
  z5:=Tryz.sizeOf5
  v5:=Tryz.zeroValue5
  t9:=Tryz.underlying9
  a9:=Tryz.isAgg9
  z9:=Tryz.sizeOf9
  v9:=Tryz.zeroValue9
  t22:=Tryz.underlying36
  a22:=Tryz.isAgg36
  z22:=Tryz.sizeOf36
  v22:=Tryz.zeroValue36
  t23:=Tryz.underlying36
  a23:=Tryz.isAgg36
  z23:=Tryz.sizeOf36
  v23:=Tryz.zeroValue36
  t25:=Tryz.underlying2
  a25:=Tryz.isAgg2
  z25:=Tryz.sizeOf2
  v25:=Tryz.zeroValue2
  t32:=Tryz.underlying176
  a32:=Tryz.isAgg176
  z32:=Tryz.sizeOf176
  v32:=Tryz.zeroValue176
  t35:=Tryz.underlying194
  a35:=Tryz.isAgg194
  z35:=Tryz.sizeOf194
  v35:=Tryz.zeroValue194
  t36:=Tryz.underlying195
  a36:=Tryz.isAgg195
  z36:=Tryz.sizeOf195
  v36:=Tryz.zeroValue195
  t41:=Tryz.underlying200
  a41:=Tryz.isAgg200
  z41:=Tryz.sizeOf200
  v41:=Tryz.zeroValue200
  t44:=Tryz.underlying203
  a44:=Tryz.isAgg203
  z44:=Tryz.sizeOf203
  v44:=Tryz.zeroValue203
  t46:=Tryz.underlying205
  a46:=Tryz.isAgg205
  z46:=Tryz.sizeOf205
  v46:=Tryz.zeroValue205
  t53:=Tryz.underlying212
  a53:=Tryz.isAgg212
  z53:=Tryz.sizeOf212
  v53:=Tryz.zeroValue212
  t57:=Tryz.underlying216
  a57:=Tryz.isAgg216
  z57:=Tryz.sizeOf216
  v57:=Tryz.zeroValue216
  t63:=Tryz.underlying221
  a63:=Tryz.isAgg221
  z63:=Tryz.sizeOf221
  v63:=Tryz.zeroValue221
  t64:=Tryz.underlying222
  a64:=Tryz.isAgg222
  z64:=Tryz.sizeOf222
  v64:=Tryz.zeroValue222}
open Go.Sort Go.RowKit in
theorem Tryz.slices_Sort_int (blk off cap:Nat) (zs:List Int) (w:World) (hH:Holds (Value.int .i64) w blk off zs.toArray) (hblk:blk<w.heap.size) (hsz:zs.length<4611686018427387904):
    Calls Tryz.prog 138 #[.slice (some ⟨blk,off,none⟩) zs.length cap] w fun e w'=>
      e= .returned (.tuple #[])∧∃n os,w'=grow (putRow (Value.int .i64) (Sort.ahead w n) blk off (zs.mergeSort fun x y=>decide (x≤y)).toArray) os:=AnyM.slices_Sort_int Tryz.a blk off cap zs w hH hblk hsz
open Go.RowKit Go.Sort in
theorem Tryz.slices_Sort_int_none (p:Option Addr) (cap:Nat) (w:World):
    Calls Tryz.prog 138 #[.slice p 0 cap] w fun e w'=>e= .returned (.tuple #[])∧w'=w:=AnyM.slices_Sort_int_none Tryz.a p cap w
end Go.Proofs
namespace Go.Proofs.YtmejbfmhaoilmaaGreat
open Go Go.RowKit
theorem aLl {w0:World}{S0:Bs}{zs:List Int}{v0:Value} (hs:cB [aG bY zs [v0]] w0 S0):Calls Tryz.prog 138 #[v0] w0 (aJ w0 S0 (fun r l=>r= .tuple #[]∧l= [aG bY (kV zs) [v0]])):=
  aIh (fun blk off cap zs w h1 h2 h3=>Tryz.slices_Sort_int blk off cap zs w h1 h2 h3) (fun p cap w=>Tryz.slices_Sort_int_none p cap w) (by decide) hs
theorem aMm {w0:World}{S0:Bs}{zs:List Int}{v0:Value} (hs:cB [aG bY zs [v0]] w0 S0):Calls Tryz.prog 139 #[v0] w0 (aJ w0 S0 (fun r l=>∃z:Option Addr×Nat,r= .slice z.1 (Lib.compact zs).length z.2∧l= [])):=
  aCp (fun blk off cap zs w h1 h2 h3=>Tryz.slices_Compact_int blk off cap zs w h1 h2 h3) (fun p cap w=>Tryz.slices_Compact_int_empty p cap w) hs
end Go.Proofs.YtmejbfmhaoilmaaGreat
