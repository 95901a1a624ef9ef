/- What is proved: the library's contracts on strings at this program, as the kit's tools lay them; told of our kinds. No condition. -/
import Derived.Shelf.Strings.Builder1
import Derived.Shelf.Strings.Builder2
import Derived.Shelf.Strings.OnBuilder
import Derived.Shelf.Small.Bits
import Derived.Shelf.Strings.BuilderF
import Derived.Shelf.Strings.BuilderK
import Derived.Shelf.Utf8.RuneCount
import Derived.Shelf.Strings.Builder2Cap
import Derived.Shelf.Strconv.Itoa0
import Derived.Shelf.Strings.Search1
import Derived.Shelf.Strings.Search2
import Derived.Shelf.Strings.Search3
import Derived.Shelf.Strings.Count
import Derived.Shelf.LaysM
import Derived.Shelf.Strings.Shaped
import Derived.Shelf.Strings.Prefix
import Derived.Shelf.Strings.Split
import Derived.Shelf.Strings.SplitShaped
import Derived.Shelf.Unicode.Decode
import Derived.Shelf.Strings.RuneCount
import Derived.Shelf.Strings.Explode
import Derived.Shelf.Unicode.DecodeSlow
import Derived.Shelf.Unicode.DecodeAny
import Derived.Shelf.Strings.BuilderCap
import Derived.Ground.SlgnProg
import Derived.Shelf.SlicesG.Turned
import Derived.Shelf.SlicesG.Clone
import Derived.Shelf.SlicesG.CompactI
import Derived.Shelf.SlicesG.SearchI
import Derived.Shelf.SlicesE.Clone
import Derived.Ground.SlgmProg
import Derived.Shelf.SortM.Plain
import Derived.Shelf.SortM.SortNone
import Derived.Test.YtmejbfmhaoilmaaGreatDoorProg
import Derived.Test.YtmejbfmhaoilmaaGreatDoorBase2
import Derived.Test.YtmejbfmhaoilmaaGreatDoorPart0
namespace Go.Proofs
open Go.Shelf
def Tryz.j:Go.Shelf.Ren:=⟨fun | 156=>96 | 165=>123 | 166=>124 | 169=>125 | 240=>154 | 241=>155 | 276=>178 | 277=>179 | n=>n,fun | 31=>29 | 9=>9 | 3=>3 | 4=>4 | 0=>0 | 20=>20 | 72=>151 | 76=>155 | 70=>149 | 37=>22 | 75=>154 | 127=>186 | 164=>201 | 5=>5 | 80=>157 | n=>n,fun | n=>n⟩
theorem Tryz.a : Go.Proofs.Lays.n156 Tryz.prog Tryz.j := {
  mixed:=by kernel_rfl
  f156:=Tryz.func96.trans (congrArg some (by kernel_rfl))
  f165:=Tryz.func123.trans (congrArg some (by kernel_rfl))
  f166:=Tryz.func124.trans (congrArg some (by kernel_rfl))
  f169:=Tryz.func125.trans (congrArg some (by kernel_rfl))
  f240:=Tryz.func154.trans (congrArg some (by kernel_rfl))
  f241:=Tryz.func155.trans (congrArg some (by kernel_rfl))
  f276:=Tryz.func178.trans (congrArg some (by kernel_rfl))
  f277:=Tryz.func179.trans (congrArg some (by kernel_rfl))
  t0:=Tryz.underlying0
  a0:=Tryz.isAgg0
  z0:=Tryz.sizeOf0
  v0:=Tryz.zeroValue0
  t3:=Tryz.underlying3
  a3:=Tryz.isAgg3
  z3:=Tryz.sizeOf3
  v3:=Tryz.zeroValue3
  t4:=Tryz.underlying4
  a4:=Tryz.isAgg4
  z4:=Tryz.sizeOf4
  v4:=Tryz.zeroValue4
  t9:=Tryz.underlying9
  a9:=Tryz.isAgg9
  z9:=Tryz.sizeOf9
  v9:=Tryz.zeroValue9
  t20:=Tryz.underlying20
  a20:=Tryz.isAgg20
  z20:=Tryz.sizeOf20
  v20:=Tryz.zeroValue20
  t31:=Tryz.underlying29
  a31:=Tryz.isAgg29
  z31:=Tryz.sizeOf29
  v31:=Tryz.zeroValue29
  t37:=Tryz.underlying22
  a37:=Tryz.isAgg22
  z37:=Tryz.sizeOf22
  v37:=Tryz.zeroValue22
  t70:=Tryz.underlying149
  a70:=Tryz.isAgg149
  z70:=Tryz.sizeOf149
  v70:=Tryz.zeroValue149
  t72:=Tryz.underlying151
  a72:=Tryz.isAgg151
  z72:=Tryz.sizeOf151
  v72:=Tryz.zeroValue151
  t75:=Tryz.underlying154
  a75:=Tryz.isAgg154
  z75:=Tryz.sizeOf154
  v75:=Tryz.zeroValue154
  t76:=Tryz.underlying155
  a76:=Tryz.isAgg155
  z76:=Tryz.sizeOf155
  v76:=Tryz.zeroValue155
  t127:=Tryz.underlying186
  a127:=Tryz.isAgg186
  z127:=Tryz.sizeOf186
  v127:=Tryz.zeroValue186
  t164:=Tryz.underlying201
  a164:=Tryz.isAgg201
  z164:=Tryz.sizeOf201
  v164:=Tryz.zeroValue201}
theorem Tryz.h : Builder.Extra Tryz.prog Tryz.j := {
  sizeBuilder:=by kernel_rfl
  liesBuilder:=by kernel_rfl
  t5:=Tryz.underlying5
  a5:=Tryz.isAgg5
  z5:=Tryz.sizeOf5
  v5:=Tryz.zeroValue5
  infoByte:=by kernel_rfl
  cellsByte:=by kernel_rfl
  sizeByte:=by kernel_rfl
  neB5:=by decide}
open Go.RowKit in
theorem Tryz.strings_Join_none (a:Option Addr) (c:Nat) (sep:ByteArray) (w:World):
    Calls Tryz.prog 96 #[.slice a 0 c,.string sep] w fun e w'=>e= .returned (.string ⟨#[]⟩)∧w'=w:=Any.strings_Join_none Tryz.a Tryz.h a c sep w
open Go.RowKit in
theorem Tryz.strings_Join (bk o c:Nat) (xs:List ByteArray) (sep:ByteArray) (w:World) (hcells:∀(j:Nat) x,xs[j]? =some x→w.cell? ⟨bk,o+j,none⟩=some (.string x)) (hbk:bk<w.heap.size) (hN:xs.length≤140737488355328) (hcap:xs.length≤c) (hlen:(Lib.join (xs.map (·.data.toList)) sep.data.toList).length≤140737488355328):
    Calls Tryz.prog 96 #[.slice (some ⟨bk,o,none⟩) xs.length c,.string sep] w fun e w'=>e= .returned (.string ⟨(Lib.join (xs.map (·.data.toList)) sep.data.toList).toArray⟩)∧Below w.heap.size w w':=Any.strings_Join Tryz.a Tryz.h bk o c xs sep w hcells hbk hN hcap hlen
def Tryz.ab:Go.Shelf.Ren:=⟨fun | 99=>44 | 206=>75 | n=>n,fun | 9=>9 | 4=>4 | 3=>3 | n=>n,fun | n=>n⟩
theorem Tryz.aa : Go.Proofs.Lays.n99 Tryz.prog Tryz.ab := {
  mixed:=by kernel_rfl
  f99:=Tryz.func44.trans (congrArg some (by kernel_rfl))
  f206:=Tryz.func75.trans (congrArg some (by kernel_rfl))
  t3:=Tryz.underlying3
  a3:=Tryz.isAgg3
  z3:=Tryz.sizeOf3
  v3:=Tryz.zeroValue3
  t4:=Tryz.underlying4
  a4:=Tryz.isAgg4
  z4:=Tryz.sizeOf4
  v4:=Tryz.zeroValue4
  t9:=Tryz.underlying9
  a9:=Tryz.isAgg9
  z9:=Tryz.sizeOf9
  v9:=Tryz.zeroValue9}
open Go.RowKit Go.Lib in
theorem Tryz.strings_HasPrefix (s p:ByteArray) (w:World):
    Calls Tryz.prog 44 #[.string s,.string p] w fun e w'=>e= .returned (.bool (Lib.hasPrefix s.data.toList p.data.toList))∧w'=w:=Any.strings_HasPrefix Tryz.aa s p w
def Tryz.w:Go.Shelf.Ren:=⟨fun | 100=>45 | 207=>76 | n=>n,fun | 9=>9 | 4=>4 | 3=>3 | n=>n,fun | n=>n⟩
theorem Tryz.y : Go.Proofs.Lays.n100 Tryz.prog Tryz.w := {
  mixed:=by kernel_rfl
  f100:=Tryz.func45.trans (congrArg some (by kernel_rfl))
  f207:=Tryz.func76.trans (congrArg some (by kernel_rfl))
  t3:=Tryz.underlying3
  a3:=Tryz.isAgg3
  z3:=Tryz.sizeOf3
  v3:=Tryz.zeroValue3
  t4:=Tryz.underlying4
  a4:=Tryz.isAgg4
  z4:=Tryz.sizeOf4
  v4:=Tryz.zeroValue4
  t9:=Tryz.underlying9
  a9:=Tryz.isAgg9
  z9:=Tryz.sizeOf9
  v9:=Tryz.zeroValue9}
open Go.RowKit Go.Lib in
theorem Tryz.strings_HasSuffix (s p:ByteArray) (w:World) (hs:s.size≤9223372036854775807):
    Calls Tryz.prog 45 #[.string s,.string p] w fun e w'=>e= .returned (.bool (Lib.hasSuffix s.data.toList p.data.toList))∧w'=w:=Any.strings_HasSuffix Tryz.y s p w hs
def Tryz.v:Go.Shelf.Ren:=⟨fun | 146=>46 | 221=>77 | 268=>97 | 138=>98 | 143=>99 | 195=>126 | 197=>127 | 218=>128 | 219=>129 | 260=>156 | 217=>157 | 225=>158 | 224=>159 | 267=>160 | 266=>180 | 314=>181 | n=>n,fun | 9=>9 | 31=>29 | 3=>3 | 4=>4 | 0=>0 | 105=>159 | 21=>21 | 5=>5 | 46=>148 | 119=>204 | 139=>207 | 138=>206 | 146=>208 | 51=>183 | n=>n,fun | 1=>0 | 3=>1 | 4=>2 | n=>n⟩
theorem Tryz.r : Go.Proofs.Lays.n146 Tryz.prog Tryz.v := {
  mixed:=by kernel_rfl
  f138:=Tryz.func98.trans (congrArg some (by kernel_rfl))
  f143:=Tryz.func99.trans (congrArg some (by kernel_rfl))
  f146:=Tryz.func46.trans (congrArg some (by kernel_rfl))
  f195:=Tryz.func126.trans (congrArg some (by kernel_rfl))
  f197:=Tryz.func127.trans (congrArg some (by kernel_rfl))
  f217:=Tryz.func157.trans (congrArg some (by kernel_rfl))
  f218:=Tryz.func128.trans (congrArg some (by kernel_rfl))
  f219:=Tryz.func129.trans (congrArg some (by kernel_rfl))
  f221:=Tryz.func77.trans (congrArg some (by kernel_rfl))
  f224:=Tryz.func159.trans (congrArg some (by kernel_rfl))
  f225:=Tryz.func158.trans (congrArg some (by kernel_rfl))
  f260:=Tryz.func156.trans (congrArg some (by kernel_rfl))
  f266:=Tryz.func180.trans (congrArg some (by kernel_rfl))
  f267:=Tryz.func160.trans (congrArg some (by kernel_rfl))
  f268:=Tryz.func97.trans (congrArg some (by kernel_rfl))
  f314:=Tryz.func181.trans (congrArg some (by kernel_rfl))
  t0:=Tryz.underlying0
  a0:=Tryz.isAgg0
  z0:=Tryz.sizeOf0
  v0:=Tryz.zeroValue0
  t3:=Tryz.underlying3
  a3:=Tryz.isAgg3
  z3:=Tryz.sizeOf3
  v3:=Tryz.zeroValue3
  t4:=Tryz.underlying4
  a4:=Tryz.isAgg4
  z4:=Tryz.sizeOf4
  v4:=Tryz.zeroValue4
  t5:=Tryz.underlying5
  a5:=Tryz.isAgg5
  z5:=Tryz.sizeOf5
  v5:=Tryz.zeroValue5
  t9:=Tryz.underlying9
  a9:=Tryz.isAgg9
  z9:=Tryz.sizeOf9
  v9:=Tryz.zeroValue9
  t21:=Tryz.underlying21
  a21:=Tryz.isAgg21
  z21:=Tryz.sizeOf21
  v21:=Tryz.zeroValue21
  t31:=Tryz.underlying29
  a31:=Tryz.isAgg29
  z31:=Tryz.sizeOf29
  v31:=Tryz.zeroValue29
  t46:=Tryz.underlying148
  a46:=Tryz.isAgg148
  z46:=Tryz.sizeOf148
  v46:=Tryz.zeroValue148
  t51:=Tryz.underlying183
  a51:=Tryz.isAgg183
  z51:=Tryz.sizeOf183
  v51:=Tryz.zeroValue183
  t105:=Tryz.underlying159
  a105:=Tryz.isAgg159
  z105:=Tryz.sizeOf159
  v105:=Tryz.zeroValue159
  t119:=Tryz.underlying204
  a119:=Tryz.isAgg204
  z119:=Tryz.sizeOf204
  t138:=Tryz.underlying206
  a138:=Tryz.isAgg206
  z138:=Tryz.sizeOf206
  v138:=Tryz.zeroValue206
  t139:=Tryz.underlying207
  a139:=Tryz.isAgg207
  z139:=Tryz.sizeOf207
  v139:=Tryz.zeroValue207
  t146:=Tryz.underlying208
  a146:=Tryz.isAgg208
  z146:=Tryz.sizeOf208
  v146:=Tryz.zeroValue208
  g1:=by kernel_rfl
  g3:=by kernel_rfl
  g4:=by kernel_rfl}
open Go.RowKit Go.Lib in
theorem Tryz.strings_Split (s sep:ByteArray) (m:Int) (w:World) (hs:s.size<4294967281) (hm:w.cell? ⟨0,0,none⟩=some (.int .i64 m)) (h1:1≤sep.size):
    Calls Tryz.prog 46 #[.string s,.string sep] w fun e w'=>
      e= .returned (.slice (some ⟨w.heap.size,0,none⟩) (Lib.countB s sep+1) (Lib.countB s sep+1))∧w'=w.alloc (.cells ((Lib.splitB sep 0 (Lib.countB s sep) s).map Value.string).toArray 9):=Any.strings_Split Tryz.r (by kernel_rfl) s sep m w hs hm h1
def Tryz.u:Go.Shelf.Ren:=⟨fun | 146=>46 | 221=>77 | 268=>97 | 138=>98 | 143=>99 | 195=>126 | 197=>127 | 218=>128 | 219=>129 | 260=>156 | 217=>157 | 225=>158 | 224=>159 | 267=>160 | 266=>180 | 314=>181 | n=>n,fun | 9=>9 | 31=>29 | 3=>3 | 4=>4 | 0=>0 | 105=>159 | 21=>21 | 5=>5 | 46=>148 | 119=>204 | 139=>207 | 138=>206 | 146=>208 | 51=>183 | n=>n,fun | 1=>0 | 3=>1 | 4=>2 | n=>n⟩
theorem Tryz.ad : Go.Proofs.LaysM.n146 Tryz.prog Tryz.u := {
  mixed:=by kernel_rfl
  f138:=Tryz.func98.trans (congrArg some (by kernel_rfl))
  f143:=Tryz.func99.trans (congrArg some (by kernel_rfl))
  f146:=Tryz.func46.trans (congrArg some (by kernel_rfl))
  f195:=Tryz.func126.trans (congrArg some (by kernel_rfl))
  f197:=Tryz.func127.trans (congrArg some (by kernel_rfl))
  f217:=Tryz.func157.trans (congrArg some (by kernel_rfl))
  f218:=Tryz.func128.trans (congrArg some (by kernel_rfl))
  f219:=Tryz.func129.trans (congrArg some (by kernel_rfl))
  f221:=Tryz.func77.trans (congrArg some (by kernel_rfl))
  f224:=Tryz.func159.trans (congrArg some (by kernel_rfl))
  f225:=Tryz.func158.trans (congrArg some (by kernel_rfl))
  f260:=Tryz.func156.trans (congrArg some (by kernel_rfl))
  f266:=Tryz.func180.trans (congrArg some (by kernel_rfl))
  f267:=Tryz.func160.trans (congrArg some (by kernel_rfl))
  f268:=Tryz.func97.trans (congrArg some (by kernel_rfl))
  f314:=Tryz.func181.trans (congrArg some (by kernel_rfl))
  t0:=Tryz.underlying0
  a0:=Tryz.isAgg0
  z0:=Tryz.sizeOf0
  v0:=Tryz.zeroValue0
  t3:=Tryz.underlying3
  a3:=Tryz.isAgg3
  z3:=Tryz.sizeOf3
  v3:=Tryz.zeroValue3
  t4:=Tryz.underlying4
  a4:=Tryz.isAgg4
  z4:=Tryz.sizeOf4
  v4:=Tryz.zeroValue4
  t5:=Tryz.underlying5
  a5:=Tryz.isAgg5
  z5:=Tryz.sizeOf5
  v5:=Tryz.zeroValue5
  t9:=Tryz.underlying9
  a9:=Tryz.isAgg9
  z9:=Tryz.sizeOf9
  v9:=Tryz.zeroValue9
  t21:=Tryz.underlying21
  a21:=Tryz.isAgg21
  z21:=Tryz.sizeOf21
  v21:=Tryz.zeroValue21
  t31:=Tryz.underlying29
  a31:=Tryz.isAgg29
  z31:=Tryz.sizeOf29
  v31:=Tryz.zeroValue29
  t46:=Tryz.underlying148
  a46:=Tryz.isAgg148
  z46:=Tryz.sizeOf148
  v46:=Tryz.zeroValue148
  t51:=Tryz.underlying183
  a51:=Tryz.isAgg183
  z51:=Tryz.sizeOf183
  v51:=Tryz.zeroValue183
  t105:=Tryz.underlying159
  a105:=Tryz.isAgg159
  z105:=Tryz.sizeOf159
  v105:=Tryz.zeroValue159
  t119:=Tryz.underlying204
  a119:=Tryz.isAgg204
  z119:=Tryz.sizeOf204
  t138:=Tryz.underlying206
  a138:=Tryz.isAgg206
  z138:=Tryz.sizeOf206
  v138:=Tryz.zeroValue206
  t139:=Tryz.underlying207
  a139:=Tryz.isAgg207
  z139:=Tryz.sizeOf207
  v139:=Tryz.zeroValue207
  t146:=Tryz.underlying208
  a146:=Tryz.isAgg208
  z146:=Tryz.sizeOf208
  v146:=Tryz.zeroValue208
  g1:=by kernel_rfl
  g3:=by kernel_rfl
  g4:=by kernel_rfl
  i0:=by kernel_rfl
  i3:=by kernel_rfl
  i4:=by kernel_rfl
  i5:=by kernel_rfl
  i9:=by kernel_rfl
  i21:=by kernel_rfl
  i31:=by kernel_rfl
  i46:=by kernel_rfl
  i51:=by kernel_rfl
  i105:=by kernel_rfl
  i138:=by kernel_rfl
  i139:=by kernel_rfl
  i146:=by kernel_rfl
  m1:=by kernel_rfl
  s1_3:=fun w h=>Go.Proofs.cell_of_shapedOpen_int (zero:= #[.int .i64 0]) (t:=3) h (of_decide_eq_true (by kernel_rfl)) (by kernel_rfl) rfl (by kernel_rfl) (by kernel_rfl) Tryz.underlying3
  m3:=by kernel_rfl
  m4:=by kernel_rfl}
end Go.Proofs
namespace Go.Proofs.YtmejbfmhaoilmaaGreatDoor
open Go Go.RowKit
theorem aOd {w0:World}{S0:Bs} (s:ByteArray) (hs:s.size≤140737488351232):Calls Tryz.prog 44 #[.string s,.string ⟨#[47]⟩] w0 (aI w0 S0 (fun r l=>r= .bool (decide (s.data.toList[0]? =some 47))∧l= [])):=
  aC5 (fun s p w=>Tryz.strings_HasPrefix s p w)
theorem aNq {w0:World}{S0:Bs} (s:ByteArray) (hs:s.size≤140737488351232):Calls Tryz.prog 45 #[.string s,.string ⟨#[47]⟩] w0 (aI w0 S0 (fun r l=>r= .bool (decide (s.data.toList[s.size - 1]? =some 47))∧l= [])):=
  aDy hs (fun s p w h=>Tryz.strings_HasSuffix s p w h)
abbrev xX:Nat:=0
theorem aJd {W:World} (h:W.ShapedOpen Tryz.prog):iS xX W (FF W (fun _=>False)):=iS.a (Tryz.ad.s1_3 W h)
theorem aOn {w0:World}{S0:Bs} (s:ByteArray) (hs:s.size≤1000) (hG:iS xX w0 (FF w0 S0)):Calls Tryz.prog 46 #[.string s,.string ⟨#[47]⟩] w0 (aI w0 S0 (fun r l=>l= [aH cT (jL s) [r]])):=
  aF4 (g:=xX) (t:=9) hs (by decide) hG (fun s sep m w h1 h2 h3=>Tryz.strings_Split s sep m w h1 h2 h3)
theorem aOq {w0:World}{S0:Bs}{xs:List ByteArray}{v:Value} (hx:cT.ro w0 (FF w0 S0) xs [v]) (hok:∀s,s∈xs→aV s=0) (hl:xs.length≤6):Calls Tryz.prog 96 #[v,.string ⟨#[47]⟩] w0 (aI w0 S0 (fun r l=>r= .string (kR (Lib.join (xs.map (·.data.toList)) [47]))∧l= [])):=
  aIl hx hok hl (fun a c sep w=>Tryz.strings_Join_none a c sep w) (fun bk o c xs sep w h1 h2 h3 h4 h5=>Tryz.strings_Join bk o c xs sep w h1 h2 h3 h4 h5)
end Go.Proofs.YtmejbfmhaoilmaaGreatDoor
