import Derived.Shelf.Strings.Builder1
import Derived.Shelf.Strings.Builder2
import Derived.Shelf.Strings.OnBuilder
import Derived.Shelf.Small.Bits
import Derived.Shelf.Strings.BuilderF
import Derived.Shelf.Strings.BuilderK
import Derived.Shelf.Strings.Builder2Cap
import Derived.Shelf.Strconv.Itoa0
import Derived.Shelf.Strings.Search1
import Derived.Shelf.Strings.Search2
import Derived.Shelf.Strings.Search3
import Derived.Shelf.Strings.Cut
import Derived.Shelf.Strings.Count
import Derived.Shelf.LaysM
import Derived.Shelf.Strings.Shaped
import Derived.Shelf.Sort.Plain
import Derived.Shelf.Strings.LastIndex
import Derived.Shelf.Strings.Prefix
import Derived.Shelf.Unicode.DecodeSlow
import Derived.Shelf.Strings.BuilderCap
import Derived.Shelf.Slices.Turned
import Derived.Shelf.Slices.CompactS
import Derived.Shelf.Slices.Cells
import Derived.Shelf.Slices.In.SortNone
import Derived.Ground.PaProg
import Derived.Shelf.Path.Small
import Derived.Test.YtpmkkijamfgaeaaGreatDoorProg
import Derived.Test.YtpmkkijamfgaeaaGreatDoorRB
namespace Go.Proofs
open Go.Shelf
def Tryz.lays156_ren:Go.Shelf.Ren:=⟨λ | 156=>84 | 165=>137 | 166=>138 | 169=>139 | 240=>189 | 241=>190 | 276=>222 | 277=>223 | n=>n,λ | 31=>29 | 9=>9 | 3=>3 | 4=>4 | 0=>0 | 20=>20 | 72=>168 | 76=>172 | 70=>166 | 37=>22 | 75=>171 | 127=>211 | 164=>238 | 5=>5 | 80=>143 | n=>n,λ | n=>n⟩
theorem Tryz.lays156:Go.Proofs.Lays.n156 Tryz.prog Tryz.lays156_ren:={
 mixed:=by kernel_rfl
 f156:=Tryz.func84.trans (congrArg some (by kernel_rfl))
 f165:=Tryz.func137.trans (congrArg some (by kernel_rfl))
 f166:=Tryz.func138.trans (congrArg some (by kernel_rfl))
 f169:=Tryz.func139.trans (congrArg some (by kernel_rfl))
 f240:=Tryz.func189.trans (congrArg some (by kernel_rfl))
 f241:=Tryz.func190.trans (congrArg some (by kernel_rfl))
 f276:=Tryz.func222.trans (congrArg some (by kernel_rfl))
 f277:=Tryz.func223.trans (congrArg some (by kernel_rfl))
 t0:=Tryz.underlying0
 a0:=Tryz.isAgg0
 z0:=Tryz.sizeOf0
 v0:=Tryz.zeroValue0
 t3:=Tryz.underlying3
 a3:=Tryz.isAgg3
 z3:=Tryz.sizeOf3
 v3:=Tryz.zeroValue3
 t4:=Tryz.underlying4
 a4:=Tryz.isAgg4
 z4:=Tryz.sizeOf4
 v4:=Tryz.zeroValue4
 t9:=Tryz.underlying9
 a9:=Tryz.isAgg9
 z9:=Tryz.sizeOf9
 v9:=Tryz.zeroValue9
 t20:=Tryz.underlying20
 a20:=Tryz.isAgg20
 z20:=Tryz.sizeOf20
 v20:=Tryz.zeroValue20
 t31:=Tryz.underlying29
 a31:=Tryz.isAgg29
 z31:=Tryz.sizeOf29
 v31:=Tryz.zeroValue29
 t37:=Tryz.underlying22
 a37:=Tryz.isAgg22
 z37:=Tryz.sizeOf22
 v37:=Tryz.zeroValue22
 t70:=Tryz.underlying166
 a70:=Tryz.isAgg166
 z70:=Tryz.sizeOf166
 v70:=Tryz.zeroValue166
 t72:=Tryz.underlying168
 a72:=Tryz.isAgg168
 z72:=Tryz.sizeOf168
 v72:=Tryz.zeroValue168
 t75:=Tryz.underlying171
 a75:=Tryz.isAgg171
 z75:=Tryz.sizeOf171
 v75:=Tryz.zeroValue171
 t76:=Tryz.underlying172
 a76:=Tryz.isAgg172
 z76:=Tryz.sizeOf172
 v76:=Tryz.zeroValue172
 t127:=Tryz.underlying211
 a127:=Tryz.isAgg211
 z127:=Tryz.sizeOf211
 v127:=Tryz.zeroValue211
 t164:=Tryz.underlying238
 a164:=Tryz.isAgg238
 z164:=Tryz.sizeOf238
 v164:=Tryz.zeroValue238 }
theorem Tryz.Builder_Extra_156:Builder.Extra Tryz.prog Tryz.lays156_ren:={
 sizeBuilder:=by kernel_rfl
 liesBuilder:=by kernel_rfl
 t5:=Tryz.underlying5
 a5:=Tryz.isAgg5
 z5:=Tryz.sizeOf5
 v5:=Tryz.zeroValue5
 infoByte:=by kernel_rfl
 cellsByte:=by kernel_rfl
 sizeByte:=by kernel_rfl
 neB5:=by decide }
open Go.RowKit in
theorem Tryz.strings_Join_none(a:Option Addr)(c:Nat)(sep:ByteArray)(w:World):
  Calls Tryz.prog 84 #[.slice a 0 c,.string sep] w λ e w'=>e=.returned (.string ⟨#[]⟩)/\w'=w:=Any.strings_Join_none Tryz.lays156 Tryz.Builder_Extra_156 a c sep w
open Go.RowKit in
theorem Tryz.strings_Join(bk o c:Nat)(xs:List ByteArray)(sep:ByteArray)(w:World)(hcells:∀ (j:Nat) x,xs[j]?=some x->w.cell? ⟨bk,o+j,none⟩=some (.string x))(hbk:bk<w.heap.size)(hN:xs.length<=140737488355328)(hcap:xs.length<=c)(hlen:(Lib.join (xs.map (·.data.toList)) sep.data.toList).length<=140737488355328):
  Calls Tryz.prog 84 #[.slice (some ⟨bk,o,none⟩) xs.length c,.string sep] w λ e w'=>e=.returned (.string ⟨(Lib.join (xs.map (·.data.toList)) sep.data.toList).toArray⟩)/\Below w.heap.size w w':=Any.strings_Join Tryz.lays156 Tryz.Builder_Extra_156 bk o c xs sep w hcells hbk hN hcap hlen
def Tryz.lays219_ren:Go.Shelf.Ren:=⟨λ | 219=>242 | 217=>254 | 225=>255 | 224=>256 | 267=>257 | 266=>263 | 314=>264 | n=>n,λ | 9=>9 | 3=>3 | 4=>4 | 5=>5 | 46=>165 | 146=>274 | 51=>208 | n=>n,λ | 1=>0 | n=>n⟩
theorem Tryz.lays219:Go.Proofs.Lays.n219 Tryz.prog Tryz.lays219_ren:={
 mixed:=by kernel_rfl
 f217:=Tryz.func254.trans (congrArg some (by kernel_rfl))
 f219:=Tryz.func242.trans (congrArg some (by kernel_rfl))
 f224:=Tryz.func256.trans (congrArg some (by kernel_rfl))
 f225:=Tryz.func255.trans (congrArg some (by kernel_rfl))
 f266:=Tryz.func263.trans (congrArg some (by kernel_rfl))
 f267:=Tryz.func257.trans (congrArg some (by kernel_rfl))
 f314:=Tryz.func264.trans (congrArg some (by kernel_rfl))
 t3:=Tryz.underlying3
 a3:=Tryz.isAgg3
 z3:=Tryz.sizeOf3
 v3:=Tryz.zeroValue3
 t4:=Tryz.underlying4
 a4:=Tryz.isAgg4
 z4:=Tryz.sizeOf4
 v4:=Tryz.zeroValue4
 t5:=Tryz.underlying5
 a5:=Tryz.isAgg5
 z5:=Tryz.sizeOf5
 v5:=Tryz.zeroValue5
 t9:=Tryz.underlying9
 a9:=Tryz.isAgg9
 z9:=Tryz.sizeOf9
 v9:=Tryz.zeroValue9
 t46:=Tryz.underlying165
 a46:=Tryz.isAgg165
 z46:=Tryz.sizeOf165
 v46:=Tryz.zeroValue165
 t51:=Tryz.underlying208
 a51:=Tryz.isAgg208
 z51:=Tryz.sizeOf208
 v51:=Tryz.zeroValue208
 t146:=Tryz.underlying274
 a146:=Tryz.isAgg274
 z146:=Tryz.sizeOf274
 v146:=Tryz.zeroValue274
 g1:=by kernel_rfl }
open Go.RowKit Go.Lib in
theorem Tryz.stringslite_Index_one(s:ByteArray)(c:UInt8)(w:World):
  Calls Tryz.prog 242 #[.string s,.string ⟨#[c]⟩] w λ e w'=>e=.returned (.int .i64 (Lib.indexByte s.data.toList c))/\w'=w:=Any.stringslite_Index_one Tryz.lays219 s c w
def Tryz.lays143_ren:Go.Shelf.Ren:=⟨λ | 143=>215 | 219=>242 | 217=>254 | 225=>255 | 224=>256 | 267=>257 | 266=>263 | 314=>264 | n=>n,λ | 9=>9 | 3=>3 | 4=>4 | 5=>5 | 46=>165 | 146=>274 | 51=>208 | n=>n,λ | 1=>0 | n=>n⟩
theorem Tryz.lays143:Go.Proofs.Lays.n143 Tryz.prog Tryz.lays143_ren:={
 mixed:=by kernel_rfl
 f143:=Tryz.func215.trans (congrArg some (by kernel_rfl))
 f217:=Tryz.func254.trans (congrArg some (by kernel_rfl))
 f219:=Tryz.func242.trans (congrArg some (by kernel_rfl))
 f224:=Tryz.func256.trans (congrArg some (by kernel_rfl))
 f225:=Tryz.func255.trans (congrArg some (by kernel_rfl))
 f266:=Tryz.func263.trans (congrArg some (by kernel_rfl))
 f267:=Tryz.func257.trans (congrArg some (by kernel_rfl))
 f314:=Tryz.func264.trans (congrArg some (by kernel_rfl))
 t3:=Tryz.underlying3
 a3:=Tryz.isAgg3
 z3:=Tryz.sizeOf3
 v3:=Tryz.zeroValue3
 t4:=Tryz.underlying4
 a4:=Tryz.isAgg4
 z4:=Tryz.sizeOf4
 v4:=Tryz.zeroValue4
 t5:=Tryz.underlying5
 a5:=Tryz.isAgg5
 z5:=Tryz.sizeOf5
 v5:=Tryz.zeroValue5
 t9:=Tryz.underlying9
 a9:=Tryz.isAgg9
 z9:=Tryz.sizeOf9
 v9:=Tryz.zeroValue9
 t46:=Tryz.underlying165
 a46:=Tryz.isAgg165
 z46:=Tryz.sizeOf165
 v46:=Tryz.zeroValue165
 t51:=Tryz.underlying208
 a51:=Tryz.isAgg208
 z51:=Tryz.sizeOf208
 v51:=Tryz.zeroValue208
 t146:=Tryz.underlying274
 a146:=Tryz.isAgg274
 z146:=Tryz.sizeOf274
 v146:=Tryz.zeroValue274
 g1:=by kernel_rfl }
open Go.RowKit Go.Lib in
theorem Tryz.strings_Index_one(s:ByteArray)(c:UInt8)(w:World):
  Calls Tryz.prog 215 #[.string s,.string ⟨#[c]⟩] w λ e w'=>e=.returned (.int .i64 (Lib.indexByte s.data.toList c))/\w'=w:=Any.strings_Index_one Tryz.lays143 s c w
def Tryz.lays138_ren:Go.Shelf.Ren:=⟨λ | 138=>214 | 195=>239 | 218=>241 | 143=>215 | 219=>242 | 217=>254 | 225=>255 | 224=>256 | 267=>257 | 266=>263 | 314=>264 | n=>n,λ | 9=>9 | 3=>3 | 4=>4 | 5=>5 | 0=>0 | 46=>165 | 146=>274 | 51=>208 | n=>n,λ | 1=>0 | n=>n⟩
theorem Tryz.lays138:Go.Proofs.Lays.n138 Tryz.prog Tryz.lays138_ren:={
 mixed:=by kernel_rfl
 f138:=Tryz.func214.trans (congrArg some (by kernel_rfl))
 f143:=Tryz.func215.trans (congrArg some (by kernel_rfl))
 f195:=Tryz.func239.trans (congrArg some (by kernel_rfl))
 f217:=Tryz.func254.trans (congrArg some (by kernel_rfl))
 f218:=Tryz.func241.trans (congrArg some (by kernel_rfl))
 f219:=Tryz.func242.trans (congrArg some (by kernel_rfl))
 f224:=Tryz.func256.trans (congrArg some (by kernel_rfl))
 f225:=Tryz.func255.trans (congrArg some (by kernel_rfl))
 f266:=Tryz.func263.trans (congrArg some (by kernel_rfl))
 f267:=Tryz.func257.trans (congrArg some (by kernel_rfl))
 f314:=Tryz.func264.trans (congrArg some (by kernel_rfl))
 t0:=Tryz.underlying0
 a0:=Tryz.isAgg0
 z0:=Tryz.sizeOf0
 v0:=Tryz.zeroValue0
 t3:=Tryz.underlying3
 a3:=Tryz.isAgg3
 z3:=Tryz.sizeOf3
 v3:=Tryz.zeroValue3
 t4:=Tryz.underlying4
 a4:=Tryz.isAgg4
 z4:=Tryz.sizeOf4
 v4:=Tryz.zeroValue4
 t5:=Tryz.underlying5
 a5:=Tryz.isAgg5
 z5:=Tryz.sizeOf5
 v5:=Tryz.zeroValue5
 t9:=Tryz.underlying9
 a9:=Tryz.isAgg9
 z9:=Tryz.sizeOf9
 v9:=Tryz.zeroValue9
 t46:=Tryz.underlying165
 a46:=Tryz.isAgg165
 z46:=Tryz.sizeOf165
 v46:=Tryz.zeroValue165
 t51:=Tryz.underlying208
 a51:=Tryz.isAgg208
 z51:=Tryz.sizeOf208
 v51:=Tryz.zeroValue208
 t146:=Tryz.underlying274
 a146:=Tryz.isAgg274
 z146:=Tryz.sizeOf274
 v146:=Tryz.zeroValue274
 g1:=by kernel_rfl }
open Go.RowKit Go.Lib in
theorem Tryz.strings_Count_one(s:ByteArray)(c:UInt8)(w:World):
  Calls Tryz.prog 214 #[.string s,.string ⟨#[c]⟩] w λ e w'=>e=.returned (.int .i64 (Lib.countByte s.data.toList c))/\w'=w:=Any.strings_Count_one Tryz.lays138 s c w
def Tryz.lays190_ren:Go.Shelf.Ren:=⟨λ | 190=>80 | 125=>136 | 258=>135 | 128=>187 | 129=>188 | 302=>178 | 303=>179 | 304=>180 | 305=>181 | 306=>182 | 307=>183 | 308=>184 | 309=>185 | 310=>186 | 333=>216 | 329=>217 | 330=>218 | 334=>219 | 335=>220 | 336=>221 | 344=>243 | n=>n,λ | 31=>29 | 9=>9 | 3=>3 | 46=>165 | 0=>0 | 51=>208 | 53=>210 | 4=>4 | 183=>200 | 182=>199 | 131=>205 | 5=>5 | 218=>232 | 222=>236 | 228=>257 | 229=>106 | n=>n,λ | n=>n⟩
theorem Tryz.lays190:Go.Proofs.Lays.n190 Tryz.prog Tryz.lays190_ren:={
 mixed:=by kernel_rfl
 f125:=Tryz.func136.trans (congrArg some (by kernel_rfl))
 f128:=Tryz.func187.trans (congrArg some (by kernel_rfl))
 f129:=Tryz.func188.trans (congrArg some (by kernel_rfl))
 f190:=Tryz.func80.trans (congrArg some (by kernel_rfl))
 f258:=Tryz.func135.trans (congrArg some (by kernel_rfl))
 f302:=Tryz.func178.trans (congrArg some (by kernel_rfl))
 f303:=Tryz.func179.trans (congrArg some (by kernel_rfl))
 f304:=Tryz.func180.trans (congrArg some (by kernel_rfl))
 f305:=Tryz.func181.trans (congrArg some (by kernel_rfl))
 f306:=Tryz.func182.trans (congrArg some (by kernel_rfl))
 f307:=Tryz.func183.trans (congrArg some (by kernel_rfl))
 f308:=Tryz.func184.trans (congrArg some (by kernel_rfl))
 f309:=Tryz.func185.trans (congrArg some (by kernel_rfl))
 f310:=Tryz.func186.trans (congrArg some (by kernel_rfl))
 f329:=Tryz.func217.trans (congrArg some (by kernel_rfl))
 f330:=Tryz.func218.trans (congrArg some (by kernel_rfl))
 f333:=Tryz.func216.trans (congrArg some (by kernel_rfl))
 f334:=Tryz.func219.trans (congrArg some (by kernel_rfl))
 f335:=Tryz.func220.trans (congrArg some (by kernel_rfl))
 f336:=Tryz.func221.trans (congrArg some (by kernel_rfl))
 f344:=Tryz.func243.trans (congrArg some (by kernel_rfl))
 t0:=Tryz.underlying0
 a0:=Tryz.isAgg0
 z0:=Tryz.sizeOf0
 v0:=Tryz.zeroValue0
 t3:=Tryz.underlying3
 a3:=Tryz.isAgg3
 z3:=Tryz.sizeOf3
 v3:=Tryz.zeroValue3
 t4:=Tryz.underlying4
 a4:=Tryz.isAgg4
 z4:=Tryz.sizeOf4
 v4:=Tryz.zeroValue4
 t5:=Tryz.underlying5
 a5:=Tryz.isAgg5
 z5:=Tryz.sizeOf5
 v5:=Tryz.zeroValue5
 t9:=Tryz.underlying9
 a9:=Tryz.isAgg9
 z9:=Tryz.sizeOf9
 v9:=Tryz.zeroValue9
 t31:=Tryz.underlying29
 a31:=Tryz.isAgg29
 z31:=Tryz.sizeOf29
 v31:=Tryz.zeroValue29
 t46:=Tryz.underlying165
 a46:=Tryz.isAgg165
 z46:=Tryz.sizeOf165
 v46:=Tryz.zeroValue165
 t51:=Tryz.underlying208
 a51:=Tryz.isAgg208
 z51:=Tryz.sizeOf208
 v51:=Tryz.zeroValue208
 t53:=Tryz.underlying210
 a53:=Tryz.isAgg210
 z53:=Tryz.sizeOf210
 v53:=Tryz.zeroValue210
 t131:=Tryz.underlying205
 a131:=Tryz.isAgg205
 z131:=Tryz.sizeOf205
 v131:=Tryz.zeroValue205
 t182:=Tryz.underlying199
 a182:=Tryz.isAgg199
 z182:=Tryz.sizeOf199
 v182:=Tryz.zeroValue199
 t183:=Tryz.underlying200
 a183:=Tryz.isAgg200
 z183:=Tryz.sizeOf200
 v183:=Tryz.zeroValue200
 t218:=Tryz.underlying232
 a218:=Tryz.isAgg232
 z218:=Tryz.sizeOf232
 v218:=Tryz.zeroValue232
 t222:=Tryz.underlying236
 a222:=Tryz.isAgg236
 z222:=Tryz.sizeOf236
 v222:=Tryz.zeroValue236
 t228:=Tryz.underlying257
 a228:=Tryz.isAgg257
 z228:=Tryz.sizeOf257
 v228:=Tryz.zeroValue257
 t229:=Tryz.underlying106
 a229:=Tryz.isAgg106
 z229:=Tryz.sizeOf106
 v229:=Tryz.zeroValue106 }
open Go.Sort Go.RowKit in
theorem Tryz.slices_Sort_string(blk off cap:Nat)(ss:List (List UInt8))(w:World)(hH:Holds encStr w blk off ss.toArray)(hblk:blk<w.heap.size)(hsz:ss.length<4611686018427387904):
  Calls Tryz.prog 80 #[.slice (some ⟨blk,off,none⟩) ss.length cap] w λ e w'=>
   e=.returned (.tuple #[])/\∃ n os,w'=grow (putRow encStr (Sort.ahead w n) blk off (ss.mergeSort λ x y=>decide (x<=y)).toArray) os:=Any.slices_Sort_string Tryz.lays190 blk off cap ss w hH hblk hsz
def Tryz.lays194_ren:Go.Shelf.Ren:=⟨λ | 194=>81 | n=>n,λ | 31=>29 | 9=>9 | 3=>3 | 4=>4 | 0=>0 | n=>n,λ | n=>n⟩
theorem Tryz.lays194:Go.Proofs.Lays.n194 Tryz.prog Tryz.lays194_ren:={
 mixed:=by kernel_rfl
 f194:=Tryz.func81.trans (congrArg some (by kernel_rfl))
 t0:=Tryz.underlying0
 a0:=Tryz.isAgg0
 z0:=Tryz.sizeOf0
 v0:=Tryz.zeroValue0
 t3:=Tryz.underlying3
 a3:=Tryz.isAgg3
 z3:=Tryz.sizeOf3
 v3:=Tryz.zeroValue3
 t4:=Tryz.underlying4
 a4:=Tryz.isAgg4
 z4:=Tryz.sizeOf4
 v4:=Tryz.zeroValue4
 t9:=Tryz.underlying9
 a9:=Tryz.isAgg9
 z9:=Tryz.sizeOf9
 v9:=Tryz.zeroValue9
 t31:=Tryz.underlying29
 a31:=Tryz.isAgg29
 z31:=Tryz.sizeOf29
 v31:=Tryz.zeroValue29 }
open Go.RowKit Go.Lib Go.Sort in
theorem Tryz.slices_Compact_string(blk off cap:Nat)(zs:List (List UInt8))(w:World)(hH:Holds encStr w blk off zs.toArray)(hsz:zs.length<=9223372036854775807)(hcap:zs.length<=cap):
  Calls Tryz.prog 81 #[.slice (some ⟨blk,off,none⟩) zs.length cap] w λ e w'=>e=.returned (.slice (some ⟨blk,off,none⟩) (Lib.compact zs).length cap)/\∃ q,w'=putRow encStr (Sort.ahead w q) blk off (Lib.compact zs++List.replicate (zs.length - (Lib.compact zs).length) []).toArray:=Any.slices_Compact_string Tryz.lays194 blk off cap zs w hH hsz hcap
open Go.RowKit Go.Lib Go.Sort in
theorem Tryz.slices_Compact_string_empty(a:Option Addr)(cap:Nat)(w:World):
  Calls Tryz.prog 81 #[.slice a 0 cap] w λ e w'=>e=.returned (.slice a 0 cap)/\w'=w:=Any.slices_Compact_string_empty Tryz.lays194 a cap w
open Go.RowKit Go.Sort in
theorem Tryz.slices_Sort_string_none(p:Option Addr)(cap:Nat)(w:World):
  Calls Tryz.prog 80 #[.slice p 0 cap] w λ e w'=>e=.returned (.tuple #[])/\w'=w:=Any.slices_Sort_string_none Tryz.lays190 p cap w
end Go.Proofs
namespace Go.Proofs.YtpmkkijamfgaeaaGreatDoor
open Go.RowKit
theorem fn_none{P:Program}{f:FuncId}{xs:List Dt}{y:Dt}{α:Type}{r:α}(h:(none:Option α)=some r):Fn P f xs y:=by cases h
theorem rd1{M:Nat->Prop}{w:World}{vs:List Value}{x:Dt}(h:RdAll M w vs [x]):∃ v,vs=[v]/\x.rd M w v:=by
 cases h with
 | cons h r=>cases r;exact⟨_,rfl,h⟩
theorem rd2{M:Nat->Prop}{w:World}{vs:List Value}{x y:Dt}(h:RdAll M w vs [x,y]):∃ u v,vs=[u,v]/\x.rd M w u/\y.rd M w v:=by
 cases h with
 | cons h r=>obtain⟨v,rfl,hv⟩:=rd1 r;exact⟨_,_,rfl,h,hv⟩
theorem fn_same{P:Program}{f:FuncId}{vs:Array Value}{M:Nat->Prop}{w:World}{v:Value}{y:Dt}(h:Calls P f vs w λ e w'=>e=.returned v/\w'=w)(hy:y.rd M w v):Calls P f vs w (λ e w'=>∃ v,e=.returned v/\Ext0 w w'/\y.rd M w' v):=
 h.mono λ e w' ⟨he,hw⟩=>⟨v,he,by rw[hw];exact Ext0.refl w,by rw[hw];exact hy⟩
def jh(s p:Str):Option Int:=match p.l with
 | [c]=>some (Lib.indexByte s.l c)
 | _=>none
def Z7(s p:Str):Option Int:=match p.l with
 | [c]=>some (Lib.countByte s.l c:Int)
 | _=>none
def WG(_:Str)(_:Int):Option (List Str):=none
theorem zcD{s p:Str}{r:Int}(h:jh s p=some r):Fn Tryz.prog 215 [dt s,dt p] (dt r):=λ M w vs _ hr=>by
 obtain⟨u,v,rfl,hu,hv⟩:=rd2 hr
 unfold jh at h
 split at h
 ·
  rename_i c hc
  injection h with h
  rw[(xd.1 hu).1,(xd.1 hv).1]
  have:=Tryz.strings_Index_one ⟨⟨s.l⟩⟩ c w
  refine fn_same (v:=.int .i64 r) ?_ (yv.2 rfl)
  simp only[strv,hc]
  rw[← h]
  exact this
 ·
  cases h
theorem zcE{s p:Str}{r:Int}(h:Z7 s p=some r):Fn Tryz.prog 214 [dt s,dt p] (dt r):=λ M w vs _ hr=>by
 obtain⟨u,v,rfl,hu,hv⟩:=rd2 hr
 unfold Z7 at h
 split at h
 ·
  rename_i c hc
  injection h with h
  rw[(xd.1 hu).1,(xd.1 hv).1]
  have:=Tryz.strings_Count_one ⟨⟨s.l⟩⟩ c w
  refine fn_same (v:=.int .i64 r) ?_ (yv.2 rfl)
  simp only[strv,hc]
  rw[← h]
  exact this
 ·
  cases h
theorem za3{s:Str}{n:Int}{r:List Str}(h:WG s n=some r):Fn Tryz.prog 213 [dt s,dt n] (dt r):=fn_none h
def wa(xs:List Str):Option (List Str):=if xs.length<4611686018427387904 then some (WX xs) else none
def xh(xs:List Str):Option (List Str):=if xs.length<=9223372036854775807 then some (Zq xs) else none
def Zr(xs:List Str)(p:Str):Option Str:=if xs.length<=140737488355328/\(Lib.join (xs.map (·.l)) p.l).length<=140737488355328 then some ⟨Lib.join (xs.map (·.l)) p.l⟩ else none
theorem XV{xs r:List Str}(h:wa xs=some r):FnIn Tryz.prog 80 9 xs r:=λ M0 g w v hm hn hv=>by
 unfold wa at h
 split at h
 ·
  rename_i hlen
  injection h with h
  subst h
  have none_:∀ A c,v=.slice A 0 c->xs=[]->Calls Tryz.prog 80 #[v] w (λ en w'=>∃ u,en=.returned u/\w.grownBy w' g/\(xs=[]->w'=w/\WX xs=[])/\(dtip g 9 (WX xs)).rd (insO g M0) w' v):=λ A c hA hx=>by
   subst hx
   rw[hA] at hv ⊢
   exact(Tryz.slices_Sort_string_none A c w).mono λ en w' ⟨he,hw⟩=>by
    subst hw
    exact⟨_,he,World.grownBy.refl _ _,λ _=>⟨rfl,sortS_nil⟩,by rw[sortS_nil];exact hv⟩
  rcases hv with⟨cells,hown,hrow,hb⟩ | ⟨hg,hx,A,hA⟩
  ·
   obtain⟨hc,hsm⟩:=za2 hrow
   rcases hown.2 with⟨h1,h2⟩ | ⟨b,cap,cur,h1,h2,h3,h4,h5,h6,h7⟩
   ·
    exact none_ _ _ h1 (List.eq_nil_of_length_eq_zero h2)
   ·
    by_cases hx:xs=[]
    ·
     subst hx;exact none_ _ _ h1 rfl
    ·
     have hgb:g=some b:=by rw[← hb,h1];rfl
     have hown':w.ownsRow 0 9 1 v xs.length ((xs.map (·.l)).map encStr):=by rw[← hc];exact hown
     have hH:Sort.Holds encStr w b 0 (xs.map (·.l)).toArray:=by
      obtain⟨g',cap',e1,_,_,_,_,_,hH⟩:=Lib.holds_of_ownsRow hown' (by rw[h1];simp)
      rw[h1] at e1
      injection e1 with e1
      injection e1 with e1
      injection e1 with e1
      subst e1
      exact hH
     have hs:=Tryz.slices_Sort_string b 0 cap (xs.map (·.l)) w hH (wA h3) (by simpa using hlen)
     rw[List.length_map,← h1] at hs
     refine hs.mono λ en w' ⟨he,n,os,hw⟩=>⟨_,he,?_,λ e=>absurd e hx,?_⟩
     ·
      rw[hw,hgb];exact grownBy_sorted _
     ·
      refine .inl ⟨((WX xs).map (·.l)).map encStr,?_,str_rowR λ x hx=>hsm x (sortS_mem.1 hx),hb⟩
      have:=ownsRow_sorted (n:=n) (os:=os) (ss:=xs.map (·.l)) (ts:=(WX xs).map (·.l)) (by simp[zbO]) h2 h3 (by simpa using h4) h5 h6
      rw[zbO,hw,h1]
      rw[List.length_map,sortS_l] at this
      rw[sortS_l]
      exact this
  ·
   exact none_ A 0 hA hx
 ·
  cases h
theorem Y7{xs r:List Str}(h:xh xs=some r):zaj Tryz.prog 81 9 xs [] r:=λ M0 g w v vs hm hn hv hvs=>by
 cases hvs
 unfold xh at h
 split at h
 ·
  rename_i hlen
  injection h with h
  subst h
  have hlt:∀ b,g=some b->b<w.heap.size:=λ b hb=>hm b (.inr hb)
  have none_:∀ A c,v=.slice A 0 c->xs=[]->Calls Tryz.prog 81 #[v] w (λ en w'=>∃ v' g',en=.returned v'/\w.grownBy w' g/\(g'=g\/∀ b,g'=some b->w.heap.size<=b)/\(∀ b,g'=some b->b<w'.heap.size)/\(dtip g' 9 (Zq xs)).rd (insO g' M0) w' v'):=λ A c hA hx=>by
   subst hx
   rw[hA] at hv ⊢
   exact(Tryz.slices_Compact_string_empty A c w).mono λ en w' ⟨he,hw⟩=>by
    subst hw
    exact⟨_,g,he,World.grownBy.refl _ _,.inl rfl,hlt,hv⟩
  rcases hv with⟨cells,hown,hrow,hb⟩ | ⟨hg,hx,A,hA⟩
  ·
   obtain⟨hc,hsm⟩:=za2 hrow
   rcases hown.2 with⟨h1,h2⟩ | ⟨b,cap,cur,h1,h2,h3,h4,h5,h6,h7⟩
   ·
    exact none_ _ _ h1 (List.eq_nil_of_length_eq_zero h2)
   ·
    have hgb:g=some b:=by rw[← hb,h1];rfl
    have hown':w.ownsRow 0 9 1 v xs.length ((xs.map (·.l)).map encStr):=by rw[← hc];exact hown
    have hH:Sort.Holds encStr w b 0 (xs.map (·.l)).toArray:=by
     obtain⟨g',cap',e1,_,_,_,_,_,hH⟩:=Lib.holds_of_ownsRow hown' (by rw[h1];simp)
     rw[h1] at e1
     injection e1 with e1
     injection e1 with e1
     injection e1 with e1
     subst e1
     exact hH
    have hs:=Tryz.slices_Compact_string b 0 cap (xs.map (·.l)) w hH (by simpa using hlen) (by simpa using h4)
    rw[List.length_map,← h1] at hs
    have hle:=Lib.compact_length_le (xs.map (·.l))
    rw[List.length_map] at hle
    refine hs.mono λ en w' ⟨he,q,hw⟩=>?_
    have hgr:w.grownBy w' g:=by
     rw[hw,hgb]
     have:=grownBy_sorted (w:=w) (g:=b) (n:=q) (os:=#[]) (Lib.compact (xs.map λ x:Str=>x.l)++List.replicate (xs.length - (Lib.compact (xs.map λ x:Str=>x.l)).length) []).toArray
     rwa[Sort.grow_empty] at this
    refine⟨_,g,he,hgr,.inl rfl,λ c hc=>Nat.lt_of_lt_of_le (hlt c hc) hgr.size,.inl ⟨((Zq xs).map (·.l)).map encStr,?_,str_rowR λ x hx=>hsm x (compactS_mem hx),by rw[hgb];rfl⟩⟩
    have e1:(Zq xs).map (·.l)=Lib.compact (xs.map (·.l)):=map_mk _
    have e2:(Zq xs).length=(Lib.compact (xs.map (·.l))).length:=by simp[Zq]
    rw[e1,e2,hw]
    rw[h1] at hown'
    have:=Lib.ownsRow_putRow (q:=q) (ys:=Lib.compact (xs.map (·.l))++List.replicate (xs.length - (Lib.compact (xs.map (·.l))).length) []) hown' (by simp;omega) (k:=(Lib.compact (xs.map (·.l))).length) hle
    rwa[List.take_left'] at this
    rfl
  ·
   exact none_ A 0 hA hx
 ·
  cases h
theorem zcU{xs:List Str}{p r:Str}(h:Zr xs p=some r):Fn Tryz.prog 84 [dt xs,dt p] (dt r):=λ M w vs hm hr=>by
 obtain⟨u,v,rfl,hu,hv⟩:=rd2 hr
 unfold Zr at h
 split at h
 ·
  rename_i hc
  injection h with h
  subst h
  obtain⟨cs,⟨A,c,hcs,h1,h2,h3⟩,hu'⟩:=hu
  subst hcs
  have hu2:u=.slice A xs.length c:=hu'
  have hv2:=(xd.1 hv).1
  rw[hu2,hv2]
  have fin:∀ (e:Ending) (w':World),e=.returned (.string ⟨(Lib.join (xs.map (·.l)) p.l).toArray⟩)/\Below w.heap.size w w'->∃ v,e=.returned v/\Ext0 w w'/\(dt (⟨Lib.join (xs.map (·.l)) p.l⟩:Str)).rd M w' v:=λ e w' ⟨he,hw⟩=>
   ⟨_,he,hw,xd.2 ⟨rfl,by unfold maxLen;show(Lib.join (xs.map (·.l)) p.l).length<=_;omega⟩⟩
  rcases h3 with rfl | ⟨b,o,cells,rfl,hb,hcell,hrow⟩
  ·
   exact(Tryz.strings_Join_none A c ⟨⟨p.l⟩⟩ w).mono λ e w' ⟨he,hw⟩=>fin e w' ⟨he,by rw[hw];exact Ext0.refl w⟩
  ·
   by_cases hx:xs=[]
   ·
    subst hx
    exact(Tryz.strings_Join_none (some ⟨b,o,none⟩) c ⟨⟨p.l⟩⟩ w).mono λ e w' ⟨he,hw⟩=>fin e w' ⟨he,by rw[hw];exact Ext0.refl w⟩
   ·
    obtain⟨hcc,_⟩:=za2 hrow
    have hj:=Tryz.strings_Join b o c (xs.map λ x=>(⟨⟨x.l⟩⟩:ByteArray)) ⟨⟨p.l⟩⟩ w (λ j x hj=>by
     rw[List.getElem?_map,Option.map_eq_some_iff] at hj
     obtain⟨y,hy,rfl⟩:=hj
     refine hcell j _ ?_
     rw[hcc,List.getElem?_map,List.getElem?_map,hy]
     rfl) (by
     obtain⟨x,xs',rfl⟩:=List.exists_cons_of_ne_nil hx
     exact zaQ (hcell 0 (strv x) (by rw[hcc];rfl))) (by simpa using hc.1) (by simpa using h1) (by simpa[Function.comp_def] using hc.2)
    rw[List.length_map] at hj
    have e1:(xs.map λ x=>(⟨⟨x.l⟩⟩:ByteArray)).map (·.data.toList)=xs.map (·.l):=by rw[List.map_map];rfl
    rw[e1] at hj
    exact hj.mono fin
 ·
  cases h
open Go.RowKit
def xM(s p:Str):Option Int:=jh s p
theorem XK{s p:Str}{r:Int}(h:xM s p=some r):Fn Tryz.prog 242 [dt s,dt p] (dt r):=λ M w vs _ hr=>by
 obtain⟨u,v,rfl,hu,hv⟩:=rd2 hr
 unfold xM jh at h
 split at h
 ·
  rename_i c hc
  injection h with h
  rw[(xd.1 hu).1,(xd.1 hv).1]
  have:=Tryz.stringslite_Index_one ⟨⟨s.l⟩⟩ c w
  refine fn_same (v:=.int .i64 r) ?_ (yv.2 rfl)
  simp only[strv,hc]
  rw[← h]
  exact this
 ·
  cases h
end Go.Proofs.YtpmkkijamfgaeaaGreatDoor
