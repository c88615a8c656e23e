import Derived.Shelf.Strings.Builder1
import Derived.Shelf.Strings.Builder2
import Derived.Shelf.Strings.OnBuilder
import Derived.Shelf.Small.Bits
import Derived.Shelf.Strings.BuilderF
import Derived.Shelf.Strings.BuilderK
import Derived.Shelf.Strings.Builder2Cap
import Derived.Shelf.Strconv.Itoa0
import Derived.Shelf.Strings.Search1
import Derived.Shelf.Strings.Search2
import Derived.Shelf.Strings.Search3
import Derived.Shelf.Strings.Cut
import Derived.Shelf.Strings.Count
import Derived.Shelf.LaysM
import Derived.Shelf.Strings.Shaped
import Derived.Shelf.Sort.Plain
import Derived.Shelf.Strings.LastIndex
import Derived.Shelf.Strings.Prefix
import Derived.Shelf.Unicode.DecodeSlow
import Derived.Shelf.Strings.BuilderCap
import Derived.Shelf.Slices.Turned
import Derived.Shelf.Slices.CompactS
import Derived.Shelf.Slices.Cells
import Derived.Shelf.Slices.In.SortNone
import Derived.Ground.PaProg
import Derived.Shelf.Path.Small
import Derived.Test.YtnlhpkbphdbknaaGreatDoorProg
import Derived.Test.YtnlhpkbphdbknaaGreatDoorRB
namespace Go.Proofs
open Go.Shelf
def Tryz.lays219_ren:Go.Shelf.Ren:=⟨λ | 219=>182 | 217=>201 | 225=>202 | 224=>203 | 267=>204 | 266=>215 | 314=>216 | n=>n,λ | 9=>9 | 3=>3 | 4=>4 | 5=>5 | 46=>160 | 146=>240 | 51=>193 | n=>n,λ | 1=>0 | n=>n⟩
theorem Tryz.lays219:Go.Proofs.Lays.n219 Tryz.prog Tryz.lays219_ren:={
 mixed:=by kernel_rfl
 f217:=Tryz.func201.trans (congrArg some (by kernel_rfl))
 f219:=Tryz.func182.trans (congrArg some (by kernel_rfl))
 f224:=Tryz.func203.trans (congrArg some (by kernel_rfl))
 f225:=Tryz.func202.trans (congrArg some (by kernel_rfl))
 f266:=Tryz.func215.trans (congrArg some (by kernel_rfl))
 f267:=Tryz.func204.trans (congrArg some (by kernel_rfl))
 f314:=Tryz.func216.trans (congrArg some (by kernel_rfl))
 t3:=Tryz.underlying3
 a3:=Tryz.isAgg3
 z3:=Tryz.sizeOf3
 v3:=Tryz.zeroValue3
 t4:=Tryz.underlying4
 a4:=Tryz.isAgg4
 z4:=Tryz.sizeOf4
 v4:=Tryz.zeroValue4
 t5:=Tryz.underlying5
 a5:=Tryz.isAgg5
 z5:=Tryz.sizeOf5
 v5:=Tryz.zeroValue5
 t9:=Tryz.underlying9
 a9:=Tryz.isAgg9
 z9:=Tryz.sizeOf9
 v9:=Tryz.zeroValue9
 t46:=Tryz.underlying160
 a46:=Tryz.isAgg160
 z46:=Tryz.sizeOf160
 v46:=Tryz.zeroValue160
 t51:=Tryz.underlying193
 a51:=Tryz.isAgg193
 z51:=Tryz.sizeOf193
 v51:=Tryz.zeroValue193
 t146:=Tryz.underlying240
 a146:=Tryz.isAgg240
 z146:=Tryz.sizeOf240
 v146:=Tryz.zeroValue240
 g1:=by kernel_rfl }
open Go.RowKit Go.Lib in
theorem Tryz.stringslite_Index_one(s:ByteArray)(c:UInt8)(w:World):
  Calls Tryz.prog 182 #[.string s,.string ⟨#[c]⟩] w λ e w'=>e=.returned (.int .i64 (Lib.indexByte s.data.toList c))/\w'=w:=Any.stringslite_Index_one Tryz.lays219 s c w
def Tryz.lays143_ren:Go.Shelf.Ren:=⟨λ | 143=>150 | 219=>182 | 217=>201 | 225=>202 | 224=>203 | 267=>204 | 266=>215 | 314=>216 | n=>n,λ | 9=>9 | 3=>3 | 4=>4 | 5=>5 | 46=>160 | 146=>240 | 51=>193 | n=>n,λ | 1=>0 | n=>n⟩
theorem Tryz.lays143:Go.Proofs.Lays.n143 Tryz.prog Tryz.lays143_ren:={
 mixed:=by kernel_rfl
 f143:=Tryz.func150.trans (congrArg some (by kernel_rfl))
 f217:=Tryz.func201.trans (congrArg some (by kernel_rfl))
 f219:=Tryz.func182.trans (congrArg some (by kernel_rfl))
 f224:=Tryz.func203.trans (congrArg some (by kernel_rfl))
 f225:=Tryz.func202.trans (congrArg some (by kernel_rfl))
 f266:=Tryz.func215.trans (congrArg some (by kernel_rfl))
 f267:=Tryz.func204.trans (congrArg some (by kernel_rfl))
 f314:=Tryz.func216.trans (congrArg some (by kernel_rfl))
 t3:=Tryz.underlying3
 a3:=Tryz.isAgg3
 z3:=Tryz.sizeOf3
 v3:=Tryz.zeroValue3
 t4:=Tryz.underlying4
 a4:=Tryz.isAgg4
 z4:=Tryz.sizeOf4
 v4:=Tryz.zeroValue4
 t5:=Tryz.underlying5
 a5:=Tryz.isAgg5
 z5:=Tryz.sizeOf5
 v5:=Tryz.zeroValue5
 t9:=Tryz.underlying9
 a9:=Tryz.isAgg9
 z9:=Tryz.sizeOf9
 v9:=Tryz.zeroValue9
 t46:=Tryz.underlying160
 a46:=Tryz.isAgg160
 z46:=Tryz.sizeOf160
 v46:=Tryz.zeroValue160
 t51:=Tryz.underlying193
 a51:=Tryz.isAgg193
 z51:=Tryz.sizeOf193
 v51:=Tryz.zeroValue193
 t146:=Tryz.underlying240
 a146:=Tryz.isAgg240
 z146:=Tryz.sizeOf240
 v146:=Tryz.zeroValue240
 g1:=by kernel_rfl }
open Go.RowKit Go.Lib in
theorem Tryz.strings_Index_one(s:ByteArray)(c:UInt8)(w:World):
  Calls Tryz.prog 150 #[.string s,.string ⟨#[c]⟩] w λ e w'=>e=.returned (.int .i64 (Lib.indexByte s.data.toList c))/\w'=w:=Any.strings_Index_one Tryz.lays143 s c w
def Tryz.lays138_ren:Go.Shelf.Ren:=⟨λ | 138=>149 | 195=>179 | 218=>181 | 143=>150 | 219=>182 | 217=>201 | 225=>202 | 224=>203 | 267=>204 | 266=>215 | 314=>216 | n=>n,λ | 9=>9 | 3=>3 | 4=>4 | 5=>5 | 0=>0 | 46=>160 | 146=>240 | 51=>193 | n=>n,λ | 1=>0 | n=>n⟩
theorem Tryz.lays138:Go.Proofs.Lays.n138 Tryz.prog Tryz.lays138_ren:={
 mixed:=by kernel_rfl
 f138:=Tryz.func149.trans (congrArg some (by kernel_rfl))
 f143:=Tryz.func150.trans (congrArg some (by kernel_rfl))
 f195:=Tryz.func179.trans (congrArg some (by kernel_rfl))
 f217:=Tryz.func201.trans (congrArg some (by kernel_rfl))
 f218:=Tryz.func181.trans (congrArg some (by kernel_rfl))
 f219:=Tryz.func182.trans (congrArg some (by kernel_rfl))
 f224:=Tryz.func203.trans (congrArg some (by kernel_rfl))
 f225:=Tryz.func202.trans (congrArg some (by kernel_rfl))
 f266:=Tryz.func215.trans (congrArg some (by kernel_rfl))
 f267:=Tryz.func204.trans (congrArg some (by kernel_rfl))
 f314:=Tryz.func216.trans (congrArg some (by kernel_rfl))
 t0:=Tryz.underlying0
 a0:=Tryz.isAgg0
 z0:=Tryz.sizeOf0
 v0:=Tryz.zeroValue0
 t3:=Tryz.underlying3
 a3:=Tryz.isAgg3
 z3:=Tryz.sizeOf3
 v3:=Tryz.zeroValue3
 t4:=Tryz.underlying4
 a4:=Tryz.isAgg4
 z4:=Tryz.sizeOf4
 v4:=Tryz.zeroValue4
 t5:=Tryz.underlying5
 a5:=Tryz.isAgg5
 z5:=Tryz.sizeOf5
 v5:=Tryz.zeroValue5
 t9:=Tryz.underlying9
 a9:=Tryz.isAgg9
 z9:=Tryz.sizeOf9
 v9:=Tryz.zeroValue9
 t46:=Tryz.underlying160
 a46:=Tryz.isAgg160
 z46:=Tryz.sizeOf160
 v46:=Tryz.zeroValue160
 t51:=Tryz.underlying193
 a51:=Tryz.isAgg193
 z51:=Tryz.sizeOf193
 v51:=Tryz.zeroValue193
 t146:=Tryz.underlying240
 a146:=Tryz.isAgg240
 z146:=Tryz.sizeOf240
 v146:=Tryz.zeroValue240
 g1:=by kernel_rfl }
open Go.RowKit Go.Lib in
theorem Tryz.strings_Count_one(s:ByteArray)(c:UInt8)(w:World):
  Calls Tryz.prog 149 #[.string s,.string ⟨#[c]⟩] w λ e w'=>e=.returned (.int .i64 (Lib.countByte s.data.toList c))/\w'=w:=Any.strings_Count_one Tryz.lays138 s c w
end Go.Proofs
namespace Go.Proofs.YtnlhpkbphdbknaaGreatDoor
open Go.RowKit
theorem fn_none{P:Program}{f:FuncId}{xs:List Dt}{y:Dt}{α:Type}{r:α}(h:(none:Option α)=some r):Fn P f xs y:=by cases h
theorem rd1{M:Nat->Prop}{w:World}{vs:List Value}{x:Dt}(h:RdAll M w vs [x]):∃ v,vs=[v]/\x.rd M w v:=by
 cases h with
 | cons h r=>cases r;exact⟨_,rfl,h⟩
theorem rd2{M:Nat->Prop}{w:World}{vs:List Value}{x y:Dt}(h:RdAll M w vs [x,y]):∃ u v,vs=[u,v]/\x.rd M w u/\y.rd M w v:=by
 cases h with
 | cons h r=>obtain⟨v,rfl,hv⟩:=rd1 r;exact⟨_,_,rfl,h,hv⟩
theorem fn_same{P:Program}{f:FuncId}{vs:Array Value}{M:Nat->Prop}{w:World}{v:Value}{y:Dt}(h:Calls P f vs w λ e w'=>e=.returned v/\w'=w)(hy:y.rd M w v):Calls P f vs w (λ e w'=>∃ v,e=.returned v/\Ext0 w w'/\y.rd M w' v):=
 h.mono λ e w' ⟨he,hw⟩=>⟨v,he,by rw[hw];exact Ext0.refl w,by rw[hw];exact hy⟩
def jd(s p:Str):Option Int:=match p.l with
 | [c]=>some (Lib.indexByte s.l c)
 | _=>none
def ZN(s p:Str):Option Int:=match p.l with
 | [c]=>some (Lib.countByte s.l c:Int)
 | _=>none
def XA(_:Str)(_:Int):Option (List Str):=none
theorem zaU{s p:Str}{r:Int}(h:jd s p=some r):Fn Tryz.prog 150 [dt s,dt p] (dt r):=λ M w vs _ hr=>by
 obtain⟨u,v,rfl,hu,hv⟩:=rd2 hr
 unfold jd at h
 split at h
 ·
  rename_i c hc
  injection h with h
  rw[(wv.1 hu).1,(wv.1 hv).1]
  have:=Tryz.strings_Index_one ⟨⟨s.l⟩⟩ c w
  refine fn_same (v:=.int .i64 r) ?_ (yK.2 rfl)
  simp only[strv,hc]
  rw[← h]
  exact this
 ·
  cases h
theorem zaV{s p:Str}{r:Int}(h:ZN s p=some r):Fn Tryz.prog 149 [dt s,dt p] (dt r):=λ M w vs _ hr=>by
 obtain⟨u,v,rfl,hu,hv⟩:=rd2 hr
 unfold ZN at h
 split at h
 ·
  rename_i c hc
  injection h with h
  rw[(wv.1 hu).1,(wv.1 hv).1]
  have:=Tryz.strings_Count_one ⟨⟨s.l⟩⟩ c w
  refine fn_same (v:=.int .i64 r) ?_ (yK.2 rfl)
  simp only[strv,hc]
  rw[← h]
  exact this
 ·
  cases h
theorem Qu{s:Str}{n:Int}{r:List Str}(h:XA s n=some r):Fn Tryz.prog 148 [dt s,dt n] (dt r):=fn_none h
open Go.RowKit
def xP(s p:Str):Option Int:=jd s p
theorem YO{s p:Str}{r:Int}(h:xP s p=some r):Fn Tryz.prog 182 [dt s,dt p] (dt r):=λ M w vs _ hr=>by
 obtain⟨u,v,rfl,hu,hv⟩:=rd2 hr
 unfold xP jd at h
 split at h
 ·
  rename_i c hc
  injection h with h
  rw[(wv.1 hu).1,(wv.1 hv).1]
  have:=Tryz.stringslite_Index_one ⟨⟨s.l⟩⟩ c w
  refine fn_same (v:=.int .i64 r) ?_ (yK.2 rfl)
  simp only[strv,hc]
  rw[← h]
  exact this
 ·
  cases h
end Go.Proofs.YtnlhpkbphdbknaaGreatDoor
