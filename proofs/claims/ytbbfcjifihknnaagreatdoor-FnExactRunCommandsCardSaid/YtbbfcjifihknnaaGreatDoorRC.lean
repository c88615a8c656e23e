import Derived.Shelf.Strings.Builder1
import Derived.Shelf.Strings.Builder2
import Derived.Shelf.Strings.OnBuilder
import Derived.Shelf.Small.Bits
import Derived.Shelf.Strings.BuilderF
import Derived.Shelf.Strings.BuilderK
import Derived.Shelf.Strings.Builder2Cap
import Derived.Shelf.Strconv.Atoi
import Derived.Shelf.Strconv.Itoa0
import Derived.Shelf.Strconv.Itoa1
import Derived.Shelf.LaysM
import Derived.Shelf.Strconv.Itoa2
import Derived.Shelf.Strconv.Itoa3
import Derived.Shelf.Strconv.AtoiErrFast
import Derived.Shelf.Strconv.ParseIntEmpty
import Derived.Shelf.Strconv.AtoiFail
import Derived.Shelf.Strconv.Clone
import Derived.Shelf.Strconv.SyntaxError
import Derived.Shelf.LaysC
import Derived.Shelf.Strconv.ToError
import Derived.Shelf.Strconv.Lower
import Derived.Shelf.Strconv.ParseUint10
import Derived.Shelf.Strconv.ParseUint10Empty
import Derived.Shelf.Strconv.ParseUint10Any
import Derived.Shelf.Strconv.ParseInt10
import Derived.Shelf.Strconv.AtoiLong
import Derived.Shelf.Strconv.AtoiInnerAll
import Derived.Shelf.Strconv.RangeError
import Derived.Shelf.Strconv.ToErrorRange
import Derived.Shelf.Strconv.AtoiAll
import Derived.Shelf.Strings.Search1
import Derived.Shelf.Strings.Search2
import Derived.Shelf.Strings.Search3
import Derived.Shelf.Strings.Cut
import Derived.Shelf.Strings.Count
import Derived.Shelf.Strings.Shaped
import Derived.Shelf.Sort.Plain
import Derived.Shelf.Strings.LastIndex
import Derived.Shelf.Strings.Prefix
import Derived.Shelf.Unicode.DecodeSlow
import Derived.Shelf.Strings.BuilderCap
import Derived.Shelf.Slices.Turned
import Derived.Shelf.Slices.CompactS
import Derived.Shelf.Slices.Cells
import Derived.Shelf.Slices.In.SortNone
import Derived.Ground.PaProg
import Derived.Shelf.Path.Small
import Derived.Test.YtbbfcjifihknnaaGreatDoorProg
import Derived.Test.YtbbfcjifihknnaaGreatDoorRB
namespace Go.Proofs
open Go.Shelf
def Tryz.lays156_ren:Go.Shelf.Ren:=⟨λ | 156=>130 | 165=>199 | 166=>200 | 169=>201 | 240=>254 | 241=>255 | 276=>292 | 277=>293 | n=>n,λ | 31=>64 | 9=>9 | 3=>3 | 4=>4 | 0=>0 | 20=>20 | 72=>249 | 76=>244 | 70=>247 | 37=>162 | 75=>243 | 127=>286 | 164=>306 | 5=>5 | 80=>251 | n=>n,λ | n=>n⟩
theorem Tryz.lays156:Go.Proofs.Lays.n156 Tryz.prog Tryz.lays156_ren:={
 mixed:=by kernel_rfl
 f156:=Tryz.func130.trans (congrArg some (by kernel_rfl))
 f165:=Tryz.func199.trans (congrArg some (by kernel_rfl))
 f166:=Tryz.func200.trans (congrArg some (by kernel_rfl))
 f169:=Tryz.func201.trans (congrArg some (by kernel_rfl))
 f240:=Tryz.func254.trans (congrArg some (by kernel_rfl))
 f241:=Tryz.func255.trans (congrArg some (by kernel_rfl))
 f276:=Tryz.func292.trans (congrArg some (by kernel_rfl))
 f277:=Tryz.func293.trans (congrArg some (by kernel_rfl))
 t0:=Tryz.underlying0
 a0:=Tryz.isAgg0
 z0:=Tryz.sizeOf0
 v0:=Tryz.zeroValue0
 t3:=Tryz.underlying3
 a3:=Tryz.isAgg3
 z3:=Tryz.sizeOf3
 v3:=Tryz.zeroValue3
 t4:=Tryz.underlying4
 a4:=Tryz.isAgg4
 z4:=Tryz.sizeOf4
 v4:=Tryz.zeroValue4
 t9:=Tryz.underlying9
 a9:=Tryz.isAgg9
 z9:=Tryz.sizeOf9
 v9:=Tryz.zeroValue9
 t20:=Tryz.underlying20
 a20:=Tryz.isAgg20
 z20:=Tryz.sizeOf20
 v20:=Tryz.zeroValue20
 t31:=Tryz.underlying64
 a31:=Tryz.isAgg64
 z31:=Tryz.sizeOf64
 v31:=Tryz.zeroValue64
 t37:=Tryz.underlying162
 a37:=Tryz.isAgg162
 z37:=Tryz.sizeOf162
 v37:=Tryz.zeroValue162
 t70:=Tryz.underlying247
 a70:=Tryz.isAgg247
 z70:=Tryz.sizeOf247
 v70:=Tryz.zeroValue247
 t72:=Tryz.underlying249
 a72:=Tryz.isAgg249
 z72:=Tryz.sizeOf249
 v72:=Tryz.zeroValue249
 t75:=Tryz.underlying243
 a75:=Tryz.isAgg243
 z75:=Tryz.sizeOf243
 v75:=Tryz.zeroValue243
 t76:=Tryz.underlying244
 a76:=Tryz.isAgg244
 z76:=Tryz.sizeOf244
 v76:=Tryz.zeroValue244
 t127:=Tryz.underlying286
 a127:=Tryz.isAgg286
 z127:=Tryz.sizeOf286
 v127:=Tryz.zeroValue286
 t164:=Tryz.underlying306
 a164:=Tryz.isAgg306
 z164:=Tryz.sizeOf306
 v164:=Tryz.zeroValue306 }
theorem Tryz.Builder_Extra_156:Builder.Extra Tryz.prog Tryz.lays156_ren:={
 sizeBuilder:=by kernel_rfl
 liesBuilder:=by kernel_rfl
 t5:=Tryz.underlying5
 a5:=Tryz.isAgg5
 z5:=Tryz.sizeOf5
 v5:=Tryz.zeroValue5
 infoByte:=by kernel_rfl
 cellsByte:=by kernel_rfl
 sizeByte:=by kernel_rfl
 neB5:=by decide }
open Go.RowKit in
theorem Tryz.strings_Join_none(a:Option Addr)(c:Nat)(sep:ByteArray)(w:World):
  Calls Tryz.prog 130 #[.slice a 0 c,.string sep] w λ e w'=>e=.returned (.string ⟨#[]⟩)/\w'=w:=Any.strings_Join_none Tryz.lays156 Tryz.Builder_Extra_156 a c sep w
open Go.RowKit in
theorem Tryz.strings_Join(bk o c:Nat)(xs:List ByteArray)(sep:ByteArray)(w:World)(hcells:∀ (j:Nat) x,xs[j]?=some x->w.cell? ⟨bk,o+j,none⟩=some (.string x))(hbk:bk<w.heap.size)(hN:xs.length<=140737488355328)(hcap:xs.length<=c)(hlen:(Lib.join (xs.map (·.data.toList)) sep.data.toList).length<=140737488355328):
  Calls Tryz.prog 130 #[.slice (some ⟨bk,o,none⟩) xs.length c,.string sep] w λ e w'=>e=.returned (.string ⟨(Lib.join (xs.map (·.data.toList)) sep.data.toList).toArray⟩)/\Below w.heap.size w w':=Any.strings_Join Tryz.lays156 Tryz.Builder_Extra_156 bk o c xs sep w hcells hbk hN hcap hlen
def Tryz.lays219_ren:Go.Shelf.Ren:=⟨λ | 219=>259 | 217=>299 | 225=>300 | 224=>301 | 267=>302 | 266=>325 | 314=>326 | n=>n,λ | 9=>9 | 3=>3 | 4=>4 | 5=>5 | 46=>315 | 146=>332 | 51=>330 | n=>n,λ | 1=>2 | n=>n⟩
theorem Tryz.lays219:Go.Proofs.Lays.n219 Tryz.prog Tryz.lays219_ren:={
 mixed:=by kernel_rfl
 f217:=Tryz.func299.trans (congrArg some (by kernel_rfl))
 f219:=Tryz.func259.trans (congrArg some (by kernel_rfl))
 f224:=Tryz.func301.trans (congrArg some (by kernel_rfl))
 f225:=Tryz.func300.trans (congrArg some (by kernel_rfl))
 f266:=Tryz.func325.trans (congrArg some (by kernel_rfl))
 f267:=Tryz.func302.trans (congrArg some (by kernel_rfl))
 f314:=Tryz.func326.trans (congrArg some (by kernel_rfl))
 t3:=Tryz.underlying3
 a3:=Tryz.isAgg3
 z3:=Tryz.sizeOf3
 v3:=Tryz.zeroValue3
 t4:=Tryz.underlying4
 a4:=Tryz.isAgg4
 z4:=Tryz.sizeOf4
 v4:=Tryz.zeroValue4
 t5:=Tryz.underlying5
 a5:=Tryz.isAgg5
 z5:=Tryz.sizeOf5
 v5:=Tryz.zeroValue5
 t9:=Tryz.underlying9
 a9:=Tryz.isAgg9
 z9:=Tryz.sizeOf9
 v9:=Tryz.zeroValue9
 t46:=Tryz.underlying315
 a46:=Tryz.isAgg315
 z46:=Tryz.sizeOf315
 v46:=Tryz.zeroValue315
 t51:=Tryz.underlying330
 a51:=Tryz.isAgg330
 z51:=Tryz.sizeOf330
 v51:=Tryz.zeroValue330
 t146:=Tryz.underlying332
 a146:=Tryz.isAgg332
 z146:=Tryz.sizeOf332
 v146:=Tryz.zeroValue332
 g1:=by kernel_rfl }
open Go.RowKit Go.Lib in
theorem Tryz.stringslite_Index_one(s:ByteArray)(c:UInt8)(w:World):
  Calls Tryz.prog 259 #[.string s,.string ⟨#[c]⟩] w λ e w'=>e=.returned (.int .i64 (Lib.indexByte s.data.toList c))/\w'=w:=Any.stringslite_Index_one Tryz.lays219 s c w
def Tryz.lays143_ren:Go.Shelf.Ren:=⟨λ | 143=>251 | 219=>259 | 217=>299 | 225=>300 | 224=>301 | 267=>302 | 266=>325 | 314=>326 | n=>n,λ | 9=>9 | 3=>3 | 4=>4 | 5=>5 | 46=>315 | 146=>332 | 51=>330 | n=>n,λ | 1=>2 | n=>n⟩
theorem Tryz.lays143:Go.Proofs.Lays.n143 Tryz.prog Tryz.lays143_ren:={
 mixed:=by kernel_rfl
 f143:=Tryz.func251.trans (congrArg some (by kernel_rfl))
 f217:=Tryz.func299.trans (congrArg some (by kernel_rfl))
 f219:=Tryz.func259.trans (congrArg some (by kernel_rfl))
 f224:=Tryz.func301.trans (congrArg some (by kernel_rfl))
 f225:=Tryz.func300.trans (congrArg some (by kernel_rfl))
 f266:=Tryz.func325.trans (congrArg some (by kernel_rfl))
 f267:=Tryz.func302.trans (congrArg some (by kernel_rfl))
 f314:=Tryz.func326.trans (congrArg some (by kernel_rfl))
 t3:=Tryz.underlying3
 a3:=Tryz.isAgg3
 z3:=Tryz.sizeOf3
 v3:=Tryz.zeroValue3
 t4:=Tryz.underlying4
 a4:=Tryz.isAgg4
 z4:=Tryz.sizeOf4
 v4:=Tryz.zeroValue4
 t5:=Tryz.underlying5
 a5:=Tryz.isAgg5
 z5:=Tryz.sizeOf5
 v5:=Tryz.zeroValue5
 t9:=Tryz.underlying9
 a9:=Tryz.isAgg9
 z9:=Tryz.sizeOf9
 v9:=Tryz.zeroValue9
 t46:=Tryz.underlying315
 a46:=Tryz.isAgg315
 z46:=Tryz.sizeOf315
 v46:=Tryz.zeroValue315
 t51:=Tryz.underlying330
 a51:=Tryz.isAgg330
 z51:=Tryz.sizeOf330
 v51:=Tryz.zeroValue330
 t146:=Tryz.underlying332
 a146:=Tryz.isAgg332
 z146:=Tryz.sizeOf332
 v146:=Tryz.zeroValue332
 g1:=by kernel_rfl }
open Go.RowKit Go.Lib in
theorem Tryz.strings_Index_one(s:ByteArray)(c:UInt8)(w:World):
  Calls Tryz.prog 251 #[.string s,.string ⟨#[c]⟩] w λ e w'=>e=.returned (.int .i64 (Lib.indexByte s.data.toList c))/\w'=w:=Any.strings_Index_one Tryz.lays143 s c w
def Tryz.lays138_ren:Go.Shelf.Ren:=⟨λ | 138=>250 | 195=>284 | 218=>286 | 143=>251 | 219=>259 | 217=>299 | 225=>300 | 224=>301 | 267=>302 | 266=>325 | 314=>326 | n=>n,λ | 9=>9 | 3=>3 | 4=>4 | 5=>5 | 0=>0 | 46=>315 | 146=>332 | 51=>330 | n=>n,λ | 1=>2 | n=>n⟩
theorem Tryz.lays138:Go.Proofs.Lays.n138 Tryz.prog Tryz.lays138_ren:={
 mixed:=by kernel_rfl
 f138:=Tryz.func250.trans (congrArg some (by kernel_rfl))
 f143:=Tryz.func251.trans (congrArg some (by kernel_rfl))
 f195:=Tryz.func284.trans (congrArg some (by kernel_rfl))
 f217:=Tryz.func299.trans (congrArg some (by kernel_rfl))
 f218:=Tryz.func286.trans (congrArg some (by kernel_rfl))
 f219:=Tryz.func259.trans (congrArg some (by kernel_rfl))
 f224:=Tryz.func301.trans (congrArg some (by kernel_rfl))
 f225:=Tryz.func300.trans (congrArg some (by kernel_rfl))
 f266:=Tryz.func325.trans (congrArg some (by kernel_rfl))
 f267:=Tryz.func302.trans (congrArg some (by kernel_rfl))
 f314:=Tryz.func326.trans (congrArg some (by kernel_rfl))
 t0:=Tryz.underlying0
 a0:=Tryz.isAgg0
 z0:=Tryz.sizeOf0
 v0:=Tryz.zeroValue0
 t3:=Tryz.underlying3
 a3:=Tryz.isAgg3
 z3:=Tryz.sizeOf3
 v3:=Tryz.zeroValue3
 t4:=Tryz.underlying4
 a4:=Tryz.isAgg4
 z4:=Tryz.sizeOf4
 v4:=Tryz.zeroValue4
 t5:=Tryz.underlying5
 a5:=Tryz.isAgg5
 z5:=Tryz.sizeOf5
 v5:=Tryz.zeroValue5
 t9:=Tryz.underlying9
 a9:=Tryz.isAgg9
 z9:=Tryz.sizeOf9
 v9:=Tryz.zeroValue9
 t46:=Tryz.underlying315
 a46:=Tryz.isAgg315
 z46:=Tryz.sizeOf315
 v46:=Tryz.zeroValue315
 t51:=Tryz.underlying330
 a51:=Tryz.isAgg330
 z51:=Tryz.sizeOf330
 v51:=Tryz.zeroValue330
 t146:=Tryz.underlying332
 a146:=Tryz.isAgg332
 z146:=Tryz.sizeOf332
 v146:=Tryz.zeroValue332
 g1:=by kernel_rfl }
open Go.RowKit Go.Lib in
theorem Tryz.strings_Count_one(s:ByteArray)(c:UInt8)(w:World):
  Calls Tryz.prog 250 #[.string s,.string ⟨#[c]⟩] w λ e w'=>e=.returned (.int .i64 (Lib.countByte s.data.toList c))/\w'=w:=Any.strings_Count_one Tryz.lays138 s c w
end Go.Proofs
namespace Go.Proofs.YtbbfcjifihknnaaGreatDoor
open Go.RowKit
theorem fn_none{P:Program}{f:FuncId}{xs:List Dt}{y:Dt}{α:Type}{r:α}(h:(none:Option α)=some r):Fn P f xs y:=by cases h
theorem rd1{M:Nat->Prop}{w:World}{vs:List Value}{x:Dt}(h:RdAll M w vs [x]):∃ v,vs=[v]/\x.rd M w v:=by
 cases h with
 | cons h r=>cases r;exact⟨_,Z,h⟩
theorem rd2{M:Nat->Prop}{w:World}{vs:List Value}{x y:Dt}(h:RdAll M w vs [x,y]):∃ u v,vs=[u,v]/\x.rd M w u/\y.rd M w v:=by
 cases h with
 | cons h r=>obtain⟨v,rfl,hv⟩:=rd1 r;exact⟨_,_,Z,h,hv⟩
theorem fn_same{P:Program}{f:FuncId}{vs:Array Value}{M:Nat->Prop}{w:World}{v:Value}{y:Dt}(h:Calls P f vs w λ e w'=>e=.returned v/\w'=w)(hy:y.rd M w v):Calls P f vs w (λ e w'=>∃ v,e=.returned v/\Ext0 w w'/\y.rd M w' v):=
 h.mono λ e w' ⟨he,hw⟩=>⟨v,he,by rw[hw];exact Ext0.refl w,by rw[hw];exact hy⟩
def wn(s p:Str):Option Int:=match p.l with
 | [c]=>some (Lib.indexByte s.l c)
 | _=>none
def Zf(s p:Str):Option Int:=match p.l with
 | [c]=>some (Lib.countByte s.l c:Int)
 | _=>none
def Y1(_:Str)(_:Int):Option (List Str):=none
theorem zcE{s p:Str}{r:Int}(h:wn s p=some r):Fn Tryz.prog 251 [dt s,dt p] (dt r):=λ M w vs _ hr=>by
 obtain⟨u,v,rfl,hu,hv⟩:=rd2 hr
 unfold wn at h
 split at h
 ·rename_i c hc
  injection h with h
  rw[(xo.1 hu).1,(xo.1 hv).1]
  have:=Tryz.strings_Index_one ⟨⟨s.l⟩⟩ c w
  refine fn_same (v:=.int .i64 r) ?_ (yu.2 Z)
  simp only[strv,hc]
  rw[← h]
  exact this
 ·cases h
theorem zcF{s p:Str}{r:Int}(h:Zf s p=some r):Fn Tryz.prog 250 [dt s,dt p] (dt r):=λ M w vs _ hr=>by
 obtain⟨u,v,rfl,hu,hv⟩:=rd2 hr
 unfold Zf at h
 split at h
 ·rename_i c hc
  injection h with h
  rw[(xo.1 hu).1,(xo.1 hv).1]
  have:=Tryz.strings_Count_one ⟨⟨s.l⟩⟩ c w
  refine fn_same (v:=.int .i64 r) ?_ (yu.2 Z)
  simp only[strv,hc]
  rw[← h]
  exact this
 ·cases h
theorem zbj{s:Str}{n:Int}{r:List Str}(h:Y1 s n=some r):Fn Tryz.prog 249 [dt s,dt n] (dt r):=fn_none h
def Wl(xs:List Str)(p:Str):Option Str:=if xs.length<=140737488355328/\(Lib.join (xs.map (·.l)) p.l).length<=140737488355328 then some ⟨Lib.join (xs.map (·.l)) p.l⟩ else none
theorem zcY{xs:List Str}{p r:Str}(h:Wl xs p=some r):Fn Tryz.prog 130 [dt xs,dt p] (dt r):=λ M w vs hm hr=>by
 obtain⟨u,v,rfl,hu,hv⟩:=rd2 hr
 unfold Wl at h
 split at h
 ·rename_i hc
  injection h with h
  subst h
  obtain⟨cs,⟨A,c,hcs,h1,h2,h3⟩,hu'⟩:=hu
  subst hcs
  have hu2:u=.slice A xs.length c:=hu'
  have hv2:=(xo.1 hv).1
  rw[hu2,hv2]
  have fin:∀ (e:Ending) (w':World),e=.returned (.string ⟨(Lib.join (xs.map (·.l)) p.l).toArray⟩)/\Below w.heap.size w w'->∃ v,e=.returned v/\Ext0 w w'/\(dt (⟨Lib.join (xs.map (·.l)) p.l⟩:Str)).rd M w' v:=λ e w' ⟨he,hw⟩=>
   ⟨_,he,hw,xo.2 ⟨Z,by unfold maxLen;show(Lib.join (xs.map (·.l)) p.l).length<=_;omega⟩⟩
  rcases h3 with rfl | ⟨b,o,cells,rfl,hb,hcell,hrow⟩
  ·exact(Tryz.strings_Join_none A c ⟨⟨p.l⟩⟩ w).mono λ e w' ⟨he,hw⟩=>fin e w' ⟨he,by rw[hw];exact Ext0.refl w⟩
  ·by_cases hx:xs=[]
   ·subst hx
    exact(Tryz.strings_Join_none (some ⟨b,o,none⟩) c ⟨⟨p.l⟩⟩ w).mono λ e w' ⟨he,hw⟩=>fin e w' ⟨he,by rw[hw];exact Ext0.refl w⟩
   ·obtain⟨hcc,_⟩:=rowR_str hrow
    have hj:=Tryz.strings_Join b o c (xs.map λ x=>(⟨⟨x.l⟩⟩:ByteArray)) ⟨⟨p.l⟩⟩ w (λ j x hj=>by
     rw[List.getElem?_map,Option.map_eq_some_iff] at hj
     obtain⟨y,hy,rfl⟩:=hj
     refine hcell j _ ?_
     rw[hcc,List.getElem?_map,List.getElem?_map,hy]
     rfl) (by
     obtain⟨x,xs',rfl⟩:=List.exists_cons_of_ne_nil hx
     exact za5 (hcell 0 (strv x) (by rw[hcc];rfl))) (by simpa using hc.1) (by simpa using h1) (by simpa[Function.comp_def] using hc.2)
    rw[List.length_map] at hj
    have e1:(xs.map λ x=>(⟨⟨x.l⟩⟩:ByteArray)).map (·.data.toList)=xs.map (·.l):=by rw[List.map_map];rfl
    rw[e1] at hj
    exact hj.mono fin
 ·cases h
open Go.RowKit Tryz
instance:Ct2 Tryz.prog 251 dt dt dt wn:=⟨λ h=>zcE h⟩
instance:Ct2 Tryz.prog 250 dt dt dt Zf:=⟨λ h=>zcF h⟩
instance:Ct2 Tryz.prog 249 dt dt dt Y1:=⟨λ h=>zbj h⟩
instance:Ct2 Tryz.prog 130 dt dt dt Wl:=⟨λ h=>zcY h⟩
def yP(s p:Str):Option Int:=wn s p
theorem XR{s p:Str}{r:Int}(h:yP s p=some r):Fn Tryz.prog 259 [dt s,dt p] (dt r):=λ M w vs _ hr=>by
 obtain⟨u,v,rfl,hu,hv⟩:=rd2 hr
 unfold yP wn at h
 split at h
 ·rename_i c hc
  injection h with h
  rw[(xo.1 hu).1,(xo.1 hv).1]
  have:=Tryz.stringslite_Index_one ⟨⟨s.l⟩⟩ c w
  refine fn_same (v:=.int .i64 r) ?_ (yu.2 Z)
  simp only[strv,hc]
  rw[← h]
  exact this
 ·cases h
end Go.Proofs.YtbbfcjifihknnaaGreatDoor
