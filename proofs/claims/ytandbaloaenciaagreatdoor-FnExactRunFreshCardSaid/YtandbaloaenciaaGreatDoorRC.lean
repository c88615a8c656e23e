import Derived.Shelf.Strings.Builder1
import Derived.Shelf.Strings.Builder2
import Derived.Shelf.Strings.OnBuilder
import Derived.Shelf.Strings.BuilderF
import Derived.Shelf.Strings.BuilderK
import Derived.Shelf.Strings.Builder2Cap
import Derived.Shelf.Strings.Search1
import Derived.Shelf.Strings.Search2
import Derived.Shelf.Strings.Search3
import Derived.Shelf.Strings.Cut
import Derived.Shelf.Strings.Count
import Derived.Shelf.LaysM
import Derived.Shelf.Strings.Shaped
import Derived.Shelf.Strings.LastIndex
import Derived.Shelf.Strings.Prefix
import Derived.Shelf.Unicode.DecodeSlow
import Derived.Shelf.Strings.BuilderCap
import Derived.Shelf.Slices.Turned
import Derived.Ground.PaProg
import Derived.Shelf.Path.Small
import Derived.Test.YtandbaloaenciaaGreatDoorProg
import Derived.Test.YtandbaloaenciaaGreatDoorRB
namespace Go.Proofs
open Go.Shelf
def Tryz.lays156_ren:Go.Shelf.Ren:=⟨λ | 156=>227 | 165=>245 | 166=>246 | 169=>247 | 240=>252 | 241=>253 | 276=>254 | 277=>255 | n=>n,λ | 31=>120 | 9=>9 | 3=>3 | 4=>4 | 0=>0 | 20=>20 | 72=>277 | 76=>281 | 70=>275 | 37=>50 | 75=>280 | 127=>291 | 164=>292 | 5=>5 | 80=>224 | n=>n,λ | n=>n⟩
theorem Tryz.lays156:Go.Proofs.Lays.n156 Tryz.prog Tryz.lays156_ren:={
 mixed:=by kernel_rfl
 f156:=Tryz.func227.trans (congrArg some (by kernel_rfl))
 f165:=Tryz.func245.trans (congrArg some (by kernel_rfl))
 f166:=Tryz.func246.trans (congrArg some (by kernel_rfl))
 f169:=Tryz.func247.trans (congrArg some (by kernel_rfl))
 f240:=Tryz.func252.trans (congrArg some (by kernel_rfl))
 f241:=Tryz.func253.trans (congrArg some (by kernel_rfl))
 f276:=Tryz.func254.trans (congrArg some (by kernel_rfl))
 f277:=Tryz.func255.trans (congrArg some (by kernel_rfl))
 t0:=Tryz.underlying0
 a0:=Tryz.isAgg0
 z0:=Tryz.sizeOf0
 v0:=Tryz.zeroValue0
 t3:=Tryz.underlying3
 a3:=Tryz.isAgg3
 z3:=Tryz.sizeOf3
 v3:=Tryz.zeroValue3
 t4:=Tryz.underlying4
 a4:=Tryz.isAgg4
 z4:=Tryz.sizeOf4
 v4:=Tryz.zeroValue4
 t9:=Tryz.underlying9
 a9:=Tryz.isAgg9
 z9:=Tryz.sizeOf9
 v9:=Tryz.zeroValue9
 t20:=Tryz.underlying20
 a20:=Tryz.isAgg20
 z20:=Tryz.sizeOf20
 v20:=Tryz.zeroValue20
 t31:=Tryz.underlying120
 a31:=Tryz.isAgg120
 z31:=Tryz.sizeOf120
 v31:=Tryz.zeroValue120
 t37:=Tryz.underlying50
 a37:=Tryz.isAgg50
 z37:=Tryz.sizeOf50
 v37:=Tryz.zeroValue50
 t70:=Tryz.underlying275
 a70:=Tryz.isAgg275
 z70:=Tryz.sizeOf275
 v70:=Tryz.zeroValue275
 t72:=Tryz.underlying277
 a72:=Tryz.isAgg277
 z72:=Tryz.sizeOf277
 v72:=Tryz.zeroValue277
 t75:=Tryz.underlying280
 a75:=Tryz.isAgg280
 z75:=Tryz.sizeOf280
 v75:=Tryz.zeroValue280
 t76:=Tryz.underlying281
 a76:=Tryz.isAgg281
 z76:=Tryz.sizeOf281
 v76:=Tryz.zeroValue281
 t127:=Tryz.underlying291
 a127:=Tryz.isAgg291
 z127:=Tryz.sizeOf291
 v127:=Tryz.zeroValue291
 t164:=Tryz.underlying292
 a164:=Tryz.isAgg292
 z164:=Tryz.sizeOf292
 v164:=Tryz.zeroValue292 }
theorem Tryz.Builder_Extra_156:Builder.Extra Tryz.prog Tryz.lays156_ren:={
 sizeBuilder:=by kernel_rfl
 liesBuilder:=by kernel_rfl
 t5:=Tryz.underlying5
 a5:=Tryz.isAgg5
 z5:=Tryz.sizeOf5
 v5:=Tryz.zeroValue5
 infoByte:=by kernel_rfl
 cellsByte:=by kernel_rfl
 sizeByte:=by kernel_rfl
 neB5:=by decide }
open Go.RowKit in
theorem Tryz.strings_Join_none(a:Option Addr)(c:Nat)(sep:ByteArray)(w:World):
  Calls Tryz.prog 227 #[.slice a 0 c,.string sep] w λ e w'=>e=.returned (.string ⟨#[]⟩)/\w'=w:=Any.strings_Join_none Tryz.lays156 Tryz.Builder_Extra_156 a c sep w
open Go.RowKit in
theorem Tryz.strings_Join(bk o c:Nat)(xs:List ByteArray)(sep:ByteArray)(w:World)(hcells:∀ (j:Nat) x,xs[j]?=some x->w.cell? ⟨bk,o+j,none⟩=some (.string x))(hbk:bk<w.heap.size)(hN:xs.length<=140737488355328)(hcap:xs.length<=c)(hlen:(Lib.join (xs.map (·.data.toList)) sep.data.toList).length<=140737488355328):
  Calls Tryz.prog 227 #[.slice (some ⟨bk,o,none⟩) xs.length c,.string sep] w λ e w'=>e=.returned (.string ⟨(Lib.join (xs.map (·.data.toList)) sep.data.toList).toArray⟩)/\Below w.heap.size w w':=Any.strings_Join Tryz.lays156 Tryz.Builder_Extra_156 bk o c xs sep w hcells hbk hN hcap hlen
def Tryz.lays219_ren:Go.Shelf.Ren:=⟨λ | 219=>224 | 217=>240 | 225=>241 | 224=>242 | 267=>243 | 266=>250 | 314=>251 | n=>n,λ | 9=>9 | 3=>3 | 4=>4 | 5=>5 | 46=>274 | 146=>289 | 51=>288 | n=>n,λ | 1=>0 | n=>n⟩
theorem Tryz.lays219:Go.Proofs.Lays.n219 Tryz.prog Tryz.lays219_ren:={
 mixed:=by kernel_rfl
 f217:=Tryz.func240.trans (congrArg some (by kernel_rfl))
 f219:=Tryz.func224.trans (congrArg some (by kernel_rfl))
 f224:=Tryz.func242.trans (congrArg some (by kernel_rfl))
 f225:=Tryz.func241.trans (congrArg some (by kernel_rfl))
 f266:=Tryz.func250.trans (congrArg some (by kernel_rfl))
 f267:=Tryz.func243.trans (congrArg some (by kernel_rfl))
 f314:=Tryz.func251.trans (congrArg some (by kernel_rfl))
 t3:=Tryz.underlying3
 a3:=Tryz.isAgg3
 z3:=Tryz.sizeOf3
 v3:=Tryz.zeroValue3
 t4:=Tryz.underlying4
 a4:=Tryz.isAgg4
 z4:=Tryz.sizeOf4
 v4:=Tryz.zeroValue4
 t5:=Tryz.underlying5
 a5:=Tryz.isAgg5
 z5:=Tryz.sizeOf5
 v5:=Tryz.zeroValue5
 t9:=Tryz.underlying9
 a9:=Tryz.isAgg9
 z9:=Tryz.sizeOf9
 v9:=Tryz.zeroValue9
 t46:=Tryz.underlying274
 a46:=Tryz.isAgg274
 z46:=Tryz.sizeOf274
 v46:=Tryz.zeroValue274
 t51:=Tryz.underlying288
 a51:=Tryz.isAgg288
 z51:=Tryz.sizeOf288
 v51:=Tryz.zeroValue288
 t146:=Tryz.underlying289
 a146:=Tryz.isAgg289
 z146:=Tryz.sizeOf289
 v146:=Tryz.zeroValue289
 g1:=by kernel_rfl }
open Go.RowKit Go.Lib in
theorem Tryz.stringslite_Index_one(s:ByteArray)(c:UInt8)(w:World):
  Calls Tryz.prog 224 #[.string s,.string ⟨#[c]⟩] w λ e w'=>e=.returned (.int .i64 (Lib.indexByte s.data.toList c))/\w'=w:=Any.stringslite_Index_one Tryz.lays219 s c w
def Tryz.lays143_ren:Go.Shelf.Ren:=⟨λ | 143=>203 | 219=>224 | 217=>240 | 225=>241 | 224=>242 | 267=>243 | 266=>250 | 314=>251 | n=>n,λ | 9=>9 | 3=>3 | 4=>4 | 5=>5 | 46=>274 | 146=>289 | 51=>288 | n=>n,λ | 1=>0 | n=>n⟩
theorem Tryz.lays143:Go.Proofs.Lays.n143 Tryz.prog Tryz.lays143_ren:={
 mixed:=by kernel_rfl
 f143:=Tryz.func203.trans (congrArg some (by kernel_rfl))
 f217:=Tryz.func240.trans (congrArg some (by kernel_rfl))
 f219:=Tryz.func224.trans (congrArg some (by kernel_rfl))
 f224:=Tryz.func242.trans (congrArg some (by kernel_rfl))
 f225:=Tryz.func241.trans (congrArg some (by kernel_rfl))
 f266:=Tryz.func250.trans (congrArg some (by kernel_rfl))
 f267:=Tryz.func243.trans (congrArg some (by kernel_rfl))
 f314:=Tryz.func251.trans (congrArg some (by kernel_rfl))
 t3:=Tryz.underlying3
 a3:=Tryz.isAgg3
 z3:=Tryz.sizeOf3
 v3:=Tryz.zeroValue3
 t4:=Tryz.underlying4
 a4:=Tryz.isAgg4
 z4:=Tryz.sizeOf4
 v4:=Tryz.zeroValue4
 t5:=Tryz.underlying5
 a5:=Tryz.isAgg5
 z5:=Tryz.sizeOf5
 v5:=Tryz.zeroValue5
 t9:=Tryz.underlying9
 a9:=Tryz.isAgg9
 z9:=Tryz.sizeOf9
 v9:=Tryz.zeroValue9
 t46:=Tryz.underlying274
 a46:=Tryz.isAgg274
 z46:=Tryz.sizeOf274
 v46:=Tryz.zeroValue274
 t51:=Tryz.underlying288
 a51:=Tryz.isAgg288
 z51:=Tryz.sizeOf288
 v51:=Tryz.zeroValue288
 t146:=Tryz.underlying289
 a146:=Tryz.isAgg289
 z146:=Tryz.sizeOf289
 v146:=Tryz.zeroValue289
 g1:=by kernel_rfl }
open Go.RowKit Go.Lib in
theorem Tryz.strings_Index_one(s:ByteArray)(c:UInt8)(w:World):
  Calls Tryz.prog 203 #[.string s,.string ⟨#[c]⟩] w λ e w'=>e=.returned (.int .i64 (Lib.indexByte s.data.toList c))/\w'=w:=Any.strings_Index_one Tryz.lays143 s c w
def Tryz.lays138_ren:Go.Shelf.Ren:=⟨λ | 138=>202 | 195=>221 | 218=>223 | 143=>203 | 219=>224 | 217=>240 | 225=>241 | 224=>242 | 267=>243 | 266=>250 | 314=>251 | n=>n,λ | 9=>9 | 3=>3 | 4=>4 | 5=>5 | 0=>0 | 46=>274 | 146=>289 | 51=>288 | n=>n,λ | 1=>0 | n=>n⟩
theorem Tryz.lays138:Go.Proofs.Lays.n138 Tryz.prog Tryz.lays138_ren:={
 mixed:=by kernel_rfl
 f138:=Tryz.func202.trans (congrArg some (by kernel_rfl))
 f143:=Tryz.func203.trans (congrArg some (by kernel_rfl))
 f195:=Tryz.func221.trans (congrArg some (by kernel_rfl))
 f217:=Tryz.func240.trans (congrArg some (by kernel_rfl))
 f218:=Tryz.func223.trans (congrArg some (by kernel_rfl))
 f219:=Tryz.func224.trans (congrArg some (by kernel_rfl))
 f224:=Tryz.func242.trans (congrArg some (by kernel_rfl))
 f225:=Tryz.func241.trans (congrArg some (by kernel_rfl))
 f266:=Tryz.func250.trans (congrArg some (by kernel_rfl))
 f267:=Tryz.func243.trans (congrArg some (by kernel_rfl))
 f314:=Tryz.func251.trans (congrArg some (by kernel_rfl))
 t0:=Tryz.underlying0
 a0:=Tryz.isAgg0
 z0:=Tryz.sizeOf0
 v0:=Tryz.zeroValue0
 t3:=Tryz.underlying3
 a3:=Tryz.isAgg3
 z3:=Tryz.sizeOf3
 v3:=Tryz.zeroValue3
 t4:=Tryz.underlying4
 a4:=Tryz.isAgg4
 z4:=Tryz.sizeOf4
 v4:=Tryz.zeroValue4
 t5:=Tryz.underlying5
 a5:=Tryz.isAgg5
 z5:=Tryz.sizeOf5
 v5:=Tryz.zeroValue5
 t9:=Tryz.underlying9
 a9:=Tryz.isAgg9
 z9:=Tryz.sizeOf9
 v9:=Tryz.zeroValue9
 t46:=Tryz.underlying274
 a46:=Tryz.isAgg274
 z46:=Tryz.sizeOf274
 v46:=Tryz.zeroValue274
 t51:=Tryz.underlying288
 a51:=Tryz.isAgg288
 z51:=Tryz.sizeOf288
 v51:=Tryz.zeroValue288
 t146:=Tryz.underlying289
 a146:=Tryz.isAgg289
 z146:=Tryz.sizeOf289
 v146:=Tryz.zeroValue289
 g1:=by kernel_rfl }
open Go.RowKit Go.Lib in
theorem Tryz.strings_Count_one(s:ByteArray)(c:UInt8)(w:World):
  Calls Tryz.prog 202 #[.string s,.string ⟨#[c]⟩] w λ e w'=>e=.returned (.int .i64 (Lib.countByte s.data.toList c))/\w'=w:=Any.strings_Count_one Tryz.lays138 s c w
end Go.Proofs
namespace Go.Proofs.YtandbaloaenciaaGreatDoor
open Go.RowKit
theorem fn_none{P:Program}{f:FuncId}{xs:List Dt}{y:Dt}{α:Type}{r:α}(h:(none:Option α)=some r):Fn P f xs y:=by cases h
theorem rd1{M:Nat->Prop}{w:World}{vs:List Value}{x:Dt}(h:RdAll M w vs [x]):∃ v,vs=[v]/\x.rd M w v:=by
 cases h with
 | cons h r=>cases r;exact⟨_,Z,h⟩
theorem rd2{M:Nat->Prop}{w:World}{vs:List Value}{x y:Dt}(h:RdAll M w vs [x,y]):∃ u v,vs=[u,v]/\x.rd M w u/\y.rd M w v:=by
 cases h with
 | cons h r=>obtain⟨v,rfl,hv⟩:=rd1 r;exact⟨_,_,Z,h,hv⟩
theorem fn_same{P:Program}{f:FuncId}{vs:Array Value}{M:Nat->Prop}{w:World}{v:Value}{y:Dt}(h:Calls P f vs w λ e w'=>e=.returned v/\w'=w)(hy:y.rd M w v):Calls P f vs w (λ e w'=>∃ v,e=.returned v/\Ext0 w w'/\y.rd M w' v):=
 h.mono λ e w' ⟨he,hw⟩=>⟨v,he,by rw[hw];exact Ext0.refl w,by rw[hw];exact hy⟩
def wA(s p:Str):Option Int:=match p.l with
 | [c]=>some (Lib.indexByte s.l c)
 | _=>none
def ZC(s p:Str):Option Int:=match p.l with
 | [c]=>some (Lib.countByte s.l c:Int)
 | _=>none
def Xi(_:Str)(_:Int):Option (List Str):=none
theorem zde{s p:Str}{r:Int}(h:wA s p=some r):Fn Tryz.prog 203 [dt s,dt p] (dt r):=λ M w vs _ hr=>by
 obtain⟨u,v,rfl,hu,hv⟩:=rd2 hr
 unfold wA at h
 split at h
 ·rename_i c hc
  injection h with h
  rw[(xO.1 hu).1,(xO.1 hv).1]
  have:=Tryz.strings_Index_one ⟨⟨s.l⟩⟩ c w
  refine fn_same (v:=.int .i64 r) ?_ (yi.2 Z)
  simp only[strv,hc]
  rw[← h]
  exact this
 ·cases h
theorem zdf{s p:Str}{r:Int}(h:ZC s p=some r):Fn Tryz.prog 202 [dt s,dt p] (dt r):=λ M w vs _ hr=>by
 obtain⟨u,v,rfl,hu,hv⟩:=rd2 hr
 unfold ZC at h
 split at h
 ·rename_i c hc
  injection h with h
  rw[(xO.1 hu).1,(xO.1 hv).1]
  have:=Tryz.strings_Count_one ⟨⟨s.l⟩⟩ c w
  refine fn_same (v:=.int .i64 r) ?_ (yi.2 Z)
  simp only[strv,hc]
  rw[← h]
  exact this
 ·cases h
theorem zbO{s:Str}{n:Int}{r:List Str}(h:Xi s n=some r):Fn Tryz.prog 201 [dt s,dt n] (dt r):=fn_none h
def qX(xs:List Str)(p:Str):Option Str:=if xs.length<=140737488355328/\(Lib.join (xs.map (·.l)) p.l).length<=140737488355328 then some ⟨Lib.join (xs.map (·.l)) p.l⟩ else none
theorem Q5{xs:List Str}{p r:Str}(h:qX xs p=some r):Fn Tryz.prog 227 [dt xs,dt p] (dt r):=λ M w vs hm hr=>by
 obtain⟨u,v,rfl,hu,hv⟩:=rd2 hr
 unfold qX at h
 split at h
 ·rename_i hc
  injection h with h
  subst h
  obtain⟨cs,⟨A,c,hcs,h1,h2,h3⟩,hu'⟩:=hu
  subst hcs
  have hu2:u=.slice A xs.length c:=hu'
  have hv2:=(xO.1 hv).1
  rw[hu2,hv2]
  have fin:∀ (e:Ending) (w':World),e=.returned (.string ⟨(Lib.join (xs.map (·.l)) p.l).toArray⟩)/\Below w.heap.size w w'->∃ v,e=.returned v/\Ext0 w w'/\(dt (⟨Lib.join (xs.map (·.l)) p.l⟩:Str)).rd M w' v:=λ e w' ⟨he,hw⟩=>
   ⟨_,he,hw,xO.2 ⟨Z,by unfold maxLen;show(Lib.join (xs.map (·.l)) p.l).length<=_;omega⟩⟩
  rcases h3 with rfl | ⟨b,o,cells,rfl,hb,hcell,hrow⟩
  ·exact(Tryz.strings_Join_none A c ⟨⟨p.l⟩⟩ w).mono λ e w' ⟨he,hw⟩=>fin e w' ⟨he,by rw[hw];exact Ext0.refl w⟩
  ·by_cases hx:xs=[]
   ·subst hx
    exact(Tryz.strings_Join_none (some ⟨b,o,none⟩) c ⟨⟨p.l⟩⟩ w).mono λ e w' ⟨he,hw⟩=>fin e w' ⟨he,by rw[hw];exact Ext0.refl w⟩
   ·obtain⟨hcc,_⟩:=rowR_str hrow
    have hj:=Tryz.strings_Join b o c (xs.map λ x=>(⟨⟨x.l⟩⟩:ByteArray)) ⟨⟨p.l⟩⟩ w (λ j x hj=>by
     rw[List.getElem?_map,Option.map_eq_some_iff] at hj
     obtain⟨y,hy,rfl⟩:=hj
     refine hcell j _ ?_
     rw[hcc,List.getElem?_map,List.getElem?_map,hy]
     rfl) (by
     obtain⟨x,xs',rfl⟩:=List.exists_cons_of_ne_nil hx
     exact zbE (hcell 0 (strv x) (by rw[hcc];rfl))) (by simpa using hc.1) (by simpa using h1) (by simpa[Function.comp_def] using hc.2)
    rw[List.length_map] at hj
    have e1:(xs.map λ x=>(⟨⟨x.l⟩⟩:ByteArray)).map (·.data.toList)=xs.map (·.l):=by rw[List.map_map];rfl
    rw[e1] at hj
    exact hj.mono fin
 ·cases h
open Go.RowKit Tryz
instance:Ct2 Tryz.prog 203 dt dt dt wA:=⟨λ h=>zde h⟩
instance:Ct2 Tryz.prog 202 dt dt dt ZC:=⟨λ h=>zdf h⟩
instance:Ct2 Tryz.prog 201 dt dt dt Xi:=⟨λ h=>zbO h⟩
instance:Ct2 Tryz.prog 227 dt dt dt qX:=⟨λ h=>Q5 h⟩
def yX(s p:Str):Option Int:=wA s p
theorem Wt{s p:Str}{r:Int}(h:yX s p=some r):Fn Tryz.prog 224 [dt s,dt p] (dt r):=λ M w vs _ hr=>by
 obtain⟨u,v,rfl,hu,hv⟩:=rd2 hr
 unfold yX wA at h
 split at h
 ·rename_i c hc
  injection h with h
  rw[(xO.1 hu).1,(xO.1 hv).1]
  have:=Tryz.stringslite_Index_one ⟨⟨s.l⟩⟩ c w
  refine fn_same (v:=.int .i64 r) ?_ (yi.2 Z)
  simp only[strv,hc]
  rw[← h]
  exact this
 ·cases h
end Go.Proofs.YtandbaloaenciaaGreatDoor
