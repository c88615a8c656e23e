import Derived.Shelf.Small.Bits
import Derived.Shelf.Strconv.Itoa0
import Derived.Shelf.Strings.Search1
import Derived.Shelf.Strings.Search2
import Derived.Shelf.Strings.Search3
import Derived.Shelf.Strings.Cut
import Derived.Shelf.Strings.Count
import Derived.Shelf.LaysM
import Derived.Shelf.Strings.Shaped
import Derived.Shelf.Sort.Plain
import Derived.Shelf.Strings.Prefix
import Derived.Shelf.Unicode.DecodeSlow
import Derived.Shelf.Slices.Turned
import Derived.Shelf.Slices.Equal
import Derived.Shelf.Slices.CompactS
import Derived.Shelf.Slices.Cells
import Derived.Shelf.Slices.In.SortNone
import Derived.Shelf.Slices.Empties2
import Derived.Test.YtdoidiipacdbpaaGreatDoorProg
import Derived.Test.YtdoidiipacdbpaaGreatDoorRB
namespace Go.Proofs
open Go.Shelf
def Tryz.lays219_ren:Go.Shelf.Ren:=⟨λ | 219=>174 | 217=>187 | 225=>188 | 224=>189 | 267=>190 | 266=>203 | 314=>204 | n=>n,λ | 9=>9 | 3=>3 | 4=>4 | 5=>5 | 46=>176 | 146=>201 | 51=>194 | n=>n,λ | 1=>0 | n=>n⟩
theorem Tryz.lays219:Go.Proofs.Lays.n219 Tryz.prog Tryz.lays219_ren:={
 mixed:=by kernel_rfl
 f217:=Tryz.func187.trans (congrArg some (by kernel_rfl))
 f219:=Tryz.func174.trans (congrArg some (by kernel_rfl))
 f224:=Tryz.func189.trans (congrArg some (by kernel_rfl))
 f225:=Tryz.func188.trans (congrArg some (by kernel_rfl))
 f266:=Tryz.func203.trans (congrArg some (by kernel_rfl))
 f267:=Tryz.func190.trans (congrArg some (by kernel_rfl))
 f314:=Tryz.func204.trans (congrArg some (by kernel_rfl))
 t3:=Tryz.underlying3
 a3:=Tryz.isAgg3
 z3:=Tryz.sizeOf3
 v3:=Tryz.zeroValue3
 t4:=Tryz.underlying4
 a4:=Tryz.isAgg4
 z4:=Tryz.sizeOf4
 v4:=Tryz.zeroValue4
 t5:=Tryz.underlying5
 a5:=Tryz.isAgg5
 z5:=Tryz.sizeOf5
 v5:=Tryz.zeroValue5
 t9:=Tryz.underlying9
 a9:=Tryz.isAgg9
 z9:=Tryz.sizeOf9
 v9:=Tryz.zeroValue9
 t46:=Tryz.underlying176
 a46:=Tryz.isAgg176
 z46:=Tryz.sizeOf176
 v46:=Tryz.zeroValue176
 t51:=Tryz.underlying194
 a51:=Tryz.isAgg194
 z51:=Tryz.sizeOf194
 v51:=Tryz.zeroValue194
 t146:=Tryz.underlying201
 a146:=Tryz.isAgg201
 z146:=Tryz.sizeOf201
 v146:=Tryz.zeroValue201
 g1:=by kernel_rfl }
open Go.RowKit Go.Lib in
theorem Tryz.stringslite_Index_one(s:ByteArray)(c:UInt8)(w:World):
  Calls Tryz.prog 174 #[.string s,.string ⟨#[c]⟩] w λ e w'=>e=.returned (.int .i64 (Lib.indexByte s.data.toList c))/\w'=w:=Any.stringslite_Index_one Tryz.lays219 s c w
def Tryz.lays143_ren:Go.Shelf.Ren:=⟨λ | 143=>154 | 219=>174 | 217=>187 | 225=>188 | 224=>189 | 267=>190 | 266=>203 | 314=>204 | n=>n,λ | 9=>9 | 3=>3 | 4=>4 | 5=>5 | 46=>176 | 146=>201 | 51=>194 | n=>n,λ | 1=>0 | n=>n⟩
theorem Tryz.lays143:Go.Proofs.Lays.n143 Tryz.prog Tryz.lays143_ren:={
 mixed:=by kernel_rfl
 f143:=Tryz.func154.trans (congrArg some (by kernel_rfl))
 f217:=Tryz.func187.trans (congrArg some (by kernel_rfl))
 f219:=Tryz.func174.trans (congrArg some (by kernel_rfl))
 f224:=Tryz.func189.trans (congrArg some (by kernel_rfl))
 f225:=Tryz.func188.trans (congrArg some (by kernel_rfl))
 f266:=Tryz.func203.trans (congrArg some (by kernel_rfl))
 f267:=Tryz.func190.trans (congrArg some (by kernel_rfl))
 f314:=Tryz.func204.trans (congrArg some (by kernel_rfl))
 t3:=Tryz.underlying3
 a3:=Tryz.isAgg3
 z3:=Tryz.sizeOf3
 v3:=Tryz.zeroValue3
 t4:=Tryz.underlying4
 a4:=Tryz.isAgg4
 z4:=Tryz.sizeOf4
 v4:=Tryz.zeroValue4
 t5:=Tryz.underlying5
 a5:=Tryz.isAgg5
 z5:=Tryz.sizeOf5
 v5:=Tryz.zeroValue5
 t9:=Tryz.underlying9
 a9:=Tryz.isAgg9
 z9:=Tryz.sizeOf9
 v9:=Tryz.zeroValue9
 t46:=Tryz.underlying176
 a46:=Tryz.isAgg176
 z46:=Tryz.sizeOf176
 v46:=Tryz.zeroValue176
 t51:=Tryz.underlying194
 a51:=Tryz.isAgg194
 z51:=Tryz.sizeOf194
 v51:=Tryz.zeroValue194
 t146:=Tryz.underlying201
 a146:=Tryz.isAgg201
 z146:=Tryz.sizeOf201
 v146:=Tryz.zeroValue201
 g1:=by kernel_rfl }
open Go.RowKit Go.Lib in
theorem Tryz.strings_Index_one(s:ByteArray)(c:UInt8)(w:World):
  Calls Tryz.prog 154 #[.string s,.string ⟨#[c]⟩] w λ e w'=>e=.returned (.int .i64 (Lib.indexByte s.data.toList c))/\w'=w:=Any.strings_Index_one Tryz.lays143 s c w
def Tryz.lays138_ren:Go.Shelf.Ren:=⟨λ | 138=>153 | 195=>171 | 218=>173 | 143=>154 | 219=>174 | 217=>187 | 225=>188 | 224=>189 | 267=>190 | 266=>203 | 314=>204 | n=>n,λ | 9=>9 | 3=>3 | 4=>4 | 5=>5 | 0=>0 | 46=>176 | 146=>201 | 51=>194 | n=>n,λ | 1=>0 | n=>n⟩
theorem Tryz.lays138:Go.Proofs.Lays.n138 Tryz.prog Tryz.lays138_ren:={
 mixed:=by kernel_rfl
 f138:=Tryz.func153.trans (congrArg some (by kernel_rfl))
 f143:=Tryz.func154.trans (congrArg some (by kernel_rfl))
 f195:=Tryz.func171.trans (congrArg some (by kernel_rfl))
 f217:=Tryz.func187.trans (congrArg some (by kernel_rfl))
 f218:=Tryz.func173.trans (congrArg some (by kernel_rfl))
 f219:=Tryz.func174.trans (congrArg some (by kernel_rfl))
 f224:=Tryz.func189.trans (congrArg some (by kernel_rfl))
 f225:=Tryz.func188.trans (congrArg some (by kernel_rfl))
 f266:=Tryz.func203.trans (congrArg some (by kernel_rfl))
 f267:=Tryz.func190.trans (congrArg some (by kernel_rfl))
 f314:=Tryz.func204.trans (congrArg some (by kernel_rfl))
 t0:=Tryz.underlying0
 a0:=Tryz.isAgg0
 z0:=Tryz.sizeOf0
 v0:=Tryz.zeroValue0
 t3:=Tryz.underlying3
 a3:=Tryz.isAgg3
 z3:=Tryz.sizeOf3
 v3:=Tryz.zeroValue3
 t4:=Tryz.underlying4
 a4:=Tryz.isAgg4
 z4:=Tryz.sizeOf4
 v4:=Tryz.zeroValue4
 t5:=Tryz.underlying5
 a5:=Tryz.isAgg5
 z5:=Tryz.sizeOf5
 v5:=Tryz.zeroValue5
 t9:=Tryz.underlying9
 a9:=Tryz.isAgg9
 z9:=Tryz.sizeOf9
 v9:=Tryz.zeroValue9
 t46:=Tryz.underlying176
 a46:=Tryz.isAgg176
 z46:=Tryz.sizeOf176
 v46:=Tryz.zeroValue176
 t51:=Tryz.underlying194
 a51:=Tryz.isAgg194
 z51:=Tryz.sizeOf194
 v51:=Tryz.zeroValue194
 t146:=Tryz.underlying201
 a146:=Tryz.isAgg201
 z146:=Tryz.sizeOf201
 v146:=Tryz.zeroValue201
 g1:=by kernel_rfl }
open Go.RowKit Go.Lib in
theorem Tryz.strings_Count_one(s:ByteArray)(c:UInt8)(w:World):
  Calls Tryz.prog 153 #[.string s,.string ⟨#[c]⟩] w λ e w'=>e=.returned (.int .i64 (Lib.countByte s.data.toList c))/\w'=w:=Any.strings_Count_one Tryz.lays138 s c w
def Tryz.lays190_ren:Go.Shelf.Ren:=⟨λ | 190=>157 | 125=>177 | 258=>176 | 128=>200 | 129=>201 | 302=>191 | 303=>192 | 304=>193 | 305=>194 | 306=>195 | 307=>196 | 308=>197 | 309=>198 | 310=>199 | 333=>205 | 329=>206 | 330=>207 | 334=>208 | 335=>209 | 336=>210 | 344=>211 | n=>n,λ | 31=>75 | 9=>9 | 3=>3 | 46=>176 | 0=>0 | 51=>194 | 53=>196 | 4=>4 | 183=>187 | 182=>186 | 131=>191 | 5=>5 | 218=>203 | 222=>207 | 228=>209 | 229=>210 | n=>n,λ | n=>n⟩
theorem Tryz.lays190:Go.Proofs.Lays.n190 Tryz.prog Tryz.lays190_ren:={
 mixed:=by kernel_rfl
 f125:=Tryz.func177.trans (congrArg some (by kernel_rfl))
 f128:=Tryz.func200.trans (congrArg some (by kernel_rfl))
 f129:=Tryz.func201.trans (congrArg some (by kernel_rfl))
 f190:=Tryz.func157.trans (congrArg some (by kernel_rfl))
 f258:=Tryz.func176.trans (congrArg some (by kernel_rfl))
 f302:=Tryz.func191.trans (congrArg some (by kernel_rfl))
 f303:=Tryz.func192.trans (congrArg some (by kernel_rfl))
 f304:=Tryz.func193.trans (congrArg some (by kernel_rfl))
 f305:=Tryz.func194.trans (congrArg some (by kernel_rfl))
 f306:=Tryz.func195.trans (congrArg some (by kernel_rfl))
 f307:=Tryz.func196.trans (congrArg some (by kernel_rfl))
 f308:=Tryz.func197.trans (congrArg some (by kernel_rfl))
 f309:=Tryz.func198.trans (congrArg some (by kernel_rfl))
 f310:=Tryz.func199.trans (congrArg some (by kernel_rfl))
 f329:=Tryz.func206.trans (congrArg some (by kernel_rfl))
 f330:=Tryz.func207.trans (congrArg some (by kernel_rfl))
 f333:=Tryz.func205.trans (congrArg some (by kernel_rfl))
 f334:=Tryz.func208.trans (congrArg some (by kernel_rfl))
 f335:=Tryz.func209.trans (congrArg some (by kernel_rfl))
 f336:=Tryz.func210.trans (congrArg some (by kernel_rfl))
 f344:=Tryz.func211.trans (congrArg some (by kernel_rfl))
 t0:=Tryz.underlying0
 a0:=Tryz.isAgg0
 z0:=Tryz.sizeOf0
 v0:=Tryz.zeroValue0
 t3:=Tryz.underlying3
 a3:=Tryz.isAgg3
 z3:=Tryz.sizeOf3
 v3:=Tryz.zeroValue3
 t4:=Tryz.underlying4
 a4:=Tryz.isAgg4
 z4:=Tryz.sizeOf4
 v4:=Tryz.zeroValue4
 t5:=Tryz.underlying5
 a5:=Tryz.isAgg5
 z5:=Tryz.sizeOf5
 v5:=Tryz.zeroValue5
 t9:=Tryz.underlying9
 a9:=Tryz.isAgg9
 z9:=Tryz.sizeOf9
 v9:=Tryz.zeroValue9
 t31:=Tryz.underlying75
 a31:=Tryz.isAgg75
 z31:=Tryz.sizeOf75
 v31:=Tryz.zeroValue75
 t46:=Tryz.underlying176
 a46:=Tryz.isAgg176
 z46:=Tryz.sizeOf176
 v46:=Tryz.zeroValue176
 t51:=Tryz.underlying194
 a51:=Tryz.isAgg194
 z51:=Tryz.sizeOf194
 v51:=Tryz.zeroValue194
 t53:=Tryz.underlying196
 a53:=Tryz.isAgg196
 z53:=Tryz.sizeOf196
 v53:=Tryz.zeroValue196
 t131:=Tryz.underlying191
 a131:=Tryz.isAgg191
 z131:=Tryz.sizeOf191
 v131:=Tryz.zeroValue191
 t182:=Tryz.underlying186
 a182:=Tryz.isAgg186
 z182:=Tryz.sizeOf186
 v182:=Tryz.zeroValue186
 t183:=Tryz.underlying187
 a183:=Tryz.isAgg187
 z183:=Tryz.sizeOf187
 v183:=Tryz.zeroValue187
 t218:=Tryz.underlying203
 a218:=Tryz.isAgg203
 z218:=Tryz.sizeOf203
 v218:=Tryz.zeroValue203
 t222:=Tryz.underlying207
 a222:=Tryz.isAgg207
 z222:=Tryz.sizeOf207
 v222:=Tryz.zeroValue207
 t228:=Tryz.underlying209
 a228:=Tryz.isAgg209
 z228:=Tryz.sizeOf209
 v228:=Tryz.zeroValue209
 t229:=Tryz.underlying210
 a229:=Tryz.isAgg210
 z229:=Tryz.sizeOf210
 v229:=Tryz.zeroValue210 }
open Go.Sort Go.RowKit in
theorem Tryz.slices_Sort_string(blk off cap:Nat)(ss:List (List UInt8))(w:World)(hH:Holds encStr w blk off ss.toArray)(hblk:blk<w.heap.size)(hsz:ss.length<4611686018427387904):
  Calls Tryz.prog 157 #[.slice (some ⟨blk,off,none⟩) ss.length cap] w λ e w'=>
   e=.returned (.tuple #[])/\∃ n os,w'=grow (putRow encStr (Sort.ahead w n) blk off (ss.mergeSort λ x y=>decide (x<=y)).toArray) os:=Any.slices_Sort_string Tryz.lays190 blk off cap ss w hH hblk hsz
def Tryz.lays194_ren:Go.Shelf.Ren:=⟨λ | 194=>158 | n=>n,λ | 31=>75 | 9=>9 | 3=>3 | 4=>4 | 0=>0 | n=>n,λ | n=>n⟩
theorem Tryz.lays194:Go.Proofs.Lays.n194 Tryz.prog Tryz.lays194_ren:={
 mixed:=by kernel_rfl
 f194:=Tryz.func158.trans (congrArg some (by kernel_rfl))
 t0:=Tryz.underlying0
 a0:=Tryz.isAgg0
 z0:=Tryz.sizeOf0
 v0:=Tryz.zeroValue0
 t3:=Tryz.underlying3
 a3:=Tryz.isAgg3
 z3:=Tryz.sizeOf3
 v3:=Tryz.zeroValue3
 t4:=Tryz.underlying4
 a4:=Tryz.isAgg4
 z4:=Tryz.sizeOf4
 v4:=Tryz.zeroValue4
 t9:=Tryz.underlying9
 a9:=Tryz.isAgg9
 z9:=Tryz.sizeOf9
 v9:=Tryz.zeroValue9
 t31:=Tryz.underlying75
 a31:=Tryz.isAgg75
 z31:=Tryz.sizeOf75
 v31:=Tryz.zeroValue75 }
open Go.RowKit Go.Lib Go.Sort in
theorem Tryz.slices_Compact_string(blk off cap:Nat)(zs:List (List UInt8))(w:World)(hH:Holds encStr w blk off zs.toArray)(hsz:zs.length<=9223372036854775807)(hcap:zs.length<=cap):
  Calls Tryz.prog 158 #[.slice (some ⟨blk,off,none⟩) zs.length cap] w λ e w'=>e=.returned (.slice (some ⟨blk,off,none⟩) (Lib.compact zs).length cap)/\∃ q,w'=putRow encStr (Sort.ahead w q) blk off (Lib.compact zs++List.replicate (zs.length - (Lib.compact zs).length) []).toArray:=Any.slices_Compact_string Tryz.lays194 blk off cap zs w hH hsz hcap
open Go.RowKit Go.Lib Go.Sort in
theorem Tryz.slices_Compact_string_empty(a:Option Addr)(cap:Nat)(w:World):
  Calls Tryz.prog 158 #[.slice a 0 cap] w λ e w'=>e=.returned (.slice a 0 cap)/\w'=w:=Any.slices_Compact_string_empty Tryz.lays194 a cap w
open Go.RowKit Go.Sort in
theorem Tryz.slices_Sort_string_none(p:Option Addr)(cap:Nat)(w:World):
  Calls Tryz.prog 157 #[.slice p 0 cap] w λ e w'=>e=.returned (.tuple #[])/\w'=w:=Any.slices_Sort_string_none Tryz.lays190 p cap w
end Go.Proofs
namespace Go.Proofs.YtdoidiipacdbpaaGreatDoor
open Go.RowKit
theorem fn_none{P:Program}{f:FuncId}{xs:List Dt}{y:Dt}{α:Type}{r:α}(h:(none:Option α)=some r):Fn P f xs y:=by cases h
theorem rd1{M:Nat->Prop}{w:World}{vs:List Value}{x:Dt}(h:RdAll M w vs [x]):∃ v,vs=[v]/\x.rd M w v:=by
 cases h with
 | cons h r=>cases r;exact⟨_,rfl,h⟩
theorem rd2{M:Nat->Prop}{w:World}{vs:List Value}{x y:Dt}(h:RdAll M w vs [x,y]):∃ u v,vs=[u,v]/\x.rd M w u/\y.rd M w v:=by
 cases h with
 | cons h r=>obtain⟨v,rfl,hv⟩:=rd1 r;exact⟨_,_,rfl,h,hv⟩
theorem fn_same{P:Program}{f:FuncId}{vs:Array Value}{M:Nat->Prop}{w:World}{v:Value}{y:Dt}(h:Calls P f vs w λ e w'=>e=.returned v/\w'=w)(hy:y.rd M w v):Calls P f vs w (λ e w'=>∃ v,e=.returned v/\Ext0 w w'/\y.rd M w' v):=
 h.mono λ e w' ⟨he,hw⟩=>⟨v,he,by rw[hw];exact Ext0.refl w,by rw[hw];exact hy⟩
def ja(s p:Str):Option Int:=match p.l with
 | [c]=>some (Lib.indexByte s.l c)
 | _=>none
def Z0(s p:Str):Option Int:=match p.l with
 | [c]=>some (Lib.countByte s.l c:Int)
 | _=>none
def XK(_:Str)(_:Int):Option (List Str):=none
theorem zbl{s p:Str}{r:Int}(h:ja s p=some r):Fn Tryz.prog 154 [dt s,dt p] (dt r):=λ M w vs _ hr=>by
 obtain⟨u,v,rfl,hu,hv⟩:=rd2 hr
 unfold ja at h
 split at h
 ·
  rename_i c hc
  injection h with h
  rw[(xP.1 hu).1,(xP.1 hv).1]
  have:=Tryz.strings_Index_one ⟨⟨s.l⟩⟩ c w
  refine fn_same (v:=.int .i64 r) ?_ (yy.2 rfl)
  simp only[strv,hc]
  rw[← h]
  exact this
 ·
  cases h
theorem zbm{s p:Str}{r:Int}(h:Z0 s p=some r):Fn Tryz.prog 153 [dt s,dt p] (dt r):=λ M w vs _ hr=>by
 obtain⟨u,v,rfl,hu,hv⟩:=rd2 hr
 unfold Z0 at h
 split at h
 ·
  rename_i c hc
  injection h with h
  rw[(xP.1 hu).1,(xP.1 hv).1]
  have:=Tryz.strings_Count_one ⟨⟨s.l⟩⟩ c w
  refine fn_same (v:=.int .i64 r) ?_ (yy.2 rfl)
  simp only[strv,hc]
  rw[← h]
  exact this
 ·
  cases h
theorem QP{s:Str}{n:Int}{r:List Str}(h:XK s n=some r):Fn Tryz.prog 152 [dt s,dt n] (dt r):=fn_none h
def xO(xs:List Str):Option (List Str):=if xs.length<4611686018427387904 then some (We xs) else none
def xm(xs:List Str):Option (List Str):=if xs.length<=9223372036854775807 then some (Zo xs) else none
theorem Xh{xs r:List Str}(h:xO xs=some r):FnIn Tryz.prog 157 9 xs r:=λ M0 g w v hm hn hv=>by
 unfold xO at h
 split at h
 ·
  rename_i hlen
  injection h with h
  subst h
  have none_:∀ A c,v=.slice A 0 c->xs=[]->Calls Tryz.prog 157 #[v] w (λ en w'=>∃ u,en=.returned u/\w.grownBy w' g/\(xs=[]->w'=w/\We xs=[])/\(dtip g 9 (We xs)).rd (insO g M0) w' v):=λ A c hA hx=>by
   subst hx
   rw[hA] at hv ⊢
   exact(Tryz.slices_Sort_string_none A c w).mono λ en w' ⟨he,hw⟩=>by
    subst hw
    exact⟨_,he,World.grownBy.refl _ _,λ _=>⟨rfl,sortS_nil⟩,by rw[sortS_nil];exact hv⟩
  rcases hv with⟨cells,hown,hrow,hb⟩ | ⟨hg,hx,A,hA⟩
  ·
   obtain⟨hc,hsm⟩:=rowR_str hrow
   rcases hown.2 with⟨h1,h2⟩ | ⟨b,cap,cur,h1,h2,h3,h4,h5,h6,h7⟩
   ·
    exact none_ _ _ h1 (List.eq_nil_of_length_eq_zero h2)
   ·
    by_cases hx:xs=[]
    ·
     subst hx;exact none_ _ _ h1 rfl
    ·
     have hgb:g=some b:=by rw[← hb,h1];rfl
     have hown':w.ownsRow 0 9 1 v xs.length ((xs.map (·.l)).map encStr):=by rw[← hc];exact hown
     have hH:Sort.Holds encStr w b 0 (xs.map (·.l)).toArray:=by
      obtain⟨g',cap',e1,_,_,_,_,_,hH⟩:=Lib.holds_of_ownsRow hown' (by rw[h1];simp)
      rw[h1] at e1
      injection e1 with e1
      injection e1 with e1
      injection e1 with e1
      subst e1
      exact hH
     have hs:=Tryz.slices_Sort_string b 0 cap (xs.map (·.l)) w hH (jV h3) (by simpa using hlen)
     rw[List.length_map,← h1] at hs
     refine hs.mono λ en w' ⟨he,n,os,hw⟩=>⟨_,he,?_,λ e=>absurd e hx,?_⟩
     ·
      rw[hw,hgb];exact grownBy_sorted _
     ·
      refine .inl ⟨((We xs).map (·.l)).map encStr,?_,str_rowR λ x hx=>hsm x (sortS_mem.1 hx),hb⟩
      have:=ownsRow_sorted (n:=n) (os:=os) (ss:=xs.map (·.l)) (ts:=(We xs).map (·.l)) (by simp[zaD]) h2 h3 (by simpa using h4) h5 h6
      rw[zaD,hw,h1]
      rw[List.length_map,sortS_l] at this
      rw[sortS_l]
      exact this
  ·
   exact none_ A 0 hA hx
 ·
  cases h
theorem YD{xs r:List Str}(h:xm xs=some r):Qg Tryz.prog 158 9 xs [] r:=λ M0 g w v vs hm hn hv hvs=>by
 cases hvs
 unfold xm at h
 split at h
 ·
  rename_i hlen
  injection h with h
  subst h
  have hlt:∀ b,g=some b->b<w.heap.size:=λ b hb=>hm b (.inr hb)
  have none_:∀ A c,v=.slice A 0 c->xs=[]->Calls Tryz.prog 158 #[v] w (λ en w'=>∃ v' g',en=.returned v'/\w.grownBy w' g/\(g'=g\/∀ b,g'=some b->w.heap.size<=b)/\(∀ b,g'=some b->b<w'.heap.size)/\(dtip g' 9 (Zo xs)).rd (insO g' M0) w' v'):=λ A c hA hx=>by
   subst hx
   rw[hA] at hv ⊢
   exact(Tryz.slices_Compact_string_empty A c w).mono λ en w' ⟨he,hw⟩=>by
    subst hw
    exact⟨_,g,he,World.grownBy.refl _ _,.inl rfl,hlt,hv⟩
  rcases hv with⟨cells,hown,hrow,hb⟩ | ⟨hg,hx,A,hA⟩
  ·
   obtain⟨hc,hsm⟩:=rowR_str hrow
   rcases hown.2 with⟨h1,h2⟩ | ⟨b,cap,cur,h1,h2,h3,h4,h5,h6,h7⟩
   ·
    exact none_ _ _ h1 (List.eq_nil_of_length_eq_zero h2)
   ·
    have hgb:g=some b:=by rw[← hb,h1];rfl
    have hown':w.ownsRow 0 9 1 v xs.length ((xs.map (·.l)).map encStr):=by rw[← hc];exact hown
    have hH:Sort.Holds encStr w b 0 (xs.map (·.l)).toArray:=by
     obtain⟨g',cap',e1,_,_,_,_,_,hH⟩:=Lib.holds_of_ownsRow hown' (by rw[h1];simp)
     rw[h1] at e1
     injection e1 with e1
     injection e1 with e1
     injection e1 with e1
     subst e1
     exact hH
    have hs:=Tryz.slices_Compact_string b 0 cap (xs.map (·.l)) w hH (by simpa using hlen) (by simpa using h4)
    rw[List.length_map,← h1] at hs
    have hle:=Lib.compact_length_le (xs.map (·.l))
    rw[List.length_map] at hle
    refine hs.mono λ en w' ⟨he,q,hw⟩=>?_
    have hgr:w.grownBy w' g:=by
     rw[hw,hgb]
     have:=grownBy_sorted (w:=w) (g:=b) (n:=q) (os:=#[]) (Lib.compact (xs.map λ x:Str=>x.l)++List.replicate (xs.length - (Lib.compact (xs.map λ x:Str=>x.l)).length) []).toArray
     rwa[Sort.grow_empty] at this
    refine⟨_,g,he,hgr,.inl rfl,λ c hc=>Nat.lt_of_lt_of_le (hlt c hc) hgr.size,.inl ⟨((Zo xs).map (·.l)).map encStr,?_,str_rowR λ x hx=>hsm x (compactS_mem hx),by rw[hgb];rfl⟩⟩
    have e1:(Zo xs).map (·.l)=Lib.compact (xs.map (·.l)):=map_mk _
    have e2:(Zo xs).length=(Lib.compact (xs.map (·.l))).length:=by simp[Zo]
    rw[e1,e2,hw]
    rw[h1] at hown'
    have:=Lib.ownsRow_putRow (q:=q) (ys:=Lib.compact (xs.map (·.l))++List.replicate (xs.length - (Lib.compact (xs.map (·.l))).length) []) hown' (by simp;omega) (k:=(Lib.compact (xs.map (·.l))).length) hle
    rwa[List.take_left'] at this
    rfl
  ·
   exact none_ A 0 hA hx
 ·
  cases h
open Go.RowKit
def xF(s p:Str):Option Int:=ja s p
theorem Y7{s p:Str}{r:Int}(h:xF s p=some r):Fn Tryz.prog 174 [dt s,dt p] (dt r):=λ M w vs _ hr=>by
 obtain⟨u,v,rfl,hu,hv⟩:=rd2 hr
 unfold xF ja at h
 split at h
 ·
  rename_i c hc
  injection h with h
  rw[(xP.1 hu).1,(xP.1 hv).1]
  have:=Tryz.stringslite_Index_one ⟨⟨s.l⟩⟩ c w
  refine fn_same (v:=.int .i64 r) ?_ (yy.2 rfl)
  simp only[strv,hc]
  rw[← h]
  exact this
 ·
  cases h
end Go.Proofs.YtdoidiipacdbpaaGreatDoor
