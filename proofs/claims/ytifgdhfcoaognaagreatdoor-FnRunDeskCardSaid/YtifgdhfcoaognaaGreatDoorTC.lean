import Derived.Shelf.Strings.Builder1
import Derived.Shelf.Strings.Builder2
import Derived.Shelf.Strings.OnBuilder
import Derived.Shelf.Small.Bits
import Derived.Shelf.Strings.BuilderF
import Derived.Shelf.Strings.BuilderK
import Derived.Shelf.Strings.Builder2Cap
import Derived.Shelf.Strconv.Atoi
import Derived.Shelf.Strconv.Itoa0
import Derived.Shelf.Strconv.Itoa1
import Derived.Shelf.LaysM
import Derived.Shelf.Strconv.Itoa2
import Derived.Shelf.Strconv.Itoa3
import Derived.Shelf.Strconv.AtoiErrFast
import Derived.Shelf.Strconv.ParseIntEmpty
import Derived.Shelf.Strconv.AtoiFail
import Derived.Shelf.Strconv.Clone
import Derived.Shelf.Strconv.SyntaxError
import Derived.Shelf.LaysC
import Derived.Shelf.Strconv.ToError
import Derived.Shelf.Strconv.Lower
import Derived.Shelf.Strconv.ParseUint10
import Derived.Shelf.Strconv.ParseUint10Empty
import Derived.Shelf.Strconv.ParseUint10Any
import Derived.Shelf.Strconv.ParseInt10
import Derived.Shelf.Strconv.AtoiLong
import Derived.Shelf.Strconv.AtoiInnerAll
import Derived.Shelf.Strconv.RangeError
import Derived.Shelf.Strconv.ToErrorRange
import Derived.Shelf.Strconv.AtoiAll
import Derived.Shelf.Strings.Search1
import Derived.Shelf.Strings.Search2
import Derived.Shelf.Strings.Search3
import Derived.Shelf.Strings.Cut
import Derived.Shelf.Strings.Count
import Derived.Shelf.Strings.Shaped
import Derived.Shelf.Sort.Plain
import Derived.Shelf.Strings.LastIndex
import Derived.Shelf.Strings.Prefix
import Derived.Shelf.Strings.Split
import Derived.Shelf.Strings.SplitShaped
import Derived.Shelf.Unicode.DecodeSlow
import Derived.Shelf.Strings.BuilderCap
import Derived.Shelf.Slices.Turned
import Derived.Shelf.Slices.CompactS
import Derived.Shelf.Slices.Cells
import Derived.Shelf.Slices.In.SortNone
import Derived.Ground.PaProg
import Derived.Shelf.Path.Small
import Derived.Test.YtifgdhfcoaognaaGreatDoorProg
import Derived.Test.YtifgdhfcoaognaaGreatDoorTB
namespace Go.Proofs
open Go.Shelf
set_option maxRecDepth 100000
def Tryz.lays156_ren:Go.Shelf.Ren:=⟨λ | 156=>30 | 165=>67 | 166=>68 | 169=>69 | 240=>101 | 241=>102 | 276=>132 | 277=>133 | n=>n,λ | 31=>24 | 9=>9 | 3=>3 | 4=>4 | 0=>0 | 20=>20 | 72=>100 | 76=>92 | 70=>98 | 37=>22 | 75=>91 | 127=>133 | 164=>164 | 5=>5 | 80=>102 | n=>n,λ | n=>n⟩
theorem Tryz.lays156:Go.Proofs.Lays.n156 Tryz.prog Tryz.lays156_ren:=by constructor <;> first | kernel_rfl | decide | exact λ _=>by kernel_rfl
theorem Tryz.Builder_Extra_156:Builder.Extra Tryz.prog Tryz.lays156_ren:=by constructor <;> first | kernel_rfl | decide | exact λ _=>by kernel_rfl | (constructor <;> first | kernel_rfl | decide | exact λ _=>by kernel_rfl)
open Go.RowKit in
theorem Tryz.strings_Join_none(a:Option Addr)(c:Nat)(sep:ByteArray)(w:World):
  Calls Tryz.prog 30 #[.slice a 0 c,.string sep] w λ e w'=>e=.returned (.string ⟨#[]⟩)/\w'=w:=Any.strings_Join_none Tryz.lays156 Tryz.Builder_Extra_156 a c sep w
open Go.RowKit in
theorem Tryz.strings_Join(bk o c:Nat)(xs:List ByteArray)(sep:ByteArray)(w:World)(hcells:∀ (j:Nat) x,xs[j]?=some x->w.cell? ⟨bk,o+j,none⟩=some (.string x))(hbk:bk<w.heap.size)(hN:xs.length<=140737488355328)(hcap:xs.length<=c)(hlen:(Lib.join (xs.map (·.data.toList)) sep.data.toList).length<=140737488355328):
  Calls Tryz.prog 30 #[.slice (some ⟨bk,o,none⟩) xs.length c,.string sep] w λ e w'=>e=.returned (.string ⟨(Lib.join (xs.map (·.data.toList)) sep.data.toList).toArray⟩)/\Below w.heap.size w w':=Any.strings_Join Tryz.lays156 Tryz.Builder_Extra_156 bk o c xs sep w hcells hbk hN hcap hlen
def Tryz.lays171_ren:Go.Shelf.Ren:=⟨λ | 171=>32 | 243=>72 | 246=>106 | 283=>138 | 284=>139 | 285=>140 | 286=>141 | 129=>175 | 317=>174 | 318=>176 | 319=>177 | 320=>178 | 337=>205 | 338=>206 | n=>n,λ | 3=>3 | 9=>9 | 2=>2 | 4=>4 | 171=>167 | 0=>0 | 53=>168 | 37=>22 | 5=>5 | 173=>171 | 212=>194 | 51=>195 | 20=>20 | 213=>196 | 46=>173 | 232=>246 | 233=>247 | n=>n,λ | 17=>5 | 18=>8 | 19=>9 | n=>n⟩
theorem Tryz.lays171:Go.Proofs.Lays.n171 Tryz.prog Tryz.lays171_ren:=by constructor <;> first | kernel_rfl | decide | exact λ _=>by kernel_rfl
open Go.RowKit Go.Sort Go.Lib in
theorem Tryz.strconv_Itoa_small(i:Nat)(hi:i<100)(w:World):
  Calls Tryz.prog 32 #[.int .i64 i] w λ e w'=>e=.returned (.string ⟨(Lib.decDigits i).toArray⟩)/\w'=w:=Any.strconv_Itoa_small Tryz.lays171 i hi w
def Tryz.laysC172_ren:Go.Shelf.Ren:=⟨λ | 172=>61 | 244=>96 | 245=>97 | 247=>126 | 279=>127 | 280=>128 | 281=>129 | 282=>130 | 287=>169 | 316=>170 | 171=>32 | 205=>171 | 321=>193 | 322=>194 | 243=>72 | 246=>106 | 283=>138 | 284=>139 | 285=>140 | 286=>141 | 129=>175 | 317=>174 | 318=>176 | 319=>177 | 320=>178 | 337=>205 | 338=>206 | n=>n,λ | 9=>9 | 3=>3 | 75=>91 | 76=>92 | 4=>4 | 5=>5 | 167=>157 | 37=>22 | 0=>0 | 85=>158 | 2=>2 | 168=>160 | 53=>168 | 175=>186 | 46=>173 | 210=>189 | 127=>133 | 145=>219 | 143=>217 | 21=>21 | 171=>167 | 173=>171 | 212=>194 | 51=>195 | 20=>20 | 213=>196 | 232=>246 | 233=>247 | 80=>102 | n=>n,λ | 15=>3 | 16=>4 | 17=>5 | 18=>8 | 19=>9 | n=>n⟩
theorem Tryz.laysC172:Go.Proofs.LaysC.n172 Tryz.prog Tryz.laysC172_ren:=by constructor <;> first | kernel_rfl | decide | exact λ _=>by kernel_rfl | (constructor <;> first | kernel_rfl | decide | exact λ _=>by kernel_rfl | (constructor <;> first | kernel_rfl | decide | exact λ _=>by kernel_rfl))
open Go.RowKit in
theorem Tryz.strconv_Atoi_ok(s:ByteArray)(hmax:s.size<=9223372036854775806)(v:Int)(h:Lib.atoiAll s.data.toList=.ok v)(w:World):
  Calls Tryz.prog 61 #[.string s] w λ e w'=>e=.returned (.tuple #[.int .i64 v,.nilIface])/\(w'=w\/∃ t,w'=Lib.bytesWorld w 5 t):=Any.strconv_Atoi_ok Tryz.laysC172 s hmax v h w
open Go.RowKit in
theorem Tryz.strconv_Atoi_range(s:ByteArray)(hlim:s.size<=281474976710656)(h:Lib.atoiAll s.data.toList=.range)(ev:Value)(w:World)(hv:w.cell? ⟨4,0,none⟩=some ev)(hev:ev=.nilIface\/∃ te pe,ev=.iface te pe):
  Calls Tryz.prog 61 #[.string s] w λ e w'=>∃ N,e=.returned (.tuple #[.int .i64 (Lib.atoiSat s.data.toList),.iface 160 (.pointer (some ⟨N,0,none⟩))])/\w.heap.size<=N/\w'.heap[N]?=some (.cells #[.string ⟨#[65,116,111,105]⟩,.string s,ev] 189 (0,0))/\Below w.heap.size w w':=Any.strconv_Atoi_range Tryz.laysC172 s hlim h ev w hv hev
def Tryz.lays219_ren:Go.Shelf.Ren:=⟨λ | 219=>107 | 217=>142 | 225=>143 | 224=>144 | 267=>145 | 266=>179 | 314=>180 | n=>n,λ | 9=>9 | 3=>3 | 4=>4 | 5=>5 | 46=>173 | 146=>198 | 51=>195 | n=>n,λ | 1=>2 | n=>n⟩
theorem Tryz.lays219:Go.Proofs.Lays.n219 Tryz.prog Tryz.lays219_ren:=by constructor <;> first | kernel_rfl | decide | exact λ _=>by kernel_rfl
open Go.RowKit Go.Lib in
theorem Tryz.stringslite_Index_one(s:ByteArray)(c:UInt8)(w:World):
  Calls Tryz.prog 107 #[.string s,.string ⟨#[c]⟩] w λ e w'=>e=.returned (.int .i64 (Lib.indexByte s.data.toList c))/\w'=w:=Any.stringslite_Index_one Tryz.lays219 s c w
def Tryz.lays143_ren:Go.Shelf.Ren:=⟨λ | 143=>95 | 219=>107 | 217=>142 | 225=>143 | 224=>144 | 267=>145 | 266=>179 | 314=>180 | n=>n,λ | 9=>9 | 3=>3 | 4=>4 | 5=>5 | 46=>173 | 146=>198 | 51=>195 | n=>n,λ | 1=>2 | n=>n⟩
theorem Tryz.lays143:Go.Proofs.Lays.n143 Tryz.prog Tryz.lays143_ren:=by constructor <;> first | kernel_rfl | decide | exact λ _=>by kernel_rfl
open Go.RowKit Go.Lib in
theorem Tryz.strings_Index_one(s:ByteArray)(c:UInt8)(w:World):
  Calls Tryz.prog 95 #[.string s,.string ⟨#[c]⟩] w λ e w'=>e=.returned (.int .i64 (Lib.indexByte s.data.toList c))/\w'=w:=Any.strings_Index_one Tryz.lays143 s c w
def Tryz.lays138_ren:Go.Shelf.Ren:=⟨λ | 138=>94 | 195=>123 | 218=>125 | 143=>95 | 219=>107 | 217=>142 | 225=>143 | 224=>144 | 267=>145 | 266=>179 | 314=>180 | n=>n,λ | 9=>9 | 3=>3 | 4=>4 | 5=>5 | 0=>0 | 46=>173 | 146=>198 | 51=>195 | n=>n,λ | 1=>2 | n=>n⟩
theorem Tryz.lays138:Go.Proofs.Lays.n138 Tryz.prog Tryz.lays138_ren:=by constructor <;> first | kernel_rfl | decide | exact λ _=>by kernel_rfl
open Go.RowKit Go.Lib in
theorem Tryz.strings_Count_one(s:ByteArray)(c:UInt8)(w:World):
  Calls Tryz.prog 94 #[.string s,.string ⟨#[c]⟩] w λ e w'=>e=.returned (.int .i64 (Lib.countByte s.data.toList c))/\w'=w:=Any.strings_Count_one Tryz.lays138 s c w
def Tryz.lays190_ren:Go.Shelf.Ren:=⟨λ | 190=>134 | 125=>173 | 258=>172 | 128=>204 | 129=>175 | 302=>195 | 303=>196 | 304=>197 | 305=>198 | 306=>199 | 307=>200 | 308=>201 | 309=>202 | 310=>203 | 333=>219 | 329=>220 | 330=>221 | 334=>222 | 335=>223 | 336=>224 | 344=>232 | n=>n,λ | 31=>24 | 9=>9 | 3=>3 | 46=>173 | 0=>0 | 51=>195 | 53=>168 | 4=>4 | 183=>222 | 182=>221 | 131=>226 | 5=>5 | 218=>240 | 222=>244 | 228=>253 | 229=>139 | n=>n,λ | n=>n⟩
theorem Tryz.lays190:Go.Proofs.Lays.n190 Tryz.prog Tryz.lays190_ren:=by constructor <;> first | kernel_rfl | decide | exact λ _=>by kernel_rfl
open Go.Sort Go.RowKit in
theorem Tryz.slices_Sort_string(blk off cap:Nat)(ss:List (List UInt8))(w:World)(hH:Holds encStr w blk off ss.toArray)(hblk:blk<w.heap.size)(hsz:ss.length<4611686018427387904):
  Calls Tryz.prog 134 #[.slice (some ⟨blk,off,none⟩) ss.length cap] w λ e w'=>
   e=.returned (.tuple #[])/\∃ n os,w'=grow (putRow encStr (Sort.ahead w n) blk off (ss.mergeSort λ x y=>decide (x<=y)).toArray) os:=Any.slices_Sort_string Tryz.lays190 blk off cap ss w hH hblk hsz
def Tryz.lays194_ren:Go.Shelf.Ren:=⟨λ | 194=>135 | n=>n,λ | 31=>24 | 9=>9 | 3=>3 | 4=>4 | 0=>0 | n=>n,λ | n=>n⟩
theorem Tryz.lays194:Go.Proofs.Lays.n194 Tryz.prog Tryz.lays194_ren:=by constructor <;> first | kernel_rfl | decide | exact λ _=>by kernel_rfl
open Go.RowKit Go.Lib Go.Sort in
theorem Tryz.slices_Compact_string(blk off cap:Nat)(zs:List (List UInt8))(w:World)(hH:Holds encStr w blk off zs.toArray)(hsz:zs.length<=9223372036854775807)(hcap:zs.length<=cap):
  Calls Tryz.prog 135 #[.slice (some ⟨blk,off,none⟩) zs.length cap] w λ e w'=>e=.returned (.slice (some ⟨blk,off,none⟩) (Lib.compact zs).length cap)/\∃ q,w'=putRow encStr (Sort.ahead w q) blk off (Lib.compact zs++List.replicate (zs.length - (Lib.compact zs).length) []).toArray:=Any.slices_Compact_string Tryz.lays194 blk off cap zs w hH hsz hcap
open Go.RowKit Go.Lib Go.Sort in
theorem Tryz.slices_Compact_string_empty(a:Option Addr)(cap:Nat)(w:World):
  Calls Tryz.prog 135 #[.slice a 0 cap] w λ e w'=>e=.returned (.slice a 0 cap)/\w'=w:=Any.slices_Compact_string_empty Tryz.lays194 a cap w
open Go.RowKit Go.Sort in
theorem Tryz.slices_Sort_string_none(p:Option Addr)(cap:Nat)(w:World):
  Calls Tryz.prog 134 #[.slice p 0 cap] w λ e w'=>e=.returned (.tuple #[])/\w'=w:=Any.slices_Sort_string_none Tryz.lays190 p cap w
end Go.Proofs
namespace Go.Proofs.YtifgdhfcoaognaaGreatDoor
open Go.RowKit
theorem fn_none{P:Program}{f:FuncId}{xs:List Dt}{y:Dt}{α:Type}{r:α}(h:(none:Option α)=some r):Fn P f xs y:=by cases h
theorem rd1{M:Nat->Prop}{w:World}{vs:List Value}{x:Dt}(h:RdAll M w vs [x]):∃ v,vs=[v]/\x.rd M w v:=by
 cases h with
 | cons h r=>cases r;exact⟨_,Z,h⟩
theorem rd2{M:Nat->Prop}{w:World}{vs:List Value}{x y:Dt}(h:RdAll M w vs [x,y]):∃ u v,vs=[u,v]/\x.rd M w u/\y.rd M w v:=by
 cases h with
 | cons h r=>obtain⟨v,rfl,hv⟩:=rd1 r;exact⟨_,_,Z,h,hv⟩
theorem fn_same{P:Program}{f:FuncId}{vs:Array Value}{M:Nat->Prop}{w:World}{v:Value}{y:Dt}(h:Calls P f vs w λ e w'=>e=.returned v/\w'=w)(hy:y.rd M w v):Calls P f vs w (λ e w'=>∃ v,e=.returned v/\Ext0 w w'/\y.rd M w' v):=
 h.mono λ e w' ⟨he,hw⟩=>⟨v,he,by rw[hw];exact Ext0.refl w,by rw[hw];exact hy⟩
def wK(s p:Str):Option Int:=match p.l with
 | [c]=>some (Lib.indexByte s.l c)
 | _=>none
def ZB(s p:Str):Option Int:=match p.l with
 | [c]=>some (Lib.countByte s.l c:Int)
 | _=>none
def Xo(_:Str)(_:Int):Option (List Str):=none
theorem zdO{s p:Str}{r:Int}(h:wK s p=some r):Fn Tryz.prog 95 [dt s,dt p] (dt r):=λ M w vs _ hr=>by
 obtain⟨u,v,rfl,hu,hv⟩:=rd2 hr
 unfold wK at h
 split at h
 ·rename_i c hc
  injection h with h
  rw[(xc.1 hu).1,(xc.1 hv).1]
  have:=Tryz.strings_Index_one ⟨⟨s.l⟩⟩ c w
  refine fn_same (v:=.int .i64 r) ?_ (yn.2 Z)
  simp only[strv,hc]
  rw[← h]
  exact this
 ·cases h
theorem zdP{s p:Str}{r:Int}(h:ZB s p=some r):Fn Tryz.prog 94 [dt s,dt p] (dt r):=λ M w vs _ hr=>by
 obtain⟨u,v,rfl,hu,hv⟩:=rd2 hr
 unfold ZB at h
 split at h
 ·rename_i c hc
  injection h with h
  rw[(xc.1 hu).1,(xc.1 hv).1]
  have:=Tryz.strings_Count_one ⟨⟨s.l⟩⟩ c w
  refine fn_same (v:=.int .i64 r) ?_ (yn.2 Z)
  simp only[strv,hc]
  rw[← h]
  exact this
 ·cases h
theorem zb5{s:Str}{n:Int}{r:List Str}(h:Xo s n=some r):Fn Tryz.prog 93 [dt s,dt n] (dt r):=fn_none h
def wx(xs:List Str):Option (List Str):=if xs.length<4611686018427387904 then some (JM xs) else none
def xM(xs:List Str):Option (List Str):=if xs.length<=9223372036854775807 then some (ZA xs) else none
theorem Wt{xs r:List Str}(h:wx xs=some r):FnIn Tryz.prog 134 9 xs r:=λ M0 g w v hm hn hv=>by
 unfold wx at h
 split at h
 ·rename_i hlen
  injection h with h
  subst h
  have none_:∀ A c,v=.slice A 0 c->xs=[]->Calls Tryz.prog 134 #[v] w (λ en w'=>∃ u,en=.returned u/\w.grownBy w' g/\(xs=[]->w'=w/\JM xs=[])/\(dtip g 9 (JM xs)).rd (insO g M0) w' v):=λ A c hA hx=>by
   subst hx
   rw[hA] at hv ⊢
   exact(Tryz.slices_Sort_string_none A c w).mono λ en w' ⟨he,hw⟩=>by
    subst hw
    exact⟨_,he,World.grownBy.refl _ _,λ _=>⟨Z,zcX⟩,by rw[zcX];exact hv⟩
  rcases hv with⟨cells,hown,hrow,hb⟩ | ⟨hg,hx,A,hA⟩
  ·obtain⟨hc,hsm⟩:=zb2 hrow
   rcases hown.2 with⟨h1,h2⟩ | ⟨b,cap,cur,h1,h2,h3,h4,h5,h6,h7⟩
   ·exact none_ _ _ h1 (List.eq_nil_of_length_eq_zero h2)
   ·by_cases hx:xs=[]
    ·subst hx;exact none_ _ _ h1 Z
    ·have hgb:g=some b:=by rw[← hb,h1];rfl
     have hown':w.ownsRow 0 9 1 v xs.length ((xs.map (·.l)).map encStr):=by rw[← hc];exact hown
     have hH:Sort.Holds encStr w b 0 (xs.map (·.l)).toArray:=by
      obtain⟨g',cap',e1,_,_,_,_,_,hH⟩:=Lib.holds_of_ownsRow hown' (by rw[h1];simp)
      rw[h1] at e1
      injection e1 with e1
      injection e1 with e1
      injection e1 with e1
      subst e1
      exact hH
     have hs:=Tryz.slices_Sort_string b 0 cap (xs.map (·.l)) w hH (wP h3) (by simpa using hlen)
     rw[List.length_map,← h1] at hs
     refine hs.mono λ en w' ⟨he,n,os,hw⟩=>⟨_,he,?_,λ e=>absurd e hx,?_⟩
     ·rw[hw,hgb];exact grownBy_sorted _
     ·refine .inl ⟨((JM xs).map (·.l)).map encStr,?_,str_rowR λ x hx=>hsm x (sortS_mem.1 hx),hb⟩
      have:=ownsRow_sorted (n:=n) (os:=os) (ss:=xs.map (·.l)) (ts:=(JM xs).map (·.l)) (by simp[zcW]) h2 h3 (by simpa using h4) h5 h6
      rw[zcW,hw,h1]
      rw[List.length_map,sortS_l] at this
      rw[sortS_l]
      exact this
  ·exact none_ A 0 hA hx
 ·cases h
theorem XJ{xs r:List Str}(h:xM xs=some r):zbr Tryz.prog 135 9 xs [] r:=λ M0 g w v vs hm hn hv hvs=>by
 cases hvs
 unfold xM at h
 split at h
 ·rename_i hlen
  injection h with h
  subst h
  have hlt:∀ b,g=some b->b<w.heap.size:=λ b hb=>hm b (.inr hb)
  have none_:∀ A c,v=.slice A 0 c->xs=[]->Calls Tryz.prog 135 #[v] w (λ en w'=>∃ v' g',en=.returned v'/\w.grownBy w' g/\(g'=g\/∀ b,g'=some b->w.heap.size<=b)/\(∀ b,g'=some b->b<w'.heap.size)/\(dtip g' 9 (ZA xs)).rd (insO g' M0) w' v'):=λ A c hA hx=>by
   subst hx
   rw[hA] at hv ⊢
   exact(Tryz.slices_Compact_string_empty A c w).mono λ en w' ⟨he,hw⟩=>by
    subst hw
    exact⟨_,g,he,World.grownBy.refl _ _,.inl Z,hlt,hv⟩
  rcases hv with⟨cells,hown,hrow,hb⟩ | ⟨hg,hx,A,hA⟩
  ·obtain⟨hc,hsm⟩:=zb2 hrow
   rcases hown.2 with⟨h1,h2⟩ | ⟨b,cap,cur,h1,h2,h3,h4,h5,h6,h7⟩
   ·exact none_ _ _ h1 (List.eq_nil_of_length_eq_zero h2)
   ·have hgb:g=some b:=by rw[← hb,h1];rfl
    have hown':w.ownsRow 0 9 1 v xs.length ((xs.map (·.l)).map encStr):=by rw[← hc];exact hown
    have hH:Sort.Holds encStr w b 0 (xs.map (·.l)).toArray:=by
     obtain⟨g',cap',e1,_,_,_,_,_,hH⟩:=Lib.holds_of_ownsRow hown' (by rw[h1];simp)
     rw[h1] at e1
     injection e1 with e1
     injection e1 with e1
     injection e1 with e1
     subst e1
     exact hH
    have hs:=Tryz.slices_Compact_string b 0 cap (xs.map (·.l)) w hH (by simpa using hlen) (by simpa using h4)
    rw[List.length_map,← h1] at hs
    have hle:=Lib.compact_length_le (xs.map (·.l))
    rw[List.length_map] at hle
    refine hs.mono λ en w' ⟨he,q,hw⟩=>?_
    have hgr:w.grownBy w' g:=by
     rw[hw,hgb]
     have:=grownBy_sorted (w:=w) (g:=b) (n:=q) (os:=#[]) (Lib.compact (xs.map λ x:Str=>x.l)++List.replicate (xs.length - (Lib.compact (xs.map λ x:Str=>x.l)).length) []).toArray
     rwa[Sort.grow_empty] at this
    refine⟨_,g,he,hgr,.inl Z,λ c hc=>Nat.lt_of_lt_of_le (hlt c hc) hgr.size,.inl ⟨((ZA xs).map (·.l)).map encStr,?_,str_rowR λ x hx=>hsm x (compactS_mem hx),by rw[hgb];rfl⟩⟩
    have e1:(ZA xs).map (·.l)=Lib.compact (xs.map (·.l)):=map_mk _
    have e2:(ZA xs).length=(Lib.compact (xs.map (·.l))).length:=by simp[ZA]
    rw[e1,e2,hw]
    rw[h1] at hown'
    have:=Lib.ownsRow_putRow (q:=q) (ys:=Lib.compact (xs.map (·.l))++List.replicate (xs.length - (Lib.compact (xs.map (·.l))).length) []) hown' (by simp;omega) (k:=(Lib.compact (xs.map (·.l))).length) hle
    rwa[List.take_left'] at this
    rfl
  ·exact none_ A 0 hA hx
 ·cases h
def y7(xs:List Str)(p:Str):Option Str:=if xs.length<=140737488355328/\(Lib.join (xs.map (·.l)) p.l).length<=140737488355328 then some ⟨Lib.join (xs.map (·.l)) p.l⟩ else none
theorem Z6{xs:List Str}{p r:Str}(h:y7 xs p=some r):Fn Tryz.prog 30 [dt xs,dt p] (dt r):=λ M w vs hm hr=>by
 obtain⟨u,v,rfl,hu,hv⟩:=rd2 hr
 unfold y7 at h
 split at h
 ·rename_i hc
  injection h with h
  subst h
  obtain⟨cs,⟨A,c,hcs,h1,h2,h3⟩,hu'⟩:=hu
  subst hcs
  have hu2:u=.slice A xs.length c:=hu'
  have hv2:=(xc.1 hv).1
  rw[hu2,hv2]
  have fin:∀ (e:Ending) (w':World),e=.returned (.string ⟨(Lib.join (xs.map (·.l)) p.l).toArray⟩)/\Below w.heap.size w w'->∃ v,e=.returned v/\Ext0 w w'/\(dt (⟨Lib.join (xs.map (·.l)) p.l⟩:Str)).rd M w' v:=λ e w' ⟨he,hw⟩=>
   ⟨_,he,hw,xc.2 ⟨Z,by unfold maxLen;show(Lib.join (xs.map (·.l)) p.l).length<=_;omega⟩⟩
  rcases h3 with rfl | ⟨b,o,cells,rfl,hb,hcell,hrow⟩
  ·exact(Tryz.strings_Join_none A c ⟨⟨p.l⟩⟩ w).mono λ e w' ⟨he,hw⟩=>fin e w' ⟨he,by rw[hw];exact Ext0.refl w⟩
  ·by_cases hx:xs=[]
   ·subst hx
    exact(Tryz.strings_Join_none (some ⟨b,o,none⟩) c ⟨⟨p.l⟩⟩ w).mono λ e w' ⟨he,hw⟩=>fin e w' ⟨he,by rw[hw];exact Ext0.refl w⟩
   ·obtain⟨hcc,_⟩:=zb2 hrow
    have hj:=Tryz.strings_Join b o c (xs.map λ x=>(⟨⟨x.l⟩⟩:ByteArray)) ⟨⟨p.l⟩⟩ w (λ j x hj=>by
     rw[List.getElem?_map,Option.map_eq_some_iff] at hj
     obtain⟨y,hy,rfl⟩:=hj
     refine hcell j _ ?_
     rw[hcc,List.getElem?_map,List.getElem?_map,hy]
     rfl) (by
     obtain⟨x,xs',rfl⟩:=List.exists_cons_of_ne_nil hx
     exact zbP (hcell 0 (strv x) (by rw[hcc];rfl))) (by simpa using hc.1) (by simpa using h1) (by simpa[Function.comp_def] using hc.2)
    rw[List.length_map] at hj
    have e1:(xs.map λ x=>(⟨⟨x.l⟩⟩:ByteArray)).map (·.data.toList)=xs.map (·.l):=by rw[List.map_map];rfl
    rw[e1] at hj
    exact hj.mono fin
 ·cases h
open Go.RowKit Tryz
instance:Ct2 Tryz.prog 95 dt dt dt wK:=⟨λ h=>zdO h⟩
instance:Ct2 Tryz.prog 94 dt dt dt ZB:=⟨λ h=>zdP h⟩
instance:Ct2 Tryz.prog 93 dt dt dt Xo:=⟨λ h=>zb5 h⟩
instance:Ct2 Tryz.prog 30 dt dt dt y7:=⟨λ h=>Z6 h⟩
def yK(s p:Str):Option Int:=wK s p
theorem Wh{s p:Str}{r:Int}(h:yK s p=some r):Fn Tryz.prog 107 [dt s,dt p] (dt r):=λ M w vs _ hr=>by
 obtain⟨u,v,rfl,hu,hv⟩:=rd2 hr
 unfold yK wK at h
 split at h
 ·rename_i c hc
  injection h with h
  rw[(xc.1 hu).1,(xc.1 hv).1]
  have:=Tryz.stringslite_Index_one ⟨⟨s.l⟩⟩ c w
  refine fn_same (v:=.int .i64 r) ?_ (yn.2 Z)
  simp only[strv,hc]
  rw[← h]
  exact this
 ·cases h
end Go.Proofs.YtifgdhfcoaognaaGreatDoor
