import Derived.Shelf.Strings.Builder1
import Derived.Shelf.Strings.Builder2
import Derived.Shelf.Strings.OnBuilder
import Derived.Shelf.Small.Bits
import Derived.Shelf.Strings.BuilderF
import Derived.Shelf.Strings.BuilderK
import Derived.Shelf.Strings.Builder2Cap
import Derived.Shelf.Strconv.Itoa0
import Derived.Shelf.Strings.Search1
import Derived.Shelf.Strings.Search2
import Derived.Shelf.Strings.Search3
import Derived.Shelf.Strings.Cut
import Derived.Shelf.Strings.Count
import Derived.Shelf.LaysM
import Derived.Shelf.Strings.Shaped
import Derived.Shelf.Sort.Plain
import Derived.Shelf.Strings.LastIndex
import Derived.Shelf.Strings.Prefix
import Derived.Shelf.Unicode.DecodeSlow
import Derived.Shelf.Strings.BuilderCap
import Derived.Shelf.Slices.Turned
import Derived.Shelf.Slices.CompactS
import Derived.Shelf.Slices.Cells
import Derived.Shelf.Slices.In.SortNone
import Derived.Ground.PaProg
import Derived.Shelf.Path.Small
import Derived.Test.YtoomehfflopakaaGreatDoorProg
import Derived.Test.YtoomehfflopakaaGreatDoorTB
namespace Go.Proofs
open Go.Shelf
set_option maxRecDepth 100000
def Tryz.DS:Go.Shelf.Ren:=⟨λ | 156=>220 | 165=>246 | 166=>247 | 169=>248 | 240=>260 | 241=>261 | 276=>263 | 277=>264 | n=>n,λ | 31=>101 | 9=>9 | 3=>3 | 4=>4 | 0=>0 | 20=>20 | 72=>262 | 76=>265 | 70=>260 | 37=>40 | 75=>264 | 127=>276 | 164=>283 | 5=>5 | 80=>219 | n=>n,λ | n=>n⟩
theorem Tryz.DR:Go.Proofs.Lays.n156 Tryz.prog Tryz.DS:=by constructor <;> first | kernel_rfl | decide | exact λ _=>by kernel_rfl
theorem Tryz.DG:Builder.Extra Tryz.prog Tryz.DS:=by constructor <;> first | kernel_rfl | decide | exact λ _=>by kernel_rfl | (constructor <;> first | kernel_rfl | decide | exact λ _=>by kernel_rfl)
open Go.RowKit in
theorem Tryz.strings_Join_none(a:Option Addr)(c:Nat)(sep:ByteArray)(w:World):
  Calls Tryz.prog 220 #[.slice a 0 c,.string sep] w λ e w'=>e=.returned (.string ⟨#[]⟩)/\w'=w:=Any.strings_Join_none Tryz.DR Tryz.DG a c sep w
open Go.RowKit in
theorem Tryz.strings_Join(bk o c:Nat)(xs:List ByteArray)(sep:ByteArray)(w:World)(hcells:∀ (j:Nat) x,xs[j]?=some x->w.cell? ⟨bk,o+j,none⟩=some (.string x))(hbk:bk<w.heap.size)(hN:xs.length<=140737488355328)(hcap:xs.length<=c)(hlen:(Lib.join (xs.map (·.data.toList)) sep.data.toList).length<=140737488355328):
  Calls Tryz.prog 220 #[.slice (some ⟨bk,o,none⟩) xs.length c,.string sep] w λ e w'=>e=.returned (.string ⟨(Lib.join (xs.map (·.data.toList)) sep.data.toList).toArray⟩)/\Below w.heap.size w w':=Any.strings_Join Tryz.DR Tryz.DG bk o c xs sep w hcells hbk hN hcap hlen
def Tryz.Lz:Go.Shelf.Ren:=⟨λ | 219=>216 | 217=>231 | 225=>232 | 224=>233 | 267=>234 | 266=>252 | 314=>253 | n=>n,λ | 9=>9 | 3=>3 | 4=>4 | 5=>5 | 46=>240 | 146=>268 | 51=>257 | n=>n,λ | 1=>0 | n=>n⟩
theorem Tryz.Ly:Go.Proofs.Lays.n219 Tryz.prog Tryz.Lz:=by constructor <;> first | kernel_rfl | decide | exact λ _=>by kernel_rfl
open Go.RowKit Go.Lib in
theorem Tryz.stringslite_Index_one(s:ByteArray)(c:UInt8)(w:World):
  Calls Tryz.prog 216 #[.string s,.string ⟨#[c]⟩] w λ e w'=>e=.returned (.int .i64 (Lib.indexByte s.data.toList c))/\w'=w:=Any.stringslite_Index_one Tryz.Ly s c w
def Tryz.Lv:Go.Shelf.Ren:=⟨λ | 143=>214 | 219=>216 | 217=>231 | 225=>232 | 224=>233 | 267=>234 | 266=>252 | 314=>253 | n=>n,λ | 9=>9 | 3=>3 | 4=>4 | 5=>5 | 46=>240 | 146=>268 | 51=>257 | n=>n,λ | 1=>0 | n=>n⟩
theorem Tryz.Lu:Go.Proofs.Lays.n143 Tryz.prog Tryz.Lv:=by constructor <;> first | kernel_rfl | decide | exact λ _=>by kernel_rfl
open Go.RowKit Go.Lib in
theorem Tryz.strings_Index_one(s:ByteArray)(c:UInt8)(w:World):
  Calls Tryz.prog 214 #[.string s,.string ⟨#[c]⟩] w λ e w'=>e=.returned (.int .i64 (Lib.indexByte s.data.toList c))/\w'=w:=Any.strings_Index_one Tryz.Lu s c w
def Tryz.Lt:Go.Shelf.Ren:=⟨λ | 138=>213 | 195=>228 | 218=>230 | 143=>214 | 219=>216 | 217=>231 | 225=>232 | 224=>233 | 267=>234 | 266=>252 | 314=>253 | n=>n,λ | 9=>9 | 3=>3 | 4=>4 | 5=>5 | 0=>0 | 46=>240 | 146=>268 | 51=>257 | n=>n,λ | 1=>0 | n=>n⟩
theorem Tryz.Ls:Go.Proofs.Lays.n138 Tryz.prog Tryz.Lt:=by constructor <;> first | kernel_rfl | decide | exact λ _=>by kernel_rfl
open Go.RowKit Go.Lib in
theorem Tryz.strings_Count_one(s:ByteArray)(c:UInt8)(w:World):
  Calls Tryz.prog 213 #[.string s,.string ⟨#[c]⟩] w λ e w'=>e=.returned (.int .i64 (Lib.countByte s.data.toList c))/\w'=w:=Any.strings_Count_one Tryz.Ls s c w
def Tryz.Lw:Go.Shelf.Ren:=⟨λ | 190=>195 | 125=>218 | 258=>217 | 128=>244 | 129=>245 | 302=>235 | 303=>236 | 304=>237 | 305=>238 | 306=>239 | 307=>240 | 308=>241 | 309=>242 | 310=>243 | 333=>254 | 329=>255 | 330=>256 | 334=>257 | 335=>258 | 336=>259 | 344=>262 | n=>n,λ | 31=>101 | 9=>9 | 3=>3 | 46=>240 | 0=>0 | 51=>257 | 53=>259 | 4=>4 | 183=>250 | 182=>249 | 131=>254 | 5=>5 | 218=>270 | 222=>274 | 228=>281 | 229=>25 | n=>n,λ | n=>n⟩
theorem Tryz.DT:Go.Proofs.Lays.n190 Tryz.prog Tryz.Lw:=by constructor <;> first | kernel_rfl | decide | exact λ _=>by kernel_rfl
open Go.Sort Go.RowKit in
theorem Tryz.slices_Sort_string(blk off cap:Nat)(ss:List (List UInt8))(w:World)(hH:Holds encStr w blk off ss.toArray)(hblk:blk<w.heap.size)(hsz:ss.length<4611686018427387904):
  Calls Tryz.prog 195 #[.slice (some ⟨blk,off,none⟩) ss.length cap] w λ e w'=>
   e=.returned (.tuple #[])/\∃ n os,w'=grow (putRow encStr (Sort.ahead w n) blk off (ss.mergeSort λ x y=>decide (x<=y)).toArray) os:=Any.slices_Sort_string Tryz.DT blk off cap ss w hH hblk hsz
def Tryz.Lx:Go.Shelf.Ren:=⟨λ | 194=>196 | n=>n,λ | 31=>101 | 9=>9 | 3=>3 | 4=>4 | 0=>0 | n=>n,λ | n=>n⟩
theorem Tryz.DU:Go.Proofs.Lays.n194 Tryz.prog Tryz.Lx:=by constructor <;> first | kernel_rfl | decide | exact λ _=>by kernel_rfl
open Go.RowKit Go.Lib Go.Sort in
theorem Tryz.slices_Compact_string(blk off cap:Nat)(zs:List (List UInt8))(w:World)(hH:Holds encStr w blk off zs.toArray)(hsz:zs.length<=9223372036854775807)(hcap:zs.length<=cap):
  Calls Tryz.prog 196 #[.slice (some ⟨blk,off,none⟩) zs.length cap] w λ e w'=>e=.returned (.slice (some ⟨blk,off,none⟩) (Lib.compact zs).length cap)/\∃ q,w'=putRow encStr (Sort.ahead w q) blk off (Lib.compact zs++List.replicate (zs.length - (Lib.compact zs).length) []).toArray:=Any.slices_Compact_string Tryz.DU blk off cap zs w hH hsz hcap
open Go.RowKit Go.Lib Go.Sort in
theorem Tryz.slices_Compact_string_empty(a:Option Addr)(cap:Nat)(w:World):
  Calls Tryz.prog 196 #[.slice a 0 cap] w λ e w'=>e=.returned (.slice a 0 cap)/\w'=w:=Any.slices_Compact_string_empty Tryz.DU a cap w
open Go.RowKit Go.Sort in
theorem Tryz.slices_Sort_string_none(p:Option Addr)(cap:Nat)(w:World):
  Calls Tryz.prog 195 #[.slice p 0 cap] w λ e w'=>e=.returned (.tuple #[])/\w'=w:=Any.slices_Sort_string_none Tryz.DT p cap w
end Go.Proofs
namespace Go.Proofs.YtoomehfflopakaaGreatDoor
open Go.RowKit
theorem N4{P:Program}{f:FuncId}{xs:List Dt}{y:Dt}{α:Type}{r:α}(h:(none:Option α)=some r):Fn P f xs y:=by cases h
theorem R8{M:Nat->Prop}{w:World}{vs:List Value}{x:Dt}(h:RdAll M w vs [x]):∃ v,vs=[v]/\x.rd M w v:=by
 cases h with
 | cons h r=>cases r;exact⟨_,Z,h⟩
theorem vn{M:Nat->Prop}{w:World}{vs:List Value}{x y:Dt}(h:RdAll M w vs [x,y]):∃ u v,vs=[u,v]/\x.rd M w u/\y.rd M w v:=by
 cases h with
 | cons h r=>obtain⟨v,rfl,hv⟩:=R8 r;exact⟨_,_,Z,h,hv⟩
theorem Bn{P:Program}{f:FuncId}{vs:Array Value}{M:Nat->Prop}{w:World}{v:Value}{y:Dt}(h:Calls P f vs w λ e w'=>e=.returned v/\w'=w)(hy:y.rd M w v):Calls P f vs w (λ e w'=>∃ v,e=.returned v/\fy w w'/\y.rd M w' v):=
 h.mono λ e w' ⟨he,hw⟩=>⟨v,he,by rw[hw];exact fy.refl w,by rw[hw];exact hy⟩
def w6(s p:Str):Option Int:=match p.l with
 | [c]=>some (Lib.indexByte s.l c)
 | _=>none
def Yz(s p:Str):Option Int:=match p.l with
 | [c]=>some (Lib.countByte s.l c:Int)
 | _=>none
def Wz(_:Str)(_:Int):Option (List Str):=none
theorem Vs{s p r}(h:w6 s p=some r):Fn Tryz.prog 214 [dt s,dt p] (dt r):=λ M w vs _ hr=>by
 obtain⟨u,v,rfl,hu,hv⟩:=vn hr
 unfold w6 at h
 split at h
 .rename_i c hc
  injection h with h
  rw[(xT.1 hu).1,(xT.1 hv).1]
  have:=Tryz.strings_Index_one ⟨⟨s.l⟩⟩ c w
  refine Bn (v:=.int .i64 r) ?_ (yq.2 Z)
  simp only[ik,hc]
  rw[<-h]
  exact this
 .cases h
theorem Vt{s p r}(h:Yz s p=some r):Fn Tryz.prog 213 [dt s,dt p] (dt r):=λ M w vs _ hr=>by
 obtain⟨u,v,rfl,hu,hv⟩:=vn hr
 unfold Yz at h
 split at h
 .rename_i c hc
  injection h with h
  rw[(xT.1 hu).1,(xT.1 hv).1]
  have:=Tryz.strings_Count_one ⟨⟨s.l⟩⟩ c w
  refine Bn (v:=.int .i64 r) ?_ (yq.2 Z)
  simp only[ik,hc]
  rw[<-h]
  exact this
 .cases h
theorem Uw{s n r}(h:Wz s n=some r):Fn Tryz.prog 212 [dt s,dt n] (dt r):=N4 h
def wA(xs:List Str):Option (List Str):=if xs.length<4611686018427387904 then some (lZ xs) else none
def xO(xs:List Str):Option (List Str):=if xs.length<=9223372036854775807 then some (Xc xs) else none
theorem J9{xs r:List Str}(h:wA xs=some r):Ei Tryz.prog 195 9 xs r:=λ M0 g w v hm hn hv=>by
 unfold wA at h
 split at h
 .rename_i hlen
  injection h with h
  subst h
  have none_:∀ A c,v=.slice A 0 c->xs=[]->Calls Tryz.prog 195 #[v] w (λ en w'=>∃ u,en=.returned u/\w.grownBy w' g/\(xs=[]->w'=w/\lZ xs=[])/\(eQ g 9 (lZ xs)).rd (gp g M0) w' v):=λ A c hA hx=>by
   subst hx
   rw[hA] at hv ⊢
   exact(Tryz.slices_Sort_string_none A c w).mono λ en w' ⟨he,hw⟩=>by
    subst hw
    exact⟨_,he,cR _ _,λ _=>⟨Z,Hb⟩,by rw[Hb];exact hv⟩
  rcases hv with⟨cells,hown,hrow,hb⟩ | ⟨hg,hx,A,hA⟩
  .obtain⟨hc,hsm⟩:=vZ hrow
   rcases hown.2 with⟨h1,h2⟩ | ⟨b,cap,cur,h1,h2,h3,h4,h5,h6,h7⟩
   .exact none_ _ _ h1 (au h2)
   .by_cases hx:xs=[]
    .subst hx;exact none_ _ _ h1 Z
    .have hgb:g=some b:=by rw[<-hb,h1];rfl
     have hown':w.ownsRow 0 9 1 v xs.length ((xs.map (·.l)).map encStr):=by rw[<-hc];exact hown
     have hH:Sort.Holds encStr w b 0 (xs.map (·.l)).toArray:=by
      obtain⟨g',cap',e1,_,_,_,_,_,hH⟩:=Lib.holds_of_ownsRow hown' (by rw[h1];simp)
      rw[h1] at e1
      injection e1 with e1
      injection e1 with e1
      injection e1 with e1
      subst e1
      exact hH
     have hs:=Tryz.slices_Sort_string b 0 cap (xs.map (·.l)) w hH (xM h3) (by simpa using hlen)
     rw[bU,<-h1] at hs
     refine hs.mono λ en w' ⟨he,n,os,hw⟩=>⟨_,he,?_,λ e=>absurd e hx,?_⟩
     .rw[hw,hgb];exact grownBy_sorted _
     .refine .inl ⟨((lZ xs).map (·.l)).map encStr,?_,Cl λ x hx=>hsm x (SG.1 hx),hb⟩
      have:=ownsRow_sorted (n:=n) (os:=os) (ss:=xs.map (·.l)) (ts:=(lZ xs).map (·.l)) (by simp[Dv]) h2 h3 (by simpa using h4) h5 h6
      rw[Dv,hw,h1]
      rw[bU,vr] at this
      rw[vr]
      exact this
  .exact none_ A 0 hA hx
 .cases h
theorem Jb{xs r:List Str}(h:xO xs=some r):pL Tryz.prog 196 9 xs [] r:=λ M0 g w v vs hm hn hv hvs=>by
 cases hvs
 unfold xO at h
 split at h
 .rename_i hlen
  injection h with h
  subst h
  have hlt:∀ b,g=some b->b<w.heap.size:=λ b hb=>hm b (.inr hb)
  have none_:∀ A c,v=.slice A 0 c->xs=[]->Calls Tryz.prog 196 #[v] w (λ en w'=>∃ v' g',en=.returned v'/\w.grownBy w' g/\(g'=g\/∀ b,g'=some b->w.heap.size<=b)/\(∀ b,g'=some b->b<w'.heap.size)/\(eQ g' 9 (Xc xs)).rd (gp g' M0) w' v'):=λ A c hA hx=>by
   subst hx
   rw[hA] at hv ⊢
   exact(Tryz.slices_Compact_string_empty A c w).mono λ en w' ⟨he,hw⟩=>by
    subst hw
    exact⟨_,g,he,cR _ _,.inl Z,hlt,hv⟩
  rcases hv with⟨cells,hown,hrow,hb⟩ | ⟨hg,hx,A,hA⟩
  .obtain⟨hc,hsm⟩:=vZ hrow
   rcases hown.2 with⟨h1,h2⟩ | ⟨b,cap,cur,h1,h2,h3,h4,h5,h6,h7⟩
   .exact none_ _ _ h1 (au h2)
   .have hgb:g=some b:=by rw[<-hb,h1];rfl
    have hown':w.ownsRow 0 9 1 v xs.length ((xs.map (·.l)).map encStr):=by rw[<-hc];exact hown
    have hH:Sort.Holds encStr w b 0 (xs.map (·.l)).toArray:=by
     obtain⟨g',cap',e1,_,_,_,_,_,hH⟩:=Lib.holds_of_ownsRow hown' (by rw[h1];simp)
     rw[h1] at e1
     injection e1 with e1
     injection e1 with e1
     injection e1 with e1
     subst e1
     exact hH
    have hs:=Tryz.slices_Compact_string b 0 cap (xs.map (·.l)) w hH (by simpa using hlen) (by simpa using h4)
    rw[bU,<-h1] at hs
    have hle:=Lib.compact_length_le (xs.map (·.l))
    rw[bU] at hle
    refine hs.mono λ en w' ⟨he,q,hw⟩=>?_
    have hgr:w.grownBy w' g:=by
     rw[hw,hgb]
     have:=grownBy_sorted (w:=w) (g:=b) (n:=q) (os:=#[]) (Lib.compact (xs.map λ x:Str=>x.l)++List.replicate (xs.length - (Lib.compact (xs.map λ x:Str=>x.l)).length) []).toArray
     rwa[Sort.grow_empty] at this
    refine⟨_,g,he,hgr,.inl Z,λ c hc=>ay (hlt c hc) hgr.size,.inl ⟨((Xc xs).map (·.l)).map encStr,?_,Cl λ x hx=>hsm x (Nq hx),by rw[hgb];rfl⟩⟩
    have e1:(Xc xs).map (·.l)=Lib.compact (xs.map (·.l)):=map_mk _
    have e2:(Xc xs).length=(Lib.compact (xs.map (·.l))).length:=by simp[Xc]
    rw[e1,e2,hw]
    rw[h1] at hown'
    have:=Lib.ownsRow_putRow (q:=q) (ys:=Lib.compact (xs.map (·.l))++List.replicate (xs.length - (Lib.compact (xs.map (·.l))).length) []) hown' (by simp;omega) (k:=(Lib.compact (xs.map (·.l))).length) hle
    rwa[di] at this
    rfl
  .exact none_ A 0 hA hx
 .cases h
def ZV(xs:List Str)(p:Str):Option Str:=if xs.length<=140737488355328/\(Lib.join (xs.map (·.l)) p.l).length<=140737488355328 then some ⟨Lib.join (xs.map (·.l)) p.l⟩ else none
theorem HJ{xs}{p r:Str}(h:ZV xs p=some r):Fn Tryz.prog 220 [dt xs,dt p] (dt r):=λ M w vs hm hr=>by
 obtain⟨u,v,rfl,hu,hv⟩:=vn hr
 unfold ZV at h
 split at h
 .rename_i hc
  injection h with h
  subst h
  obtain⟨cs,⟨A,c,hcs,h1,h2,h3⟩,hu'⟩:=hu
  subst hcs
  have hu2:u=.slice A xs.length c:=hu'
  have hv2:=(xT.1 hv).1
  rw[hu2,hv2]
  have fin:∀ (e:Ending) (w':World),e=.returned (.string ⟨(Lib.join (xs.map (·.l)) p.l).toArray⟩)/\Below w.heap.size w w'->∃ v,e=.returned v/\fy w w'/\(dt (⟨Lib.join (xs.map (·.l)) p.l⟩:Str)).rd M w' v:=λ e w' ⟨he,hw⟩=>
   ⟨_,he,hw,xT.2 ⟨Z,by unfold maxLen;show(Lib.join (xs.map (·.l)) p.l).length<=_;omega⟩⟩
  rcases h3 with rfl | ⟨b,o,cells,rfl,hb,hcell,hrow⟩
  .exact(Tryz.strings_Join_none A c ⟨⟨p.l⟩⟩ w).mono λ e w' ⟨he,hw⟩=>fin e w' ⟨he,by rw[hw];exact fy.refl w⟩
  .by_cases hx:xs=[]
   .subst hx
    exact(Tryz.strings_Join_none (some ⟨b,o,none⟩) c ⟨⟨p.l⟩⟩ w).mono λ e w' ⟨he,hw⟩=>fin e w' ⟨he,by rw[hw];exact fy.refl w⟩
   .obtain⟨hcc,_⟩:=vZ hrow
    have hj:=Tryz.strings_Join b o c (xs.map λ x=>(⟨⟨x.l⟩⟩:ByteArray)) ⟨⟨p.l⟩⟩ w (λ j x hj=>by
     rw[be,dy] at hj
     obtain⟨y,hy,rfl⟩:=hj
     refine hcell j _ ?_
     rw[hcc,be,be,hy]
     rfl) (by
     obtain⟨x,xs',rfl⟩:=List.exists_cons_of_ne_nil hx
     exact tI (hcell 0 (ik x) (by rw[hcc];rfl))) (by simpa using hc.1) (by simpa using h1) (by simpa[Function.comp_def] using hc.2)
    rw[bU] at hj
    have e1:(xs.map λ x=>(⟨⟨x.l⟩⟩:ByteArray)).map (·.data.toList)=xs.map (·.l):=by rw[cJ];rfl
    rw[e1] at hj
    exact hj.mono fin
 .cases h
open Go.RowKit Tryz
instance:fY Tryz.prog 214 dt dt dt w6:=⟨λ h=>Vs h⟩
instance:fY Tryz.prog 213 dt dt dt Yz:=⟨λ h=>Vt h⟩
instance:fY Tryz.prog 212 dt dt dt Wz:=⟨λ h=>Uw h⟩
instance:fY Tryz.prog 220 dt dt dt ZV:=⟨λ h=>HJ h⟩
def yQ(s p:Str):Option Int:=w6 s p
theorem JV{s p r}(h:yQ s p=some r):Fn Tryz.prog 216 [dt s,dt p] (dt r):=λ M w vs _ hr=>by
 obtain⟨u,v,rfl,hu,hv⟩:=vn hr
 unfold yQ w6 at h
 split at h
 .rename_i c hc
  injection h with h
  rw[(xT.1 hu).1,(xT.1 hv).1]
  have:=Tryz.stringslite_Index_one ⟨⟨s.l⟩⟩ c w
  refine Bn (v:=.int .i64 r) ?_ (yq.2 Z)
  simp only[ik,hc]
  rw[<-h]
  exact this
 .cases h
