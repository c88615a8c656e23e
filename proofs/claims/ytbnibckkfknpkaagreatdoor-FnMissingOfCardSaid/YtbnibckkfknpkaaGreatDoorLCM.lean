/-
  DERIVED: THE SHELF's CONTRACTS AT THIS DUMP, IN PLAIN WORDS (tools/lay-plain.mjs out of 'TryzShelf.lean', which tools/lay-shelf.
-/
import Derived.Shelf.Strings.Builder1
import Derived.Shelf.Strings.Builder2
import Derived.Shelf.Strings.OnBuilder
import Derived.Shelf.Small.Bits
import Derived.Shelf.Strings.BuilderF
import Derived.Shelf.Strings.BuilderK
import Derived.Shelf.Strings.Builder2Cap
import Derived.Shelf.Strconv.Itoa0
import Derived.Shelf.Strings.Search1
import Derived.Shelf.Strings.Search2
import Derived.Shelf.Strings.Search3
import Derived.Shelf.Strings.Count
import Derived.Shelf.LaysM
import Derived.Shelf.Strings.Shaped
import Derived.Shelf.Sort.Plain
import Derived.Shelf.Strings.LastIndex
import Derived.Shelf.Strings.Prefix
import Derived.Shelf.Unicode.DecodeSlow
import Derived.Shelf.Strings.BuilderCap
import Derived.Shelf.Slices.Turned
import Derived.Shelf.Slices.CompactS
import Derived.Shelf.Slices.Cells
import Derived.Shelf.Slices.In.SortNone
import Derived.Ground.PaProg
import Derived.Shelf.Path.Small
import Derived.Test.YtbnibckkfknpkaaGreatDoorProg
import Derived.Test.YtbnibckkfknpkaaGreatDoorLBM
namespace Go.Proofs
open Go.Shelf
def Tryz.lays156_ren : Go.Shelf.Ren := ⟨fun | 156 => 80 | 165 => 121 | 166 => 122 | 169 => 123 | 240 => 152 | 241 => 153 | 276 => 180 | 277 => 181 | n => n, fun | 31 => 36 | 9 => 9 | 3 => 3 | 4 => 4 | 0 => 0 | 20 => 20 | 72 => 111 | 76 => 115 | 70 => 109 | 37 => 42 | 75 => 114 | 127 => 132 | 164 => 155 | 5 => 5 | 80 => 108 | n => n, fun | n => n⟩
theorem Tryz.lays156 : Go.Proofs.Lays.n156 Tryz.prog Tryz.lays156_ren := {
 mixed := by kernel_rfl
 f156 := Tryz.func80.trans (congrArg some (by kernel_rfl))
 f165 := Tryz.func121.trans (congrArg some (by kernel_rfl))
 f166 := Tryz.func122.trans (congrArg some (by kernel_rfl))
 f169 := Tryz.func123.trans (congrArg some (by kernel_rfl))
 f240 := Tryz.func152.trans (congrArg some (by kernel_rfl))
 f241 := Tryz.func153.trans (congrArg some (by kernel_rfl))
 f276 := Tryz.func180.trans (congrArg some (by kernel_rfl))
 f277 := Tryz.func181.trans (congrArg some (by kernel_rfl))
 t0 := Tryz.underlying0
 a0 := Tryz.isAgg0
 z0 := Tryz.sizeOf0
 v0 := Tryz.zeroValue0
 t3 := Tryz.underlying3
 a3 := Tryz.isAgg3
 z3 := Tryz.sizeOf3
 v3 := Tryz.zeroValue3
 t4 := Tryz.underlying4
 a4 := Tryz.isAgg4
 z4 := Tryz.sizeOf4
 v4 := Tryz.zeroValue4
 t9 := Tryz.underlying9
 a9 := Tryz.isAgg9
 z9 := Tryz.sizeOf9
 v9 := Tryz.zeroValue9
 t20 := Tryz.underlying20
 a20 := Tryz.isAgg20
 z20 := Tryz.sizeOf20
 v20 := Tryz.zeroValue20
 t31 := Tryz.underlying36
 a31 := Tryz.isAgg36
 z31 := Tryz.sizeOf36
 v31 := Tryz.zeroValue36
 t37 := Tryz.underlying42
 a37 := Tryz.isAgg42
 z37 := Tryz.sizeOf42
 v37 := Tryz.zeroValue42
 t70 := Tryz.underlying109
 a70 := Tryz.isAgg109
 z70 := Tryz.sizeOf109
 v70 := Tryz.zeroValue109
 t72 := Tryz.underlying111
 a72 := Tryz.isAgg111
 z72 := Tryz.sizeOf111
 v72 := Tryz.zeroValue111
 t75 := Tryz.underlying114
 a75 := Tryz.isAgg114
 z75 := Tryz.sizeOf114
 v75 := Tryz.zeroValue114
 t76 := Tryz.underlying115
 a76 := Tryz.isAgg115
 z76 := Tryz.sizeOf115
 v76 := Tryz.zeroValue115
 t127 := Tryz.underlying132
 a127 := Tryz.isAgg132
 z127 := Tryz.sizeOf132
 v127 := Tryz.zeroValue132
 t164 := Tryz.underlying155
 a164 := Tryz.isAgg155
 z164 := Tryz.sizeOf155
 v164 := Tryz.zeroValue155 }
theorem Tryz.Builder_Extra_156 : Builder.Extra Tryz.prog Tryz.lays156_ren := {
 sizeBuilder := by kernel_rfl
 liesBuilder := by kernel_rfl
 t5 := Tryz.underlying5
 a5 := Tryz.isAgg5
 z5 := Tryz.sizeOf5
 v5 := Tryz.zeroValue5
 infoByte := by kernel_rfl
 cellsByte := by kernel_rfl
 sizeByte := by kernel_rfl
 neB5 := by decide }
open Go.RowKit in
theorem Tryz.strings_Join_none (a : Option Addr) (c : Nat) (sep : ByteArray) (w : World) :
  Calls Tryz.prog 80 #[.slice a 0 c, .string sep] w fun e w' => e = .returned (.string ⟨#[]⟩) /\ w' = w := Any.strings_Join_none Tryz.lays156 Tryz.Builder_Extra_156 a c sep w
open Go.RowKit in
theorem Tryz.strings_Join (bk o c : Nat) (xs : List ByteArray) (sep : ByteArray) (w : World) (hcells : ∀ (j : Nat) x, xs[j]? = some x -> w.cell? ⟨bk, o + j, none⟩ = some (.string x)) (hbk : bk < w.heap.size) (hN : xs.length <= 140737488355328) (hcap : xs.length <= c) (hlen : (Lib.join (xs.map (·.data.toList)) sep.data.toList).length <= 140737488355328) :
  Calls Tryz.prog 80 #[.slice (some ⟨bk, o, none⟩) xs.length c, .string sep] w fun e w' => e = .returned (.string ⟨(Lib.join (xs.map (·.data.toList)) sep.data.toList).toArray⟩) /\ Below w.heap.size w w' := Any.strings_Join Tryz.lays156 Tryz.Builder_Extra_156 bk o c xs sep w hcells hbk hN hcap hlen
def Tryz.lays143_ren : Go.Shelf.Ren := ⟨fun | 143 => 157 | 219 => 185 | 217 => 196 | 225 => 197 | 224 => 198 | 267 => 199 | 266 => 204 | 314 => 205 | n => n, fun | 9 => 9 | 3 => 3 | 4 => 4 | 5 => 5 | 46 => 129 | 146 => 178 | 51 => 151 | n => n, fun | 1 => 0 | n => n⟩
theorem Tryz.lays143 : Go.Proofs.Lays.n143 Tryz.prog Tryz.lays143_ren := {
 mixed := by kernel_rfl
 f143 := Tryz.func157.trans (congrArg some (by kernel_rfl))
 f217 := Tryz.func196.trans (congrArg some (by kernel_rfl))
 f219 := Tryz.func185.trans (congrArg some (by kernel_rfl))
 f224 := Tryz.func198.trans (congrArg some (by kernel_rfl))
 f225 := Tryz.func197.trans (congrArg some (by kernel_rfl))
 f266 := Tryz.func204.trans (congrArg some (by kernel_rfl))
 f267 := Tryz.func199.trans (congrArg some (by kernel_rfl))
 f314 := Tryz.func205.trans (congrArg some (by kernel_rfl))
 t3 := Tryz.underlying3
 a3 := Tryz.isAgg3
 z3 := Tryz.sizeOf3
 v3 := Tryz.zeroValue3
 t4 := Tryz.underlying4
 a4 := Tryz.isAgg4
 z4 := Tryz.sizeOf4
 v4 := Tryz.zeroValue4
 t5 := Tryz.underlying5
 a5 := Tryz.isAgg5
 z5 := Tryz.sizeOf5
 v5 := Tryz.zeroValue5
 t9 := Tryz.underlying9
 a9 := Tryz.isAgg9
 z9 := Tryz.sizeOf9
 v9 := Tryz.zeroValue9
 t46 := Tryz.underlying129
 a46 := Tryz.isAgg129
 z46 := Tryz.sizeOf129
 v46 := Tryz.zeroValue129
 t51 := Tryz.underlying151
 a51 := Tryz.isAgg151
 z51 := Tryz.sizeOf151
 v51 := Tryz.zeroValue151
 t146 := Tryz.underlying178
 a146 := Tryz.isAgg178
 z146 := Tryz.sizeOf178
 v146 := Tryz.zeroValue178
 g1 := by kernel_rfl }
open Go.RowKit Go.Lib in
theorem Tryz.strings_Index_one (s : ByteArray) (c : UInt8) (w : World) :
  Calls Tryz.prog 157 #[.string s, .string ⟨#[c]⟩] w fun e w' => e = .returned (.int .i64 (Lib.indexByte s.data.toList c)) /\ w' = w := Any.strings_Index_one Tryz.lays143 s c w
def Tryz.lays138_ren : Go.Shelf.Ren := ⟨fun | 138 => 156 | 195 => 182 | 218 => 184 | 143 => 157 | 219 => 185 | 217 => 196 | 225 => 197 | 224 => 198 | 267 => 199 | 266 => 204 | 314 => 205 | n => n, fun | 9 => 9 | 3 => 3 | 4 => 4 | 5 => 5 | 0 => 0 | 46 => 129 | 146 => 178 | 51 => 151 | n => n, fun | 1 => 0 | n => n⟩
theorem Tryz.lays138 : Go.Proofs.Lays.n138 Tryz.prog Tryz.lays138_ren := {
 mixed := by kernel_rfl
 f138 := Tryz.func156.trans (congrArg some (by kernel_rfl))
 f143 := Tryz.func157.trans (congrArg some (by kernel_rfl))
 f195 := Tryz.func182.trans (congrArg some (by kernel_rfl))
 f217 := Tryz.func196.trans (congrArg some (by kernel_rfl))
 f218 := Tryz.func184.trans (congrArg some (by kernel_rfl))
 f219 := Tryz.func185.trans (congrArg some (by kernel_rfl))
 f224 := Tryz.func198.trans (congrArg some (by kernel_rfl))
 f225 := Tryz.func197.trans (congrArg some (by kernel_rfl))
 f266 := Tryz.func204.trans (congrArg some (by kernel_rfl))
 f267 := Tryz.func199.trans (congrArg some (by kernel_rfl))
 f314 := Tryz.func205.trans (congrArg some (by kernel_rfl))
 t0 := Tryz.underlying0
 a0 := Tryz.isAgg0
 z0 := Tryz.sizeOf0
 v0 := Tryz.zeroValue0
 t3 := Tryz.underlying3
 a3 := Tryz.isAgg3
 z3 := Tryz.sizeOf3
 v3 := Tryz.zeroValue3
 t4 := Tryz.underlying4
 a4 := Tryz.isAgg4
 z4 := Tryz.sizeOf4
 v4 := Tryz.zeroValue4
 t5 := Tryz.underlying5
 a5 := Tryz.isAgg5
 z5 := Tryz.sizeOf5
 v5 := Tryz.zeroValue5
 t9 := Tryz.underlying9
 a9 := Tryz.isAgg9
 z9 := Tryz.sizeOf9
 v9 := Tryz.zeroValue9
 t46 := Tryz.underlying129
 a46 := Tryz.isAgg129
 z46 := Tryz.sizeOf129
 v46 := Tryz.zeroValue129
 t51 := Tryz.underlying151
 a51 := Tryz.isAgg151
 z51 := Tryz.sizeOf151
 v51 := Tryz.zeroValue151
 t146 := Tryz.underlying178
 a146 := Tryz.isAgg178
 z146 := Tryz.sizeOf178
 v146 := Tryz.zeroValue178
 g1 := by kernel_rfl }
open Go.RowKit Go.Lib in
theorem Tryz.strings_Count_one (s : ByteArray) (c : UInt8) (w : World) :
  Calls Tryz.prog 156 #[.string s, .string ⟨#[c]⟩] w fun e w' => e = .returned (.int .i64 (Lib.countByte s.data.toList c)) /\ w' = w := Any.strings_Count_one Tryz.lays138 s c w
def Tryz.lays190_ren : Go.Shelf.Ren := ⟨fun | 190 => 112 | 125 => 147 | 258 => 146 | 128 => 176 | 129 => 177 | 302 => 167 | 303 => 168 | 304 => 169 | 305 => 170 | 306 => 171 | 307 => 172 | 308 => 173 | 309 => 174 | 310 => 175 | 333 => 188 | 329 => 189 | 330 => 190 | 334 => 191 | 335 => 192 | 336 => 193 | 344 => 202 | n => n, fun | 31 => 36 | 9 => 9 | 3 => 3 | 46 => 129 | 0 => 0 | 51 => 151 | 53 => 153 | 4 => 4 | 183 => 144 | 182 => 143 | 131 => 148 | 5 => 5 | 218 => 161 | 222 => 165 | 228 => 170 | 229 => 171 | n => n, fun | n => n⟩
theorem Tryz.lays190 : Go.Proofs.Lays.n190 Tryz.prog Tryz.lays190_ren := {
 mixed := by kernel_rfl
 f125 := Tryz.func147.trans (congrArg some (by kernel_rfl))
 f128 := Tryz.func176.trans (congrArg some (by kernel_rfl))
 f129 := Tryz.func177.trans (congrArg some (by kernel_rfl))
 f190 := Tryz.func112.trans (congrArg some (by kernel_rfl))
 f258 := Tryz.func146.trans (congrArg some (by kernel_rfl))
 f302 := Tryz.func167.trans (congrArg some (by kernel_rfl))
 f303 := Tryz.func168.trans (congrArg some (by kernel_rfl))
 f304 := Tryz.func169.trans (congrArg some (by kernel_rfl))
 f305 := Tryz.func170.trans (congrArg some (by kernel_rfl))
 f306 := Tryz.func171.trans (congrArg some (by kernel_rfl))
 f307 := Tryz.func172.trans (congrArg some (by kernel_rfl))
 f308 := Tryz.func173.trans (congrArg some (by kernel_rfl))
 f309 := Tryz.func174.trans (congrArg some (by kernel_rfl))
 f310 := Tryz.func175.trans (congrArg some (by kernel_rfl))
 f329 := Tryz.func189.trans (congrArg some (by kernel_rfl))
 f330 := Tryz.func190.trans (congrArg some (by kernel_rfl))
 f333 := Tryz.func188.trans (congrArg some (by kernel_rfl))
 f334 := Tryz.func191.trans (congrArg some (by kernel_rfl))
 f335 := Tryz.func192.trans (congrArg some (by kernel_rfl))
 f336 := Tryz.func193.trans (congrArg some (by kernel_rfl))
 f344 := Tryz.func202.trans (congrArg some (by kernel_rfl))
 t0 := Tryz.underlying0
 a0 := Tryz.isAgg0
 z0 := Tryz.sizeOf0
 v0 := Tryz.zeroValue0
 t3 := Tryz.underlying3
 a3 := Tryz.isAgg3
 z3 := Tryz.sizeOf3
 v3 := Tryz.zeroValue3
 t4 := Tryz.underlying4
 a4 := Tryz.isAgg4
 z4 := Tryz.sizeOf4
 v4 := Tryz.zeroValue4
 t5 := Tryz.underlying5
 a5 := Tryz.isAgg5
 z5 := Tryz.sizeOf5
 v5 := Tryz.zeroValue5
 t9 := Tryz.underlying9
 a9 := Tryz.isAgg9
 z9 := Tryz.sizeOf9
 v9 := Tryz.zeroValue9
 t31 := Tryz.underlying36
 a31 := Tryz.isAgg36
 z31 := Tryz.sizeOf36
 v31 := Tryz.zeroValue36
 t46 := Tryz.underlying129
 a46 := Tryz.isAgg129
 z46 := Tryz.sizeOf129
 v46 := Tryz.zeroValue129
 t51 := Tryz.underlying151
 a51 := Tryz.isAgg151
 z51 := Tryz.sizeOf151
 v51 := Tryz.zeroValue151
 t53 := Tryz.underlying153
 a53 := Tryz.isAgg153
 z53 := Tryz.sizeOf153
 v53 := Tryz.zeroValue153
 t131 := Tryz.underlying148
 a131 := Tryz.isAgg148
 z131 := Tryz.sizeOf148
 v131 := Tryz.zeroValue148
 t182 := Tryz.underlying143
 a182 := Tryz.isAgg143
 z182 := Tryz.sizeOf143
 v182 := Tryz.zeroValue143
 t183 := Tryz.underlying144
 a183 := Tryz.isAgg144
 z183 := Tryz.sizeOf144
 v183 := Tryz.zeroValue144
 t218 := Tryz.underlying161
 a218 := Tryz.isAgg161
 z218 := Tryz.sizeOf161
 v218 := Tryz.zeroValue161
 t222 := Tryz.underlying165
 a222 := Tryz.isAgg165
 z222 := Tryz.sizeOf165
 v222 := Tryz.zeroValue165
 t228 := Tryz.underlying170
 a228 := Tryz.isAgg170
 z228 := Tryz.sizeOf170
 v228 := Tryz.zeroValue170
 t229 := Tryz.underlying171
 a229 := Tryz.isAgg171
 z229 := Tryz.sizeOf171
 v229 := Tryz.zeroValue171 }
open Go.Sort Go.RowKit in
theorem Tryz.slices_Sort_string (blk off cap : Nat) (ss : List (List UInt8)) (w : World) (hH : Holds encStr w blk off ss.toArray) (hblk : blk < w.heap.size) (hsz : ss.length < 4611686018427387904) :
  Calls Tryz.prog 112 #[.slice (some ⟨blk, off, none⟩) ss.length cap] w fun e w' =>
   e = .returned (.tuple #[]) /\ ∃ n os, w' = grow (putRow encStr (Sort.ahead w n) blk off (ss.mergeSort fun x y => decide (x <= y)).toArray) os := Any.slices_Sort_string Tryz.lays190 blk off cap ss w hH hblk hsz
def Tryz.lays194_ren : Go.Shelf.Ren := ⟨fun | 194 => 113 | n => n, fun | 31 => 36 | 9 => 9 | 3 => 3 | 4 => 4 | 0 => 0 | n => n, fun | n => n⟩
theorem Tryz.lays194 : Go.Proofs.Lays.n194 Tryz.prog Tryz.lays194_ren := {
 mixed := by kernel_rfl
 f194 := Tryz.func113.trans (congrArg some (by kernel_rfl))
 t0 := Tryz.underlying0
 a0 := Tryz.isAgg0
 z0 := Tryz.sizeOf0
 v0 := Tryz.zeroValue0
 t3 := Tryz.underlying3
 a3 := Tryz.isAgg3
 z3 := Tryz.sizeOf3
 v3 := Tryz.zeroValue3
 t4 := Tryz.underlying4
 a4 := Tryz.isAgg4
 z4 := Tryz.sizeOf4
 v4 := Tryz.zeroValue4
 t9 := Tryz.underlying9
 a9 := Tryz.isAgg9
 z9 := Tryz.sizeOf9
 v9 := Tryz.zeroValue9
 t31 := Tryz.underlying36
 a31 := Tryz.isAgg36
 z31 := Tryz.sizeOf36
 v31 := Tryz.zeroValue36 }
open Go.RowKit Go.Lib Go.Sort in
theorem Tryz.slices_Compact_string (blk off cap : Nat) (zs : List (List UInt8)) (w : World) (hH : Holds encStr w blk off zs.toArray) (hsz : zs.length <= 9223372036854775807) (hcap : zs.length <= cap) :
  Calls Tryz.prog 113 #[.slice (some ⟨blk, off, none⟩) zs.length cap] w fun e w' => e = .returned (.slice (some ⟨blk, off, none⟩) (Lib.compact zs).length cap) /\ ∃ q, w' = putRow encStr (Sort.ahead w q) blk off (Lib.compact zs ++ List.replicate (zs.length - (Lib.compact zs).length) []).toArray := Any.slices_Compact_string Tryz.lays194 blk off cap zs w hH hsz hcap
open Go.RowKit Go.Lib Go.Sort in
theorem Tryz.slices_Compact_string_empty (a : Option Addr) (cap : Nat) (w : World) :
  Calls Tryz.prog 113 #[.slice a 0 cap] w fun e w' => e = .returned (.slice a 0 cap) /\ w' = w := Any.slices_Compact_string_empty Tryz.lays194 a cap w
open Go.RowKit Go.Sort in
theorem Tryz.slices_Sort_string_none (p : Option Addr) (cap : Nat) (w : World) :
  Calls Tryz.prog 112 #[.slice p 0 cap] w fun e w' => e = .returned (.tuple #[]) /\ w' = w := Any.slices_Sort_string_none Tryz.lays190 p cap w
end Go.Proofs
namespace Go.Proofs.YtbnibckkfknpkaaGreatDoor
open Go.RowKit
theorem fn_none {P : Program} {f : FuncId} {xs : List Dt} {y : Dt} {α : Type} {r : α} (h : (none : Option α) = some r) : Fn P f xs y := by cases h
theorem rd1 {M : Nat -> Prop} {w : World} {vs : List Value} {x : Dt} (h : RdAll M w vs [x]) : ∃ v, vs = [v] /\ x.rd M w v := by
 cases h with
 | cons h r => cases r; exact ⟨_, rfl, h⟩
theorem rd2 {M : Nat -> Prop} {w : World} {vs : List Value} {x y : Dt} (h : RdAll M w vs [x, y]) : ∃ u v, vs = [u, v] /\ x.rd M w u /\ y.rd M w v := by
 cases h with
 | cons h r => obtain ⟨v, rfl, hv⟩ := rd1 r; exact ⟨_, _, rfl, h, hv⟩
theorem fn_same {P : Program} {f : FuncId} {vs : Array Value} {M : Nat -> Prop} {w : World} {v : Value} {y : Dt} (h : Calls P f vs w fun e w' => e = .returned v /\ w' = w) (hy : y.rd M w v) : Calls P f vs w (fun e w' => ∃ v, e = .returned v /\ Ext0 w w' /\ y.rd M w' v) :=
 h.mono fun e w' ⟨he, hw⟩ => ⟨v, he, by rw [hw]; exact Ext0.refl w, by rw [hw]; exact hy⟩
def m_strings_Index (s p : Str) : Option Int := match p.l with
 | [c] => some (Lib.indexByte s.l c)
 | _ => none
def m_strings_Count (s p : Str) : Option Int := match p.l with
 | [c] => some (Lib.countByte s.l c : Int)
 | _ => none
def m_strings_explode (_ : Str) (_ : Int) : Option (List Str) := none
theorem strings_Index_w {s p : Str} {r : Int} (h : m_strings_Index s p = some r) : Fn Tryz.prog 157 [dt s, dt p] (dt r) := fun M w vs _ hr => by
 obtain ⟨u, v, rfl, hu, hv⟩ := rd2 hr
 unfold m_strings_Index at h
 split at h
 ·
  rename_i c hc
  injection h with h
  rw [(dt_str.1 hu).1, (dt_str.1 hv).1]
  have := Tryz.strings_Index_one ⟨⟨s.l⟩⟩ c w
  refine fn_same (v := .int .i64 r) ?_ (dt_int.2 rfl)
  simp only [strv, hc]
  rw [← h]
  exact this
 ·
  cases h
theorem strings_Count_w {s p : Str} {r : Int} (h : m_strings_Count s p = some r) : Fn Tryz.prog 156 [dt s, dt p] (dt r) := fun M w vs _ hr => by
 obtain ⟨u, v, rfl, hu, hv⟩ := rd2 hr
 unfold m_strings_Count at h
 split at h
 ·
  rename_i c hc
  injection h with h
  rw [(dt_str.1 hu).1, (dt_str.1 hv).1]
  have := Tryz.strings_Count_one ⟨⟨s.l⟩⟩ c w
  refine fn_same (v := .int .i64 r) ?_ (dt_int.2 rfl)
  simp only [strv, hc]
  rw [← h]
  exact this
 ·
  cases h
theorem strings_explode_w {s : Str} {n : Int} {r : List Str} (h : m_strings_explode s n = some r) : Fn Tryz.prog 155 [dt s, dt n] (dt r) := fn_none h
def m_slices_Sort_string_string (xs : List Str) : Option (List Str) := if xs.length < 4611686018427387904 then some (sortS xs) else none
def m_slices_Compact_string_string (xs : List Str) : Option (List Str) := if xs.length <= 9223372036854775807 then some (compactS xs) else none
def m_strings_Join (xs : List Str) (p : Str) : Option Str := if xs.length <= 140737488355328 /\ (Lib.join (xs.map (·.l)) p.l).length <= 140737488355328 then some ⟨Lib.join (xs.map (·.l)) p.l⟩ else none
theorem slices_Sort_string_string_w {xs r : List Str} (h : m_slices_Sort_string_string xs = some r) : FnIn Tryz.prog 112 9 xs r := fun M0 g w v hm hn hv => by
 unfold m_slices_Sort_string_string at h
 split at h
 ·
  rename_i hlen
  injection h with h
  subst h
  have none_ : ∀ A c, v = .slice A 0 c -> xs = [] -> Calls Tryz.prog 112 #[v] w (fun en w' => ∃ u, en = .returned u /\ w.grownBy w' g /\ (xs = [] -> w' = w /\ sortS xs = []) /\ (dtip g 9 (sortS xs)).rd (insO g M0) w' v) := fun A c hA hx => by
   subst hx
   rw [hA] at hv ⊢
   exact (Tryz.slices_Sort_string_none A c w).mono fun en w' ⟨he, hw⟩ => by
    subst hw
    exact ⟨_, he, World.grownBy.refl _ _, fun _ => ⟨rfl, sortS_nil⟩, by rw [sortS_nil]; exact hv⟩
  rcases hv with ⟨cells, hown, hrow, hb⟩ | ⟨hg, hx, A, hA⟩
  ·
   obtain ⟨hc, hsm⟩ := rowR_str hrow
   rcases hown.2 with ⟨h1, h2⟩ | ⟨b, cap, cur, h1, h2, h3, h4, h5, h6, h7⟩
   ·
    exact none_ _ _ h1 (List.eq_nil_of_length_eq_zero h2)
   ·
    by_cases hx : xs = []
    ·
     subst hx; exact none_ _ _ h1 rfl
    ·
     have hgb : g = some b := by rw [← hb, h1]; rfl
     have hown' : w.ownsRow 0 9 1 v xs.length ((xs.map (·.l)).map encStr) := by rw [← hc]; exact hown
     have hH : Sort.Holds encStr w b 0 (xs.map (·.l)).toArray := by
      obtain ⟨g', cap', e1, _, _, _, _, _, hH⟩ := Lib.holds_of_ownsRow hown' (by rw [h1]; simp)
      rw [h1] at e1
      injection e1 with e1
      injection e1 with e1
      injection e1 with e1
      subst e1
      exact hH
     have hs := Tryz.slices_Sort_string b 0 cap (xs.map (·.l)) w hH (heap_lt h3) (by simpa using hlen)
     rw [List.length_map, ← h1] at hs
     refine hs.mono fun en w' ⟨he, n, os, hw⟩ => ⟨_, he, ?_, fun e => absurd e hx, ?_⟩
     ·
      rw [hw, hgb]; exact grownBy_sorted _
     ·
      refine .inl ⟨((sortS xs).map (·.l)).map encStr, ?_, str_rowR fun x hx => hsm x (sortS_mem.1 hx), hb⟩
      have := ownsRow_sorted (n := n) (os := os) (ss := xs.map (·.l)) (ts := (sortS xs).map (·.l)) (by simp [sortS_len]) h2 h3 (by simpa using h4) h5 h6
      rw [sortS_len, hw, h1]
      rw [List.length_map, sortS_l] at this
      rw [sortS_l]
      exact this
  ·
   exact none_ A 0 hA hx
 ·
  cases h
theorem slices_Compact_string_string_w {xs r : List Str} (h : m_slices_Compact_string_string xs = some r) : FnTake Tryz.prog 113 9 xs [] r := fun M0 g w v vs hm hn hv hvs => by
 cases hvs
 unfold m_slices_Compact_string_string at h
 split at h
 ·
  rename_i hlen
  injection h with h
  subst h
  have hlt : ∀ b, g = some b -> b < w.heap.size := fun b hb => hm b (.inr hb)
  have none_ : ∀ A c, v = .slice A 0 c -> xs = [] -> Calls Tryz.prog 113 #[v] w (fun en w' => ∃ v' g', en = .returned v' /\ w.grownBy w' g /\ (g' = g \/ ∀ b, g' = some b -> w.heap.size <= b) /\ (∀ b, g' = some b -> b < w'.heap.size) /\ (dtip g' 9 (compactS xs)).rd (insO g' M0) w' v') := fun A c hA hx => by
   subst hx
   rw [hA] at hv ⊢
   exact (Tryz.slices_Compact_string_empty A c w).mono fun en w' ⟨he, hw⟩ => by
    subst hw
    exact ⟨_, g, he, World.grownBy.refl _ _, .inl rfl, hlt, hv⟩
  rcases hv with ⟨cells, hown, hrow, hb⟩ | ⟨hg, hx, A, hA⟩
  ·
   obtain ⟨hc, hsm⟩ := rowR_str hrow
   rcases hown.2 with ⟨h1, h2⟩ | ⟨b, cap, cur, h1, h2, h3, h4, h5, h6, h7⟩
   ·
    exact none_ _ _ h1 (List.eq_nil_of_length_eq_zero h2)
   ·
    have hgb : g = some b := by rw [← hb, h1]; rfl
    have hown' : w.ownsRow 0 9 1 v xs.length ((xs.map (·.l)).map encStr) := by rw [← hc]; exact hown
    have hH : Sort.Holds encStr w b 0 (xs.map (·.l)).toArray := by
     obtain ⟨g', cap', e1, _, _, _, _, _, hH⟩ := Lib.holds_of_ownsRow hown' (by rw [h1]; simp)
     rw [h1] at e1
     injection e1 with e1
     injection e1 with e1
     injection e1 with e1
     subst e1
     exact hH
    have hs := Tryz.slices_Compact_string b 0 cap (xs.map (·.l)) w hH (by simpa using hlen) (by simpa using h4)
    rw [List.length_map, ← h1] at hs
    have hle := Lib.compact_length_le (xs.map (·.l))
    rw [List.length_map] at hle
    refine hs.mono fun en w' ⟨he, q, hw⟩ => ?_
    have hgr : w.grownBy w' g := by
     rw [hw, hgb]
     have := grownBy_sorted (w := w) (g := b) (n := q) (os := #[]) (Lib.compact (xs.map fun x : Str => x.l) ++ List.replicate (xs.length - (Lib.compact (xs.map fun x : Str => x.l)).length) []).toArray
     rwa [Sort.grow_empty] at this
    refine ⟨_, g, he, hgr, .inl rfl, fun c hc => Nat.lt_of_lt_of_le (hlt c hc) hgr.size, .inl ⟨((compactS xs).map (·.l)).map encStr, ?_, str_rowR fun x hx => hsm x (compactS_mem hx), by rw [hgb]; rfl⟩⟩
    have e1 : (compactS xs).map (·.l) = Lib.compact (xs.map (·.l)) := map_mk _
    have e2 : (compactS xs).length = (Lib.compact (xs.map (·.l))).length := by simp [compactS]
    rw [e1, e2, hw]
    rw [h1] at hown'
    have := Lib.ownsRow_putRow (q := q) (ys := Lib.compact (xs.map (·.l)) ++ List.replicate (xs.length - (Lib.compact (xs.map (·.l))).length) []) hown' (by simp; omega) (k := (Lib.compact (xs.map (·.l))).length) hle
    rwa [List.take_left'] at this
    rfl
  ·
   exact none_ A 0 hA hx
 ·
  cases h
theorem strings_Join_w {xs : List Str} {p r : Str} (h : m_strings_Join xs p = some r) : Fn Tryz.prog 80 [dt xs, dt p] (dt r) := fun M w vs hm hr => by
 obtain ⟨u, v, rfl, hu, hv⟩ := rd2 hr
 unfold m_strings_Join at h
 split at h
 ·
  rename_i hc
  injection h with h
  subst h
  obtain ⟨cs, ⟨A, c, hcs, h1, h2, h3⟩, hu'⟩ := hu
  subst hcs
  have hu2 : u = .slice A xs.length c := hu'
  have hv2 := (dt_str.1 hv).1
  rw [hu2, hv2]
  have fin : ∀ (e : Ending) (w' : World), e = .returned (.string ⟨(Lib.join (xs.map (·.l)) p.l).toArray⟩) /\ Below w.heap.size w w' -> ∃ v, e = .returned v /\ Ext0 w w' /\ (dt (⟨Lib.join (xs.map (·.l)) p.l⟩ : Str)).rd M w' v := fun e w' ⟨he, hw⟩ =>
   ⟨_, he, hw, dt_str.2 ⟨rfl, by unfold maxLen; show (Lib.join (xs.map (·.l)) p.l).length <= _; omega⟩⟩
  rcases h3 with rfl | ⟨b, o, cells, rfl, hb, hcell, hrow⟩
  ·
   exact (Tryz.strings_Join_none A c ⟨⟨p.l⟩⟩ w).mono fun e w' ⟨he, hw⟩ => fin e w' ⟨he, by rw [hw]; exact Ext0.refl w⟩
  ·
   by_cases hx : xs = []
   ·
    subst hx
    exact (Tryz.strings_Join_none (some ⟨b, o, none⟩) c ⟨⟨p.l⟩⟩ w).mono fun e w' ⟨he, hw⟩ => fin e w' ⟨he, by rw [hw]; exact Ext0.refl w⟩
   ·
    obtain ⟨hcc, _⟩ := rowR_str hrow
    have hj := Tryz.strings_Join b o c (xs.map fun x => (⟨⟨x.l⟩⟩ : ByteArray)) ⟨⟨p.l⟩⟩ w (fun j x hj => by
     rw [List.getElem?_map, Option.map_eq_some_iff] at hj
     obtain ⟨y, hy, rfl⟩ := hj
     refine hcell j _ ?_
     rw [hcc, List.getElem?_map, List.getElem?_map, hy]
     rfl) (by
     obtain ⟨x, xs', rfl⟩ := List.exists_cons_of_ne_nil hx
     exact cell_lt (hcell 0 (strv x) (by rw [hcc]; rfl))) (by simpa using hc.1) (by simpa using h1) (by simpa [Function.comp_def] using hc.2)
    rw [List.length_map] at hj
    have e1 : (xs.map fun x => (⟨⟨x.l⟩⟩ : ByteArray)).map (·.data.toList) = xs.map (·.l) := by rw [List.map_map]; rfl
    rw [e1] at hj
    exact hj.mono fin
 ·
  cases h
end Go.Proofs.YtbnibckkfknpkaaGreatDoor
namespace Go.Proofs.YtbnibckkfknpkaaGreatDoor
open Go.RowKit
end Go.Proofs.YtbnibckkfknpkaaGreatDoor
