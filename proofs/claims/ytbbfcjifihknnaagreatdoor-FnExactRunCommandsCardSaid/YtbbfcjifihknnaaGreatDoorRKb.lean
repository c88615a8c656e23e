import Derived.Test.YtbbfcjifihknnaaGreatDoorRO
import Derived.Test.YtbbfcjifihknnaaGreatDoorRH
import Derived.Test.YtbbfcjifihknnaaGreatDoorRB
import Derived.Test.YtbbfcjifihknnaaGreatDoorRK
import Derived.Test.YtbbfcjifihknnaaGreatDoorRG
namespace Go.Proofs.YtbbfcjifihknnaaGreatDoor
open Go.RowKit Tryz
attribute [local irreducible] OpRel OpdR
set_option maxRecDepth 10000
set_option maxHeartbeats 1600000
variable{r:Bool}{x1:Int}{x0:List Stmt}
theorem kE119:elB prog 119 175 5 56=true:=by kernel_rfl
theorem kZ3:yS prog 3=some jf:=by kernel_rfl
theorem kE34:elB prog 34 121 6 80=true:=by kernel_rfl
theorem kE39:elB prog 39 78 2 24=true:=by kernel_rfl
theorem kCv3_5:cvB prog 3 5=true:=by kernel_rfl
theorem kCv162_9:cvS prog 162 9=true:=by kernel_rfl
theorem kN76:fnB prog 76=true:=by kernel_rfl
theorem kN58:fnB prog 58=true:=by kernel_rfl
theorem kN19:fnB prog 19=true:=by kernel_rfl
theorem kN101:fnB prog 101=true:=by kernel_rfl
theorem kN60:fnB prog 60=true:=by kernel_rfl
theorem kN61:fnB prog 61=true:=by kernel_rfl
instance iF121_0MlA:FldO prog 121 0 0:=⟨kF121_0⟩
instance iF121_1MlA:FldO prog 121 1 1:=⟨kF121_1⟩
instance iF121_2MlA:FldO prog 121 2 2:=⟨kF121_2⟩
instance iF121_3MlA:FldO prog 121 3 3:=⟨kF121_3⟩
instance iF121_4MlA:FldO prog 121 4 4:=⟨kF121_4⟩
def Yo(x0:Stmt)(x1:Int):Option Int:=
(i64 (x1 - (x0.module.l.length:Int))).bind λ v2=>
if cmpI .lss v2 0 then(some (-1:Int))
else((i64 (v2 - (x0.name.l.length:Int))).bind λ v9=>
if cmpI .lss v9 0 then(some (-1:Int))
else(some v9))
theorem laws_szStmt_w{x0:Stmt}{r:Int}(h:Yo x0 x1=some r):Fn prog 209 [dt x0,dt x1] (dt r):=by
 refine fq1 0 func209 λ M _ _ j=>?_
 refine j.z1 λ _ _ j=>?_
 have⟨v2,p2,h⟩:=bs h
 refine j.z1 λ _ _ j=>?_
 refine j.zc h (λ _ _ j h=>?_) λ _ _ j h=>?_
 ·exact j.ze h
 have⟨v9,p9,h⟩:=bs h
 refine j.z1 λ _ _ j=>?_
 refine j.zc h (λ _ _ j h=>?_) λ _ _ j h=>?_
 ·exact j.ze h
 exact j.ze h
instance:Ct2 prog 209 dt dt dt Yo:=⟨λ h=>laws_szStmt_w h⟩
def j2(x0:List Stmt)(s11:Int×Int):Option ((Int×Int)⊕(Int⊕Int)):=
if(cmpI .lss s11.2 (x0.length:Int))=true then((atI x0 s11.2).bind λ v16=>
(Yo v16 s11.1).bind λ v17=>
if cmpI .lss v17 0 then(some (.inr (.inr (-1:Int))))
else((i64 (s11.2+(1:Int))).bind λ v27=>
some (.inl (v17,v27))))
else(some (.inr (.inl s11.1)))
def ZS(x0:List Stmt)(x1:Int):Option Int:=
(i64 (x1 - (x0.length:Int))).bind λ v2=>
if cmpI .lss v2 0 then(some (-1:Int))
else(Option.bind (α:=Int⊕Int) (zH (λ s11=>j2 x0 s11) (v2,(0:Int))) (Sum.elim (λ b9=>
some b9) some))
theorem zdb{r:Int}(h:ZS x0 x1=some r):Fn prog 137 [dt x0,dt x1] (dt r):=by
 refine fq1 0 func137 λ M w0 _ j=>?_
 refine j.z1 λ _ _ j=>?_
 have⟨v2,p2,h⟩:=bs h
 refine j.z1 λ _ _ j=>?_
 refine j.zc h (λ _ _ j h=>?_) λ _ _ j h=>?_
 ·exact j.ze h
 refine wqk (za ?_)
 refine j.jb [] (λ b9=>[(1,dt b9)]) h (λ o9 p9 k9=>?_) λ b9 _ _ j h=>?_
 ·refine j.z1 λ _ _ j=>?_
  refine wql p9 (λ s11 a w=>Sx (Frm.of w0) 27 M M [] [(0,dt x0),(1,dt s11.1),(5,dt s11.2)] [] a w) (j.sel0 [0,1,5]) ?_
  rintro s11 z11 _ _ j hs11 hx11
  have h:j2 x0 s11=some z11:=hs11
  unfold j2 at h
  refine j.zc h (λ _ _ j h=>?_) λ _ _ j h=>?_
  ·have⟨v16,p16,h⟩:=bs h
   have⟨v17,p17,h⟩:=bs h
   refine j.z1 λ _ _ j=>?_
   refine j.zc h (λ _ _ j h=>?_) λ _ _ j h=>?_
   ·exact j.ze (jo (lo h hx11) k9)
   have⟨v27,p27,h⟩:=bs h
   exact j.zn [] h
  have h:=lo h hx11
  exact flz h
 exact j.ze h
instance:Ct2 prog 137 dt dt dt ZS:=⟨λ h=>zdb h⟩
def Yp(x0:File)(x1:Int):Option Int:=
(i64 (x1 - (x0.pkg.l.length:Int))).bind λ v2=>
if cmpI .lss v2 0 then(some (-1:Int))
else((i64 (v2 - (x0.name.l.length:Int))).bind λ v9=>
if cmpI .lss v9 0 then(some (-1:Int))
else((ZS x0.body v9).bind λ v16=>
if cmpI .lss v16 0 then(some (-1:Int))
else(some v16)))
theorem laws_szFile_w{x0:File}{r:Int}(h:Yp x0 x1=some r):Fn prog 81 [dt x0,dt x1] (dt r):=by
 refine fq1 0 func81 λ M _ _ j=>?_
 refine j.z1 λ _ _ j=>?_
 have⟨v2,p2,h⟩:=bs h
 refine j.z1 λ _ _ j=>?_
 refine j.zc h (λ _ _ j h=>?_) λ _ _ j h=>?_
 ·exact j.ze h
 have⟨v9,p9,h⟩:=bs h
 refine j.z1 λ _ _ j=>?_
 refine j.zc h (λ _ _ j h=>?_) λ _ _ j h=>?_
 ·exact j.ze h
 have⟨v16,p16,h⟩:=bs h
 refine j.z1 λ _ _ j=>?_
 refine j.zc h (λ _ _ j h=>?_) λ _ _ j h=>?_
 ·exact j.ze h
 exact j.ze h
instance:Ct2 prog 81 dt dt dt Yp:=⟨λ h=>laws_szFile_w h⟩
def j3(x0:List File)(s11:Int×Int):Option ((Int×Int)⊕(Int⊕Int)):=
if(cmpI .lss s11.2 (x0.length:Int))=true then((atI x0 s11.2).bind λ v16=>
(Yp v16 s11.1).bind λ v17=>
if cmpI .lss v17 0 then(some (.inr (.inr (-1:Int))))
else((i64 (s11.2+(1:Int))).bind λ v27=>
some (.inl (v17,v27))))
else(some (.inr (.inl s11.1)))
def ZT(x0:List File)(x1:Int):Option Int:=
(i64 (x1 - (x0.length:Int))).bind λ v2=>
if cmpI .lss v2 0 then(some (-1:Int))
else(Option.bind (α:=Int⊕Int) (zH (λ s11=>j3 x0 s11) (v2,(0:Int))) (Sum.elim (λ b9=>
some b9) some))
theorem zdc{x0:List File}{r:Int}(h:ZT x0 x1=some r):Fn prog 39 [dt x0,dt x1] (dt r):=by
 refine fq1 0 func39 λ M w0 _ j=>?_
 refine j.z1 λ _ _ j=>?_
 have⟨v2,p2,h⟩:=bs h
 refine j.z1 λ _ _ j=>?_
 refine j.zc h (λ _ _ j h=>?_) λ _ _ j h=>?_
 ·exact j.ze h
 refine wqk (za ?_)
 refine j.jb [] (λ b9=>[(1,dt b9)]) h (λ o9 p9 k9=>?_) λ b9 _ _ j h=>?_
 ·refine j.z1 λ _ _ j=>?_
  refine wql p9 (λ s11 a w=>Sx (Frm.of w0) 27 M M [] [(0,dt x0),(1,dt s11.1),(5,dt s11.2)] [] a w) (j.sel0 [0,1,5]) ?_
  rintro s11 z11 _ _ j hs11 hx11
  have h:j3 x0 s11=some z11:=hs11
  unfold j3 at h
  refine j.zc h (λ _ _ j h=>?_) λ _ _ j h=>?_
  ·have⟨v16,p16,h⟩:=bs h
   have⟨v17,p17,h⟩:=bs h
   refine j.z1 λ _ _ j=>?_
   refine j.zc h (λ _ _ j h=>?_) λ _ _ j h=>?_
   ·exact j.ze (jo (lo h hx11) k9)
   have⟨v27,p27,h⟩:=bs h
   exact j.zn [] h
  have h:=lo h hx11
  exact flz h
 exact j.ze h
instance:Ct2 prog 39 dt dt dt ZT:=⟨λ h=>zdc h⟩
def Yq(x0:Tree)(x1:Int):Option Int:=
(ZT x0.files x1).bind λ v2=>
if cmpI .lss v2 0 then(some (-1:Int))
else(some v2)
theorem zay{x0:Tree}{r:Int}(h:Yq x0 x1=some r):Fn prog 7 [dt x0,dt x1] (dt r):=by
 refine fq1 0 func7 λ M _ _ j=>?_
 refine j.z1 λ _ _ j=>?_
 have⟨v2,p2,h⟩:=bs h
 refine j.z1 λ _ _ j=>?_
 refine j.zc h (λ _ _ j h=>?_) λ _ _ j h=>?_
 ·exact j.ze h
 exact j.ze h
instance:Ct2 prog 7 dt dt dt Yq:=⟨λ h=>zay h⟩
def qK(x0:GCmd)(x1:Int):Option Int:=
(i64 (x1 - (x0.name.l.length:Int))).bind λ v2=>
if cmpI .lss v2 0 then(some (-1:Int))
else(some v2)
theorem zca{x0:GCmd}{r:Int}(h:qK x0 x1=some r):Fn prog 40 [dt x0,dt x1] (dt r):=by
 refine fq1 0 func40 λ M _ _ j=>?_
 refine j.z1 λ _ _ j=>?_
 have⟨v2,p2,h⟩:=bs h
 refine j.z1 λ _ _ j=>?_
 refine j.zc h (λ _ _ j h=>?_) λ _ _ j h=>?_
 ·exact j.ze h
 exact j.ze h
instance:Ct2 prog 40 dt dt dt qK:=⟨λ h=>zca h⟩
def wR(x0:List GCmd)(s11:Int×Int):Option ((Int×Int)⊕(Int⊕Int)):=
if(cmpI .lss s11.2 (x0.length:Int))=true then((atI x0 s11.2).bind λ v16=>
(qK v16 s11.1).bind λ v17=>
if cmpI .lss v17 0 then(some (.inr (.inr (-1:Int))))
else((i64 (s11.2+(1:Int))).bind λ v27=>
some (.inl (v17,v27))))
else(some (.inr (.inl s11.1)))
def j4(x0:List GCmd)(x1:Int):Option Int:=
(i64 (x1 - (x0.length:Int))).bind λ v2=>
if cmpI .lss v2 0 then(some (-1:Int))
else(Option.bind (α:=Int⊕Int) (zH (λ s11=>wR x0 s11) (v2,(0:Int))) (Sum.elim (λ b9=>
some b9) some))
theorem WO{x0:List GCmd}{r:Int}(h:j4 x0 x1=some r):Fn prog 8 [dt x0,dt x1] (dt r):=by
 refine fq1 0 func8 λ M w0 _ j=>?_
 refine j.z1 λ _ _ j=>?_
 have⟨v2,p2,h⟩:=bs h
 refine j.z1 λ _ _ j=>?_
 refine j.zc h (λ _ _ j h=>?_) λ _ _ j h=>?_
 ·exact j.ze h
 refine wqk (za ?_)
 refine j.jb [] (λ b9=>[(1,dt b9)]) h (λ o9 p9 k9=>?_) λ b9 _ _ j h=>?_
 ·refine j.z1 λ _ _ j=>?_
  refine wql p9 (λ s11 a w=>Sx (Frm.of w0) 27 M M [] [(0,dt x0),(1,dt s11.1),(5,dt s11.2)] [] a w) (j.sel0 [0,1,5]) ?_
  rintro s11 z11 _ _ j hs11 hx11
  have h:wR x0 s11=some z11:=hs11
  unfold wR at h
  refine j.zc h (λ _ _ j h=>?_) λ _ _ j h=>?_
  ·have⟨v16,p16,h⟩:=bs h
   have⟨v17,p17,h⟩:=bs h
   refine j.z1 λ _ _ j=>?_
   refine j.zc h (λ _ _ j h=>?_) λ _ _ j h=>?_
   ·exact j.ze (jo (lo h hx11) k9)
   have⟨v27,p27,h⟩:=bs h
   exact j.zn [] h
  have h:=lo h hx11
  exact flz h
 exact j.ze h
instance:Ct2 prog 8 dt dt dt j4:=⟨λ h=>WO h⟩
def Yr(x0:Stmt):Option Stmt:=
some ({ { { { { zStmt with kind:=x0.kind } with module:=x0.module } with level:=x0.level } with name:=x0.name } with value:=x0.value })
theorem zaz{x0:Stmt}{r:Stmt}(h:Yr x0=some r):Fn prog 215 [dt x0] (dt r):=by
 refine fq1 2 func215 λ M _ _ j=>?_
 refine Ka ?_
 refine j.zg 1 λ _ _ j=>?_
 refine j.alA 0 zb0 [1] [] (λ b3 _ _ _ j=>Kb (Ka ?_))
 refine j.alA 1 zb0 [1] [2] (λ b5 _ _ _ j=>Kb (Ka ?_))
 refine j.zh 3 [(2,0),(3,1),(6,1)] λ _ _ j=>?_
 refine j.stA 3 1 Stmt.set0 (tp Z) [1] [2] (λ _ _ j=>Kb (Ka ?_))
 refine j.zh 3 [(2,0),(3,1),(9,1)] λ _ _ j=>?_
 refine j.stA 3 1 Stmt.set1 (tp Z) [1] [2] (λ _ _ j=>Kb (Ka ?_))
 refine j.zh 3 [(2,0),(3,1),(12,1)] λ _ _ j=>?_
 refine j.stA 3 1 Stmt.set2 (tp Z) [1] [2] (λ _ _ j=>Kb (Ka ?_))
 refine j.zh 3 [(2,0),(3,1),(15,1)] λ _ _ j=>?_
 refine j.stA 3 1 Stmt.set3 (tp Z) [1] [2] (λ _ _ j=>Kb (Ka ?_))
 refine j.zh 3 [(2,0),(3,1),(18,1)] λ _ _ j=>?_
 refine j.stA 3 1 Stmt.set4 (tp Z) [] [2] (λ _ _ j=>Kb (Ka ?_))
 refine j.zh 1 [(2,0)] λ _ _ j=>?_
 refine j.stA 2 0 FldS.id (tp Z) [] [] (λ _ _ j=>Kb ?_)
 exact j.yB h
instance:Ct1 prog 215 dt dt Yr:=⟨λ h=>zaz h⟩
def wX(x0:List Stmt)(s10:(List Stmt)×Int):Option (((List Stmt)×Int)⊕(List Stmt)):=
if(cmpI .lss s10.2 (x0.length:Int))=true then((atI x0 s10.2).bind λ v15=>
(Yr v15).bind λ v16=>
(atI s10.1 s10.2).bind λ _v17=>
(setO s10.1 s10.2 v16).bind λ v24=>
(i64 (s10.2+(1:Int))).bind λ v26=>
some (.inl (v24,v26)))
else(some (.inr s10.1))
def Xb(x0:List Stmt):Option (List Stmt):=
(Jd 5 56 (x0.length:Int) zStmt).bind λ v5=>
Option.bind (α:=(List Stmt)) (zH (λ s10=>wX x0 s10) (v5,(0:Int))) λ o8=>
some o8
theorem zdd{r:List Stmt}(h:Xb x0=some r):FnOwn prog 146 [dt x0] 175 r:=by
 refine fqO 1 func146 λ M w0 _ j=>?_
 refine j.z1 (λ _ _ j=>?_) (hs:=sc Z (oA Z (JD (α:=Stmt) (e:=175)))<|.nil)
 refine Ka ?_
 refine j.zg 2 λ _ _ j=>?_
 have⟨v5,p5,h⟩:=bs h
 refine j.make 0 Z Z kE119 kZ175 zb0 Z (gl Z) p5 [0] Z [] Z Z λ g4 _ _ _ j=>?_
 refine j.zh 1 [(3,0)] (λ _ _ j=>Kb (za ?_))
 refine j.jmq 1 [] (λ _=>[]) (λ o8 q=>[(3,0,dtip (q 0) 175 o8)]) h (λ o8 p8=>?_) λ o8 q8 _ _ _ j h=>?_
 ·refine j.zo [(3,0)] λ _ _ j=>?_
  refine wql p8 (λ s10 a w=>∃ M1 Q,Sx (Frm.of w0) 23 M M1 [oneB Q] [(0,dt x0),(4,dt s10.2)] [(3,0,dtip Q 175 s10.1)] a w) fx ?_
  rintro s10 z10 _ _ ⟨_,Q,j⟩ hs10 hx10
  have h:wX x0 s10=some z10:=hs10
  unfold wX at h
  refine j.zd [(3,0)] h (λ _ _ j h=>?_) λ _ _ j h=>?_
  ·refine Ka ?_
   have⟨v15,p15,v16,p16,h⟩:=Kg h
   have⟨v17,p17,h⟩:=bs h
   refine j.zh 8 [(3,0),(21,0)] (λ _ _ j=>?_) (hs:=sZ 6 (r:=by exact sc Z (oK (zaz p16))<|sc Z (xIdxT Z (tp Z) (tp Z) p17)<|.nil))
   have⟨v24,p24,h⟩:=bs h
   refine j.storeT (sb:=3) 0 (tp Z) p24 [0,4] [] (λ _ _ j=>Kb ?_)
   have⟨v26,p26,h⟩:=bs h
   exact j.zn [(3,0)] h
  have h:=lo h hx10
  cases h
  exact fz
 exact j.zl 0 h
def jz(x0:List Int)(s10:(List Int)×Int):Option (((List Int)×Int)⊕(List Int)):=
if(cmpI .lss s10.2 (x0.length:Int))=true then((atI x0 s10.2).bind λ v15=>
(atI s10.1 s10.2).bind λ _v16=>
(setO s10.1 s10.2 v15).bind λ v22=>
(i64 (s10.2+(1:Int))).bind λ v24=>
some (.inl (v22,v24)))
else(some (.inr s10.1))
def jt(x0:List Int):Option (List Int):=
(Jd 1 8 (x0.length:Int) zInt).bind λ v5=>
Option.bind (α:=(List Int)) (zH (λ s10=>jz x0 s10) (v5,(0:Int))) λ o8=>
some o8
theorem Xy{x0:List Int}{r:List Int}(h:jt x0=some r):FnOwn prog 11 [dt x0] 3 r:=by
 refine fqO 1 func11 λ M w0 _ j=>?_
 refine j.z1 (λ _ _ j=>?_) (hs:=sc Z (oA Z (JD (α:=Int) (e:=3)))<|.nil)
 refine Ka ?_
 refine j.zg 2 λ _ _ j=>?_
 have⟨v5,p5,h⟩:=bs h
 refine j.make 0 Z Z kE25 kZ3 Yi Z (gl Z) p5 [0] Z [] Z Z λ g4 _ _ _ j=>?_
 refine j.zh 1 [(3,0)] (λ _ _ j=>Kb (za ?_))
 refine j.jmq 1 [] (λ _=>[]) (λ o8 q=>[(3,0,dtip (q 0) 3 o8)]) h (λ o8 p8=>?_) λ o8 q8 _ _ _ j h=>?_
 ·refine j.zo [(3,0)] λ _ _ j=>?_
  refine wql p8 (λ s10 a w=>∃ M1 Q,Sx (Frm.of w0) 22 M M1 [oneB Q] [(0,dt x0),(4,dt s10.2)] [(3,0,dtip Q 3 s10.1)] a w) fx ?_
  rintro s10 z10 _ _ ⟨_,Q,j⟩ hs10 hx10
  have h:jz x0 s10=some z10:=hs10
  unfold jz at h
  refine j.zd [(3,0)] h (λ _ _ j h=>?_) λ _ _ j h=>?_
  ·refine Ka ?_
   have⟨v15,p15,v16,p16,h⟩:=Kg h
   refine j.zh 7 [(3,0),(20,0)] (λ _ _ j=>?_) (hs:=sZ 6 (r:=by exact sc Z (xIdxT Z (tp Z) (tp Z) p16)<|.nil))
   have⟨v22,p22,h⟩:=bs h
   refine j.storeT (sb:=3) 0 (tp Z) p22 [0,4] [] (λ _ _ j=>Kb ?_)
   have⟨v24,p24,h⟩:=bs h
   exact j.zn [(3,0)] h
  have h:=lo h hx10
  cases h
  exact fz
 exact j.zl 0 h
def Xz(x0:File):Option File:=
(Xb x0.body).bind λ v16=>
some (⟨x0.root,x0.pkg,x0.name,x0.init,x0.stamp,v16⟩:File)
theorem laws_toFile_w{x0:File}{r:File}(h:Xz x0=some r):FnN prog 87 [dt x0] (.ow (owFile (Ow.row 175 (Ow.frz (α:=Stmt)))) r):=by
 refine fnN (fn:=f87) 3 func87 Z Z (λ M _ _ j=>wqw (Ka ?_))
 refine j.zg 1 λ _ _ j=>?_
 refine j.alcW (ow:=(owFile (Ow.row 175 (Ow.frz (α:=Stmt))))) 1 (owFile.z Ow.row_z) [1] [] (λ b2 _ _ _ j=>Kb (Ka ?_))
 refine j.alcW (ow:=(owFile (Ow.row 175 (Ow.frz (α:=Stmt))))) 2 (owFile.z Ow.row_z) [1] [2] (λ b3 _ _ _ j=>Kb (Ka ?_))
 refine j.zh 3 [(2,1),(3,2)] (λ _ _ j=>?_) (hs:=sZ 2 (r:=by exact sc Z (xFa Z kF121_0 (zN Z))<|.nil))
 refine j.sfA 3 2 ((PV.root.box Z).fld owFile.f0) (tp Z) (tp Z) [1] [2] (λ _ j=>Kb (Ka ?_))
 refine j.zh 3 [(2,1),(3,2)] (λ _ _ j=>?_) (hs:=sZ 2 (r:=by exact sc Z (xFa Z kF121_1 (zN Z))<|.nil))
 refine j.sfA 3 2 ((PV.root.box Z).fld owFile.f1) (tp Z) (tp Z) [1] [2] (λ _ j=>Kb (Ka ?_))
 refine j.zh 3 [(2,1),(3,2)] (λ _ _ j=>?_) (hs:=sZ 2 (r:=by exact sc Z (xFa Z kF121_2 (zN Z))<|.nil))
 refine j.sfA 3 2 ((PV.root.box Z).fld owFile.f2) (tp Z) (tp Z) [1] [2] (λ _ j=>Kb (Ka ?_))
 refine j.zh 3 [(2,1),(3,2)] (λ _ _ j=>?_) (hs:=sZ 2 (r:=by exact sc Z (xFa Z kF121_3 (zN Z))<|.nil))
 refine j.sfA 3 2 ((PV.root.box Z).fld owFile.f3) (tp Z) (tp Z) [1] [2] (λ _ j=>Kb (Ka ?_))
 refine j.zh 3 [(2,1),(3,2)] (λ _ _ j=>?_) (hs:=sZ 2 (r:=by exact sc Z (xFa Z kF121_4 (zN Z))<|.nil))
 refine j.sfA 3 2 ((PV.root.box Z).fld owFile.f4) (tp Z) (tp Z) [1] [2] (λ _ j=>Kb (Ka ?_))
 refine j.zh 2 [(2,1),(3,2)] λ _ _ j=>?_
 have⟨v16,p16,h⟩:=bs h
 refine j.cN (l:=[.tmp 20]) 0 (.cons (tp Z) .nil) (zdd p16).n [] [2,3] λ _ _ _ _ j=>?_
 refine j.zh 1 [(2,1),(3,2),(21,0)] (λ _ _ j=>?_) (hs:=sc Z (xFa Z kF121_5 (zN Z))<|.nil)
 refine j.stO (sb:=3) (tv:=21) 2 0 ((PV.root.box Z).fld owFile.f5) (tp Z) [] [2] (λ _ _ j=>Kb (Ka ?_))
 refine j.ldW (sb:=3) 2 iI [] [2] λ _ _ j=>?_
 refine j.stO (sb:=2) (tv:=23) 1 2 (PV.root.box Z) (zN Z) [] [] (λ _ _ j=>Kb ?_)
 exact j.rnC 1 iI h
def wY(x0:List File)(s11:(List File)×Int):Option (((List File)×Int)⊕(List File)):=
if(cmpI .lss s11.2 (x0.length:Int))=true then((atI x0 s11.2).bind λ v17=>
(Xz v17).bind λ v21=>
(atI s11.1 s11.2).bind λ _v23=>
(i64 (s11.2+(1:Int))).bind λ v27=>
some (.inl ((s11.1.set s11.2.toNat v21),v27)))
else(some (.inr s11.1))
def Xc(x0:List File):Option (List File):=
(Jd 6 80 (x0.length:Int) zFile).bind λ v4=>
Option.bind (α:=(List File)) (zH (λ s11=>wY x0 s11) (v4,(0:Int))) λ o8=>
some o8
theorem zde{x0:List File}{r:List File}(h:Xc x0=some r):FnN prog 45 [dt x0] (.ow (Ow.row 121 (owFile (Ow.row 175 (Ow.frz (α:=Stmt))))) r):=by
 refine fnN (fn:=f45) 2 func45 Z Z (λ M w0 _ j=>wqw ?_)
 refine j.rg2 (sc Z (oA Z (qT (α:=File)))<|.nil) [0] (λ _ _ j=>Ka ?_)
 refine j.segA 2 [0,6] [] λ _ _ j=>?_
 have⟨v4,p4,h⟩:=bs h
 refine j.makeW (ow:=(owFile (Ow.row 175 (Ow.frz (α:=Stmt))))) 0 Z Z kE34 kZ121 (owFile.z Ow.row_z) Z p4 [0] Z [] Z Z λ _ _ _ _ j=>?_
 refine j.nmR (s:=7) 0 [] λ g6 A6 _ hA6 j=>?_
 refine j.segA 1 [0] [(3,0)] (λ _ _ j=>Kb (za ?_))
 have⟨o8,p8,k8⟩:=bs h
 refine wqj (λ a w=>∃ M1 Q R,Sx (Frm.of w0) 23 M M1 [Q,R] [] [(3,0,dow (Ow.row 121 (owFile (Ow.row 175 (Ow.frz (α:=Stmt))))) Q o8)] a w) ?_ ?_
 ·refine j.rgA [0,4] [(3,0)] λ _ _ j=>?_
  have j:=j.unm (s:=3) 0 []
  refine wql p8 (λ s11 a w=>∃ M1 Q R,Sx (Frm.of w0) 23 M M1 [Q,R] [(0,dt x0),(4,dt s11.2)] [(3,0,dow (Ow.row 121 (owFile (Ow.row 175 (Ow.frz (α:=Stmt))))) Q s11.1)] a w) fx ?_
  rintro s11 z11 _ _ ⟨_,Q,R,j⟩ hs11 hx11
  have h:wY x0 s11=some z11:=hs11
  unfold wY at h
  refine j.rgA [0,4,11] [(3,0)] λ _ _ j=>?_
  refine j.cq h (λ h=>?_) λ h=>?_
  ·refine Ka ?_
   have⟨v17,p17,h⟩:=bs h
   refine j.nmR (s:=3) 0 [] λ g16 A16 _ hA16 j=>?_
   refine j.segA 6 [0,4,15,19] [(3,0),(14,0)] λ _ _ j=>?_
   have⟨v21,p21,h⟩:=bs h
   refine j.cN (l:=[.tmp 19]) 1 (.cons (tp Z) .nil) (laws_toFile_w p21) [0,4,15] [3,14] λ _ _ _ _ j=>?_
   have⟨v23,p23,h⟩:=bs h
   refine j.segB 1 (sc Z (xIaN Z kS34 Z (tp Z) hA16 p23)<|.nil) [0,4,21] [(3,0),(14,0),(20,1)] λ _ _ j=>?_
   refine j.stO (sb:=3) (tv:=20) 0 1 (PV.root.row Z hA16 p23) (tp Z) [0,4] [] (λ _ _ j=>Kb ?_)
   have⟨v27,p27,h⟩:=bs h
   refine j.rgA [0,4] [(3,0)] λ _ _ j=>?_
   have j:=j.unm (s:=3) 0 []
   exact flz h
  have h:=lo h hx11
  cases h
  exact fz
 rintro _ _ ⟨_,Q,R,j⟩
 have h:=k8
 refine j.nmR (s:=3) 0 [] λ g33 A33 _ hA33 j=>?_
 refine j.rgA [] [(2,0)] λ _ _ j=>?_
 have j:=j.unm (s:=2) 0 []
 exact j.rnO 0 iI h
def qh(x0:Tree):Option Tree:=
(Xc x0.files).bind λ v6=>
some (⟨v6⟩:Tree)
theorem XA{x0:Tree}{r:Tree}(h:qh x0=some r):FnN prog 10 [dt x0] (.ow (owTree (Ow.row 121 (owFile (Ow.row 175 (Ow.frz (α:=Stmt)))))) r):=by
 refine fnN (fn:=f10) 3 func10 Z Z (λ M _ _ j=>wqw (Ka ?_))
 refine j.seg 1 (
  sc Z (ZE Z (tp Z))<|.nil) [1] Z [] Z trivial (λ _ _ j=>?_)
 refine j.alcW (ow:=(owTree (Ow.row 121 (owFile (Ow.row 175 (Ow.frz (α:=Stmt))))))) 1 (owTree.z Ow.row_z) [1] [] (λ b2 _ _ _ j=>Kb (Ka ?_))
 refine j.alcW (ow:=(owTree (Ow.row 121 (owFile (Ow.row 175 (Ow.frz (α:=Stmt))))))) 2 (owTree.z Ow.row_z) [1] [2] (λ b3 _ _ _ j=>Kb (Ka ?_))
 refine j.zh 2 [(2,1),(3,2)] λ _ _ j=>?_
 have⟨v6,p6,h⟩:=bs h
 refine j.cN (l:=[.tmp 5]) 0 (.cons (tp Z) .nil) (zde p6) [] [2,3] λ _ _ _ _ j=>?_
 refine j.zh 1 [(2,1),(3,2),(6,0)] (λ _ _ j=>?_) (hs:=sc Z (xFa Z kF36_0 (zN Z))<|.nil)
 refine j.stO (sb:=3) (tv:=6) 2 0 ((PV.root.box Z).fld owTree.f0) (tp Z) [] [2] (λ _ _ j=>Kb (Ka ?_))
 refine j.ldW (sb:=3) 2 iI [] [2] λ _ _ j=>?_
 refine j.stO (sb:=2) (tv:=8) 1 2 (PV.root.box Z) (zN Z) [] [] (λ _ _ j=>Kb ?_)
 exact j.rnC 1 iI h
def qL(x0:GCmd):Option GCmd:=
some ({ { zGCmd with kind:=x0.kind } with name:=x0.name })
theorem Jt{x0:GCmd}{r:GCmd}(h:qL x0=some r):Fn prog 46 [dt x0] (dt r):=by
 refine fq1 2 func46 λ M _ _ j=>?_
 refine Ka ?_
 refine j.zg 1 λ _ _ j=>?_
 refine j.alA 0 zrGCmd [1] [] (λ b3 _ _ _ j=>Kb (Ka ?_))
 refine j.alA 1 zrGCmd [1] [2] (λ b5 _ _ _ j=>Kb (Ka ?_))
 refine j.zh 3 [(2,0),(3,1),(6,1)] λ _ _ j=>?_
 refine j.stA 3 1 GCmd.set0 (tp Z) [1] [2] (λ _ _ j=>Kb (Ka ?_))
 refine j.zh 3 [(2,0),(3,1),(9,1)] λ _ _ j=>?_
 refine j.stA 3 1 GCmd.set1 (tp Z) [] [2] (λ _ _ j=>Kb (Ka ?_))
 refine j.zh 1 [(2,0)] λ _ _ j=>?_
 refine j.stA 2 0 FldS.id (tp Z) [] [] (λ _ _ j=>Kb ?_)
 exact j.yB h
instance:Ct1 prog 46 dt dt qL:=⟨λ h=>Jt h⟩
def xU(x0:List GCmd)(s10:(List GCmd)×Int):Option (((List GCmd)×Int)⊕(List GCmd)):=
if(cmpI .lss s10.2 (x0.length:Int))=true then((atI x0 s10.2).bind λ v15=>
(qL v15).bind λ v16=>
(atI s10.1 s10.2).bind λ _v17=>
(setO s10.1 s10.2 v16).bind λ v24=>
(i64 (s10.2+(1:Int))).bind λ v26=>
some (.inl (v24,v26)))
else(some (.inr s10.1))
def we(x0:List GCmd):Option (List GCmd):=
(Jd 2 24 (x0.length:Int) zGCmd).bind λ v5=>
Option.bind (α:=(List GCmd)) (zH (λ s10=>xU x0 s10) (v5,(0:Int))) λ o8=>
some o8
theorem Zy{x0:List GCmd}{r:List GCmd}(h:we x0=some r):FnOwn prog 12 [dt x0] 78 r:=by
 refine fqO 1 func12 λ M w0 _ j=>?_
 refine j.z1 (λ _ _ j=>?_) (hs:=sc Z (oA Z (JD (α:=GCmd) (e:=78)))<|.nil)
 refine Ka ?_
 refine j.zg 2 λ _ _ j=>?_
 have⟨v5,p5,h⟩:=bs h
 refine j.make 0 Z Z kE39 kZ78 zrGCmd Z (gl Z) p5 [0] Z [] Z Z λ g4 _ _ _ j=>?_
 refine j.zh 1 [(3,0)] (λ _ _ j=>Kb (za ?_))
 refine j.jmq 1 [] (λ _=>[]) (λ o8 q=>[(3,0,dtip (q 0) 78 o8)]) h (λ o8 p8=>?_) λ o8 q8 _ _ _ j h=>?_
 ·refine j.zo [(3,0)] λ _ _ j=>?_
  refine wql p8 (λ s10 a w=>∃ M1 Q,Sx (Frm.of w0) 23 M M1 [oneB Q] [(0,dt x0),(4,dt s10.2)] [(3,0,dtip Q 78 s10.1)] a w) fx ?_
  rintro s10 z10 _ _ ⟨_,Q,j⟩ hs10 hx10
  have h:xU x0 s10=some z10:=hs10
  unfold xU at h
  refine j.zd [(3,0)] h (λ _ _ j h=>?_) λ _ _ j h=>?_
  ·refine Ka ?_
   have⟨v15,p15,v16,p16,h⟩:=Kg h
   have⟨v17,p17,h⟩:=bs h
   refine j.zh 8 [(3,0),(21,0)] (λ _ _ j=>?_) (hs:=sZ 6 (r:=by exact sc Z (oK (Jt p16))<|sc Z (xIdxT Z (tp Z) (tp Z) p17)<|.nil))
   have⟨v24,p24,h⟩:=bs h
   refine j.storeT (sb:=3) 0 (tp Z) p24 [0,4] [] (λ _ _ j=>Kb ?_)
   have⟨v26,p26,h⟩:=bs h
   exact j.zn [(3,0)] h
  have h:=lo h hx10
  cases h
  exact fz
 exact j.zl 0 h
def Ys(x0:Stmt)(x1:Stmt):Option Bool:=
if cmpI .neq x0.kind x1.kind then(some false)
else(if(decide (x0.module≠x1.module))=true then(some false)
else(if cmpI .neq x0.level x1.level then(some false)
else(if(decide (x0.name≠x1.name))=true then(some false)
else(if cmpI .neq x0.value x1.value then(some false)
else(some true)))))
theorem laws_eqStmt_w{x0:Stmt}{x1:Stmt}(h:Ys x0 x1=some r):Fn prog 225 [dt x0,dt x1] (dt r):=by
 refine fq1 0 func225 λ M _ _ j=>?_
 refine j.z1 λ _ _ j=>?_
 refine j.zc h (λ _ _ j h=>?_) λ _ _ j h=>?_
 ·exact j.ze h
 refine j.zc h (λ _ _ j h=>?_) λ _ _ j h=>?_
 ·exact j.ze h
 refine j.zc h (λ _ _ j h=>?_) λ _ _ j h=>?_
 ·exact j.ze h
 refine j.zc h (λ _ _ j h=>?_) λ _ _ j h=>?_
 ·exact j.ze h
 refine j.zc h (λ _ _ j h=>?_) λ _ _ j h=>?_
 ·exact j.ze h
 exact j.ze h
instance:Ct2 prog 225 dt dt dt Ys:=⟨λ h=>laws_eqStmt_w h⟩
def j5(x0:List Stmt)(x1:List Stmt)(s8:Int):Option (Int⊕(Unit⊕Bool)):=
if(cmpI .lss s8 (x0.length:Int))=true then((atI x0 s8).bind λ v13=>
(atI x1 s8).bind λ v14=>
(Ys v13 v14).bind λ v15=>
if(!v15)=true then(some (.inr (.inr false)))
else((i64 (s8+(1:Int))).bind λ v25=>
some (.inl v25)))
else(some (.inr (.inl ())))
def ZU(x0:List Stmt)(x1:List Stmt):Option Bool:=
if(cmpI .neq (x0.length:Int) (x1.length:Int))=true then(some false)
else(Option.bind (α:=Unit⊕Bool) (zH (λ s8=>j5 x0 x1 s8) (0:Int)) (Sum.elim (λ _b6=>
some true) some))
theorem zdf{x1:List Stmt}(h:ZU x0 x1=some r):Fn prog 163 [dt x0,dt x1] (dt r):=by
 refine fq1 0 func163 λ M w0 _ j=>?_
 refine j.z1 λ _ _ j=>?_
 refine j.zc h (λ _ _ j h=>?_) λ _ _ j h=>?_
 ·exact j.ze h
 refine wqk (za ?_)
 refine j.jb [] (λ _=>[]) h (λ o6 p6 k6=>?_) λ b6 _ _ j h=>?_
 ·refine j.z1 λ _ _ j=>?_
  refine wql p6 (λ s8 a w=>Sx (Frm.of w0) 27 M M [] [(0,dt x0),(1,dt x1),(5,dt s8)] [] a w) (j.sel0 [0,1,5]) ?_
  rintro s8 z8 _ _ j hs8 hx8
  have h:j5 x0 x1 s8=some z8:=hs8
  unfold j5 at h
  refine j.zc h (λ _ _ j h=>?_) λ _ _ j h=>?_
  ·have⟨v13,p13,h⟩:=bs h
   have⟨v14,p14,v15,p15,h⟩:=Kg h
   refine j.zw λ _ _ j=>?_
   refine j.cq h (λ h=>?_) λ h=>?_
   ·exact j.ze (jo (lo h hx8) k6)
   have⟨v25,p25,h⟩:=bs h
   exact j.zn [] h
  have h:=lo h hx8
  exact flz h
 exact j.ze h
instance:Ct2 prog 163 dt dt dt ZU:=⟨λ h=>zdf h⟩
def Yt(x0:File)(x1:File):Option Bool:=
if cmpI .neq x0.root x1.root then(some false)
else(if(decide (x0.pkg≠x1.pkg))=true then(some false)
else(if(decide (x0.name≠x1.name))=true then(some false)
else(if(x0.init != x1.init)=true then(some false)
else(if cmpI .neq x0.stamp x1.stamp then(some false)
else((ZU x0.body x1.body).bind λ v22=>
if(!v22)=true then(some false)
else(some true))))))
theorem laws_eqFile_w{x0:File}{x1:File}(h:Yt x0 x1=some r):Fn prog 100 [dt x0,dt x1] (dt r):=by
 refine fq1 0 func100 λ M _ _ j=>?_
 refine j.z1 λ _ _ j=>?_
 refine j.zc h (λ _ _ j h=>?_) λ _ _ j h=>?_
 ·exact j.ze h
 refine j.zc h (λ _ _ j h=>?_) λ _ _ j h=>?_
 ·exact j.ze h
 refine j.zc h (λ _ _ j h=>?_) λ _ _ j h=>?_
 ·exact j.ze h
 refine j.zc h (λ _ _ j h=>?_) λ _ _ j h=>?_
 ·exact j.ze h
 refine j.zc h (λ _ _ j h=>?_) λ _ _ j h=>?_
 ·exact j.ze h
 have⟨v22,p22,h⟩:=bs h
 refine j.zc h (λ _ _ j h=>?_) λ _ _ j h=>?_
 ·exact j.ze h
 exact j.ze h
instance:Ct2 prog 100 dt dt dt Yt:=⟨λ h=>laws_eqFile_w h⟩
def j6(x0:List File)(x1:List File)(s8:Int):Option (Int⊕(Unit⊕Bool)):=
if(cmpI .lss s8 (x0.length:Int))=true then((atI x0 s8).bind λ v13=>
(atI x1 s8).bind λ v14=>
(Yt v13 v14).bind λ v15=>
if(!v15)=true then(some (.inr (.inr false)))
else((i64 (s8+(1:Int))).bind λ v25=>
some (.inl v25)))
else(some (.inr (.inl ())))
def ZV(x0:List File)(x1:List File):Option Bool:=
if(cmpI .neq (x0.length:Int) (x1.length:Int))=true then(some false)
else(Option.bind (α:=Unit⊕Bool) (zH (λ s8=>j6 x0 x1 s8) (0:Int)) (Sum.elim (λ _b6=>
some true) some))
theorem zdg{x0:List File}{x1:List File}(h:ZV x0 x1=some r):Fn prog 56 [dt x0,dt x1] (dt r):=by
 refine fq1 0 func56 λ M w0 _ j=>?_
 refine j.z1 λ _ _ j=>?_
 refine j.zc h (λ _ _ j h=>?_) λ _ _ j h=>?_
 ·exact j.ze h
 refine wqk (za ?_)
 refine j.jb [] (λ _=>[]) h (λ o6 p6 k6=>?_) λ b6 _ _ j h=>?_
 ·refine j.z1 λ _ _ j=>?_
  refine wql p6 (λ s8 a w=>Sx (Frm.of w0) 27 M M [] [(0,dt x0),(1,dt x1),(5,dt s8)] [] a w) (j.sel0 [0,1,5]) ?_
  rintro s8 z8 _ _ j hs8 hx8
  have h:j6 x0 x1 s8=some z8:=hs8
  unfold j6 at h
  refine j.zc h (λ _ _ j h=>?_) λ _ _ j h=>?_
  ·have⟨v13,p13,h⟩:=bs h
   have⟨v14,p14,v15,p15,h⟩:=Kg h
   refine j.zw λ _ _ j=>?_
   refine j.cq h (λ h=>?_) λ h=>?_
   ·exact j.ze (jo (lo h hx8) k6)
   have⟨v25,p25,h⟩:=bs h
   exact j.zn [] h
  have h:=lo h hx8
  exact flz h
 exact j.ze h
instance:Ct2 prog 56 dt dt dt ZV:=⟨λ h=>zdg h⟩
def Zs(x0:Tree)(x1:Tree):Option Bool:=
(ZV x0.files x1.files).bind λ v2=>
if(!v2)=true then(some false)
else(some true)
theorem zaA{x0:Tree}{x1:Tree}(h:Zs x0 x1=some r):Fn prog 15 [dt x0,dt x1] (dt r):=by
 refine fq1 0 func15 λ M _ _ j=>?_
 refine j.z1 λ _ _ j=>?_
 have⟨v2,p2,h⟩:=bs h
 refine j.zc h (λ _ _ j h=>?_) λ _ _ j h=>?_
 ·exact j.ze h
 exact j.ze h
instance:Ct2 prog 15 dt dt dt Zs:=⟨λ h=>zaA h⟩
def qM(x0:List Int)(x1:List Int)(s8:Int):Option (Int⊕(Unit⊕Bool)):=
if(cmpI .lss s8 (x0.length:Int))=true then((atI x0 s8).bind λ v13=>
(atI x1 s8).bind λ v14=>
if cmpI .neq v13 v14 then(some (.inr (.inr false)))
else((i64 (s8+(1:Int))).bind λ v23=>
some (.inl v23)))
else(some (.inr (.inl ())))
def wK(x0:List Int)(x1:List Int):Option Bool:=
if(cmpI .neq (x0.length:Int) (x1.length:Int))=true then(some false)
else(Option.bind (α:=Unit⊕Bool) (zH (λ s8=>qM x0 x1 s8) (0:Int)) (Sum.elim (λ _b6=>
some true) some))
theorem zaB{x0:List Int}{x1:List Int}(h:wK x0 x1=some r):Fn prog 16 [dt x0,dt x1] (dt r):=by
 refine fq1 0 func16 λ M w0 _ j=>?_
 refine j.z1 λ _ _ j=>?_
 refine j.zc h (λ _ _ j h=>?_) λ _ _ j h=>?_
 ·exact j.ze h
 refine wqk (za ?_)
 refine j.jb [] (λ _=>[]) h (λ o6 p6 k6=>?_) λ b6 _ _ j h=>?_
 ·refine j.z1 λ _ _ j=>?_
  refine wql p6 (λ s8 a w=>Sx (Frm.of w0) 26 M M [] [(0,dt x0),(1,dt x1),(5,dt s8)] [] a w) (j.sel0 [0,1,5]) ?_
  rintro s8 z8 _ _ j hs8 hx8
  have h:qM x0 x1 s8=some z8:=hs8
  unfold qM at h
  refine j.zc h (λ _ _ j h=>?_) λ _ _ j h=>?_
  ·have⟨v13,p13,h⟩:=bs h
   have⟨v14,p14,h⟩:=bs h
   refine j.zw λ _ _ j=>?_
   refine j.cq h (λ h=>?_) λ h=>?_
   ·exact j.ze (jo (lo h hx8) k6)
   have⟨v23,p23,h⟩:=bs h
   exact j.zn [] h
  have h:=lo h hx8
  exact flz h
 exact j.ze h
instance:Ct2 prog 16 dt dt dt wK:=⟨λ h=>zaB h⟩
def ZW(x0:GEvent)(x1:GEvent):Option Bool:=
if cmpI .neq x0.kind x1.kind then(some false)
else(if(decide (x0.name≠x1.name))=true then(some false)
else(some true))
theorem zdh{x0:GEvent}{x1:GEvent}(h:ZW x0 x1=some r):Fn prog 98 [dt x0,dt x1] (dt r):=by
 refine fq1 0 func98 λ M _ _ j=>?_
 refine j.z1 λ _ _ j=>?_
 refine j.zc h (λ _ _ j h=>?_) λ _ _ j h=>?_
 ·exact j.ze h
 refine j.zc h (λ _ _ j h=>?_) λ _ _ j h=>?_
 ·exact j.ze h
 exact j.ze h
instance:Ct2 prog 98 dt dt dt ZW:=⟨λ h=>zdh h⟩
def jL(x0:List GEvent)(x1:List GEvent)(s8:Int):Option (Int⊕(Unit⊕Bool)):=
if(cmpI .lss s8 (x0.length:Int))=true then((atI x0 s8).bind λ v13=>
(atI x1 s8).bind λ v14=>
(ZW v13 v14).bind λ v15=>
if(!v15)=true then(some (.inr (.inr false)))
else((i64 (s8+(1:Int))).bind λ v25=>
some (.inl v25)))
else(some (.inr (.inl ())))
def Zk(x0:List GEvent)(x1:List GEvent):Option Bool:=
if(cmpI .neq (x0.length:Int) (x1.length:Int))=true then(some false)
else(Option.bind (α:=Unit⊕Bool) (zH (λ s8=>jL x0 x1 s8) (0:Int)) (Sum.elim (λ _b6=>
some true) some))
theorem zcO{x0:List GEvent}{x1:List GEvent}(h:Zk x0 x1=some r):Fn prog 54 [dt x0,dt x1] (dt r):=by
 refine fq1 0 func54 λ M w0 _ j=>?_
 refine j.z1 λ _ _ j=>?_
 refine j.zc h (λ _ _ j h=>?_) λ _ _ j h=>?_
 ·exact j.ze h
 refine wqk (za ?_)
 refine j.jb [] (λ _=>[]) h (λ o6 p6 k6=>?_) λ b6 _ _ j h=>?_
 ·refine j.z1 λ _ _ j=>?_
  refine wql p6 (λ s8 a w=>Sx (Frm.of w0) 27 M M [] [(0,dt x0),(1,dt x1),(5,dt s8)] [] a w) (j.sel0 [0,1,5]) ?_
  rintro s8 z8 _ _ j hs8 hx8
  have h:jL x0 x1 s8=some z8:=hs8
  unfold jL at h
  refine j.zc h (λ _ _ j h=>?_) λ _ _ j h=>?_
  ·have⟨v13,p13,h⟩:=bs h
   have⟨v14,p14,v15,p15,h⟩:=Kg h
   refine j.zw λ _ _ j=>?_
   refine j.cq h (λ h=>?_) λ h=>?_
   ·exact j.ze (jo (lo h hx8) k6)
   have⟨v25,p25,h⟩:=bs h
   exact j.zn [] h
  have h:=lo h hx8
  exact flz h
 exact j.ze h
instance:Ct2 prog 54 dt dt dt Zk:=⟨λ h=>zcO h⟩
def ZX(x0:GVal)(x1:GVal):Option Bool:=
if cmpI .neq x0.kind x1.kind then(some false)
else(if cmpI .neq x0.num x1.num then(some false)
else(some true))
theorem zdi{x0:GVal}{x1:GVal}(h:ZX x0 x1=some r):Fn prog 269 [dt x0,dt x1] (dt r):=by
 refine fq1 0 func269 λ M _ _ j=>?_
 refine j.z1 λ _ _ j=>?_
 refine j.zc h (λ _ _ j h=>?_) λ _ _ j h=>?_
 ·exact j.ze h
 refine j.zc h (λ _ _ j h=>?_) λ _ _ j h=>?_
 ·exact j.ze h
 exact j.ze h
instance:Ct2 prog 269 dt dt dt ZX:=⟨λ h=>zdi h⟩
def Yu(x0:GAttr)(x1:GAttr):Option Bool:=
if(decide (x0.name≠x1.name))=true then(some false)
else((ZX x0.value x1.value).bind λ v6=>
if(!v6)=true then(some false)
else(some true))
theorem laws_eqAttr_w{x0:GAttr}{x1:GAttr}(h:Yu x0 x1=some r):Fn prog 224 [dt x0,dt x1] (dt r):=by
 refine fq1 0 func224 λ M _ _ j=>?_
 refine j.z1 λ _ _ j=>?_
 refine j.zc h (λ _ _ j h=>?_) λ _ _ j h=>?_
 ·exact j.ze h
 have⟨v6,p6,h⟩:=bs h
 refine j.zc h (λ _ _ j h=>?_) λ _ _ j h=>?_
 ·exact j.ze h
 exact j.ze h
instance:Ct2 prog 224 dt dt dt Yu:=⟨λ h=>laws_eqAttr_w h⟩
def j7(x0:List GAttr)(x1:List GAttr)(s8:Int):Option (Int⊕(Unit⊕Bool)):=
if(cmpI .lss s8 (x0.length:Int))=true then((atI x0 s8).bind λ v13=>
(atI x1 s8).bind λ v14=>
(Yu v13 v14).bind λ v15=>
if(!v15)=true then(some (.inr (.inr false)))
else((i64 (s8+(1:Int))).bind λ v25=>
some (.inl v25)))
else(some (.inr (.inl ())))
def ZY(x0:List GAttr)(x1:List GAttr):Option Bool:=
if(cmpI .neq (x0.length:Int) (x1.length:Int))=true then(some false)
else(Option.bind (α:=Unit⊕Bool) (zH (λ s8=>j7 x0 x1 s8) (0:Int)) (Sum.elim (λ _b6=>
some true) some))
theorem zdj{x0:List GAttr}{x1:List GAttr}(h:ZY x0 x1=some r):Fn prog 162 [dt x0,dt x1] (dt r):=by
 refine fq1 0 func162 λ M w0 _ j=>?_
 refine j.z1 λ _ _ j=>?_
 refine j.zc h (λ _ _ j h=>?_) λ _ _ j h=>?_
 ·exact j.ze h
 refine wqk (za ?_)
 refine j.jb [] (λ _=>[]) h (λ o6 p6 k6=>?_) λ b6 _ _ j h=>?_
 ·refine j.z1 λ _ _ j=>?_
  refine wql p6 (λ s8 a w=>Sx (Frm.of w0) 27 M M [] [(0,dt x0),(1,dt x1),(5,dt s8)] [] a w) (j.sel0 [0,1,5]) ?_
  rintro s8 z8 _ _ j hs8 hx8
  have h:j7 x0 x1 s8=some z8:=hs8
  unfold j7 at h
  refine j.zc h (λ _ _ j h=>?_) λ _ _ j h=>?_
  ·have⟨v13,p13,h⟩:=bs h
   have⟨v14,p14,v15,p15,h⟩:=Kg h
   refine j.zw λ _ _ j=>?_
   refine j.cq h (λ h=>?_) λ h=>?_
   ·exact j.ze (jo (lo h hx8) k6)
   have⟨v25,p25,h⟩:=bs h
   exact j.zn [] h
  have h:=lo h hx8
  exact flz h
 exact j.ze h
instance:Ct2 prog 162 dt dt dt ZY:=⟨λ h=>zdj h⟩
def Zl(x0:GMod)(x1:GMod):Option Bool:=
if(decide (x0.name≠x1.name))=true then(some false)
else(if cmpI .neq x0.kind x1.kind then(some false)
else((wK x0.roots x1.roots).bind λ v10=>
if(!v10)=true then(some false)
else(if(x0.cached != x1.cached)=true then(some false)
else(if(x0.done != x1.done)=true then(some false)
else((ZY x0.attrs x1.attrs).bind λ v24=>
if(!v24)=true then(some false)
else(some true))))))
theorem zcP{x0:GMod}{x1:GMod}(h:Zl x0 x1=some r):Fn prog 99 [dt x0,dt x1] (dt r):=by
 refine fq1 0 func99 λ M _ _ j=>?_
 refine j.z1 λ _ _ j=>?_
 refine j.zc h (λ _ _ j h=>?_) λ _ _ j h=>?_
 ·exact j.ze h
 refine j.zc h (λ _ _ j h=>?_) λ _ _ j h=>?_
 ·exact j.ze h
 have⟨v10,p10,h⟩:=bs h
 refine j.zc h (λ _ _ j h=>?_) λ _ _ j h=>?_
 ·exact j.ze h
 refine j.zc h (λ _ _ j h=>?_) λ _ _ j h=>?_
 ·exact j.ze h
 refine j.zc h (λ _ _ j h=>?_) λ _ _ j h=>?_
 ·exact j.ze h
 have⟨v24,p24,h⟩:=bs h
 refine j.zc h (λ _ _ j h=>?_) λ _ _ j h=>?_
 ·exact j.ze h
 exact j.ze h
instance:Ct2 prog 99 dt dt dt Zl:=⟨λ h=>zcP h⟩
def jh(x0:List GMod)(x1:List GMod)(s8:Int):Option (Int⊕(Unit⊕Bool)):=
if(cmpI .lss s8 (x0.length:Int))=true then((atI x0 s8).bind λ v13=>
(atI x1 s8).bind λ v14=>
(Zl v13 v14).bind λ v15=>
if(!v15)=true then(some (.inr (.inr false)))
else((i64 (s8+(1:Int))).bind λ v25=>
some (.inl v25)))
else(some (.inr (.inl ())))
def jA(x0:List GMod)(x1:List GMod):Option Bool:=
if(cmpI .neq (x0.length:Int) (x1.length:Int))=true then(some false)
else(Option.bind (α:=Unit⊕Bool) (zH (λ s8=>jh x0 x1 s8) (0:Int)) (Sum.elim (λ _b6=>
some true) some))
theorem zcb{x0:List GMod}{x1:List GMod}(h:jA x0 x1=some r):Fn prog 55 [dt x0,dt x1] (dt r):=by
 refine fq1 0 func55 λ M w0 _ j=>?_
 refine j.z1 λ _ _ j=>?_
 refine j.zc h (λ _ _ j h=>?_) λ _ _ j h=>?_
 ·exact j.ze h
 refine wqk (za ?_)
 refine j.jb [] (λ _=>[]) h (λ o6 p6 k6=>?_) λ b6 _ _ j h=>?_
 ·refine j.z1 λ _ _ j=>?_
  refine wql p6 (λ s8 a w=>Sx (Frm.of w0) 27 M M [] [(0,dt x0),(1,dt x1),(5,dt s8)] [] a w) (j.sel0 [0,1,5]) ?_
  rintro s8 z8 _ _ j hs8 hx8
  have h:jh x0 x1 s8=some z8:=hs8
  unfold jh at h
  refine j.zc h (λ _ _ j h=>?_) λ _ _ j h=>?_
  ·have⟨v13,p13,h⟩:=bs h
   have⟨v14,p14,v15,p15,h⟩:=Kg h
   refine j.zw λ _ _ j=>?_
   refine j.cq h (λ h=>?_) λ h=>?_
   ·exact j.ze (jo (lo h hx8) k6)
   have⟨v25,p25,h⟩:=bs h
   exact j.zn [] h
  have h:=lo h hx8
  exact flz h
 exact j.ze h
instance:Ct2 prog 55 dt dt dt jA:=⟨λ h=>zcb h⟩
def xK(x0:GResult)(x1:GResult):Option Bool:=
(wK x0.ends x1.ends).bind λ v2=>
if(!v2)=true then(some false)
else((wK x0.out x1.out).bind λ v8=>
if(!v8)=true then(some false)
else((Zk x0.log x1.log).bind λ v14=>
if(!v14)=true then(some false)
else((jA x0.modules x1.modules).bind λ v20=>
if(!v20)=true then(some false)
else(if cmpI .neq x0.left x1.left then(some false)
else(some true)))))
theorem Yz{x0:GResult}{x1:GResult}(h:xK x0 x1=some r):Fn prog 14 [dt x0,dt x1] (dt r):=by
 refine fq1 0 func14 λ M _ _ j=>?_
 refine j.z1 λ _ _ j=>?_
 have⟨v2,p2,h⟩:=bs h
 refine j.zc h (λ _ _ j h=>?_) λ _ _ j h=>?_
 ·exact j.ze h
 have⟨v8,p8,h⟩:=bs h
 refine j.zc h (λ _ _ j h=>?_) λ _ _ j h=>?_
 ·exact j.ze h
 have⟨v14,p14,h⟩:=bs h
 refine j.zc h (λ _ _ j h=>?_) λ _ _ j h=>?_
 ·exact j.ze h
 have⟨v20,p20,h⟩:=bs h
 refine j.zc h (λ _ _ j h=>?_) λ _ _ j h=>?_
 ·exact j.ze h
 refine j.zc h (λ _ _ j h=>?_) λ _ _ j h=>?_
 ·exact j.ze h
 exact j.ze h
instance:Ct2 prog 14 dt dt dt xK:=⟨λ h=>Yz h⟩
def qN(x0:GCmd)(x1:GCmd):Option Bool:=
if cmpI .neq x0.kind x1.kind then(some false)
else(if(decide (x0.name≠x1.name))=true then(some false)
else(some true))
theorem zcc{x0:GCmd}{x1:GCmd}(h:qN x0 x1=some r):Fn prog 57 [dt x0,dt x1] (dt r):=by
 refine fq1 0 func57 λ M _ _ j=>?_
 refine j.z1 λ _ _ j=>?_
 refine j.zc h (λ _ _ j h=>?_) λ _ _ j h=>?_
 ·exact j.ze h
 refine j.zc h (λ _ _ j h=>?_) λ _ _ j h=>?_
 ·exact j.ze h
 exact j.ze h
instance:Ct2 prog 57 dt dt dt qN:=⟨λ h=>zcc h⟩
def wS(x0:List GCmd)(x1:List GCmd)(s8:Int):Option (Int⊕(Unit⊕Bool)):=
if(cmpI .lss s8 (x0.length:Int))=true then((atI x0 s8).bind λ v13=>
(atI x1 s8).bind λ v14=>
(qN v13 v14).bind λ v15=>
if(!v15)=true then(some (.inr (.inr false)))
else((i64 (s8+(1:Int))).bind λ v25=>
some (.inl v25)))
else(some (.inr (.inl ())))
def wZ(x0:List GCmd)(x1:List GCmd):Option Bool:=
if(cmpI .neq (x0.length:Int) (x1.length:Int))=true then(some false)
else(Option.bind (α:=Unit⊕Bool) (zH (λ s8=>wS x0 x1 s8) (0:Int)) (Sum.elim (λ _b6=>
some true) some))
theorem WP{x0:List GCmd}{x1:List GCmd}(h:wZ x0 x1=some r):Fn prog 17 [dt x0,dt x1] (dt r):=by
 refine fq1 0 func17 λ M w0 _ j=>?_
 refine j.z1 λ _ _ j=>?_
 refine j.zc h (λ _ _ j h=>?_) λ _ _ j h=>?_
 ·exact j.ze h
 refine wqk (za ?_)
 refine j.jb [] (λ _=>[]) h (λ o6 p6 k6=>?_) λ b6 _ _ j h=>?_
 ·refine j.z1 λ _ _ j=>?_
  refine wql p6 (λ s8 a w=>Sx (Frm.of w0) 27 M M [] [(0,dt x0),(1,dt x1),(5,dt s8)] [] a w) (j.sel0 [0,1,5]) ?_
  rintro s8 z8 _ _ j hs8 hx8
  have h:wS x0 x1 s8=some z8:=hs8
  unfold wS at h
  refine j.zc h (λ _ _ j h=>?_) λ _ _ j h=>?_
  ·have⟨v13,p13,h⟩:=bs h
   have⟨v14,p14,v15,p15,h⟩:=Kg h
   refine j.zw λ _ _ j=>?_
   refine j.cq h (λ h=>?_) λ h=>?_
   ·exact j.ze (jo (lo h hx8) k6)
   have⟨v25,p25,h⟩:=bs h
   exact j.zn [] h
  have h:=lo h hx8
  exact flz h
 exact j.ze h
instance:Ct2 prog 17 dt dt dt wZ:=⟨λ h=>WP h⟩
def xe(s8:Int×Str):Option ((Int×Str)⊕Str):=
if cmpI .gtr s8.1 0 then((modO s8.1 (10:Int)).bind λ v13=>
(i64 ((48:Int)+v13)).bind λ v14=>
(catO (⟨([toB v14]:List UInt8)⟩:Str) s8.2).bind λ v15=>
(divO s8.1 (10:Int)).bind λ v20=>
some (.inl (v20,v15)))
else(some (.inr s8.2))
def z7(x0:Int):Option Str:=
if cmpI .leq x0 0 then(some (⟨[109,48]⟩:Str))
else(Option.bind (α:=Str) (zH (λ s8=>xe s8) (x0,(⟨[]⟩:Str))) λ o7=>
(catO (⟨[109]⟩:Str) o7).bind λ v25=>
some v25)
theorem xL{x0:Int}{r:Str}(h:z7 x0=some r):Fn prog 59 [dt x0] (dt r):=by
 refine fq1 0 func59 λ M w0 _ j=>?_
 refine j.z1 λ _ _ j=>?_
 refine j.zc h (λ _ _ j h=>?_) λ _ _ j h=>?_
 ·exact j.ze h
 refine j.z1 (λ _ _ j=>za ?_)
 refine j.jm [] (λ o7=>[(3,dt o7)]) h (λ o7 p7=>?_) λ o7 _ _ j h=>?_
 ·refine wql p7 (λ s8 a w=>Sx (Frm.of w0) 20 M M [] [(0,dt s8.1),(3,dt s8.2)] [] a w) (j.sel0 [0,3]) ?_
  rintro s8 z8 _ _ j hs8 hx8
  have h:xe s8=some z8:=hs8
  unfold xe at h
  refine j.zc h (λ _ _ j h=>?_) λ _ _ j h=>?_
  ·have⟨v13,p13,h⟩:=bs h
   have⟨v14,p14,v15,p15,h⟩:=Kg h
   refine j.z1 (λ _ _ j=>?_) (hs:=sZ 1 (r:=by exact sc Z (xMod Z (tp Z) cI p13)<|sZ 1 (r:=by exact sc Z (xCvB Z kCv3_5 (tp Z))<|sZ 1 (r:=by exact sc Z (xCvS Z kCv162_9 (tp Z))<|segZ))))
   have⟨v20,p20,h⟩:=bs h
   exact j.zn [] h (hs:=sZ 1 (r:=by exact sc Z (xDiv Z (tp Z) cI p20)<|segZ))
  have h:=lo h hx8
  obtain rfl:=Option.some.inj h
  exact fz
 have⟨v25,p25,h⟩:=bs h
 exact j.ze h
instance:Ct1 prog 59 dt dt z7:=⟨λ h=>xL h⟩
def wi(s4:(List Stmt)×Int×Int):Option (((List Stmt)×Int×Int)⊕((List Stmt)×Int)):=
if(cmpI .lss s4.2.2 (s4.1.length:Int))=true then((atI s4.1 s4.2.2).bind λ _v9=>
(i64 (s4.2.1+(1:Int))).bind λ v13=>
(z7 v13).bind λ v16=>
(i64 (v13+(1:Int))).bind λ v20=>
(i64 (v20+(1:Int))).bind λ v25=>
(z7 v25).bind λ v28=>
(i64 (v25+(1:Int))).bind λ v32=>
(i64 (v32+(1:Int))).bind λ v37=>
(i64 (s4.2.2+(1:Int))).bind λ v40=>
some (.inl ((s4.1.set s4.2.2.toNat (⟨s4.2.1,v16,v20,v28,v32⟩:Stmt)),v37,v40)))
else(some (.inr (s4.1,s4.2.1)))
def Z8(x0:List Stmt)(x1:Int):Option ((List Stmt)×Int):=
Option.bind (α:=(List Stmt)×Int) (zH (λ s4=>wi s4) (x0,x1,(0:Int))) λ o2=>
some (o2.1,o2.2)
theorem zcd{r:(List Stmt)×Int}(h:Z8 x0 x1=some r):FnS prog 76 (Ow.row 175 (Ow.frz (α:=Stmt))) x0 [dt x1] r.1 (.frz (dt r.2)):=by
 refine fnSR (fn:=f76) 0 1 func76 Z Z (λ M G w0 g0 A0 c0 _ hA0 j=>wqw ?_)
 refine j.zo [(0,0)] (λ _ _ j=>za ?_)
 have⟨o2,p2,k2⟩:=bs h
 refine wqj (λ a w=>∃ M1 Q,Sx (Frm.chg w0 G) 50 M M1 [Q] [(1,dt o2.2)] [(0,0,dnm (Ow.row 175 (Ow.frz (α:=Stmt))) Q o2.1 (.slice A0 x0.length c0) [])] a w) ?_ ?_
 ·refine j.zo [(0,0)] λ _ _ j=>?_
  refine wql p2 (λ s4 a w=>∃ M1 Q,Sx (Frm.chg w0 G) 50 M M1 [Q] [(1,dt s4.2.1),(5,dt s4.2.2)] [(0,0,dnm (Ow.row 175 (Ow.frz (α:=Stmt))) Q s4.1 (.slice A0 x0.length c0) [])] a w) fx ?_
  rintro s4 z4 _ _ ⟨_,Q,j⟩ hs4 hx4
  have h:wi s4=some z4:=hs4
  unfold wi at h
  refine j.zd [(0,0)] h (λ _ _ j h=>?_) (λ _ _ j h=>?_) (hs:=sc Z (oM Z (tp Z))<|sc Z (oM Z (tp Z))<|sc Z (xLeN Z Z)<|sc Z (oCI Z (tp Z) (tp Z))<|.nil)
  ·refine Ka ?_
   have⟨v9,p9,h⟩:=bs h
   refine j.zh 5 [(0,0)] (λ _ _ j=>?_) (hs:=sc Z (oM Z (tp Z))<|sc Z (oM Z (tp Z))<|sc Z (oM Z (tp Z))<|sc Z (xIaN Z kS119 Z (tp Z) hA0 p9)<|sc Z (xFa Z kF175_0 (tp Z))<|.nil)
   refine j.stF (sb:=0) 0 ((PV.root.row Z hA0 p9).fld Stmt.z0) (tp Z) (tp Z) [1,5] [] (λ _ j=>Kb ?_)
   have⟨v13,p13,h⟩:=bs h
   refine j.zo [(0,0)] (λ _ _ j=>Ka ?_)
   have⟨v16,p16,h⟩:=bs h
   refine j.zh 6 [(0,0)] (λ _ _ j=>?_) (hs:=sc Z (oM Z (tp Z))<|sc Z (oM Z (tp Z))<|sc Z (oM Z (tp Z))<|sc Z (zC (l:=[.tmp 21]) Z (.cons (tp Z) .nil) (xL p16))<|sc Z (xIaN Z kS119 Z (tp Z) hA0 (yf p9))<|sc Z (xFa Z kF175_1 (tp Z))<|.nil)
   refine j.stF (sb:=0) 0 (((PV.root.row Z hA0 (yf p9)).conv (upd':=λ z=>(s4.1.set s4.2.2.toNat z)) (λ _=>by simp only[List.set_set])).fld Stmt.z1) (tp Z) (tp Z) [1,5] [] (λ _ j=>Kb ?_)
   have⟨v20,p20,h⟩:=bs h
   refine j.zo [(0,0)] (λ _ _ j=>Ka ?_)
   refine j.zh 5 [(0,0)] (λ _ _ j=>?_) (hs:=sc Z (oM Z (tp Z))<|sc Z (oM Z (tp Z))<|sc Z (oM Z (tp Z))<|sc Z (xIaN Z kS119 Z (tp Z) hA0 (yf p9))<|sc Z (xFa Z kF175_2 (tp Z))<|.nil)
   refine j.stF (sb:=0) 0 (((PV.root.row Z hA0 (yf p9)).conv (upd':=λ z=>(s4.1.set s4.2.2.toNat z)) (λ _=>by simp only[List.set_set])).fld Stmt.z2) (tp Z) (tp Z) [1,5] [] (λ _ j=>Kb ?_)
   have⟨v25,p25,h⟩:=bs h
   refine j.zo [(0,0)] (λ _ _ j=>Ka ?_)
   have⟨v28,p28,h⟩:=bs h
   refine j.zh 6 [(0,0)] (λ _ _ j=>?_) (hs:=sc Z (oM Z (tp Z))<|sc Z (oM Z (tp Z))<|sc Z (oM Z (tp Z))<|sc Z (zC (l:=[.tmp 36]) Z (.cons (tp Z) .nil) (xL p28))<|sc Z (xIaN Z kS119 Z (tp Z) hA0 (yf p9))<|sc Z (xFa Z kF175_3 (tp Z))<|.nil)
   refine j.stF (sb:=0) 0 (((PV.root.row Z hA0 (yf p9)).conv (upd':=λ z=>(s4.1.set s4.2.2.toNat z)) (λ _=>by simp only[List.set_set])).fld Stmt.z3) (tp Z) (tp Z) [1,5] [] (λ _ j=>Kb ?_)
   have⟨v32,p32,h⟩:=bs h
   refine j.zo [(0,0)] (λ _ _ j=>Ka ?_)
   refine j.zh 5 [(0,0)] (λ _ _ j=>?_) (hs:=sc Z (oM Z (tp Z))<|sc Z (oM Z (tp Z))<|sc Z (oM Z (tp Z))<|sc Z (xIaN Z kS119 Z (tp Z) hA0 (yf p9))<|sc Z (xFa Z kF175_4 (tp Z))<|.nil)
   refine j.stF (sb:=0) 0 (((PV.root.row Z hA0 (yf p9)).conv (upd':=λ z=>(s4.1.set s4.2.2.toNat z)) (λ _=>by simp only[List.set_set])).fld Stmt.z4) (tp Z) (tp Z) [1,5] [] (λ _ j=>Kb ?_)
   have⟨v37,p37,h⟩:=bs h
   refine j.zo [(0,0)] λ _ _ j=>?_
   have⟨v40,p40,h⟩:=bs h
   exact j.zn [(0,0)] h
  have h:=lo h hx4
  cases h
  exact fz
 rintro _ _ ⟨_,Q,j⟩
 have h:=k2
 refine j.zo [(0,0)] λ _ _ j=>?_
 exact j.rsF (s:=0) 0 h xa
def wj(s4:(List File)×Int×Int):Option (((List File)×Int×Int)⊕((List File)×Int)):=
if(cmpI .lss s4.2.2 (s4.1.length:Int))=true then((atI s4.1 s4.2.2).bind λ v9=>
(i64 (s4.2.1+(1:Int))).bind λ v13=>
(z7 v13).bind λ v16=>
(i64 (v13+(1:Int))).bind λ v20=>
(z7 v20).bind λ v23=>
(i64 (v20+(1:Int))).bind λ v27=>
(modO v27 (3:Int)).bind λ v30=>
(i64 (v27+(1:Int))).bind λ v34=>
(i64 (v34+(1:Int))).bind λ v39=>
(Z8 v9.body v39).bind λ v45=>
(i64 (s4.2.2+(1:Int))).bind λ v48=>
some (.inl ((s4.1.set s4.2.2.toNat (⟨s4.2.1,v16,v23,cmpI .eql v30 0,v34,v45.1⟩:File)),v45.2,v48)))
else(some (.inr (s4.1,s4.2.1)))
def Z9(x0:List File)(x1:Int):Option ((List File)×Int):=
Option.bind (α:=(List File)×Int) (zH (λ s4=>wj s4) (x0,x1,(0:Int))) λ o2=>
some (o2.1,o2.2)
theorem zce{x0:List File}{r:(List File)×Int}(h:Z9 x0 x1=some r):FnS prog 58 (Ow.row 121 (owFile (Ow.row 175 (Ow.frz (α:=Stmt))))) x0 [dt x1] r.1 (.frz (dt r.2)):=by
 refine fnSR (fn:=f58) 0 1 func58 Z Z (λ M G w0 g0 A0 c0 _ hA0 j=>wqw ?_)
 refine j.zo [(0,0)] (λ _ _ j=>za ?_)
 have⟨o2,p2,k2⟩:=bs h
 refine wqj (λ a w=>∃ M1 Q,Sx (Frm.chg w0 G) 59 M M1 [Q] [(1,dt o2.2)] [(0,0,dnm (Ow.row 121 (owFile (Ow.row 175 (Ow.frz (α:=Stmt))))) Q o2.1 (.slice A0 x0.length c0) [])] a w) ?_ ?_
 ·refine j.zo [(0,0)] λ _ _ j=>?_
  refine wql p2 (λ s4 a w=>∃ M1 Q,Sx (Frm.chg w0 G) 59 M M1 [Q] [(1,dt s4.2.1),(5,dt s4.2.2)] [(0,0,dnm (Ow.row 121 (owFile (Ow.row 175 (Ow.frz (α:=Stmt))))) Q s4.1 (.slice A0 x0.length c0) [])] a w) fx ?_
  rintro s4 z4 _ _ ⟨_,Q,j⟩ hs4 hx4
  have h:wj s4=some z4:=hs4
  unfold wj at h
  refine j.zd [(0,0)] h (λ _ _ j h=>?_) (λ _ _ j h=>?_) (hs:=sc Z (oM Z (tp Z))<|sc Z (oM Z (tp Z))<|sc Z (xLeN Z Z)<|sc Z (oCI Z (tp Z) (tp Z))<|.nil)
  ·refine Ka ?_
   have⟨v9,p9,h⟩:=bs h
   refine j.zh 5 [(0,0)] (λ _ _ j=>?_) (hs:=sc Z (oM Z (tp Z))<|sc Z (oM Z (tp Z))<|sc Z (oM Z (tp Z))<|sc Z (xIaN Z kS34 Z (tp Z) hA0 p9)<|sc Z (xFa Z kF121_0 (tp Z))<|.nil)
   refine j.stF (sb:=0) 0 ((PV.root.row Z hA0 p9).fld owFile.f0) (tp Z) (tp Z) [1,5] [] (λ _ j=>Kb ?_)
   have⟨v13,p13,h⟩:=bs h
   refine j.zo [(0,0)] (λ _ _ j=>Ka ?_)
   have⟨v16,p16,h⟩:=bs h
   refine j.zh 6 [(0,0)] (λ _ _ j=>?_) (hs:=sc Z (oM Z (tp Z))<|sc Z (oM Z (tp Z))<|sc Z (oM Z (tp Z))<|sc Z (zC (l:=[.tmp 21]) Z (.cons (tp Z) .nil) (xL p16))<|sc Z (xIaN Z kS34 Z (tp Z) hA0 (yf p9))<|sc Z (xFa Z kF121_1 (tp Z))<|.nil)
   refine j.stF (sb:=0) 0 (((PV.root.row Z hA0 (yf p9)).conv (upd':=λ z=>(s4.1.set s4.2.2.toNat z)) (λ _=>by simp only[List.set_set])).fld owFile.f1) (tp Z) (tp Z) [1,5] [] (λ _ j=>Kb ?_)
   have⟨v20,p20,h⟩:=bs h
   refine j.zo [(0,0)] (λ _ _ j=>Ka ?_)
   have⟨v23,p23,h⟩:=bs h
   refine j.zh 6 [(0,0)] (λ _ _ j=>?_) (hs:=sc Z (oM Z (tp Z))<|sc Z (oM Z (tp Z))<|sc Z (oM Z (tp Z))<|sc Z (zC (l:=[.tmp 29]) Z (.cons (tp Z) .nil) (xL p23))<|sc Z (xIaN Z kS34 Z (tp Z) hA0 (yf p9))<|sc Z (xFa Z kF121_2 (tp Z))<|.nil)
   refine j.stF (sb:=0) 0 (((PV.root.row Z hA0 (yf p9)).conv (upd':=λ z=>(s4.1.set s4.2.2.toNat z)) (λ _=>by simp only[List.set_set])).fld owFile.f2) (tp Z) (tp Z) [1,5] [] (λ _ j=>Kb ?_)
   have⟨v27,p27,h⟩:=bs h
   refine j.zo [(0,0)] (λ _ _ j=>Ka ?_)
   have⟨v30,p30,h⟩:=bs h
   refine j.zh 7 [(0,0)] (λ _ _ j=>?_) (hs:=sc Z (oM Z (tp Z))<|sc Z (oM Z (tp Z))<|sc Z (oM Z (tp Z))<|sc Z (xMod Z (tp Z) cI p30)<|sc Z (oCI Z (tp Z) cI)<|sc Z (xIaN Z kS34 Z (tp Z) hA0 (yf p9))<|sc Z (xFa Z kF121_3 (tp Z))<|.nil)
   refine j.stF (sb:=0) 0 (((PV.root.row Z hA0 (yf p9)).conv (upd':=λ z=>(s4.1.set s4.2.2.toNat z)) (λ _=>by simp only[List.set_set])).fld owFile.f3) (tp Z) (tp Z) [1,5] [] (λ _ j=>Kb ?_)
   have⟨v34,p34,h⟩:=bs h
   refine j.zo [(0,0)] (λ _ _ j=>Ka ?_)
   refine j.zh 5 [(0,0)] (λ _ _ j=>?_) (hs:=sc Z (oM Z (tp Z))<|sc Z (oM Z (tp Z))<|sc Z (oM Z (tp Z))<|sc Z (xIaN Z kS34 Z (tp Z) hA0 (yf p9))<|sc Z (xFa Z kF121_4 (tp Z))<|.nil)
   refine j.stF (sb:=0) 0 (((PV.root.row Z hA0 (yf p9)).conv (upd':=λ z=>(s4.1.set s4.2.2.toNat z)) (λ _=>by simp only[List.set_set])).fld owFile.f4) (tp Z) (tp Z) [1,5] [] (λ _ j=>Kb ?_)
   have⟨v39,p39,h⟩:=bs h
   refine j.zo [(0,0)] (λ _ _ j=>Ka ?_)
   refine j.hdA 0 0 (((PV.root.row Z hA0 (yf p9)).conv (upd':=λ z=>(s4.1.set s4.2.2.toNat z)) (λ _=>by simp only[List.set_set])).fld owFile.f5) [] λ g42 A42 _ hA42 j=>?_
   refine j.zh 6 [(0,0)] (λ _ _ j=>?_) (hs:=sc Z (oM Z (tp Z))<|sc Z (oM Z (tp Z))<|sc Z (xIaN Z kS34 Z (tp Z) hA0 (yf p9))<|sc Z (xFa Z kF121_5 (tp Z))<|sc Z (xLc (sb:=0) (.head _) Z Z Z (tp Z) Z)<|sc Z (oM Z (tp Z))<|.nil)
   have⟨v45,p45,h⟩:=bs h
   refine j.cSF (l:=[.tmp 56]) 0 (j.bkH (sb:=0) (((PV.root.row Z hA0 (yf p9)).conv (upd':=λ z=>(s4.1.set s4.2.2.toNat z)) (λ _=>by simp only[List.set_set])).fld owFile.f5) (.head _) Z (yJ Z Z) Z iI) Z Z kN76 (j.st.has 55 _ Z) (by simp) (.cons (tp Z) .nil) (zcd p45) [1,5] Z [] Z Z (by decide) λ _ _ _ _ j=>?_
   refine j.zh 1 [(0,0)] (λ _ _ j=>Kb ?_)
   have⟨v48,p48,h⟩:=bs h
   exact j.zn [(0,0)] h
  have h:=lo h hx4
  cases h
  exact fz
 rintro _ _ ⟨_,Q,j⟩
 have h:=k2
 refine j.zo [(0,0)] λ _ _ j=>?_
 exact j.rsF (s:=0) 0 h xa
def YA(x0:Tree)(x1:Int):Option (Tree×Int):=
(Z9 x0.files x1).bind λ v4=>
some ((⟨v4.1⟩:Tree),v4.2)
theorem zcQ{x0:Tree}{r:Tree×Int}(h:YA x0 x1=some r):FnS prog 18 (owTree (Ow.row 121 (owFile (Ow.row 175 (Ow.frz (α:=Stmt)))))) x0 [dt x1] r.1 (.frz (dt r.2)):=by
 refine fnSV (fn:=f18) 0 1 func18 Z Z (λ M G _ u0 _ j=>wqw ?_)
 refine j.zo [(0,0)] (λ _ _ j=>?_) (hs:=sc Z (xBoxN Z Z)<|segZ)
 refine Ka ?_
 refine j.zh 3 [(0,0)] (λ _ _ j=>?_) (hs:=sc Z (xFldC Z (tp Z))<|sc Z (xLdC (sb:=0) (PV.root.fld owTree.f0) Z Z (tp Z) Z)<|segZ)
 have⟨v4,p4,h⟩:=bs h
 refine j.cSF (l:=[.tmp 7]) 0 (j.bkV (sb:=0) (PV.root.fld owTree.f0) Z Z iI) Z Z kN58 (j.st.has 6 _ Z) (by simp) (.cons (tp Z) .nil) (zce p4) [1] Z [] Z Z (by decide) λ _ _ _ _ j=>?_
 refine j.zh 1 [(0,0)] (λ _ _ j=>Kb ?_)
 refine j.zo [(0,0)] λ _ _ j=>?_
 exact j.rsF (s:=0) 0 h xa
def wC(s4:(List Int)×Int×Int):Option (((List Int)×Int×Int)⊕((List Int)×Int)):=
if(cmpI .lss s4.2.2 (s4.1.length:Int))=true then((atI s4.1 s4.2.2).bind λ _v9=>
(i64 (s4.2.1+(1:Int))).bind λ v13=>
(i64 (s4.2.2+(1:Int))).bind λ v16=>
some (.inl ((s4.1.set s4.2.2.toNat s4.2.1),v13,v16)))
else(some (.inr (s4.1,s4.2.1)))
def jc(x0:List Int)(x1:Int):Option ((List Int)×Int):=
Option.bind (α:=(List Int)×Int) (zH (λ s4=>wC s4) (x0,x1,(0:Int))) λ o2=>
some (o2.1,o2.2)
theorem YB{x0:List Int}{r:(List Int)×Int}(h:jc x0 x1=some r):FnS prog 19 (Ow.row 3 (Ow.frz (α:=Int))) x0 [dt x1] r.1 (.frz (dt r.2)):=by
 refine fnSR (fn:=f19) 0 1 func19 Z Z (λ M G w0 g0 A0 c0 _ hA0 j=>wqw ?_)
 refine j.zo [(0,0)] (λ _ _ j=>za ?_)
 have⟨o2,p2,k2⟩:=bs h
 refine wqj (λ a w=>∃ M1 Q,Sx (Frm.chg w0 G) 19 M M1 [Q] [(1,dt o2.2)] [(0,0,dnm (Ow.row 3 (Ow.frz (α:=Int))) Q o2.1 (.slice A0 x0.length c0) [])] a w) ?_ ?_
 ·refine j.zo [(0,0)] λ _ _ j=>?_
  refine wql p2 (λ s4 a w=>∃ M1 Q,Sx (Frm.chg w0 G) 19 M M1 [Q] [(1,dt s4.2.1),(5,dt s4.2.2)] [(0,0,dnm (Ow.row 3 (Ow.frz (α:=Int))) Q s4.1 (.slice A0 x0.length c0) [])] a w) fx ?_
  rintro s4 z4 _ _ ⟨_,Q,j⟩ hs4 hx4
  have h:wC s4=some z4:=hs4
  unfold wC at h
  refine j.zd [(0,0)] h (λ _ _ j h=>?_) (λ _ _ j h=>?_) (hs:=sc Z (oM Z (tp Z))<|sc Z (oM Z (tp Z))<|sc Z (xLeN Z Z)<|sc Z (oCI Z (tp Z) (tp Z))<|.nil)
  ·refine Ka ?_
   have⟨v9,p9,h⟩:=bs h
   refine j.zh 4 [(0,0)] (λ _ _ j=>?_) (hs:=sc Z (oM Z (tp Z))<|sc Z (oM Z (tp Z))<|sc Z (oM Z (tp Z))<|sc Z (xIaN Z kS25 Z (tp Z) hA0 p9)<|.nil)
   refine j.stF (sb:=0) 0 (PV.root.row Z hA0 p9) (tp Z) (tp Z) [1,5] [] (λ _ j=>Kb ?_)
   have⟨v13,p13,h⟩:=bs h
   refine j.zo [(0,0)] λ _ _ j=>?_
   have⟨v16,p16,h⟩:=bs h
   exact j.zn [(0,0)] h
  have h:=lo h hx4
  cases h
  exact fz
 rintro _ _ ⟨_,Q,j⟩
 have h:=k2
 refine j.zo [(0,0)] λ _ _ j=>?_
 exact j.rsF (s:=0) 0 h xa
def xl(s4:(List GCmd)×Int×Int):Option (((List GCmd)×Int×Int)⊕((List GCmd)×Int)):=
if(cmpI .lss s4.2.2 (s4.1.length:Int))=true then((atI s4.1 s4.2.2).bind λ _v9=>
(i64 (s4.2.1+(1:Int))).bind λ v13=>
(z7 v13).bind λ v16=>
(i64 (v13+(1:Int))).bind λ v20=>
(i64 (s4.2.2+(1:Int))).bind λ v23=>
some (.inl ((s4.1.set s4.2.2.toNat (⟨s4.2.1,v16⟩:GCmd)),v20,v23)))
else(some (.inr (s4.1,s4.2.1)))
def qv(x0:List GCmd)(x1:Int):Option ((List GCmd)×Int):=
Option.bind (α:=(List GCmd)×Int) (zH (λ s4=>xl s4) (x0,x1,(0:Int))) λ o2=>
some (o2.1,o2.2)
theorem zah{x0:List GCmd}{r:(List GCmd)×Int}(h:qv x0 x1=some r):FnS prog 20 (Ow.row 78 (Ow.frz (α:=GCmd))) x0 [dt x1] r.1 (.frz (dt r.2)):=by
 refine fnSR (fn:=f20) 0 1 func20 Z Z (λ M G w0 g0 A0 c0 _ hA0 j=>wqw ?_)
 refine j.zo [(0,0)] (λ _ _ j=>za ?_)
 have⟨o2,p2,k2⟩:=bs h
 refine wqj (λ a w=>∃ M1 Q,Sx (Frm.chg w0 G) 28 M M1 [Q] [(1,dt o2.2)] [(0,0,dnm (Ow.row 78 (Ow.frz (α:=GCmd))) Q o2.1 (.slice A0 x0.length c0) [])] a w) ?_ ?_
 ·refine j.zo [(0,0)] λ _ _ j=>?_
  refine wql p2 (λ s4 a w=>∃ M1 Q,Sx (Frm.chg w0 G) 28 M M1 [Q] [(1,dt s4.2.1),(5,dt s4.2.2)] [(0,0,dnm (Ow.row 78 (Ow.frz (α:=GCmd))) Q s4.1 (.slice A0 x0.length c0) [])] a w) fx ?_
  rintro s4 z4 _ _ ⟨_,Q,j⟩ hs4 hx4
  have h:xl s4=some z4:=hs4
  unfold xl at h
  refine j.zd [(0,0)] h (λ _ _ j h=>?_) (λ _ _ j h=>?_) (hs:=sc Z (oM Z (tp Z))<|sc Z (oM Z (tp Z))<|sc Z (xLeN Z Z)<|sc Z (oCI Z (tp Z) (tp Z))<|.nil)
  ·refine Ka ?_
   have⟨v9,p9,h⟩:=bs h
   refine j.zh 5 [(0,0)] (λ _ _ j=>?_) (hs:=sc Z (oM Z (tp Z))<|sc Z (oM Z (tp Z))<|sc Z (oM Z (tp Z))<|sc Z (xIaN Z kS39 Z (tp Z) hA0 p9)<|sc Z (xFa Z kF78_0 (tp Z))<|.nil)
   refine j.stF (sb:=0) 0 ((PV.root.row Z hA0 p9).fld GCmd.z0) (tp Z) (tp Z) [1,5] [] (λ _ j=>Kb ?_)
   have⟨v13,p13,h⟩:=bs h
   refine j.zo [(0,0)] (λ _ _ j=>Ka ?_)
   have⟨v16,p16,h⟩:=bs h
   refine j.zh 6 [(0,0)] (λ _ _ j=>?_) (hs:=sc Z (oM Z (tp Z))<|sc Z (oM Z (tp Z))<|sc Z (oM Z (tp Z))<|sc Z (zC (l:=[.tmp 21]) Z (.cons (tp Z) .nil) (xL p16))<|sc Z (xIaN Z kS39 Z (tp Z) hA0 (yf p9))<|sc Z (xFa Z kF78_1 (tp Z))<|.nil)
   refine j.stF (sb:=0) 0 (((PV.root.row Z hA0 (yf p9)).conv (upd':=λ z=>(s4.1.set s4.2.2.toNat z)) (λ _=>by simp only[List.set_set])).fld GCmd.z1) (tp Z) (tp Z) [1,5] [] (λ _ j=>Kb ?_)
   have⟨v20,p20,h⟩:=bs h
   refine j.zo [(0,0)] λ _ _ j=>?_
   have⟨v23,p23,h⟩:=bs h
   exact j.zn [(0,0)] h
  have h:=lo h hx4
  cases h
  exact fz
 rintro _ _ ⟨_,Q,j⟩
 have h:=k2
 refine j.zo [(0,0)] λ _ _ j=>?_
 exact j.rsF (s:=0) 0 h xa
def xV(s4:(List GEvent)×Int×Int):Option (((List GEvent)×Int×Int)⊕((List GEvent)×Int)):=
if(cmpI .lss s4.2.2 (s4.1.length:Int))=true then((atI s4.1 s4.2.2).bind λ _v9=>
(i64 (s4.2.1+(1:Int))).bind λ v13=>
(z7 v13).bind λ v16=>
(i64 (v13+(1:Int))).bind λ v20=>
(i64 (s4.2.2+(1:Int))).bind λ v23=>
some (.inl ((s4.1.set s4.2.2.toNat (⟨s4.2.1,v16⟩:GEvent)),v20,v23)))
else(some (.inr (s4.1,s4.2.1)))
def Zz(x0:List GEvent)(x1:Int):Option ((List GEvent)×Int):=
Option.bind (α:=(List GEvent)×Int) (zH (λ s4=>xV s4) (x0,x1,(0:Int))) λ o2=>
some (o2.1,o2.2)
theorem zbD{x0:List GEvent}{r:(List GEvent)×Int}(h:Zz x0 x1=some r):FnS prog 60 (Ow.row 160 (Ow.frz (α:=GEvent))) x0 [dt x1] r.1 (.frz (dt r.2)):=by
 refine fnSR (fn:=f60) 0 1 func60 Z Z (λ M G w0 g0 A0 c0 _ hA0 j=>wqw ?_)
 refine j.zo [(0,0)] (λ _ _ j=>za ?_)
 have⟨o2,p2,k2⟩:=bs h
 refine wqj (λ a w=>∃ M1 Q,Sx (Frm.chg w0 G) 28 M M1 [Q] [(1,dt o2.2)] [(0,0,dnm (Ow.row 160 (Ow.frz (α:=GEvent))) Q o2.1 (.slice A0 x0.length c0) [])] a w) ?_ ?_
 ·refine j.zo [(0,0)] λ _ _ j=>?_
  refine wql p2 (λ s4 a w=>∃ M1 Q,Sx (Frm.chg w0 G) 28 M M1 [Q] [(1,dt s4.2.1),(5,dt s4.2.2)] [(0,0,dnm (Ow.row 160 (Ow.frz (α:=GEvent))) Q s4.1 (.slice A0 x0.length c0) [])] a w) fx ?_
  rintro s4 z4 _ _ ⟨_,Q,j⟩ hs4 hx4
  have h:xV s4=some z4:=hs4
  unfold xV at h
  refine j.zd [(0,0)] h (λ _ _ j h=>?_) (λ _ _ j h=>?_) (hs:=sc Z (oM Z (tp Z))<|sc Z (oM Z (tp Z))<|sc Z (xLeN Z Z)<|sc Z (oCI Z (tp Z) (tp Z))<|.nil)
  ·refine Ka ?_
   have⟨v9,p9,h⟩:=bs h
   refine j.zh 5 [(0,0)] (λ _ _ j=>?_) (hs:=sc Z (oM Z (tp Z))<|sc Z (oM Z (tp Z))<|sc Z (oM Z (tp Z))<|sc Z (xIaN Z kS29 Z (tp Z) hA0 p9)<|sc Z (xFa Z kF160_0 (tp Z))<|.nil)
   refine j.stF (sb:=0) 0 ((PV.root.row Z hA0 p9).fld GEvent.z0) (tp Z) (tp Z) [1,5] [] (λ _ j=>Kb ?_)
   have⟨v13,p13,h⟩:=bs h
   refine j.zo [(0,0)] (λ _ _ j=>Ka ?_)
   have⟨v16,p16,h⟩:=bs h
   refine j.zh 6 [(0,0)] (λ _ _ j=>?_) (hs:=sc Z (oM Z (tp Z))<|sc Z (oM Z (tp Z))<|sc Z (oM Z (tp Z))<|sc Z (zC (l:=[.tmp 21]) Z (.cons (tp Z) .nil) (xL p16))<|sc Z (xIaN Z kS29 Z (tp Z) hA0 (yf p9))<|sc Z (xFa Z kF160_1 (tp Z))<|.nil)
   refine j.stF (sb:=0) 0 (((PV.root.row Z hA0 (yf p9)).conv (upd':=λ z=>(s4.1.set s4.2.2.toNat z)) (λ _=>by simp only[List.set_set])).fld GEvent.z1) (tp Z) (tp Z) [1,5] [] (λ _ j=>Kb ?_)
   have⟨v20,p20,h⟩:=bs h
   refine j.zo [(0,0)] λ _ _ j=>?_
   have⟨v23,p23,h⟩:=bs h
   exact j.zn [(0,0)] h
  have h:=lo h hx4
  cases h
  exact fz
 rintro _ _ ⟨_,Q,j⟩
 have h:=k2
 refine j.zo [(0,0)] λ _ _ j=>?_
 exact j.rsF (s:=0) 0 h xa
def wk(s4:(List GAttr)×Int×Int):Option (((List GAttr)×Int×Int)⊕((List GAttr)×Int)):=
if(cmpI .lss s4.2.2 (s4.1.length:Int))=true then((z7 s4.2.1).bind λ v9=>
(atI s4.1 s4.2.2).bind λ v10=>
(i64 (s4.2.1+(1:Int))).bind λ v15=>
(i64 (v15+(1:Int))).bind λ v20=>
(i64 (v20+(1:Int))).bind λ v25=>
(i64 (s4.2.2+(1:Int))).bind λ v28=>
some (.inl ((s4.1.set s4.2.2.toNat (⟨v9,{ ({ v10.value with kind:=v15 }) with num:=v20 }⟩:GAttr)),v25,v28)))
else(some (.inr (s4.1,s4.2.1)))
def Ya(x0:List GAttr)(x1:Int):Option ((List GAttr)×Int):=
Option.bind (α:=(List GAttr)×Int) (zH (λ s4=>wk s4) (x0,x1,(0:Int))) λ o2=>
some (o2.1,o2.2)
theorem zcf{x0:List GAttr}{r:(List GAttr)×Int}(h:Ya x0 x1=some r):FnS prog 101 oAtt x0 [dt x1] r.1 (.frz (dt r.2)):=by
 refine fnSR (fn:=f101) 0 1 func101 Z Z (λ M G w0 g0 A0 c0 _ hA0 j=>wqw ?_)
 refine j.zo [(0,0)] (λ _ _ j=>za ?_)
 have⟨o2,p2,k2⟩:=bs h
 refine wqj (λ a w=>∃ M1 Q,Sx (Frm.chg w0 G) 37 M M1 [Q] [(1,dt o2.2)] [(0,0,dnm oAtt Q o2.1 (.slice A0 x0.length c0) [])] a w) ?_ ?_
 ·refine j.zo [(0,0)] λ _ _ j=>?_
  refine wql p2 (λ s4 a w=>∃ M1 Q,Sx (Frm.chg w0 G) 37 M M1 [Q] [(1,dt s4.2.1),(5,dt s4.2.2)] [(0,0,dnm oAtt Q s4.1 (.slice A0 x0.length c0) [])] a w) fx ?_
  rintro s4 z4 _ _ ⟨_,Q,j⟩ hs4 hx4
  have h:wk s4=some z4:=hs4
  unfold wk at h
  refine j.zd [(0,0)] h (λ _ _ j h=>?_) (λ _ _ j h=>?_) (hs:=sc Z (oM Z (tp Z))<|sc Z (oM Z (tp Z))<|sc Z (xLeN Z Z)<|sc Z (oCI Z (tp Z) (tp Z))<|.nil)
  ·refine Ka ?_
   have⟨v9,p9,v10,p10,h⟩:=Kg h
   refine j.zh 6 [(0,0)] (λ _ _ j=>?_) (hs:=sc Z (oM Z (tp Z))<|sc Z (oM Z (tp Z))<|sc Z (oM Z (tp Z))<|sc Z (zC (l:=[.tmp 14]) Z (.cons (tp Z) .nil) (xL p9))<|sc Z (xIaN Z Xh Z (tp Z) hA0 p10)<|sc Z (xFa Z kF216_0 (tp Z))<|.nil)
   refine j.stF (sb:=0) 0 ((PV.root.row Z hA0 p10).fld GAttr.z0) (tp Z) (tp Z) [1,5] [] (λ _ j=>Kb ?_)
   have⟨v15,p15,h⟩:=bs h
   refine j.zo [(0,0)] (λ _ _ j=>Ka ?_)
   refine j.zh 6 [(0,0)] (λ _ _ j=>?_) (hs:=sc Z (oM Z (tp Z))<|sc Z (oM Z (tp Z))<|sc Z (oM Z (tp Z))<|sc Z (xIaN Z Xh Z (tp Z) hA0 (yf p10))<|sc Z (xFa Z JR (tp Z))<|sc Z (xFa Z kF201_0 (tp Z))<|.nil)
   refine j.stF (sb:=0) 0 ((((PV.root.row Z hA0 (yf p10)).conv (upd':=λ z=>(s4.1.set s4.2.2.toNat z)) (λ _=>by simp only[List.set_set])).fld GAttr.z1).fld GVal.z0) (tp Z) (tp Z) [1,5] [] (λ _ j=>Kb ?_)
   have⟨v20,p20,h⟩:=bs h
   refine j.zo [(0,0)] (λ _ _ j=>Ka ?_)
   refine j.zh 6 [(0,0)] (λ _ _ j=>?_) (hs:=sc Z (oM Z (tp Z))<|sc Z (oM Z (tp Z))<|sc Z (oM Z (tp Z))<|sc Z (xIaN Z Xh Z (tp Z) hA0 (yf p10))<|sc Z (xFa Z JR (tp Z))<|sc Z (xFa Z kF201_1 (tp Z))<|.nil)
   refine j.stF (sb:=0) 0 ((((PV.root.row Z hA0 (yf p10)).conv (upd':=λ z=>(s4.1.set s4.2.2.toNat z)) (λ _=>by simp only[List.set_set])).fld GAttr.z1).fld GVal.z1) (tp Z) (tp Z) [1,5] [] (λ _ j=>Kb ?_)
   have⟨v25,p25,h⟩:=bs h
   refine j.zo [(0,0)] λ _ _ j=>?_
   have⟨v28,p28,h⟩:=bs h
   exact j.zn [(0,0)] h
  have h:=lo h hx4
  cases h
  exact fz
 rintro _ _ ⟨_,Q,j⟩
 have h:=k2
 refine j.zo [(0,0)] λ _ _ j=>?_
 exact j.rsF (s:=0) 0 h xa
def xB(s4:(List GMod)×Int×Int):Option (((List GMod)×Int×Int)⊕((List GMod)×Int)):=
if(cmpI .lss s4.2.2 (s4.1.length:Int))=true then((z7 s4.2.1).bind λ v9=>
(atI s4.1 s4.2.2).bind λ v10=>
(i64 (s4.2.1+(1:Int))).bind λ v15=>
(i64 (v15+(1:Int))).bind λ v20=>
(jc v10.roots v20).bind λ v26=>
(modO v26.2 (3:Int)).bind λ v29=>
(i64 (v26.2+(1:Int))).bind λ v33=>
(modO v33 (3:Int)).bind λ v36=>
(i64 (v33+(1:Int))).bind λ v40=>
(Ya v10.attrs v40).bind λ v46=>
(i64 (s4.2.2+(1:Int))).bind λ v49=>
some (.inl ((s4.1.set s4.2.2.toNat (⟨v9,v15,v26.1,cmpI .eql v29 0,cmpI .eql v36 0,v46.1⟩:GMod)),v46.2,v49)))
else(some (.inr (s4.1,s4.2.1)))
def qZ(x0:List GMod)(x1:Int):Option ((List GMod)×Int):=
Option.bind (α:=(List GMod)×Int) (zH (λ s4=>xB s4) (x0,x1,(0:Int))) λ o2=>
some (o2.1,o2.2)
theorem zaY{x0:List GMod}{r:(List GMod)×Int}(h:qZ x0 x1=some r):FnS prog 61 (Ow.row 139 (owGMod (Ow.row 3 (Ow.frz (α:=Int))) oAtt)) x0 [dt x1] r.1 (.frz (dt r.2)):=by
 refine fnSR (fn:=f61) 0 1 func61 Z Z (λ M G w0 g0 A0 c0 _ hA0 j=>wqw ?_)
 refine j.zo [(0,0)] (λ _ _ j=>za ?_)
 have⟨o2,p2,k2⟩:=bs h
 refine wqj (λ a w=>∃ M1 Q,Sx (Frm.chg w0 G) 60 M M1 [Q] [(1,dt o2.2)] [(0,0,dnm (Ow.row 139 (owGMod (Ow.row 3 (Ow.frz (α:=Int))) oAtt)) Q o2.1 (.slice A0 x0.length c0) [])] a w) ?_ ?_
 ·refine j.zo [(0,0)] λ _ _ j=>?_
  refine wql p2 (λ s4 a w=>∃ M1 Q,Sx (Frm.chg w0 G) 60 M M1 [Q] [(1,dt s4.2.1),(5,dt s4.2.2)] [(0,0,dnm (Ow.row 139 (owGMod (Ow.row 3 (Ow.frz (α:=Int))) oAtt)) Q s4.1 (.slice A0 x0.length c0) [])] a w) fx ?_
  rintro s4 z4 _ _ ⟨_,Q,j⟩ hs4 hx4
  have h:xB s4=some z4:=hs4
  unfold xB at h
  refine j.zd [(0,0)] h (λ _ _ j h=>?_) (λ _ _ j h=>?_) (hs:=sc Z (oM Z (tp Z))<|sc Z (oM Z (tp Z))<|sc Z (xLeN Z Z)<|sc Z (oCI Z (tp Z) (tp Z))<|.nil)
  ·refine Ka ?_
   have⟨v9,p9,v10,p10,h⟩:=Kg h
   refine j.zh 6 [(0,0)] (λ _ _ j=>?_) (hs:=sc Z (oM Z (tp Z))<|sc Z (oM Z (tp Z))<|sc Z (oM Z (tp Z))<|sc Z (zC (l:=[.tmp 14]) Z (.cons (tp Z) .nil) (xL p9))<|sc Z (xIaN Z kS30 Z (tp Z) hA0 p10)<|sc Z (xFa Z JP (tp Z))<|.nil)
   refine j.stF (sb:=0) 0 ((PV.root.row Z hA0 p10).fld owGMod.f0) (tp Z) (tp Z) [1,5] [] (λ _ j=>Kb ?_)
   have⟨v15,p15,h⟩:=bs h
   refine j.zo [(0,0)] (λ _ _ j=>Ka ?_)
   refine j.zh 5 [(0,0)] (λ _ _ j=>?_) (hs:=sc Z (oM Z (tp Z))<|sc Z (oM Z (tp Z))<|sc Z (oM Z (tp Z))<|sc Z (xIaN Z kS30 Z (tp Z) hA0 (yf p10))<|sc Z (xFa Z JQ (tp Z))<|.nil)
   refine j.stF (sb:=0) 0 (((PV.root.row Z hA0 (yf p10)).conv (upd':=λ z=>(s4.1.set s4.2.2.toNat z)) (λ _=>by simp only[List.set_set])).fld owGMod.f1) (tp Z) (tp Z) [1,5] [] (λ _ j=>Kb ?_)
   have⟨v20,p20,h⟩:=bs h
   refine j.zo [(0,0)] (λ _ _ j=>Ka ?_)
   refine j.hdA 0 0 (((PV.root.row Z hA0 (yf p10)).conv (upd':=λ z=>(s4.1.set s4.2.2.toNat z)) (λ _=>by simp only[List.set_set])).fld owGMod.f2) [] λ g23 A23 _ hA23 j=>?_
   refine j.zh 6 [(0,0)] (λ _ _ j=>?_) (hs:=sc Z (oM Z (tp Z))<|sc Z (oM Z (tp Z))<|sc Z (xIaN Z kS30 Z (tp Z) hA0 (yf p10))<|sc Z (xFa Z Q1 (tp Z))<|sc Z (xLc (sb:=0) (.head _) Z Z Z (tp Z) Z)<|sc Z (oM Z (tp Z))<|.nil)
   have⟨v26,p26,h⟩:=bs h
   refine j.cSF (l:=[.tmp 32]) 0 (j.bkH (sb:=0) (((PV.root.row Z hA0 (yf p10)).conv (upd':=λ z=>(s4.1.set s4.2.2.toNat z)) (λ _=>by simp only[List.set_set])).fld owGMod.f2) (.head _) Z (yJ Z Z) Z iI) Z Z kN19 (j.st.has 31 _ Z) (by simp) (.cons (tp Z) .nil) (YB p26) [1,5] Z [] Z Z (by decide) λ _ _ _ _ j=>?_
   refine j.zh 1 [(0,0)] (λ _ _ j=>Kb (Ka ?_))
   have⟨v29,p29,h⟩:=bs h
   refine j.zh 7 [(0,0)] (λ _ _ j=>?_) (hs:=sc Z (oM Z (tp Z))<|sc Z (oM Z (tp Z))<|sc Z (oM Z (tp Z))<|sc Z (xMod Z (tp Z) cI p29)<|sc Z (oCI Z (tp Z) cI)<|sc Z (xIaN Z kS30 Z (tp Z) hA0 (yf p10))<|sc Z (xFa Z Q0 (tp Z))<|.nil)
   refine j.stF (sb:=0) 0 (((PV.root.row Z hA0 (yf p10)).conv (upd':=λ z=>(s4.1.set s4.2.2.toNat z)) (λ _=>by simp only[List.set_set])).fld owGMod.f3) (tp Z) (tp Z) [1,5] [] (λ _ j=>Kb ?_)
   have⟨v33,p33,h⟩:=bs h
   refine j.zo [(0,0)] (λ _ _ j=>Ka ?_)
   have⟨v36,p36,h⟩:=bs h
   refine j.zh 7 [(0,0)] (λ _ _ j=>?_) (hs:=sc Z (oM Z (tp Z))<|sc Z (oM Z (tp Z))<|sc Z (oM Z (tp Z))<|sc Z (xMod Z (tp Z) cI p36)<|sc Z (oCI Z (tp Z) cI)<|sc Z (xIaN Z kS30 Z (tp Z) hA0 (yf p10))<|sc Z (xFa Z kF139_4 (tp Z))<|.nil)
   refine j.stF (sb:=0) 0 (((PV.root.row Z hA0 (yf p10)).conv (upd':=λ z=>(s4.1.set s4.2.2.toNat z)) (λ _=>by simp only[List.set_set])).fld owGMod.f4) (tp Z) (tp Z) [1,5] [] (λ _ j=>Kb ?_)
   have⟨v40,p40,h⟩:=bs h
   refine j.zo [(0,0)] (λ _ _ j=>Ka ?_)
   refine j.hdA 0 0 (((PV.root.row Z hA0 (yf p10)).conv (upd':=λ z=>(s4.1.set s4.2.2.toNat z)) (λ _=>by simp only[List.set_set])).fld owGMod.f5) [] λ g43 A43 _ hA43 j=>?_
   refine j.zh 6 [(0,0)] (λ _ _ j=>?_) (hs:=sc Z (oM Z (tp Z))<|sc Z (oM Z (tp Z))<|sc Z (xIaN Z kS30 Z (tp Z) hA0 (yf p10))<|sc Z (xFa Z Yx (tp Z))<|sc Z (xLc (sb:=0) (.head _) Z Z Z (ht:=zaw) (tp Z) Z)<|sc Z (oM Z (tp Z))<|.nil)
   have⟨v46,p46,h⟩:=bs h
   refine j.cSF (l:=[.tmp 57]) 0 (j.bkH (sb:=0) (((PV.root.row Z hA0 (yf p10)).conv (upd':=λ z=>(s4.1.set s4.2.2.toNat z)) (λ _=>by simp only[List.set_set])).fld owGMod.f5) (.head _) Z (yJ Z Z) Z iI) Z Z kN101 (j.st.has 56 _ Z) (by simp) (.cons (tp Z) .nil) (zcf p46) [1,5] Z [] Z Z (by decide) λ _ _ _ _ j=>?_
   refine j.zh 1 [(0,0)] (λ _ _ j=>Kb ?_)
   have⟨v49,p49,h⟩:=bs h
   exact j.zn [(0,0)] h
  have h:=lo h hx4
  cases h
  exact fz
 rintro _ _ ⟨_,Q,j⟩
 have h:=k2
 refine j.zo [(0,0)] λ _ _ j=>?_
 exact j.rsF (s:=0) 0 h xa
def j8(x0:GResult)(x1:Int):Option (GResult×Int):=
(jc x0.ends x1).bind λ v4=>
(jc x0.out v4.2).bind λ v9=>
(Zz x0.log v9.2).bind λ v14=>
(qZ x0.modules v14.2).bind λ v19=>
some ({ x0 with ends:=v4.1,out:=v9.1,log:=v14.1,modules:=v19.1 },v19.2)
theorem zbE{x0:GResult}{r:GResult×Int}(h:j8 x0 x1=some r):FnS prog 21 (owGResult (Ow.row 3 (Ow.frz (α:=Int))) (Ow.row 3 (Ow.frz (α:=Int))) (Ow.row 160 (Ow.frz (α:=GEvent))) (Ow.row 139 (owGMod (Ow.row 3 (Ow.frz (α:=Int))) oAtt))) x0 [dt x1] r.1 (.frz (dt r.2)):=by
 refine fnSV (fn:=f21) 0 1 func21 Z Z (λ M G _ u0 _ j=>wqw ?_)
 refine j.zo [(0,0)] (λ _ _ j=>?_) (hs:=sc Z (xBoxN Z Z)<|segZ)
 refine Ka ?_
 refine j.zh 3 [(0,0)] (λ _ _ j=>?_) (hs:=sc Z (xFldC Z (tp Z))<|sc Z (xLdC (sb:=0) (PV.root.fld owGResult.f0) Z Z (tp Z) Z)<|segZ)
 have⟨v4,p4,h⟩:=bs h
 refine j.cSF (l:=[.tmp 7]) 0 (j.bkV (sb:=0) (PV.root.fld owGResult.f0) Z Z iI) Z Z kN19 (j.st.has 6 _ Z) (by simp) (.cons (tp Z) .nil) (YB p4) [1,2] Z [] Z Z (by decide) λ _ _ _ _ j=>?_
 refine j.zh 1 [(0,0)] (λ _ _ j=>Kb (Ka ?_))
 refine j.zh 3 [(0,0)] (λ _ _ j=>?_) (hs:=sc Z (xFldC Z (tp Z))<|sc Z (xLdC (sb:=0) (PV.root.fld owGResult.f1) Z Z (tp Z) Z)<|segZ)
 have⟨v9,p9,h⟩:=bs h
 refine j.cSF (l:=[.tmp 11]) 0 (j.bkV (sb:=0) (PV.root.fld owGResult.f1) Z Z iI) Z Z kN19 (j.st.has 10 _ Z) (by simp) (.cons (tp Z) .nil) (YB p9) [1,2] Z [] Z Z (by decide) λ _ _ _ _ j=>?_
 refine j.zh 1 [(0,0)] (λ _ _ j=>Kb (Ka ?_))
 refine j.zh 3 [(0,0)] (λ _ _ j=>?_) (hs:=sc Z (xFldC Z (tp Z))<|sc Z (xLdC (sb:=0) (PV.root.fld owGResult.f2) Z Z (tp Z) Z)<|segZ)
 have⟨v14,p14,h⟩:=bs h
 refine j.cSF (l:=[.tmp 15]) 0 (j.bkV (sb:=0) (PV.root.fld owGResult.f2) Z Z iI) Z Z kN60 (j.st.has 14 _ Z) (by simp) (.cons (tp Z) .nil) (zbD p14) [1,2] Z [] Z Z (by decide) λ _ _ _ _ j=>?_
 refine j.zh 1 [(0,0)] (λ _ _ j=>Kb (Ka ?_))
 refine j.zh 3 [(0,0)] (λ _ _ j=>?_) (hs:=sc Z (xFldC Z (ht:=zaU) (tp Z))<|sc Z (xLdC (sb:=0) (PV.root.fld owGResult.f3) Z Z (tp Z) Z)<|segZ)
 have⟨v19,p19,h⟩:=bs h
 refine j.cSF (l:=[.tmp 19]) 0 (j.bkV (sb:=0) (PV.root.fld owGResult.f3) Z Z iI) Z Z kN61 (j.st.has 18 _ Z) (by simp) (.cons (tp Z) .nil) (zaY p19) [1] Z [] Z Z (by decide) λ _ _ _ _ j=>?_
 refine j.zh 1 [(0,0)] (λ _ _ j=>Kb ?_)
 refine j.zo [(0,0)] λ _ _ j=>?_
 exact j.rsF (s:=0) 0 h xa
def wD(x0:List Int)(s4:Int×Int):Option ((Int×Int)⊕(Int⊕Int)):=
if(cmpI .lss s4.2 (x0.length:Int))=true then((atI x0 s4.2).bind λ v9=>
if cmpI .neq v9 s4.1 then(some (.inr (.inr (-1:Int))))
else((i64 (s4.1+(1:Int))).bind λ v17=>
(i64 (s4.2+(1:Int))).bind λ v20=>
some (.inl (v17,v20))))
else(some (.inr (.inl s4.1)))
def jd(x0:List Int)(x1:Int):Option Int:=
Option.bind (α:=Int⊕Int) (zH (λ s4=>wD x0 s4) (x1,(0:Int))) (Sum.elim (λ b2=>
some b2) some)
theorem zcR{x0:List Int}{r:Int}(h:jd x0 x1=some r):Fn prog 62 [dt x0,dt x1] (dt r):=by
 refine fq1 0 func62 λ M w0 _ j=>?_
 refine j.z1 (λ _ _ j=>za ?_)
 refine j.jb [] (λ b2=>[(1,dt b2)]) h (λ o2 p2 k2=>?_) λ b2 _ _ j h=>?_
 ·refine j.z1 λ _ _ j=>?_
  refine wql p2 (λ s4 a w=>Sx (Frm.of w0) 21 M M [] [(0,dt x0),(1,dt s4.1),(5,dt s4.2)] [] a w) (j.sel0 [0,1,5]) ?_
  rintro s4 z4 _ _ j hs4 hx4
  have h:wD x0 s4=some z4:=hs4
  unfold wD at h
  refine j.zc h (λ _ _ j h=>?_) λ _ _ j h=>?_
  ·have⟨v9,p9,h⟩:=bs h
   refine j.zc h (λ _ _ j h=>?_) λ _ _ j h=>?_
   ·exact j.ze (jo (lo h hx4) k2)
   have⟨v17,p17,h⟩:=bs h
   refine j.z1 λ _ _ j=>?_
   have⟨v20,p20,h⟩:=bs h
   exact j.zn [] h
  have h:=lo h hx4
  exact flz h
 exact j.ze h
instance:Ct2 prog 62 dt dt dt jd:=⟨λ h=>zcR h⟩
def xW(x0:List GEvent)(s4:Int×Int):Option ((Int×Int)⊕(Int⊕Int)):=
if(cmpI .lss s4.2 (x0.length:Int))=true then((atI x0 s4.2).bind λ v9=>
if cmpI .neq v9.kind s4.1 then(some (.inr (.inr (-1:Int))))
else((i64 (s4.1+(1:Int))).bind λ v17=>
(atI x0 s4.2).bind λ v20=>
(z7 v17).bind λ v21=>
if(decide (v20.name≠v21))=true then(some (.inr (.inr (-1:Int))))
else((i64 (v17+(1:Int))).bind λ v30=>
(i64 (s4.2+(1:Int))).bind λ v33=>
some (.inl (v30,v33)))))
else(some (.inr (.inl s4.1)))
def j9(x0:List GEvent)(x1:Int):Option Int:=
Option.bind (α:=Int⊕Int) (zH (λ s4=>xW x0 s4) (x1,(0:Int))) (Sum.elim (λ b2=>
some b2) some)
theorem zbF{x0:List GEvent}{r:Int}(h:j9 x0 x1=some r):Fn prog 63 [dt x0,dt x1] (dt r):=by
 refine fq1 0 func63 λ M w0 _ j=>?_
 refine j.z1 (λ _ _ j=>za ?_)
 refine j.jb [] (λ b2=>[(1,dt b2)]) h (λ o2 p2 k2=>?_) λ b2 _ _ j h=>?_
 ·refine j.z1 λ _ _ j=>?_
  refine wql p2 (λ s4 a w=>Sx (Frm.of w0) 32 M M [] [(0,dt x0),(1,dt s4.1),(5,dt s4.2)] [] a w) (j.sel0 [0,1,5]) ?_
  rintro s4 z4 _ _ j hs4 hx4
  have h:xW x0 s4=some z4:=hs4
  unfold xW at h
  refine j.zc h (λ _ _ j h=>?_) λ _ _ j h=>?_
  ·have⟨v9,p9,h⟩:=bs h
   refine j.zc h (λ _ _ j h=>?_) λ _ _ j h=>?_
   ·exact j.ze (jo (lo h hx4) k2)
   have⟨v17,p17,h⟩:=bs h
   refine j.z1 λ _ _ j=>?_
   have⟨v20,p20,v21,p21,h⟩:=Kg h
   refine j.zw λ _ _ j=>?_
   refine j.cq h (λ h=>?_) λ h=>?_
   ·exact j.ze (jo (lo h hx4) k2)
   have⟨v30,p30,h⟩:=bs h
   refine j.z1 λ _ _ j=>?_
   have⟨v33,p33,h⟩:=bs h
   exact j.zn [] h
  have h:=lo h hx4
  exact flz h
 exact j.ze h
instance:Ct2 prog 63 dt dt dt j9:=⟨λ h=>zbF h⟩
def wl(x0:List GAttr)(s4:Int×Int):Option ((Int×Int)⊕(Int⊕Int)):=
if(cmpI .lss s4.2 (x0.length:Int))=true then((atI x0 s4.2).bind λ v9=>
(z7 s4.1).bind λ v10=>
if(decide (v9.name≠v10))=true then(some (.inr (.inr (-1:Int))))
else((i64 (s4.1+(1:Int))).bind λ v19=>
(atI x0 s4.2).bind λ v22=>
if cmpI .neq v22.value.kind v19 then(some (.inr (.inr (-1:Int))))
else((i64 (v19+(1:Int))).bind λ v30=>
(atI x0 s4.2).bind λ v33=>
if cmpI .neq v33.value.num v30 then(some (.inr (.inr (-1:Int))))
else((i64 (v30+(1:Int))).bind λ v41=>
(i64 (s4.2+(1:Int))).bind λ v44=>
some (.inl (v41,v44))))))
else(some (.inr (.inl s4.1)))
def qO(x0:List GAttr)(x1:Int):Option Int:=
Option.bind (α:=Int⊕Int) (zH (λ s4=>wl x0 s4) (x1,(0:Int))) (Sum.elim (λ b2=>
some b2) some)
theorem zcg{x0:List GAttr}{r:Int}(h:qO x0 x1=some r):Fn prog 102 [dt x0,dt x1] (dt r):=by
 refine fq1 0 func102 λ M w0 _ j=>?_
 refine j.z1 (λ _ _ j=>za ?_)
 refine j.jb [] (λ b2=>[(1,dt b2)]) h (λ o2 p2 k2=>?_) λ b2 _ _ j h=>?_
 ·refine j.z1 λ _ _ j=>?_
  refine wql p2 (λ s4 a w=>Sx (Frm.of w0) 43 M M [] [(0,dt x0),(1,dt s4.1),(5,dt s4.2)] [] a w) (j.sel0 [0,1,5]) ?_
  rintro s4 z4 _ _ j hs4 hx4
  have h:wl x0 s4=some z4:=hs4
  unfold wl at h
  refine j.zc h (λ _ _ j h=>?_) λ _ _ j h=>?_
  ·have⟨v9,p9,h⟩:=bs h
   have⟨v10,p10,h⟩:=bs h
   refine j.zw λ _ _ j=>?_
   refine j.cq h (λ h=>?_) λ h=>?_
   ·exact j.ze (jo (lo h hx4) k2)
   have⟨v19,p19,h⟩:=bs h
   refine j.z1 λ _ _ j=>?_
   have⟨v22,p22,h⟩:=bs h
   refine j.zc h (λ _ _ j h=>?_) λ _ _ j h=>?_
   ·exact j.ze (jo (lo h hx4) k2)
   have⟨v30,p30,h⟩:=bs h
   refine j.z1 λ _ _ j=>?_
   have⟨v33,p33,h⟩:=bs h
   refine j.zc h (λ _ _ j h=>?_) λ _ _ j h=>?_
   ·exact j.ze (jo (lo h hx4) k2)
   have⟨v41,p41,h⟩:=bs h
   refine j.z1 λ _ _ j=>?_
   have⟨v44,p44,h⟩:=bs h
   exact j.zn [] h
  have h:=lo h hx4
  exact flz h
 exact j.ze h
instance:Ct2 prog 102 dt dt dt qO:=⟨λ h=>zcg h⟩
def xE(x0:List GMod)(s4:Int×Int):Option ((Int×Int)⊕(Int⊕Int)):=
if(cmpI .lss s4.2 (x0.length:Int))=true then((atI x0 s4.2).bind λ v9=>
(z7 s4.1).bind λ v10=>
if(decide (v9.name≠v10))=true then(some (.inr (.inr (-1:Int))))
else((i64 (s4.1+(1:Int))).bind λ v19=>
(atI x0 s4.2).bind λ v22=>
if cmpI .neq v22.kind v19 then(some (.inr (.inr (-1:Int))))
else((i64 (v19+(1:Int))).bind λ v30=>
(atI x0 s4.2).bind λ v33=>
(jd v33.roots v30).bind λ v34=>
if cmpI .lss v34 0 then(some (.inr (.inr (-1:Int))))
else((atI x0 s4.2).bind λ v44=>
(modO v34 (3:Int)).bind λ v45=>
if(v44.cached != cmpI .eql v45 0)=true then(some (.inr (.inr (-1:Int))))
else((i64 (v34+(1:Int))).bind λ v54=>
(atI x0 s4.2).bind λ v57=>
(modO v54 (3:Int)).bind λ v58=>
if(v57.done != cmpI .eql v58 0)=true then(some (.inr (.inr (-1:Int))))
else((i64 (v54+(1:Int))).bind λ v67=>
(atI x0 s4.2).bind λ v70=>
(qO v70.attrs v67).bind λ v71=>
if cmpI .lss v71 0 then(some (.inr (.inr (-1:Int))))
else((i64 (s4.2+(1:Int))).bind λ v81=>
some (.inl (v71,v81)))))))))
else(some (.inr (.inl s4.1)))
def jM(x0:List GMod)(x1:Int):Option Int:=
Option.bind (α:=Int⊕Int) (zH (λ s4=>xE x0 s4) (x1,(0:Int))) (Sum.elim (λ b2=>
some b2) some)
theorem zaZ{x0:List GMod}{r:Int}(h:jM x0 x1=some r):Fn prog 64 [dt x0,dt x1] (dt r):=by
 refine fq1 0 func64 λ M w0 _ j=>?_
 refine j.z1 (λ _ _ j=>za ?_)
 refine j.jb [] (λ b2=>[(1,dt b2)]) h (λ o2 p2 k2=>?_) λ b2 _ _ j h=>?_
 ·refine j.z1 λ _ _ j=>?_
  refine wql p2 (λ s4 a w=>Sx (Frm.of w0) 72 M M [] [(0,dt x0),(1,dt s4.1),(5,dt s4.2)] [] a w) (j.sel0 [0,1,5]) ?_
  rintro s4 z4 _ _ j hs4 hx4
  have h:xE x0 s4=some z4:=hs4
  unfold xE at h
  refine j.zc h (λ _ _ j h=>?_) λ _ _ j h=>?_
  ·have⟨v9,p9,h⟩:=bs h
   have⟨v10,p10,h⟩:=bs h
   refine j.zw λ _ _ j=>?_
   refine j.cq h (λ h=>?_) λ h=>?_
   ·exact j.ze (jo (lo h hx4) k2)
   have⟨v19,p19,h⟩:=bs h
   refine j.z1 λ _ _ j=>?_
   have⟨v22,p22,h⟩:=bs h
   refine j.zc h (λ _ _ j h=>?_) λ _ _ j h=>?_
   ·exact j.ze (jo (lo h hx4) k2)
   have⟨v30,p30,h⟩:=bs h
   refine j.z1 λ _ _ j=>?_
   have⟨v33,p33,v34,p34,h⟩:=Kg h
   refine j.z1 λ _ _ j=>?_
   refine j.zc h (λ _ _ j h=>?_) λ _ _ j h=>?_
   ·exact j.ze (jo (lo h hx4) k2)
   have⟨v44,p44,v45,p45,h⟩:=Kg h
   refine j.zc h (λ _ _ j h=>?_) (λ _ _ j h=>?_) (hs:=sZ 6 (r:=by exact sc Z (xMod Z (tp Z) cI p45)<|sZ 1 (r:=by exact sc Z (zbW Z (tp Z) (tp Z))<|.nil)))
   ·exact j.ze (jo (lo h hx4) k2)
   have⟨v54,p54,h⟩:=bs h
   refine j.z1 λ _ _ j=>?_
   have⟨v57,p57,v58,p58,h⟩:=Kg h
   refine j.zc h (λ _ _ j h=>?_) (λ _ _ j h=>?_) (hs:=sZ 6 (r:=by exact sc Z (xMod Z (tp Z) cI p58)<|sZ 1 (r:=by exact sc Z (zbW Z (tp Z) (tp Z))<|.nil)))
   ·exact j.ze (jo (lo h hx4) k2)
   have⟨v67,p67,h⟩:=bs h
   refine j.z1 λ _ _ j=>?_
   have⟨v70,p70,v71,p71,h⟩:=Kg h
   refine j.z1 λ _ _ j=>?_
   refine j.zc h (λ _ _ j h=>?_) λ _ _ j h=>?_
   ·exact j.ze (jo (lo h hx4) k2)
   have⟨v81,p81,h⟩:=bs h
   exact j.zn [] h
  have h:=lo h hx4
  exact flz h
 exact j.ze h
instance:Ct2 prog 64 dt dt dt jM:=⟨λ h=>zaZ h⟩
def xv(x0:GResult)(x1:Int):Option Int:=
(jd x0.ends x1).bind λ v2=>
if cmpI .lss v2 0 then(some (-1:Int))
else((jd x0.out v2).bind λ v9=>
if cmpI .lss v9 0 then(some (-1:Int))
else((j9 x0.log v9).bind λ v16=>
if cmpI .lss v16 0 then(some (-1:Int))
else((jM x0.modules v16).bind λ v23=>
if cmpI .lss v23 0 then(some (-1:Int))
else(some v23))))
theorem Xd{x0:GResult}{r:Int}(h:xv x0 x1=some r):Fn prog 22 [dt x0,dt x1] (dt r):=by
 refine fq1 0 func22 λ M _ _ j=>?_
 refine j.z1 λ _ _ j=>?_
 have⟨v2,p2,h⟩:=bs h
 refine j.z1 λ _ _ j=>?_
 refine j.zc h (λ _ _ j h=>?_) λ _ _ j h=>?_
 ·exact j.ze h
 have⟨v9,p9,h⟩:=bs h
 refine j.z1 λ _ _ j=>?_
 refine j.zc h (λ _ _ j h=>?_) λ _ _ j h=>?_
 ·exact j.ze h
 have⟨v16,p16,h⟩:=bs h
 refine j.z1 λ _ _ j=>?_
 refine j.zc h (λ _ _ j h=>?_) λ _ _ j h=>?_
 ·exact j.ze h
 have⟨v23,p23,h⟩:=bs h
 refine j.z1 λ _ _ j=>?_
 refine j.zc h (λ _ _ j h=>?_) λ _ _ j h=>?_
 ·exact j.ze h
 exact j.ze h
instance:Ct2 prog 22 dt dt dt xv:=⟨λ h=>Xd h⟩
end Go.Proofs.YtbbfcjifihknnaaGreatDoor
