import Derived.Test.YtbbfcjifihknnaaGreatDoorTD
import Derived.Test.YtbbfcjifihknnaaGreatDoorTFb
import Derived.Test.YtbbfcjifihknnaaGreatDoorTO
import Derived.Test.YtbbfcjifihknnaaGreatDoorTC
import Derived.Test.YtbbfcjifihknnaaGreatDoorTB
namespace Go.Proofs.YtbbfcjifihknnaaGreatDoor
open Go.RowKit Tryz
variable{r:Bool}{ps:List (Nat×Nat)}{p rs:List Int}{l:List Str}{x0:Machine}{s x1 x2:Str}{t:Tree}{c:UInt8}
instance (s:Str):Decidable (mid s):=by unfold mid;infer_instance
instance (s:Stmt):Decidable (smStmt s):=by unfold smStmt;infer_instance
instance (f:File):Decidable (smFile f):=by unfold smFile;infer_instance
instance (t:Tree):Decidable (wi t):=by unfold wi;infer_instance
@[reducible] def oAtt:Ow (List GAttr):=Ow.row 216 (Ow.frz (α:=GAttr))
@[reducible] def oMac(ps:List (Nat×Nat)):Ow (Bx Machine):=Ow.box (owMachine (Ow.rowP ps 153 (owGModR oAtt)) (Ow.row 3 (Ow.frz (α:=Int))) (Ow.row 160 (Ow.frz (α:=GEvent))) (Ow.row 9 (Ow.frz (α:=Str))))
@[reducible] def oRun:Ow (Bx Runner):=Ow.box (owRunner (Ow.row 139 (owGModR (Ow.row 216 (Ow.frz (α:=GAttr))))) (Ow.row 160 (Ow.frz (α:=GEvent))) (Ow.row 3 (Ow.frz (α:=Int))))
def qj(t:Tree)(p:List Int):Option (List Str):=if wi t/\p.length<=1099511627776 then some (qt t p) else none
theorem W8{r:List Str}(h:qj t p=some r):Fn prog 120 [dt t,dt p] (dt r):=by
 unfold qj at h
 split at h
 ·rename_i hc
  injection h with h
  subst h
  exact zbr _ _ hc.1 hc.2
 ·cases h
def xc(t:Tree):Option Bool:=if wi t then some (zD t) else none
theorem Yl(h:xc t=some r):Fn prog 82 [dt t] (dt r):=by
 unfold xc at h
 split at h
 ·rename_i hc
  injection h with h
  subst h
  exact W7 _ hc
 ·cases h
def Yu(s:Str):Option Bool:=if mid s then some (zx s) else none
theorem zaL(h:Yu s=some r):Fn prog 164 [dt s] (dt r):=by
 unfold Yu at h
 split at h
 ·rename_i hc
  injection h with h
  subst h
  exact Z0 _ hc
 ·cases h
def yx(s:Str):Option Bool:=if mid s then some (zf s) else none
theorem qV(h:yx s=some r):Fn prog 105 [dt s] (dt r):=by
 unfold yx at h
 split at h
 ·rename_i hc
  injection h with h
  subst h
  exact qg _ hc
 ·cases h
def Qa(s:Str)(p:Str):Option Bool:=if p.l.length<=1152921504606846976 then some (under s p) else none
theorem spec_under_w{p:Str}(h:Qa s p=some r):Fn prog 283 [dt s,dt p] (dt r):=by
 unfold Qa at h
 split at h
 ·rename_i hc
  injection h with h
  subst h
  exact zaW _ _ hc
 ·cases h
def xv(s:Str)(c:UInt8):Option (List Str):=if mid s then some (zi s c) else none
theorem Xm{r:List Str}(h:xv s c=some r):Fn prog 115 [dt s,dt c] (dt r):=by
 unfold xv at h
 split at h
 ·rename_i hc
  injection h with h
  subst h
  exact j6 _ _ hc
 ·cases h
def xH(p:List Int):Option Bool:=if True then some (yW p) else none
theorem Ym(h:xH p=some r):Fn prog 67 [dt p] (dt r):=by
 unfold xH at h
 split at h
 ·rename_i hc
  injection h with h
  subst h
  exact W6 _
 ·cases h
def Y4(t:Tree)(p:List Int)(s:Str):Option Spec:=if p.length<=1099511627776/\mid s then some (find t.files p s) else none
theorem zdr{r:Spec}(h:Y4 t p s=some r):Fn prog 123 [dt t,dt p,dt s] (dt r):=by
 unfold Y4 at h
 split at h
 ·rename_i hc
  injection h with h
  subst h
  exact zbY _ _ _ hc.1 hc.2
 ·cases h
def xd(s:Str):Option Str:=if mid s then some (zP s) else none
theorem XL{r:Str}(h:xd s=some r):Fn prog 140 [dt s] (dt r):=by
 unfold xd at h
 split at h
 ·rename_i hc
  injection h with h
  subst h
  exact zdY _ hc
 ·cases h
def Zf(s:Str):Option Str:=if mid s then some (wY s) else none
theorem Q6{r:Str}(h:Zf s=some r):Fn prog 145 [dt s] (dt r):=by
 unfold Zf at h
 split at h
 ·rename_i hc
  injection h with h
  subst h
  exact spec_last_ok _ hc
 ·cases h
def Qb(s:Str):Option (List Str):=if mid s then some (x8 s) else none
theorem spec_above_w{r:List Str}(h:Qb s=some r):Fn prog 245 [dt s] (dt r):=by
 unfold Qb at h
 split at h
 ·rename_i hc
  injection h with h
  subst h
  exact zaV _ hc
 ·cases h
def Q7(l:List Str):Option Str:=if wX l<=1152921504606846976 then some (join l) else none
theorem spec_join_w{r:Str}(h:Q7 l=some r):Fn prog 191 [dt l] (dt r):=by
 unfold Q7 at h
 split at h
 ·rename_i hc
  injection h with h
  subst h
  exact Wk _ hc
 ·cases h
def Zj(p:Str)(s:Str):Option Str:=if p.l.length+s.l.length<=1152921504606846976 then some (child p s) else none
theorem zcb{p:Str}{r:Str}(h:Zj p s=some r):Fn prog 166 [dt p,dt s] (dt r):=by
 unfold Zj at h
 split at h
 ·rename_i hc
  injection h with h
  subst h
  exact YB _ _ hc
 ·cases h
def Xn(f:File):Option Str:=if smFile f then some (zQ f) else none
theorem zcc{f:File}{r:Str}(h:Xn f=some r):Fn prog 246 [dt f] (dt r):=by
 unfold Xn at h
 split at h
 ·rename_i hc
  injection h with h
  subst h
  exact WI _ hc
 ·cases h
def Jn(t:Tree)(f:File):Option Int:=if True then some (xt t.files f) else none
theorem spec_fileAt_w{f:File}{r:Int}(h:Jn t f=some r):Fn prog 138 [dt t,dt f] (dt r):=by
 unfold Jn at h
 split at h
 ·rename_i hc
  injection h with h
  subst h
  exact Xh _ _
 ·cases h
def Jo  : Option Spec:=if True then some (X5) else none
theorem spec_noSpec_w {r:Spec}(h:Jo  = some r):Fn prog 189 [] (dt r):=by
 unfold Jo at h
 split at h
 ·rename_i hc
  injection h with h
  subst h
  exact WJ
 ·cases h
def Jp(t:Tree)(n:Int)(p:Str):Option Bool:=if p.l.length<=1152921504606846976 then some (Xe t.files n p) else none
theorem spec_hasDir_w{n:Int}{p:Str}(h:Jp t n p=some r):Fn prog 248 [dt t,dt n,dt p] (dt r):=by
 unfold Jp at h
 split at h
 ·rename_i hc
  injection h with h
  subst h
  exact QS _ _ _ hc
 ·cases h
def YG(t:Tree)(rs:List Int)(p:Str)(s:Str):Option Spec:=if rs.length<=1099511627776/\p.l.length+s.l.length<=1152921504606846975 then some (ju t.files rs p s) else none
theorem za1{p:Str}{r:Spec}(h:YG t rs p s=some r):Fn prog 190 [dt t,dt rs,dt p,dt s] (dt r):=by
 unfold YG at h
 split at h
 ·rename_i hc
  injection h with h
  subst h
  exact QT _ _ _ _ hc.1 hc.2
 ·cases h
instance:Ct2 prog 120 dt dt dt qj:=⟨λ h=>W8 h⟩
instance:Ct1 prog 82 dt dt xc:=⟨λ h=>Yl h⟩
instance:Ct1 prog 164 dt dt Yu:=⟨λ h=>zaL h⟩
instance:Ct1 prog 105 dt dt yx:=⟨λ h=>qV h⟩
instance:Ct2 prog 283 dt dt dt Qa:=⟨λ h=>spec_under_w h⟩
instance:Ct2 prog 115 dt dt dt xv:=⟨λ h=>Xm h⟩
instance:Ct1 prog 67 dt dt xH:=⟨λ h=>Ym h⟩
instance:Ct3 prog 123 dt dt dt dt Y4:=⟨λ h=>zdr h⟩
instance:Ct1 prog 140 dt dt xd:=⟨λ h=>XL h⟩
instance:Ct1 prog 145 dt dt Zf:=⟨λ h=>Q6 h⟩
instance:Ct1 prog 245 dt dt Qb:=⟨λ h=>spec_above_w h⟩
instance:Ct1 prog 191 dt dt Q7:=⟨λ h=>spec_join_w h⟩
instance:Ct2 prog 166 dt dt dt Zj:=⟨λ h=>zcb h⟩
instance:Ct1 prog 246 dt dt Xn:=⟨λ h=>zcc h⟩
instance:Ct2 prog 138 dt dt dt Jn:=⟨λ h=>spec_fileAt_w h⟩
instance:Ct3 prog 248 dt dt dt dt Jp:=⟨λ h=>spec_hasDir_w h⟩
instance:Ct4 prog 190 dt dt dt dt dt YG:=⟨λ h=>za1 h⟩
instance:Ct2 prog 259 dt dt dt yG:=⟨λ h=>X6 h⟩
attribute [local irreducible] OpRel OpdR
set_option maxRecDepth 10000
set_option maxHeartbeats 1600000
theorem za2:slB prog 148 1=true:=by kernel_rfl
theorem W9:tyB prog 153 false 1=true:=by kernel_rfl
theorem zcd:fldB prog 139 3 3=true:=by kernel_rfl
theorem zaB:fldB prog 139 0 0=true:=by kernel_rfl
theorem Wm:fldB prog 150 4 4=true:=by kernel_rfl
theorem kN153:fnB prog 153=true:=by kernel_rfl
theorem zce:fldB prog 139 1 1=true:=by kernel_rfl
theorem XM:fldB prog 139 5 5=true:=by kernel_rfl
theorem JL:slB prog 137 3=true:=by kernel_rfl
theorem kF216_0:fldB prog 216 0 0=true:=by kernel_rfl
theorem zcf:fldB prog 216 1 1=true:=by kernel_rfl
theorem kN92:fnB prog 92=true:=by kernel_rfl
theorem kF150_6:fldB prog 150 6 6=true:=by kernel_rfl
theorem kD160_0_1:∀ {M:Nat->Prop} {look:Nat->Option Dt} {o:Oper} {q0 q1:Operand} {y0:Int} {y1:Str},o.op=.build 160 #[(0,q0),(1,q1)]->OpdR M look q0 (dt y0)->OpdR M look q1 (dt y1)->OpRel prog M look o (dt (⟨y0,y1⟩:GEvent)):=@λ _ _ _ q0 q1 y0 y1 ho h0 h1=>yt (parts:=[(0,q0),(1,q1)]) (ns:=[1,1]) (zs:=zpGEvent) Z ho (λ w a hl=>FA ⟨(by decide:0<2),Rep.len (α:=Int) (OpdR.cells h0 hl)⟩ (FA ⟨(by decide:1<2),Rep.len (α:=Str) (OpdR.cells h1 hl)⟩ FN)) (λ w a hl=>GEvent.parts (x:=(⟨y0,y1⟩:GEvent)) (OpdR.cells h0 hl) (OpdR.cells h1 hl))
instance iF150_6MaA:FldO prog 150 6 6:=⟨kF150_6⟩
def qW(x0:List GCmd)(s4:Int):Option (Int⊕(Unit⊕Bool)):=
if(cmpI .lss s4 (x0.length:Int))=true then((atI x0 s4).bind λ v9=>
(yZ v9.kind (0:Int) (2:Int)).bind λ v16=>
(gO ((!v16) == false) (zZ v9.name)).bind λ v17=>
if((!v16)||(!v17))=true then(some (.inr (.inr false)))
else((i64 (s4+(1:Int))).bind λ v26=>
some (.inl v26)))
else(some (.inr (.inl ())))
def XY(x0:List GCmd):Option Bool:=
Option.bind (α:=Unit⊕Bool) (zR (λ s4=>qW x0 s4) (0:Int)) (Sum.elim (λ _b2=>
some (cmpI .leq (x0.length:Int) 10)) some)
theorem Q8{x0:List GCmd}(h:XY x0=some r):Fn prog 49 [dt x0] (dt r):=by
 refine fq1 1 func49 λ M w0 _ j=>?_
 refine j.z1 (λ j=>za ?_)
 refine j.jbq 1 [0] (λ _=>[]) (λ _ _=>[]) h (λ o2 p2 k2=>?_) λ b2 q2 _ _ _ j h=>?_
 ·refine j.z1 λ j=>?_
  refine wql p2 (λ s4 a w=>∃ M1 Q,Sx (Frm.of w0) 25 M M1 [oneB Q] [(0,dt x0),(5,dt x0),(6,dt (x0.length:Int)),(7,dt s4)] [] a w) fx ?_
  rintro s4 z4 _ _ ⟨_,Q,j⟩ hs4 hx4
  have h:qW x0 s4=some z4:=hs4
  unfold qW at h
  refine j.zc h (λ j h=>?_) λ j h=>?_
  ·refine Ka ?_
   have⟨v9,p9,h⟩:=bs h
   refine j.zg 2 λ j=>?_
   refine j.alA 0 zrGCmd [0,5,6,7,10] [] λ b13 j=>?_
   refine j.stA 4 0 FldS.id (tp Z) [0,5,6,7] [] (λ j=>Kb ?_)
   have⟨v16,p16,v17,p17,h⟩:=Kg h
   refine j.zc h (λ j h=>?_) (λ j h=>?_) (hs:=sZ 2 (r:=by exact sc Z (oK (jx p16))<|sZ 4 (r:=by exact sg Z Z (λ hg=>oK (xa (gh hg p17)))<|segZ)))
   ·exact j.ze (jo (lo h hx4) k2)
   have⟨v26,p26,h⟩:=bs h
   exact j.zn [] h
  have h:=lo h hx4
  exact flz h
 exact j.ze h
instance:Ct1 prog 49 dt dt XY:=⟨λ h=>Q8 h⟩
def yS(x0:File):Option (List Stmt):=
some x0.body
theorem We{x0:File}{r:List Stmt}(h:yS x0=some r):Fn prog 92 [dt x0] (dt r):=by
 refine fq1 0 func92 λ M _ _ j=>?_
 refine j.z1 (λ j=>?_) (hs:=sZ 1 (r:=by exact sc Z (oA Z (qE (α:=Stmt)))<|.nil))
 exact j.ze h
instance:Ct1 prog 92 dt dt yS:=⟨λ h=>We h⟩
def zW(x0:List (Bx GMod))(x1:(GMod->Option Bool))(s4:Int):Option (Int⊕(Unit⊕Int)):=
if(cmpI .lss s4 (x0.length:Int))=true then((atI x0 s4).bind λ v10=>
(x1 v10.x).bind λ v11=>
if v11=true then(some (.inr (.inr s4)))
else((i64 (s4+(1:Int))).bind λ v20=>
some (.inl v20)))
else(some (.inr (.inl ())))
def y7(x0:List (Bx GMod))(x1:(GMod->Option Bool)):Option Int:=
Option.bind (α:=Unit⊕Int) (zR (λ s4=>zW x0 x1 s4) (0:Int)) (Sum.elim (λ _b2=>
some (-1:Int)) some)
theorem Zk{x0:List (Bx GMod)}{x1:(GMod->Option Bool)}{r:Int}(h:y7 x0 x1=some r):Fn prog 152 [dt x0,dfq1 prog x1] (dt r):=by
 refine fq1 0 func152 λ M w0 _ j=>?_
 refine j.z1 (λ j=>za ?_)
 refine j.jb [] (λ _=>[]) h (λ o2 p2 k2=>?_) λ b2 _ _ j h=>?_
 ·refine j.z1 λ j=>?_
  refine wql p2 (λ s4 a w=>Sx (Frm.of w0) 19 M M [] [(0,dt x0),(7,dt (x0.length:Int)),(8,dt s4),(1,dfq1 prog x1)] [] a w) (j.sel0 [0,7,8,1]) ?_
  rintro s4 z4 _ _ j hs4 hx4
  have h:zW x0 x1 s4=some z4:=hs4
  unfold zW at h
  refine j.zc h (λ j h=>?_) λ j h=>?_
  ·refine j.z1 λ j=>?_
   have⟨v10,p10,v11,p11,h⟩:=Kg h
   refine j.zc h (λ j h=>?_) (λ j h=>?_) (hs:=sZ 4 (r:=by exact sc Z (OpRel.bx (zm Z (ht:=W9) T))<|sc Z (xCaQ1 Z T T p11)<|.nil))
   ·exact j.ze (jo (lo h hx4) k2)
   have⟨v20,p20,h⟩:=bs h
   exact j.zn [] h
  have h:=lo h hx4
  exact flz h
 exact j.ze h
def yY(x0:GMod)(x1:Str):Option Bool:=
some (x0.cached&&decide (x0.name=x1))
theorem Y5{x0:GMod}(h:yY x0 x1=some r):Fn prog 153 [dptr x0,dptr x1] (dt r):=by
 refine fq1 0 func153 λ M _ _ j=>?_
 refine j.z1 λ j=>?_
 refine j.zw λ _ _ j=>?_
 exact j.ret Z Z h
instance:Ct2 prog 153 dptr dptr dt yY:=⟨λ h=>Y5 h⟩
def yc(x0:Machine)(x1:Str):Option Int:=
(y7 x0.modules (λ a0=>yY a0 x1)).bind λ v2=>
some v2
theorem xg{r:Int}(h:yc x0 x1=some r):Fn prog 93 [dptr x0,dt x1] (dt r):=by
 refine fq1 0 func93 λ M _ a0 j=>?_
 refine j.z1 λ j=>?_
 have⟨v2,p2,h⟩:=bs h
 exact j.ze h (hs:=sZ 4 (r:=by exact sc Z (xMkQ1 (l:=[.tmp 3]) (g:=(λ a0=>yY a0 x1)) Z kN153 (.cons T .nil) Z (λ _ _ h=>Y5 h))<|sc Z (oK (Zk p2))<|segZ))
instance:Ct2 prog 93 dptr dt dt yc:=⟨λ h=>xg h⟩
def yD(s17:Str×Int):Option ((Str×Int)⊕Str):=
if(cmpI .gtr s17.2 1&&decide (s17.1≠(⟨[]⟩:Str)))=true then((xz s17.1).bind λ v22=>
(i64 (s17.2 - (1:Int))).bind λ v25=>
some (.inl (v22,v25)))
else(some (.inr s17.1))
def jO(x0:Str)(x1:Int)(x2:Str):Option Str:=
(xG x0).bind λ v2=>
(gO ((!v2) == false) (xG x2)).bind λ v3=>
(gO (((!v2)||(!v3)) == false) (yZ x1 (0:Int) (4:Int))).bind λ v4=>
if(((!v2)||(!v3))||(!v4))=true then(some (⟨[]⟩:Str))
else(if cmpI .eql x1 0 then(some x2)
else(Option.bind (α:=Str) (zR (λ s17=>yD s17) (x0,x1)) λ o16=>
if(decide (o16=(⟨[]⟩:Str)))=true then(some (⟨[]⟩:Str))
else(Option.bind (α:=Str) (if(decide (x2≠(⟨[]⟩:Str)))=true then((catO (⟨[46]⟩:Str) x2).bind λ v38=>
(catO o16 v38).bind λ v39=>
some v39)
else(some o16)) λ o34=>
(zZ o34).bind λ v44=>
if(!v44)=true then(some (⟨[]⟩:Str))
else(some o34))))
theorem WQ{x0:Str}{x1:Int}{r:Str}(h:jO x0 x1 x2=some r):Fn prog 221 [dt x0,dt x1,dt x2] (dt r):=by
 refine fq1 0 func221 λ M w0 _ j=>?_
 refine j.z1 λ j=>?_
 have⟨v2,p2,v3,p3,h⟩:=Kg h
 have⟨v4,p4,h⟩:=bs h
 refine j.zc h (λ j h=>?_) (λ j h=>?_) (hs:=sZ 1 (r:=by exact sc Z (oK (jD p2))<|sZ 3 (r:=by exact sg Z Z (λ hg=>oK (jD (gh hg p3)))<|sZ 4 (r:=by exact sg Z Z (λ hg=>oK (jx (gh hg p4)))<|segZ))))
 ·exact j.ze h
 refine j.zc h (λ j h=>?_) λ j h=>?_
 ·exact j.ze h
 refine wqk ?_
 refine za ?_
 refine j.jm [2] (λ o16=>[(0,dt o16)]) h (λ o16 p16=>?_) λ o16 _ _ j h=>?_
 ·refine wql p16 (λ s17 a w=>Sx (Frm.of w0) 45 M M [] [(0,dt s17.1),(1,dt s17.2),(2,dt x2)] [] a w) (j.sel0 [0,1,2]) ?_
  rintro s17 z17 _ _ j hs17 hx17
  have h:yD s17=some z17:=hs17
  unfold yD at h
  refine j.zc h (λ j h=>?_) λ j h=>?_
  ·have⟨v22,p22,h⟩:=bs h
   refine j.z1 λ j=>?_
   have⟨v25,p25,h⟩:=bs h
   exact j.zn [] h
  have h:=lo h hx17
  obtain rfl:=Option.some.inj h
  exact fz
 refine j.zc h (λ j h=>?_) λ j h=>?_
 ·exact j.ze h
 refine wqk ?_
 refine za ?_
 refine j.jm [] (λ o34=>[(0,dt o34)]) h (λ o34 p34=>?_) λ o34 _ _ j h=>?_
 ·refine j.zc p34 (λ j h=>?_) λ j h=>?_
  ·have⟨v38,p38,h⟩:=bs h
   have⟨v39,p39,h⟩:=bs h
   refine j.z1 λ j=>?_
   obtain rfl:=Option.some.inj h
   exact fz
  obtain rfl:=Option.some.inj h
  exact fz
 have⟨v44,p44,h⟩:=bs h
 refine j.zc h (λ j h=>?_) λ j h=>?_
 ·exact j.ze h
 exact j.ze h
instance:Ct3 prog 221 dt dt dt dt jO:=⟨λ h=>WQ h⟩
def wn(x0:GMod):Option Str:=
if cmpI .eql x0.kind 1 then((xz x0.name).bind λ v5=>
some v5)
else(some x0.name)
theorem Y6{x0:GMod}{r:Str}(h:wn x0=some r):Fn prog 222 [dptr x0] (dt r):=by
 refine fq1 0 func222 λ M _ _ j=>?_
 refine j.z1 λ j=>?_
 refine j.zc h (λ j h=>?_) λ j h=>?_
 ·have⟨v5,p5,h⟩:=bs h
  exact j.ze h
 exact j.ze h
instance:Ct1 prog 222 dptr dt wn:=⟨λ h=>Y6 h⟩
def xX(x0:GMod)(x1:Str)(s6:GVal×Int):Option ((GVal×Int)⊕(GVal⊕(GVal×Bool))):=
if(cmpI .lss s6.2 (x0.attrs.length:Int))=true then((atI x0.attrs s6.2).bind λ v11=>
if(decide (v11.name=x1))=true then(some (.inr (.inr (v11.value,true))))
else((i64 (s6.2+(1:Int))).bind λ v27=>
some (.inl (s6.1,v27))))
else(some (.inr (.inl s6.1)))
def wj(x0:GMod)(x1:Str):Option (GVal×Bool):=
Option.bind (α:=GVal⊕(GVal×Bool)) (zR (λ s6=>xX x0 x1 s6) (zGVal,(0:Int))) (Sum.elim (λ _b4=>
some ((⟨0,0⟩:GVal),false)) some)
theorem wQ{x0:GMod}{r:GVal×Bool}(h:wj x0 x1=some r):Fn prog 223 [dptr x0,dt x1] (dtup [dt r.1,dt r.2]):=by
 refine fq1 2 func223 λ M w0 _ j=>?_
 refine Ka ?_
 refine j.alA 0 J3 [0,1] [] λ b2 j=>?_
 refine j.zh 1 [(4,0)] (λ j=>Kb ?_)
 refine za ?_
 refine j.jbq 2 [] (λ _=>[]) (λ b4 q=>[(4,0,dbox (q 0) 0 b4)]) h (λ o4 p4 k4=>?_) λ b4 q4 _ _ _ j h=>?_
 ·refine j.zo [(4,0)] λ j=>?_
  refine wql p4 (λ s6 a w=>∃ M1 Q R,Sx (Frm.of w0) 25 M M1 [oneB Q,oneB R] [(1,dt x1),(11,dt x0.attrs),(12,dt (x0.attrs.length:Int)),(13,dt s6.2)] [(4,0,dbox Q 0 s6.1)] a w) fx ?_
  rintro s6 z6 _ _ ⟨_,Q,R,j⟩ hs6 hx6
  have h:xX x0 x1 s6=some z6:=hs6
  unfold xX at h
  refine j.zd [(4,0)] h (λ j h=>?_) λ j h=>?_
  ·refine Ka ?_
   have⟨v11,p11,h⟩:=bs h
   refine j.zh 2 [(4,0)] λ j=>?_
   refine j.alA 1 zrGAttr [1,11,12,13,16] [4] λ b15 j=>?_
   refine j.stA 7 1 FldS.id (tp Z) [1,11,12,13] [4] (λ j=>Kb ?_)
   refine j.zd [(4,0),(7,1)] h (λ j h=>?_) λ j h=>?_
   ·refine Ka ?_
    refine j.zh 2 [(4,0)] λ j=>?_
    refine j.stA 4 0 FldS.id (tp Z) [] [] λ j=>?_
    refine j.zh 1 [(4,0)] (λ j=>Kb ?_)
    have h:=lo h hx6
    have h:=jo h k4
    obtain rfl:=Option.some.inj h
    exact j.y2
   have⟨v27,p27,h⟩:=bs h
   exact j.zn [(4,0)] h
  have h:=lo h hx6
  exact flz h
 refine Ka ?_
 refine j.zh 1 [(4,0)] (λ j=>?_) (hs:=sc Z (yt (parts:=[]) (ns:=[1,1]) (zs:=zpGVal) Z Z (λ w a hl=>by simp) (λ w a hl=>GVal.parts (x:=(⟨0,0⟩:GVal)) ⟨Z,trivial⟩ ⟨Z,trivial⟩))<|.nil)
 refine j.stA 4 0 FldS.id (tp Z) [] [] λ j=>?_
 refine j.zh 1 [(4,0)] (λ j=>Kb ?_)
 obtain rfl:=Option.some.inj h
 exact j.y2
instance:Ct2 prog 223 dptr dt (λ r=>dtup [dt r.1,dt r.2]) wj:=⟨λ h=>wQ h⟩
def xw(x0:Str)(x1:Str):Option (Str×Str×Bool):=
(yG x0 x1).bind λ v2=>
if cmpI .geq v2 0 then((cutHO x0 v2).bind λ v8=>
(i64 (v2+(x1.l.length:Int))).bind λ v9=>
(cutLO x0 v9).bind λ v10=>
some (v8,v10,true))
else(some (x0,(⟨[]⟩:Str),false))
theorem WR{x0:Str}{r:Str×Str×Bool}(h:xw x0 x1=some r):Fn prog 205 [dt x0,dt x1] (dtup [dt r.1,dt r.2.1,dt r.2.2]):=by
 refine fq1 0 func205 λ M _ _ j=>?_
 refine j.z1 λ j=>?_
 have⟨v2,p2,h⟩:=bs h
 refine j.z1 λ j=>?_
 refine j.zc h (λ j h=>?_) λ j h=>?_
 ·have⟨v8,p8,h⟩:=bs h
  have⟨v9,p9,v10,p10,h⟩:=Kg h
  refine j.zw λ _ _ j=>?_
  obtain rfl:=Option.some.inj h
  exact j.ret3 (j.frozen (t:=4)) (j.frozen (t:=5)) (j.frozen (t:=6)) ⟨Z,Z,Z⟩
 refine j.z1 λ j=>?_
 obtain rfl:=Option.some.inj h
 exact j.ret3 (j.frozen (t:=4)) (j.frozen (t:=5)) (j.frozen (t:=6)) ⟨Z,Z,Z⟩
instance:Ct2 prog 205 dt dt (λ r=>dtup [dt r.1,dt r.2.1,dt r.2.2]) xw:=⟨λ h=>WR h⟩
def wV(x0:Str)(x1:Str):Option (Str×Str×Bool):=
(xw x0 x1).bind λ v2=>
some (v2.1,v2.2.1,v2.2.2)
theorem za3{x0:Str}{r:Str×Str×Bool}(h:wV x0 x1=some r):Fn prog 133 [dt x0,dt x1] (dtup [dt r.1,dt r.2.1,dt r.2.2]):=by
 refine fq1 0 func133 λ M _ _ j=>?_
 refine j.z1 λ j=>?_
 have⟨v2,p2,h⟩:=bs h
 refine j.z1 λ j=>?_
 obtain rfl:=Option.some.inj h
 exact j.ret3 (j.frozen (t:=4)) (j.frozen (t:=5)) (j.frozen (t:=6)) ⟨Z,Z,Z⟩
instance:Ct2 prog 133 dt dt (λ r=>dtup [dt r.1,dt r.2.1,dt r.2.2]) wV:=⟨λ h=>za3 h⟩
def ZS(x0:Tree)(x1:List Int)(x2:Int):Option Machine:=
some (⟨x0,x1,(⟨⟩:Nilf),(⟨yS⟩:FnV File (List Stmt)),[],[],[],[],x2⟩:Machine)
theorem zcg{x0:Tree}{x1:List Int}{x2:Int}{r:Machine}(h:ZS x0 x1 x2=some r):FnN prog 51 [dt x0,dt x1,dt x2] (.ow (oMac []) ⟨r⟩):=by
 refine fnN (fn:=f51) 4 func51 Z Z (λ M _ _ j=>wqw ?_)
 refine j.z1 (λ j=>?_) (hs:=sZ 1 (r:=by exact sc Z (oA Z QZ)<|.nil))
 refine Ka ?_
 refine j.zg 3 λ j=>?_
 refine j.bldW (ow:=(owMachine (Ow.rowP [] 153 (owGModR oAtt)) (Ow.row 3 (Ow.frz (α:=Int))) (Ow.row 160 (Ow.frz (α:=GEvent))) (Ow.row 9 (Ow.frz (α:=Str))))) (parts:=[(0,.tmp 7),(1,.tmp 8),(8,.tmp 9),(3,.func 92)]) (ns:=[1,1,1,1,1,1,1,1,1]) (zs:=zpMachine) (x:=(⟨x0,x1,(⟨⟩:Nilf),(⟨yS⟩:FnV File (List Stmt)),[],[],[],[],x2⟩:Machine)) 3 [] (FA ⟨by decide,Rep.len (α:=Tree) (OpdR.cells T (λ s y hs=>j.st.has s y hs))⟩ (FA ⟨by decide,Rep.len (α:=List Int) (OpdR.cells T (λ s y hs=>j.st.has s y hs))⟩ (FA ⟨by decide,Rep.len (α:=Int) (OpdR.cells T (λ s y hs=>j.st.has s y hs))⟩ (FA ⟨by decide,Z⟩ FN)))) (((owMachine (Ow.rowP [] 153 (owGModR oAtt)) (Ow.row 3 (Ow.frz (α:=Int))) (Ow.row 160 (Ow.frz (α:=GEvent))) (Ow.row 9 (Ow.frz (α:=Str))))).more (owMachine.mk (x:=(⟨x0,x1,(⟨⟩:Nilf),(⟨yS⟩:FnV File (List Stmt)),[],[],[],[],x2⟩:Machine)) (OpdR.cells T (λ s y hs=>j.st.has s y hs)) (OpdR.cells T (λ s y hs=>j.st.has s y hs)) (zrNilf _ _) (OpdR.cells (opd_fnv (opd_fun1 kN92 (λ _ _ h=>We h))) (λ s y hs=>j.st.has s y hs)) (rowP_zz _ _) (Ow.row_z _ _) (Ow.row_z _ _) (Ow.row_z _ _) (OpdR.cells T (λ s y hs=>j.st.has s y hs)) (λ b h1=>(λ h2=>h2.elim (λ h2=>h2.elim) (λ h2=>h2.elim (λ h2=>h2.elim) (λ h2=>h2.elim)))) (λ b h1=>(λ h2=>h2.elim (λ h2=>h2.elim) (λ h2=>h2.elim))) (λ b h1=>(λ h2=>h2.elim))) (λ b=>(λ hb=>hb.elim (λ hb=>hb.elim) (λ hb=>hb.elim (λ hb=>hb.elim) (λ hb=>hb.elim (λ hb=>hb.elim) (λ hb=>hb.elim)))))) [] [] (@λ G3 _ _ j=>?_)
 have j:=j.gs (Gs':=[oneB none,oneB none,oneB none,G3])
 have j:=j.gn
 refine j.boxW 0 3 [] [] λ b6 _ _ _ _ j=>?_
 have j:=j.gn
 refine j.zh 1 [(6,0)] (λ j=>Kb ?_)
 have j:=j.unm (s:=6) 0 []
 exact j.rnO 0 (bx1 h)
def xx(x0:Machine)(x1:Int)(x2:Str):Option Machine:=
(appO 24 x0.log ([(⟨x1,x2⟩:GEvent)]:List GEvent)).bind λ v8=>
some ({ x0 with log:=v8 })
theorem qk{x1:Int}{r:Machine}(h:xx x0 x1 x2=some r):FnS prog 160 (oMac ps) ⟨x0⟩ [dt x1,dt x2] ⟨r⟩ .gone:=by
 refine fnSB (fn:=f160) 0 2 func160 Z Z (λ M G _ b0 _ j=>wqw ?_)
 refine Ka ?_
 refine j.hdA 0 0 ((PV.root.box Z).fld owMachine.f6) [] λ g1 A1 _ hA1 j=>?_
 refine j.zh 9 [(0,0)] (λ j=>?_) (hs:=sZ 7 (r:=by exact sc Z (kD160_0_1 Z T T)<|segZ))
 refine j.mvG (s:=10) (sb:=0) 0 1 ((PV.root.box Z).fld owMachine.f6) (.head _) (yv Z Z) [6,14] [] λ j=>?_
 refine j.tipR (s:=10) 1 (by first | (simp;done) | exact oD rfl) [0] λ g5 j=>?_
 have⟨v8,p8,h⟩:=bs h
 refine j.apA 1 xq p8 [6] [0] λ g7 j=>?_
 refine j.zh 2 [(0,0),(15,1)] λ j=>?_
 have j:=j.tipW (s:=15) 1 [0]
 refine j.shA 0 15 0 1 (tp Z) [] [] (λ j=>Kb ?_)
 exact(j.rs0 (s:=0) 0 (bx1 h)).2
theorem kB216:bldB prog 216 [1,2]=true:=by kernel_rfl
theorem kC216:qO prog 216 [1,2]=some zpGAttr:=by kernel_rfl
theorem kD216_0_1:∀ {M:Nat->Prop} {look:Nat->Option Dt} {o:Oper} {q0 q1:Operand} {y0:Str} {y1:GVal},o.op=.build 216 #[(0,q0),(1,q1)]->OpdR M look q0 (dt y0)->OpdR M look q1 (dt y1)->OpRel prog M look o (dt (⟨y0,y1⟩:GAttr)):=@λ _ _ _ q0 q1 y0 y1 ho h0 h1=>yt (parts:=[(0,q0),(1,q1)]) (ns:=[1,2]) (zs:=zpGAttr) Z ho (λ w a hl=>FA ⟨(by decide:0<2),Rep.len (α:=Str) (OpdR.cells h0 hl)⟩ (FA ⟨(by decide:1<2),Rep.len (α:=GVal) (OpdR.cells h1 hl)⟩ FN)) (λ w a hl=>GAttr.parts (x:=(⟨y0,y1⟩:GAttr)) (OpdR.cells h0 hl) (OpdR.cells h1 hl))
theorem kE137:elB prog 137 216 3 32=true:=by kernel_rfl
theorem kF139_4:fldB prog 139 4 4=true:=by kernel_rfl
theorem kF150_7:fldB prog 150 7 7=true:=by kernel_rfl
theorem kT64:tyB prog 64 false 1=true:=by kernel_rfl
theorem kF150_0:fldB prog 150 0 0=true:=by kernel_rfl
theorem kF150_1:fldB prog 150 1 1=true:=by kernel_rfl
theorem kF150_2:fldB prog 150 2 2=true:=by kernel_rfl
theorem kF139_2:fldB prog 139 2 2=true:=by kernel_rfl
instance iF139_0MaB:FldO prog 139 0 0:=⟨zaB⟩
instance iF139_5MaB:FldO prog 139 5 5:=⟨XM⟩
instance iF150_4MaB:FldO prog 150 4 4:=⟨Wm⟩
instance iF150_7MaB:FldO prog 150 7 7:=⟨kF150_7⟩
instance iF216_0MaB:FldO prog 216 0 0:=⟨kF216_0⟩
def xY(x0:GMod)(x1:Str)(x2:GVal)(s6:GMod×Int):Option ((GMod×Int)⊕(GMod⊕GMod)):=
if(cmpI .lss s6.2 (x0.attrs.length:Int))=true then((atI s6.1.attrs s6.2).bind λ v13=>
if(decide (v13.name=x1))=true then((atI s6.1.attrs s6.2).bind λ v20=>
some (.inr (.inr ({ s6.1 with attrs:=(s6.1.attrs.set s6.2.toNat ({ v20 with value:=x2 })) }))))
else((i64 (s6.2+(1:Int))).bind λ v26=>
some (.inl (s6.1,v26))))
else(some (.inr (.inl s6.1)))
def yC(x0:GMod)(x1:Str)(x2:GVal):Option GMod:=
Option.bind (α:=GMod⊕GMod) (zR (λ s6=>xY x0 x1 x2 s6) (x0,(0:Int))) (Sum.elim (λ b2=>
(appO 32 b2.attrs ([(⟨x1,x2⟩:GAttr)]:List GAttr)).bind λ v40=>
some ({ b2 with attrs:=v40 })) some)
theorem jP{x0:GMod}{x2:GVal}{r:GMod}(h:yC x0 x1 x2=some r):FnS prog 155 (Ow.box (owGModR oAtt)) ⟨x0⟩ [dt x1,dt x2] ⟨r⟩ .gone:=by
 refine fnSB (fn:=f155) 0 2 func155 Z Z (λ M G w0 b0 _ j=>wqw ?_)
 refine j.zo [(0,0)] (λ j=>za ?_)
 have⟨o2,p2,k2⟩:=bs h
 refine wqj (λ a w=>∃ b2,o2=.inl b2/\(∃ M1 Q R,Sx (Frm.chg w0 G) 46 M M1 [Q,R] [(1,dt x1),(5,dptr x2)] [(0,0,dnm (Ow.box (owGModR oAtt)) Q ⟨b2⟩ (.pointer (some ⟨b0,0,none⟩)) [])] a w)) ?_ ?_
 ·refine j.hdA 0 0 ((PV.root.box Z).fld owGModR.f5) [] λ g3 A3 _ hA3 j=>?_
  refine j.zo [(0,0)] (λ j=>?_) (hs:=sZ 4 (r:=by exact sc Z (xLe Z T)<|segZ))
  have j:=j.ncf (s:=0) 0 []
  refine wql p2 (λ s6 a w=>∃ M1 Q R,Sx (Frm.chg w0 G) 46 M M1 [Q,R] [(1,dt x1),(5,dptr x2),(11,dt (x0.attrs.length:Int)),(12,dt s6.2)] [(0,0,dnm (Ow.box (owGModR oAtt)) Q ⟨s6.1⟩ (.pointer (some ⟨b0,0,none⟩)) [])] a w) fx ?_
  rintro s6 z6 _ _ ⟨_,Q,R,j⟩ hs6 hx6
  have h:xY x0 x1 x2 s6=some z6:=hs6
  unfold xY at h
  refine j.zd [(0,0)] h (λ j h=>?_) λ j h=>?_
  ·refine j.zo [(0,0)] λ j=>?_
   have⟨v13,p13,h⟩:=bs h
   refine j.hdA 0 0 ((PV.root.box Z).fld owGModR.f5) [] λ g12 A12 _ hA12 j=>?_
   refine j.zo [(0,0)] (λ j=>?_) (hs:=sZ 5 (r:=by exact sc Z (xIa (g:=g12) Z JL T T Z (λ h=>hA12 h Z) p13)<|sZ 1 (r:=by exact sc Z (xLf (sb:=0) ((((PV.root.box Z).fld owGModR.f5).row (.head _) Z (λ h=>hA12 h Z) p13).fld GAttr.z0) Z T Z)<|segZ)))
   have j:=j.ncf (s:=0) 0 []
   refine j.cq h (λ h=>?_) λ h=>?_
   ·have⟨v20,p20,h⟩:=bs h
    refine j.hdA 0 0 ((PV.root.box Z).fld owGModR.f5) [] λ g19 A19 _ hA19 j=>?_
    refine j.drnA (D:=[_,_,_,_,_,_,_,_]) zG 8 [[(0,nS)],[(25,0)],[(26,1)],[(27,2),(0,nS)],[(6,nS)],[(5,nS)],[(28,3),(29,4)],[(31,6)],[(32,7),(30,5)]] [30,32] [(0,0)] (λ j=>?_) (hs:=rc Z Z (oM Z U)<|
      rc Z Z (xNc Z T)<|
      rc Z Z (xFa Z XM T)<|
      rc Z Z (xLc (sb:=0) (.head _) Z Z Z T Z)<|
      rc Z Z (oM Z T)<|
      rc Z Z (zm Z T)<|
      rc Z Z (xIa (g:=g19) Z JL T T Z (λ h=>hA19 h Z) p20)<|
      rc Z Z (xFa Z zcf T)<|.nil)
    refine j.sfA 0 0 ((((PV.root.box Z).fld owGModR.f5).row (.head _) Z (λ h=>hA19 h Z) p20).fld GAttr.z1) (tp Z) (tp Z) [] [] (λ j=>Kb ?_)
    have h:=lo h hx6
    have h:=jo h k2
    exact(j.rs0 (s:=0) 0 (bx1 h)).1
   have⟨v26,p26,h⟩:=bs h
   exact j.zn [(0,0)] h
  have h:=lo h hx6
  exact flz h
 rintro _ _ ⟨b2,rfl,⟨_,Q,R,j⟩⟩
 have h:=jn k2
 refine j.held (λ _=>True) zG λ _ j=>?_
 refine j.tN 0 0 trivial λ _ j=>?_
 refine j.hdA 0 0 ((PV.root.box Z).fld owGModR.f5) [] λ g33 A33 _ hA33 j=>?_
 refine j.drnE (D:=[_,_,_,_,_,_,_,_,_]) 9 [0] [[(0,nS)],[(0,nS)],[(35,1)],[(36,2)],[(37,3),(0,nS)],[(1,nS)],[(5,nS)],[(39,5),(40,6)],[(41,7)],[(38,4),(42,8)],[(34,0)],[(44,10)],[(45,11),(43,9)]] (
  rc Z Z (oM Z U)<|
  rc Z Z (oM Z U)<|
  rc Z Z (xNc Z T)<|
  rc Z Z (xFa Z XM T)<|
  rc Z Z (xLc (sb:=0) (.head _) Z Z Z T Z)<|
  rc Z Z (oM Z T)<|
  rc Z Z (zm Z T)<|
  rc Z Z (kD216_0_1 Z T T)<|
  rc Z Z (xO (opds:=[.tmp 41]) Z (ht':=JL) Z Z (.cons T .nil))<|.nil) (by
 intro i hi x d hx
 simp only[List.mem_cons,List.not_mem_nil,or_false] at hi
 rcases hi with rfl
 all_goals (injection hx with hx;injection hx with h1 h2;subst h1;subst h2;rfl)) [34,38,42] [(0,0)] Z ⟨λ _ h=>h,trivial⟩ (λ _ _ j=>?_)
 refine j.mvG (s:=38) (sb:=0) 0 1 ((PV.root.box Z).fld owGModR.f5) (.head _) (yv Z Z) [34,42] [] λ j=>?_
 refine j.tipR (s:=38) 1 (by first | (simp;done) | exact oD rfl) [0] λ g37 j=>?_
 have⟨v40,p40,h⟩:=bs h
 refine j.apA 1 xq p40 [34] [0] λ g39 j=>?_
 refine j.zh 2 [(0,0),(43,1)] λ j=>?_
 have j:=j.tipW (s:=43) 1 [0]
 refine j.shA 0 43 0 1 (tp Z) [] [] (λ j=>Kb ?_)
 exact(j.rs0 (s:=0) 0 (bx1 h)).2
def jQ(x0:Machine)(x1:Int):Option (Machine×Int):=
(atI x0.modules x1).bind λ _v3=>
(x0.modules[x1.toNat]?).bind λ v8=>
(xx x0 (3:Int) v8.x.name).bind λ v12=>
Option.bind (α:=Machine) ((v12.modules[x1.toNat]?).bind λ v15=>
(gO ((!v15.x.done) == true) (v12.modules[x1.toNat]?)).bind λ v17=>
(gO ((!v15.x.done) == true) (yp v12.part v17.x.name)).bind λ v18=>
if((!v15.x.done)&&(!v18))=true then((v12.modules[x1.toNat]?).bind λ v29=>
(appO 16 v12.part ([v29.x.name]:List Str)).bind λ v37=>
some ({ v12 with part:=v37 }))
else(some v12)) λ o14=>
some (o14,x1)
theorem WS{x1:Int}{r:Machine×Int}(h:jQ x0 x1=some r):FnS prog 154 (oMac ps) ⟨x0⟩ [dt x1] ⟨r.1⟩ (.frz (dt r.2)):=by
 refine fnSB (fn:=f154) 0 2 func154 Z Z (λ M G w0 b0 _ j=>wqw ?_)
 refine j.zo [(0,0)] λ j=>?_
 have⟨v3,p3,h⟩:=bs h
 refine j.hdF (s:=0) 0 true (λ _=>((PV.root.box Z).fld owMachine.f4)) [] λ g2 A2 _ hA2 j=>?_
 refine j.mintP (s:=0) 0 (Z4 (owMachine.impE4 (YC (zH (yO p3).2)))) [] λ b4 j=>?_
 refine j.zo [(0,0)] (λ j=>?_) (hs:=sZ 5 (r:=by exact sc Z (xIa (g:=g2) Z za2 T T Z (λ h=>hA2 h Z) p3)<|sc Z (xLdP (sb:=0) ((PV.root.box Z).fld owMachine.f4) (.head _) Z (λ h=>hA2 h Z) (.head _) (yO p3).2 (Nat.mul_one _) Z W9 T Z)<|segZ))
 have j:=j.ncf (s:=0) 0 []
 refine Ka ?_
 have⟨v8,p8,h⟩:=bs h
 refine j.zh 5 [(0,0)] (λ j=>?_) (hs:=sZ 4 (r:=by exact sc Z (xLf (sb:=0) ((((PV.root.box Z).fld owMachine.f4).rowP (.head _) p8).fld owGModR.f0) Z T Z)<|.nil))
 have⟨v12,p12,h⟩:=bs h
 refine j.cNA 0 0 (FnS.any (qk p12)) [1,5] [] (λ j=>Kb ?_)
 refine za ?_
 have⟨o14,p14,k14⟩:=bs h
 refine wqj (λ a w=>∃ M1 Q R,Sx (Frm.chg w0 G) 50 M M1 [Q,R] [(1,dt x1)] [(0,0,dnm (oMac ((x1.toNat,b4)::ps)) Q ⟨o14⟩ (.pointer (some ⟨b0,0,none⟩)) [])] a w) ?_ ?_
 ·have⟨v15,p15,h⟩:=bs p14
  have⟨v17,p17,v18,p18,h⟩:=Kg h
  refine j.hdR (s:=0) 0 ((!v15.x.done) == true) (λ hg=>((PV.root.box Z).fld owMachine.f7)) Z Z [] Z λ g16 A16 _ hA16 j=>?_
  refine j.drA (D:=[_,_,_,_,_,_,_,_,_,_,_,_,_,_,_,_,_]) zG [[(5,nS)],[(19,0)],[(20,1),(0,nS)],[(21,2),(0,nS)],[(22,3)],[(23,4)],[(0,nS),(24,5)],[(25,6),(24,5)],[(26,7),(24,5)],[(27,8),(24,5),(0,nS)],[(5,nS),(24,5)],[(29,10),(24,5)],[(30,11),(24,5),(0,nS)],[(31,12),(24,5),(0,nS)],[(28,9),(32,13),(24,5),(0,nS)],[(33,14),(24,5)],[(24,5),(34,15)]] [1,5,35] [(0,0)] (λ j=>?_) (hs:=rc Z Z (oM Z T)<|
   rc Z Z (xNc Z T)<|
   rc Z Z (xFa Z kF139_4 T)<|
   rc Z Z (xLf (sb:=0) ((((PV.root.box Z).fld owMachine.f4).rowP (.head _) p15).fld owGModR.f4) Z T Z)<|
   rc Z Z (jY Z T)<|
   rc Z Z (oM Z T)<|
   rg Z Z Z (λ hg=>oM Z U)<|
   rg Z Z Z (λ hg=>xNc Z V)<|
   rg Z Z Z (λ hg=>xFa Z kF150_7 V)<|
   rg Z Z Z (λ hg=>xLc (sb:=0) (.head _) hg Z Z V Z)<|
   rg Z Z Z (λ hg=>oM Z T)<|
   rg Z Z Z (λ hg=>xNc Z V)<|
   rg Z Z Z (λ hg=>xFa Z zaB V)<|
   rg Z Z Z (λ hg=>xLf (sb:=0) ((((PV.root.box Z).fld owMachine.f4).rowP (.head _) (gh hg p17)).fld owGModR.f0) Z V Z)<|
   rg Z Z Z (λ hg=>wK (l:=[.tmp 28,.tmp 32]) j.ob.sub Z (.cons (lendP (sb:=0) j.ob 0 ((PV.root.box Z).fld owMachine.f7) (.head _) hg (yv Z Z) V Z) (.cons (qF j.ob.sub V) .nil)) (qD (gh hg p18)) Y1)<|
   rg Z Z Z (λ hg=>jY Z V)<|
   rc Z Z (xf Z T T)<|.nil)
  have j:=j.ncf (s:=0) 0 []
  refine j.cq h (λ h=>?_) λ h=>?_
  ·refine j.held (λ _=>True) zG λ _ j=>?_
   refine j.tN 0 0 trivial λ _ j=>?_
   have⟨v29,p29,h⟩:=bs h
   refine j.hdA 0 0 ((PV.root.box Z).fld owMachine.f7) [] λ g28 A28 _ hA28 j=>?_
   refine j.drnE (D:=[_,_,_,_,_,_,_,_,_,_]) 10 [0] [[(0,nS)],[(0,nS)],[(37,1)],[(38,2)],[(39,3),(0,nS)],[(5,nS)],[(41,5)],[(42,6),(0,nS)],[(43,7),(0,nS)],[(44,8)],[(40,4),(45,9)],[(36,0)],[(47,11)],[(48,12),(46,10)]] (
    rc Z Z (oM Z U)<|
    rc Z Z (oM Z U)<|
    rc Z Z (xNc Z T)<|
    rc Z Z (xFa Z kF150_7 T)<|
    rc Z Z (xLc (sb:=0) (.head _) Z Z Z T Z)<|
    rc Z Z (oM Z T)<|
    rc Z Z (xNc Z T)<|
    rc Z Z (xFa Z zaB T)<|
    rc Z Z (xLf (sb:=0) ((((PV.root.box Z).fld owMachine.f4).rowP (.head _) p29).fld owGModR.f0) Z T Z)<|
    rc Z Z (xO (opds:=[.tmp 44]) Z Z Z (.cons T .nil))<|.nil) (by
 intro i hi x d hx
 simp only[List.mem_cons,List.not_mem_nil,or_false] at hi
 rcases hi with rfl
 all_goals (injection hx with hx;injection hx with h1 h2;subst h1;subst h2;rfl)) [1,36,40,45] [(0,0)] Z ⟨λ _ h=>h,trivial⟩ (λ _ _ j=>?_)
   refine j.mvG (s:=40) (sb:=0) 0 1 ((PV.root.box Z).fld owMachine.f7) (.head _) (yv Z Z) [1,36,45] [] λ j=>?_
   refine j.tipR (s:=40) 1 (by first | (simp;done) | exact oD rfl) [0] λ g34 j=>?_
   have⟨v37,p37,h⟩:=bs h
   refine j.apA 1 xq p37 [1,36] [0] λ g36 j=>?_
   refine j.zh 2 [(0,0),(46,1)] λ j=>?_
   have j:=j.tipW (s:=46) 1 [0]
   refine j.shA 0 46 0 1 (tp Z) [1] [] (λ j=>Kb ?_)
   cases h
   exact fz
  cases h
  exact fz
 rintro _ _ ⟨_,Q,R,j⟩
 have h:=k14
 refine j.zo [(0,0)] λ j=>?_
 have j:=j.asA 0 0 (wd (owMachine.imp4 (xu (λ _ h=>(.tail _ h))))) []
 exact j.xF 0 0 h
def xP(x0:Machine)(x1:Str):Option (Machine×Spec):=
(xz x1).bind λ v3=>
if(decide (v3=(⟨[]⟩:Str)))=true then((Z5 x0.t x0.path (⟨[]⟩:Str) x1).bind λ v9=>
some (x0,v9))
else((yc x0 v3).bind λ v14=>
(gO (cmpI .lss v14 0 == false) (atI x0.modules v14)).bind λ _v18=>
(gO (cmpI .lss v14 0 == false) (x0.modules[v14.toNat]?)).bind λ v20=>
if(cmpI .lss v14 0||cmpI .eql v20.x.kind 1)=true then((ja).bind λ v27=>
some (x0,v27))
else((atI x0.modules v14).bind λ _v34=>
(x0.modules[v14.toNat]?).bind λ v36=>
(jy x1).bind λ v37=>
(Z5 x0.t v36.x.roots v3 v37).bind λ v38=>
some (x0,v38)))
theorem Wg{r:Machine×Spec}(h:xP x0 x1=some r):FnS prog 96 (oMac ps) ⟨x0⟩ [dt x1] ⟨r.1⟩ (.frz (dt r.2)):=by
 refine fnSB (fn:=f96) 0 2 func96 Z Z (λ M G _ b0 _ j=>wqw ?_)
 refine Ka ?_
 refine j.alA 1 WH [1] [0] (λ b2 j=>Kb ?_)
 have⟨v3,p3,h⟩:=bs h
 refine j.zo [(0,0),(4,1)] λ j=>?_
 refine j.zd [(0,0),(4,1)] h (λ j h=>?_) λ j h=>?_
 ·have⟨v9,p9,h⟩:=bs h
  refine j.drnA (D:=[_,_,_,_,_,_,_,_,_,_,_,_,_,_]) zG 14 [[(0,nS)],[(11,0)],[(12,1)],[(13,2),(0,nS)],[(0,nS)],[(15,4)],[(16,5)],[(17,6),(0,nS)],[(1,nS)],[(0,nS)],[(20,9)],[(21,10)],[(22,11),(0,nS)],[(14,3),(18,7),(19,8),(23,12)],[(4,nS),(24,13)]] [24] [(0,0),(4,1)] (λ j=>?_) (hs:=rc Z Z (oM Z U)<|
   rc Z Z (xNc Z T)<|
   rc Z Z (xFa Z kF150_0 T)<|
   rc Z Z (xLf (sb:=0) ((PV.root.box Z).fld owMachine.f0) Z T Z)<|
   rc Z Z (oM Z U)<|
   rc Z Z (xNc Z T)<|
   rc Z Z (xFa Z kF150_1 T)<|
   rc Z Z (xLf (sb:=0) ((PV.root.box Z).fld owMachine.f1) Z T Z)<|
   rc Z Z (oM Z T)<|
   rc Z Z (oM Z U)<|
   rc Z Z (xNc Z T)<|
   rc Z Z (xFa Z kF150_2 T)<|
   rc Z Z (OpRel.nilf (xLf (sb:=0) ((PV.root.box Z).fld owMachine.f2) Z T Z))<|
   rc Z Z (zz (l:=[.tmp 14,.tmp 18,_,.tmp 19,.tmp 23]) Z (.cons T (.cons T (.cons (zL) (.cons T (.cons T .nil))))) (Q5 p9))<|.nil)
  refine j.stA 4 1 FldS.id (tp Z) [] [0] (λ j=>Kb ?_)
  exact j.xC 0 0 h
 have⟨v14,p14,h⟩:=bs h
 refine j.zo [(0,0),(4,1)] (λ j=>?_) (hs:=sZ 2 (r:=by exact sc Z (wK (l:=[.tmp 25,.tmp 26]) j.ob.sub Z (.cons (lendA (sb:=0) j.ob 0 T Z) (.cons (qF j.ob.sub T) .nil)) (xg p14) Yz)<|segZ))
 have⟨v18,p18,v20,p20,h⟩:=Kg h
 refine j.hdF (s:=0) 0 (cmpI .lss v14 (0:Int) == false) (λ hg=>((PV.root.box Z).fld owMachine.f4)) [4] λ g17 A17 _ hA17 j=>?_
 refine j.mintP (s:=0) 0 (Z4 (owMachine.impE4 (impE_pinI (c:=(cmpI .lss v14 (0:Int) == false)) (λ hg=>zH (yO (gh hg p18)).2)))) [4] λ b19 j=>?_
 refine j.zo [(0,0),(4,1)] (λ j=>?_) (hs:=sc Z (oM Z T)<|
  sc Z (oCI Z T cI)<|
  sc Z (oM Z T)<|
  sg Z Z (λ hg=>oM Z U)<|
  sg Z Z (λ hg=>xNc Z V)<|
  sg Z Z (λ hg=>xFa Z Wm V)<|
  sg Z Z (λ hg=>xLc (sb:=0) (.head _) hg Z Z V Z)<|
  sg Z Z (λ hg=>oM Z T)<|
  sg Z Z (λ hg=>xIa (g:=g17) Z za2 V V Z (λ h=>hA17 h hg) (gh hg p18))<|
  sg Z Z (λ hg=>xLdP (sb:=0) ((PV.root.box Z).fld owMachine.f4) (.head _) hg (λ h=>hA17 h hg) (pinI_at hg) (yO (gh hg p18)).2 (Nat.mul_one _) Z W9 V Z)<|
  sg Z Z (λ hg=>xNc Z V)<|
  sg Z Z (λ hg=>xFa Z zce V)<|
  sg Z Z (λ hg=>xLf (sb:=0) ((((PV.root.box Z).fld owMachine.f4).rowP (pinI_at hg) (gh hg p20)).fld owGModR.f1) Z V Z)<|
  sg Z Z (λ hg=>oCI Z V cI)<|
  sc Z (ZO Z T T)<|.nil)
 have j:=j.ncf (s:=0) 0 [4]
 refine j.cq h (λ h=>?_) λ h=>?_
 ·refine Ka ?_
  have⟨v27,p27,h⟩:=bs h
  refine j.zh 1 [(0,0),(4,1)] λ j=>?_
  refine j.stA 4 1 FldS.id (tp Z) [] [0] (λ j=>Kb ?_)
  have j:=j.asA 0 0 (wd (owMachine.imp4 (xu (λ _ h=>(pinI_of h))))) [4]
  exact j.xC 0 0 h
 have⟨v34,p34,v36,p36,h⟩:=Kg h
 have⟨v37,p37,v38,p38,h⟩:=Kg h
 refine j.hdF (s:=0) 0 true (λ _=>((PV.root.box Z).fld owMachine.f4)) [4] λ g33 A33 _ hA33 j=>?_
 refine j.mintP (s:=0) 0 (Z4 (owMachine.impE4 (YC (zH (yO p34).2)))) [4] λ b35 j=>?_
 refine j.drnA (D:=[_,_,_,_,_,_,_,_,_,_,_,_,_,_,_,_,_,_,_,_,_,_]) zG 22 [[(0,nS)],[(44,0)],[(45,1)],[(46,2),(0,nS)],[(0,nS)],[(48,4)],[(49,5)],[(50,6),(0,nS)],[(6,nS)],[(51,7),(52,8)],[(53,9),(0,nS)],[(54,10)],[(55,11),(0,nS)],[(56,12),(0,nS)],[(5,nS)],[(1,nS)],[(59,15)],[(0,nS)],[(61,17)],[(62,18)],[(63,19),(0,nS)],[(47,3),(57,13),(58,14),(60,16),(64,20)],[(4,nS),(65,21)]] [65] [(0,0),(4,1)] (λ j=>?_) (hs:=rc Z Z (oM Z U)<|
  rc Z Z (xNc Z T)<|
  rc Z Z (xFa Z kF150_0 T)<|
  rc Z Z (xLf (sb:=0) ((PV.root.box Z).fld owMachine.f0) Z T Z)<|
  rc Z Z (oM Z U)<|
  rc Z Z (xNc Z T)<|
  rc Z Z (xFa Z Wm T)<|
  rc Z Z (xLc (sb:=0) (.head _) Z Z Z T Z)<|
  rc Z Z (oM Z T)<|
  rc Z Z (xIa (g:=g33) Z za2 T T Z (λ h=>hA33 h Z) p34)<|
  rc Z Z (xLdP (sb:=0) ((PV.root.box Z).fld owMachine.f4) (.head _) Z (λ h=>hA33 h Z) (.head _) (yO p34).2 (Nat.mul_one _) Z W9 T Z)<|
  rc Z Z (xNc Z T)<|
  rc Z Z (xFa Z kF139_2 T)<|
  rc Z Z (xLf (sb:=0) ((((PV.root.box Z).fld owMachine.f4).rowP (.head _) p36).fld owGModR.f2) Z T Z)<|
  rc Z Z (oM Z T)<|
  rc Z Z (oM Z T)<|
  rc Z Z (zz (l:=[.tmp 59]) Z (.cons T .nil) (Jk p37))<|
  rc Z Z (oM Z U)<|
  rc Z Z (xNc Z T)<|
  rc Z Z (xFa Z kF150_2 T)<|
  rc Z Z (OpRel.nilf (xLf (sb:=0) ((PV.root.box Z).fld owMachine.f2) Z T Z))<|
  rc Z Z (zz (l:=[.tmp 47,.tmp 57,.tmp 58,.tmp 60,.tmp 64]) Z (.cons T (.cons T (.cons T (.cons T (.cons T .nil))))) (Q5 p38))<|.nil)
 refine j.stA 4 1 FldS.id (tp Z) [] [0] (λ j=>Kb ?_)
 have j:=j.ncf (s:=0) 0 [4]
 have j:=j.asA 0 0 (wd (owMachine.imp4 (xu (λ _ h=>(.tail _ (pinI_of h)))))) [4]
 exact j.xC 0 0 h
end Go.Proofs.YtbbfcjifihknnaaGreatDoor
