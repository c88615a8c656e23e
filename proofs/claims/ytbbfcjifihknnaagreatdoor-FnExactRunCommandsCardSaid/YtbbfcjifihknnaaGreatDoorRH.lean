import Derived.Test.YtbbfcjifihknnaaGreatDoorRD
import Derived.Test.YtbbfcjifihknnaaGreatDoorRFb
import Derived.Test.YtbbfcjifihknnaaGreatDoorRO
import Derived.Test.YtbbfcjifihknnaaGreatDoorRC
import Derived.Test.YtbbfcjifihknnaaGreatDoorRB
namespace Go.Proofs.YtbbfcjifihknnaaGreatDoor
open Go.RowKit Tryz
variable{r:Bool}{f:File}{ps:List (Nat×Nat)}{p rs:List Int}{l:List Str}{x0:Machine}{s x1 x2:Str}{t:Tree}{c:UInt8}
instance (s:Str):Decidable (mid s):=by unfold mid;infer_instance
instance (s:Stmt):Decidable (smStmt s):=by unfold smStmt;infer_instance
instance (f:File):Decidable (smFile f):=by unfold smFile;infer_instance
instance (t:Tree):Decidable (YI t):=by unfold YI;infer_instance
@[reducible] def oAtt:Ow (List GAttr):=Ow.row 216 (Ow.frz (α:=GAttr))
@[reducible] def oMac(ps:List (Nat×Nat)):Ow (Bx Machine):=Ow.box (owMachine (Ow.rowP ps 153 (owGModR oAtt)) (Ow.row 3 (Ow.frz (α:=Int))) (Ow.row 160 (Ow.frz (α:=GEvent))) (Ow.row 9 (Ow.frz (α:=Str))))
@[reducible] def oRun:Ow (Bx Runner):=Ow.box (owRunner (Ow.row 139 (owGModR (Ow.row 216 (Ow.frz (α:=GAttr))))) (Ow.row 160 (Ow.frz (α:=GEvent))) (Ow.row 3 (Ow.frz (α:=Int))))
def Y5(t:Tree)(p:List Int):Option (List Str):=if YI t/\p.length<=1099511627776 then some (JG t p) else none
theorem zbw{r:List Str}(h:Y5 t p=some r):Fn prog 120 [dt t,dt p] (dt r):=by
 unfold Y5 at h
 split at h
 ·rename_i hc
  injection h with h
  subst h
  exact zaQ _ _ hc.1 hc.2
 ·cases h
def qF(t:Tree):Option Bool:=if YI t then some (ya t) else none
theorem Jo(h:qF t=some r):Fn prog 82 [dt t] (dt r):=by
 unfold qF at h
 split at h
 ·rename_i hc
  injection h with h
  subst h
  exact WN _ hc
 ·cases h
def Ye(s:Str):Option Bool:=if mid s then some (zv s) else none
theorem zaf(h:Ye s=some r):Fn prog 164 [dt s] (dt r):=by
 unfold Ye at h
 split at h
 ·rename_i hc
  injection h with h
  subst h
  exact ZI _ hc
 ·cases h
def xk(s:Str):Option Bool:=if mid s then some (zm s) else none
theorem Xn(h:xk s=some r):Fn prog 105 [dt s] (dt r):=by
 unfold xk at h
 split at h
 ·rename_i hc
  injection h with h
  subst h
  exact jY _ hc
 ·cases h
def JN(s:Str)(p:Str):Option Bool:=if p.l.length<=1152921504606846976 then some (under s p) else none
theorem spec_under_w{p:Str}(h:JN s p=some r):Fn prog 283 [dt s,dt p] (dt r):=by
 unfold JN at h
 split at h
 ·rename_i hc
  injection h with h
  subst h
  exact zas _ _ hc
 ·cases h
def ZM(s:Str)(c:UInt8):Option (List Str):=if mid s then some (zx s c) else none
theorem zc4{r:List Str}(h:ZM s c=some r):Fn prog 115 [dt s,dt c] (dt r):=by
 unfold ZM at h
 split at h
 ·rename_i hc
  injection h with h
  subst h
  exact jT _ _ hc
 ·cases h
def qG(p:List Int):Option Bool:=if True then some (wW p) else none
theorem Jp(h:qG p=some r):Fn prog 67 [dt p] (dt r):=by
 unfold qG at h
 split at h
 ·rename_i hc
  injection h with h
  subst h
  exact WM _
 ·cases h
def QD(t:Tree)(p:List Int)(s:Str):Option Spec:=if p.length<=1099511627776/\mid s then some (find t.files p s) else none
theorem spec_find_w{r:Spec}(h:QD t p s=some r):Fn prog 123 [dt t,dt p,dt s] (dt r):=by
 unfold QD at h
 split at h
 ·rename_i hc
  injection h with h
  subst h
  exact zbn _ _ _ hc.1 hc.2
 ·cases h
def yI(s:Str):Option Str:=if mid s then some (zF s) else none
theorem Xw{r:Str}(h:yI s=some r):Fn prog 140 [dt s] (dt r):=by
 unfold yI at h
 split at h
 ·rename_i hc
  injection h with h
  subst h
  exact zc0 _ hc
 ·cases h
def qR(s:Str):Option Str:=if mid s then some (je s) else none
theorem QE{r:Str}(h:qR s=some r):Fn prog 145 [dt s] (dt r):=by
 unfold qR at h
 split at h
 ·rename_i hc
  injection h with h
  subst h
  exact spec_last_ok _ hc
 ·cases h
def JO(s:Str):Option (List Str):=if mid s then some (YQ s) else none
theorem spec_above_w{r:List Str}(h:JO s=some r):Fn prog 245 [dt s] (dt r):=by
 unfold JO at h
 split at h
 ·rename_i hc
  injection h with h
  subst h
  exact zar _ hc
 ·cases h
def QF(l:List Str):Option Str:=if wM l<=1152921504606846976 then some (join l) else none
theorem spec_join_w{r:Str}(h:QF l=some r):Fn prog 191 [dt l] (dt r):=by
 unfold QF at h
 split at h
 ·rename_i hc
  injection h with h
  subst h
  exact X2 _ hc
 ·cases h
def qW(p:Str)(s:Str):Option Str:=if p.l.length+s.l.length<=1152921504606846976 then some (child p s) else none
theorem zbx{p:Str}{r:Str}(h:qW p s=some r):Fn prog 166 [dt p,dt s] (dt r):=by
 unfold qW at h
 split at h
 ·rename_i hc
  injection h with h
  subst h
  exact Yj _ _ hc
 ·cases h
def Y6(f:File):Option Str:=if smFile f then some (yp f) else none
theorem zby{r:Str}(h:Y6 f=some r):Fn prog 246 [dt f] (dt r):=by
 unfold Y6 at h
 split at h
 ·rename_i hc
  injection h with h
  subst h
  exact Wm _ hc
 ·cases h
def W2(t:Tree)(f:File):Option Int:=if True then some (xc t.files f) else none
theorem spec_fileAt_w{r:Int}(h:W2 t f=some r):Fn prog 138 [dt t,dt f] (dt r):=by
 unfold W2 at h
 split at h
 ·rename_i hc
  injection h with h
  subst h
  exact Y2 _ _
 ·cases h
def W3  : Option Spec:=if True then some (zbY) else none
theorem spec_noSpec_w {r:Spec}(h:W3  = some r):Fn prog 189 [] (dt r):=by
 unfold W3 at h
 split at h
 ·rename_i hc
  injection h with h
  subst h
  exact Wn
 ·cases h
def W4(t:Tree)(n:Int)(p:Str):Option Bool:=if p.l.length<=1152921504606846976 then some (Y0 t.files n p) else none
theorem spec_hasDir_w{n:Int}{p:Str}(h:W4 t n p=some r):Fn prog 248 [dt t,dt n,dt p] (dt r):=by
 unfold W4 at h
 split at h
 ·rename_i hc
  injection h with h
  subst h
  exact Qp _ _ _ hc
 ·cases h
def Ym(t:Tree)(rs:List Int)(p:Str)(s:Str):Option Spec:=if rs.length<=1099511627776/\p.l.length+s.l.length<=1152921504606846975 then some (ZH t.files rs p s) else none
theorem zav{p:Str}{r:Spec}(h:Ym t rs p s=some r):Fn prog 190 [dt t,dt rs,dt p,dt s] (dt r):=by
 unfold Ym at h
 split at h
 ·rename_i hc
  injection h with h
  subst h
  exact Qq _ _ _ _ hc.1 hc.2
 ·cases h
instance:Ct2 prog 120 dt dt dt Y5:=⟨λ h=>zbw h⟩
instance:Ct1 prog 82 dt dt qF:=⟨λ h=>Jo h⟩
instance:Ct1 prog 164 dt dt Ye:=⟨λ h=>zaf h⟩
instance:Ct1 prog 105 dt dt xk:=⟨λ h=>Xn h⟩
instance:Ct2 prog 283 dt dt dt JN:=⟨λ h=>spec_under_w h⟩
instance:Ct2 prog 115 dt dt dt ZM:=⟨λ h=>zc4 h⟩
instance:Ct1 prog 67 dt dt qG:=⟨λ h=>Jp h⟩
instance:Ct3 prog 123 dt dt dt dt QD:=⟨λ h=>spec_find_w h⟩
instance:Ct1 prog 140 dt dt yI:=⟨λ h=>Xw h⟩
instance:Ct1 prog 145 dt dt qR:=⟨λ h=>QE h⟩
instance:Ct1 prog 245 dt dt JO:=⟨λ h=>spec_above_w h⟩
instance:Ct1 prog 191 dt dt QF:=⟨λ h=>spec_join_w h⟩
instance:Ct2 prog 166 dt dt dt qW:=⟨λ h=>zbx h⟩
instance:Ct1 prog 246 dt dt Y6:=⟨λ h=>zby h⟩
instance:Ct2 prog 138 dt dt dt W2:=⟨λ h=>spec_fileAt_w h⟩
instance:Ct3 prog 248 dt dt dt dt W4:=⟨λ h=>spec_hasDir_w h⟩
instance:Ct4 prog 190 dt dt dt dt dt Ym:=⟨λ h=>zav h⟩
instance:Ct2 prog 259 dt dt dt yP:=⟨λ h=>XR h⟩
attribute [local irreducible] OpRel OpdR
set_option maxRecDepth 10000
set_option maxHeartbeats 1600000
theorem kS39:slB prog 39 2=true:=by kernel_rfl
theorem kZ78:yS prog 78=some zcGCmd:=by kernel_rfl
theorem kF78_0:fldB prog 78 0 0=true:=by kernel_rfl
theorem kF78_1:fldB prog 78 1 1=true:=by kernel_rfl
theorem Jq:slB prog 148 1=true:=by kernel_rfl
theorem XK:tyB prog 153 false 1=true:=by kernel_rfl
theorem Q0:fldB prog 139 3 3=true:=by kernel_rfl
theorem JP:fldB prog 139 0 0=true:=by kernel_rfl
theorem Y7:fldB prog 150 4 4=true:=by kernel_rfl
theorem kN153:fnB prog 153=true:=by kernel_rfl
theorem JQ:fldB prog 139 1 1=true:=by kernel_rfl
theorem Yx:fldB prog 139 5 5=true:=by kernel_rfl
theorem zaw:tyB prog 137 false 1=true:=by kernel_rfl
theorem Xh:slB prog 137 3=true:=by kernel_rfl
theorem kF216_0:fldB prog 216 0 0=true:=by kernel_rfl
theorem JR:fldB prog 216 1 1=true:=by kernel_rfl
theorem kN92:fnB prog 92=true:=by kernel_rfl
theorem kF150_6:fldB prog 150 6 6=true:=by kernel_rfl
theorem kT29:tyB prog 29 false 1=true:=by kernel_rfl
theorem kD160_0_1:∀ {M:Nat->Prop} {look:Nat->Option Dt} {o:Oper} {q0 q1:Operand} {y0:Int} {y1:Str},o.op=.build 160 #[(0,q0),(1,q1)]->OpdR M look q0 (dt y0)->OpdR M look q1 (dt y1)->OpRel prog M look o (dt (⟨y0,y1⟩:GEvent)):=@λ _ _ _ q0 q1 y0 y1 ho h0 h1=>yO (parts:=[(0,q0),(1,q1)]) (ns:=[1,1]) (zs:=zpGEvent) Z ho (λ w a hl=>FA ⟨(by decide:0<2),Rep.len (α:=Int) (OpdR.cells h0 hl)⟩ (FA ⟨(by decide:1<2),Rep.len (α:=Str) (OpdR.cells h1 hl)⟩ FN)) (λ w a hl=>GEvent.parts (x:=(⟨y0,y1⟩:GEvent)) (OpdR.cells h0 hl) (OpdR.cells h1 hl))
theorem kS29:slB prog 29 2=true:=by kernel_rfl
instance iF150_6MaA:FldO prog 150 6 6:=⟨kF150_6⟩
def y8(x0:List GCmd)(s4:Int):Option (Int⊕(Unit⊕Bool)):=
if(cmpI .lss s4 (x0.length:Int))=true then((atI x0 s4).bind λ v9=>
(yg v9.kind (0:Int) (2:Int)).bind λ v16=>
(gO ((!v16) == false) (zZ v9.name)).bind λ v17=>
if((!v16)||(!v17))=true then(some (.inr (.inr false)))
else((i64 (s4+(1:Int))).bind λ v26=>
some (.inl v26)))
else(some (.inr (.inl ())))
def xS(x0:List GCmd):Option Bool:=
Option.bind (α:=Unit⊕Bool) (zH (λ s4=>y8 x0 s4) (0:Int)) (Sum.elim (λ _b2=>
some (cmpI .leq (x0.length:Int) 10)) some)
theorem XL{x0:List GCmd}(h:xS x0=some r):Fn prog 49 [dt x0] (dt r):=by
 refine fq1 1 func49 λ M w0 _ j=>?_
 refine j.z1 (λ _ _ j=>za ?_)
 refine j.jbq 1 [0] (λ _=>[]) (λ _ _=>[]) h (λ o2 p2 k2=>?_) λ b2 q2 _ _ _ j h=>?_
 ·refine j.z1 λ _ _ j=>?_
  refine wql p2 (λ s4 a w=>∃ M1 Q,Sx (Frm.of w0) 25 M M1 [oneB Q] [(0,dt x0),(5,dt x0),(6,dt (x0.length:Int)),(7,dt s4)] [] a w) fx ?_
  rintro s4 z4 _ _ ⟨_,Q,j⟩ hs4 hx4
  have h:y8 x0 s4=some z4:=hs4
  unfold y8 at h
  refine j.zc h (λ _ _ j h=>?_) λ _ _ j h=>?_
  ·refine Ka ?_
   have⟨v9,p9,h⟩:=bs h
   refine j.zg 2 λ _ _ j=>?_
   refine j.alA 0 zrGCmd [0,5,6,7,10] [] λ b13 _ _ _ j=>?_
   refine j.stA 4 0 FldS.id (tp Z) [0,5,6,7] [] (λ _ _ j=>Kb ?_)
   have⟨v16,p16,v17,p17,h⟩:=Kg h
   refine j.zc h (λ _ _ j h=>?_) (λ _ _ j h=>?_) (hs:=sZ 2 (r:=by exact sc Z (oK (wH p16))<|sZ 4 (r:=by exact sg Z Z (λ hg=>oK (xR (gh hg p17)))<|segZ)))
   ·exact j.ze (jo (lo h hx4) k2)
   have⟨v26,p26,h⟩:=bs h
   exact j.zn [] h
  have h:=lo h hx4
  exact flz h
 exact j.ze h
instance:Ct1 prog 49 dt dt xS:=⟨λ h=>XL h⟩
def yC(x0:File):Option (List Stmt):=
some x0.body
theorem XZ{x0:File}{r:List Stmt}(h:yC x0=some r):Fn prog 92 [dt x0] (dt r):=by
 refine fq1 0 func92 λ M _ _ j=>?_
 refine j.z1 (λ _ _ j=>?_) (hs:=sZ 1 (r:=by exact sc Z (oA Z (qT (α:=Stmt)))<|.nil))
 exact j.ze h
instance:Ct1 prog 92 dt dt yC:=⟨λ h=>XZ h⟩
def zQ(x0:List (Bx GMod))(x1:(GMod->Option Bool))(s4:Int):Option (Int⊕(Unit⊕Int)):=
if(cmpI .lss s4 (x0.length:Int))=true then((atI x0 s4).bind λ v10=>
(x1 v10.x).bind λ v11=>
if v11=true then(some (.inr (.inr s4)))
else((i64 (s4+(1:Int))).bind λ v20=>
some (.inl v20)))
else(some (.inr (.inl ())))
def yN(x0:List (Bx GMod))(x1:(GMod->Option Bool)):Option Int:=
Option.bind (α:=Unit⊕Int) (zH (λ s4=>zQ x0 x1 s4) (0:Int)) (Sum.elim (λ _b2=>
some (-1:Int)) some)
theorem qX{x0:List (Bx GMod)}{x1:(GMod->Option Bool)}{r:Int}(h:yN x0 x1=some r):Fn prog 152 [dt x0,dfq1 prog x1] (dt r):=by
 refine fq1 0 func152 λ M w0 _ j=>?_
 refine j.z1 (λ _ _ j=>za ?_)
 refine j.jb [] (λ _=>[]) h (λ o2 p2 k2=>?_) λ b2 _ _ j h=>?_
 ·refine j.z1 λ _ _ j=>?_
  refine wql p2 (λ s4 a w=>Sx (Frm.of w0) 19 M M [] [(0,dt x0),(7,dt (x0.length:Int)),(8,dt s4),(1,dfq1 prog x1)] [] a w) (j.sel0 [0,7,8,1]) ?_
  rintro s4 z4 _ _ j hs4 hx4
  have h:zQ x0 x1 s4=some z4:=hs4
  unfold zQ at h
  refine j.zc h (λ _ _ j h=>?_) λ _ _ j h=>?_
  ·refine j.z1 λ _ _ j=>?_
   have⟨v10,p10,v11,p11,h⟩:=Kg h
   refine j.zc h (λ _ _ j h=>?_) (λ _ _ j h=>?_) (hs:=sZ 4 (r:=by exact sc Z (OpRel.bx (zr Z (ht:=XK) (tp Z)))<|sc Z (xCaQ1 Z (tp Z) (tp Z) p11)<|.nil))
   ·exact j.ze (jo (lo h hx4) k2)
   have⟨v20,p20,h⟩:=bs h
   exact j.zn [] h
  have h:=lo h hx4
  exact flz h
 exact j.ze h
def yG(x0:GMod)(x1:Str):Option Bool:=
some (x0.cached&&decide (x0.name=x1))
theorem YR{x0:GMod}(h:yG x0 x1=some r):Fn prog 153 [dptr x0,dptr x1] (dt r):=by
 refine fq1 0 func153 λ M _ _ j=>?_
 refine j.z1 λ _ _ j=>?_
 refine j.zw λ _ _ j=>?_
 exact j.ret Z Z h
instance:Ct2 prog 153 dptr dptr dt yG:=⟨λ h=>YR h⟩
def zT(x0:Machine)(x1:Str):Option Int:=
(yN x0.modules (λ a0=>yG a0 x1)).bind λ v2=>
some v2
theorem yl{r:Int}(h:zT x0 x1=some r):Fn prog 93 [dptr x0,dt x1] (dt r):=by
 refine fq1 0 func93 λ M _ a0 j=>?_
 refine j.z1 λ _ _ j=>?_
 have⟨v2,p2,h⟩:=bs h
 exact j.ze h (hs:=sZ 4 (r:=by exact sc Z (xMkQ1 (l:=[.tmp 3]) (g:=(λ a0=>yG a0 x1)) Z kN153 (.cons (tp Z) .nil) Z (λ _ _ h=>YR h))<|sc Z (oK (qX p2))<|segZ))
instance:Ct2 prog 93 dptr dt dt zT:=⟨λ h=>yl h⟩
def ym(s17:Str×Int):Option ((Str×Int)⊕Str):=
if(cmpI .gtr s17.2 1&&decide (s17.1≠(⟨[]⟩:Str)))=true then((yQ s17.1).bind λ v22=>
(i64 (s17.2 - (1:Int))).bind λ v25=>
some (.inl (v22,v25)))
else(some (.inr s17.1))
def jH(x0:Str)(x1:Int)(x2:Str):Option Str:=
(xi x0).bind λ v2=>
(gO ((!v2) == false) (xi x2)).bind λ v3=>
(gO (((!v2)||(!v3)) == false) (yg x1 (0:Int) (4:Int))).bind λ v4=>
if(((!v2)||(!v3))||(!v4))=true then(some (⟨[]⟩:Str))
else(if cmpI .eql x1 0 then(some x2)
else(Option.bind (α:=Str) (zH (λ s17=>ym s17) (x0,x1)) λ o16=>
if(decide (o16=(⟨[]⟩:Str)))=true then(some (⟨[]⟩:Str))
else(Option.bind (α:=Str) (if(decide (x2≠(⟨[]⟩:Str)))=true then((catO (⟨[46]⟩:Str) x2).bind λ v38=>
(catO o16 v38).bind λ v39=>
some v39)
else(some o16)) λ o34=>
(zZ o34).bind λ v44=>
if(!v44)=true then(some (⟨[]⟩:Str))
else(some o34))))
theorem Wv{x0:Str}{x1:Int}{r:Str}(h:jH x0 x1 x2=some r):Fn prog 221 [dt x0,dt x1,dt x2] (dt r):=by
 refine fq1 0 func221 λ M w0 _ j=>?_
 refine j.z1 λ _ _ j=>?_
 have⟨v2,p2,v3,p3,h⟩:=Kg h
 have⟨v4,p4,h⟩:=bs h
 refine j.zc h (λ _ _ j h=>?_) (λ _ _ j h=>?_) (hs:=sZ 1 (r:=by exact sc Z (oK (jx p2))<|sZ 3 (r:=by exact sg Z Z (λ hg=>oK (jx (gh hg p3)))<|sZ 4 (r:=by exact sg Z Z (λ hg=>oK (wH (gh hg p4)))<|segZ))))
 ·exact j.ze h
 refine j.zc h (λ _ _ j h=>?_) λ _ _ j h=>?_
 ·exact j.ze h
 refine wqk (za ?_)
 refine j.jm [2] (λ o16=>[(0,dt o16)]) h (λ o16 p16=>?_) λ o16 _ _ j h=>?_
 ·refine wql p16 (λ s17 a w=>Sx (Frm.of w0) 45 M M [] [(0,dt s17.1),(1,dt s17.2),(2,dt x2)] [] a w) (j.sel0 [0,1,2]) ?_
  rintro s17 z17 _ _ j hs17 hx17
  have h:ym s17=some z17:=hs17
  unfold ym at h
  refine j.zc h (λ _ _ j h=>?_) λ _ _ j h=>?_
  ·have⟨v22,p22,h⟩:=bs h
   refine j.z1 λ _ _ j=>?_
   have⟨v25,p25,h⟩:=bs h
   exact j.zn [] h
  have h:=lo h hx17
  obtain rfl:=Option.some.inj h
  exact fz
 refine j.zc h (λ _ _ j h=>?_) λ _ _ j h=>?_
 ·exact j.ze h
 refine wqk (za ?_)
 refine j.jm [] (λ o34=>[(0,dt o34)]) h (λ o34 p34=>?_) λ o34 _ _ j h=>?_
 ·refine j.zc p34 (λ _ _ j h=>?_) λ _ _ j h=>?_
  ·have⟨v38,p38,h⟩:=bs h
   have⟨v39,p39,h⟩:=bs h
   refine j.z1 λ _ _ j=>?_
   obtain rfl:=Option.some.inj h
   exact fz
  obtain rfl:=Option.some.inj h
  exact fz
 have⟨v44,p44,h⟩:=bs h
 refine j.zc h (λ _ _ j h=>?_) λ _ _ j h=>?_
 ·exact j.ze h
 exact j.ze h
instance:Ct3 prog 221 dt dt dt dt jH:=⟨λ h=>Wv h⟩
def xT(x0:GMod):Option Str:=
if cmpI .eql x0.kind 1 then((yQ x0.name).bind λ v5=>
some v5)
else(some x0.name)
theorem YS{x0:GMod}{r:Str}(h:xT x0=some r):Fn prog 222 [dptr x0] (dt r):=by
 refine fq1 0 func222 λ M _ _ j=>?_
 refine j.z1 λ _ _ j=>?_
 refine j.zc h (λ _ _ j h=>?_) λ _ _ j h=>?_
 ·have⟨v5,p5,h⟩:=bs h
  exact j.ze h
 exact j.ze h
instance:Ct1 prog 222 dptr dt xT:=⟨λ h=>YS h⟩
def xx(x0:GMod)(x1:Str)(s6:GVal×Int):Option ((GVal×Int)⊕(GVal⊕(GVal×Bool))):=
if(cmpI .lss s6.2 (x0.attrs.length:Int))=true then((atI x0.attrs s6.2).bind λ v11=>
if(decide (v11.name=x1))=true then(some (.inr (.inr (v11.value,true))))
else((i64 (s6.2+(1:Int))).bind λ v27=>
some (.inl (s6.1,v27))))
else(some (.inr (.inl s6.1)))
def xM(x0:GMod)(x1:Str):Option (GVal×Bool):=
Option.bind (α:=GVal⊕(GVal×Bool)) (zH (λ s6=>xx x0 x1 s6) (zGVal,(0:Int))) (Sum.elim (λ _b4=>
some ((⟨0,0⟩:GVal),false)) some)
theorem wz{x0:GMod}{r:GVal×Bool}(h:xM x0 x1=some r):Fn prog 223 [dptr x0,dt x1] (dtup [dt r.1,dt r.2]):=by
 refine fq1 2 func223 λ M w0 _ j=>?_
 refine Ka ?_
 refine j.alA 0 JI [0,1] [] λ b2 _ _ _ j=>?_
 refine j.zh 1 [(4,0)] (λ _ _ j=>Kb (za ?_))
 refine j.jbq 2 [] (λ _=>[]) (λ b4 q=>[(4,0,dbox (q 0) 0 b4)]) h (λ o4 p4 k4=>?_) λ b4 q4 _ _ _ j h=>?_
 ·refine j.zo [(4,0)] λ _ _ j=>?_
  refine wql p4 (λ s6 a w=>∃ M1 Q R,Sx (Frm.of w0) 25 M M1 [oneB Q,oneB R] [(1,dt x1),(11,dt x0.attrs),(12,dt (x0.attrs.length:Int)),(13,dt s6.2)] [(4,0,dbox Q 0 s6.1)] a w) fx ?_
  rintro s6 z6 _ _ ⟨_,Q,R,j⟩ hs6 hx6
  have h:xx x0 x1 s6=some z6:=hs6
  unfold xx at h
  refine j.zd [(4,0)] h (λ _ _ j h=>?_) λ _ _ j h=>?_
  ·refine Ka ?_
   have⟨v11,p11,h⟩:=bs h
   refine j.zh 2 [(4,0)] λ _ _ j=>?_
   refine j.alA 1 zrGAttr [1,11,12,13,16] [4] λ b15 _ _ _ j=>?_
   refine j.stA 7 1 FldS.id (tp Z) [1,11,12,13] [4] (λ _ _ j=>Kb ?_)
   refine j.zd [(4,0),(7,1)] h (λ _ _ j h=>?_) λ _ _ j h=>?_
   ·refine Ka ?_
    refine j.zh 2 [(4,0)] λ _ _ j=>?_
    refine j.stA 4 0 FldS.id (tp Z) [] [] λ _ _ j=>?_
    refine j.zh 1 [(4,0)] (λ _ _ j=>Kb ?_)
    have h:=lo h hx6
    have h:=jo h k4
    obtain rfl:=Option.some.inj h
    exact j.y2
   have⟨v27,p27,h⟩:=bs h
   exact j.zn [(4,0)] h
  have h:=lo h hx6
  exact flz h
 refine Ka ?_
 refine j.zh 1 [(4,0)] (λ _ _ j=>?_) (hs:=sc Z (yO (parts:=[]) (ns:=[1,1]) (zs:=zpGVal) Z Z (λ w a hl=>by simp) (λ w a hl=>GVal.parts (x:=(⟨0,0⟩:GVal)) ⟨Z,trivial⟩ ⟨Z,trivial⟩))<|.nil)
 refine j.stA 4 0 FldS.id (tp Z) [] [] λ _ _ j=>?_
 refine j.zh 1 [(4,0)] (λ _ _ j=>Kb ?_)
 obtain rfl:=Option.some.inj h
 exact j.y2
instance:Ct2 prog 223 dptr dt (λ r=>dtup [dt r.1,dt r.2]) xM:=⟨λ h=>wz h⟩
def wc(x0:Str)(x1:Str):Option (Str×Str×Bool):=
(yP x0 x1).bind λ v2=>
if cmpI .geq v2 0 then((cutHO x0 v2).bind λ v8=>
(i64 (v2+(x1.l.length:Int))).bind λ v9=>
(cutLO x0 v9).bind λ v10=>
some (v8,v10,true))
else(some (x0,(⟨[]⟩:Str),false))
theorem Ww{x0:Str}{r:Str×Str×Bool}(h:wc x0 x1=some r):Fn prog 205 [dt x0,dt x1] (dtup [dt r.1,dt r.2.1,dt r.2.2]):=by
 refine fq1 0 func205 λ M _ _ j=>?_
 refine j.z1 λ _ _ j=>?_
 have⟨v2,p2,h⟩:=bs h
 refine j.z1 λ _ _ j=>?_
 refine j.zc h (λ _ _ j h=>?_) λ _ _ j h=>?_
 ·have⟨v8,p8,h⟩:=bs h
  have⟨v9,p9,v10,p10,h⟩:=Kg h
  refine j.zw λ _ _ j=>?_
  obtain rfl:=Option.some.inj h
  exact j.ret3 (j.frozen (t:=4)) (j.frozen (t:=5)) (j.frozen (t:=6)) ⟨Z,Z,Z⟩
 refine j.z1 λ _ _ j=>?_
 obtain rfl:=Option.some.inj h
 exact j.ret3 (j.frozen (t:=4)) (j.frozen (t:=5)) (j.frozen (t:=6)) ⟨Z,Z,Z⟩
instance:Ct2 prog 205 dt dt (λ r=>dtup [dt r.1,dt r.2.1,dt r.2.2]) wc:=⟨λ h=>Ww h⟩
def Yn(x0:Str)(x1:Str):Option (Str×Str×Bool):=
(wc x0 x1).bind λ v2=>
some (v2.1,v2.2.1,v2.2.2)
theorem strings_Cut_w{x0:Str}{r:Str×Str×Bool}(h:Yn x0 x1=some r):Fn prog 133 [dt x0,dt x1] (dtup [dt r.1,dt r.2.1,dt r.2.2]):=by
 refine fq1 0 func133 λ M _ _ j=>?_
 refine j.z1 λ _ _ j=>?_
 have⟨v2,p2,h⟩:=bs h
 refine j.z1 λ _ _ j=>?_
 obtain rfl:=Option.some.inj h
 exact j.ret3 (j.frozen (t:=4)) (j.frozen (t:=5)) (j.frozen (t:=6)) ⟨Z,Z,Z⟩
instance:Ct2 prog 133 dt dt (λ r=>dtup [dt r.1,dt r.2.1,dt r.2.2]) Yn:=⟨λ h=>strings_Cut_w h⟩
def jZ(x0:Tree)(x1:List Int)(x2:Int):Option Machine:=
some (⟨x0,x1,(⟨⟩:Nilf),(⟨yC⟩:FnV File (List Stmt)),[],[],[],[],x2⟩:Machine)
theorem zbz{x0:Tree}{x1:List Int}{x2:Int}{r:Machine}(h:jZ x0 x1 x2=some r):FnN prog 51 [dt x0,dt x1,dt x2] (.ow (oMac []) ⟨r⟩):=by
 refine fnN (fn:=f51) 4 func51 Z Z (λ M _ _ j=>wqw ?_)
 refine j.z1 (λ _ _ j=>?_) (hs:=sZ 1 (r:=by exact sc Z (oA Z opd_nilp)<|.nil))
 refine Ka ?_
 refine j.zg 3 λ _ _ j=>?_
 refine j.bldW (ow:=(owMachine (Ow.rowP [] 153 (owGModR oAtt)) (Ow.row 3 (Ow.frz (α:=Int))) (Ow.row 160 (Ow.frz (α:=GEvent))) (Ow.row 9 (Ow.frz (α:=Str))))) (parts:=[(0,.tmp 7),(1,.tmp 8),(8,.tmp 9),(3,.func 92)]) (ns:=[1,1,1,1,1,1,1,1,1]) (zs:=zpMachine) (x:=(⟨x0,x1,(⟨⟩:Nilf),(⟨yC⟩:FnV File (List Stmt)),[],[],[],[],x2⟩:Machine)) 3 [] (FA ⟨by decide,Rep.len (α:=Tree) (OpdR.cells (tp Z) (λ s y hs=>j.st.has s y hs))⟩ (FA ⟨by decide,Rep.len (α:=List Int) (OpdR.cells (tp Z) (λ s y hs=>j.st.has s y hs))⟩ (FA ⟨by decide,Rep.len (α:=Int) (OpdR.cells (tp Z) (λ s y hs=>j.st.has s y hs))⟩ (FA ⟨by decide,Z⟩ FN)))) (((owMachine (Ow.rowP [] 153 (owGModR oAtt)) (Ow.row 3 (Ow.frz (α:=Int))) (Ow.row 160 (Ow.frz (α:=GEvent))) (Ow.row 9 (Ow.frz (α:=Str))))).more (owMachine.mk (x:=(⟨x0,x1,(⟨⟩:Nilf),(⟨yC⟩:FnV File (List Stmt)),[],[],[],[],x2⟩:Machine)) (OpdR.cells (tp Z) (λ s y hs=>j.st.has s y hs)) (OpdR.cells (tp Z) (λ s y hs=>j.st.has s y hs)) (zrNilf _ _) (OpdR.cells (opd_fnv (opd_fun1 kN92 (λ _ _ h=>XZ h))) (λ s y hs=>j.st.has s y hs)) (rowP_zz _ _) (Ow.row_z _ _) (Ow.row_z _ _) (Ow.row_z _ _) (OpdR.cells (tp Z) (λ s y hs=>j.st.has s y hs)) (λ b h1=>(λ h2=>h2.elim (λ h2=>h2.elim) (λ h2=>h2.elim (λ h2=>h2.elim) (λ h2=>h2.elim)))) (λ b h1=>(λ h2=>h2.elim (λ h2=>h2.elim) (λ h2=>h2.elim))) (λ b h1=>(λ h2=>h2.elim))) (λ b=>(λ hb=>hb.elim (λ hb=>hb.elim) (λ hb=>hb.elim (λ hb=>hb.elim) (λ hb=>hb.elim (λ hb=>hb.elim) (λ hb=>hb.elim)))))) [] [] (λ G3 _ _ j=>?_)
 have j:=j.gs (Gs':=[oneB none,oneB none,oneB none,G3])
 have j:=j.gn
 refine j.boxW 0 3 iI [] [] λ b6 _ _ _ _ j=>?_
 have j:=j.gn
 refine j.zh 1 [(6,0)] (λ _ _ j=>Kb ?_)
 have j:=j.unm (s:=6) 0 []
 exact j.rnO 0 iI (bx1 h)
def xd(x0:Machine)(x1:Int)(x2:Str):Option Machine:=
(appO 24 x0.log ([(⟨x1,x2⟩:GEvent)]:List GEvent)).bind λ v8=>
some ({ x0 with log:=v8 })
theorem j0{x1:Int}{r:Machine}(h:xd x0 x1 x2=some r):FnS prog 160 (oMac ps) ⟨x0⟩ [dt x1,dt x2] ⟨r⟩ .gone:=by
 refine fnSB (fn:=f160) 0 2 func160 Z Z (λ M G _ b0 _ j=>wqw (Ka ?_))
 refine j.hdA 0 0 ((PV.root.box Z).fld owMachine.f6) [] λ g1 A1 _ hA1 j=>?_
 refine j.zh 9 [(0,0)] (λ _ _ j=>?_) (hs:=sZ 7 (r:=by exact sc Z (kD160_0_1 Z (tp Z) (tp Z))<|segZ))
 refine j.mvG (s:=10) (sb:=0) 0 1 ((PV.root.box Z).fld owMachine.f6) (.head _) (yJ Z Z) [6,14] [] λ _ H4 j=>?_
 refine j.tipR (s:=10) 1 (by first | (simp;done) | exact oD rfl) [0] λ g5 j=>?_
 have⟨v8,p8,h⟩:=bs h
 refine j.apA 1 y7 p8 [6] [0] λ g7 _ _ _ j=>?_
 refine j.zh 2 [(0,0),(15,1)] λ _ _ j=>?_
 have j:=j.tipW (s:=15) 1 [0]
 refine j.shA 0 15 0 1 (tp Z) [] [] (λ _ _ j=>Kb ?_)
 exact(j.rs0 (s:=0) 0 (bx1 h)).2
theorem kB216:bldB prog 216 [1,2]=true:=by kernel_rfl
theorem kC216:Zv prog 216 [1,2]=some zpGAttr:=by kernel_rfl
theorem kD216_0_1:∀ {M:Nat->Prop} {look:Nat->Option Dt} {o:Oper} {q0 q1:Operand} {y0:Str} {y1:GVal},o.op=.build 216 #[(0,q0),(1,q1)]->OpdR M look q0 (dt y0)->OpdR M look q1 (dt y1)->OpRel prog M look o (dt (⟨y0,y1⟩:GAttr)):=@λ _ _ _ q0 q1 y0 y1 ho h0 h1=>yO (parts:=[(0,q0),(1,q1)]) (ns:=[1,2]) (zs:=zpGAttr) Z ho (λ w a hl=>FA ⟨(by decide:0<2),Rep.len (α:=Str) (OpdR.cells h0 hl)⟩ (FA ⟨(by decide:1<2),Rep.len (α:=GVal) (OpdR.cells h1 hl)⟩ FN)) (λ w a hl=>GAttr.parts (x:=(⟨y0,y1⟩:GAttr)) (OpdR.cells h0 hl) (OpdR.cells h1 hl))
theorem kE137:elB prog 137 216 3 32=true:=by kernel_rfl
theorem kF139_4:fldB prog 139 4 4=true:=by kernel_rfl
theorem kF150_7:fldB prog 150 7 7=true:=by kernel_rfl
theorem kF150_0:fldB prog 150 0 0=true:=by kernel_rfl
theorem kF150_1:fldB prog 150 1 1=true:=by kernel_rfl
theorem kF150_2:fldB prog 150 2 2=true:=by kernel_rfl
theorem Q1:fldB prog 139 2 2=true:=by kernel_rfl
instance iF139_0MaB:FldO prog 139 0 0:=⟨JP⟩
instance iF139_5MaB:FldO prog 139 5 5:=⟨Yx⟩
instance iF150_4MaB:FldO prog 150 4 4:=⟨Y7⟩
instance iF150_7MaB:FldO prog 150 7 7:=⟨kF150_7⟩
instance iF216_0MaB:FldO prog 216 0 0:=⟨kF216_0⟩
def xy(x0:GMod)(x1:Str)(x2:GVal)(s6:GMod×Int):Option ((GMod×Int)⊕(GMod⊕GMod)):=
if(cmpI .lss s6.2 (x0.attrs.length:Int))=true then((atI s6.1.attrs s6.2).bind λ v13=>
if(decide (v13.name=x1))=true then((atI s6.1.attrs s6.2).bind λ v20=>
some (.inr (.inr ({ s6.1 with attrs:=(s6.1.attrs.set s6.2.toNat ({ v20 with value:=x2 })) }))))
else((i64 (s6.2+(1:Int))).bind λ v26=>
some (.inl (s6.1,v26))))
else(some (.inr (.inl s6.1)))
def yk(x0:GMod)(x1:Str)(x2:GVal):Option GMod:=
Option.bind (α:=GMod⊕GMod) (zH (λ s6=>xy x0 x1 x2 s6) (x0,(0:Int))) (Sum.elim (λ b2=>
(appO 32 b2.attrs ([(⟨x1,x2⟩:GAttr)]:List GAttr)).bind λ v40=>
some ({ b2 with attrs:=v40 })) some)
theorem jI{x0:GMod}{x2:GVal}{r:GMod}(h:yk x0 x1 x2=some r):FnS prog 155 (Ow.box (owGModR oAtt)) ⟨x0⟩ [dt x1,dt x2] ⟨r⟩ .gone:=by
 refine fnSB (fn:=f155) 0 2 func155 Z Z (λ M G w0 b0 _ j=>wqw ?_)
 refine j.zo [(0,0)] (λ _ _ j=>za ?_)
 have⟨o2,p2,k2⟩:=bs h
 refine wqj (λ a w=>∃ b2,o2=.inl b2/\(∃ M1 Q R,Sx (Frm.chg w0 G) 46 M M1 [Q,R] [(1,dt x1),(5,dptr x2)] [(0,0,dnm (Ow.box (owGModR oAtt)) Q ⟨b2⟩ (.pointer (some ⟨b0,0,none⟩)) [])] a w)) ?_ ?_
 ·refine j.hdA 0 0 ((PV.root.box Z).fld owGModR.f5) [] λ g3 A3 _ hA3 j=>?_
  refine j.zo [(0,0)] (λ _ _ j=>?_) (hs:=sZ 4 (r:=by exact sc Z (xLe Z (tp Z))<|segZ))
  have j:=j.ncf (s:=0) 0 []
  refine wql p2 (λ s6 a w=>∃ M1 Q R,Sx (Frm.chg w0 G) 46 M M1 [Q,R] [(1,dt x1),(5,dptr x2),(11,dt (x0.attrs.length:Int)),(12,dt s6.2)] [(0,0,dnm (Ow.box (owGModR oAtt)) Q ⟨s6.1⟩ (.pointer (some ⟨b0,0,none⟩)) [])] a w) fx ?_
  rintro s6 z6 _ _ ⟨_,Q,R,j⟩ hs6 hx6
  have h:xy x0 x1 x2 s6=some z6:=hs6
  unfold xy at h
  refine j.zd [(0,0)] h (λ _ _ j h=>?_) λ _ _ j h=>?_
  ·refine j.zo [(0,0)] λ _ _ j=>?_
   have⟨v13,p13,h⟩:=bs h
   refine j.hdA 0 0 ((PV.root.box Z).fld owGModR.f5) [] λ g12 A12 _ hA12 j=>?_
   refine j.zo [(0,0)] (λ _ _ j=>?_) (hs:=sZ 5 (r:=by exact sc Z (xIa (g:=g12) Z Xh (tp Z) (tp Z) Z (λ h=>hA12 h Z) p13)<|sZ 1 (r:=by exact sc Z (xLf (sb:=0) ((((PV.root.box Z).fld owGModR.f5).row (.head _) Z (λ h=>hA12 h Z) p13).fld GAttr.z0) Z (tp Z) Z)<|segZ)))
   have j:=j.ncf (s:=0) 0 []
   refine j.cq h (λ h=>?_) λ h=>?_
   ·have⟨v20,p20,h⟩:=bs h
    refine j.hdA 0 0 ((PV.root.box Z).fld owGModR.f5) [] λ g19 A19 _ hA19 j=>?_
    refine j.drnA (D:=[_,_,_,_,_,_,_,_]) zP 8 [[(0,nS)],[(25,0)],[(26,1)],[(27,2),(0,nS)],[(6,nS)],[(5,nS)],[(28,3),(29,4)],[(31,6)],[(32,7),(30,5)]] [30,32] [(0,0)] (λ _ _ j=>?_) (hs:=rc Z Z (oM Z (zN Z))<|rc Z Z (xNc Z (tp Z))<|rc Z Z (xFa Z Yx (tp Z))<|rc Z Z (xLc (sb:=0) (.head _) Z Z Z (ht:=zaw) (tp Z) Z)<|rc Z Z (oM Z (tp Z))<|rc Z Z (zr Z (tp Z))<|rc Z Z (xIa (g:=g19) Z Xh (tp Z) (tp Z) Z (λ h=>hA19 h Z) p20)<|rc Z Z (xFa Z JR (tp Z))<|.nil)
    refine j.sfA 0 0 ((((PV.root.box Z).fld owGModR.f5).row (.head _) Z (λ h=>hA19 h Z) p20).fld GAttr.z1) (tp Z) (tp Z) [] [] (λ _ j=>Kb ?_)
    have h:=lo h hx6
    have h:=jo h k2
    exact(j.rs0 (s:=0) 0 (bx1 h)).1
   have⟨v26,p26,h⟩:=bs h
   exact j.zn [(0,0)] h
  have h:=lo h hx6
  exact flz h
 rintro _ _ ⟨b2,rfl,⟨_,Q,R,j⟩⟩
 have h:=jn k2
 refine j.held (λ _=>True) zP λ _ j=>?_
 refine j.tN 0 0 trivial λ _ j=>?_
 refine j.hdA 0 0 ((PV.root.box Z).fld owGModR.f5) [] λ g33 A33 _ hA33 j=>?_
 refine j.drnE (D:=[_,_,_,_,_,_,_,_,_]) 9 [0] [[(0,nS)],[(0,nS)],[(35,1)],[(36,2)],[(37,3),(0,nS)],[(1,nS)],[(5,nS)],[(39,5),(40,6)],[(41,7)],[(38,4),(42,8)],[(34,0)],[(44,10)],[(45,11),(43,9)]] (
  rc Z Z (oM Z (zN Z))<|rc Z Z (oM Z (zN Z))<|rc Z Z (xNc Z (tp Z))<|rc Z Z (xFa Z Yx (tp Z))<|rc Z Z (xLc (sb:=0) (.head _) Z Z Z (ht:=zaw) (tp Z) Z)<|rc Z Z (oM Z (tp Z))<|rc Z Z (zr Z (tp Z))<|rc Z Z (kD216_0_1 Z (tp Z) (tp Z))<|rc Z Z (qf (opds:=[.tmp 41]) Z (ht':=Xh) Z Z (.cons (tp Z) .nil))<|.nil) (by
 intro i hi x d hx
 simp only[List.mem_cons,List.not_mem_nil,or_false] at hi
 rcases hi with rfl
 all_goals (injection hx with hx;injection hx with h1 h2;subst h1;subst h2;rfl)) [34,38,42] [(0,0)] Z iT (λ _ _ j=>?_)
 refine j.mvG (s:=38) (sb:=0) 0 1 ((PV.root.box Z).fld owGModR.f5) (.head _) (yJ Z Z) [34,42] [] λ _ H36 j=>?_
 refine j.tipR (s:=38) 1 (by first | (simp;done) | exact oD rfl) [0] λ g37 j=>?_
 have⟨v40,p40,h⟩:=bs h
 refine j.apA 1 y7 p40 [34] [0] λ g39 _ _ _ j=>?_
 refine j.zh 2 [(0,0),(43,1)] λ _ _ j=>?_
 have j:=j.tipW (s:=43) 1 [0]
 refine j.shA 0 43 0 1 (tp Z) [] [] (λ _ _ j=>Kb ?_)
 exact(j.rs0 (s:=0) 0 (bx1 h)).2
def jJ(x0:Machine)(x1:Int):Option (Machine×Int):=
(atI x0.modules x1).bind λ _v3=>
(x0.modules[x1.toNat]?).bind λ v8=>
(xd x0 (3:Int) v8.x.name).bind λ v12=>
Option.bind (α:=Machine) ((v12.modules[x1.toNat]?).bind λ v15=>
(gO ((!v15.x.done) == true) (v12.modules[x1.toNat]?)).bind λ v17=>
(gO ((!v15.x.done) == true) (yh v12.part v17.x.name)).bind λ v18=>
if((!v15.x.done)&&(!v18))=true then((v12.modules[x1.toNat]?).bind λ v29=>
(appO 16 v12.part ([v29.x.name]:List Str)).bind λ v37=>
some ({ v12 with part:=v37 }))
else(some v12)) λ o14=>
some (o14,x1)
theorem Wx{x1:Int}{r:Machine×Int}(h:jJ x0 x1=some r):FnS prog 154 (oMac ps) ⟨x0⟩ [dt x1] ⟨r.1⟩ (.frz (dt r.2)):=by
 refine fnSB (fn:=f154) 0 2 func154 Z Z (λ M G w0 b0 _ j=>wqw ?_)
 refine j.zo [(0,0)] λ _ _ j=>?_
 have⟨v3,p3,h⟩:=bs h
 refine j.hdF (s:=0) 0 true (λ _=>((PV.root.box Z).fld owMachine.f4)) [] λ g2 A2 _ hA2 j=>?_
 refine j.mintP (s:=0) 0 (qD (owMachine.impE4 (Zh (zG (yi p3).2)))) [] λ b4 j=>?_
 refine j.zo [(0,0)] (λ _ _ j=>?_) (hs:=sZ 5 (r:=by exact sc Z (xIa (g:=g2) Z Jq (tp Z) (tp Z) Z (λ h=>hA2 h Z) p3)<|sc Z (xLdP (sb:=0) ((PV.root.box Z).fld owMachine.f4) (.head _) Z (λ h=>hA2 h Z) (.head _) (yi p3).2 (Nat.mul_one _) Z XK (tp Z) Z)<|segZ))
 have j:=j.ncf (s:=0) 0 []
 refine Ka ?_
 have⟨v8,p8,h⟩:=bs h
 refine j.zh 5 [(0,0)] (λ _ _ j=>?_) (hs:=sZ 4 (r:=by exact sc Z (xLf (sb:=0) ((((PV.root.box Z).fld owMachine.f4).rowP (.head _) p8).fld owGModR.f0) Z (tp Z) Z)<|.nil))
 have⟨v12,p12,h⟩:=bs h
 refine j.cNA 0 0 (FnS.any (j0 p12)) [1,5] [] (λ _ _ _ _ j=>Kb (za ?_))
 have⟨o14,p14,k14⟩:=bs h
 refine wqj (λ a w=>∃ M1 Q R,Sx (Frm.chg w0 G) 50 M M1 [Q,R] [(1,dt x1)] [(0,0,dnm (oMac ((x1.toNat,b4)::ps)) Q ⟨o14⟩ (.pointer (some ⟨b0,0,none⟩)) [])] a w) ?_ ?_
 ·have⟨v15,p15,h⟩:=bs p14
  have⟨v17,p17,v18,p18,h⟩:=Kg h
  refine j.hdR (s:=0) 0 ((!v15.x.done) == true) (λ hg=>((PV.root.box Z).fld owMachine.f7)) Z Z iI [] Z λ g16 A16 _ hA16 j=>?_
  refine j.drA (D:=[_,_,_,_,_,_,_,_,_,_,_,_,_,_,_,_,_]) zP [[(5,nS)],[(19,0)],[(20,1),(0,nS)],[(21,2),(0,nS)],[(22,3)],[(23,4)],[(0,nS),(24,5)],[(25,6),(24,5)],[(26,7),(24,5)],[(27,8),(24,5),(0,nS)],[(5,nS),(24,5)],[(29,10),(24,5)],[(30,11),(24,5),(0,nS)],[(31,12),(24,5),(0,nS)],[(28,9),(32,13),(24,5),(0,nS)],[(33,14),(24,5)],[(24,5),(34,15)]] [1,5,35] [(0,0)] (λ _ _ j=>?_) (hs:=rc Z Z (oM Z (tp Z))<|rc Z Z (xNc Z (tp Z))<|rc Z Z (xFa Z kF139_4 (tp Z))<|rc Z Z (xLf (sb:=0) ((((PV.root.box Z).fld owMachine.f4).rowP (.head _) p15).fld owGModR.f4) Z (tp Z) Z)<|rc Z Z (jk Z (tp Z))<|rc Z Z (oM Z (tp Z))<|rg Z Z Z (λ hg=>oM Z (zN Z))<|rg Z Z Z (λ hg=>xNc Z (zp hg Z))<|rg Z Z Z (λ hg=>xFa Z kF150_7 (zp hg Z))<|rg Z Z Z (λ hg=>xLc (sb:=0) (.head _) hg Z Z (zp hg Z) Z)<|rg Z Z Z (λ hg=>oM Z (tp Z))<|rg Z Z Z (λ hg=>xNc Z (zp hg Z))<|rg Z Z Z (λ hg=>xFa Z JP (zp hg Z))<|rg Z Z Z (λ hg=>xLf (sb:=0) ((((PV.root.box Z).fld owMachine.f4).rowP (.head _) (gh hg p17)).fld owGModR.f0) Z (zp hg Z) Z)<|rg Z Z Z (λ hg=>yE (l:=[.tmp 28,.tmp 32]) j.ob.sub Z (.cons (Qx (sb:=0) j.ob 0 ((PV.root.box Z).fld owMachine.f7) (.head _) hg (yJ Z Z) (zp hg Z) Z iI) (.cons (xq j.ob.sub (zp hg Z)) .nil)) (qk (gh hg p18)) jv)<|rg Z Z Z (λ hg=>jk Z (zp hg Z))<|rc Z Z (yZ Z (tp Z) (zb Z))<|.nil)
  have j:=j.ncf (s:=0) 0 []
  refine j.cq h (λ h=>?_) λ h=>?_
  ·refine j.held (λ _=>True) zP λ _ j=>?_
   refine j.tN 0 0 trivial λ _ j=>?_
   have⟨v29,p29,h⟩:=bs h
   refine j.hdA 0 0 ((PV.root.box Z).fld owMachine.f7) [] λ g28 A28 _ hA28 j=>?_
   refine j.drnE (D:=[_,_,_,_,_,_,_,_,_,_]) 10 [0] [[(0,nS)],[(0,nS)],[(37,1)],[(38,2)],[(39,3),(0,nS)],[(5,nS)],[(41,5)],[(42,6),(0,nS)],[(43,7),(0,nS)],[(44,8)],[(40,4),(45,9)],[(36,0)],[(47,11)],[(48,12),(46,10)]] (
    rc Z Z (oM Z (zN Z))<|rc Z Z (oM Z (zN Z))<|rc Z Z (xNc Z (tp Z))<|rc Z Z (xFa Z kF150_7 (tp Z))<|rc Z Z (xLc (sb:=0) (.head _) Z Z Z (tp Z) Z)<|rc Z Z (oM Z (tp Z))<|rc Z Z (xNc Z (tp Z))<|rc Z Z (xFa Z JP (tp Z))<|rc Z Z (xLf (sb:=0) ((((PV.root.box Z).fld owMachine.f4).rowP (.head _) p29).fld owGModR.f0) Z (tp Z) Z)<|rc Z Z (qf (opds:=[.tmp 44]) Z Z Z (.cons (tp Z) .nil))<|.nil) (by
 intro i hi x d hx
 simp only[List.mem_cons,List.not_mem_nil,or_false] at hi
 rcases hi with rfl
 all_goals (injection hx with hx;injection hx with h1 h2;subst h1;subst h2;rfl)) [1,36,40,45] [(0,0)] Z iT (λ _ _ j=>?_)
   refine j.mvG (s:=40) (sb:=0) 0 1 ((PV.root.box Z).fld owMachine.f7) (.head _) (yJ Z Z) [1,36,45] [] λ _ H33 j=>?_
   refine j.tipR (s:=40) 1 (by first | (simp;done) | exact oD rfl) [0] λ g34 j=>?_
   have⟨v37,p37,h⟩:=bs h
   refine j.apA 1 y7 p37 [1,36] [0] λ g36 _ _ _ j=>?_
   refine j.zh 2 [(0,0),(46,1)] λ _ _ j=>?_
   have j:=j.tipW (s:=46) 1 [0]
   refine j.shA 0 46 0 1 (tp Z) [1] [] (λ _ _ j=>Kb ?_)
   cases h
   exact fz
  cases h
  exact fz
 rintro _ _ ⟨_,Q,R,j⟩
 have h:=k14
 refine j.zo [(0,0)] λ _ _ j=>?_
 have j:=j.asA 0 0 (xj (owMachine.imp4 (yR (λ _ h=>(.tail _ h))))) []
 exact j.xF 0 0 h
def yD(x0:Machine)(x1:Str):Option (Machine×Spec):=
(yQ x1).bind λ v3=>
if(decide (v3=(⟨[]⟩:Str)))=true then((ZL x0.t x0.path (⟨[]⟩:Str) x1).bind λ v9=>
some (x0,v9))
else((zT x0 v3).bind λ v14=>
(gO (cmpI .lss v14 0 == false) (atI x0.modules v14)).bind λ _v18=>
(gO (cmpI .lss v14 0 == false) (x0.modules[v14.toNat]?)).bind λ v20=>
if(cmpI .lss v14 0||cmpI .eql v20.x.kind 1)=true then((wN).bind λ v27=>
some (x0,v27))
else((atI x0.modules v14).bind λ _v34=>
(x0.modules[v14.toNat]?).bind λ v36=>
(jr x1).bind λ v37=>
(ZL x0.t v36.x.roots v3 v37).bind λ v38=>
some (x0,v38)))
theorem Yf{r:Machine×Spec}(h:yD x0 x1=some r):FnS prog 96 (oMac ps) ⟨x0⟩ [dt x1] ⟨r.1⟩ (.frz (dt r.2)):=by
 refine fnSB (fn:=f96) 0 2 func96 Z Z (λ M G _ b0 _ j=>wqw (Ka ?_))
 refine j.alA 1 XQ [1] [0] (λ b2 _ _ _ j=>Kb ?_)
 have⟨v3,p3,h⟩:=bs h
 refine j.zo [(0,0),(4,1)] λ _ _ j=>?_
 refine j.zd [(0,0),(4,1)] h (λ _ _ j h=>?_) λ _ _ j h=>?_
 ·have⟨v9,p9,h⟩:=bs h
  refine j.drnA (D:=[_,_,_,_,_,_,_,_,_,_,_,_,_,_]) zP 14 [[(0,nS)],[(11,0)],[(12,1)],[(13,2),(0,nS)],[(0,nS)],[(15,4)],[(16,5)],[(17,6),(0,nS)],[(1,nS)],[(0,nS)],[(20,9)],[(21,10)],[(22,11),(0,nS)],[(14,3),(18,7),(19,8),(23,12)],[(4,nS),(24,13)]] [24] [(0,0),(4,1)] (λ _ _ j=>?_) (hs:=rc Z Z (oM Z (zN Z))<|rc Z Z (xNc Z (tp Z))<|rc Z Z (xFa Z kF150_0 (tp Z))<|rc Z Z (xLf (sb:=0) ((PV.root.box Z).fld owMachine.f0) Z (tp Z) Z)<|rc Z Z (oM Z (zN Z))<|rc Z Z (xNc Z (tp Z))<|rc Z Z (xFa Z kF150_1 (tp Z))<|rc Z Z (xLf (sb:=0) ((PV.root.box Z).fld owMachine.f1) Z (tp Z) Z)<|rc Z Z (oM Z (tp Z))<|rc Z Z (oM Z (zN Z))<|rc Z Z (xNc Z (tp Z))<|rc Z Z (xFa Z kF150_2 (tp Z))<|rc Z Z (OpRel.nilf (xLf (sb:=0) ((PV.root.box Z).fld owMachine.f2) Z (tp Z) Z))<|rc Z Z (zC (l:=[.tmp 14,.tmp 18,_,.tmp 19,.tmp 23]) Z (.cons (tp Z) (.cons (tp Z) (.cons (yH) (.cons (tp Z) (.cons (tp Z) .nil))))) (QB p9))<|.nil)
  refine j.stA 4 1 FldS.id (tp Z) [] [0] (λ _ _ j=>Kb ?_)
  exact j.xC 0 0 h
 have⟨v14,p14,h⟩:=bs h
 refine j.zo [(0,0),(4,1)] (λ _ _ j=>?_) (hs:=sZ 2 (r:=by exact sc Z (yE (l:=[.tmp 25,.tmp 26]) j.ob.sub Z (.cons (lendA (sb:=0) j.ob 0 (tp Z) Z iI) (.cons (xq j.ob.sub (tp Z)) .nil)) (yl p14) xa)<|segZ))
 have⟨v18,p18,v20,p20,h⟩:=Kg h
 refine j.hdF (s:=0) 0 (cmpI .lss v14 (0:Int) == false) (λ hg=>((PV.root.box Z).fld owMachine.f4)) [4] λ g17 A17 _ hA17 j=>?_
 refine j.mintP (s:=0) 0 (qD (owMachine.impE4 (impE_pinI (c:=(cmpI .lss v14 (0:Int) == false)) (λ hg=>zG (yi (gh hg p18)).2)))) [4] λ b19 j=>?_
 refine j.zo [(0,0),(4,1)] (λ _ _ j=>?_) (hs:=sc Z (oM Z (tp Z))<|sc Z (oCI Z (tp Z) cI)<|sc Z (oM Z (tp Z))<|sg Z Z (λ hg=>oM Z (zN Z))<|sg Z Z (λ hg=>xNc Z (zp hg Z))<|sg Z Z (λ hg=>xFa Z Y7 (zp hg Z))<|sg Z Z (λ hg=>xLc (sb:=0) (.head _) hg Z Z (zp hg Z) Z)<|sg Z Z (λ hg=>oM Z (tp Z))<|sg Z Z (λ hg=>xIa (g:=g17) Z Jq (zp hg Z) (zp hg Z) Z (λ h=>hA17 h hg) (gh hg p18))<|sg Z Z (λ hg=>xLdP (sb:=0) ((PV.root.box Z).fld owMachine.f4) (.head _) hg (λ h=>hA17 h hg) (pinI_at hg) (yi (gh hg p18)).2 (Nat.mul_one _) Z XK (zp hg Z) Z)<|sg Z Z (λ hg=>xNc Z (zp hg Z))<|sg Z Z (λ hg=>xFa Z JQ (zp hg Z))<|sg Z Z (λ hg=>xLf (sb:=0) ((((PV.root.box Z).fld owMachine.f4).rowP (pinI_at hg) (gh hg p20)).fld owGModR.f1) Z (zp hg Z) Z)<|sg Z Z (λ hg=>oCI Z (zp hg Z) cI)<|sc Z (ZD Z (tp Z) (zb Z))<|.nil)
 have j:=j.ncf (s:=0) 0 [4]
 refine j.cq h (λ h=>?_) λ h=>?_
 ·refine Ka ?_
  have⟨v27,p27,h⟩:=bs h
  refine j.zh 1 [(0,0),(4,1)] λ _ _ j=>?_
  refine j.stA 4 1 FldS.id (tp Z) [] [0] (λ _ _ j=>Kb ?_)
  have j:=j.asA 0 0 (xj (owMachine.imp4 (yR (λ _ h=>(pinI_of h))))) [4]
  exact j.xC 0 0 h
 have⟨v34,p34,v36,p36,h⟩:=Kg h
 have⟨v37,p37,v38,p38,h⟩:=Kg h
 refine j.hdF (s:=0) 0 true (λ _=>((PV.root.box Z).fld owMachine.f4)) [4] λ g33 A33 _ hA33 j=>?_
 refine j.mintP (s:=0) 0 (qD (owMachine.impE4 (Zh (zG (yi p34).2)))) [4] λ b35 j=>?_
 refine j.drnA (D:=[_,_,_,_,_,_,_,_,_,_,_,_,_,_,_,_,_,_,_,_,_,_]) zP 22 [[(0,nS)],[(44,0)],[(45,1)],[(46,2),(0,nS)],[(0,nS)],[(48,4)],[(49,5)],[(50,6),(0,nS)],[(6,nS)],[(51,7),(52,8)],[(53,9),(0,nS)],[(54,10)],[(55,11),(0,nS)],[(56,12),(0,nS)],[(5,nS)],[(1,nS)],[(59,15)],[(0,nS)],[(61,17)],[(62,18)],[(63,19),(0,nS)],[(47,3),(57,13),(58,14),(60,16),(64,20)],[(4,nS),(65,21)]] [65] [(0,0),(4,1)] (λ _ _ j=>?_) (hs:=rc Z Z (oM Z (zN Z))<|rc Z Z (xNc Z (tp Z))<|rc Z Z (xFa Z kF150_0 (tp Z))<|rc Z Z (xLf (sb:=0) ((PV.root.box Z).fld owMachine.f0) Z (tp Z) Z)<|rc Z Z (oM Z (zN Z))<|rc Z Z (xNc Z (tp Z))<|rc Z Z (xFa Z Y7 (tp Z))<|rc Z Z (xLc (sb:=0) (.head _) Z Z Z (tp Z) Z)<|rc Z Z (oM Z (tp Z))<|rc Z Z (xIa (g:=g33) Z Jq (tp Z) (tp Z) Z (λ h=>hA33 h Z) p34)<|rc Z Z (xLdP (sb:=0) ((PV.root.box Z).fld owMachine.f4) (.head _) Z (λ h=>hA33 h Z) (.head _) (yi p34).2 (Nat.mul_one _) Z XK (tp Z) Z)<|rc Z Z (xNc Z (tp Z))<|rc Z Z (xFa Z Q1 (tp Z))<|rc Z Z (xLf (sb:=0) ((((PV.root.box Z).fld owMachine.f4).rowP (.head _) p36).fld owGModR.f2) Z (tp Z) Z)<|rc Z Z (oM Z (tp Z))<|rc Z Z (oM Z (tp Z))<|rc Z Z (zC (l:=[.tmp 59]) Z (.cons (tp Z) .nil) (W0 p37))<|rc Z Z (oM Z (zN Z))<|rc Z Z (xNc Z (tp Z))<|rc Z Z (xFa Z kF150_2 (tp Z))<|rc Z Z (OpRel.nilf (xLf (sb:=0) ((PV.root.box Z).fld owMachine.f2) Z (tp Z) Z))<|rc Z Z (zC (l:=[.tmp 47,.tmp 57,.tmp 58,.tmp 60,.tmp 64]) Z (.cons (tp Z) (.cons (tp Z) (.cons (tp Z) (.cons (tp Z) (.cons (tp Z) .nil))))) (QB p38))<|.nil)
 refine j.stA 4 1 FldS.id (tp Z) [] [0] (λ _ _ j=>Kb ?_)
 have j:=j.ncf (s:=0) 0 [4]
 have j:=j.asA 0 0 (xj (owMachine.imp4 (yR (λ _ h=>(.tail _ (pinI_of h)))))) [4]
 exact j.xC 0 0 h
end Go.Proofs.YtbbfcjifihknnaaGreatDoor
