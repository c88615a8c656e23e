import Derived.Test.YtandbaloaenciaaGreatDoorRD
import Derived.Test.YtandbaloaenciaaGreatDoorRFb
import Derived.Test.YtandbaloaenciaaGreatDoorRO
import Derived.Test.YtandbaloaenciaaGreatDoorRC
import Derived.Test.YtandbaloaenciaaGreatDoorRB
namespace Go.Proofs.YtandbaloaenciaaGreatDoor
open Go.RowKit Tryz
variable{r:Bool}{f:File}{ps:List (Nat×Nat)}{rs:List Int}{l:List Str}{x0:Machine}{p s x1 x2:Str}{t:Tree}{c:UInt8}
instance (s:Str):Decidable (mid s):=by unfold mid;infer_instance
instance (s:Stmt):Decidable (smStmt s):=by unfold smStmt;infer_instance
instance (f:File):Decidable (smFile f):=by unfold smFile;infer_instance
instance (t:Tree):Decidable (jZ t):=by unfold jZ;infer_instance
@[reducible] def oAtt:Ow (List GAttr):=Ow.row 198 (Ow.frz (α:=GAttr))
@[reducible] def oMac(ps:List (Nat×Nat)):Ow (Bx Machine):=Ow.box (owMachine (Ow.rowP ps 154 (owGModR oAtt)) (Ow.row 3 (Ow.frz (α:=Int))) (Ow.row 161 (Ow.frz (α:=GEvent))) (Ow.row 9 (Ow.frz (α:=Str))))
@[reducible] def oRun:Ow (Bx Runner):=Ow.box (owRunner (Ow.row 147 (owGModR (Ow.row 198 (Ow.frz (α:=GAttr))))) (Ow.row 161 (Ow.frz (α:=GEvent))) (Ow.row 3 (Ow.frz (α:=Int))))
def zX(t:Tree):Option Bool:=if jZ t then some (zI t) else none
theorem wL(h:zX t=some r):Fn prog 81 [dt t] (dt r):=by
 unfold zX at h
 split at h
 ·rename_i hc
  injection h with h
  subst h
  exact zbT _ hc
 ·cases h
def yJ(s:Str):Option Bool:=if mid s then some (zi s) else none
theorem qP(h:yJ s=some r):Fn prog 149 [dt s] (dt r):=by
 unfold yJ at h
 split at h
 ·rename_i hc
  injection h with h
  subst h
  exact Z4 _ hc
 ·cases h
def ye(s:Str):Option Bool:=if mid s then some (zj s) else none
theorem Ys(h:ye s=some r):Fn prog 113 [dt s] (dt r):=by
 unfold ye at h
 split at h
 ·rename_i hc
  injection h with h
  subst h
  exact qe _ hc
 ·cases h
def Qn(s:Str)(p:Str):Option Bool:=if p.l.length<=1152921504606846976 then some (under s p) else none
theorem spec_under_w(h:Qn s p=some r):Fn prog 232 [dt s,dt p] (dt r):=by
 unfold Qn at h
 split at h
 ·rename_i hc
  injection h with h
  subst h
  exact zaS _ _ hc
 ·cases h
def Z8(s:Str)(c:UInt8):Option (List Str):=if mid s then some (zx s c) else none
theorem zdC{r:List Str}(h:Z8 s c=some r):Fn prog 153 [dt s,dt c] (dt r):=by
 unfold Z8 at h
 split at h
 ·rename_i hc
  injection h with h
  subst h
  exact ZD _ _ hc
 ·cases h
def jC(p:List Int):Option Bool:=if True then some (jy p) else none
theorem XO{p:List Int}(h:jC p=some r):Fn prog 71 [dt p] (dt r):=by
 unfold jC at h
 split at h
 ·rename_i hc
  injection h with h
  subst h
  exact zbS _
 ·cases h
def xJ(s:Str):Option Str:=if mid s then some (zN s) else none
theorem zaW{r:Str}(h:xJ s=some r):Fn prog 119 [dt s] (dt r):=by
 unfold xJ at h
 split at h
 ·rename_i hc
  injection h with h
  subst h
  exact zdy _ hc
 ·cases h
def Zu(s:Str):Option Str:=if mid s then some (jh s) else none
theorem zah{r:Str}(h:Zu s=some r):Fn prog 124 [dt s] (dt r):=by
 unfold Zu at h
 split at h
 ·rename_i hc
  injection h with h
  subst h
  exact spec_last_ok _ hc
 ·cases h
def qg(s:Str):Option (List Str):=if mid s then some (Jp s) else none
theorem zb1{r:List Str}(h:qg s=some r):Fn prog 231 [dt s] (dt r):=by
 unfold qg at h
 split at h
 ·rename_i hc
  injection h with h
  subst h
  exact spec_above_ok _ hc
 ·cases h
def zai(l:List Str):Option Str:=if wW l<=1152921504606846976 then some (join l) else none
theorem spec_join_w{r:Str}(h:zai l=some r):Fn prog 161 [dt l] (dt r):=by
 unfold zai at h
 split at h
 ·rename_i hc
  injection h with h
  subst h
  exact Qj _ hc
 ·cases h
def jr(p:Str)(s:Str):Option Str:=if p.l.length+s.l.length<=1152921504606846976 then some (child p s) else none
theorem Qo{r:Str}(h:jr p s=some r):Fn prog 151 [dt p,dt s] (dt r):=by
 unfold jr at h
 split at h
 ·rename_i hc
  injection h with h
  subst h
  exact YG _ _ hc
 ·cases h
def Xm(f:File):Option Str:=if smFile f then some (W0 f) else none
theorem zb2{r:Str}(h:Xm f=some r):Fn prog 198 [dt f] (dt r):=by
 unfold Xm at h
 split at h
 ·rename_i hc
  injection h with h
  subst h
  exact zbo _ hc
 ·cases h
def JH(t:Tree)(f:File):Option Int:=if True then some (yM t.files f) else none
theorem spec_fileAt_w{r:Int}(h:JH t f=some r):Fn prog 117 [dt t,dt f] (dt r):=by
 unfold JH at h
 split at h
 ·rename_i hc
  injection h with h
  subst h
  exact Xj _ _
 ·cases h
def JI  : Option Spec:=if True then some (noSpec) else none
theorem spec_noSpec_w {r:Spec}(h:JI  = some r):Fn prog 163 [] (dt r):=by
 unfold JI at h
 split at h
 ·rename_i hc
  injection h with h
  subst h
  exact Q6
 ·cases h
def JJ(t:Tree)(n:Int)(p:Str):Option Bool:=if p.l.length<=1152921504606846976 then some (Xg t.files n p) else none
theorem spec_hasDir_w{n:Int}(h:JJ t n p=some r):Fn prog 213 [dt t,dt n,dt p] (dt r):=by
 unfold JJ at h
 split at h
 ·rename_i hc
  injection h with h
  subst h
  exact Q7 _ _ _ hc
 ·cases h
def YK(t:Tree)(rs:List Int)(p:Str)(s:Str):Option Spec:=if rs.length<=1099511627776/\p.l.length+s.l.length<=1152921504606846975 then some (YY t.files rs p s) else none
theorem zaX{r:Spec}(h:YK t rs p s=some r):Fn prog 192 [dt t,dt rs,dt p,dt s] (dt r):=by
 unfold YK at h
 split at h
 ·rename_i hc
  injection h with h
  subst h
  exact zdz _ _ _ _ hc.1 hc.2
 ·cases h
instance:Ct1 prog 81 dt dt zX:=⟨λ h=>wL h⟩
instance:Ct1 prog 149 dt dt yJ:=⟨λ h=>qP h⟩
instance:Ct1 prog 113 dt dt ye:=⟨λ h=>Ys h⟩
instance:Ct2 prog 232 dt dt dt Qn:=⟨λ h=>spec_under_w h⟩
instance:Ct2 prog 153 dt dt dt Z8:=⟨λ h=>zdC h⟩
instance:Ct1 prog 71 dt dt jC:=⟨λ h=>XO h⟩
instance:Ct1 prog 119 dt dt xJ:=⟨λ h=>zaW h⟩
instance:Ct1 prog 124 dt dt Zu:=⟨λ h=>zah h⟩
instance:Ct1 prog 231 dt dt qg:=⟨λ h=>zb1 h⟩
instance:Ct1 prog 161 dt dt zai:=⟨λ h=>spec_join_w h⟩
instance:Ct2 prog 151 dt dt dt jr:=⟨λ h=>Qo h⟩
instance:Ct1 prog 198 dt dt Xm:=⟨λ h=>zb2 h⟩
instance:Ct2 prog 117 dt dt dt JH:=⟨λ h=>spec_fileAt_w h⟩
instance:Ct3 prog 213 dt dt dt dt JJ:=⟨λ h=>spec_hasDir_w h⟩
instance:Ct4 prog 192 dt dt dt dt dt YK:=⟨λ h=>zaX h⟩
instance:Ct2 prog 224 dt dt dt yX:=⟨λ h=>Wt h⟩
attribute [local irreducible] OpRel OpdR
set_option maxRecDepth 10000
set_option maxHeartbeats 1600000
theorem zaY:slB prog 119 1=true:=by kernel_rfl
theorem JY:tyB prog 154 false 1=true:=by kernel_rfl
theorem zb3:fldB prog 147 3 3=true:=by kernel_rfl
theorem zaF:fldB prog 147 0 0=true:=by kernel_rfl
theorem WG:fldB prog 122 4 4=true:=by kernel_rfl
theorem kN133:fnB prog 133=true:=by kernel_rfl
theorem kF147_1:fldB prog 147 1 1=true:=by kernel_rfl
theorem X3:fldB prog 147 5 5=true:=by kernel_rfl
theorem JZ:slB prog 145 3=true:=by kernel_rfl
theorem kF198_0:fldB prog 198 0 0=true:=by kernel_rfl
theorem zb4:fldB prog 198 1 1=true:=by kernel_rfl
theorem kN91:fnB prog 91=true:=by kernel_rfl
theorem kF122_6:fldB prog 122 6 6=true:=by kernel_rfl
theorem kD161_0_1:∀ {M:Nat->Prop} {look:Nat->Option Dt} {o:Oper} {q0 q1:Operand} {y0:Int} {y1:Str},o.op=.build 161 #[(0,q0),(1,q1)]->OpdR M look q0 (dt y0)->OpdR M look q1 (dt y1)->OpRel prog M look o (dt (⟨y0,y1⟩:GEvent)):=@λ _ _ _ q0 q1 y0 y1 ho h0 h1=>zT (parts:=[(0,q0),(1,q1)]) (ns:=[1,1]) (zs:=zpGEvent) Z ho (λ w a hl=>FA ⟨(by decide:0<2),Rep.len (α:=Int) (OpdR.cells h0 hl)⟩ (FA ⟨(by decide:1<2),Rep.len (α:=Str) (OpdR.cells h1 hl)⟩ FN)) (λ w a hl=>GEvent.parts (x:=(⟨y0,y1⟩:GEvent)) (OpdR.cells h0 hl) (OpdR.cells h1 hl))
instance iF122_6MaA:FldO prog 122 6 6:=⟨kF122_6⟩
def Zb(x0:List GCmd)(s4:Int):Option (Int⊕(Unit⊕Bool)):=
if(cmpI .lss s4 (x0.length:Int))=true then((atI x0 s4).bind λ v9=>
(yb v9.kind (0:Int) (2:Int)).bind λ v16=>
(gO ((!v16) == false) (ya v9.name)).bind λ v17=>
if((!v16)||(!v17))=true then(some (.inr (.inr false)))
else((i64 (s4+(1:Int))).bind λ v26=>
some (.inl v26)))
else(some (.inr (.inl ())))
def Wi(x0:List GCmd):Option Bool:=
Option.bind (α:=Unit⊕Bool) (zE (λ s4=>Zb x0 s4) (0:Int)) (Sum.elim (λ _b2=>
some (cmpI .leq (x0.length:Int) 10)) some)
theorem zaj{x0:List GCmd}(h:Wi x0=some r):Fn prog 46 [dt x0] (dt r):=by
 refine fq1 1 func46 λ M w0 _ j=>?_
 refine j.z1 (λ _ _ j=>za ?_)
 refine j.jbq 1 [0] (λ _=>[]) (λ _ _=>[]) h (λ o2 p2 k2=>?_) λ b2 q2 _ _ _ j h=>?_
 ·refine j.z1 λ _ _ j=>?_
  refine wql p2 (λ s4 a w=>∃ M1 Q,Sx (Frm.of w0) 25 M M1 [oneB Q] [(0,dt x0),(5,dt x0),(6,dt (x0.length:Int)),(7,dt s4)] [] a w) fx ?_
  rintro s4 z4 _ _ ⟨_,Q,j⟩ hs4 hx4
  have h:Zb x0 s4=some z4:=hs4
  unfold Zb at h
  refine j.zc h (λ _ _ j h=>?_) λ _ _ j h=>?_
  ·refine Ka ?_
   have⟨v9,p9,h⟩:=bs h
   refine j.zg 2 λ _ _ j=>?_
   refine j.alA 0 zrGCmd [0,5,6,7,10] [] λ b13 _ _ _ j=>?_
   refine j.stA 4 0 FldS.id (tp Z) [0,5,6,7] [] (λ _ _ j=>Kb ?_)
   have⟨v16,p16,v17,p17,h⟩:=Kg h
   refine j.zc h (λ _ _ j h=>?_) (λ _ _ j h=>?_) (hs:=sZ 2 (r:=by exact sc Z (oK (yP p16))<|sZ 4 (r:=by exact sg Z Z (λ hg=>oK (wI (gh hg p17)))<|segZ)))
   ·exact j.ze (jo (lo h hx4) k2)
   have⟨v26,p26,h⟩:=bs h
   exact j.zn [] h
  have h:=lo h hx4
  exact flz h
 exact j.ze h
instance:Ct1 prog 46 dt dt Wi:=⟨λ h=>zaj h⟩
def yK(x0:File):Option (List Stmt):=
some x0.body
theorem WA{x0:File}{r:List Stmt}(h:yK x0=some r):Fn prog 91 [dt x0] (dt r):=by
 refine fq1 0 func91 λ M _ _ j=>?_
 refine j.z1 (λ _ _ j=>?_) (hs:=sZ 1 (r:=by exact sc Z (oA Z (jl (α:=Stmt)))<|.nil))
 exact j.ze h
instance:Ct1 prog 91 dt dt yK:=⟨λ h=>WA h⟩
def zQ(x0:List (Bx GMod))(x1:(GMod->Option Bool))(s4:Int):Option (Int⊕(Unit⊕Int)):=
if(cmpI .lss s4 (x0.length:Int))=true then((atI x0 s4).bind λ v10=>
(x1 v10.x).bind λ v11=>
if v11=true then(some (.inr (.inr s4)))
else((i64 (s4+(1:Int))).bind λ v20=>
some (.inl v20)))
else(some (.inr (.inl ())))
def yU(x0:List (Bx GMod))(x1:(GMod->Option Bool)):Option Int:=
Option.bind (α:=Unit⊕Int) (zE (λ s4=>zQ x0 x1 s4) (0:Int)) (Sum.elim (λ _b2=>
some (-1:Int)) some)
theorem Zw{x0:List (Bx GMod)}{x1:(GMod->Option Bool)}{r:Int}(h:yU x0 x1=some r):Fn prog 132 [dt x0,dfq1 prog x1] (dt r):=by
 refine fq1 0 func132 λ M w0 _ j=>?_
 refine j.z1 (λ _ _ j=>za ?_)
 refine j.jb [] (λ _=>[]) h (λ o2 p2 k2=>?_) λ b2 _ _ j h=>?_
 ·refine j.z1 λ _ _ j=>?_
  refine wql p2 (λ s4 a w=>Sx (Frm.of w0) 19 M M [] [(0,dt x0),(7,dt (x0.length:Int)),(8,dt s4),(1,dfq1 prog x1)] [] a w) (j.sel0 [0,7,8,1]) ?_
  rintro s4 z4 _ _ j hs4 hx4
  have h:zQ x0 x1 s4=some z4:=hs4
  unfold zQ at h
  refine j.zc h (λ _ _ j h=>?_) λ _ _ j h=>?_
  ·refine j.z1 λ _ _ j=>?_
   have⟨v10,p10,v11,p11,h⟩:=Kg h
   refine j.zc h (λ _ _ j h=>?_) (λ _ _ j h=>?_) (hs:=sZ 4 (r:=by exact sc Z (OpRel.bx (zr Z (ht:=JY) (tp Z)))<|sc Z (xCaQ1 Z (tp Z) (tp Z) p11)<|.nil))
   ·exact j.ze (jo (lo h hx4) k2)
   have⟨v20,p20,h⟩:=bs h
   exact j.zn [] h
  have h:=lo h hx4
  exact flz h
 exact j.ze h
def yN(x0:GMod)(x1:Str):Option Bool:=
some (x0.cached&&decide (x0.name=x1))
theorem Y4{x0:GMod}(h:yN x0 x1=some r):Fn prog 133 [dptr x0,dptr x1] (dt r):=by
 refine fq1 0 func133 λ M _ _ j=>?_
 refine j.z1 λ _ _ j=>?_
 refine j.zw λ _ _ j=>?_
 exact j.ret Z Z h
instance:Ct2 prog 133 dptr dptr dt yN:=⟨λ h=>Y4 h⟩
def zZ(x0:Machine)(x1:Str):Option Int:=
(yU x0.modules (λ a0=>yN a0 x1)).bind λ v2=>
some v2
theorem xb{r:Int}(h:zZ x0 x1=some r):Fn prog 92 [dptr x0,dt x1] (dt r):=by
 refine fq1 0 func92 λ M _ a0 j=>?_
 refine j.z1 λ _ _ j=>?_
 have⟨v2,p2,h⟩:=bs h
 exact j.ze h (hs:=sZ 4 (r:=by exact sc Z (xMkQ1 (l:=[.tmp 3]) (g:=(λ a0=>yN a0 x1)) Z kN133 (.cons (tp Z) .nil) Z (λ _ _ h=>Y4 h))<|sc Z (oK (Zw p2))<|segZ))
instance:Ct2 prog 92 dptr dt dt zZ:=⟨λ h=>xb h⟩
def yw(s17:Str×Int):Option ((Str×Int)⊕Str):=
if(cmpI .gtr s17.2 1&&decide (s17.1≠(⟨[]⟩:Str)))=true then((xl s17.1).bind λ v22=>
(i64 (s17.2 - (1:Int))).bind λ v25=>
some (.inl (v22,v25)))
else(some (.inr s17.1))
def jN(x0:Str)(x1:Int)(x2:Str):Option Str:=
(y8 x0).bind λ v2=>
(gO ((!v2) == false) (y8 x2)).bind λ v3=>
(gO (((!v2)||(!v3)) == false) (yb x1 (0:Int) (4:Int))).bind λ v4=>
if(((!v2)||(!v3))||(!v4))=true then(some (⟨[]⟩:Str))
else(if cmpI .eql x1 0 then(some x2)
else(Option.bind (α:=Str) (zE (λ s17=>yw s17) (x0,x1)) λ o16=>
if(decide (o16=(⟨[]⟩:Str)))=true then(some (⟨[]⟩:Str))
else(Option.bind (α:=Str) (if(decide (x2≠(⟨[]⟩:Str)))=true then((catO (⟨[46]⟩:Str) x2).bind λ v38=>
(catO o16 v38).bind λ v39=>
some v39)
else(some o16)) λ o34=>
(ya o34).bind λ v44=>
if(!v44)=true then(some (⟨[]⟩:Str))
else(some o34))))
theorem Ja{x0:Str}{x1:Int}{r:Str}(h:jN x0 x1 x2=some r):Fn prog 174 [dt x0,dt x1,dt x2] (dt r):=by
 refine fq1 0 func174 λ M w0 _ j=>?_
 refine j.z1 λ _ _ j=>?_
 have⟨v2,p2,v3,p3,h⟩:=Kg h
 have⟨v4,p4,h⟩:=bs h
 refine j.zc h (λ _ _ j h=>?_) (λ _ _ j h=>?_) (hs:=sZ 1 (r:=by exact sc Z (oK (wJ p2))<|sZ 3 (r:=by exact sg Z Z (λ hg=>oK (wJ (gh hg p3)))<|sZ 4 (r:=by exact sg Z Z (λ hg=>oK (yP (gh hg p4)))<|segZ))))
 ·exact j.ze h
 refine j.zc h (λ _ _ j h=>?_) λ _ _ j h=>?_
 ·exact j.ze h
 refine wqk (za ?_)
 refine j.jm [2] (λ o16=>[(0,dt o16)]) h (λ o16 p16=>?_) λ o16 _ _ j h=>?_
 ·refine wql p16 (λ s17 a w=>Sx (Frm.of w0) 45 M M [] [(0,dt s17.1),(1,dt s17.2),(2,dt x2)] [] a w) (j.sel0 [0,1,2]) ?_
  rintro s17 z17 _ _ j hs17 hx17
  have h:yw s17=some z17:=hs17
  unfold yw at h
  refine j.zc h (λ _ _ j h=>?_) λ _ _ j h=>?_
  ·have⟨v22,p22,h⟩:=bs h
   refine j.z1 λ _ _ j=>?_
   have⟨v25,p25,h⟩:=bs h
   exact j.zn [] h
  have h:=lo h hx17
  obtain rfl:=Option.some.inj h
  exact fz
 refine j.zc h (λ _ _ j h=>?_) λ _ _ j h=>?_
 ·exact j.ze h
 refine wqk (za ?_)
 refine j.jm [] (λ o34=>[(0,dt o34)]) h (λ o34 p34=>?_) λ o34 _ _ j h=>?_
 ·refine j.zc p34 (λ _ _ j h=>?_) λ _ _ j h=>?_
  ·have⟨v38,p38,h⟩:=bs h
   have⟨v39,p39,h⟩:=bs h
   refine j.z1 λ _ _ j=>?_
   obtain rfl:=Option.some.inj h
   exact fz
  obtain rfl:=Option.some.inj h
  exact fz
 have⟨v44,p44,h⟩:=bs h
 refine j.zc h (λ _ _ j h=>?_) λ _ _ j h=>?_
 ·exact j.ze h
 exact j.ze h
instance:Ct3 prog 174 dt dt dt dt jN:=⟨λ h=>Ja h⟩
def xX(x0:GMod):Option Str:=
if cmpI .eql x0.kind 1 then((xl x0.name).bind λ v5=>
some v5)
else(some x0.name)
theorem Y5{x0:GMod}{r:Str}(h:xX x0=some r):Fn prog 175 [dptr x0] (dt r):=by
 refine fq1 0 func175 λ M _ _ j=>?_
 refine j.z1 λ _ _ j=>?_
 refine j.zc h (λ _ _ j h=>?_) λ _ _ j h=>?_
 ·have⟨v5,p5,h⟩:=bs h
  exact j.ze h
 exact j.ze h
instance:Ct1 prog 175 dptr dt xX:=⟨λ h=>Y5 h⟩
def xG(x0:GMod)(x1:Str)(s6:GVal×Int):Option ((GVal×Int)⊕(GVal⊕(GVal×Bool))):=
if(cmpI .lss s6.2 (x0.attrs.length:Int))=true then((atI x0.attrs s6.2).bind λ v11=>
if(decide (v11.name=x1))=true then(some (.inr (.inr (v11.value,true))))
else((i64 (s6.2+(1:Int))).bind λ v27=>
some (.inl (s6.1,v27))))
else(some (.inr (.inl s6.1)))
def xP(x0:GMod)(x1:Str):Option (GVal×Bool):=
Option.bind (α:=GVal⊕(GVal×Bool)) (zE (λ s6=>xG x0 x1 s6) (zGVal,(0:Int))) (Sum.elim (λ _b4=>
some ((⟨0,0⟩:GVal),false)) some)
theorem wM{x0:GMod}{r:GVal×Bool}(h:xP x0 x1=some r):Fn prog 176 [dptr x0,dt x1] (dtup [dt r.1,dt r.2]):=by
 refine fq1 2 func176 λ M w0 _ j=>?_
 refine Ka ?_
 refine j.alA 0 Qi [0,1] [] λ b2 _ _ _ j=>?_
 refine j.zh 1 [(4,0)] (λ _ _ j=>Kb (za ?_))
 refine j.jbq 2 [] (λ _=>[]) (λ b4 q=>[(4,0,dbox (q 0) 0 b4)]) h (λ o4 p4 k4=>?_) λ b4 q4 _ _ _ j h=>?_
 ·refine j.zo [(4,0)] λ _ _ j=>?_
  refine wql p4 (λ s6 a w=>∃ M1 Q R,Sx (Frm.of w0) 25 M M1 [oneB Q,oneB R] [(1,dt x1),(11,dt x0.attrs),(12,dt (x0.attrs.length:Int)),(13,dt s6.2)] [(4,0,dbox Q 0 s6.1)] a w) fx ?_
  rintro s6 z6 _ _ ⟨_,Q,R,j⟩ hs6 hx6
  have h:xG x0 x1 s6=some z6:=hs6
  unfold xG at h
  refine j.zd [(4,0)] h (λ _ _ j h=>?_) λ _ _ j h=>?_
  ·refine Ka ?_
   have⟨v11,p11,h⟩:=bs h
   refine j.zh 2 [(4,0)] λ _ _ j=>?_
   refine j.alA 1 zrGAttr [1,11,12,13,16] [4] λ b15 _ _ _ j=>?_
   refine j.stA 7 1 FldS.id (tp Z) [1,11,12,13] [4] (λ _ _ j=>Kb ?_)
   refine j.zd [(4,0),(7,1)] h (λ _ _ j h=>?_) λ _ _ j h=>?_
   ·refine Ka ?_
    refine j.zh 2 [(4,0)] λ _ _ j=>?_
    refine j.stA 4 0 FldS.id (tp Z) [] [] λ _ _ j=>?_
    refine j.zh 1 [(4,0)] (λ _ _ j=>Kb ?_)
    have h:=lo h hx6
    have h:=jo h k4
    obtain rfl:=Option.some.inj h
    exact j.y2
   have⟨v27,p27,h⟩:=bs h
   exact j.zn [(4,0)] h
  have h:=lo h hx6
  exact flz h
 refine Ka ?_
 refine j.zh 1 [(4,0)] (λ _ _ j=>?_) (hs:=sc Z (zT (parts:=[]) (ns:=[1,1]) (zs:=zpGVal) Z Z (λ w a hl=>by simp) (λ w a hl=>GVal.parts (x:=(⟨0,0⟩:GVal)) ⟨Z,trivial⟩ ⟨Z,trivial⟩))<|.nil)
 refine j.stA 4 0 FldS.id (tp Z) [] [] λ _ _ j=>?_
 refine j.zh 1 [(4,0)] (λ _ _ j=>Kb ?_)
 obtain rfl:=Option.some.inj h
 exact j.y2
instance:Ct2 prog 176 dptr dt (λ r=>dtup [dt r.1,dt r.2]) xP:=⟨λ h=>wM h⟩
def we(x0:Str)(x1:Str):Option (Str×Str×Bool):=
(yX x0 x1).bind λ v2=>
if cmpI .geq v2 0 then((cutHO x0 v2).bind λ v8=>
(i64 (v2+(x1.l.length:Int))).bind λ v9=>
(cutLO x0 v9).bind λ v10=>
some (v8,v10,true))
else(some (x0,(⟨[]⟩:Str),false))
theorem Jb{x0:Str}{r:Str×Str×Bool}(h:we x0 x1=some r):Fn prog 205 [dt x0,dt x1] (dtup [dt r.1,dt r.2.1,dt r.2.2]):=by
 refine fq1 0 func205 λ M _ _ j=>?_
 refine j.z1 λ _ _ j=>?_
 have⟨v2,p2,h⟩:=bs h
 refine j.z1 λ _ _ j=>?_
 refine j.zc h (λ _ _ j h=>?_) λ _ _ j h=>?_
 ·have⟨v8,p8,h⟩:=bs h
  have⟨v9,p9,v10,p10,h⟩:=Kg h
  refine j.zw λ _ _ j=>?_
  obtain rfl:=Option.some.inj h
  exact j.ret3 (j.frozen (t:=4)) (j.frozen (t:=5)) (j.frozen (t:=6)) ⟨Z,Z,Z⟩
 refine j.z1 λ _ _ j=>?_
 obtain rfl:=Option.some.inj h
 exact j.ret3 (j.frozen (t:=4)) (j.frozen (t:=5)) (j.frozen (t:=6)) ⟨Z,Z,Z⟩
instance:Ct2 prog 205 dt dt (λ r=>dtup [dt r.1,dt r.2.1,dt r.2.2]) we:=⟨λ h=>Jb h⟩
def YL(x0:Str)(x1:Str):Option (Str×Str×Bool):=
(we x0 x1).bind λ v2=>
some (v2.1,v2.2.1,v2.2.2)
theorem strings_Cut_w{x0:Str}{r:Str×Str×Bool}(h:YL x0 x1=some r):Fn prog 173 [dt x0,dt x1] (dtup [dt r.1,dt r.2.1,dt r.2.2]):=by
 refine fq1 0 func173 λ M _ _ j=>?_
 refine j.z1 λ _ _ j=>?_
 have⟨v2,p2,h⟩:=bs h
 refine j.z1 λ _ _ j=>?_
 obtain rfl:=Option.some.inj h
 exact j.ret3 (j.frozen (t:=4)) (j.frozen (t:=5)) (j.frozen (t:=6)) ⟨Z,Z,Z⟩
instance:Ct2 prog 173 dt dt (λ r=>dtup [dt r.1,dt r.2.1,dt r.2.2]) YL:=⟨λ h=>strings_Cut_w h⟩
def Xn(x0:Tree)(x1:List Int)(x2:Int):Option Machine:=
some (⟨x0,x1,(⟨⟩:Nilf),(⟨yK⟩:FnV File (List Stmt)),[],[],[],[],x2⟩:Machine)
theorem zb5{x0:Tree}{x1:List Int}{x2:Int}{r:Machine}(h:Xn x0 x1 x2=some r):FnN prog 48 [dt x0,dt x1,dt x2] (.ow (oMac []) ⟨r⟩):=by
 refine fnN (fn:=f48) 4 func48 Z Z (λ M _ _ j=>wqw ?_)
 refine j.z1 (λ _ _ j=>?_) (hs:=sZ 1 (r:=by exact sc Z (oA Z opd_nilp)<|.nil))
 refine Ka ?_
 refine j.zg 3 λ _ _ j=>?_
 refine j.bldW (ow:=(owMachine (Ow.rowP [] 154 (owGModR oAtt)) (Ow.row 3 (Ow.frz (α:=Int))) (Ow.row 161 (Ow.frz (α:=GEvent))) (Ow.row 9 (Ow.frz (α:=Str))))) (parts:=[(0,.tmp 7),(1,.tmp 8),(8,.tmp 9),(3,.func 91)]) (ns:=[1,1,1,1,1,1,1,1,1]) (zs:=zpMachine) (x:=(⟨x0,x1,(⟨⟩:Nilf),(⟨yK⟩:FnV File (List Stmt)),[],[],[],[],x2⟩:Machine)) 3 [] (FA ⟨by decide,Rep.len (α:=Tree) (OpdR.cells (tp Z) (λ s y hs=>j.st.has s y hs))⟩ (FA ⟨by decide,Rep.len (α:=List Int) (OpdR.cells (tp Z) (λ s y hs=>j.st.has s y hs))⟩ (FA ⟨by decide,Rep.len (α:=Int) (OpdR.cells (tp Z) (λ s y hs=>j.st.has s y hs))⟩ (FA ⟨by decide,Z⟩ FN)))) (((owMachine (Ow.rowP [] 154 (owGModR oAtt)) (Ow.row 3 (Ow.frz (α:=Int))) (Ow.row 161 (Ow.frz (α:=GEvent))) (Ow.row 9 (Ow.frz (α:=Str))))).more (owMachine.mk (x:=(⟨x0,x1,(⟨⟩:Nilf),(⟨yK⟩:FnV File (List Stmt)),[],[],[],[],x2⟩:Machine)) (OpdR.cells (tp Z) (λ s y hs=>j.st.has s y hs)) (OpdR.cells (tp Z) (λ s y hs=>j.st.has s y hs)) (zrNilf _ _) (OpdR.cells (opd_fnv (opd_fun1 kN91 (λ _ _ h=>WA h))) (λ s y hs=>j.st.has s y hs)) (rowP_zz _ _) (Ow.row_z _ _) (Ow.row_z _ _) (Ow.row_z _ _) (OpdR.cells (tp Z) (λ s y hs=>j.st.has s y hs)) (λ b h1=>(λ h2=>h2.elim (λ h2=>h2.elim) (λ h2=>h2.elim (λ h2=>h2.elim) (λ h2=>h2.elim)))) (λ b h1=>(λ h2=>h2.elim (λ h2=>h2.elim) (λ h2=>h2.elim))) (λ b h1=>(λ h2=>h2.elim))) (λ b=>(λ hb=>hb.elim (λ hb=>hb.elim) (λ hb=>hb.elim (λ hb=>hb.elim) (λ hb=>hb.elim (λ hb=>hb.elim) (λ hb=>hb.elim)))))) [] [] (λ G3 _ _ j=>?_)
 have j:=j.gs (Gs':=[oneB none,oneB none,oneB none,G3])
 have j:=j.gn
 refine j.boxW 0 3 iI [] [] λ b6 _ _ _ _ j=>?_
 have j:=j.gn
 refine j.zh 1 [(6,0)] (λ _ _ j=>Kb ?_)
 have j:=j.unm (s:=6) 0 []
 exact j.rnO 0 (bx1 h)
def xj(x0:Machine)(x1:Int)(x2:Str):Option Machine:=
(appO 24 x0.log ([(⟨x1,x2⟩:GEvent)]:List GEvent)).bind λ v8=>
some ({ x0 with log:=v8 })
theorem qh{x1:Int}{r:Machine}(h:xj x0 x1 x2=some r):FnS prog 137 (oMac ps) ⟨x0⟩ [dt x1,dt x2] ⟨r⟩ .gone:=by
 refine fnSB (fn:=f137) 0 2 func137 Z Z (λ M G _ b0 _ j=>wqw (Ka ?_))
 refine j.hdA 0 0 ((PV.root.box Z).fld owMachine.f6) [] λ g1 A1 _ hA1 j=>?_
 refine j.zh 9 [(0,0)] (λ _ _ j=>?_) (hs:=sZ 7 (r:=by exact sc Z (kD161_0_1 Z (tp Z) (tp Z))<|segZ))
 refine j.mvG (s:=10) (sb:=0) 0 1 ((PV.root.box Z).fld owMachine.f6) (.head _) (yh Z Z) [6,14] [] λ _ H4 j=>?_
 refine j.tipR (s:=10) 1 (by first | (simp;done) | exact oD rfl) [0] λ g5 j=>?_
 have⟨v8,p8,h⟩:=bs h
 refine j.apA 1 yV p8 [6] [0] λ g7 _ _ _ j=>?_
 refine j.zh 2 [(0,0),(15,1)] λ _ _ j=>?_
 have j:=j.tipW (s:=15) 1 [0]
 refine j.shA 0 15 0 1 (tp Z) [] [] (λ _ _ j=>Kb ?_)
 exact(j.rs0 (s:=0) 0 (bx1 h)).2
theorem kD198_0_1:∀ {M:Nat->Prop} {look:Nat->Option Dt} {o:Oper} {q0 q1:Operand} {y0:Str} {y1:GVal},o.op=.build 198 #[(0,q0),(1,q1)]->OpdR M look q0 (dt y0)->OpdR M look q1 (dt y1)->OpRel prog M look o (dt (⟨y0,y1⟩:GAttr)):=@λ _ _ _ q0 q1 y0 y1 ho h0 h1=>zT (parts:=[(0,q0),(1,q1)]) (ns:=[1,2]) (zs:=zpGAttr) Z ho (λ w a hl=>FA ⟨(by decide:0<2),Rep.len (α:=Str) (OpdR.cells h0 hl)⟩ (FA ⟨(by decide:1<2),Rep.len (α:=GVal) (OpdR.cells h1 hl)⟩ FN)) (λ w a hl=>GAttr.parts (x:=(⟨y0,y1⟩:GAttr)) (OpdR.cells h0 hl) (OpdR.cells h1 hl))
theorem kE145:elB prog 145 198 3 32=true:=by kernel_rfl
theorem kF147_4:fldB prog 147 4 4=true:=by kernel_rfl
theorem kF122_7:fldB prog 122 7 7=true:=by kernel_rfl
theorem kT120:tyB prog 120 false 1=true:=by kernel_rfl
theorem kF122_0:fldB prog 122 0 0=true:=by kernel_rfl
theorem kF122_1:fldB prog 122 1 1=true:=by kernel_rfl
theorem kF122_2:fldB prog 122 2 2=true:=by kernel_rfl
theorem kF147_2:fldB prog 147 2 2=true:=by kernel_rfl
instance iF122_4MaB:FldO prog 122 4 4:=⟨WG⟩
instance iF122_7MaB:FldO prog 122 7 7:=⟨kF122_7⟩
instance iF147_0MaB:FldO prog 147 0 0:=⟨zaF⟩
instance iF147_5MaB:FldO prog 147 5 5:=⟨X3⟩
instance iF198_0MaB:FldO prog 198 0 0:=⟨kF198_0⟩
def xH(x0:GMod)(x1:Str)(x2:GVal)(s6:GMod×Int):Option ((GMod×Int)⊕(GMod⊕GMod)):=
if(cmpI .lss s6.2 (x0.attrs.length:Int))=true then((atI s6.1.attrs s6.2).bind λ v13=>
if(decide (v13.name=x1))=true then((atI s6.1.attrs s6.2).bind λ v20=>
some (.inr (.inr ({ s6.1 with attrs:=(s6.1.attrs.set s6.2.toNat ({ v20 with value:=x2 })) }))))
else((i64 (s6.2+(1:Int))).bind λ v26=>
some (.inl (s6.1,v26))))
else(some (.inr (.inl s6.1)))
def yv(x0:GMod)(x1:Str)(x2:GVal):Option GMod:=
Option.bind (α:=GMod⊕GMod) (zE (λ s6=>xH x0 x1 x2 s6) (x0,(0:Int))) (Sum.elim (λ b2=>
(appO 32 b2.attrs ([(⟨x1,x2⟩:GAttr)]:List GAttr)).bind λ v40=>
some ({ b2 with attrs:=v40 })) some)
theorem jO{x0:GMod}{x2:GVal}{r:GMod}(h:yv x0 x1 x2=some r):FnS prog 109 (Ow.box (owGModR oAtt)) ⟨x0⟩ [dt x1,dt x2] ⟨r⟩ .gone:=by
 refine fnSB (fn:=f109) 0 2 func109 Z Z (λ M G w0 b0 _ j=>wqw ?_)
 refine j.zo [(0,0)] (λ _ _ j=>za ?_)
 have⟨o2,p2,k2⟩:=bs h
 refine wqj (λ a w=>∃ b2,o2=.inl b2/\(∃ M1 Q R,Sx (Frm.chg w0 G) 46 M M1 [Q,R] [(1,dt x1),(5,dptr x2)] [(0,0,dnm (Ow.box (owGModR oAtt)) Q ⟨b2⟩ (.pointer (some ⟨b0,0,none⟩)) [])] a w)) ?_ ?_
 ·refine j.hdA 0 0 ((PV.root.box Z).fld owGModR.f5) [] λ g3 A3 _ hA3 j=>?_
  refine j.zo [(0,0)] (λ _ _ j=>?_) (hs:=sZ 4 (r:=by exact sc Z (xLe Z (tp Z))<|segZ))
  have j:=j.ncf (s:=0) 0 []
  refine wql p2 (λ s6 a w=>∃ M1 Q R,Sx (Frm.chg w0 G) 46 M M1 [Q,R] [(1,dt x1),(5,dptr x2),(11,dt (x0.attrs.length:Int)),(12,dt s6.2)] [(0,0,dnm (Ow.box (owGModR oAtt)) Q ⟨s6.1⟩ (.pointer (some ⟨b0,0,none⟩)) [])] a w) fx ?_
  rintro s6 z6 _ _ ⟨_,Q,R,j⟩ hs6 hx6
  have h:xH x0 x1 x2 s6=some z6:=hs6
  unfold xH at h
  refine j.zd [(0,0)] h (λ _ _ j h=>?_) λ _ _ j h=>?_
  ·refine j.zo [(0,0)] λ _ _ j=>?_
   have⟨v13,p13,h⟩:=bs h
   refine j.hdA 0 0 ((PV.root.box Z).fld owGModR.f5) [] λ g12 A12 _ hA12 j=>?_
   refine j.zo [(0,0)] (λ _ _ j=>?_) (hs:=sZ 5 (r:=by exact sc Z (xIa (g:=g12) Z JZ (tp Z) (tp Z) Z (λ h=>hA12 h Z) p13)<|sZ 1 (r:=by exact sc Z (xLf (sb:=0) ((((PV.root.box Z).fld owGModR.f5).row (.head _) Z (λ h=>hA12 h Z) p13).fld GAttr.z0) Z (tp Z) Z)<|segZ)))
   have j:=j.ncf (s:=0) 0 []
   refine j.cq h (λ h=>?_) λ h=>?_
   ·have⟨v20,p20,h⟩:=bs h
    refine j.hdA 0 0 ((PV.root.box Z).fld owGModR.f5) [] λ g19 A19 _ hA19 j=>?_
    refine j.drnA (D:=[_,_,_,_,_,_,_,_]) zL 8 [[(0,nS)],[(25,0)],[(26,1)],[(27,2),(0,nS)],[(6,nS)],[(5,nS)],[(28,3),(29,4)],[(31,6)],[(32,7),(30,5)]] [30,32] [(0,0)] (λ _ _ j=>?_) (hs:=rc Z Z (oM Z (zD Z))<|rc Z Z (xNc Z (tp Z))<|rc Z Z (xFa Z X3 (tp Z))<|rc Z Z (xLc (sb:=0) (.head _) Z Z Z (tp Z) Z)<|rc Z Z (oM Z (tp Z))<|rc Z Z (zr Z (tp Z))<|rc Z Z (xIa (g:=g19) Z JZ (tp Z) (tp Z) Z (λ h=>hA19 h Z) p20)<|rc Z Z (xFa Z zb4 (tp Z))<|.nil)
    refine j.sfA 0 0 ((((PV.root.box Z).fld owGModR.f5).row (.head _) Z (λ h=>hA19 h Z) p20).fld GAttr.z1) (tp Z) (tp Z) [] [] (λ _ j=>Kb ?_)
    have h:=lo h hx6
    have h:=jo h k2
    exact(j.rs0 (s:=0) 0 (bx1 h)).1
   have⟨v26,p26,h⟩:=bs h
   exact j.zn [(0,0)] h
  have h:=lo h hx6
  exact flz h
 rintro _ _ ⟨b2,rfl,⟨_,Q,R,j⟩⟩
 have h:=jn k2
 refine j.held (λ _=>True) zL λ _ j=>?_
 refine j.tN 0 0 trivial λ _ j=>?_
 refine j.hdA 0 0 ((PV.root.box Z).fld owGModR.f5) [] λ g33 A33 _ hA33 j=>?_
 refine j.drnE (D:=[_,_,_,_,_,_,_,_,_]) 9 [0] [[(0,nS)],[(0,nS)],[(35,1)],[(36,2)],[(37,3),(0,nS)],[(1,nS)],[(5,nS)],[(39,5),(40,6)],[(41,7)],[(38,4),(42,8)],[(34,0)],[(44,10)],[(45,11),(43,9)]] (
  rc Z Z (oM Z (zD Z))<|rc Z Z (oM Z (zD Z))<|rc Z Z (xNc Z (tp Z))<|rc Z Z (xFa Z X3 (tp Z))<|rc Z Z (xLc (sb:=0) (.head _) Z Z Z (tp Z) Z)<|rc Z Z (oM Z (tp Z))<|rc Z Z (zr Z (tp Z))<|rc Z Z (kD198_0_1 Z (tp Z) (tp Z))<|rc Z Z (xt (opds:=[.tmp 41]) Z (ht':=JZ) Z Z (.cons (tp Z) .nil))<|.nil) (by
 intro i hi x d hx
 simp only[List.mem_cons,List.not_mem_nil,or_false] at hi
 rcases hi with rfl
 all_goals (injection hx with hx;injection hx with h1 h2;subst h1;subst h2;rfl)) [34,38,42] [(0,0)] Z iT (λ _ _ j=>?_)
 refine j.mvG (s:=38) (sb:=0) 0 1 ((PV.root.box Z).fld owGModR.f5) (.head _) (yh Z Z) [34,42] [] λ _ H36 j=>?_
 refine j.tipR (s:=38) 1 (by first | (simp;done) | exact oD rfl) [0] λ g37 j=>?_
 have⟨v40,p40,h⟩:=bs h
 refine j.apA 1 yV p40 [34] [0] λ g39 _ _ _ j=>?_
 refine j.zh 2 [(0,0),(43,1)] λ _ _ j=>?_
 have j:=j.tipW (s:=43) 1 [0]
 refine j.shA 0 43 0 1 (tp Z) [] [] (λ _ _ j=>Kb ?_)
 exact(j.rs0 (s:=0) 0 (bx1 h)).2
def jP(x0:Machine)(x1:Int):Option (Machine×Int):=
(atI x0.modules x1).bind λ _v3=>
(x0.modules[x1.toNat]?).bind λ v8=>
(xj x0 (3:Int) v8.x.name).bind λ v12=>
Option.bind (α:=Machine) ((v12.modules[x1.toNat]?).bind λ v15=>
(gO ((!v15.x.done) == true) (v12.modules[x1.toNat]?)).bind λ v17=>
(gO ((!v15.x.done) == true) (yn v12.part v17.x.name)).bind λ v18=>
if((!v15.x.done)&&(!v18))=true then((v12.modules[x1.toNat]?).bind λ v29=>
(appO 16 v12.part ([v29.x.name]:List Str)).bind λ v37=>
some ({ v12 with part:=v37 }))
else(some v12)) λ o14=>
some (o14,x1)
theorem Jc{x1:Int}{r:Machine×Int}(h:jP x0 x1=some r):FnS prog 108 (oMac ps) ⟨x0⟩ [dt x1] ⟨r.1⟩ (.frz (dt r.2)):=by
 refine fnSB (fn:=f108) 0 2 func108 Z Z (λ M G w0 b0 _ j=>wqw ?_)
 refine j.zo [(0,0)] λ _ _ j=>?_
 have⟨v3,p3,h⟩:=bs h
 refine j.hdF (s:=0) 0 true (λ _=>((PV.root.box Z).fld owMachine.f4)) [] λ g2 A2 _ hA2 j=>?_
 refine j.mintP (s:=0) 0 (Z7 (owMachine.impE4 (YH (zK (yA p3).2)))) [] λ b4 j=>?_
 refine j.zo [(0,0)] (λ _ _ j=>?_) (hs:=sZ 5 (r:=by exact sc Z (xIa (g:=g2) Z zaY (tp Z) (tp Z) Z (λ h=>hA2 h Z) p3)<|sc Z (xLdP (sb:=0) ((PV.root.box Z).fld owMachine.f4) (.head _) Z (λ h=>hA2 h Z) (.head _) (yA p3).2 (Nat.mul_one _) Z JY (tp Z) Z)<|segZ))
 have j:=j.ncf (s:=0) 0 []
 refine Ka ?_
 have⟨v8,p8,h⟩:=bs h
 refine j.zh 5 [(0,0)] (λ _ _ j=>?_) (hs:=sZ 4 (r:=by exact sc Z (xLf (sb:=0) ((((PV.root.box Z).fld owMachine.f4).rowP (.head _) p8).fld owGModR.f0) Z (tp Z) Z)<|.nil))
 have⟨v12,p12,h⟩:=bs h
 refine j.cNA 0 0 (FnS.any (qh p12)) [1,5] [] (λ _ _ _ _ j=>Kb (za ?_))
 have⟨o14,p14,k14⟩:=bs h
 refine wqj (λ a w=>∃ M1 Q R,Sx (Frm.chg w0 G) 50 M M1 [Q,R] [(1,dt x1)] [(0,0,dnm (oMac ((x1.toNat,b4)::ps)) Q ⟨o14⟩ (.pointer (some ⟨b0,0,none⟩)) [])] a w) ?_ ?_
 ·have⟨v15,p15,h⟩:=bs p14
  have⟨v17,p17,v18,p18,h⟩:=Kg h
  refine j.hdR (s:=0) 0 ((!v15.x.done) == true) (λ hg=>((PV.root.box Z).fld owMachine.f7)) Z Z iI [] Z λ g16 A16 _ hA16 j=>?_
  refine j.drA (D:=[_,_,_,_,_,_,_,_,_,_,_,_,_,_,_,_,_]) zL [[(5,nS)],[(19,0)],[(20,1),(0,nS)],[(21,2),(0,nS)],[(22,3)],[(23,4)],[(0,nS),(24,5)],[(25,6),(24,5)],[(26,7),(24,5)],[(27,8),(24,5),(0,nS)],[(5,nS),(24,5)],[(29,10),(24,5)],[(30,11),(24,5),(0,nS)],[(31,12),(24,5),(0,nS)],[(28,9),(32,13),(24,5),(0,nS)],[(33,14),(24,5)],[(24,5),(34,15)]] [1,5,35] [(0,0)] (λ _ _ j=>?_) (hs:=rc Z Z (oM Z (tp Z))<|rc Z Z (xNc Z (tp Z))<|rc Z Z (xFa Z kF147_4 (tp Z))<|rc Z Z (xLf (sb:=0) ((((PV.root.box Z).fld owMachine.f4).rowP (.head _) p15).fld owGModR.f4) Z (tp Z) Z)<|rc Z Z (jY Z (tp Z))<|rc Z Z (oM Z (tp Z))<|rg Z Z Z (λ hg=>oM Z (zD Z))<|rg Z Z Z (λ hg=>xNc Z (zk hg Z))<|rg Z Z Z (λ hg=>xFa Z kF122_7 (zk hg Z))<|rg Z Z Z (λ hg=>xLc (sb:=0) (.head _) hg Z Z (zk hg Z) Z)<|rg Z Z Z (λ hg=>oM Z (tp Z))<|rg Z Z Z (λ hg=>xNc Z (zk hg Z))<|rg Z Z Z (λ hg=>xFa Z zaF (zk hg Z))<|rg Z Z Z (λ hg=>xLf (sb:=0) ((((PV.root.box Z).fld owMachine.f4).rowP (.head _) (gh hg p17)).fld owGModR.f0) Z (zk hg Z) Z)<|rg Z Z Z (λ hg=>yH (l:=[.tmp 28,.tmp 32]) j.ob.sub Z (.cons (zaT (sb:=0) j.ob 0 ((PV.root.box Z).fld owMachine.f7) (.head _) hg (yh Z Z) (zk hg Z) Z iI) (.cons (xA j.ob.sub (zk hg Z)) .nil)) (qH (gh hg p18)) w8)<|rg Z Z Z (λ hg=>jY Z (zk hg Z))<|rc Z Z (xq Z (tp Z) (zb Z))<|.nil)
  have j:=j.ncf (s:=0) 0 []
  refine j.cq h (λ h=>?_) λ h=>?_
  ·refine j.held (λ _=>True) zL λ _ j=>?_
   refine j.tN 0 0 trivial λ _ j=>?_
   have⟨v29,p29,h⟩:=bs h
   refine j.hdA 0 0 ((PV.root.box Z).fld owMachine.f7) [] λ g28 A28 _ hA28 j=>?_
   refine j.drnE (D:=[_,_,_,_,_,_,_,_,_,_]) 10 [0] [[(0,nS)],[(0,nS)],[(37,1)],[(38,2)],[(39,3),(0,nS)],[(5,nS)],[(41,5)],[(42,6),(0,nS)],[(43,7),(0,nS)],[(44,8)],[(40,4),(45,9)],[(36,0)],[(47,11)],[(48,12),(46,10)]] (
    rc Z Z (oM Z (zD Z))<|rc Z Z (oM Z (zD Z))<|rc Z Z (xNc Z (tp Z))<|rc Z Z (xFa Z kF122_7 (tp Z))<|rc Z Z (xLc (sb:=0) (.head _) Z Z Z (tp Z) Z)<|rc Z Z (oM Z (tp Z))<|rc Z Z (xNc Z (tp Z))<|rc Z Z (xFa Z zaF (tp Z))<|rc Z Z (xLf (sb:=0) ((((PV.root.box Z).fld owMachine.f4).rowP (.head _) p29).fld owGModR.f0) Z (tp Z) Z)<|rc Z Z (xt (opds:=[.tmp 44]) Z (ht':=Jr) Z Z (.cons (tp Z) .nil))<|.nil) (by
 intro i hi x d hx
 simp only[List.mem_cons,List.not_mem_nil,or_false] at hi
 rcases hi with rfl
 all_goals (injection hx with hx;injection hx with h1 h2;subst h1;subst h2;rfl)) [1,36,40,45] [(0,0)] Z iT (λ _ _ j=>?_)
   refine j.mvG (s:=40) (sb:=0) 0 1 ((PV.root.box Z).fld owMachine.f7) (.head _) (yh Z Z) [1,36,45] [] λ _ H33 j=>?_
   refine j.tipR (s:=40) 1 (by first | (simp;done) | exact oD rfl) [0] λ g34 j=>?_
   have⟨v37,p37,h⟩:=bs h
   refine j.apA 1 yV p37 [1,36] [0] λ g36 _ _ _ j=>?_
   refine j.zh 2 [(0,0),(46,1)] λ _ _ j=>?_
   have j:=j.tipW (s:=46) 1 [0]
   refine j.shA 0 46 0 1 (tp Z) [1] [] (λ _ _ j=>Kb ?_)
   cases h
   exact fz
  cases h
  exact fz
 rintro _ _ ⟨_,Q,R,j⟩
 have h:=k14
 refine j.zo [(0,0)] λ _ _ j=>?_
 have j:=j.asA 0 0 (xN (owMachine.imp4 (xi (λ _ h=>(.tail _ h))))) []
 exact j.xF 0 0 h
def xw(x0:Machine)(x1:Str):Option (Machine×Spec):=
(xl x1).bind λ v3=>
if(decide (v3=(⟨[]⟩:Str)))=true then((Y3 x0.t x0.path (⟨[]⟩:Str) x1).bind λ v9=>
some (x0,v9))
else((zZ x0 v3).bind λ v14=>
(gO (cmpI .lss v14 0 == false) (atI x0.modules v14)).bind λ _v18=>
(gO (cmpI .lss v14 0 == false) (x0.modules[v14.toNat]?)).bind λ v20=>
if(cmpI .lss v14 0||cmpI .eql v20.x.kind 1)=true then((Za).bind λ v27=>
some (x0,v27))
else((atI x0.modules v14).bind λ _v34=>
(x0.modules[v14.toNat]?).bind λ v36=>
(jv x1).bind λ v37=>
(Y3 x0.t v36.x.roots v3 v37).bind λ v38=>
some (x0,v38)))
theorem WB{r:Machine×Spec}(h:xw x0 x1=some r):FnS prog 94 (oMac ps) ⟨x0⟩ [dt x1] ⟨r.1⟩ (.frz (dt r.2)):=by
 refine fnSB (fn:=f94) 0 2 func94 Z Z (λ M G _ b0 _ j=>wqw (Ka ?_))
 refine j.alA 1 zbm [1] [0] (λ b2 _ _ _ j=>Kb ?_)
 have⟨v3,p3,h⟩:=bs h
 refine j.zo [(0,0),(4,1)] λ _ _ j=>?_
 refine j.zd [(0,0),(4,1)] h (λ _ _ j h=>?_) λ _ _ j h=>?_
 ·have⟨v9,p9,h⟩:=bs h
  refine j.drnA (D:=[_,_,_,_,_,_,_,_,_,_,_,_,_,_]) zL 14 [[(0,nS)],[(11,0)],[(12,1)],[(13,2),(0,nS)],[(0,nS)],[(15,4)],[(16,5)],[(17,6),(0,nS)],[(1,nS)],[(0,nS)],[(20,9)],[(21,10)],[(22,11),(0,nS)],[(14,3),(18,7),(19,8),(23,12)],[(4,nS),(24,13)]] [24] [(0,0),(4,1)] (λ _ _ j=>?_) (hs:=rc Z Z (oM Z (zD Z))<|rc Z Z (xNc Z (tp Z))<|rc Z Z (xFa Z kF122_0 (tp Z))<|rc Z Z (xLf (sb:=0) ((PV.root.box Z).fld owMachine.f0) Z (tp Z) Z)<|rc Z Z (oM Z (zD Z))<|rc Z Z (xNc Z (tp Z))<|rc Z Z (xFa Z kF122_1 (tp Z))<|rc Z Z (xLf (sb:=0) ((PV.root.box Z).fld owMachine.f1) Z (tp Z) Z)<|rc Z Z (oM Z (tp Z))<|rc Z Z (oM Z (zD Z))<|rc Z Z (xNc Z (tp Z))<|rc Z Z (xFa Z kF122_2 (tp Z))<|rc Z Z (OpRel.nilf (xLf (sb:=0) ((PV.root.box Z).fld owMachine.f2) Z (tp Z) Z))<|rc Z Z (zF (l:=[.tmp 14,.tmp 18,_,.tmp 19,.tmp 23]) Z (.cons (tp Z) (.cons (tp Z) (.cons (yz) (.cons (tp Z) (.cons (tp Z) .nil))))) (zda p9))<|.nil)
  refine j.stA 4 1 FldS.id (tp Z) [] [0] (λ _ _ j=>Kb ?_)
  exact j.xC 0 0 h
 have⟨v14,p14,h⟩:=bs h
 refine j.zo [(0,0),(4,1)] (λ _ _ j=>?_) (hs:=sZ 2 (r:=by exact sc Z (yH (l:=[.tmp 25,.tmp 26]) j.ob.sub Z (.cons (lendA (sb:=0) j.ob 0 (tp Z) Z iI) (.cons (xA j.ob.sub (tp Z)) .nil)) (xb p14) wE)<|segZ))
 have⟨v18,p18,v20,p20,h⟩:=Kg h
 refine j.hdF (s:=0) 0 (cmpI .lss v14 (0:Int) == false) (λ hg=>((PV.root.box Z).fld owMachine.f4)) [4] λ g17 A17 _ hA17 j=>?_
 refine j.mintP (s:=0) 0 (Z7 (owMachine.impE4 (impE_pinI (c:=(cmpI .lss v14 (0:Int) == false)) (λ hg=>zK (yA (gh hg p18)).2)))) [4] λ b19 j=>?_
 refine j.zo [(0,0),(4,1)] (λ _ _ j=>?_) (hs:=sc Z (oM Z (tp Z))<|sc Z (oCI Z (tp Z) cI)<|sc Z (oM Z (tp Z))<|sg Z Z (λ hg=>oM Z (zD Z))<|sg Z Z (λ hg=>xNc Z (zk hg Z))<|sg Z Z (λ hg=>xFa Z WG (zk hg Z))<|sg Z Z (λ hg=>xLc (sb:=0) (.head _) hg Z Z (zk hg Z) Z)<|sg Z Z (λ hg=>oM Z (tp Z))<|sg Z Z (λ hg=>xIa (g:=g17) Z zaY (zk hg Z) (zk hg Z) Z (λ h=>hA17 h hg) (gh hg p18))<|sg Z Z (λ hg=>xLdP (sb:=0) ((PV.root.box Z).fld owMachine.f4) (.head _) hg (λ h=>hA17 h hg) (pinI_at hg) (yA (gh hg p18)).2 (Nat.mul_one _) Z JY (zk hg Z) Z)<|sg Z Z (λ hg=>xNc Z (zk hg Z))<|sg Z Z (λ hg=>xFa Z kF147_1 (zk hg Z))<|sg Z Z (λ hg=>xLf (sb:=0) ((((PV.root.box Z).fld owMachine.f4).rowP (pinI_at hg) (gh hg p20)).fld owGModR.f1) Z (zk hg Z) Z)<|sg Z Z (λ hg=>oCI Z (zk hg Z) cI)<|sc Z (jX Z (tp Z) (zb Z))<|.nil)
 have j:=j.ncf (s:=0) 0 [4]
 refine j.cq h (λ h=>?_) λ h=>?_
 ·refine Ka ?_
  have⟨v27,p27,h⟩:=bs h
  refine j.zh 1 [(0,0),(4,1)] λ _ _ j=>?_
  refine j.stA 4 1 FldS.id (tp Z) [] [0] (λ _ _ j=>Kb ?_)
  have j:=j.asA 0 0 (xN (owMachine.imp4 (xi (λ _ h=>(pinI_of h))))) [4]
  exact j.xC 0 0 h
 have⟨v34,p34,v36,p36,h⟩:=Kg h
 have⟨v37,p37,v38,p38,h⟩:=Kg h
 refine j.hdF (s:=0) 0 true (λ _=>((PV.root.box Z).fld owMachine.f4)) [4] λ g33 A33 _ hA33 j=>?_
 refine j.mintP (s:=0) 0 (Z7 (owMachine.impE4 (YH (zK (yA p34).2)))) [4] λ b35 j=>?_
 refine j.drnA (D:=[_,_,_,_,_,_,_,_,_,_,_,_,_,_,_,_,_,_,_,_,_,_]) zL 22 [[(0,nS)],[(44,0)],[(45,1)],[(46,2),(0,nS)],[(0,nS)],[(48,4)],[(49,5)],[(50,6),(0,nS)],[(6,nS)],[(51,7),(52,8)],[(53,9),(0,nS)],[(54,10)],[(55,11),(0,nS)],[(56,12),(0,nS)],[(5,nS)],[(1,nS)],[(59,15)],[(0,nS)],[(61,17)],[(62,18)],[(63,19),(0,nS)],[(47,3),(57,13),(58,14),(60,16),(64,20)],[(4,nS),(65,21)]] [65] [(0,0),(4,1)] (λ _ _ j=>?_) (hs:=rc Z Z (oM Z (zD Z))<|rc Z Z (xNc Z (tp Z))<|rc Z Z (xFa Z kF122_0 (tp Z))<|rc Z Z (xLf (sb:=0) ((PV.root.box Z).fld owMachine.f0) Z (tp Z) Z)<|rc Z Z (oM Z (zD Z))<|rc Z Z (xNc Z (tp Z))<|rc Z Z (xFa Z WG (tp Z))<|rc Z Z (xLc (sb:=0) (.head _) Z Z Z (tp Z) Z)<|rc Z Z (oM Z (tp Z))<|rc Z Z (xIa (g:=g33) Z zaY (tp Z) (tp Z) Z (λ h=>hA33 h Z) p34)<|rc Z Z (xLdP (sb:=0) ((PV.root.box Z).fld owMachine.f4) (.head _) Z (λ h=>hA33 h Z) (.head _) (yA p34).2 (Nat.mul_one _) Z JY (tp Z) Z)<|rc Z Z (xNc Z (tp Z))<|rc Z Z (xFa Z kF147_2 (tp Z))<|rc Z Z (xLf (sb:=0) ((((PV.root.box Z).fld owMachine.f4).rowP (.head _) p36).fld owGModR.f2) Z (tp Z) Z)<|rc Z Z (oM Z (tp Z))<|rc Z Z (oM Z (tp Z))<|rc Z Z (zF (l:=[.tmp 59]) Z (.cons (tp Z) .nil) (JF p37))<|rc Z Z (oM Z (zD Z))<|rc Z Z (xNc Z (tp Z))<|rc Z Z (xFa Z kF122_2 (tp Z))<|rc Z Z (OpRel.nilf (xLf (sb:=0) ((PV.root.box Z).fld owMachine.f2) Z (tp Z) Z))<|rc Z Z (zF (l:=[.tmp 47,.tmp 57,.tmp 58,.tmp 60,.tmp 64]) Z (.cons (tp Z) (.cons (tp Z) (.cons (tp Z) (.cons (tp Z) (.cons (tp Z) .nil))))) (zda p38))<|.nil)
 refine j.stA 4 1 FldS.id (tp Z) [] [0] (λ _ _ j=>Kb ?_)
 have j:=j.ncf (s:=0) 0 [4]
 have j:=j.asA 0 0 (xN (owMachine.imp4 (xi (λ _ h=>(.tail _ (pinI_of h)))))) [4]
 exact j.xC 0 0 h
end Go.Proofs.YtandbaloaenciaaGreatDoor
