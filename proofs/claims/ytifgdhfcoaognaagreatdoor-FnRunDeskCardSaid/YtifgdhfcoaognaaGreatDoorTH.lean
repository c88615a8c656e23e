import Derived.Test.YtifgdhfcoaognaaGreatDoorTD
import Derived.Test.YtifgdhfcoaognaaGreatDoorTFb
import Derived.Test.YtifgdhfcoaognaaGreatDoorTO
import Derived.Test.YtifgdhfcoaognaaGreatDoorTC
import Derived.Test.YtifgdhfcoaognaaGreatDoorTB
namespace Go.Proofs.YtifgdhfcoaognaaGreatDoor
open Go.RowKit Tryz
variable{r:Bool}{ps:List (Nat×Nat)}{p rs:List Int}{l:List Str}{x0:Machine}{s x1 x2:Str}{t:Tree}{c:UInt8}
instance (s:Str):Decidable (mid s):=by unfold mid;infer_instance
instance (s:Stmt):Decidable (smStmt s):=by unfold smStmt;infer_instance
instance (f:File):Decidable (smFile f):=by unfold smFile;infer_instance
instance (t:Tree):Decidable (xw t):=by unfold xw;infer_instance
@[reducible] def oAtt:Ow (List GAttr):=Ow.row 206 (Ow.frz (α:=GAttr))
@[reducible] def oMac(ps:List (Nat×Nat)):Ow (Bx Machine):=Ow.box (owMachine (Ow.rowP ps 116 (owGModR oAtt)) (Ow.row 3 (Ow.frz (α:=Int))) (Ow.row 126 (Ow.frz (α:=GEvent))) (Ow.row 9 (Ow.frz (α:=Str))))
@[reducible] def oRun:Ow (Bx Runner):=Ow.box (owRunner (Ow.row 119 (owGModR (Ow.row 206 (Ow.frz (α:=GAttr))))) (Ow.row 126 (Ow.frz (α:=GEvent))) (Ow.row 3 (Ow.frz (α:=Int))))
def qA(t:Tree)(p:List Int):Option (List Str):=if xw t/\p.length<=1099511627776 then some (qJ t p) else none
theorem zcg{r:List Str}(h:qA t p=some r):Fn prog 45 [dt t,dt p] (dt r):=by
 unfold qA at h
 split at h
 ·rename_i hc
  injection h with h
  subst h
  exact zbB _ _ hc.1 hc.2
 ·cases h
def xP(t:Tree):Option Bool:=if xw t then some (zB t) else none
theorem XL(h:xP t=some r):Fn prog 43 [dt t] (dt r):=by
 unfold xP at h
 split at h
 ·rename_i hc
  injection h with h
  subst h
  exact Ji _ hc
 ·cases h
def Yw(s:Str):Option Bool:=if mid s then some (zx s) else none
theorem zaS(h:Yw s=some r):Fn prog 112 [dt s] (dt r):=by
 unfold Yw at h
 split at h
 ·rename_i hc
  injection h with h
  subst h
  exact Z7 _ hc
 ·cases h
def yL(s:Str):Option Bool:=if mid s then some (zf s) else none
theorem Yo(h:yL s=some r):Fn prog 47 [dt s] (dt r):=by
 unfold yL at h
 split at h
 ·rename_i hc
  injection h with h
  subst h
  exact qy _ hc
 ·cases h
def Qh(s:Str)(p:Str):Option Bool:=if p.l.length<=1152921504606846976 then some (under s p) else none
theorem spec_under_w{p:Str}(h:Qh s p=some r):Fn prog 159 [dt s,dt p] (dt r):=by
 unfold Qh at h
 split at h
 ·rename_i hc
  injection h with h
  subst h
  exact za6 _ _ hc
 ·cases h
def xG(s:Str)(c:UInt8):Option (List Str):=if mid s then some (zi s c) else none
theorem zen{r:List Str}(h:xG s c=some r):Fn prog 40 [dt s,dt c] (dt r):=by
 unfold xG at h
 split at h
 ·rename_i hc
  injection h with h
  subst h
  exact qh _ _ hc
 ·cases h
def xh(p:List Int):Option Bool:=if True then some (yk p) else none
theorem XM(h:xh p=some r):Fn prog 16 [dt p] (dt r):=by
 unfold xh at h
 split at h
 ·rename_i hc
  injection h with h
  subst h
  exact Jh _
 ·cases h
def Xa(t:Tree)(p:List Int)(s:Str):Option Spec:=if p.length<=1099511627776/\mid s then some (find t.files p s) else none
theorem zdF{r:Spec}(h:Xa t p s=some r):Fn prog 49 [dt t,dt p,dt s] (dt r):=by
 unfold Xa at h
 split at h
 ·rename_i hc
  injection h with h
  subst h
  exact zb9 _ _ _ hc.1 hc.2
 ·cases h
def xi(s:Str):Option Str:=if mid s then some (zM s) else none
theorem XU{r:Str}(h:xi s=some r):Fn prog 161 [dt s] (dt r):=by
 unfold xi at h
 split at h
 ·rename_i hc
  injection h with h
  subst h
  exact zeg _ hc
 ·cases h
def Zn(s:Str):Option Str:=if mid s then some (ji s) else none
theorem zad{r:Str}(h:Zn s=some r):Fn prog 166 [dt s] (dt r):=by
 unfold Zn at h
 split at h
 ·rename_i hc
  injection h with h
  subst h
  exact spec_last_ok _ hc
 ·cases h
def Qi(s:Str):Option (List Str):=if mid s then some (wi s) else none
theorem spec_above_w{r:List Str}(h:Qi s=some r):Fn prog 115 [dt s] (dt r):=by
 unfold Qi at h
 split at h
 ·rename_i hc
  injection h with h
  subst h
  exact za5 _ hc
 ·cases h
def zae(l:List Str):Option Str:=if jh l<=1152921504606846976 then some (join l) else none
theorem spec_join_w{r:Str}(h:zae l=some r):Fn prog 86 [dt l] (dt r):=by
 unfold zae at h
 split at h
 ·rename_i hc
  injection h with h
  subst h
  exact Wu _ hc
 ·cases h
def Zs(p:Str)(s:Str):Option Str:=if p.l.length+s.l.length<=1152921504606846976 then some (child p s) else none
theorem zch{p:Str}{r:Str}(h:Zs p s=some r):Fn prog 114 [dt p,dt s] (dt r):=by
 unfold Zs at h
 split at h
 ·rename_i hc
  injection h with h
  subst h
  exact YB _ _ hc
 ·cases h
def Xv(f:File):Option Str:=if smFile f then some (zN f) else none
theorem zci{f:File}{r:Str}(h:Xv f=some r):Fn prog 116 [dt f] (dt r):=by
 unfold Xv at h
 split at h
 ·rename_i hc
  injection h with h
  subst h
  exact WR _ hc
 ·cases h
def XV(t:Tree)(f:File):Option Int:=if True then some (xB t.files f) else none
theorem zba{f:File}{r:Int}(h:XV t f=some r):Fn prog 57 [dt t,dt f] (dt r):=by
 unfold XV at h
 split at h
 ·rename_i hc
  injection h with h
  subst h
  exact Xp _ _
 ·cases h
def Jx  : Option Spec:=if True then some (Wg) else none
theorem spec_noSpec_w {r:Spec}(h:Jx  = some r):Fn prog 84 [] (dt r):=by
 unfold Jx at h
 split at h
 ·rename_i hc
  injection h with h
  subst h
  exact WS
 ·cases h
def Jy(t:Tree)(n:Int)(p:Str):Option Bool:=if p.l.length<=1152921504606846976 then some (Xl t.files n p) else none
theorem spec_hasDir_w{n:Int}{p:Str}(h:Jy t n p=some r):Fn prog 118 [dt t,dt n,dt p] (dt r):=by
 unfold Jy at h
 split at h
 ·rename_i hc
  injection h with h
  subst h
  exact Q0 _ _ _ hc
 ·cases h
def YG(t:Tree)(rs:List Int)(p:Str)(s:Str):Option Spec:=if rs.length<=1099511627776/\p.l.length+s.l.length<=1152921504606846975 then some (jE t.files rs p s) else none
theorem zbb{p:Str}{r:Spec}(h:YG t rs p s=some r):Fn prog 85 [dt t,dt rs,dt p,dt s] (dt r):=by
 unfold YG at h
 split at h
 ·rename_i hc
  injection h with h
  subst h
  exact Q1 _ _ _ _ hc.1 hc.2
 ·cases h
instance:Ct2 prog 45 dt dt dt qA:=⟨λ h=>zcg h⟩
instance:Ct1 prog 43 dt dt xP:=⟨λ h=>XL h⟩
instance:Ct1 prog 112 dt dt Yw:=⟨λ h=>zaS h⟩
instance:Ct1 prog 47 dt dt yL:=⟨λ h=>Yo h⟩
instance:Ct2 prog 159 dt dt dt Qh:=⟨λ h=>spec_under_w h⟩
instance:Ct2 prog 40 dt dt dt xG:=⟨λ h=>zen h⟩
instance:Ct1 prog 16 dt dt xh:=⟨λ h=>XM h⟩
instance:Ct3 prog 49 dt dt dt dt Xa:=⟨λ h=>zdF h⟩
instance:Ct1 prog 161 dt dt xi:=⟨λ h=>XU h⟩
instance:Ct1 prog 166 dt dt Zn:=⟨λ h=>zad h⟩
instance:Ct1 prog 115 dt dt Qi:=⟨λ h=>spec_above_w h⟩
instance:Ct1 prog 86 dt dt zae:=⟨λ h=>spec_join_w h⟩
instance:Ct2 prog 114 dt dt dt Zs:=⟨λ h=>zch h⟩
instance:Ct1 prog 116 dt dt Xv:=⟨λ h=>zci h⟩
instance:Ct2 prog 57 dt dt dt XV:=⟨λ h=>zba h⟩
instance:Ct3 prog 118 dt dt dt dt Jy:=⟨λ h=>spec_hasDir_w h⟩
instance:Ct4 prog 85 dt dt dt dt dt YG:=⟨λ h=>zbb h⟩
instance:Ct2 prog 107 dt dt dt yK:=⟨λ h=>Wh h⟩
attribute [local irreducible] OpRel OpdR
set_option maxRecDepth 10000
set_option maxHeartbeats 1600000
theorem zbc:slB prog 113 1=true:=by kernel_rfl
theorem JV:tyB prog 116 false 1=true:=by kernel_rfl
theorem kF119_3:fldB prog 119 3 3=true:=by kernel_rfl
theorem zaJ:fldB prog 119 0 0=true:=by kernel_rfl
theorem Qj:fldB prog 115 4 4=true:=by kernel_rfl
theorem kN184:fnB prog 184=true:=by kernel_rfl
theorem kF119_1:fldB prog 119 1 1=true:=by kernel_rfl
theorem Ww:fldB prog 119 5 5=true:=by kernel_rfl
theorem QC:slB prog 117 3=true:=by kernel_rfl
theorem kF206_0:fldB prog 206 0 0=true:=by kernel_rfl
theorem zcj:fldB prog 206 1 1=true:=by kernel_rfl
theorem kN149:fnB prog 149=true:=by kernel_rfl
theorem kF115_6:fldB prog 115 6 6=true:=by kernel_rfl
theorem kD126_0_1:∀ {M:Nat->Prop} {look:Nat->Option Dt} {o:Oper} {q0 q1:Operand} {y0:Int} {y1:Str},o.op=.build 126 #[(0,q0),(1,q1)]->OpdR M look q0 (dt y0)->OpdR M look q1 (dt y1)->OpRel prog M look o (dt (⟨y0,y1⟩:GEvent)):=@λ _ _ _ q0 q1 y0 y1 ho h0 h1=>yp (parts:=[(0,q0),(1,q1)]) (ns:=[1,1]) (zs:=zpGEvent) Z ho (λ w a hl=>FA ⟨(by decide:0<2),Rep.len (α:=Int) (OpdR.cells h0 hl)⟩ (FA ⟨(by decide:1<2),Rep.len (α:=Str) (OpdR.cells h1 hl)⟩ FN)) (λ w a hl=>GEvent.parts (x:=(⟨y0,y1⟩:GEvent)) (OpdR.cells h0 hl) (OpdR.cells h1 hl))
instance iF115_6MaA:FldO prog 115 6 6:=⟨kF115_6⟩
def xj(x0:File):Option (List Stmt):=
some x0.body
theorem zaT{x0:File}{r:List Stmt}(h:xj x0=some r):Fn prog 149 [dt x0] (dt r):=by
 refine fq1 0 func149 λ M _ _ j=>?_
 refine j.z1 (λ j=>?_) (hs:=sZ 1 (r:=by exact sc Z (oA Z (jC (α:=Stmt)))<|.nil))
 exact j.ze h
def zW(x0:List (Bx GMod))(x1:(GMod->Option Bool))(s4:Int):Option (Int⊕(Unit⊕Int)):=
if(cmpI .lss s4 (x0.length:Int))=true then((atI x0 s4).bind λ v10=>
(x1 v10.x).bind λ v11=>
if v11=true then(some (.inr (.inr s4)))
else((i64 (s4+(1:Int))).bind λ v20=>
some (.inl v20)))
else(some (.inr (.inl ())))
def y9(x0:List (Bx GMod))(x1:(GMod->Option Bool)):Option Int:=
Option.bind (α:=Unit⊕Int) (zP (λ s4=>zW x0 x1 s4) (0:Int)) (Sum.elim (λ _b2=>
some (-1:Int)) some)
theorem Zt{x0:List (Bx GMod)}{x1:(GMod->Option Bool)}{r:Int}(h:y9 x0 x1=some r):Fn prog 183 [dt x0,dfq1 prog x1] (dt r):=by
 refine fq1 0 func183 λ M w0 _ j=>?_
 refine j.z1 (λ j=>za ?_)
 refine j.jb [] (λ _=>[]) h (λ o2 p2 k2=>?_) λ b2 _ _ j h=>?_
 ·refine j.z1 λ j=>?_
  refine wql p2 (λ s4 a w=>Sx (Frm.of w0) 19 M M [] [(0,dt x0),(7,dt (x0.length:Int)),(8,dt s4),(1,dfq1 prog x1)] [] a w) (j.sel0 [0,7,8,1]) ?_
  rintro s4 z4 _ _ j hs4 hx4
  have h:zW x0 x1 s4=some z4:=hs4
  unfold zW at h
  refine j.zc h (λ j h=>?_) λ j h=>?_
  ·refine j.z1 λ j=>?_
   have⟨v10,p10,v11,p11,h⟩:=Kg h
   refine j.zc h (λ j h=>?_) (λ j h=>?_) (hs:=sZ 4 (r:=by exact sc Z (OpRel.bx (zz Z (ht:=JV) T))<|sc Z (xCaQ1 Z T T p11)<|.nil))
   ·exact j.ze (jo (lo h hx4) k2)
   have⟨v20,p20,h⟩:=bs h
   exact j.zn [] h
  have h:=lo h hx4
  exact flz h
 exact j.ze h
def xy(x0:GMod)(x1:Str):Option Bool:=
some (x0.cached&&decide (x0.name=x1))
theorem JW{x0:GMod}(h:xy x0 x1=some r):Fn prog 184 [dptr x0,dptr x1] (dt r):=by
 refine fq1 0 func184 λ M _ _ j=>?_
 refine j.z1 λ j=>?_
 refine j.zw λ j=>?_
 exact j.ret Z Z h
def ye(x0:Machine)(x1:Str):Option Int:=
(y9 x0.modules (λ a0=>xy a0 x1)).bind λ v2=>
some v2
theorem xl{r:Int}(h:ye x0 x1=some r):Fn prog 150 [dptr x0,dt x1] (dt r):=by
 refine fq1 0 func150 λ M _ a0 j=>?_
 refine j.z1 λ j=>?_
 have⟨v2,p2,h⟩:=bs h
 exact j.ze h (hs:=sZ 4 (r:=by exact sc Z (xMkQ1 (l:=[.tmp 3]) (g:=(λ a0=>xy a0 x1)) Z kN184 (.cons T .nil) Z (λ _ _ h=>JW h))<|sc Z (oK (Zt p2))<|segZ))
instance:Ct2 prog 150 dptr dt dt ye:=⟨λ h=>xl h⟩
def yH(s17:Str×Int):Option ((Str×Int)⊕Str):=
if(cmpI .gtr s17.2 1&&decide (s17.1≠(⟨[]⟩:Str)))=true then((xK s17.1).bind λ v22=>
(i64 (s17.2 - (1:Int))).bind λ v25=>
some (.inl (v22,v25)))
else(some (.inr s17.1))
def jW(x0:Str)(x1:Int)(x2:Str):Option Str:=
(xO x0).bind λ v2=>
(gO ((!v2) == false) (xO x2)).bind λ v3=>
(gO (((!v2)||(!v3)) == false) (xe x1 (0:Int) (4:Int))).bind λ v4=>
if(((!v2)||(!v3))||(!v4))=true then(some (⟨[]⟩:Str))
else(if cmpI .eql x1 0 then(some x2)
else(Option.bind (α:=Str) (zP (λ s17=>yH s17) (x0,x1)) λ o16=>
if(decide (o16=(⟨[]⟩:Str)))=true then(some (⟨[]⟩:Str))
else(Option.bind (α:=Str) (if(decide (x2≠(⟨[]⟩:Str)))=true then((catO (⟨[46]⟩:Str) x2).bind λ v38=>
(catO o16 v38).bind λ v39=>
some v39)
else(some o16)) λ o34=>
(z7 o34).bind λ v44=>
if(!v44)=true then(some (⟨[]⟩:Str))
else(some o34))))
theorem WY{x0:Str}{x1:Int}{r:Str}(h:jW x0 x1 x2=some r):Fn prog 209 [dt x0,dt x1,dt x2] (dt r):=by
 refine fq1 0 func209 λ M w0 _ j=>?_
 refine j.z1 λ j=>?_
 have⟨v2,p2,v3,p3,h⟩:=Kg h
 have⟨v4,p4,h⟩:=bs h
 refine j.zc h (λ j h=>?_) (λ j h=>?_) (hs:=sZ 1 (r:=by exact sc Z (oK (jM p2))<|sZ 3 (r:=by exact sg Z Z (λ hg=>oK (jM (gh hg p3)))<|sZ 4 (r:=by exact sg Z Z (λ hg=>oK (qK (gh hg p4)))<|segZ))))
 ·exact j.ze h
 refine j.zc h (λ j h=>?_) λ j h=>?_
 ·exact j.ze h
 refine wqk ?_
 refine za ?_
 refine j.jm [2] (λ o16=>[(0,dt o16)]) h (λ o16 p16=>?_) λ o16 _ _ j h=>?_
 ·refine wql p16 (λ s17 a w=>Sx (Frm.of w0) 45 M M [] [(0,dt s17.1),(1,dt s17.2),(2,dt x2)] [] a w) (j.sel0 [0,1,2]) ?_
  rintro s17 z17 _ _ j hs17 hx17
  have h:yH s17=some z17:=hs17
  unfold yH at h
  refine j.zc h (λ j h=>?_) λ j h=>?_
  ·have⟨v22,p22,h⟩:=bs h
   refine j.z1 λ j=>?_
   have⟨v25,p25,h⟩:=bs h
   exact j.zn [] h
  have h:=lo h hx17
  cases h
  exact fz
 refine j.zc h (λ j h=>?_) λ j h=>?_
 ·exact j.ze h
 refine wqk ?_
 refine za ?_
 refine j.jm [] (λ o34=>[(0,dt o34)]) h (λ o34 p34=>?_) λ o34 _ _ j h=>?_
 ·refine j.zc p34 (λ j h=>?_) λ j h=>?_
  ·have⟨v38,p38,h⟩:=bs h
   have⟨v39,p39,h⟩:=bs h
   refine j.z1 λ j=>?_
   cases h
   exact fz
  cases h
  exact fz
 have⟨v44,p44,h⟩:=bs h
 refine j.zc h (λ j h=>?_) λ j h=>?_
 ·exact j.ze h
 exact j.ze h
instance:Ct3 prog 209 dt dt dt dt jW:=⟨λ h=>WY h⟩
def wu(x0:GMod):Option Str:=
if cmpI .eql x0.kind 1 then((xK x0.name).bind λ v5=>
some v5)
else(some x0.name)
theorem Xb{x0:GMod}{r:Str}(h:wu x0=some r):Fn prog 210 [dptr x0] (dt r):=by
 refine fq1 0 func210 λ M _ _ j=>?_
 refine j.z1 λ j=>?_
 refine j.zc h (λ j h=>?_) λ j h=>?_
 ·have⟨v5,p5,h⟩:=bs h
  exact j.ze h
 exact j.ze h
instance:Ct1 prog 210 dptr dt wu:=⟨λ h=>Xb h⟩
def wd(x0:GMod)(x1:Str)(s6:GVal×Int):Option ((GVal×Int)⊕(GVal⊕(GVal×Bool))):=
if(cmpI .lss s6.2 (x0.attrs.length:Int))=true then((atI x0.attrs s6.2).bind λ v11=>
if(decide (v11.name=x1))=true then(some (.inr (.inr (v11.value,true))))
else((i64 (s6.2+(1:Int))).bind λ v27=>
some (.inl (s6.1,v27))))
else(some (.inr (.inl s6.1)))
def wn(x0:GMod)(x1:Str):Option (GVal×Bool):=
Option.bind (α:=GVal⊕(GVal×Bool)) (zP (λ s6=>wd x0 x1 s6) (zGVal,(0:Int))) (Sum.elim (λ _b4=>
some ((⟨0,0⟩:GVal),false)) some)
theorem wX{x0:GMod}{r:GVal×Bool}(h:wn x0 x1=some r):Fn prog 211 [dptr x0,dt x1] (dtup [dt r.1,dt r.2]):=by
 refine fq1 2 func211 λ M w0 _ j=>?_
 refine Ka ?_
 refine j.alA 0 Qb [0,1] [] λ b2 j=>?_
 refine j.zh 1 [(4,0)] (λ j=>Kb ?_)
 refine za ?_
 refine j.jbq 2 [] (λ _=>[]) (λ b4 q=>[(4,0,dbox (q 0) 0 b4)]) h (λ o4 p4 k4=>?_) λ b4 q4 _ _ _ j h=>?_
 ·refine j.zo [(4,0)] λ j=>?_
  refine wql p4 (λ s6 a w=>∃ M1 Q R,Sx (Frm.of w0) 25 M M1 [oneB Q,oneB R] [(1,dt x1),(11,dt x0.attrs),(12,dt (x0.attrs.length:Int)),(13,dt s6.2)] [(4,0,dbox Q 0 s6.1)] a w) fx ?_
  rintro s6 z6 _ _ ⟨_,Q,R,j⟩ hs6 hx6
  have h:wd x0 x1 s6=some z6:=hs6
  unfold wd at h
  refine j.zd [(4,0)] h (λ j h=>?_) λ j h=>?_
  ·refine Ka ?_
   have⟨v11,p11,h⟩:=bs h
   refine j.zh 2 [(4,0)] λ j=>?_
   refine j.alA 1 zrGAttr [1,11,12,13,16] [4] λ b15 j=>?_
   refine j.stA 7 1 FldS.id (tp Z) [1,11,12,13] [4] (λ j=>Kb ?_)
   refine j.zd [(4,0),(7,1)] h (λ j h=>?_) λ j h=>?_
   ·refine Ka ?_
    refine j.zh 2 [(4,0)] λ j=>?_
    refine j.stA 4 0 FldS.id (tp Z) [] [] λ j=>?_
    refine j.zh 1 [(4,0)] (λ j=>Kb ?_)
    have h:=lo h hx6
    have h:=jo h k4
    cases h
    exact j.y2
   have⟨v27,p27,h⟩:=bs h
   exact j.zn [(4,0)] h
  have h:=lo h hx6
  exact flz h
 refine Ka ?_
 refine j.zh 1 [(4,0)] (λ j=>?_) (hs:=sc Z (yp (parts:=[]) (ns:=[1,1]) (zs:=zpGVal) Z Z (λ w a hl=>by simp) (λ w a hl=>GVal.parts (x:=(⟨0,0⟩:GVal)) ⟨Z,trivial⟩ ⟨Z,trivial⟩))<|.nil)
 refine j.stA 4 0 FldS.id (tp Z) [] [] λ j=>?_
 refine j.zh 1 [(4,0)] (λ j=>Kb ?_)
 cases h
 exact j.y2
instance:Ct2 prog 211 dptr dt (λ r=>dtup [dt r.1,dt r.2]) wn:=⟨λ h=>wX h⟩
def xH(x0:Str)(x1:Str):Option (Str×Str×Bool):=
(yK x0 x1).bind λ v2=>
if cmpI .geq v2 0 then((JI x0 v2).bind λ v8=>
(i64 (v2+(x1.l.length:Int))).bind λ v9=>
(za0 x0 v9).bind λ v10=>
some (v8,v10,true))
else(some (x0,(⟨[]⟩:Str),false))
theorem WZ{x0:Str}{r:Str×Str×Bool}(h:xH x0 x1=some r):Fn prog 73 [dt x0,dt x1] (dtup [dt r.1,dt r.2.1,dt r.2.2]):=by
 refine fq1 0 func73 λ M _ _ j=>?_
 refine j.z1 λ j=>?_
 have⟨v2,p2,h⟩:=bs h
 refine j.z1 λ j=>?_
 refine j.zc h (λ j h=>?_) λ j h=>?_
 ·have⟨v8,p8,h⟩:=bs h
  have⟨v9,p9,v10,p10,h⟩:=Kg h
  refine j.zw λ j=>?_
  cases h
  exact j.ret3 (j.frozen (t:=4)) (j.frozen (t:=5)) (j.frozen (t:=6)) ⟨Z,Z,Z⟩
 refine j.z1 λ j=>?_
 cases h
 exact j.ret3 (j.frozen (t:=4)) (j.frozen (t:=5)) (j.frozen (t:=6)) ⟨Z,Z,Z⟩
instance:Ct2 prog 73 dt dt (λ r=>dtup [dt r.1,dt r.2.1,dt r.2.2]) xH:=⟨λ h=>WZ h⟩
def jc(x0:Str)(x1:Str):Option (Str×Str×Bool):=
(xH x0 x1).bind λ v2=>
some (v2.1,v2.2.1,v2.2.2)
theorem zbd{x0:Str}{r:Str×Str×Bool}(h:jc x0 x1=some r):Fn prog 33 [dt x0,dt x1] (dtup [dt r.1,dt r.2.1,dt r.2.2]):=by
 refine fq1 0 func33 λ M _ _ j=>?_
 refine j.z1 λ j=>?_
 have⟨v2,p2,h⟩:=bs h
 refine j.z1 λ j=>?_
 cases h
 exact j.ret3 (j.frozen (t:=4)) (j.frozen (t:=5)) (j.frozen (t:=6)) ⟨Z,Z,Z⟩
instance:Ct2 prog 33 dt dt (λ r=>dtup [dt r.1,dt r.2.1,dt r.2.2]) jc:=⟨λ h=>zbd h⟩
def ZZ(x0:Tree)(x1:List Int)(x2:Int):Option Machine:=
some (⟨x0,x1,(⟨⟩:Nilf),(⟨xj⟩:FnV File (List Stmt)),[],[],[],[],x2⟩:Machine)
theorem zck{x0:Tree}{x1:List Int}{x2:Int}{r:Machine}(h:ZZ x0 x1 x2=some r):FnN prog 110 [dt x0,dt x1,dt x2] (.ow (oMac []) ⟨r⟩):=by
 refine fnN (fn:=f110) 4 func110 Z Z (λ M _ _ j=>wqw ?_)
 refine j.z1 (λ j=>?_) (hs:=sZ 1 (r:=by exact sc Z (oA Z JR)<|.nil))
 refine Ka ?_
 refine j.zg 3 λ j=>?_
 refine j.bldW (ow:=(owMachine (Ow.rowP [] 116 (owGModR oAtt)) (Ow.row 3 (Ow.frz (α:=Int))) (Ow.row 126 (Ow.frz (α:=GEvent))) (Ow.row 9 (Ow.frz (α:=Str))))) (parts:=[(0,.tmp 7),(1,.tmp 8),(8,.tmp 9),(3,.func 149)]) (ns:=[1,1,1,1,1,1,1,1,1]) (zs:=zpMachine) (x:=(⟨x0,x1,(⟨⟩:Nilf),(⟨xj⟩:FnV File (List Stmt)),[],[],[],[],x2⟩:Machine)) 3 [] (FA ⟨by decide,Rep.len (α:=Tree) (j.oc T)⟩ (FA ⟨by decide,Rep.len (α:=List Int) (j.oc T)⟩ (FA ⟨by decide,Rep.len (α:=Int) (j.oc T)⟩ (FA ⟨by decide,Z⟩ FN)))) (((owMachine (Ow.rowP [] 116 (owGModR oAtt)) (Ow.row 3 (Ow.frz (α:=Int))) (Ow.row 126 (Ow.frz (α:=GEvent))) (Ow.row 9 (Ow.frz (α:=Str))))).more (owMachine.mk (x:=(⟨x0,x1,(⟨⟩:Nilf),(⟨xj⟩:FnV File (List Stmt)),[],[],[],[],x2⟩:Machine)) (j.oc T) (j.oc T) (zrNilf _ _) (OpdR.cells (opd_fnv (opd_fun1 kN149 (λ _ _ h=>zaT h))) (λ s y hs=>j.st.has s y hs)) (rowP_zz _ _) (Ow.row_z _ _) (Ow.row_z _ _) (Ow.row_z _ _) (j.oc T) (λ b h1=>(λ h2=>h2.elim (λ h2=>h2.elim) (λ h2=>h2.elim (λ h2=>h2.elim) (λ h2=>h2.elim)))) (λ b h1=>(λ h2=>h2.elim (λ h2=>h2.elim) (λ h2=>h2.elim))) (λ b h1=>(λ h2=>h2.elim))) (λ b=>(λ hb=>hb.elim (λ hb=>hb.elim) (λ hb=>hb.elim (λ hb=>hb.elim) (λ hb=>hb.elim (λ hb=>hb.elim) (λ hb=>hb.elim)))))) [] [] (@λ G3 _ _ j=>?_)
 have j:=j.gs (Gs':=[oneB none,oneB none,oneB none,G3])
 have j:=j.gn
 refine j.boxW 0 3 [] [] λ b6 _ _ _ _ j=>?_
 have j:=j.gn
 refine j.zh 1 [(6,0)] (λ j=>Kb ?_)
 have j:=j.unm (s:=6) 0 []
 exact j.rnO 0 (bx1 h)
def xI(x0:Machine)(x1:Int)(x2:Str):Option Machine:=
(appO 24 x0.log ([(⟨x1,x2⟩:GEvent)]:List GEvent)).bind λ v8=>
some ({ x0 with log:=v8 })
theorem qB{x1:Int}{r:Machine}(h:xI x0 x1 x2=some r):FnS prog 185 (oMac ps) ⟨x0⟩ [dt x1,dt x2] ⟨r⟩ .gone:=by
 refine fnSB (fn:=f185) 0 2 func185 Z Z (λ M G _ b0 _ j=>wqw ?_)
 refine Ka ?_
 refine j.hdA 0 0 (Pb.fld owMachine.f6) [] λ g1 A1 _ hA1 j=>?_
 refine j.zh 9 [(0,0)] (λ j=>?_) (hs:=sZ 7 (r:=by exact sc Z (kD126_0_1 Z T T)<|segZ))
 refine j.mvG (s:=10) (sb:=0) 0 1 (Pb.fld owMachine.f6) (.head _) (yA Z Z) [6,14] [] λ j=>?_
 refine j.tipR (s:=10) 1 (by first | (simp;done) | exact oD rfl) [0] λ g5 j=>?_
 have⟨v8,p8,h⟩:=bs h
 refine j.apA 1 xv p8 [6] [0] λ g7 j=>?_
 refine j.zh 2 [(0,0),(15,1)] λ j=>?_
 have j:=j.tipW (s:=15) 1 [0]
 refine j.shA 0 15 0 1 (tp Z) [] [] (λ j=>Kb ?_)
 exact(j.rs0 (s:=0) 0 (bx1 h)).2
theorem kB206:bldB prog 206 [1,2]=true:=by kernel_rfl
theorem kC206:Zq prog 206 [1,2]=some zpGAttr:=by kernel_rfl
theorem kD206_0_1:∀ {M:Nat->Prop} {look:Nat->Option Dt} {o:Oper} {q0 q1:Operand} {y0:Str} {y1:GVal},o.op=.build 206 #[(0,q0),(1,q1)]->OpdR M look q0 (dt y0)->OpdR M look q1 (dt y1)->OpRel prog M look o (dt (⟨y0,y1⟩:GAttr)):=@λ _ _ _ q0 q1 y0 y1 ho h0 h1=>yp (parts:=[(0,q0),(1,q1)]) (ns:=[1,2]) (zs:=zpGAttr) Z ho (λ w a hl=>FA ⟨(by decide:0<2),Rep.len (α:=Str) (OpdR.cells h0 hl)⟩ (FA ⟨(by decide:1<2),Rep.len (α:=GVal) (OpdR.cells h1 hl)⟩ FN)) (λ w a hl=>GAttr.parts (x:=(⟨y0,y1⟩:GAttr)) (OpdR.cells h0 hl) (OpdR.cells h1 hl))
theorem kE117:elB prog 117 206 3 32=true:=by kernel_rfl
theorem kF119_4:fldB prog 119 4 4=true:=by kernel_rfl
theorem kF115_7:fldB prog 115 7 7=true:=by kernel_rfl
theorem kT24:tyB prog 24 false 1=true:=by kernel_rfl
theorem kF115_0:fldB prog 115 0 0=true:=by kernel_rfl
theorem kF115_1:fldB prog 115 1 1=true:=by kernel_rfl
theorem kF115_2:fldB prog 115 2 2=true:=by kernel_rfl
theorem kF119_2:fldB prog 119 2 2=true:=by kernel_rfl
instance iF115_4MaB:FldO prog 115 4 4:=⟨Qj⟩
instance iF115_7MaB:FldO prog 115 7 7:=⟨kF115_7⟩
instance iF119_0MaB:FldO prog 119 0 0:=⟨zaJ⟩
instance iF119_5MaB:FldO prog 119 5 5:=⟨Ww⟩
instance iF206_0MaB:FldO prog 206 0 0:=⟨kF206_0⟩
def we(x0:GMod)(x1:Str)(x2:GVal)(s6:GMod×Int):Option ((GMod×Int)⊕(GMod⊕GMod)):=
if(cmpI .lss s6.2 (x0.attrs.length:Int))=true then((atI s6.1.attrs s6.2).bind λ v13=>
if(decide (v13.name=x1))=true then((atI s6.1.attrs s6.2).bind λ v20=>
some (.inr (.inr ({ s6.1 with attrs:=(s6.1.attrs.set s6.2.toNat ({ v20 with value:=x2 })) }))))
else((i64 (s6.2+(1:Int))).bind λ v26=>
some (.inl (s6.1,v26))))
else(some (.inr (.inl s6.1)))
def yG(x0:GMod)(x1:Str)(x2:GVal):Option GMod:=
Option.bind (α:=GMod⊕GMod) (zP (λ s6=>we x0 x1 x2 s6) (x0,(0:Int))) (Sum.elim (λ b2=>
(appO 32 b2.attrs ([(⟨x1,x2⟩:GAttr)]:List GAttr)).bind λ v40=>
some ({ b2 with attrs:=v40 })) some)
theorem jX{x0:GMod}{x2:GVal}{r:GMod}(h:yG x0 x1 x2=some r):FnS prog 155 (Ow.box (owGModR oAtt)) ⟨x0⟩ [dt x1,dt x2] ⟨r⟩ .gone:=by
 refine fnSB (fn:=f155) 0 2 func155 Z Z (λ M G w0 b0 _ j=>wqw ?_)
 refine j.zo [(0,0)] (λ j=>za ?_)
 have⟨o2,p2,k2⟩:=bs h
 refine wqj (λ a w=>∃ b2,o2=.inl b2/\(∃ M1 Q R,Sx (Frm.chg w0 G) 46 M M1 [Q,R] [(1,dt x1),(5,dptr x2)] [(0,0,dnm (Ow.box (owGModR oAtt)) Q ⟨b2⟩ (.pointer (some ⟨b0,0,none⟩)) [])] a w)) ?_ ?_
 ·refine j.hdA 0 0 (Pb.fld owGModR.f5) [] λ g3 A3 _ hA3 j=>?_
  refine j.zo [(0,0)] (λ j=>?_) (hs:=sZ 4 (r:=by exact sc Z (xLe Z T)<|segZ))
  have j:=j.ncf (s:=0) 0 []
  refine wql p2 (λ s6 a w=>∃ M1 Q R,Sx (Frm.chg w0 G) 46 M M1 [Q,R] [(1,dt x1),(5,dptr x2),(11,dt (x0.attrs.length:Int)),(12,dt s6.2)] [(0,0,dnm (Ow.box (owGModR oAtt)) Q ⟨s6.1⟩ (.pointer (some ⟨b0,0,none⟩)) [])] a w) fx ?_
  rintro s6 z6 _ _ ⟨_,Q,R,j⟩ hs6 hx6
  have h:we x0 x1 x2 s6=some z6:=hs6
  unfold we at h
  refine j.zd [(0,0)] h (λ j h=>?_) λ j h=>?_
  ·refine j.zo [(0,0)] λ j=>?_
   have⟨v13,p13,h⟩:=bs h
   refine j.hdA 0 0 (Pb.fld owGModR.f5) [] λ g12 A12 _ hA12 j=>?_
   refine j.zo [(0,0)] (λ j=>?_) (hs:=sZ 5 (r:=by exact sc Z (xIa (g:=g12) Z QC T T Z (λ h=>hA12 h Z) p13)<|sZ 1 (r:=by exact sc Z (xLf (sb:=0) (((Pb.fld owGModR.f5).row (.head _) Z (λ h=>hA12 h Z) p13).fld GAttr.z0) Z T Z)<|segZ)))
   have j:=j.ncf (s:=0) 0 []
   refine j.cq h (λ h=>?_) λ h=>?_
   ·have⟨v20,p20,h⟩:=bs h
    refine j.hdA 0 0 (Pb.fld owGModR.f5) [] λ g19 A19 _ hA19 j=>?_
    refine j.zu 8 [(0,0)] (λ j=>?_) (hs:=sw Z (oM Z U)<|sw Z (xNc Z T)<|sw Z (xFa Z Ww T)<|sw Z (xLc (sb:=0) (.head _) Z Z Z T Z)<|sw Z (oM Z T)<|sw Z (zz Z T)<|sw Z (xIa (g:=g19) Z QC T T Z (λ h=>hA19 h Z) p20)<|sw Z (xFa Z zcj T)<|.nil)
    refine j.sfA 0 0 (((Pb.fld owGModR.f5).row (.head _) Z (λ h=>hA19 h Z) p20).fld GAttr.z1) (tp Z) (tp Z) [] [] (λ j=>Kb ?_)
    have h:=lo h hx6
    have h:=jo h k2
    exact(j.rs0 (s:=0) 0 (bx1 h)).1
   have⟨v26,p26,h⟩:=bs h
   exact j.zn [(0,0)] h
  have h:=lo h hx6
  exact flz h
 rintro _ _ ⟨b2,rfl,⟨_,Q,R,j⟩⟩
 have h:=jn k2
 refine j.held (λ _=>True) yc λ _ j=>?_
 refine j.tN 0 0 trivial λ _ j=>?_
 refine j.hdA 0 0 (Pb.fld owGModR.f5) [] λ g33 A33 _ hA33 j=>?_
 refine j.drnE (D:=[_,_,_,_,_,_,_,_,_]) 9 [0] [[(0,nS)],[(0,nS)],[(35,1)],[(36,2)],[(37,3),(0,nS)],[(1,nS)],[(5,nS)],[(39,5),(40,6)],[(41,7)],[(38,4),(42,8)],[(34,0)],[(44,10)],[(45,11),(43,9)]] (
  rc Z Z (oM Z U)<|
  rc Z Z (oM Z U)<|
  rc Z Z (xNc Z T)<|
  rc Z Z (xFa Z Ww T)<|
  rc Z Z (xLc (sb:=0) (.head _) Z Z Z T Z)<|
  rc Z Z (oM Z T)<|
  rc Z Z (zz Z T)<|
  rc Z Z (kD206_0_1 Z T T)<|
  rc Z Z (yf (opds:=[.tmp 41]) Z (ht':=QC) Z Z (.cons T .nil))<|.nil) (by
 intro i hi x d hx
 simp only[List.mem_cons,List.not_mem_nil,or_false] at hi
 rcases hi with rfl
 all_goals (injection hx with hx;injection hx with h1 h2;subst h1;subst h2;rfl)) [34,38,42] [(0,0)] Z ⟨λ _ h=>h,trivial⟩ (λ _ _ j=>?_)
 refine j.mvG (s:=38) (sb:=0) 0 1 (Pb.fld owGModR.f5) (.head _) (yA Z Z) [34,42] [] λ j=>?_
 refine j.tipR (s:=38) 1 (by first | (simp;done) | exact oD rfl) [0] λ g37 j=>?_
 have⟨v40,p40,h⟩:=bs h
 refine j.apA 1 xv p40 [34] [0] λ g39 j=>?_
 refine j.zh 2 [(0,0),(43,1)] λ j=>?_
 have j:=j.tipW (s:=43) 1 [0]
 refine j.shA 0 43 0 1 (tp Z) [] [] (λ j=>Kb ?_)
 exact(j.rs0 (s:=0) 0 (bx1 h)).2
def jY(x0:Machine)(x1:Int):Option (Machine×Int):=
(atI x0.modules x1).bind λ _v3=>
(x0.modules[x1.toNat]?).bind λ v8=>
(xI x0 (3:Int) v8.x.name).bind λ v12=>
Option.bind (α:=Machine) ((v12.modules[x1.toNat]?).bind λ v15=>
(gO ((!v15.x.done) == true) (v12.modules[x1.toNat]?)).bind λ v17=>
(gO ((!v15.x.done) == true) (yw v12.part v17.x.name)).bind λ v18=>
if((!v15.x.done)&&(!v18))=true then((v12.modules[x1.toNat]?).bind λ v29=>
(appO 16 v12.part ([v29.x.name]:List Str)).bind λ v37=>
some ({ v12 with part:=v37 }))
else(some v12)) λ o14=>
some (o14,x1)
theorem W0{x1:Int}{r:Machine×Int}(h:jY x0 x1=some r):FnS prog 151 (oMac ps) ⟨x0⟩ [dt x1] ⟨r.1⟩ (.frz (dt r.2)):=by
 refine fnSB (fn:=f151) 0 2 func151 Z Z (λ M G w0 b0 _ j=>wqw ?_)
 refine j.zo [(0,0)] λ j=>?_
 have⟨v3,p3,h⟩:=bs h
 refine j.hdF (s:=0) 0 true (λ _=>(Pb.fld owMachine.f4)) [] λ g2 A2 _ hA2 j=>?_
 refine j.mintP (s:=0) 0 (Ya (owMachine.impE4 (YC (zG (yS p3).2)))) [] λ b4 j=>?_
 refine j.zo [(0,0)] (λ j=>?_) (hs:=sZ 5 (r:=by exact sc Z (xIa (g:=g2) Z zbc T T Z (λ h=>hA2 h Z) p3)<|sc Z (xLdP (sb:=0) (Pb.fld owMachine.f4) (.head _) Z (λ h=>hA2 h Z) (.head _) (yS p3).2 (Nat.mul_one _) Z JV T Z)<|segZ))
 have j:=j.ncf (s:=0) 0 []
 refine Ka ?_
 have⟨v8,p8,h⟩:=bs h
 refine j.zh 5 [(0,0)] (λ j=>?_) (hs:=sZ 4 (r:=by exact sc Z (xLf (sb:=0) (((Pb.fld owMachine.f4).rowP (.head _) p8).fld owGModR.f0) Z T Z)<|.nil))
 have⟨v12,p12,h⟩:=bs h
 refine j.cNA 0 0 (FnS.any (qB p12)) [1,5] [] (λ j=>Kb ?_)
 refine za ?_
 have⟨o14,p14,k14⟩:=bs h
 refine wqj (λ a w=>∃ M1 Q R,Sx (Frm.chg w0 G) 50 M M1 [Q,R] [(1,dt x1)] [(0,0,dnm (oMac ((x1.toNat,b4)::ps)) Q ⟨o14⟩ (.pointer (some ⟨b0,0,none⟩)) [])] a w) ?_ ?_
 ·have⟨v15,p15,h⟩:=bs p14
  have⟨v17,p17,v18,p18,h⟩:=Kg h
  refine j.hdR (s:=0) 0 ((!v15.x.done) == true) (λ hg=>(Pb.fld owMachine.f7)) Z Z [] Z λ g16 A16 _ hA16 j=>?_
  refine j.zv [(0,0)] (λ _ _ j=>?_) (hs:=sw Z (oM Z T)<|sw Z (xNc Z T)<|sw Z (xFa Z kF119_4 T)<|sw Z (xLf (sb:=0) (((Pb.fld owMachine.f4).rowP (.head _) p15).fld owGModR.f4) Z T Z)<|sw Z (qe Z T)<|sw Z (oM Z T)<|swg Z Z (λ hg=>oM Z U)<|swg Z Z (λ hg=>xNc Z V)<|swg Z Z (λ hg=>xFa Z kF115_7 V)<|swg Z Z (λ hg=>xLc (sb:=0) (.head _) hg Z Z V Z)<|swg Z Z (λ hg=>oM Z T)<|swg Z Z (λ hg=>xNc Z V)<|swg Z Z (λ hg=>xFa Z zaJ V)<|swg Z Z (λ hg=>xLf (sb:=0) (((Pb.fld owMachine.f4).rowP (.head _) (gh hg p17)).fld owGModR.f0) Z V Z)<|swg Z Z (λ hg=>wB (l:=[.tmp 28,.tmp 32]) j.ob.sub Z (.cons (lendP (sb:=0) j.ob 0 (Pb.fld owMachine.f7) (.head _) hg (yA Z Z) V Z) (.cons (qR j.ob.sub V) .nil)) (qQ (gh hg p18)) Y8)<|swg Z Z (λ hg=>qe Z V)<|sw Z (xk Z T T)<|.nil)
  have j:=j.ncf (s:=0) 0 []
  refine j.cq h (λ h=>?_) λ h=>?_
  ·refine j.held (λ _=>True) yc λ _ j=>?_
   refine j.tN 0 0 trivial λ _ j=>?_
   have⟨v29,p29,h⟩:=bs h
   refine j.hdA 0 0 (Pb.fld owMachine.f7) [] λ g28 A28 _ hA28 j=>?_
   refine j.drnE (D:=[_,_,_,_,_,_,_,_,_,_]) 10 [0] [[(0,nS)],[(0,nS)],[(37,1)],[(38,2)],[(39,3),(0,nS)],[(5,nS)],[(41,5)],[(42,6),(0,nS)],[(43,7),(0,nS)],[(44,8)],[(40,4),(45,9)],[(36,0)],[(47,11)],[(48,12),(46,10)]] (
    rc Z Z (oM Z U)<|
    rc Z Z (oM Z U)<|
    rc Z Z (xNc Z T)<|
    rc Z Z (xFa Z kF115_7 T)<|
    rc Z Z (xLc (sb:=0) (.head _) Z Z Z T Z)<|
    rc Z Z (oM Z T)<|
    rc Z Z (xNc Z T)<|
    rc Z Z (xFa Z zaJ T)<|
    rc Z Z (xLf (sb:=0) (((Pb.fld owMachine.f4).rowP (.head _) p29).fld owGModR.f0) Z T Z)<|
    rc Z Z (yf (opds:=[.tmp 44]) Z Z Z (.cons T .nil))<|.nil) (by
 intro i hi x d hx
 simp only[List.mem_cons,List.not_mem_nil,or_false] at hi
 rcases hi with rfl
 all_goals (injection hx with hx;injection hx with h1 h2;subst h1;subst h2;rfl)) [1,36,40,45] [(0,0)] Z ⟨λ _ h=>h,trivial⟩ (λ _ _ j=>?_)
   refine j.mvG (s:=40) (sb:=0) 0 1 (Pb.fld owMachine.f7) (.head _) (yA Z Z) [1,36,45] [] λ j=>?_
   refine j.tipR (s:=40) 1 (by first | (simp;done) | exact oD rfl) [0] λ g34 j=>?_
   have⟨v37,p37,h⟩:=bs h
   refine j.apA 1 xv p37 [1,36] [0] λ g36 j=>?_
   refine j.zh 2 [(0,0),(46,1)] λ j=>?_
   have j:=j.tipW (s:=46) 1 [0]
   refine j.shA 0 46 0 1 (tp Z) [1] [] (λ j=>Kb ?_)
   cases h
   exact fz
  cases h
  exact fz
 rintro _ _ ⟨_,Q,R,j⟩
 have h:=k14
 refine j.zo [(0,0)] λ j=>?_
 have j:=j.asA 0 0 mI []
 exact j.xF 0 0 h
def xX(x0:Machine)(x1:Str):Option (Machine×Spec):=
(xK x1).bind λ v3=>
if(decide (v3=(⟨[]⟩:Str)))=true then((Yb x0.t x0.path (⟨[]⟩:Str) x1).bind λ v9=>
some (x0,v9))
else((ye x0 v3).bind λ v14=>
(gO (cmpI .lss v14 0 == false) (atI x0.modules v14)).bind λ _v18=>
(gO (cmpI .lss v14 0 == false) (x0.modules[v14.toNat]?)).bind λ v20=>
if(cmpI .lss v14 0||cmpI .eql v20.x.kind 1)=true then((jj).bind λ v27=>
some (x0,v27))
else((atI x0.modules v14).bind λ _v34=>
(x0.modules[v14.toNat]?).bind λ v36=>
(jH x1).bind λ v37=>
(Yb x0.t v36.x.roots v3 v37).bind λ v38=>
some (x0,v38)))
theorem Wp{r:Machine×Spec}(h:xX x0 x1=some r):FnS prog 153 (oMac ps) ⟨x0⟩ [dt x1] ⟨r.1⟩ (.frz (dt r.2)):=by
 refine fnSB (fn:=f153) 0 2 func153 Z Z (λ M G _ b0 _ j=>wqw ?_)
 refine Ka ?_
 refine j.alA 1 WP [1] [0] (λ b2 j=>Kb ?_)
 have⟨v3,p3,h⟩:=bs h
 refine j.zo [(0,0),(4,1)] λ j=>?_
 refine j.zd [(0,0),(4,1)] h (λ j h=>?_) λ j h=>?_
 ·have⟨v9,p9,h⟩:=bs h
  refine j.zu 14 [(0,0),(4,1)] (λ j=>?_) (hs:=sw Z (oM Z U)<|sw Z (xNc Z T)<|sw Z (xFa Z kF115_0 T)<|sw Z (xLf (sb:=0) (Pb.fld owMachine.f0) Z T Z)<|sw Z (oM Z U)<|sw Z (xNc Z T)<|sw Z (xFa Z kF115_1 T)<|sw Z (xLf (sb:=0) (Pb.fld owMachine.f1) Z T Z)<|sw Z (oM Z T)<|sw Z (oM Z U)<|sw Z (xNc Z T)<|sw Z (xFa Z kF115_2 T)<|sw Z (OpRel.nilf (xLf (sb:=0) (Pb.fld owMachine.f2) Z T Z))<|sw Z (zA (l:=[.tmp 14,.tmp 18,_,.tmp 19,.tmp 23]) Z (.cons T (.cons T (.cons (zt) (.cons T (.cons T .nil))))) (zac p9))<|.nil)
  refine j.stA 4 1 FldS.id (tp Z) [] [0] (λ j=>Kb ?_)
  exact j.xC 0 0 h
 have⟨v14,p14,h⟩:=bs h
 refine j.zo [(0,0),(4,1)] (λ j=>?_) (hs:=sZ 2 (r:=by exact sc Z (wB (l:=[.tmp 25,.tmp 26]) j.ob.sub Z (.cons (lendA (sb:=0) j.ob 0 T Z) (.cons (qR j.ob.sub T) .nil)) (xl p14) Z5)<|segZ))
 have⟨v18,p18,v20,p20,h⟩:=Kg h
 refine j.hdF (s:=0) 0 (cmpI .lss v14 (0:Int) == false) (λ hg=>(Pb.fld owMachine.f4)) [4] λ g17 A17 _ hA17 j=>?_
 refine j.mintP (s:=0) 0 (Ya (owMachine.impE4 (impE_pinI (c:=(cmpI .lss v14 (0:Int) == false)) (λ hg=>zG (yS (gh hg p18)).2)))) [4] λ b19 j=>?_
 refine j.zo [(0,0),(4,1)] (λ j=>?_) (hs:=sc Z (oM Z T)<|
  sc Z (oCI Z T cI)<|
  sc Z (oM Z T)<|
  sg Z Z (λ hg=>oM Z U)<|
  sg Z Z (λ hg=>xNc Z V)<|
  sg Z Z (λ hg=>xFa Z Qj V)<|
  sg Z Z (λ hg=>xLc (sb:=0) (.head _) hg Z Z V Z)<|
  sg Z Z (λ hg=>oM Z T)<|
  sg Z Z (λ hg=>xIa (g:=g17) Z zbc V V Z (λ h=>hA17 h hg) (gh hg p18))<|
  sg Z Z (λ hg=>xLdP (sb:=0) (Pb.fld owMachine.f4) (.head _) hg (λ h=>hA17 h hg) (pinI_at hg) (yS (gh hg p18)).2 (Nat.mul_one _) Z JV V Z)<|
  sg Z Z (λ hg=>xNc Z V)<|
  sg Z Z (λ hg=>xFa Z kF119_1 V)<|
  sg Z Z (λ hg=>xLf (sb:=0) (((Pb.fld owMachine.f4).rowP (pinI_at hg) (gh hg p20)).fld owGModR.f1) Z V Z)<|
  sg Z Z (λ hg=>oCI Z V cI)<|
  sc Z (Za Z T T)<|.nil)
 have j:=j.ncf (s:=0) 0 [4]
 refine j.cq h (λ h=>?_) λ h=>?_
 ·refine Ka ?_
  have⟨v27,p27,h⟩:=bs h
  refine j.zh 1 [(0,0),(4,1)] λ j=>?_
  refine j.stA 4 1 FldS.id (tp Z) [] [0] (λ j=>Kb ?_)
  have j:=j.asA 0 0 (wm (owMachine.imp4 (xE (λ _ h=>(pinI_of h))))) [4]
  exact j.xC 0 0 h
 have⟨v34,p34,v36,p36,h⟩:=Kg h
 have⟨v37,p37,v38,p38,h⟩:=Kg h
 refine j.hdF (s:=0) 0 true (λ _=>(Pb.fld owMachine.f4)) [4] λ g33 A33 _ hA33 j=>?_
 refine j.mintP (s:=0) 0 (Ya (owMachine.impE4 (YC (zG (yS p34).2)))) [4] λ b35 j=>?_
 refine j.zu 22 [(0,0),(4,1)] (λ j=>?_) (hs:=sw Z (oM Z U)<|sw Z (xNc Z T)<|sw Z (xFa Z kF115_0 T)<|sw Z (xLf (sb:=0) (Pb.fld owMachine.f0) Z T Z)<|sw Z (oM Z U)<|sw Z (xNc Z T)<|sw Z (xFa Z Qj T)<|sw Z (xLc (sb:=0) (.head _) Z Z Z T Z)<|sw Z (oM Z T)<|sw Z (xIa (g:=g33) Z zbc T T Z (λ h=>hA33 h Z) p34)<|sw Z (xLdP (sb:=0) (Pb.fld owMachine.f4) (.head _) Z (λ h=>hA33 h Z) (.head _) (yS p34).2 (Nat.mul_one _) Z JV T Z)<|sw Z (xNc Z T)<|sw Z (xFa Z kF119_2 T)<|sw Z (xLf (sb:=0) (((Pb.fld owMachine.f4).rowP (.head _) p36).fld owGModR.f2) Z T Z)<|sw Z (oM Z T)<|sw Z (oM Z T)<|sw Z (zA (l:=[.tmp 59]) Z (.cons T .nil) (Ju p37))<|sw Z (oM Z U)<|sw Z (xNc Z T)<|sw Z (xFa Z kF115_2 T)<|sw Z (OpRel.nilf (xLf (sb:=0) (Pb.fld owMachine.f2) Z T Z))<|sw Z (zA (l:=[.tmp 47,.tmp 57,.tmp 58,.tmp 60,.tmp 64]) Z (.cons T (.cons T (.cons T (.cons T (.cons T .nil))))) (zac p38))<|.nil)
 refine j.stA 4 1 FldS.id (tp Z) [] [0] (λ j=>Kb ?_)
 have j:=j.ncf (s:=0) 0 [4]
 have j:=j.asA 0 0 (wm (owMachine.imp4 (xE (λ _ h=>(.tail _ (pinI_of h)))))) [4]
 exact j.xC 0 0 h
end Go.Proofs.YtifgdhfcoaognaaGreatDoor
