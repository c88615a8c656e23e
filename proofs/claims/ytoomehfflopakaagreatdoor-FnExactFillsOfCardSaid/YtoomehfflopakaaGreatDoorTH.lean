import Derived.Test.YtoomehfflopakaaGreatDoorTD
import Derived.Test.YtoomehfflopakaaGreatDoorTFb
import Derived.Test.YtoomehfflopakaaGreatDoorTQ
namespace Go.Proofs.YtoomehfflopakaaGreatDoor
open Go.RowKit Tryz
variable{r x3:Bool}{f:File}{x x4:FKt}{a k x1:Int}{x0:List Compiled}{l:List Str}{bk bn:Nat}{p s x2:Str}{t:Tree}{c:UInt8}
instance (s:Str):Decidable (mid s):=by unfold mid;infer_instance
instance (s:Stmt):Decidable (smStmt s):=by unfold smStmt;infer_instance
instance (f:File):Decidable (smFile f):=by unfold smFile;infer_instance
instance (t:Tree):Decidable (wR t):=by unfold wR;infer_instance
@[reducible] def oAtt:Ow (List GAttr):=Ow.row 188 (Ow.frz (α:=GAttr))
def yn(t:Tree):Option Bool:=if wR t then some (yh t) else none
theorem jX(h:yn t=some r):Fn prog 145 [dt t] (dt r):=by
 unfold yn at h
 split at h
 ·rename_i hc
  injection h with h
  subst h
  exact zdi _ hc
 ·cases h
def yT(s:Str):Option Bool:=if mid s then some (zf s) else none
theorem Zw(h:yT s=some r):Fn prog 91 [dt s] (dt r):=by
 unfold yT at h
 split at h
 ·rename_i hc
  injection h with h
  subst h
  exact YT _ hc
 ·cases h
def yw(s:Str):Option Bool:=if mid s then some (zm s) else none
theorem WN(h:yw s=some r):Fn prog 60 [dt s] (dt r):=by
 unfold yw at h
 split at h
 ·rename_i hc
  injection h with h
  subst h
  exact qQ _ hc
 ·cases h
def We(s:Str)(p:Str):Option Bool:=if p.l.length<=1152921504606846976 then some (under s p) else none
theorem zdo(h:We s p=some r):Fn prog 221 [dt s,dt p] (dt r):=by
 unfold We at h
 split at h
 ·rename_i hc
  injection h with h
  subst h
  exact zb6 _ _ hc
 ·cases h
def qt(s:Str)(c:UInt8):Option (List Str):=if mid s then some (zB s c) else none
theorem zfi{r}(h:qt s c=some r):Fn prog 95 [dt s,dt c] (dt r):=by
 unfold qt at h
 split at h
 ·rename_i hc
  injection h with h
  subst h
  exact Ye _ _ hc
 ·cases h
def YG(l:List Str)(s:Str):Option (List Str):=if l.length<=8796093022200 then some (jO l s) else none
theorem zdp{r:List Str}(h:YG l s=some r):zcE prog 250 9 l [dt s] r:=by
 unfold YG at h
 split at h
 ·rename_i hc
  injection h with h
  subst h
  exact zcK _ _ hc
 ·cases h
def ZM(p:List Int):Option Bool:=if True then some (we p) else none
theorem Q8{p}(h:ZM p=some r):Fn prog 31 [dt p] (dt r):=by
 unfold ZM at h
 split at h
 ·rename_i hc
  injection h with h
  subst h
  exact zdh _
 ·cases h
def xV(s:Str):Option Str:=if mid s then some (yb s) else none
theorem zb9{r}(h:xV s=some r):Fn prog 103 [dt s] (dt r):=by
 unfold xV at h
 split at h
 ·rename_i hc
  injection h with h
  subst h
  exact zfc _ hc
 ·cases h
def Z5(s:Str):Option Str:=if mid s then some (qn s) else none
theorem zbh{r}(h:Z5 s=some r):Fn prog 108 [dt s] (dt r):=by
 unfold Z5 at h
 split at h
 ·rename_i hc
  injection h with h
  subst h
  exact spec_last_ok _ hc
 ·cases h
def qR(s:Str):Option (List Str):=if mid s then some (zb5 s) else none
theorem zdq{r}(h:qR s=some r):Fn prog 202 [dt s] (dt r):=by
 unfold qR at h
 split at h
 ·rename_i hc
  injection h with h
  subst h
  exact spec_above_ok _ hc
 ·cases h
def xZ(p:Str)(s:Str):Option Str:=if p.l.length+s.l.length<=1152921504606846976 then some (child p s) else none
theorem Wf{r}(h:xZ p s=some r):Fn prog 93 [dt p,dt s] (dt r):=by
 unfold xZ at h
 split at h
 ·rename_i hc
  injection h with h
  subst h
  exact QM _ _ hc
 ·cases h
def jy(f:File):Option Str:=if smFile f then some (y9 f) else none
theorem Wg{r}(h:jy f=some r):Fn prog 189 [dt f] (dt r):=by
 unfold jy at h
 split at h
 ·rename_i hc
  injection h with h
  subst h
  exact zcJ _ hc
 ·cases h
def Yr(t:Tree)(f:File):Option Int:=if True then some (qF t.files f) else none
theorem QQ{r}(h:Yr t f=some r):Fn prog 182 [dt t,dt f] (dt r):=by
 unfold Yr at h
 split at h
 ·rename_i hc
  injection h with h
  subst h
  exact za9 _ _
 ·cases h
def W1  : Option Spec:=if True then some (noSpec) else none
theorem zca {r:Spec}(h:W1  = some r):Fn prog 149 [] (dt r):=by
 unfold W1 at h
 split at h
 ·rename_i hc
  injection h with h
  subst h
  exact zfd
 ·cases h
def Xv(t:Tree)(n:Int)(p:Str):Option Bool:=if p.l.length<=1152921504606846976 then some (QI t.files n p) else none
theorem zcb{n}(h:Xv t n p=some r):Fn prog 204 [dt t,dt n,dt p] (dt r):=by
 unfold Xv at h
 split at h
 ·rename_i hc
  injection h with h
  subst h
  exact zfe _ _ _ hc
 ·cases h
instance:Ct1 prog 145 dt dt yn:=⟨λ h=>jX h⟩
instance:Ct1 prog 91 dt dt yT:=⟨λ h=>Zw h⟩
instance:Ct1 prog 60 dt dt yw:=⟨λ h=>WN h⟩
instance:Ct2 prog 221 dt dt dt We:=⟨λ h=>zdo h⟩
instance:Ct2 prog 95 dt dt dt qt:=⟨λ h=>zfi h⟩
instance:Ct1 prog 31 dt dt ZM:=⟨λ h=>Q8 h⟩
instance:Ct1 prog 103 dt dt xV:=⟨λ h=>zb9 h⟩
instance:Ct1 prog 108 dt dt Z5:=⟨λ h=>zbh h⟩
instance:Ct1 prog 202 dt dt qR:=⟨λ h=>zdq h⟩
instance:Ct2 prog 93 dt dt dt xZ:=⟨λ h=>Wf h⟩
instance:Ct1 prog 189 dt dt jy:=⟨λ h=>Wg h⟩
instance:Ct2 prog 182 dt dt dt Yr:=⟨λ h=>QQ h⟩
instance:Ct3 prog 204 dt dt dt dt Xv:=⟨λ h=>zcb h⟩
instance:Ct2 prog 216 dt dt dt yJ:=⟨λ h=>Jt h⟩
attribute [local irreducible] OpRel OpdR
set_option maxRecDepth 10000
set_option maxHeartbeats 1600000
theorem kCv5_3:cvI prog 5 3=true:=by kernel_rfl
theorem kZ3:zeroCells prog 3=some xp:=by kernel_rfl
theorem kL73:isSl prog 73=true:=by kernel_rfl
theorem kS73:slB prog 73 8=true:=by kernel_rfl
theorem kT174:tyB prog 174 true 8=true:=by kernel_rfl
theorem kN164:fnB prog 164=true:=by kernel_rfl
theorem kF174_7:fldB prog 174 7 7=true:=by kernel_rfl
theorem kE43:elB prog 43 109 5 56=true:=by kernel_rfl
theorem WD:∀ {M:Nat->Prop} {look:Nat->Option Dt} {o:Oper} {q0 q1 q2 q3 q4 q5 q6 q7:Operand} {y0:Int} {y1:Str} {y2:Bool} {y3:Int} {y4:Int} {y5:Int} {y6:Int} {y7:List Stmt},o.op=.build 174 #[(0,q0),(1,q1),(2,q2),(3,q3),(4,q4),(5,q5),(6,q6),(7,q7)]->OpdR M look q0 (dt y0)->OpdR M look q1 (dt y1)->OpdR M look q2 (dt y2)->OpdR M look q3 (dt y3)->OpdR M look q4 (dt y4)->OpdR M look q5 (dt y5)->OpdR M look q6 (dt y6)->OpdR M look q7 (dt y7)->OpRel prog M look o (dt (⟨y0,y1,y2,y3,y4,y5,y6,y7⟩:Compiled)):=@λ _ _ _ q0 q1 q2 q3 q4 q5 q6 q7 y0 y1 y2 y3 y4 y5 y6 y7 ho h0 h1 h2 h3 h4 h5 h6 h7=>yf (parts:=[(0,q0),(1,q1),(2,q2),(3,q3),(4,q4),(5,q5),(6,q6),(7,q7)]) (ns:=[1,1,1,1,1,1,1,1]) (zs:=zcG) Z ho (λ w a hl=>FA ⟨(by decide:0<8),Rep.len (α:=Int) (OpdR.cells h0 hl)⟩ (FA ⟨(by decide:1<8),Rep.len (α:=Str) (OpdR.cells h1 hl)⟩ (FA ⟨(by decide:2<8),Rep.len (α:=Bool) (OpdR.cells h2 hl)⟩ (FA ⟨(by decide:3<8),Rep.len (α:=Int) (OpdR.cells h3 hl)⟩ (FA ⟨(by decide:4<8),Rep.len (α:=Int) (OpdR.cells h4 hl)⟩ (FA ⟨(by decide:5<8),Rep.len (α:=Int) (OpdR.cells h5 hl)⟩ (FA ⟨(by decide:6<8),Rep.len (α:=Int) (OpdR.cells h6 hl)⟩ (FA ⟨(by decide:7<8),Rep.len (α:=List Stmt) (OpdR.cells h7 hl)⟩ FN)))))))) (λ w a hl=>Compiled.parts (x:=(⟨y0,y1,y2,y3,y4,y5,y6,y7⟩:Compiled)) (OpdR.cells h0 hl) (OpdR.cells h1 hl) (OpdR.cells h2 hl) (OpdR.cells h3 hl) (OpdR.cells h4 hl) (OpdR.cells h5 hl) (OpdR.cells h6 hl) (OpdR.cells h7 hl))
def XK(x0:Int)(x1:Int):Option Int:=
(i64 ((131:Int)*x1)).bind λ v1=>
(i64 (v1+x0)).bind λ v2=>
(i64 (v2+(1:Int))).bind λ v3=>
(modO v3 (1000003:Int)).bind λ v4=>
some v4
theorem zeT{x0 r}(h:XK x0 x1=some r):FnM 1 prog 55 (Ow.box (Ow.frz (α:=Int))) ⟨x1⟩ [dt x0] ⟨r⟩ .gone:=by
 refine fnMB (fn:=f55) 1 0 2 func55 Z Z Z (λ M G _ b0 _ j=>wqw ?_)
 have⟨v1,p1,v2,p2,h⟩:=Ke h
 have⟨v3,p3,v4,p4,h⟩:=Ke h
 refine QY<|j.zh 6 [(1,0)] (λ j=>?_) (hs:=sc Z (xLf (sb:=1) Pb Z U Z)<|sZ 4 (r:=by exact sc Z (xMod Z T cI p4)<|.nil))
 refine j.sfA 1 0 Pb (zt Z) (tp Z) [] [] (λ j=>Wz ?_)
 exact(j.rs0 (s:=1) 0 (bx1 h)).2
def c_mix(x:Fw Int C0)(k:Int):Option (Fw Int C0):=match x.o with
 | none=>none
 | some q=>(XK k q.2).bind λ r=>some ⟨some (q.1,r)⟩
theorem zdr{x r}(h:c_mix x k=some r):FnD prog (Ow.fw .nilFunc 55 bn (Ow.frz (α:=Int))) x [dt k] r .gone:=by
 obtain⟨o⟩:=x
 unfold c_mix at h
 cases o with
 | none=>cases h
 |some q=>
  obtain⟨r1,h1,h2⟩:=bV.1 h
  injection h2 with h2
  subst h2
  exact fw_some (d:=q.1) (zeT h1)
def wY(x0:Str)(s3:(Fw Int C0)×Int):Option (((Fw Int C0)×Int)⊕(Fw Int C0)):=
if(cmpI .lss s3.2 (x0.l.length:Int))=true then((atI x0.l s3.2).bind λ a8=>
(c_mix s3.1 (a8.toNat:Int)).bind λ a9=>
(i64 (s3.2+(1:Int))).bind λ b3=>
some (.inl (a9,b3)))
else(some (.inr s3.1))
def XL(x0:Str)(x1:Fw Int C0):Option (Fw Int C0):=
Option.bind (α:=(Fw Int C0)) (zE (λ s3=>wY x0 s3) (x1,(0:Int))) λ o1=>
(c_mix o1 (0:Int)).bind λ a8=>
some a8
theorem zeU{x0 x1 r}(h:XL x0 x1=some r):FnM 1 prog 56 (Ow.box (Ow.fw (δ:=C0) .nilFunc 55 bn (Ow.frz (α:=Int)))) ⟨x1⟩ [dt x0] ⟨r⟩ .gone:=by
 refine fnMB (fn:=f56) 1 0 2 func56 Z Z Z (λ M G w0 b0 _ j=>wqw ?_)
 have⟨o1,p1,k1⟩:=bs h
 refine wqj (λ a w=>∃ M1 Q R,Sx (Frm.chg w0 G) 18 M M1 [Q,oneB R] [] [(1,0,dnm (Ow.box (Ow.fw (δ:=C0) .nilFunc 55 bn (Ow.frz (α:=Int)))) Q ⟨o1⟩ (.pointer (some ⟨b0,0,none⟩)) [])] a w) ?_ ?_
 ·refine j.zo [(1,0)] λ j=>?_
  refine wql p1 (λ s3 a w=>∃ M1 Q R,Sx (Frm.chg w0 G) 18 M M1 [Q,oneB R] [(0,dt x0),(5,dt (x0.l.length:Int)),(6,dt s3.2)] [(1,0,dnm (Ow.box (Ow.fw (δ:=C0) .nilFunc 55 bn (Ow.frz (α:=Int)))) Q ⟨s3.1⟩ (.pointer (some ⟨b0,0,none⟩)) [])] a w) fx ?_
  rintro s3 z3 _ _ ⟨_,Q,R,j⟩ hs3 hx3
  have h:wY x0 s3=some z3:=hs3
  unfold wY at h
  refine j.zd [(1,0)] h (λ j h=>?_) λ j h=>?_
  ·refine j.zo [(1,0)] λ j=>?_
   have⟨b5,a8,h⟩:=bs h
   refine j.hd1 (s:=1) 0 true (λ _=>Pb) Z Z Z (λ _ h=>h) [] Z λ b9 hb9 j=>?_
   refine j.zu 5 [(1,0)] (λ j=>?_) (hs:=sw Z (xLc (sb:=1) (.head _) Z hb9 Z U Z)<|sV 2 (r:=by exact sw Z (xByte Z T T a8)<|sw Z (xCvI Z kCv5_3 T)<|.nil))
   have⟨b6,a9,h⟩:=bs h
   refine j.cD (l:=[.tmp 13]) 0 (j.bkH (sb:=1) Pb (.head _) Z (zT Z hb9) Z (λ _ h=>h)) Z Z Z (j.st.has 9 _ Z) (by simp) (.cons T .nil) (FnD.any (zdr a9)) [0,5,6] Z [] Z Z (by decide) (λ j=>Wz ?_)
   have⟨b7,b8,h⟩:=bs h
   exact j.zn [(1,0)] h
  have h:=lo h hx3
  cases h
  exact fz
 rintro _ _ ⟨M1,Q,R,j⟩
 have h:=k1
 refine QY<|j.hd1 (s:=1) 0 true (λ _=>Pb) Z Z Z (λ _ h=>h) [] Z λ c8 hb21 j=>?_
 refine j.zh 1 [(1,0)] (λ j=>?_) (hs:=sc Z (xLc (sb:=1) (.head _) Z hb21 Z U Z)<|.nil)
 have⟨d1,b3,h⟩:=bs h
 refine j.cD (l:=[.const (.int .i64 0)]) 0 (j.bkH (sb:=1) Pb (.head _) Z (zT Z hb21) Z (λ _ h=>h)) Z Z Z (j.st.has 16 _ Z) (by simp) (.cons cI .nil) (FnD.any (zdr b3)) [] Z [] Z Z (by decide) (λ j=>Wz ?_)
 exact(j.rs0 (s:=1) 0 (bx1 h)).2
def c_text(x:Fw (Fw Int C0) C0)(k:Str):Option (Fw (Fw Int C0) C0):=match x.o with
 | none=>none
 | some q=>(XL k q.2).bind λ r=>some ⟨some (q.1,r)⟩
theorem c_text_w{bm:Nat}{x k r}(h:c_text x k=some r):FnD prog (Ow.fw .nilFunc 56 bm (Ow.fw .nilFunc 55 bn (Ow.frz (α:=Int)))) x [dt k] r .gone:=by
 obtain⟨o⟩:=x
 unfold c_text at h
 cases o with
 | none=>cases h
 |some q=>
  obtain⟨r1,h1,h2⟩:=bV.1 h
  injection h2 with h2
  subst h2
  exact fw_some (d:=q.1) (zeU h1)
def jY(x0:List Stmt)(a8:(Fw (Fw Int C0) C0)×Int):Option (((Fw (Fw Int C0) C0)×Int)⊕(Fw (Fw Int C0) C0)):=
if(cmpI .lss a8.2 (x0.length:Int))=true then((atI x0 a8.2).bind λ a9=>
(a8.1.o).bind λ b3=>
(c_mix b3.2 a9.kind).bind λ b5=>
(c_mix b5 a9.level).bind λ b6=>
(c_mix b6 a9.value).bind λ b7=>
(c_text (⟨some (b3.1,b7)⟩:Fw (Fw Int C0) C0) a9.module).bind λ b8=>
(c_text b8 a9.name).bind λ b9=>
(i64 (a8.2+(1:Int))).bind λ c8=>
some (.inl (b9,c8)))
else(some (.inr a8.1))
def Zi(x0:List Stmt):Option Int:=
(xK x0).bind λ v2=>
if(!v2)=true then(some (-1:Int))
else(Option.bind (α:=(Fw (Fw Int C0) C0)) (zE (λ a8=>jY x0 a8) ((⟨some ((⟨⟩:C0),(⟨some ((⟨⟩:C0),(1:Int))⟩:Fw Int C0))⟩:Fw (Fw Int C0) C0),(0:Int))) λ a9=>
(a9.o).bind λ b3=>
(b3.2.o).bind λ b5=>
some b5.2)
theorem QR{x0 r}(h:Zi x0=some r):Fn prog 27 [dt x0] (dt r):=by
 refine fq1 5 func27 λ M w0 _ j=>?_
 refine j.z1 λ j=>?_
 have⟨v2,p2,h⟩:=bs h
 refine j.zc h (λ j h=>?_) λ j h=>?_
 ·exact j.ze h
 refine QY<|j.alcW (ow:=(Ow.frz (α:=Int))) 2 jR [0] [] λ b8 _ _ _ j=>?_
 refine j.sfA 3 2 Pb (zt Z) cI [0] [] (λ j=>Wz ?_)
 refine QY<|j.mkFw (z:=.nilFunc) (so:=3) (l:=[]) (y:=(⟨⟩:C0)) 2 .nil [0] [] λ _ j=>?_
 refine j.alcW (ow:=(Ow.fw (δ:=C0) .nilFunc 55 b8 (Ow.frz (α:=Int)))) 3 (Ow.fw_z Z) [0,3] [11] λ a9 _ _ _ j=>?_
 refine j.stO (sb:=4) (tv:=11) 3 2 Pb (zt Z) [0,3] [] λ j=>?_
 refine Wz<|QY<|j.mkFw (z:=.nilFunc) (so:=4) (l:=[]) (y:=(⟨⟩:C0)) 3 .nil [0,3] [] λ _ j=>?_
 refine j.nmV (s:=12) 3 [] λ u17 j=>?_
 refine j.zh 1 [(5,3)] (λ j=>Wz ?_)
 refine za ?_
 have⟨b7,b9,c8⟩:=bs h
 refine wqj (λ a w=>∃ M1 Q R W X Y,Sx (Frm.of w0) 41 M M1 [Q,R,W,X,oneB Y] [(3,dis (ptA b8))] [(5,3,dow (Ow.fw (δ:=C0) .nilFunc 56 a9 (Ow.fw (δ:=C0) .nilFunc 55 b8 (Ow.frz (α:=Int)))) X b7)] a w) ?_ ?_
 ·refine j.zo [(5,3)] λ j=>?_
  have j:=j.unm (s:=5) 3 []
  refine wql b9 (λ a8 a w=>∃ M1 Q R W X Y,Sx (Frm.of w0) 41 M M1 [Q,R,W,X,oneB Y] [(13,dt x0),(14,dt (x0.length:Int)),(15,dt a8.2),(3,dis (ptA b8)),(4,dis (ptA a9))] [(5,3,dow (Ow.fw (δ:=C0) .nilFunc 56 a9 (Ow.fw (δ:=C0) .nilFunc 55 b8 (Ow.frz (α:=Int)))) X a8.1)] a w) fx ?_
  rintro a8 d1 _ _ ⟨_,Q,R,W,X,Y,j⟩ b3 b5
  have h:jY x0 a8=some d1:=b3
  unfold jY at h
  refine j.zd [(5,3)] h (λ j h=>?_) λ j h=>?_
  ·have⟨e3,e4,h⟩:=bs h
   refine QY<|j.zh 2 [(5,3)] λ j=>?_
   refine j.alA 4 zas [3,4,13,14,15,18] [5] λ e5 j=>?_
   refine j.stA 7 4 FldS.id (tp Z) [3,4,13,14,15] [5] (λ j=>Wz ?_)
   have⟨e6,b6,h⟩:=bs h
   refine QY<|j.nmV (s:=5) 3 [7] λ u35 j=>?_
   refine j.hd1 (s:=5) 3 true (λ _=>(PV.root.fw b6)) Z Z Z (λ _ h=>h) [7] Z λ e7 hb37 j=>?_
   refine j.zh 3 [(5,3),(7,4)] (λ j=>?_) (hs:=sc Z (xLc (sb:=5) (.head _) Z hb37 Z T Z)<|segZ)
   have⟨e8,d2,h⟩:=bs h
   refine j.cD (l:=[.tmp 21]) 3 (j.bkH (sb:=5) (PV.root.fw b6) (.head _) Z (zT Z hb37) Z (λ _ h=>h)) Z Z Z (j.st.has 19 _ Z) (by simp) (.cons T .nil) (FnD.any (zdr d2)) [3,4,13,14,15] Z [7] Z Z (by decide) λ j=>?_
   refine Wz<|QY<|j.hd1 (s:=5) 3 true (λ _=>(PV.root.fw Z)) Z Z Z (λ _ h=>h) [7] Z λ e9 hb44 j=>?_
   refine j.zh 3 [(5,3),(7,4)] (λ j=>?_) (hs:=sc Z (xLc (sb:=5) (.head _) Z hb44 Z T Z)<|segZ)
   have⟨f9,d3,h⟩:=bs h
   refine j.cD (l:=[.tmp 25]) 3 (j.bkH (sb:=5) (PV.root.fw Z) (.head _) Z (zT Z hb44) Z (λ _ h=>h)) Z Z Z (j.st.has 23 _ Z) (by simp) (.cons T .nil) (FnD.any (zdr d3)) [3,4,13,14,15] Z [7] Z Z (by decide) λ j=>?_
   refine Wz<|QY<|j.hd1 (s:=5) 3 true (λ _=>(PV.root.fw Z)) Z Z Z (λ _ h=>h) [7] Z λ g0 hb50 j=>?_
   refine j.zh 3 [(5,3),(7,4)] (λ j=>?_) (hs:=sc Z (xLc (sb:=5) (.head _) Z hb50 Z T Z)<|segZ)
   have⟨g3,d4,h⟩:=bs h
   refine j.cD (l:=[.tmp 29]) 3 (j.bkH (sb:=5) (PV.root.fw Z) (.head _) Z (zT Z hb50) Z (λ _ h=>h)) Z Z Z (j.st.has 27 _ Z) (by simp) (.cons T .nil) (FnD.any (zdr d4)) [3,4,13,14,15] Z [7] Z Z (by decide) λ j=>?_
   refine Wz<|QY<|j.zh 3 [(5,3),(7,4)] λ j=>?_
   have⟨g4,d5,h⟩:=bs h
   refine j.cD (l:=[.tmp 33]) 3 (j.bkN (s:=5)) Z Z Z ((j.st.has 31 _ Z).trans (j.st.has 5 _ Z).1.symm) (by simp) (.cons T .nil) (FnD.any (c_text_w d5)) [3,4,13,14,15] Z [7] Z Z (by decide) λ j=>?_
   refine Wz<|QY<|j.zh 3 [(5,3)] λ j=>?_
   have⟨g5,d6,h⟩:=bs h
   refine j.cD (l:=[.tmp 37]) 3 (j.bkN (s:=5)) Z Z Z ((j.st.has 35 _ Z).trans (j.st.has 5 _ Z).1.symm) (by simp) (.cons T .nil) (FnD.any (c_text_w d6)) [3,4,13,14,15] Z [] Z Z (by decide) λ j=>?_
   have⟨g6,g7,h⟩:=bs h
   refine Wz<|j.zo [(5,3)] λ j=>?_
   have j:=j.unm (s:=5) 3 []
   exact flz h
  have h:=lo h b5
  cases h
  exact fz
 rintro _ _ ⟨_,Q,R,W,X,Y,j⟩
 have h:=c8
 have⟨g8,d7,g9,e0,h⟩:=Ke h
 refine j.nmV (s:=5) 3 [] λ u72 j=>?_
 exact j.ze h (hs:=sc Z (xLf (sb:=5) ((PV.root.fw d7).fw e0) Z T Z)<|segZ)
instance:Ct1 prog 27 dt dt Zi:=⟨λ h=>QR h⟩
def jZ(x0:List Stmt)(a8:Int×Int):Option ((Int×Int)⊕Int):=
if(cmpI .lss a8.2 (x0.length:Int))=true then((atI x0 a8.2).bind λ a9=>
(i64 ((3:Int)+(a9.module.l.length:Int))).bind λ b3=>
(i64 (b3+(a9.name.l.length:Int))).bind λ b5=>
(i64 (a8.1+b5)).bind λ b6=>
(i64 (a8.2+(1:Int))).bind λ b7=>
some (.inl (b6,b7)))
else(some (.inr a8.1))
def Zj(x0:List Stmt):Option Int:=
(xK x0).bind λ v2=>
if(!v2)=true then(some (-1:Int))
else(Option.bind (α:=Int) (zE (λ a8=>jZ x0 a8) ((0:Int),(0:Int))) λ o9=>
some o9)
theorem W2{x0 r}(h:Zj x0=some r):Fn prog 162 [dt x0] (dt r):=by
 refine fq1 1 func162 λ M w0 _ j=>?_
 refine j.z1 λ j=>?_
 have⟨v2,p2,h⟩:=bs h
 refine j.zc h (λ j h=>?_) λ j h=>?_
 ·exact j.ze h
 refine j.z1 (λ j=>za ?_)
 refine j.jmq 1 [] (λ o9=>[(3,dt o9)]) (λ _ _=>[]) h (λ o9 p9=>?_) λ o9 q9 _ _ _ j h=>?_
 ·refine j.z1 λ j=>?_
  refine wql p9 (λ a8 a w=>∃ M1 Q,Sx (Frm.of w0) 27 M M1 [oneB Q] [(3,dt a8.1),(9,dt x0),(10,dt (x0.length:Int)),(11,dt a8.2)] [] a w) fx ?_
  rintro a8 b5 _ _ ⟨_,Q,j⟩ a9 b3
  have h:jZ x0 a8=some b5:=a9
  unfold jZ at h
  refine j.zc h (λ j h=>?_) λ j h=>?_
  ·have⟨b6,b7,h⟩:=bs h
   refine QY<|j.zg 2 λ j=>?_
   refine j.alA 0 zas [3,9,10,11,14] [] λ b8 j=>?_
   refine j.stA 5 0 FldS.id (tp Z) [3,9,10,11] [] (λ j=>Wz ?_)
   have⟨b9,c8,d1,d2,h⟩:=Ke h
   have⟨d3,d4,h⟩:=bs h
   refine j.z1 λ j=>?_
   have⟨d5,d6,h⟩:=bs h
   exact j.zn [] h
  have h:=lo h b3
  cases h
  exact fz
 exact j.ze h
instance:Ct1 prog 162 dt dt Zj:=⟨λ h=>W2 h⟩
def Ys(x0:Int):Option Bool:=
(yg x0 (0:Int) (2:Int)).bind λ v2=>
some v2
theorem W3{x0}(h:Ys x0=some r):Fn prog 40 [dt x0] (dt r):=by
 refine fq1 0 func40 λ M _ _ j=>?_
 refine j.z1 λ j=>?_
 have⟨v2,p2,h⟩:=bs h
 exact j.ze h
instance:Ct1 prog 40 dt dt Ys:=⟨λ h=>W3 h⟩
def jM(x0:Compiled)(x1:Int)(x2:Str)(x3:Bool):Option Bool:=
some ((cmpI .eql x0.root x1&&decide (x0.module=x2))&&(x0.init == x3))
theorem zbV{x0}(h:jM x0 x1 x2 x3=some r):Fn prog 164 [dt x0,dptr x1,dptr x2,dptr x3] (dt r):=by
 refine fq1 0 func164 λ M _ _ j=>?_
 refine j.z1 λ j=>?_
 exact j.ze h
def zM(x0:List Compiled)(x1:(Compiled->Option Bool))(s4:Int):Option (Int⊕(Unit⊕Int)):=
if(cmpI .lss s4 (x0.length:Int))=true then((atI x0 s4).bind λ a8=>
(x1 a8).bind λ a9=>
if a9=true then(some (.inr (.inr s4)))
else((i64 (s4+(1:Int))).bind λ b3=>
some (.inl b3)))
else(some (.inr (.inl ())))
def yR(x0:List Compiled)(x1:(Compiled->Option Bool)):Option Int:=
Option.bind (α:=Unit⊕Int) (zE (λ s4=>zM x0 x1 s4) (0:Int)) (Sum.elim (λ _b2=>
some (-1:Int)) some)
theorem Zk{x1 r}(h:yR x0 x1=some r):Fn prog 163 [dt x0,dfn1 prog x1] (dt r):=by
 refine fq1 0 func163 λ M w0 _ j=>?_
 refine j.z1 (λ j=>za ?_)
 refine j.jb [] (λ _=>[]) h (λ o2 p2 k2=>?_) λ b2 _ _ j h=>?_
 ·refine j.z1 λ j=>?_
  refine wql p2 (λ s4 a w=>Sx (Frm.of w0) 19 M M [] [(0,dt x0),(7,dt (x0.length:Int)),(8,dt s4),(1,dfn1 prog x1)] [] a w) (j.sel0 [0,7,8,1]) ?_
  rintro s4 z4 _ _ j hs4 hx4
  have h:zM x0 x1 s4=some z4:=hs4
  unfold zM at h
  refine j.zc h (λ j h=>?_) λ j h=>?_
  ·refine j.z1 λ j=>?_
   have⟨a9,b3,b5,a8,h⟩:=Ke h
   refine j.zc h (λ j h=>?_) (λ j h=>?_) (hs:=sZ 5 (r:=by exact sc Z (xCaF1 Z T T a8)<|.nil))
   ·exact j.ze (jo (lo h hx4) k2)
   have⟨b6,b7,h⟩:=bs h
   exact j.zn [] h
  have h:=lo h hx4
  exact flz h
 exact j.ze h
def jz(x0:List Compiled)(x1:Int)(x2:Str)(x3:Bool):Option Int:=
(yR x0 (λ a0=>jM a0 x1 x2 x3)).bind λ v2=>
some v2
theorem Wh{r}(h:jz x0 x1 x2 x3=some r):Fn prog 118 [dt x0,dt x1,dt x2,dt x3] (dt r):=by
 refine fq1 0 func118 λ M _ a0 j=>?_
 refine j.z1 λ j=>?_
 have⟨v2,p2,h⟩:=bs h
 exact j.ze h (hs:=sZ 1 (r:=by exact sc Z (xMkF1 (l:=[.tmp 5,.tmp 6,.tmp 7]) (g:=(λ a0=>jM a0 x1 x2 x3)) Z kN164 (.cons T (.cons T (.cons T .nil))) Z (λ _ _ h=>zbV h))<|sc Z (oK (Zk p2))<|segZ))
instance:Ct4 prog 118 dt dt dt dt dt jz:=⟨λ h=>Wh h⟩
def wi(x0:List Compiled)(s4:Int):Option (Int⊕(Unit⊕Bool)):=
if(cmpI .lss s4 (x0.length:Int))=true then((atI x0 s4).bind λ v9=>
(yg v9.root (0:Int) (2:Int)).bind λ a8=>
(gO ((!a8) == false) (ym v9.module)).bind λ a9=>
(gO (((!a8)||(!a9)) == false) (Ys v9.mode)).bind λ b3=>
(gO ((((!a8)||(!a9))||(!b3)) == false) (yg v9.stamp (0:Int) (99:Int))).bind λ b6=>
(gO (((((!a8)||(!a9))||(!b3))||(!b6)) == false) (xK v9.body)).bind λ b8=>
if(((((!a8)||(!a9))||(!b3))||(!b6))||(!b8))=true then(some (.inr (.inr false)))
else((Zj v9.body).bind λ b5=>
(gO (cmpI .neq v9.size b5 == false) (Zi v9.body)).bind λ b7=>
(gO ((cmpI .neq v9.size b5||cmpI .neq v9.hash b7) == false) (jz x0 v9.root v9.module v9.init)).bind λ b9=>
if((cmpI .neq v9.size b5||cmpI .neq v9.hash b7)||cmpI .neq b9 s4)=true then(some (.inr (.inr false)))
else((i64 (s4+(1:Int))).bind λ c8=>
some (.inl c8))))
else(some (.inr (.inl ())))
def qS(x0:List Compiled):Option Bool:=
Option.bind (α:=Unit⊕Bool) (zE (λ s4=>wi x0 s4) (0:Int)) (Sum.elim (λ _b2=>
some (cmpI .leq (x0.length:Int) 12)) some)
theorem Qr(h:qS x0=some r):Fn prog 116 [dt x0] (dt r):=by
 refine fq1 1 func116 λ M w0 _ j=>?_
 refine j.z1 (λ j=>za ?_)
 refine j.jbq 1 [0] (λ _=>[]) (λ _ _=>[]) h (λ o2 p2 k2=>?_) λ b2 q2 _ _ _ j h=>?_
 ·refine j.z1 λ j=>?_
  refine wql p2 (λ s4 a w=>∃ M1 Q,Sx (Frm.of w0) 70 M M1 [oneB Q] [(0,dt x0),(5,dt x0),(6,dt (x0.length:Int)),(7,dt s4)] [] a w) fx ?_
  rintro s4 z4 _ _ ⟨_,Q,j⟩ hs4 hx4
  have h:wi x0 s4=some z4:=hs4
  unfold wi at h
  refine j.zc h (λ j h=>?_) λ j h=>?_
  ·have⟨v9,p9,h⟩:=bs h
   refine QY<|j.zg 3 λ j=>?_
   refine j.alA 0 WJ [0,5,6,7,9,11] [] λ c8 j=>?_
   refine j.zh 1 [(4,0)] λ j=>?_
   refine j.stA 4 0 FldS.id (tp Z) [0,3,5,6,7] [] (λ j=>Wz ?_)
   have⟨d1,a8,d2,a9,h⟩:=Ke h
   have⟨d3,b3,d4,b5,h⟩:=Ke h
   have⟨d5,b6,h⟩:=bs h
   refine j.zd [(4,0)] h (λ j h=>?_) (λ j h=>?_) (hs:=sZ 2 (r:=by exact sc Z (oK (yQ a8))<|sZ 4 (r:=by exact sg Z Z (λ hg=>oK (wV (gh hg a9)))<|sZ 5 (r:=by exact sg Z Z (λ hg=>oK (W3 (gh hg b3)))<|sZ 5 (r:=by exact sg Z Z (λ hg=>oK (yQ (gh hg b5)))<|sZ 5 (r:=by exact sg Z Z (λ hg=>oK (WM (gh hg b6)))<|segZ))))))
   ·exact j.ze (jo (lo h hx4) k2)
   have⟨d6,b7,d7,b8,h⟩:=Ke h
   have⟨e0,b9,h⟩:=bs h
   refine j.zw (λ j=>?_) (hs:=sV 4 (r:=by exact sw Z (zA (l:=[.tmp 43]) Z (.cons T .nil) (W2 b7))<|sw Z (oCI Z T T)<|sV 5 (r:=by exact swg Z Z (λ hg=>zA (l:=[.tmp 50]) Z (.cons V .nil) (QR (gh hg b8)))<|swg Z Z (λ hg=>oCI Z V V)<|sw Z (qm Z T T)<|sV 8 (r:=by exact swg Z Z (λ hg=>zA (l:=[.tmp 55,.tmp 57,.tmp 59,.tmp 61]) Z (.cons V (.cons V (.cons V (.cons V .nil)))) (Wh (gh hg b9)))<|sV 1 (r:=by exact swg Z Z (λ hg=>oCI Z V V)<|sw Z (qm Z T T)<|.nil)))))
   refine j.cq h (λ h=>?_) λ h=>?_
   ·exact j.ze (jo (lo h hx4) k2)
   have⟨e3,e4,h⟩:=bs h
   exact j.zn [] h
  have h:=lo h hx4
  exact flz h
 exact j.ze h
instance:Ct1 prog 116 dt dt qS:=⟨λ h=>Qr h⟩
def yK(x0:List Stmt):Option (List Stmt):=
(appO 56 [] x0).bind λ v5=>
some v5
theorem j0{x0 r}(h:yK x0=some r):FnOwn prog 121 [dt x0] 109 r:=by
 refine fqO 1 func121 λ M _ _ j=>?_
 refine j.z1 (λ j=>?_) (hs:=sc Z (oA Z (jE (α:=Stmt) (e:=109)))<|.nil)
 refine QY<|j.zh 2 [(3,0)] (λ j=>?_) (hs:=sc Z (xt (α:=Stmt) (e:=109) Z)<|segZ)
 have⟨v5,p5,h⟩:=bs h
 refine j.apA 0 yI p5 [] [] λ g4 j=>?_
 refine j.zh 1 [(2,0)] (λ j=>Wz ?_)
 exact j.ret_own 0 Z Z (λ _ h=>h) h
def wj(x0:List Compiled)(s5:(List Compiled)×Int):Option (((List Compiled)×Int)⊕(List Compiled)):=
if(cmpI .lss s5.2 (x0.length:Int))=true then((atI x0 s5.2).bind λ a8=>
(yK a8.body).bind λ a9=>
(appO 88 s5.1 ([{ a8 with body:=a9 }]:List Compiled)).bind λ b3=>
(i64 (s5.2+(1:Int))).bind λ b5=>
some (.inl (b3,b5)))
else(some (.inr s5.1))
def YH(x0:List Compiled):Option (List Compiled):=
Option.bind (α:=(List Compiled)) (zE (λ s5=>wj x0 s5) ([],(0:Int))) λ o3=>
some o3
theorem zds{r}(h:YH x0=some r):FnOwn prog 117 [dt x0] 174 r:=by
 refine fqO 2 func117 λ M w0 _ j=>?_
 refine j.z1 (λ j=>?_) (hs:=sc Z (oA Z (jE (α:=Compiled) (e:=174)))<|.nil)
 refine j.zo [(3,0)] (λ j=>?_) (hs:=sc Z (xt (α:=Compiled) (e:=174) Z)<|segZ)
 refine za<|j.jmq 2 [] (λ _=>[]) (λ o3 q=>[(3,0,dtip (q 0) 174 o3)]) h (λ o3 p3=>?_) λ o3 q3 _ _ _ j h=>?_
 ·refine j.zo [(3,0)] λ j=>?_
  refine wql p3 (λ s5 a w=>∃ M1 Q R,Sx (Frm.of w0) 23 M M1 [oneB Q,oneB R] [(7,dt x0),(8,dt (x0.length:Int)),(9,dt s5.2)] [(3,0,dtip Q 174 s5.1)] a w) fx ?_
  rintro s5 z5 _ _ ⟨_,Q,R,j⟩ hs5 hx5
  have h:wj x0 s5=some z5:=hs5
  unfold wj at h
  refine j.zd [(3,0)] h (λ j h=>?_) λ j h=>?_
  ·have⟨b3,b5,h⟩:=bs h
   refine QY<|j.zh 2 [(3,0)] λ j=>?_
   refine j.alA 1 WJ [7,8,9,12] [3] λ b6 j=>?_
   refine j.stA 5 1 FldS.id (tp Z) [7,8,9] [3] (λ j=>Wz ?_)
   have⟨b7,a8,h⟩:=bs h
   refine QY<|j.zh 4 [(3,0),(5,1),(16,1)] (λ j=>?_) (hs:=sZ 2 (r:=by exact sc Z (zA (l:=[.tmp 14]) Z (.cons T .nil) ((j0 a8)).fn)<|segZ))
   refine j.stA 5 1 Compiled.set7 (tp Z) [7,8,9] [3] (λ j=>Wz ?_)
   refine QY<|j.zh 3 [(3,0),(17,0)] λ j=>?_
   have⟨b8,a9,h⟩:=bs h
   refine j.apA 0 yI a9 [7,8,9] [] λ b9 j=>?_
   refine j.zh 1 [(3,0)] (λ j=>Wz ?_)
   have⟨c8,d1,h⟩:=bs h
   exact j.zn [(3,0)] h
  have h:=lo h hx5
  cases h
  exact fz
 exact j.zl 0 h
def Xw(x0:Compiled)(x1:File):Option Bool:=
if cmpI .eql x0.mode 0 then((gO (cmpI .eql x0.stamp x1.stamp == true) (Zj x1.body)).bind λ v6=>
some (cmpI .eql x0.stamp x1.stamp&&cmpI .eql x0.size v6))
else(if cmpI .eql x0.mode 1 then((Zi x1.body).bind λ a8=>
some (cmpI .eql x0.hash a8))
else(some true))
theorem zcc{x0 x1}(h:Xw x0 x1=some r):Fn prog 120 [dt x0,dt x1] (dt r):=by
 refine fq1 0 func120 λ M _ _ j=>?_
 refine j.z1 λ j=>?_
 refine j.z1 λ j=>?_
 refine j.zc h (λ j h=>?_) λ j h=>?_
 ·have⟨v6,p6,h⟩:=bs h
  refine j.zw (λ j=>?_) (hs:=sV 4 (r:=by exact sw Z (oCI Z T T)<|sV 5 (r:=by exact swg Z Z (λ hg=>zA (l:=[.tmp 18]) Z (.cons V .nil) (W2 (gh hg p6)))<|swg Z Z (λ hg=>oCI Z V V)<|sw Z (xc Z T T)<|sw Z (oA Z T)<|.nil)))
  exact j.ret Z Z h
 refine j.zc h (λ j h=>?_) λ j h=>?_
 ·have⟨a8,a9,h⟩:=bs h
  refine j.zw λ j=>?_
  exact j.ret Z Z h
 exact j.ze h
instance:Ct2 prog 120 dt dt dt Xw:=⟨λ h=>zcc h⟩
def qu(x0:File)(x1:Int):Option Compiled:=
(jh x0).bind λ v4=>
(gO ((!v4) == false) (Ys x1)).bind λ v5=>
if((!v4)||(!v5))=true then(some (⟨0,⟨[]⟩,false,0,0,0,0,[]⟩:Compiled))
else((qI x0).bind λ a8=>
(Zj x0.body).bind λ a9=>
(Zi x0.body).bind λ b3=>
(yK x0.body).bind λ b5=>
some (⟨x0.root,a8,x0.init,x1,x0.stamp,a9,b3,b5⟩:Compiled))
theorem zcN{x0 r}(h:qu x0 x1=some r):Fn prog 122 [dt x0,dt x1] (dt r):=by
 refine fq1 1 func122 λ M _ _ j=>?_
 refine QY<|j.zg 1 λ j=>?_
 refine j.alA 0 WJ [1,2] [] (λ b3 j=>Wz ?_)
 have⟨v4,p4,v5,p5,h⟩:=Ke h
 refine j.zd [(4,0)] h (λ j h=>?_) (λ j h=>?_) (hs:=sZ 1 (r:=by exact sc Z (oK (QN p4))<|sZ 3 (r:=by exact sg Z Z (λ hg=>oK (W3 (gh hg p5)))<|segZ)))
 ·refine QY<|j.zh 1 [(4,0)] (λ j=>?_) (hs:=sc Z (yf (parts:=[]) (ns:=[1,1,1,1,1,1,1,1]) (zs:=zcG) Z Z (λ w a hl=>by simp) (λ w a hl=>Compiled.parts (x:=(⟨0,⟨[]⟩,false,0,0,0,0,[]⟩:Compiled)) ⟨Z,trivial⟩ J2 ⟨Z,trivial⟩ ⟨Z,trivial⟩ ⟨Z,trivial⟩ ⟨Z,trivial⟩ ⟨Z,trivial⟩ yA))<|.nil)
  refine j.stA 4 0 FldS.id (tp Z) [] [] (λ j=>Wz ?_)
  exact j.yB h
 have⟨b7,a8,b8,a9,h⟩:=Ke h
 have⟨b9,b5,c8,b6,h⟩:=Ke h
 refine j.zu 19 [(4,0)] (λ j=>?_) (hs:=sV 3 (r:=by exact sw Z (zA (l:=[.tmp 16]) Z (.cons T .nil) (Jv a8))<|sV 7 (r:=by exact sw Z (zA (l:=[.tmp 24]) Z (.cons T .nil) (W2 a9))<|sV 2 (r:=by exact sw Z (zA (l:=[.tmp 27]) Z (.cons T .nil) (QR b5))<|sV 2 (r:=by exact sw Z (zA (l:=[.tmp 30]) Z (.cons T .nil) ((j0 b6)).fn)<|sw Z (WD Z T T T T T T T T)<|.nil)))))
 refine j.store (sb:=4) 0 FldS.id Z Z Z kT174 Z Z (tp Z) Z [] Z [] Z Z (λ _ _ j=>Wz ?_)
 exact j.yB h
instance:Ct2 prog 122 dt dt dt qu:=⟨λ h=>zcN h⟩
theorem kS66:slB prog 66 4=true:=by kernel_rfl
theorem kT166:tyB prog 166 true 4=true:=by kernel_rfl
theorem kN158:fnB prog 158=true:=by kernel_rfl
theorem kF166_2:fldB prog 166 2 2=true:=by kernel_rfl
theorem zbN:fldB prog 166 3 3=true:=by kernel_rfl
theorem kT101:tyB prog 101 false 1=true:=by kernel_rfl
theorem Wi:fldB prog 68 2 2=true:=by kernel_rfl
theorem kN161:fnB prog 161=true:=by kernel_rfl
theorem kT68:tyB prog 68 true 3=true:=by kernel_rfl
theorem Qe:fldB prog 72 0 0=true:=by kernel_rfl
theorem kF72_2:fldB prog 72 2 2=true:=by kernel_rfl
theorem kF72_1:fldB prog 72 1 1=true:=by kernel_rfl
theorem zcd:∀ {M:Nat->Prop} {look:Nat->Option Dt} {o:Oper} {q0 q1 q2 q3:Operand} {y0:Int} {y1:Str} {y2:Int} {y3:List Str},o.op=.build 166 #[(0,q0),(1,q1),(2,q2),(3,q3)]->OpdR M look q0 (dt y0)->OpdR M look q1 (dt y1)->OpdR M look q2 (dt y2)->OpdR M look q3 (dt y3)->OpRel prog M look o (dt (⟨y0,y1,y2,y3⟩:Dir)):=@λ _ _ _ q0 q1 q2 q3 y0 y1 y2 y3 ho h0 h1 h2 h3=>yf (parts:=[(0,q0),(1,q1),(2,q2),(3,q3)]) (ns:=[1,1,1,1]) (zs:=zpDir) Z ho (λ w a hl=>FA ⟨(by decide:0<4),Rep.len (α:=Int) (OpdR.cells h0 hl)⟩ (FA ⟨(by decide:1<4),Rep.len (α:=Str) (OpdR.cells h1 hl)⟩ (FA ⟨(by decide:2<4),Rep.len (α:=Int) (OpdR.cells h2 hl)⟩ (FA ⟨(by decide:3<4),Rep.len (α:=List Str) (OpdR.cells h3 hl)⟩ FN)))) (λ w a hl=>Dir.parts (x:=(⟨y0,y1,y2,y3⟩:Dir)) (OpdR.cells h0 hl) (OpdR.cells h1 hl) (OpdR.cells h2 hl) (OpdR.cells h3 hl))
theorem kY66:zlB prog 66=true:=by kernel_rfl
theorem kT123:tyB prog 123 false 1=true:=by kernel_rfl
theorem kN71:fnB prog 71=true:=by kernel_rfl
theorem zfj:∀ {M:Nat->Prop} {look:Nat->Option Dt} {o:Oper} {q0 q1 q3:Operand} {y0:Int} {y1:Str} {y3:Bool},o.op=.build 45 #[(0,q0),(1,q1),(3,q3)]->OpdR M look q0 (dt y0)->OpdR M look q1 (dt y1)->OpdR M look q3 (dt y3)->OpRel prog M look o (dt (⟨y0,y1,⟨[]⟩,y3,0,[]⟩:File)):=@λ _ _ _ q0 q1 q3 y0 y1 y3 ho h0 h1 h3=>yf (parts:=[(0,q0),(1,q1),(3,q3)]) (ns:=[1,1,1,1,1,1]) (zs:=zpFile) Z ho (λ w a hl=>FA ⟨(by decide:0<6),Rep.len (α:=Int) (OpdR.cells h0 hl)⟩ (FA ⟨(by decide:1<6),Rep.len (α:=Str) (OpdR.cells h1 hl)⟩ (FA ⟨(by decide:3<6),Rep.len (α:=Bool) (OpdR.cells h3 hl)⟩ FN))) (λ w a hl=>File.parts (x:=(⟨y0,y1,⟨[]⟩,y3,0,[]⟩:File)) (OpdR.cells h0 hl) (OpdR.cells h1 hl) J2 (OpdR.cells h3 hl) ⟨Z,trivial⟩ yA)
theorem XY:∀ {M:Nat->Prop} {look:Nat->Option Dt} {o:Oper} {q0 q1 q2:Operand} {y0:Int} {y1:Int} {y2:List Int},o.op=.build 137 #[(0,q0),(1,q1),(2,q2)]->OpdR M look q0 (dt y0)->OpdR M look q1 (dt y1)->OpdR M look q2 (dt y2)->OpRel prog M look o (dt (⟨y0,y1,y2⟩:Spec)):=@λ _ _ _ q0 q1 q2 y0 y1 y2 ho h0 h1 h2=>yf (parts:=[(0,q0),(1,q1),(2,q2)]) (ns:=[1,1,1]) (zs:=zpSpec) Z ho (λ w a hl=>FA ⟨(by decide:0<3),Rep.len (α:=Int) (OpdR.cells h0 hl)⟩ (FA ⟨(by decide:1<3),Rep.len (α:=Int) (OpdR.cells h1 hl)⟩ (FA ⟨(by decide:2<3),Rep.len (α:=List Int) (OpdR.cells h2 hl)⟩ FN))) (λ w a hl=>Spec.parts (x:=(⟨y0,y1,y2⟩:Spec)) (OpdR.cells h0 hl) (OpdR.cells h1 hl) (OpdR.cells h2 hl))
theorem zfk:∀ {M:Nat->Prop} {look:Nat->Option Dt} {o:Oper} {q0 q1 q2:Operand} {y0:Int} {y1:Str} {y2:Str},o.op=.build 45 #[(0,q0),(1,q1),(2,q2)]->OpdR M look q0 (dt y0)->OpdR M look q1 (dt y1)->OpdR M look q2 (dt y2)->OpRel prog M look o (dt (⟨y0,y1,y2,false,0,[]⟩:File)):=@λ _ _ _ q0 q1 q2 y0 y1 y2 ho h0 h1 h2=>yf (parts:=[(0,q0),(1,q1),(2,q2)]) (ns:=[1,1,1,1,1,1]) (zs:=zpFile) Z ho (λ w a hl=>FA ⟨(by decide:0<6),Rep.len (α:=Int) (OpdR.cells h0 hl)⟩ (FA ⟨(by decide:1<6),Rep.len (α:=Str) (OpdR.cells h1 hl)⟩ (FA ⟨(by decide:2<6),Rep.len (α:=Str) (OpdR.cells h2 hl)⟩ FN))) (λ w a hl=>File.parts (x:=(⟨y0,y1,y2,false,0,[]⟩:File)) (OpdR.cells h0 hl) (OpdR.cells h1 hl) (OpdR.cells h2 hl) ⟨Z,trivial⟩ ⟨Z,trivial⟩ yA)
instance iF166_3WaB:FldO prog 166 3 3:=⟨zbN⟩
instance iF72_0WaB:FldO prog 72 0 0:=⟨Qe⟩
instance iF72_1WaB:FldO prog 72 1 1:=⟨kF72_1⟩
instance iF72_2WaB:FldO prog 72 2 2:=⟨kF72_2⟩
def ye(x0:List Dir)(x1:(Dir->Option Bool))(s4:Int):Option (Int⊕(Unit⊕Int)):=
if(cmpI .lss s4 (x0.length:Int))=true then((atI x0 s4).bind λ a8=>
(x1 a8).bind λ a9=>
if a9=true then(some (.inr (.inr s4)))
else((i64 (s4+(1:Int))).bind λ b3=>
some (.inl b3)))
else(some (.inr (.inl ())))
def xN(x0:List Dir)(x1:(Dir->Option Bool)):Option Int:=
Option.bind (α:=Unit⊕Int) (zE (λ s4=>ye x0 x1 s4) (0:Int)) (Sum.elim (λ _b2=>
some (-1:Int)) some)
theorem Xo{x0 x1 r}(h:xN x0 x1=some r):Fn prog 157 [dt x0,dfn1 prog x1] (dt r):=by
 refine fq1 0 func157 λ M w0 _ j=>?_
 refine j.z1 (λ j=>za ?_)
 refine j.jb [] (λ _=>[]) h (λ o2 p2 k2=>?_) λ b2 _ _ j h=>?_
 ·refine j.z1 λ j=>?_
  refine wql p2 (λ s4 a w=>Sx (Frm.of w0) 19 M M [] [(0,dt x0),(7,dt (x0.length:Int)),(8,dt s4),(1,dfn1 prog x1)] [] a w) (j.sel0 [0,7,8,1]) ?_
  rintro s4 z4 _ _ j hs4 hx4
  have h:ye x0 x1 s4=some z4:=hs4
  unfold ye at h
  refine j.zc h (λ j h=>?_) λ j h=>?_
  ·refine j.z1 λ j=>?_
   have⟨a9,b3,b5,a8,h⟩:=Ke h
   refine j.zc h (λ j h=>?_) (λ j h=>?_) (hs:=sZ 5 (r:=by exact sc Z (xCaF1 Z T T a8)<|.nil))
   ·exact j.ze (jo (lo h hx4) k2)
   have⟨b6,b7,h⟩:=bs h
   exact j.zn [] h
  have h:=lo h hx4
  exact flz h
 exact j.ze h
def Wj(x0:Dir)(x1:Int)(x2:Str):Option Bool:=
some (cmpI .eql x0.root x1&&decide (x0.pkg=x2))
theorem zfl{x0}(h:Wj x0 x1 x2=some r):Fn prog 158 [dt x0,dptr x1,dptr x2] (dt r):=by
 refine fq1 0 func158 λ M _ _ j=>?_
 refine j.z1 λ j=>?_
 exact j.ze h
def qT(x0:List Dir)(x1:Int)(x2:Str):Option Int:=
(xN x0 (λ a0=>Wj a0 x1 x2)).bind λ v2=>
some v2
theorem JJ{x0 r}(h:qT x0 x1 x2=some r):Fn prog 114 [dt x0,dt x1,dt x2] (dt r):=by
 refine fq1 0 func114 λ M _ a0 j=>?_
 refine j.z1 λ j=>?_
 have⟨v2,p2,h⟩:=bs h
 exact j.ze h (hs:=sZ 1 (r:=by exact sc Z (xMkF1 (l:=[.tmp 4,.tmp 5]) (g:=(λ a0=>Wj a0 x1 x2)) Z kN158 (.cons T (.cons T .nil)) Z (λ _ _ h=>zfl h))<|sc Z (oK (Xo p2))<|segZ))
instance:Ct3 prog 114 dt dt dt dt qT:=⟨λ h=>JJ h⟩
def j8(x0:List Dir)(x1:Int)(x2:Int)(s4:Int):Option (Int⊕(Unit⊕Bool)):=
if(cmpI .lss s4 (x0.length:Int))=true then((atI x0 s4).bind λ v9=>
(yg v9.root (0:Int) (2:Int)).bind λ a8=>
(gO ((!a8) == false) (xi v9.pkg)).bind λ a9=>
(gO (((!a8)||(!a9)) == false) (yg v9.stamp (0:Int) x1)).bind λ b3=>
(gO (((((!a8)||(!a9))||(!b3))||cmpI .gtr (v9.names.length:Int) x2) == false) (WB x0 s4)).bind λ b5=>
(gO (((((!a8)||(!a9))||(!b3))||cmpI .gtr (v9.names.length:Int) x2) == false) (qT b5 v9.root v9.pkg)).bind λ b6=>
if(((((!a8)||(!a9))||(!b3))||cmpI .gtr (v9.names.length:Int) x2)||cmpI .geq b6 0)=true then(some (.inr (.inr false)))
else((i64 (s4+(1:Int))).bind λ b7=>
some (.inl b7)))
else(some (.inr (.inl ())))
def Xx(x0:List Dir)(x1:Int)(x2:Int):Option Bool:=
Option.bind (α:=Unit⊕Bool) (zE (λ s4=>j8 x0 x1 x2 s4) (0:Int)) (Sum.elim (λ _b2=>
some (cmpI .leq (x0.length:Int) 20)) some)
theorem zce{x0 x2}(h:Xx x0 x1 x2=some r):Fn prog 172 [dt x0,dt x1,dt x2] (dt r):=by
 refine fq1 1 func172 λ M w0 _ j=>?_
 refine j.z1 (λ j=>za ?_)
 refine j.jbq 1 [0] (λ _=>[]) (λ _ _=>[]) h (λ o2 p2 k2=>?_) λ b2 q2 _ _ _ j h=>?_
 ·refine j.z1 λ j=>?_
  refine wql p2 (λ s4 a w=>∃ M1 Q,Sx (Frm.of w0) 55 M M1 [oneB Q] [(0,dt x0),(1,dt x1),(2,dt x2),(9,dt x0),(10,dt (x0.length:Int)),(11,dt s4)] [] a w) fx ?_
  rintro s4 z4 _ _ ⟨_,Q,j⟩ hs4 hx4
  have h:j8 x0 x1 x2 s4=some z4:=hs4
  unfold j8 at h
  refine j.zc h (λ j h=>?_) λ j h=>?_
  ·have⟨v9,p9,h⟩:=bs h
   refine QY<|j.zg 3 λ j=>?_
   refine j.alA 0 zrDir [0,1,2,9,10,11,13,15] [] λ b7 j=>?_
   refine j.zh 1 [(8,0)] λ j=>?_
   refine j.stA 8 0 FldS.id (tp Z) [0,1,2,7,9,10,11] [] (λ j=>Wz ?_)
   have⟨b8,a8,b9,a9,h⟩:=Ke h
   have⟨c8,b3,d1,b5,h⟩:=Ke h
   have⟨d2,b6,h⟩:=bs h
   refine j.zw (λ j=>?_) (hs:=sV 2 (r:=by exact sw Z (zA (l:=[.tmp 17,.const (.int .i64 0),.const (.int .i64 2)]) Z (.cons T (.cons cI (.cons cI .nil))) (yQ a8))<|sV 4 (r:=by exact swg Z Z (λ hg=>zA (l:=[.tmp 22]) Z (.cons V .nil) (wW (gh hg a9)))<|sV 1 (r:=by exact sw Z (qm Z T T)<|sV 4 (r:=by exact swg Z Z (λ hg=>zA (l:=[.tmp 28,.const (.int .i64 0),.tmp 29]) Z (.cons V (.cons cI (.cons V .nil))) (yQ (gh hg b3)))<|sV 1 (r:=by exact sw Z (qm Z T T)<|sV 5 (r:=by exact swg Z Z (λ hg=>oCI Z V V)<|sw Z (qm Z T T)<|sV 3 (r:=by exact swg Z Z (λ hg=>xSliH Z V V (gh hg b5))<|sV 4 (r:=by exact swg Z Z (λ hg=>zA (l:=[.tmp 43,.tmp 45,.tmp 47]) Z (.cons V (.cons V (.cons V .nil))) (JJ (gh hg b6)))<|swg Z Z (λ hg=>oCI Z V cI)<|sw Z (qm Z T T)<|.nil)))))))))
   refine j.cq h (λ h=>?_) λ h=>?_
   ·exact j.ze (jo (lo h hx4) k2)
   have⟨d3,d4,h⟩:=bs h
   exact j.zn [] h
  have h:=lo h hx4
  exact flz h
 exact j.ze h
instance:Ct3 prog 172 dt dt dt dt Xx:=⟨λ h=>zce h⟩
def YW(x0:Disk)(x1:Int)(x2:Str):Option Int:=
(qT x0.dirs x1 x2).bind λ v2=>
if cmpI .lss v2 0 then(some (0:Int))
else((atI x0.dirs v2).bind λ v9=>
some v9.stamp)
theorem zfm{x0 r}(h:YW x0 x1 x2=some r):Fn prog 113 [dt x0,dt x1,dt x2] (dt r):=by
 refine fq1 0 func113 λ M _ _ j=>?_
 refine j.z1 λ j=>?_
 have⟨v2,p2,h⟩:=bs h
 refine j.z1 λ j=>?_
 refine j.zc h (λ j h=>?_) λ j h=>?_
 ·exact j.ze h
 have⟨v9,p9,h⟩:=bs h
 exact j.ze h
instance:Ct3 prog 113 dt dt dt dt YW:=⟨λ h=>zfm h⟩
def xv(x0:Str)(x1:Str):Option (Str×Str×Bool):=
(yJ x0 x1).bind λ v2=>
if cmpI .geq v2 0 then((cutHO x0 v2).bind λ v8=>
(i64 (v2+(x1.l.length:Int))).bind λ v9=>
(zb3 x0 v9).bind λ a8=>
some (v8,a8,true))
else(some (x0,(⟨[]⟩:Str),false))
theorem Qf{x0 x1 r}(h:xv x0 x1=some r):Fn prog 194 [dt x0,dt x1] (dtup [dt r.1,dt r.2.1,dt r.2.2]):=by
 refine fq1 0 func194 λ M _ _ j=>?_
 refine j.z1 λ j=>?_
 have⟨v2,p2,h⟩:=bs h
 refine j.z1 λ j=>?_
 refine j.zc h (λ j h=>?_) λ j h=>?_
 ·have⟨v8,p8,h⟩:=bs h
  have⟨v9,p9,a8,a9,h⟩:=Ke h
  refine j.zw λ j=>?_
  cases h
  exact j.ret3 (j.frozen (t:=4)) (j.frozen (t:=5)) (j.frozen (t:=6)) ⟨Z,Z,Z⟩
 refine j.z1 λ j=>?_
 cases h
 exact j.ret3 (j.frozen (t:=4)) (j.frozen (t:=5)) (j.frozen (t:=6)) ⟨Z,Z,Z⟩
instance:Ct2 prog 194 dt dt (λ r=>dtup [dt r.1,dt r.2.1,dt r.2.2]) xv:=⟨λ h=>Qf h⟩
def jT(x0:Str)(x1:Str):Option (Str×Str×Bool):=
(xv x0 x1).bind λ v2=>
some (v2.1,v2.2.1,v2.2.2)
theorem strings_Cut_w{x0 x1 r}(h:jT x0 x1=some r):Fn prog 160 [dt x0,dt x1] (dtup [dt r.1,dt r.2.1,dt r.2.2]):=by
 refine fq1 0 func160 λ M _ _ j=>?_
 refine j.z1 λ j=>?_
 have⟨v2,p2,h⟩:=bs h
 refine j.z1 λ j=>?_
 cases h
 exact j.ret3 (j.frozen (t:=4)) (j.frozen (t:=5)) (j.frozen (t:=6)) ⟨Z,Z,Z⟩
instance:Ct2 prog 160 dt dt (λ r=>dtup [dt r.1,dt r.2.1,dt r.2.2]) jT:=⟨λ h=>strings_Cut_w h⟩
def jA(x0:Tree)(x1:Int)(x2:Str)(s5:(List Str)×Int):Option (((List Str)×Int)⊕(List Str)):=
if(cmpI .lss s5.2 (x0.files.length:Int))=true then(Option.bind (α:=(List Str)) ((atI x0.files s5.2).bind λ a8=>
if cmpI .neq a8.root x1 then(some s5.1)
else(if(decide (a8.pkg=x2))=true then(Option.bind (α:=(List Str)) (if a8.init=true then((appO 16 s5.1 ([(⟨[42]⟩:Str)]:List Str)).bind λ a9=>
some a9)
else((appO 16 s5.1 ([a8.name]:List Str)).bind λ b3=>
some b3)) λ b5=>
some b5)
else((ZJ a8.pkg x2).bind λ b6=>
if b6=true then(Option.bind (α:=Str) (if(decide (x2≠(⟨[]⟩:Str)))=true then((i64 ((x2.l.length:Int)+(1:Int))).bind λ b7=>
(zb3 a8.pkg b7).bind λ b8=>
some b8)
else(some a8.pkg)) λ b9=>
(jT b9 (⟨[46]⟩:Str)).bind λ c8=>
(catO c8.1 (⟨[47]⟩:Str)).bind λ d1=>
(appO 16 s5.1 ([d1]:List Str)).bind λ d2=>
some d2)
else(some s5.1)))) λ d3=>
(i64 (s5.2+(1:Int))).bind λ d4=>
some (.inl (d3,d4)))
else(some (.inr s5.1))
def Wk(x0:Tree)(x1:Int)(x2:Str):Option (List Str):=
Option.bind (α:=(List Str)) (zE (λ s5=>jA x0 x1 x2 s5) ([],(0:Int))) λ o3=>
(W0 o3).bind λ a8=>
some a8
theorem zfn{x0 r}(h:Wk x0 x1 x2=some r):FnOwn prog 115 [dt x0,dt x1,dt x2] 9 r:=by
 refine fqO 2 func115 λ M w0 _ j=>?_
 refine j.z1 (λ j=>?_) (hs:=sZ 1 (r:=by exact sc Z (oA Z (jE (α:=Str) (e:=9)))<|.nil))
 refine j.zo [(7,0)] (λ j=>?_) (hs:=sc Z (xt (α:=Str) (e:=9) Z (ht':=WC))<|segZ)
 refine za<|j.jmq 2 [] (λ _=>[]) (λ o3 q=>[(7,0,dtip (q 0) 9 o3)]) h (λ o3 p3=>?_) λ o3 q3 _ _ _ j h=>?_
 ·refine j.zo [(7,0)] λ j=>?_
  refine wql p3 (λ s5 a w=>∃ M1 Q R,Sx (Frm.of w0) 68 M M1 [oneB Q,oneB R] [(1,dt x1),(2,dt x2),(16,dt x0.files),(17,dt (x0.files.length:Int)),(18,dt s5.2)] [(7,0,dtip Q 9 s5.1)] a w) fx ?_
  rintro s5 z5 _ _ ⟨_,Q,R,j⟩ hs5 hx5
  have h:jA x0 x1 x2 s5=some z5:=hs5
  unfold jA at h
  refine j.zd [(7,0)] h (λ j h=>?_) λ j h=>?_
  ·refine wqk<|za<|j.jmq 2 [1,2,16,17,18] (λ _=>[]) (λ a8 q=>[(7,0,dtip (q 0) 9 a8)]) h (λ a8 b5=>?_) λ a8 d3 _ _ _ j h=>?_
   ·have⟨d4,d5,h⟩:=bs b5
    refine QY<|j.zh 2 [(7,0)] λ j=>?_
    refine j.alA 1 Js [1,2,16,17,18,21] [7] λ d6 j=>?_
    refine j.stA 9 1 FldS.id (tp Z) [1,2,16,17,18] [7] (λ j=>Wz ?_)
    refine j.zd [(7,0),(9,1)] h (λ j h=>?_) λ j h=>?_
    ·cases h
     exact fz
    refine j.zd [(7,0),(9,1)] h (λ j h=>?_) λ j h=>?_
    ·refine j.jmq 2 [1,2,16,17,18] (λ _=>[]) (λ a9 q=>[(7,0,dtip (q 0) 9 a9)]) h (λ a9 b6=>?_) λ a9 d7 _ _ _ j h=>?_
     ·refine j.zd [(7,0),(9,1)] b6 (λ j h=>?_) λ j h=>?_
      ·refine QY<|j.zh 2 [(7,0),(32,0)] (λ j=>?_) (hs:=sZ 1 (r:=by exact sc Z (xH (opds:=[_]) Z (ht':=WC) Z Z (.cons (yS) .nil))<|.nil))
       have⟨e0,b7,h⟩:=bs h
       refine j.apA 0 yI b7 [1,2,16,17,18] [] λ e3 j=>?_
       refine j.zh 1 [(7,0)] (λ j=>Wz ?_)
       cases h
       exact fz
      refine QY<|j.zh 4 [(7,0),(35,0)] λ j=>?_
      have⟨e4,b8,h⟩:=bs h
      refine j.apA 0 yI b8 [1,2,16,17,18] [] λ e5 j=>?_
      refine j.zh 1 [(7,0)] (λ j=>Wz ?_)
      cases h
      exact fz
     cases h
     exact fz
    have⟨e6,e7,h⟩:=bs h
    refine j.zd [(7,0),(9,1)] h (λ j h=>?_) λ j h=>?_
    ·refine j.zo [(7,0),(9,1)] (λ j=>za ?_)
     refine j.jmq 2 [1,2,16,17,18] (λ b3=>[(10,dt b3)]) (λ _ q=>[(7,0,dtip (q 0) 9 s5.1)]) h (λ b3 b9=>?_) λ b3 e8 _ _ _ j h=>?_
     ·refine j.zd [(7,0),(9,1)] b9 (λ j h=>?_) λ j h=>?_
      ·have⟨e9,f9,h⟩:=bs h
       have⟨g0,g3,h⟩:=bs h
       refine j.zo [(7,0)] λ j=>?_
       cases h
       exact fz
      cases h
      exact fz
     have⟨g4,g5,h⟩:=bs h
     refine j.zo [(7,0)] (λ j=>QY ?_)
     have⟨g6,c8,h⟩:=bs h
     refine j.zh 4 [(7,0),(60,0)] (λ j=>?_) (hs:=sZ 2 (r:=by exact sc Z (xCat Z T (yS) c8)<|segZ))
     have⟨g7,d1,h⟩:=bs h
     refine j.apA 0 yI d1 [1,2,16,17,18] [] λ g8 j=>?_
     refine j.zh 1 [(7,0)] (λ j=>Wz ?_)
     cases h
     exact fz
    cases h
    exact fz
   have⟨g9,h0,h⟩:=bs h
   exact j.zn [(7,0)] h
  have h:=lo h hx5
  cases h
  exact fz
 refine QY<|j.zh 1 [(66,0)] λ j=>?_
 have⟨h1,d2,h⟩:=bs h
 refine j.take (l:=[]) 0 Z Z kN161 Z Z .nil (impl_sorted_w d2) [] Z [] Z Z λ h2 _ _ _ j=>?_
 refine j.zh 1 [(6,0)] (λ j=>Wz ?_)
 exact j.ret_own 0 Z Z (λ _ h=>h) h
def YI(x0:Finder)(x1:Disk)(x2:Int)(x3:Str):Option (Finder×(List Str)):=
(YW x1 x2 x3).bind λ v2=>
(qT x0.dirs x2 x3).bind λ v6=>
(gO (cmpI .geq v6 0 == true) (atI x0.dirs v6)).bind λ b5=>
if(cmpI .geq v6 0&&cmpI .eql b5.stamp v2)=true then((i64 (x0.hits+(1:Int))).bind λ b3=>
(atI x0.dirs v6).bind λ b6=>
some ({ x0 with hits:=(if(1000:Int)<b3 then(1000:Int) else b3) },b6.names))
else((i64 (x0.fills+(1:Int))).bind λ a8=>
(Wk x1.tree x2 x3).bind λ a9=>
Option.bind (α:=Finder) (if cmpI .geq v6 0 then((atI x0.dirs v6).bind λ _b9=>
some ({ x0 with dirs:=(x0.dirs.set v6.toNat (⟨x2,x3,v2,a9⟩:Dir)),fills:=(if(1000:Int)<a8 then(1000:Int) else a8) }))
else(if(cmpI .lss (x0.dirs.length:Int) 20)=true then((appO 56 x0.dirs ([(⟨x2,x3,v2,a9⟩:Dir)]:List Dir)).bind λ b7=>
some ({ x0 with dirs:=b7,fills:=(if(1000:Int)<a8 then(1000:Int) else a8) }))
else(some ({ x0 with fills:=(if(1000:Int)<a8 then(1000:Int) else a8) })))) λ b8=>
some (b8,a9))
@[reducible] def oDs:Ow (List Dir):=Ow.row 166 (Ow.frz (α:=Dir))
@[reducible] def oFi:Ow Finder:=owFinder oDs
@[reducible] def oBF:Ow (Bx Finder):=Ow.box oFi
theorem zdt{x0 x1 x2 x3 r}(h:YI x0 x1 x2 x3=some r):FnS prog 71 oBF ⟨x0⟩ [dt x1,dt x2,dt x3] ⟨r.1⟩ (.frz (dt r.2)):=by
 refine fnSB (fn:=f71) 0 3 func71 Z Z (λ M G w0 b0 _ j=>wqw ?_)
 refine j.zo [(0,0)] (λ j=>?_) (hs:=sZ 1 (r:=by exact sc Z (oA Z (wu (α:=Str)))<|.nil))
 have⟨v2,p2,h⟩:=bs h
 refine j.zo [(0,0)] λ j=>?_
 have⟨v6,p6,h⟩:=bs h
 refine j.hdA 0 0 (Pb.fld owFinder.f0) [] λ g5 A5 _ hA5 j=>?_
 refine j.zo [(0,0)] (λ j=>?_) (hs:=sZ 6 (r:=by exact sc Z (yV (l:=[.tmp 20,.tmp 21,.tmp 22]) j.ob.sub Z (.cons (zaL (sb:=0) j.ob 0 (Pb.fld owFinder.f0) (.head _) Z (zT Z Z) T Z) (.cons (xf j.ob.sub T) (.cons (xf j.ob.sub T) .nil))) (JJ p6) jK)<|segZ))
 have j:=j.ncf (s:=0) 0 []
 have⟨e5,b5,h⟩:=bs h
 refine j.hdR (s:=0) 0 (cmpI .geq v6 (0:Int) == true) (λ hg=>(Pb.fld owFinder.f0)) [] λ c8 e6 _ a8 j=>?_
 refine j.zo [(0,0)] (λ j=>?_) (hs:=sc Z (oM Z T)<|
  sc Z (oCI Z T cI)<|
  sc Z (oM Z T)<|
  sg Z Z (λ hg=>oM Z U)<|
  sg Z Z (λ hg=>xNc Z V)<|
  sg Z Z (λ hg=>xFa Z Qe V)<|
  sg Z Z (λ hg=>xLc (sb:=0) (.head _) hg Z Z V Z)<|
  sg Z Z (λ hg=>oM Z T)<|
  sg Z Z (λ hg=>xIa (g:=c8) Z kS66 V V Z (λ h=>a8 h hg) (gh hg b5))<|
  sg Z Z (λ hg=>xFa Z kF166_2 V)<|
  sg Z Z (λ hg=>xLf (sb:=0) (((Pb.fld owFinder.f0).row (.head _) hg (λ h=>a8 h hg) (gh hg b5)).fld Dir.z2) Z V Z)<|
  sg Z Z (λ hg=>oM Z T)<|
  sg Z Z (λ hg=>oCI Z V V)<|
  sc Z (xc Z T T)<|.nil)
 have j:=j.ncf (s:=0) 0 []
 refine j.cq h (λ h=>?_) λ h=>?_
 ·have⟨b6,e7,h⟩:=bs h
  refine QY<|j.zh 9 [(0,0)] (λ j=>?_) (hs:=sZ 4 (r:=by exact sc Z (xLf (sb:=0) (Pb.fld owFinder.f2) Z T Z)<|sZ 1 (r:=by exact sc Z (xMin Z T cI)<|segZ)))
  refine j.sfA 0 0 (Pb.fld owFinder.f2) (tp Z) (tp Z) [10] [] (λ j=>Wz ?_)
  have⟨e8,b7,h⟩:=bs h
  refine j.hdA 0 0 (Pb.fld owFinder.f0) [] λ d1 e9 _ a9 j=>?_
  refine j.zo [(0,0)] (λ j=>?_) (hs:=sZ 5 (r:=by exact sc Z (xIa (g:=d1) Z kS66 T T Z (λ h=>a9 h Z) b7)<|sZ 1 (r:=by exact sc Z (xLf (sb:=0) (((((PV.root (x:=(⟨{ x0 with hits:=(if(1000:Int)<b6 then(1000:Int) else b6) }⟩:Bx Finder))).box Z).fld owFinder.f0).row (.head _) Z (λ h=>a9 h Z) b7).fld Dir.z3) Z T Z)<|segZ)))
  have j:=j.ncf (s:=0) 0 []
  exact j.xD 0 0 h
 have⟨b8,f9,h⟩:=bs h
 refine QY<|j.zh 9 [(0,0)] (λ j=>?_) (hs:=sZ 4 (r:=by exact sc Z (xLf (sb:=0) (Pb.fld owFinder.f1) Z T Z)<|sZ 1 (r:=by exact sc Z (xMin Z T cI)<|segZ)))
 refine j.sfA 0 0 (Pb.fld owFinder.f1) (tp Z) (tp Z) [2,3,5,9,10] [] (λ j=>Wz ?_)
 have⟨d2,d3,h⟩:=bs h
 refine j.zo [(0,0)] (λ j=>?_) (hs:=sZ 4 (r:=by exact sc Z (zA (l:=[.tmp 65,.tmp 66,.tmp 67]) Z (.cons T (.cons T (.cons T .nil))) ((zfn d3)).fn)<|segZ))
 refine QY<|j.zh 5 [(0,0)] (λ j=>?_) (hs:=sZ 4 (r:=by exact sc Z (zcd Z T T T T)<|.nil))
 refine j.alA 2 zrDir [10,11,73] [0] λ g0 j=>?_
 refine j.stA 12 2 FldS.id (tp Z) [10,11] [0] (λ j=>Wz ?_)
 refine za ?_
 have⟨d4,d5,d6⟩:=bs h
 refine wqj (λ a w=>∃ M1 Q R W,Sx (Frm.chg w0 G) 102 M M1 [Q,R,oneB W] [(11,dt d2)] [(0,0,dnm oBF Q ⟨d4⟩ (.pointer (some ⟨b0,0,none⟩)) [])] a w) ?_ ?_
 ·refine j.zd [(0,0),(12,2)] d5 (λ j h=>?_) λ j h=>?_
  ·have⟨g3,b9,h⟩:=bs h
   refine j.hdA 0 0 (Pb.fld owFinder.f0) [12] λ d7 g4 _ b3 j=>?_
   refine j.zu 7 [(0,0)] (λ j=>?_) (hs:=sV 6 (r:=by exact sw Z (xIa (g:=d7) Z kS66 T T Z (λ h=>b3 h Z) b9)<|.nil))
   refine j.stF (sb:=0) 0 ((((PV.root (x:=(⟨{ x0 with fills:=(if(1000:Int)<b8 then(1000:Int) else b8) }⟩:Bx Finder))).box Z).fld owFinder.f0).row (.head _) Z (λ h=>b3 h Z) b9) (tp Z) (tp Z) [11] [] (λ _ j=>Wz ?_)
   cases h
   exact fz
  refine j.hdA 0 0 (Pb.fld owFinder.f0) [12] λ g6 g7 _ e0 j=>?_
  refine j.zo [(0,0),(12,2)] (λ j=>?_) (hs:=sZ 4 (r:=by exact sc Z (xLe Z T)<|segZ))
  have j:=j.ncf (s:=0) 0 [12]
  refine j.cq h (λ h=>?_) λ h=>?_
  ·refine j.held (λ _=>True) zN λ _ j=>?_
   refine j.tN 0 0 trivial λ _ j=>?_
   refine j.hdA 0 0 (Pb.fld owFinder.f0) [12] λ g8 g9 _ e3 j=>?_
   refine j.drnE (D:=[_,_,_,_,_,_,_]) 7 [0] [[(0,nS)],[(0,nS)],[(92,1)],[(93,2)],[(94,3),(0,nS)],[(12,nS)],[(96,5)],[(95,4),(97,6)],[(91,0)],[(99,8)],[(100,9),(98,7)]] (
    rc Z Z (oM Z U)<|
    rc Z Z (oM Z U)<|
    rc Z Z (xNc Z T)<|
    rc Z Z (xFa Z Qe T)<|
    rc Z Z (xLc (sb:=0) (.head _) Z Z Z T Z)<|
    rc Z Z (y8 Z T)<|
    rc Z Z (xH (opds:=[.tmp 96]) Z Z Z (.cons T .nil))<|.nil) (by
 intro i hi x d hx
 simp only[am,aS,ch] at hi
 rcases hi with rfl
 all_goals (injection hx with hx;injection hx with h1 h2;subst h1;subst h2;rfl)) [11,91,95,97] [(0,0)] Z ⟨λ _ h=>h,trivial⟩ (λ j=>?_)
   refine j.mvG (s:=95) (sb:=0) 0 1 (Pb.fld owFinder.f0) (.head _) (zT Z Z) [11,91,97] [] λ j=>?_
   refine j.tipR (s:=95) 1 (by first | (simp;done) | exact oD rfl) [0] λ h0 j=>?_
   have⟨h3,e4,h⟩:=bs h
   refine j.apA 1 yI e4 [11,91] [0] λ h4 j=>?_
   refine j.zh 2 [(0,0),(98,1)] λ j=>?_
   have j:=j.tipW (s:=98) 1 [0]
   refine j.shA 0 98 0 1 (tp Z) [11] [] (λ j=>Wz ?_)
   cases h
   exact fz
  cases h
  exact fz
 rintro _ _ ⟨_,Q,R,W,j⟩
 have h:=d6
 refine j.zo [(0,0)] λ j=>?_
 exact j.xD 0 0 h
def XM(x0:Int)(x1:Str)(x2:Bx Finder)(x3:Disk):Option ((Bx Finder)×(List Str)):=
(YI x2.x x3 x0 x1).bind λ v5=>
some (⟨v5.1⟩,v5.2)
theorem zeV{x0 x1 x2 x3 r}(h:XM x0 x1 x2 x3=some r):FnM 2 prog 70 (Ow.box oBF) ⟨x2⟩ [dt x0,dt x1,dptr x3] ⟨r.1⟩ (.frz (dt r.2)):=by
 refine fnMB (fn:=f70) 2 0 2 func70 Z Z Z (λ M G _ b0 _ j=>wqw ?_)
 refine j.zo [(2,0)] (λ j=>?_) (hs:=sc Z (oA Z (wu (α:=Str)))<|.nil)
 refine QY<|j.hdB (s:=2) 0 true (λ _=>Pb) Z Z (λ _ h=>h) [] Z λ b2 j=>?_
 refine j.zh 4 [(2,0)] (λ j=>?_) (hs:=sc Z (xLc (sb:=2) (.head _) Z Z Z U Z)<|segZ)
 have⟨v5,p5,h⟩:=bs h
 refine j.cSF (l:=[.tmp 8,.tmp 9,.tmp 10]) 0 (j.bkH (sb:=2) Pb (.head _) Z (zT Z Z) Z (λ _ h=>h)) Z Z kN71 (j.st.has 7 _ Z) (by simp) (.cons T (.cons T (.cons T .nil))) (zdt p5) [] Z [] Z Z (by decide) λ j=>?_
 refine j.zh 1 [(2,0)] (λ j=>Wz ?_)
 exact j.xD 2 0 h
def c_known(x:FKt)(a:Int)(p:Str):Option (FKt×List Str):=match x.o with
 | none=>none
 | some q=>(XM a p q.2 q.1.x).bind λ r=>some (⟨some (q.1,r.1)⟩,r.2)
@[reducible] def oKn(b:Nat):Ow (FKt):=Ow.fw (δ:=C1 Disk) .nilFunc 70 b oBF
theorem c_known_w{r}(h:c_known x a p=some r):FnD prog (oKn bk) x [dt a,dt p] r.1 (.frz (dt r.2)):=by
 obtain⟨o⟩:=x
 unfold c_known at h
 cases o with
 | none=>cases h
 |some q=>
  obtain⟨r1,h1,h2⟩:=bV.1 h
  injection h2 with h2
  subst h2
  exact fw_some (d:=q.1) (zeV h1)
def wZ(x0:Tree)(x1:List Int)(x2:Str)(x3:Str)(v5:Str)(a8:(FKt)×Spec×(List Int)×Int):Option (((FKt)×Spec×(List Int)×Int)⊕(((FKt)×Spec×(List Int))⊕((FKt)×Spec))):=
if(cmpI .lss a8.2.2.2 (x1.length:Int))=true then(Option.bind (α:=((FKt)×Spec×(List Int))⊕(((FKt)×Spec×(List Int)×Int)⊕(((FKt)×Spec×(List Int))⊕((FKt)×Spec)))) ((atI x1 a8.2.2.2).bind λ b3=>
Option.bind (α:=(FKt)×Bool×Bool) (if a8.1.o.isSome=true then((c_known a8.1 b3 x2).bind λ b5=>
(catO x3 (⟨[47]⟩:Str)).bind λ b9=>
(zP b5.2 b9).bind λ c8=>
(zP b5.2 x3).bind λ d1=>
some (b5.1,c8,d1))
else(some (a8.1,true,true))) λ a9=>
(Yq x0 (⟨b3,v5,⟨[]⟩,true,0,[]⟩:File)).bind λ b7=>
if(a9.2.1&&cmpI .geq b7 0)=true then(some (.inr (.inr (.inr (a9.1,(⟨(2:Int),b7,([b3]:List Int)⟩:Spec))))))
else((Yq x0 (⟨b3,x2,x3,false,0,[]⟩:File)).bind λ b8=>
if(a9.2.2&&cmpI .geq b8 0)=true then(some (.inr (.inr (.inr (a9.1,(⟨(1:Int),b8,([]:List Int)⟩:Spec))))))
else((gO (a9.2.1 == true) (Xu x0 b3 v5)).bind λ d2=>
if(a9.2.1&&d2)=true then((appO 8 a8.2.2.1 ([b3]:List Int)).bind λ d3=>
some (.inl (a9.1,a8.2.1,d3)))
else(some (.inl (a9.1,a8.2.1,a8.2.2.1)))))) (Sum.elim (λ b6=>
(i64 (a8.2.2.2+(1:Int))).bind λ d4=>
some (.inl (b6.1,b6.2.1,b6.2.2,d4))) some))
else(some (.inr (.inl (a8.1,a8.2.1,a8.2.2.1))))
def Xy(x0:Tree)(x1:List Int)(x2:Str)(x3:Str)(x4:FKt):Option ((FKt)×Spec):=
(ww x2 x3).bind λ v5=>
if(decide (v5=(⟨[]⟩:Str)))=true then((YV).bind λ a9=>
some (x4,a9))
else(Option.bind (α:=((FKt)×Spec×(List Int))⊕((FKt)×Spec)) (zE (λ b3=>wZ x0 x1 x2 x3 v5 b3) (x4,XX,[],(0:Int))) (Sum.elim (λ a8=>
if(cmpI .gtr (a8.2.2.length:Int) 0)=true then(some (a8.1,(⟨(3:Int),(-1:Int),a8.2.2⟩:Spec)))
else((YV).bind λ b5=>
some (a8.1,b5))) some))
theorem zcf{x0 x1 x3 r}(h:Xy x0 x1 x2 x3 x4=some r):FnM 4 prog 136 (oKn bk) x4 [dt x0,dt x1,dt x2,dt x3] r.1 (.frz (dt r.2)):=by
 refine fnMV (fn:=f136) 4 1 4 func136 Z Z Z (λ M G w0 u0 _ j=>wqw ?_)
 refine QY<|j.zh 1 [(4,1)] λ j=>?_
 refine j.alA 3 QK [1,2,3,5] [4] λ b3 j=>?_
 have⟨v5,p5,h⟩:=bs h
 refine Wz<|j.zo [(4,1),(10,3)] λ j=>?_
 refine j.zd [(4,1),(10,3)] h (λ j h=>?_) λ j h=>?_
 ·have⟨e8,e9,h⟩:=bs h
  refine QY<|j.zh 1 [(4,1),(10,3)] λ j=>?_
  refine j.stA 10 3 FldS.id (tp Z) [] [4] (λ j=>Wz ?_)
  exact j.rsC (s:=4) 1 zbg h
 refine j.zo [(4,1),(10,3),(12,2)] (λ j=>?_) (hs:=sc Z (xt (α:=Int) (e:=3) Z)<|segZ)
 refine za ?_
 have⟨d1,d2,b7⟩:=bs h
 refine wqj (λ a w=>∃ b5,d1=.inl b5/\(∃ M1 Q R W X,Sx (Frm.chg w0 G) 92 M M1 [oneB Q,R,oneB W,oneB X] [] [(10,3,dbox X 0 b5.2.1),(12,2,dtip W 3 b5.2.2),(4,1,dnm (oKn bk) R b5.1 u0 [])] a w)) ?_ ?_
 ·refine j.zo [(4,1),(10,3),(12,2)] λ j=>?_
  refine wql d2 (λ a8 a w=>∃ M1 Q R W X,Sx (Frm.chg w0 G) 92 M M1 [oneB Q,R,oneB W,oneB X] [(2,dt x2),(3,dt x3),(5,dptr x0),(11,dt v5),(27,dt x1),(28,dt (x1.length:Int)),(29,dt a8.2.2.2)] [(10,3,dbox X 0 a8.2.1),(12,2,dtip W 3 a8.2.2.1),(4,1,dnm (oKn bk) R a8.1 u0 [])] a w) fx ?_
  rintro a8 d3 _ _ ⟨_,Q,R,W,X,j⟩ b8 a9
  have h:wZ x0 x1 x2 x3 v5 a8=some d3:=b8
  unfold wZ at h
  refine j.zd [(4,1),(10,3),(12,2)] h (λ j h=>?_) λ j h=>?_
  ·refine wqk<|za ?_
   have⟨d4,d5,b9⟩:=bs h
   refine wqj (λ a w=>∃ b6,d4=.inl b6/\(∃ M1 Q R W X,Sx (Frm.chg w0 G) 92 M M1 [oneB Q,R,oneB W,oneB X] [(2,dt x2),(3,dt x3),(5,dptr x0),(11,dt v5),(27,dt x1),(28,dt (x1.length:Int)),(29,dt a8.2.2.2)] [(10,3,dbox X 0 b6.2.1),(12,2,dtip W 3 b6.2.2),(4,1,dnm (oKn bk) R b6.1 u0 [])] a w)) ?_ ?_
   ·have⟨d6,f9,h⟩:=bs d5
    refine j.zo [(4,1),(10,3),(12,2)] λ j=>?_
    refine j.zo [(4,1),(10,3),(12,2)] (λ j=>za ?_)
    have⟨c8,d7,e0⟩:=bs h
    refine wqj (λ a w=>∃ M1 Q R W X,Sx (Frm.chg w0 G) 92 M M1 [oneB Q,R,oneB W,oneB X] [(2,dt x2),(3,dt x3),(5,dptr x0),(11,dt v5),(14,dt d6),(15,dt c8.2.1),(16,dt c8.2.2),(27,dt x1),(28,dt (x1.length:Int)),(29,dt a8.2.2.2)] [(10,3,dbox X 0 a8.2.1),(12,2,dtip W 3 a8.2.2.1),(4,1,dnm (oKn bk) R c8.1 u0 [])] a w) ?_ ?_
    ·refine j.zd [(4,1),(10,3),(12,2)] d7 (λ j h=>?_) (λ j h=>?_) (hs:=sZ 1 (r:=by exact sc Z (xNeFw (sb:=4) Z kU97 T Z)<|.nil))
     ·refine QY<|j.zh 3 [(4,1),(10,3),(12,2)] λ j=>?_
      have⟨g0,e3,h⟩:=bs h
      refine j.cD (l:=[.tmp 36,.tmp 37]) 1 (j.bkN (s:=4)) Z Z Z ((j.st.has 35 _ Z).trans (j.st.has 4 _ Z).1.symm) (by simp) (.cons T (.cons T .nil)) (c_known_w e3) [2,3,5,11,14,27,28,29] Z [10,12] Z Z (by decide) λ j=>?_
      refine j.zh 1 [(4,1),(10,3),(12,2)] (λ j=>Wz ?_)
      have⟨g3,g4,g5,g6,h⟩:=Ke h
      have⟨g7,g8,h⟩:=bs h
      refine j.zo [(4,1),(10,3),(12,2)] λ j=>?_
      cases h
      exact fz
     cases h
     exact fz
    rintro _ _ ⟨_,Q,R,W,X,j⟩
    have h:=e0
    have⟨g9,e4,h⟩:=bs h
    refine j.zo [(4,1),(10,3),(12,2)] (λ j=>?_) (hs:=sZ 3 (r:=by exact sc Z (zfj Z T T cB)<|sc Z (oK (QO e4))<|segZ))
    refine j.zd [(4,1),(10,3),(12,2)] h (λ j h=>?_) λ j h=>?_
    ·refine QY<|j.zh 4 [(4,1),(10,3)] (λ j=>?_) (hs:=sZ 3 (r:=by exact sc Z (XY Z cI T T)<|.nil))
     refine j.stA 10 3 FldS.id (tp Z) [] [4] (λ j=>Wz ?_)
     have h:=jo h b9
     have h:=lo h a9
     have h:=jo h b7
     exact j.rsC (s:=4) 1 zbg h
    have⟨h0,e5,h⟩:=bs h
    refine j.zo [(4,1),(10,3),(12,2)] (λ j=>?_) (hs:=sZ 4 (r:=by exact sc Z (zfk Z T T T)<|sc Z (oK (QO e5))<|segZ))
    refine j.zd [(4,1),(10,3),(12,2)] h (λ j h=>?_) λ j h=>?_
    ·refine QY<|j.zh 3 [(4,1),(10,3)] (λ j=>?_) (hs:=sZ 1 (r:=by exact sc Z (xH (opds:=[]) (α:=Int) Z Z Z .nil)<|sc Z (XY Z cI T T)<|.nil))
     refine j.stA 10 3 FldS.id (tp Z) [] [4] (λ j=>Wz ?_)
     have h:=jo h b9
     have h:=lo h a9
     have h:=jo h b7
     exact j.rsC (s:=4) 1 zbg h
    have⟨h1,e6,h⟩:=bs h
    refine j.zd [(4,1),(10,3),(12,2)] h (λ j h=>?_) (λ j h=>?_) (hs:=sZ 5 (r:=by exact sg Z Z (λ hg=>oK (zb8 (gh hg e6)))<|segZ))
    ·refine QY<|j.zh 3 [(4,1),(10,3),(12,2),(81,2)] λ j=>?_
     have⟨h2,e7,h⟩:=bs h
     refine j.apA 2 yI e7 [2,3,5,11,27,28,29] [4,10] λ h3 j=>?_
     refine j.zh 1 [(4,1),(10,3),(12,2)] (λ j=>Wz ?_)
     exact flz h
    exact flz h
   rintro _ _ ⟨b6,rfl,⟨_,Q,R,W,X,j⟩⟩
   have h:=jn b9
   have⟨h4,h5,h⟩:=bs h
   exact j.zn [(4,1),(10,3),(12,2)] h
  have h:=lo h a9
  exact flz h
 rintro _ _ ⟨b5,rfl,⟨_,Q,R,W,X,j⟩⟩
 have h:=jn b7
 refine j.zd [(4,1),(10,3),(12,2)] h (λ j h=>?_) (λ j h=>?_) (hs:=sZ 1 (r:=by exact sc Z (zbJ Z T)<|segZ))
 ·have j:=j.frz 2 (s:=12) Z Z [88] Z [4,10] Z
  refine QY<|j.zh 2 [(4,1),(10,3)] (λ j=>?_) (hs:=sZ 1 (r:=by exact sc Z (XY Z cI cI T)<|.nil))
  refine j.stA 10 3 FldS.id (tp Z) [] [4] (λ j=>Wz ?_)
  exact j.rsC (s:=4) 1 zbg h
 have⟨h6,h7,h⟩:=bs h
 refine QY<|j.zh 1 [(4,1),(10,3)] λ j=>?_
 refine j.stA 10 3 FldS.id (tp Z) [] [4] (λ j=>Wz ?_)
 exact j.rsC (s:=4) 1 zbg h
