import Derived.Test.YtbbfcjifihknnaaGreatDoorTB
import Derived.Test.YtbbfcjifihknnaaGreatDoorTO
import Derived.Test.YtbbfcjifihknnaaGreatDoorTN
import Derived.Test.YtbbfcjifihknnaaGreatDoorTQ
import Derived.Test.YtbbfcjifihknnaaGreatDoorTH
import Derived.Test.YtbbfcjifihknnaaGreatDoorTFb
namespace Go.Proofs.YtbbfcjifihknnaaGreatDoor
open Go.RowKit Tryz
attribute [local irreducible] OpRel OpdR
set_option maxRecDepth 10000
set_option maxHeartbeats 1600000
variable{x1:List Int}{x2:List Str}{R:Rec}{r x0:Str}
theorem kN132:fnB prog 132=true:=by kernel_rfl
theorem kN193:fnB prog 193=true:=by kernel_rfl
theorem kN194:fnB prog 194=true:=by kernel_rfl
theorem zbt:∀ {M:Nat->Prop} {look:Nat->Option Dt} {o:Oper} {q0 q1 q2 q3 q4 q5:Operand} {y0:Int} {y1:Str} {y2:Str} {y3:Bool} {y4:Int} {y5:Nil0},o.op=.build 121 #[(0,q0),(1,q1),(2,q2),(3,q3),(4,q4),(5,q5)]->OpdR M look q0 (dt y0)->OpdR M look q1 (dt y1)->OpdR M look q2 (dt y2)->OpdR M look q3 (dt y3)->OpdR M look q4 (dt y4)->OpdR M look q5 (dt y5)->OpRel prog M look o (dt (⟨y0,y1,y2,y3,y4,y5⟩:File0)):=@λ _ _ _ q0 q1 q2 q3 q4 q5 y0 y1 y2 y3 y4 y5 ho h0 h1 h2 h3 h4 h5=>yt (parts:=[(0,q0),(1,q1),(2,q2),(3,q3),(4,q4),(5,q5)]) (ns:=[1,1,1,1,1,1]) (zs:=zpFile0) Z ho (λ w a hl=>FA ⟨(by decide:0<6),Rep.len (α:=Int) (OpdR.cells h0 hl)⟩ (FA ⟨(by decide:1<6),Rep.len (α:=Str) (OpdR.cells h1 hl)⟩ (FA ⟨(by decide:2<6),Rep.len (α:=Str) (OpdR.cells h2 hl)⟩ (FA ⟨(by decide:3<6),Rep.len (α:=Bool) (OpdR.cells h3 hl)⟩ (FA ⟨(by decide:4<6),Rep.len (α:=Int) (OpdR.cells h4 hl)⟩ (FA ⟨(by decide:5<6),Rep.len (α:=Nil0) (OpdR.cells h5 hl)⟩ FN)))))) (λ w a hl=>File0.parts (x:=(⟨y0,y1,y2,y3,y4,y5⟩:File0)) (OpdR.cells h0 hl) (OpdR.cells h1 hl) (OpdR.cells h2 hl) (OpdR.cells h3 hl) (OpdR.cells h4 hl) (OpdR.cells h5 hl))
theorem kE34:elB prog 34 121 6 80=true:=by kernel_rfl
theorem zaC:∀ {M:Nat->Prop} {look:Nat->Option Dt} {o:Oper} {q0 q1:Operand} {y0:Int} {y1:Str},o.op=.build 175 #[(0,q0),(1,q1)]->OpdR M look q0 (dt y0)->OpdR M look q1 (dt y1)->OpRel prog M look o (dt (⟨y0,y1,0,⟨[]⟩,0⟩:Stmt)):=@λ _ _ _ q0 q1 y0 y1 ho h0 h1=>yt (parts:=[(0,q0),(1,q1)]) (ns:=[1,1,1,1,1]) (zs:=zcN) Z ho (λ w a hl=>FA ⟨(by decide:0<5),Rep.len (α:=Int) (OpdR.cells h0 hl)⟩ (FA ⟨(by decide:1<5),Rep.len (α:=Str) (OpdR.cells h1 hl)⟩ FN)) (λ w a hl=>Stmt.parts (x:=(⟨y0,y1,0,⟨[]⟩,0⟩:Stmt)) (OpdR.cells h0 hl) (OpdR.cells h1 hl) ⟨Z,trivial⟩ Zq ⟨Z,trivial⟩)
theorem za5:∀ {M:Nat->Prop} {look:Nat->Option Dt} {o:Oper} {q0 q2 q1 q3:Operand} {y0:Int} {y2:Int} {y1:Str} {y3:Str},o.op=.build 175 #[(0,q0),(2,q2),(1,q1),(3,q3)]->OpdR M look q0 (dt y0)->OpdR M look q2 (dt y2)->OpdR M look q1 (dt y1)->OpdR M look q3 (dt y3)->OpRel prog M look o (dt (⟨y0,y1,y2,y3,0⟩:Stmt)):=@λ _ _ _ q0 q2 q1 q3 y0 y2 y1 y3 ho h0 h2 h1 h3=>yt (parts:=[(0,q0),(2,q2),(1,q1),(3,q3)]) (ns:=[1,1,1,1,1]) (zs:=zcN) Z ho (λ w a hl=>FA ⟨(by decide:0<5),Rep.len (α:=Int) (OpdR.cells h0 hl)⟩ (FA ⟨(by decide:2<5),Rep.len (α:=Int) (OpdR.cells h2 hl)⟩ (FA ⟨(by decide:1<5),Rep.len (α:=Str) (OpdR.cells h1 hl)⟩ (FA ⟨(by decide:3<5),Rep.len (α:=Str) (OpdR.cells h3 hl)⟩ FN)))) (λ w a hl=>Stmt.parts (x:=(⟨y0,y1,y2,y3,0⟩:Stmt)) (OpdR.cells h0 hl) (OpdR.cells h1 hl) (OpdR.cells h2 hl) (OpdR.cells h3 hl) ⟨Z,trivial⟩)
theorem zds:∀ {M:Nat->Prop} {look:Nat->Option Dt} {o:Oper} {q0 q3 q4:Operand} {y0:Int} {y3:Str} {y4:Int},o.op=.build 175 #[(0,q0),(3,q3),(4,q4)]->OpdR M look q0 (dt y0)->OpdR M look q3 (dt y3)->OpdR M look q4 (dt y4)->OpRel prog M look o (dt (⟨y0,⟨[]⟩,0,y3,y4⟩:Stmt)):=@λ _ _ _ q0 q3 q4 y0 y3 y4 ho h0 h3 h4=>yt (parts:=[(0,q0),(3,q3),(4,q4)]) (ns:=[1,1,1,1,1]) (zs:=zcN) Z ho (λ w a hl=>FA ⟨(by decide:0<5),Rep.len (α:=Int) (OpdR.cells h0 hl)⟩ (FA ⟨(by decide:3<5),Rep.len (α:=Str) (OpdR.cells h3 hl)⟩ (FA ⟨(by decide:4<5),Rep.len (α:=Int) (OpdR.cells h4 hl)⟩ FN))) (λ w a hl=>Stmt.parts (x:=(⟨y0,⟨[]⟩,0,y3,y4⟩:Stmt)) (OpdR.cells h0 hl) Zq ⟨Z,trivial⟩ (OpdR.cells h3 hl) (OpdR.cells h4 hl))
theorem kD175_0_3:∀ {M:Nat->Prop} {look:Nat->Option Dt} {o:Oper} {q0 q3:Operand} {y0:Int} {y3:Str},o.op=.build 175 #[(0,q0),(3,q3)]->OpdR M look q0 (dt y0)->OpdR M look q3 (dt y3)->OpRel prog M look o (dt (⟨y0,⟨[]⟩,0,y3,0⟩:Stmt)):=@λ _ _ _ q0 q3 y0 y3 ho h0 h3=>yt (parts:=[(0,q0),(3,q3)]) (ns:=[1,1,1,1,1]) (zs:=zcN) Z ho (λ w a hl=>FA ⟨(by decide:0<5),Rep.len (α:=Int) (OpdR.cells h0 hl)⟩ (FA ⟨(by decide:3<5),Rep.len (α:=Str) (OpdR.cells h3 hl)⟩ FN)) (λ w a hl=>Stmt.parts (x:=(⟨y0,⟨[]⟩,0,y3,0⟩:Stmt)) (OpdR.cells h0 hl) Zq ⟨Z,trivial⟩ (OpdR.cells h3 hl) ⟨Z,trivial⟩)
theorem kZ36:wk prog 36=some zbo:=by kernel_rfl
theorem kN128:fnB prog 128=true:=by kernel_rfl
theorem kCv5_3:cvI prog 5 3=true:=by kernel_rfl
theorem zea:∀ {M:Nat->Prop} {look:Nat->Option Dt} {o:Oper} {q0 q1 q2 q4:Operand} {y0:Int} {y1:Str} {y2:Str} {y4:Int},o.op=.build 121 #[(0,q0),(1,q1),(2,q2),(4,q4)]->OpdR M look q0 (dt y0)->OpdR M look q1 (dt y1)->OpdR M look q2 (dt y2)->OpdR M look q4 (dt y4)->OpRel prog M look o (dt (⟨y0,y1,y2,false,y4,(⟨⟩:Nil0)⟩:File0)):=@λ _ _ _ q0 q1 q2 q4 y0 y1 y2 y4 ho h0 h1 h2 h4=>yt (parts:=[(0,q0),(1,q1),(2,q2),(4,q4)]) (ns:=[1,1,1,1,1,1]) (zs:=zpFile0) Z ho (λ w a hl=>FA ⟨(by decide:0<6),Rep.len (α:=Int) (OpdR.cells h0 hl)⟩ (FA ⟨(by decide:1<6),Rep.len (α:=Str) (OpdR.cells h1 hl)⟩ (FA ⟨(by decide:2<6),Rep.len (α:=Str) (OpdR.cells h2 hl)⟩ (FA ⟨(by decide:4<6),Rep.len (α:=Int) (OpdR.cells h4 hl)⟩ FN)))) (λ w a hl=>File0.parts (x:=(⟨y0,y1,y2,false,y4,(⟨⟩:Nil0)⟩:File0)) (OpdR.cells h0 hl) (OpdR.cells h1 hl) (OpdR.cells h2 hl) ⟨Z,trivial⟩ (OpdR.cells h4 hl) zero_nil0)
instance iF121_5DsA:FldO prog 121 5 5:=⟨kF121_5⟩
instance iF36_0DsA:FldO prog 36 0 0:=⟨WO⟩
def ZG(x0:Str):Option Str:=
if(decide (x0=(⟨[]⟩:Str)))=true then(some (⟨[45]⟩:Str))
else(some x0)
theorem za6(h:ZG x0=some r):Fn prog 198 [dt x0] (dt r):=by
 unfold ZG at h
 refine fnx (fn:=f198) 0 func198 Z Z λ M _ _ j=>?_
 refine j.sq1 [0] (λ j=>Kc ?_)
 refine j.sq1 [0,4] λ j=>?_
 refine j.cs h (λ _ h=>?_) λ _ h=>?_
 ·refine j.sq1 [2] (λ j=>wp_ret (zt ?_))
  exact j.ret Z Z h
 refine wp_skip ?_
 refine za ?_
 refine j.sq1 [2] (λ j=>wp_ret ?_)
 exact j.ret Z Z h
def ZH(x0:Str):Option Str:=
if(decide (x0=(⟨[45]⟩:Str)))=true then(some (⟨[]⟩:Str))
else(some x0)
theorem za7(h:ZH x0=some r):Fn prog 196 [dt x0] (dt r):=by
 unfold ZH at h
 refine fnx (fn:=f196) 0 func196 Z Z λ M _ _ j=>?_
 refine j.sq1 [0] (λ j=>Kc ?_)
 refine j.sq1 [0,4] λ j=>?_
 refine j.cs h (λ _ h=>?_) λ _ h=>?_
 ·refine j.sq1 [2] (λ j=>wp_ret (zt ?_))
  exact j.ret Z Z h
 refine wp_skip ?_
 refine za ?_
 refine j.sq1 [2] (λ j=>wp_ret ?_)
 exact j.ret Z Z h
def yj(x0:List Str)(x1:Str):Option Str:=
(yX x0 (⟨[32]⟩:Str)).bind λ v1=>
(catO v1 (⟨[10]⟩:Str)).bind λ v2=>
(catO x1 v2).bind λ v3=>
some v3
theorem xQ{x0:List Str}{x1:Str}(h:yj x0 x1=some r):FnM 1 prog 197 (Ow.box (Ow.frz (α:=Str))) ⟨x1⟩ [dt x0] ⟨r⟩ .gone:=by
 unfold yj at h
 refine fnMB (fn:=f197) 1 0 2 func197 Z (oD Z) Z Z λ M G _ b0 _ j=>?_
 have⟨v1,p1,v2,p2,h⟩:=Kg h
 have⟨v3,p3,h⟩:=bs h
 refine j.drnA (D:=[_,_,_,_,_]) zG 5 [[(1,nS)],[(0,nS)],[(4,1)],[(5,2)],[(3,0),(6,3)],[(1,nS),(7,4)]] [7] [(1,0)] (λ j=>?_) (hs:=rc Z Z (xLf (sb:=1) (PV.root.box Z) Z U Z)<|
  rc Z Z (oM Z T)<|
  rc Z Z (zz (l:=[.tmp 4,_]) Z (.cons T (.cons (zL) .nil)) (ZZ p1))<|
  rc Z Z (xCat Z T (zL) p2)<|
  rc Z Z (xCat Z T T p3)<|.nil)
 refine j.stF (sb:=1) 0 (PV.root.box Z) Z Z Z kT9 (yg Z) (tp Z) Z Z [] Z [] Z Z (λ _ j=>Kb ?_)
 exact(j.rs0 (s:=1) 0 (bx1 h)).2
def yL(v20:File)(s45:Str×Int):Option ((Str×Int)⊕Str):=
if(cmpI .lss s45.2 (v20.body.length:Int))=true then(Option.bind (α:=Str) ((atI v20.body s45.2).bind λ v51=>
if cmpI .eql v51.kind 0 then((yj ([(⟨[105,109,112,111,114,116]⟩:Str),v51.module]:List Str) s45.1).bind λ v64=>
some v64)
else(if cmpI .eql v51.kind 1 then((yJ v51.level).bind λ v69=>
(ZG v51.module).bind λ v70=>
(yj ([(⟨[102,114,111,109]⟩:Str),v69,v70,v51.name]:List Str) s45.1).bind λ v75=>
some v75)
else(if cmpI .eql v51.kind 2 then((yj ([(⟨[115,116,97,114]⟩:Str),v51.module]:List Str) s45.1).bind λ v82=>
some v82)
else(if cmpI .eql v51.kind 3 then((yJ v51.value).bind λ v87=>
(yj ([(⟨[115,101,116]⟩:Str),v51.name,v87]:List Str) s45.1).bind λ v91=>
some v91)
else(if cmpI .eql v51.kind 4 then((yj ([(⟨[112,114,105,110,116]⟩:Str),v51.name]:List Str) s45.1).bind λ v98=>
some v98)
else((yj ([(⟨[102,97,105,108]⟩:Str)]:List Str) s45.1).bind λ v102=>
some v102)))))) λ o50=>
(i64 (s45.2+(1:Int))).bind λ v105=>
some (.inl (o50,v105)))
else(some (.inr s45.1))
def yM(x0:Tree)(s14:Str×Int):Option ((Str×Int)⊕Str):=
if(cmpI .lss s14.2 (x0.files.length:Int))=true then(Option.bind (α:=Str) ((atI x0.files s14.2).bind λ v20=>
Option.bind (α:=Str) (if v20.init=true then(some (⟨[42]⟩:Str))
else(some v20.name)) λ o28=>
(yJ v20.root).bind λ v34=>
(ZG v20.pkg).bind λ v35=>
(yJ v20.stamp).bind λ v36=>
(yj ([(⟨[102,105,108,101]⟩:Str),v34,v35,o28,v36]:List Str) s14.1).bind λ v42=>
zR (λ s45=>yL v20 s45) (v42,(0:Int))) λ o19=>
(i64 (s14.2+(1:Int))).bind λ v110=>
some (.inl (o19,v110)))
else(some (.inr s14.1))
def qn(x0:Tree):Option Str:=
(xb x0).bind λ v2=>
if(!v2)=true then(some (⟨[]⟩:Str))
else(Option.bind (α:=Str) (zR (λ s14=>yM x0 s14) ((⟨[]⟩:Str),(0:Int))) λ o12=>
some o12)
theorem zcl{x0:Tree}(h:qn x0=some r):Fn prog 129 [dt x0] (dt r):=by
 unfold qn at h
 refine fnx (fn:=f129) 3 func129 Z Z λ M w0 _ j=>?_
 refine j.sq1 [1] (λ j=>Kc ?_)
 obtain⟨v2,p2,h⟩:=bsW h wO
 refine j.sq1 [1,13] λ j=>?_
 refine j.cs h (λ _ h=>?_) λ _ h=>?_
 ·refine j.sq1 [2] (λ j=>wp_ret (zt ?_))
  exact j.ret Z Z h
 refine wp_skip ?_
 refine za ?_
 refine j.sq2 (sc Z (oA Z (opd_fun1 kN132 (λ _ _ h=>Q3 h)))<|.nil) [1,3] (λ j=>Kc ?_)
 refine Ka ?_
 refine j.alcW (ow:=(Ow.frz (α:=Str))) 0 kZ9 XX [1,3] [] λ b9 _ _ _ j=>?_
 refine j.stF (sb:=4) 0 (PV.root.box Z) Z Z Z kT9 (yg Z) (zL) Z Z [1,3] Z [] Z Z (λ _ j=>Kb ?_)
 refine za ?_
 refine j.sqB (sc Z (xMkD Z U)<|segC) [1,3,5] [(4,0)] λ j=>?_
 have⟨o12,p12,k12⟩:=bs h
 refine zV (λ a w=>∃ M1 Q R W,Sx (Frm.of w0) 102 M M1 [Q,oneB R,oneB W] [] [(4,0,dnm (Ow.box (Ow.frz (α:=Str))) Q ⟨o12⟩ (.pointer (some ⟨b9,0,none⟩)) [])] a w) ?_ ?_
 ·refine j.sqA [3,5,16,17,18] [(4,0)] (λ j=>wp_block ?_)
  refine yV p12 (λ s14 a w=>∃ M1 Q R W,Sx (Frm.of w0) 102 M M1 [Q,oneB R,oneB W] [(16,dt x0.files),(17,dt (x0.files.length:Int)),(18,dt s14.2),(3,dfn1 prog yJ),(5,dis (.func (.func 197) #[] #[(.pointer (some ⟨b9,0,none⟩))]))] [(4,0,dnm (Ow.box (Ow.frz (α:=Str))) Q ⟨s14.1⟩ (.pointer (some ⟨b9,0,none⟩)) [])] a w) fx ?_
  rintro s14 z14 _ _ ⟨_,Q,R,W,j⟩ hs14 hx14
  have h:yM x0 s14=some z14:=hs14
  unfold yM at h
  refine j.sqA [3,5,16,17,18,19] [(4,0)] (λ j=>Kc ?_)
  refine j.cs h (λ _ h=>?_) λ _ h=>?_
  ·refine wp_skip ?_
   refine za ?_
   have⟨o19,p19,k19⟩:=bs h
   refine zV (λ a w=>∃ M1 Q R W,Sx (Frm.of w0) 102 M M1 [Q,oneB R,oneB W] [(16,dt x0.files),(17,dt (x0.files.length:Int)),(18,dt s14.2),(3,dfn1 prog yJ),(5,dis (.func (.func 197) #[] #[(.pointer (some ⟨b9,0,none⟩))]))] [(4,0,dnm (Ow.box (Ow.frz (α:=Str))) Q ⟨o19⟩ (.pointer (some ⟨b9,0,none⟩)) [])] a w) ?_ ?_
   ·refine wp_block ?_
    refine Kc ?_
    refine Ka ?_
    have⟨v20,p20,h⟩:=bs p19
    refine j.segA 2 [3,5,16,17,18,21] [(4,0)] λ j=>?_
    refine j.alA 1 zbn [3,5,16,17,18,21] [4] λ b24 j=>?_
    refine j.stA 7 1 FldS.id (tp Z) [3,5,16,17,18] [4] (λ j=>Kb ?_)
    refine za ?_
    refine j.sqC [3,5,8,16,17,18] [(4,0),(7,1)] λ j=>?_
    have⟨o28,p28,k28⟩:=bs h
    refine zV (λ a w=>∃ M1 Q R W,Sx (Frm.of w0) 102 M M1 [Q,oneB R,oneB W] [(8,dt o28),(16,dt x0.files),(17,dt (x0.files.length:Int)),(18,dt s14.2),(3,dfn1 prog yJ),(5,dis (.func (.func 197) #[] #[(.pointer (some ⟨b9,0,none⟩))]))] [(7,1,dbox R 0 v20),(4,0,dnm (Ow.box (Ow.frz (α:=Str))) Q ⟨s14.1⟩ (.pointer (some ⟨b9,0,none⟩)) [])] a w) ?_ ?_
    ·refine j.sqC [3,5,8,16,17,18,25] [(4,0),(7,1)] λ j=>?_
     refine j.cs p28 (λ _ h=>?_) λ _ h=>?_
     ·refine j.rgA [3,5,8,16,17,18] [(4,0),(7,1)] (λ j=>za ?_)
      cases h
      exact fx
     refine wp_skip ?_
     refine za ?_
     cases h
     exact fx
    rintro _ _ ⟨_,Q,R,W,j⟩
    have h:=k28
    refine Kc ?_
    have⟨v34,p34,v35,p35,h⟩:=Kg h
    have⟨v36,p36,h⟩:=bs h
    refine j.drnA (D:=[_,_,_,_,_,_,_,_,_,_,_,_,_,_]) zG 14 [[(5,nS)],[(3,nS)],[(7,nS)],[(28,2)],[(27,1),(29,3)],[(7,nS)],[(31,5)],[(32,6)],[(8,nS)],[(3,nS)],[(7,nS)],[(36,10)],[(35,9),(37,11)],[(30,4),(33,7),(34,8),(38,12)],[(26,0),(39,13)]] [3,5,16,17,18,26,39] [(4,0),(7,1)] (λ j=>?_) (hs:=rc Z Z (oM Z T)<|
      rc Z Z (oM Z T)<|
      rc Z Z (yf File.fld0 Z T)<|
      rc Z Z (yb Z T)<|
      rc Z Z (Y3 Z T T p34)<|
      rc Z Z (yf File.fld1 Z T)<|
      rc Z Z (yb Z T)<|
      rc Z Z (zz (l:=[.tmp 32]) Z (.cons T .nil) (za6 p35))<|
      rc Z Z (oM Z T)<|
      rc Z Z (oM Z T)<|
      rc Z Z (yf File.fld4 Z T)<|
      rc Z Z (yb Z T)<|
      rc Z Z (Y3 Z T T p36)<|
      rc Z Z (xO (opds:=[_,.tmp 30,.tmp 33,.tmp 34,.tmp 38]) Z Z Z (.cons (zL) (.cons T (.cons T (.cons T (.cons T .nil))))))<|.nil)
    have⟨v42,p42,h⟩:=bs h
    refine j.cDF (s:=26) (sb:=4) (l:=[.tmp 39]) 0 (.cons T .nil) (xQ p42) [3,5,16,17,18] [7] (λ j=>Kb ?_)
    refine za ?_
    refine j.sqC [3,5,16,17,18,42,43,44] [(4,0)] (λ j=>wp_block ?_)
    refine yV h (λ s45 a w=>∃ M1 Q R W,Sx (Frm.of w0) 102 M M1 [Q,oneB R,oneB W] [(16,dt x0.files),(17,dt (x0.files.length:Int)),(18,dt s14.2),(42,dt v20.body),(43,dt (v20.body.length:Int)),(44,dt s45.2),(3,dfn1 prog yJ),(5,dis (.func (.func 197) #[] #[(.pointer (some ⟨b9,0,none⟩))]))] [(4,0,dnm (Ow.box (Ow.frz (α:=Str))) Q ⟨s45.1⟩ (.pointer (some ⟨b9,0,none⟩)) [])] a w) fx ?_
    rintro s45 z45 _ _ ⟨_,Q,R,W,j⟩ hs45 hx45
    have h:yL v20 s45=some z45:=hs45
    unfold yL at h
    refine j.sqA [3,5,16,17,18,42,43,44,45] [(4,0)] (λ j=>Kc ?_)
    refine j.cs h (λ _ h=>?_) λ _ h=>?_
    ·refine wp_skip ?_
     refine za ?_
     have⟨o50,p50,k50⟩:=bs h
     refine zV (λ a w=>∃ M1 Q R W,Sx (Frm.of w0) 102 M M1 [Q,oneB R,oneB W] [(16,dt x0.files),(17,dt (x0.files.length:Int)),(18,dt s14.2),(42,dt v20.body),(43,dt (v20.body.length:Int)),(44,dt s45.2),(3,dfn1 prog yJ),(5,dis (.func (.func 197) #[] #[(.pointer (some ⟨b9,0,none⟩))]))] [(4,0,dnm (Ow.box (Ow.frz (α:=Str))) Q ⟨o50⟩ (.pointer (some ⟨b9,0,none⟩)) [])] a w) ?_ ?_
     ·refine wp_block ?_
      refine Kc ?_
      refine Ka ?_
      have⟨v51,p51,h⟩:=bs p50
      refine j.segA 2 [3,5,16,17,18,42,43,44,47] [(4,0)] λ j=>?_
      refine j.alA 2 zcM [3,5,16,17,18,42,43,44,47] [4] λ b55 j=>?_
      refine j.stA 10 2 FldS.id (tp Z) [3,5,16,17,18,42,43,44] [4] (λ j=>Kb ?_)
      refine za ?_
      refine j.sqC [3,5,16,17,18,42,43,44,49] [(4,0),(10,2)] (λ j=>wp_block ?_)
      refine j.sqA [3,5,16,17,18,42,43,44,49,53] [(4,0),(10,2)] λ j=>?_
      refine j.cs h (λ _ h=>?_) λ _ h=>?_
      ·refine Ka ?_
       refine j.segB 4 (sP 3 (r:=by exact sc Z (xO (opds:=[_,.tmp 57]) Z Z Z (.cons (zL) (.cons T .nil)))<|.nil)) [3,5,16,17,18,42,43,44,55,58] [(4,0)] λ j=>?_
       have⟨v64,p64,h⟩:=bs h
       refine j.cDF (s:=55) (sb:=4) (l:=[.tmp 58]) 0 (.cons T .nil) (xQ p64) [3,5,16,17,18,42,43,44] [] (λ j=>Kb ?_)
       refine zy ?_
       refine zy ?_
       refine za ?_
       cases h
       exact fx
      refine j.sqA [3,5,16,17,18,42,43,44,49,60] [(4,0),(10,2)] λ j=>?_
      refine j.cs h (λ _ h=>?_) λ _ h=>?_
      ·have⟨v69,p69,h⟩:=bs h
       have⟨v70,p70,h⟩:=bs h
       refine j.drnA (D:=[_,_,_,_,_,_,_,_,_,_,_]) zG 11 [[(5,nS)],[(3,nS)],[(10,nS)],[(64,2)],[(63,1),(65,3)],[(10,nS)],[(67,5)],[(68,6)],[(10,nS)],[(70,8)],[(66,4),(69,7),(71,9)],[(62,0),(72,10)]] [3,5,16,17,18,42,43,44,62,72] [(4,0)] (λ j=>?_) (hs:=rc Z Z (oM Z T)<|
          rc Z Z (oM Z T)<|
          rc Z Z (yf Stmt.fld2 Z (ht:=zb7) T)<|
          rc Z Z (yb Z T)<|
          rc Z Z (Y3 Z T T p69)<|
          rc Z Z (yf Stmt.fld1 Z (ht:=zb6) T)<|
          rc Z Z (yb Z T)<|
          rc Z Z (zz (l:=[.tmp 68]) Z (.cons T .nil) (za6 p70))<|
          rc Z Z (yf Stmt.fld3 Z (ht:=J9) T)<|
          rc Z Z (yb Z T)<|
          rc Z Z (xO (opds:=[_,.tmp 66,.tmp 69,.tmp 71]) Z Z Z (.cons (zL) (.cons T (.cons T (.cons T .nil)))))<|.nil)
       have⟨v75,p75,h⟩:=bs h
       refine j.cDF (s:=62) (sb:=4) (l:=[.tmp 72]) 0 (.cons T .nil) (xQ p75) [3,5,16,17,18,42,43,44] [] (λ j=>Kb ?_)
       refine zy ?_
       refine zy ?_
       refine za ?_
       cases h
       exact fx
      refine j.sqA [3,5,16,17,18,42,43,44,49,74] [(4,0),(10,2)] λ j=>?_
      refine j.cs h (λ _ h=>?_) λ _ h=>?_
      ·refine Ka ?_
       refine j.segB 4 (sP 3 (r:=by exact sc Z (xO (opds:=[_,.tmp 78]) Z Z Z (.cons (zL) (.cons T .nil)))<|.nil)) [3,5,16,17,18,42,43,44,76,79] [(4,0)] λ j=>?_
       have⟨v82,p82,h⟩:=bs h
       refine j.cDF (s:=76) (sb:=4) (l:=[.tmp 79]) 0 (.cons T .nil) (xQ p82) [3,5,16,17,18,42,43,44] [] (λ j=>Kb ?_)
       refine zy ?_
       refine zy ?_
       refine za ?_
       cases h
       exact fx
      refine j.sqA [3,5,16,17,18,42,43,44,49,81] [(4,0),(10,2)] λ j=>?_
      refine j.cs h (λ _ h=>?_) λ _ h=>?_
      ·have⟨v87,p87,h⟩:=bs h
       refine j.drnA (D:=[_,_,_,_,_,_,_,_]) zG 8 [[(5,nS)],[(10,nS)],[(84,1)],[(3,nS)],[(10,nS)],[(87,4)],[(86,3),(88,5)],[(85,2),(89,6)],[(83,0),(90,7)]] [3,5,16,17,18,42,43,44,83,90] [(4,0)] (λ j=>?_) (hs:=rc Z Z (oM Z T)<|
          rc Z Z (yf Stmt.fld3 Z (ht:=J9) T)<|
          rc Z Z (yb Z T)<|
          rc Z Z (oM Z T)<|
          rc Z Z (yf Stmt.fld4 Z T)<|
          rc Z Z (yb Z T)<|
          rc Z Z (Y3 Z T T p87)<|
          rc Z Z (xO (opds:=[_,.tmp 85,.tmp 89]) Z Z Z (.cons (zL) (.cons T (.cons T .nil))))<|.nil)
       have⟨v91,p91,h⟩:=bs h
       refine j.cDF (s:=83) (sb:=4) (l:=[.tmp 90]) 0 (.cons T .nil) (xQ p91) [3,5,16,17,18,42,43,44] [] (λ j=>Kb ?_)
       refine zy ?_
       refine zy ?_
       refine za ?_
       cases h
       exact fx
      refine j.sqA [3,5,16,17,18,42,43,44,92] [(4,0),(10,2)] λ j=>?_
      refine j.cs h (λ _ h=>?_) λ _ h=>?_
      ·refine Ka ?_
       refine j.segB 4 (sP 3 (r:=by exact sc Z (xO (opds:=[_,.tmp 96]) Z Z Z (.cons (zL) (.cons T .nil)))<|.nil)) [3,5,16,17,18,42,43,44,94,97] [(4,0)] λ j=>?_
       have⟨v98,p98,h⟩:=bs h
       refine j.cDF (s:=94) (sb:=4) (l:=[.tmp 97]) 0 (.cons T .nil) (xQ p98) [3,5,16,17,18,42,43,44] [] (λ j=>Kb ?_)
       refine zy ?_
       refine zy ?_
       refine za ?_
       cases h
       exact fx
      refine Ka ?_
      refine j.segB 2 (sP 1 (r:=by exact sc Z (xO (opds:=[_]) Z Z Z (.cons (zL) .nil))<|.nil)) [3,5,16,17,18,42,43,44,50,51] [(4,0)] λ j=>?_
      have⟨v102,p102,h⟩:=bs h
      refine j.cDF (s:=50) (sb:=4) (l:=[.tmp 51]) 0 (.cons T .nil) (xQ p102) [3,5,16,17,18,42,43,44] [] (λ j=>Kb ?_)
      refine zy ?_
      refine zy ?_
      refine za ?_
      cases h
      exact fx
     rintro _ _ ⟨_,Q,R,W,j⟩
     have h:=k50
     have⟨v105,p105,h⟩:=bs h
     refine j.rgA [3,5,16,17,18,42,43,44] [(4,0)] (λ j=>za ?_)
     exact fl h
    refine wp_exit (zI (zI (z7 ?_)))
    refine zy ?_
    refine za ?_
    have h:=lo h hx45
    cases h
    exact fx
   rintro _ _ ⟨_,Q,R,W,j⟩
   have h:=k19
   have⟨v110,p110,h⟩:=bs h
   refine j.rgA [3,5,16,17,18] [(4,0)] (λ j=>za ?_)
   exact fl h
  refine wp_exit (zI (zI (z7 ?_)))
  refine za ?_
  have h:=lo h hx14
  cases h
  exact fx
 rintro _ _ ⟨_,Q,R,W,j⟩
 have h:=k12
 refine j.sq2 (sc Z (xLf (sb:=4) (PV.root.box Z) Z U Z)<|segC) [2] (λ j=>wp_ret ?_)
 exact j.ret Z Z h
def zp(x0:Int)(x1:List Str):Option Str:=
if(cmpI .lss x0 (x1.length:Int))=true then((atI x1 x0).bind λ v5=>
some v5)
else(some (⟨[]⟩:Str))
theorem Qc{x0:Int}{x1:List Str}(h:zp x0 x1=some r):Fn prog 193 [dt x0,dptr x1] (dt r):=by
 unfold zp at h
 refine fnx (fn:=f193) 0 func193 Z Z λ M _ _ j=>?_
 refine j.sq1 [0,1] (λ j=>Kc ?_)
 refine j.sq1 [0,1,7] λ j=>?_
 refine j.cs h (λ _ h=>?_) λ _ h=>?_
 ·have⟨v5,p5,h⟩:=bs h
  refine j.sq1 [3] (λ j=>wp_ret (zt ?_))
  exact j.ret Z Z h
 refine wp_skip ?_
 refine za ?_
 refine j.sq1 [3] (λ j=>wp_ret ?_)
 exact j.ret Z Z h
def z3(x0:Int)(x1:(Int->Option Str)):Option Int:=
(x1 x0).bind λ v3=>
(Xk v3).bind λ v4=>
some v4.1
theorem Qd{x0:Int}{x1:(Int->Option Str)}{r:Int}(h:z3 x0 x1=some r):Fn prog 194 [dt x0,wg (dptr (⟨some x1⟩:FnO Int Str))] (dt r):=by
 unfold z3 at h
 refine fnx (fn:=f194) 0 func194 Z Z λ M _ _ j=>?_
 have j:=j.glb (s:=1) (g:=15)
 refine j.sq1 [0,1,15] λ j=>?_
 have⟨v3,p3,v4,p4,h⟩:=Kg h
 refine j.sq2 (sc Z (OpRel.fno (zm Z T))<|sP 1 (r:=by exact sc Z (Y3 Z T T p3)<|sc Z (zz (l:=[.tmp 9]) Z (.cons (zcY (s:=15) Z T) .nil) (zd2 p4))<|segC)) [4,15] λ j=>?_
 refine j.sq1 [3,15] (λ j=>wp_ret ?_)
 exact j.ret Z Z h
def jd(x0:Tree)(x1:List Str):Option Tree:=
Option.bind (α:=(Tree×Stmt)⊕Tree) (((λ a0=>zp a0 x1) (0:Int)).bind λ v20=>
if(decide (v20=(⟨[102,105,108,101]⟩:Str)))=true then(((λ a0=>z3 a0 (λ a0=>zp a0 x1)) (1:Int)).bind λ v26=>
((λ a0=>zp a0 x1) (2:Int)).bind λ v27=>
(ZH v27).bind λ v28=>
((λ a0=>zp a0 x1) (3:Int)).bind λ v29=>
((λ a0=>zp a0 x1) (3:Int)).bind λ v30=>
((λ a0=>z3 a0 (λ a0=>zp a0 x1)) (4:Int)).bind λ v31=>
Option.bind (α:=File0) (if((⟨v26,v28,v29,decide (v30=(⟨[42]⟩:Str)),v31,(⟨⟩:Nil0)⟩:File0).init)=true then(some ({ (⟨v26,v28,v29,decide (v30=(⟨[42]⟩:Str)),v31,(⟨⟩:Nil0)⟩:File0) with name:=(⟨[]⟩:Str) }))
else(some (⟨v26,v28,v29,decide (v30=(⟨[42]⟩:Str)),v31,(⟨⟩:Nil0)⟩:File0))) λ o42=>
(appO 80 x0.files (([o42]:List File0).map File0.f)).bind λ v57=>
some (.inr (⟨v57⟩:Tree)))
else(if(decide (v20=(⟨[105,109,112,111,114,116]⟩:Str)))=true then(((λ a0=>zp a0 x1) (1:Int)).bind λ v67=>
some (.inl (x0,(⟨(0:Int),v67,0,⟨[]⟩,0⟩:Stmt))))
else(if(decide (v20=(⟨[102,114,111,109]⟩:Str)))=true then(((λ a0=>z3 a0 (λ a0=>zp a0 x1)) (1:Int)).bind λ v75=>
((λ a0=>zp a0 x1) (2:Int)).bind λ v76=>
(ZH v76).bind λ v77=>
((λ a0=>zp a0 x1) (3:Int)).bind λ v78=>
some (.inl (x0,(⟨(1:Int),v77,v75,v78,0⟩:Stmt))))
else(if(decide (v20=(⟨[115,116,97,114]⟩:Str)))=true then(((λ a0=>zp a0 x1) (1:Int)).bind λ v89=>
some (.inl (x0,(⟨(2:Int),v89,0,⟨[]⟩,0⟩:Stmt))))
else(if(decide (v20=(⟨[115,101,116]⟩:Str)))=true then(((λ a0=>zp a0 x1) (1:Int)).bind λ v97=>
((λ a0=>z3 a0 (λ a0=>zp a0 x1)) (2:Int)).bind λ v98=>
some (.inl (x0,(⟨(3:Int),⟨[]⟩,0,v97,v98⟩:Stmt))))
else(if(decide (v20=(⟨[112,114,105,110,116]⟩:Str)))=true then(((λ a0=>zp a0 x1) (1:Int)).bind λ v107=>
some (.inl (x0,(⟨(4:Int),⟨[]⟩,0,v107,0⟩:Stmt))))
else(if(decide (v20=(⟨[102,97,105,108]⟩:Str)))=true then(some (.inl (x0,(⟨(5:Int),⟨[]⟩,0,⟨[]⟩,0⟩:Stmt))))
else(some (.inl (x0,(⟨(-1:Int),⟨[]⟩,0,⟨[]⟩,0⟩:Stmt))))))))))) (Sum.elim (λ b19=>
(i64 ((b19.1.files.length:Int) - (1:Int))).bind λ v120=>
if cmpI .geq v120 0 then((atI b19.1.files v120).bind λ v140=>
(appO 56 v140.body ([b19.2]:List Stmt)).bind λ v153=>
(atI b19.1.files v120).bind λ _v157=>
some (⟨(b19.1.files.set v120.toNat ({ v140 with body:=v153 }))⟩:Tree))
else(some b19.1)) some)
theorem zab{x0:Tree}{x1:List Str}{r:Tree}(h:jd x0 x1=some r):FnS prog 128 (Ow.box (owTree (Ow.row 121 (owFile (Ow.row 175 (Ow.frz (α:=Stmt))))))) ⟨x0⟩ [wg (dt x1)] ⟨r⟩ .gone:=by
 unfold jd at h
 refine fnSB (fn:=f128) 1 7 func128 Z Z λ M G w0 b0 a0 u=>?_
 have u:=u.glb (s:=1) (g:=105)
 refine u.sqA [3,105] [(0,1)] (λ u=>Kc ?_)
 refine Ka ?_
 refine u.segB 1 (sc Z (xMkF1 (l:=[.tmp 3]) (g:=(λ a0=>zp a0 x1)) Z kN193 (.cons T .nil) Z (λ _ _ h=>Qc h))<|.nil) [9,105] [(0,1)] λ u=>?_
 refine u.alA 4 zrFnO [9,105] [0] λ b5 u=>?_
 have u:=u.gn
 have u:=u.addL (s:=9) (y:=dt (⟨some (λ a0=>zp a0 x1)⟩:FnO Int Str)) (fno_dt.2 (u.st.has 9 _ Z))
 refine u.stA 4 4 FldS.id (tp Z) [105] [0] λ u=>?_
 have u:=u.frzX 4 (s:=4) [105] [0]
 have u:=u.gn
 refine Kb ?_
 refine za ?_
 refine u.sqB (sc Z (xMkF1 (l:=[.tmp 4]) (g:=(λ a0=>z3 a0 (λ a0=>zp a0 x1))) Z kN194 (.cons (zcY (s:=105) Z T) .nil) Z (λ _ _ h=>Qd h))<|segC) [4,5,105] [(0,1)] (λ u=>Kc ?_)
 refine Ka ?_
 refine u.segB 1 (sc Z (zb5 Z cI)<|.nil) [4,5,11,105] [(0,1)] λ u=>?_
 refine u.alA 5 zcM [4,5,11,105] [0] λ b15 u=>?_
 have u:=u.gn
 refine u.stA 6 5 FldS.id (tp Z) [4,5,105] [0] (λ u=>Kb ?_)
 refine za ?_
 have⟨o19,p19,k19⟩:=bs h
 refine zV (λ a w=>∃ b19,o19=.inl b19/\(∃ M1 Q R W X Y A B,Sx (Frm.chg w0 G) 104 M M1 [Q,R,W,X,oneB Y,oneB A,oneB B] [(105,dgl)] [(6,5,dbox A 0 b19.2),(0,1,dnm (Ow.box (owTree (Ow.row 121 (owFile (Ow.row 175 (Ow.frz (α:=Stmt))))))) R ⟨b19.1⟩ (.pointer (some ⟨b0,0,none⟩)) [])] a w)) ?_ ?_
 ·have⟨v20,p20,h⟩:=bs p19
  refine u.sqB (sc Z (OpRel.fno (zm Z T))<|sc Z (Y3 Z T cI p20)<|.nil) [4,5,13,105] [(0,1),(6,5)] (λ u=>wp_block ?_)
  refine u.sqA [4,5,13,14,105] [(0,1),(6,5)] λ u=>?_
  refine u.cs h (λ _ h=>?_) λ _ h=>?_
  ·refine Kc ?_
   have⟨v26,p26,v27,p27,h⟩:=Kg h
   have⟨v28,p28,v29,p29,h⟩:=Kg h
   have⟨v30,p30,v31,p31,h⟩:=Kg h
   refine u.alc (D:=[_,_,_,_,_,_,_,_,_,_,_,_,_,_,Wc]) [mkBox 14 7 121 zcFile0 6 zFile0 zrFile0] zG 15 [[(5,nS)],[(16,0)],[(4,nS)],[(18,2)],[(19,3)],[(4,nS)],[(21,5)],[(4,nS)],[(23,7)],[(24,8)],[(5,nS)],[(26,10)],[],[(17,1),(20,4),(22,6),(25,9),(27,11),(28,12)],[],[(7,14),(29,13)]] (by decide +kernel) (by decide) (by decide +kernel) ⟨kZ121,trivial⟩ (by decide) (by decide) (by simp[mkBox]) (λ M38 hM38=>
    ac Z Z Z (oM Z T)<|
    ac Z Z Z (Y3 Z T cI p26)<|
    ac Z Z Z (OpRel.fno (zm Z T))<|
    ac Z Z Z (Y3 Z T cI p27)<|
    ac Z Z Z (zz (l:=[.tmp 19]) Z (.cons T .nil) (za7 p28))<|
    ac Z Z Z (OpRel.fno (zm Z T))<|
    ac Z Z Z (Y3 Z T cI p29)<|
    ac Z Z Z (OpRel.fno (zm Z T))<|
    ac Z Z Z (Y3 Z T cI p30)<|
    ac Z Z Z (ji Z T (zL))<|
    ac Z Z Z (oM Z T)<|
    ac Z Z Z (Y3 Z T cI p31)<|
    ac Z Z Z (op_nil0 Stmt Z kS119)<|
    ac Z Z Z (zbt Z T T T T T T)<|
    al Z Z<|.nil) [29,105] Z [0] Z Z Z Z (λ β38 M38 _ _ u=>?_)
   have u:=u.gs (Gs':=[oneB none,G,oneB none,oneB none,oneB none,oneB (some b15),oneB (some (β38 14))])
   refine u.store (sb:=7) 6 FldS.id Z Z Z zaZ Z Z (tp Z) Z [105] Z [0] Z Z (λ _ _ u=>Kb ?_)
   refine za ?_
   have⟨o42,p42,k42⟩:=bs h
   refine zV (λ a w=>∃ M1 Q R W X Y A B,Sx (Frm.chg w0 G) 104 M M1 [Q,R,W,X,oneB Y,oneB A,oneB B] [(105,dgl)] [(7,6,dbox B 0 o42),(0,1,dnm (Ow.box (owTree (Ow.row 121 (owFile (Ow.row 175 (Ow.frz (α:=Stmt))))))) R ⟨x0⟩ (.pointer (some ⟨b0,0,none⟩)) [])] a w) ?_ ?_
   ·refine u.sqB (sc Z (yf File0.fld3 Z T)<|
     sc Z (yb Z T)<|.nil) [31,105] [(0,1),(7,6)] (λ u=>?_)
    refine u.cs p42 (λ _ h=>?_) λ _ h=>?_
    ·refine Ka ?_
     refine u.segB 1 (sc Z (yf File0.fld2 Z T)<|.nil) [105] [(0,1),(7,6),(32,6)] λ u=>?_
     refine u.store (sb:=7) 6 File0.set2 Z Z Z kT9 Z Z (zL) Z [105] Z [0] Z Z (λ _ _ u=>Kb ?_)
     refine za ?_
     cases h
     exact fx
    refine wp_skip ?_
    refine za ?_
    cases h
    exact fx
   rintro _ _ ⟨_,Q,R,W,X,Y,A,B,u⟩
   have h:=k42
   refine Kc ?_
   refine u.held (λ _=>True) zG λ _ u=>?_
   refine u.tN 0 0 trivial λ _ u=>?_
   refine u.hdA 0 1 ((PV.root.box Z).fld owTree.f0) [7] λ g52 A52 _ hA52 u=>?_
   refine u.drnE (D:=[_,_,_,_,_,_,_]) 7 [0] [[(0,nS)],[(0,nS)],[(34,1)],[(35,2)],[(36,3),(0,nS)],[(7,nS)],[(38,5)],[(37,4),(39,6)],[(33,0)],[(41,8)],[(42,9),(40,7)]] (
    rc Z Z (oM Z U)<|
    rc Z Z (oM Z U)<|
    rc Z Z (xNc Z T)<|
    rc Z Z (xFa Z WO T)<|
    rc Z Z (xLc (sb:=0) (.head _) Z Z Z T Z)<|
    rc Z Z (yb Z (ht:=zaZ) T)<|
    rc Z Z (xO (opds:=[.tmp 38]) Z Z Z (.cons T .nil))<|.nil) (by
 intro i hi x d hx
 simp only[List.mem_cons,List.not_mem_nil,or_false] at hi
 rcases hi with rfl
 all_goals (injection hx with hx;injection hx with h1 h2;subst h1;subst h2;rfl)) [33,37,39,105] [(0,1)] Z ⟨λ _ h=>h,trivial⟩ (λ _ _ u=>?_)
   refine u.mvG (s:=37) (sb:=0) 1 0 ((PV.root.box Z).fld owTree.f0) (.head _) (yv Z Z) [33,39,105] [] @λ G55 H55 u=>?_
   have u:=u.gs (Gs':=[H55,G55,W,X,oneB Y,oneB A,oneB B])
   have⟨v57,p57,h⟩:=bs h
   refine u.app0 0 Z Z kE34 Z T p57 [33,105] Z [0] Z Z λ _ _ _ _ u=>?_
   have u:=u.gn
   refine u.segC 2 [42,105] [(0,1),(40,0)] λ u=>?_
   refine u.shA 0 40 1 0 (tp Z) [105] [] λ u=>?_
   have u:=u.gn
   refine Kb ?_
   refine za ?_
   refine wp_ret (zS (zt ?_))
   have h:=jo h k19
   exact(u.rs0 (s:=0) 1 (bx1 h)).1
  refine u.sqA [4,5,13,43,105] [(0,1),(6,5)] λ u=>?_
  refine u.cs h (λ _ h=>?_) λ _ h=>?_
  ·refine Ka ?_
   have⟨v67,p67,h⟩:=bs h
   refine u.segB 3 (sc Z (OpRel.fno (zm Z T))<|sc Z (Y3 Z T cI p67)<|sc Z (zaC Z cI T)<|.nil) [47,105] [(0,1),(6,5)] λ u=>?_
   refine u.stA 6 5 FldS.id (tp Z) [105] [0] (λ u=>Kb ?_)
   refine zy ?_
   refine za ?_
   exact fl h
  refine u.sqA [4,5,13,48,105] [(0,1),(6,5)] λ u=>?_
  refine u.cs h (λ _ h=>?_) λ _ h=>?_
  ·have⟨v75,p75,h⟩:=bs h
   have⟨v76,p76,v77,p77,h⟩:=Kg h
   have⟨v78,p78,h⟩:=bs h
   refine u.drnA (D:=[_,_,_,_,_,_,_,_]) zG 8 [[(5,nS)],[(50,0)],[(4,nS)],[(52,2)],[(53,3)],[(4,nS)],[(55,5)],[(51,1),(54,4),(56,6)],[(6,nS),(57,7)]] [57,105] [(0,1),(6,5)] (λ u=>?_) (hs:=rc Z Z (oM Z T)<|
    rc Z Z (Y3 Z T cI p75)<|
    rc Z Z (OpRel.fno (zm Z T))<|
    rc Z Z (Y3 Z T cI p76)<|
    rc Z Z (zz (l:=[.tmp 53]) Z (.cons T .nil) (za7 p77))<|
    rc Z Z (OpRel.fno (zm Z T))<|
    rc Z Z (Y3 Z T cI p78)<|
    rc Z Z (za5 Z cI T T T)<|.nil)
   refine u.store (sb:=6) 5 FldS.id Z Z Z Q4 Z Z (tp Z) Z [105] Z [0] Z Z (λ _ _ u=>Kb ?_)
   refine zy ?_
   refine za ?_
   exact fl h
  refine u.sqA [4,5,13,58,105] [(0,1),(6,5)] λ u=>?_
  refine u.cs h (λ _ h=>?_) λ _ h=>?_
  ·refine Ka ?_
   have⟨v89,p89,h⟩:=bs h
   refine u.segB 3 (sc Z (OpRel.fno (zm Z T))<|sc Z (Y3 Z T cI p89)<|sc Z (zaC Z cI T)<|.nil) [62,105] [(0,1),(6,5)] λ u=>?_
   refine u.stA 6 5 FldS.id (tp Z) [105] [0] (λ u=>Kb ?_)
   refine zy ?_
   refine za ?_
   exact fl h
  refine u.sqA [4,5,13,63,105] [(0,1),(6,5)] λ u=>?_
  refine u.cs h (λ _ h=>?_) λ _ h=>?_
  ·refine Ka ?_
   have⟨v97,p97,v98,p98,h⟩:=Kg h
   refine u.segB 5 (sc Z (OpRel.fno (zm Z T))<|sc Z (Y3 Z T cI p97)<|sP 1 (r:=by exact sc Z (Y3 Z T cI p98)<|sc Z (zds Z cI T T)<|.nil)) [69,105] [(0,1),(6,5)] λ u=>?_
   refine u.stA 6 5 FldS.id (tp Z) [105] [0] (λ u=>Kb ?_)
   refine zy ?_
   refine za ?_
   exact fl h
  refine u.sqA [4,13,70,105] [(0,1),(6,5)] λ u=>?_
  refine u.cs h (λ _ h=>?_) λ _ h=>?_
  ·refine Ka ?_
   have⟨v107,p107,h⟩:=bs h
   refine u.segB 3 (sc Z (OpRel.fno (zm Z T))<|sc Z (Y3 Z T cI p107)<|sc Z (kD175_0_3 Z cI T)<|.nil) [74,105] [(0,1),(6,5)] λ u=>?_
   refine u.stA 6 5 FldS.id (tp Z) [105] [0] (λ u=>Kb ?_)
   refine zy ?_
   refine za ?_
   exact fl h
  refine u.sqA [75,105] [(0,1),(6,5)] λ u=>?_
  refine u.cs h (λ _ h=>?_) λ _ h=>?_
  ·refine Ka ?_
   refine u.segB 1 (sc Z (zb5 Z cI)<|.nil) [77,105] [(0,1),(6,5)] λ u=>?_
   refine u.stA 6 5 FldS.id (tp Z) [105] [0] (λ u=>Kb ?_)
   refine zy ?_
   refine za ?_
   exact fl h
  refine wp_skip ?_
  refine zy ?_
  refine za ?_
  exact fl h
 rintro _ _ ⟨b19,rfl,⟨_,Q,R,W,X,Y,A,B,u⟩⟩
 have h:=jn k19
 have⟨v120,p120,h⟩:=bs h
 refine u.hdA 0 1 ((PV.root.box Z).fld owTree.f0) [6] λ g119 A119 _ hA119 u=>?_
 refine u.sqB (sP 4 (r:=by exact sc Z (xLe Z T)<|segC)) [8,105] [(0,1),(6,5)] λ u=>?_
 have u:=u.ncf (s:=0) 1 [6]
 refine u.sqA [8,85,105] [(0,1),(6,5)] λ u=>?_
 refine u.cs h (λ _ h=>?_) λ _ h=>?_
 ·refine u.hdA 0 1 ((PV.root.box Z).fld owTree.f0) [6] λ g127 A127 c127 hA127 u=>?_
  refine u.held (λ w=>w.cell? ⟨b0,0,none⟩=some (.slice A127 (b19.1.files.length) c127)) zG λ _ u=>?_
  refine u.tN 0 0 (u.cellS (sb:=0) (.head _)) λ _ u=>?_
  refine u.tk (i:=1) Z Z (by decide +kernel) (by decide +kernel) (by decide +kernel) (λ _ _ _ h=>h) (u.cellS (sb:=0) (.head _)) (yNc Z (u.st.has 86 _ Z)) λ _ u=>?_
  refine u.tk (i:=2) Z Z (by decide +kernel) (by decide +kernel) (by decide +kernel) (λ _ _ _ h=>h) (u.cellS (sb:=0) (.head _)) (yFa Z WO (u.st.has 87 _ Z)) λ _ u=>?_
  refine u.tk (i:=3) Z Z (by decide +kernel) (by decide +kernel) (by decide +kernel) (λ _ _ _ h=>h) (u.cellS (sb:=0) (.head _)) (yLd Z (u.st.has 88 _ Z)) λ _ u=>?_
  refine u.tkN (i:=5) (sb:=0) Z Z (u.cellS (sb:=0) (.head _)) Z Z Z λ _ u=>?_
  refine u.tk (i:=6) Z Z (by decide +kernel) (by decide +kernel) (by decide +kernel) (λ _ _ _ h=>h) (u.cellS (sb:=0) (.head _)) (yNc Z (u.st.has 91 _ Z)) λ _ u=>?_
  refine u.tk (i:=7) Z Z (by decide +kernel) (by decide +kernel) (by decide +kernel) (λ _ _ _ h=>h) (u.cellS (sb:=0) (.head _)) (yFa Z WO (u.st.has 92 _ Z)) λ _ u=>?_
  refine u.tk (i:=8) Z Z (by decide +kernel) (by decide +kernel) (by decide +kernel) (λ _ _ _ h=>h) (u.cellS (sb:=0) (.head _)) (yLd Z (u.st.has 93 _ Z)) λ _ u=>?_
  refine u.tkM (i:=4) (sb:=8) Z Z (u.cellS (sb:=0) (.head _)) Z Z Z Z λ _ u=>?_
  refine u.tM 9 8 (u.cellS (sb:=0) (.head _)) λ _ u=>?_
  refine u.mvN (s:=94) (sb:=0) 1 2 ((PV.root.box Z).fld owTree.f0) (.head _) Z (yv Z Z) Z Z (by simp) (by simp) (by decide) Z (λ _ h=>h) [8,85,86,87,88,89,90,91,92,93,95,105] Z [6] Z Z Z Z (by decide) λ G139 H139 u=>?_
  have⟨v140,p140,v153,p153,h⟩:=Kg h
  have⟨v157,p157,h⟩:=bs h
  refine u.tkIN (i:=10) (s2:=94) (u.hkS (sb:=0)) kS34 (tp Z) (λ h=>hA127 h Z) p140 λ _ u=>?_
  refine u.tk (i:=11) Z Z (by decide +kernel) (by decide +kernel) (by decide +kernel) (λ _ _ _ h=>h) (u.hkS (sb:=0)) (yFa Z kF121_5 (u.st.has 96 _ Z)) λ _ u=>?_
  refine aH2 (i:=12) (j:=13) Z Z ?_ ?_
  ·refine u.hdA 94 2 ((PV.root.row Z (λ h=>hA127 h Z) p140).fld owFile.f5) [0,6] λ g168 A168 _ hA168 u=>?_
   refine u.segB 1 (sc Z (xLc (sb:=94) (.head _) Z Z Z T Z)<|.nil) [89,90,98,105] [(0,1),(6,5),(94,2)] λ u=>?_
   refine aHN (u.hkS (sb:=0)) ?_
   refine aK1 13 ?_
   refine u.segC 1 [89,90,98,99,105] [(0,1),(94,2)] λ u=>?_
   refine aHN (u.hkS (sb:=0)) ?_
   refine aK1 14 ?_
   refine u.segC 1 [89,90,98,100,105] [(0,1),(94,2)] λ u=>?_
   refine aHN (u.hkS (sb:=0)) ?_
   refine aK1 15 ?_
   refine u.mvG (s:=98) (sb:=94) 2 3 ((PV.root.row Z (λ h=>hA127 h Z) p140).fld owFile.f5) (.head _) (yv Z Z) [89,90,100,105] [0] @λ G173 H173 u=>?_
   have u:=u.gs (Gs':=[Q,G139,G173,H173,oneB Y,oneB A,oneB B])
   refine u.tipR (s:=98) 3 (by first | (simp;done) | exact oD rfl) [0,94] λ g175 u=>?_
   refine u.apA 3 xq p153 [89,90,105] [0,94] λ g177 u=>?_
   have u:=u.gn
   refine aHN (u.hkS (sb:=0)) ?_
   refine aK1 16 ?_
   refine u.segB 1 (sc Z (xIa (g:=g127) Z kS34 T T Z (λ h=>hA127 h Z) p157)<|.nil) [102,105] [(0,1),(94,2),(101,3)] λ u=>?_
   refine aHN (u.hkS (sb:=0)) ?_
   refine aK1 17 ?_
   refine u.segC 1 [103,105] [(0,1),(94,2),(101,3)] λ u=>?_
   refine aHN (u.hkS (sb:=0)) ?_
   refine aK1 18 ?_
   have u:=u.tipW (s:=101) 3 [0,94]
   refine u.shA 94 101 2 3 (tp Z) [105] [0] λ u=>?_
   have u:=u.gn
   refine aHN (u.hkS (sb:=0)) ?_
   refine aK0 ?_
   refine u.stG (s:=94) (sb:=0) 1 2 Z (by simp) (by simp) (by decide) Z Z (λ _ h=>h) (λ _ h=>h) [105] Z [] Z Z Z λ _ u=>?_
   have u:=u.gn
   exact(u.rs0 (s:=0) 1 (bx1 h)).2
  ·refine u.segC 1 [89,90,97,99,105] [(0,1),(94,2)] λ u=>?_
   refine aHN (u.hkS (sb:=0)) ?_
   refine aK2 12 14 ?_ ?_
   ·refine u.hdA 94 2 ((PV.root.row Z (λ h=>hA127 h Z) p140).fld owFile.f5) [0] λ g188 A188 _ hA188 u=>?_
    refine u.segB 1 (sc Z (xLc (sb:=94) (.head _) Z Z Z T Z)<|.nil) [89,90,98,99,105] [(0,1),(94,2)] λ u=>?_
    refine aHN (u.hkS (sb:=0)) ?_
    refine aK1 14 ?_
    refine u.segC 1 [89,90,98,100,105] [(0,1),(94,2)] λ u=>?_
    refine aHN (u.hkS (sb:=0)) ?_
    refine aK1 15 ?_
    refine u.mvG (s:=98) (sb:=94) 2 3 ((PV.root.row Z (λ h=>hA127 h Z) p140).fld owFile.f5) (.head _) (yv Z Z) [89,90,100,105] [0] @λ G192 H192 u=>?_
    have u:=u.gs (Gs':=[Q,G139,G192,H192,oneB Y,oneB A,oneB B])
    refine u.tipR (s:=98) 3 (by first | (simp;done) | exact oD rfl) [0,94] λ g194 u=>?_
    refine u.apA 3 xq p153 [89,90,105] [0,94] λ g196 u=>?_
    have u:=u.gn
    refine aHN (u.hkS (sb:=0)) ?_
    refine aK1 16 ?_
    refine u.segB 1 (sc Z (xIa (g:=g127) Z kS34 T T Z (λ h=>hA127 h Z) p157)<|.nil) [102,105] [(0,1),(94,2),(101,3)] λ u=>?_
    refine aHN (u.hkS (sb:=0)) ?_
    refine aK1 17 ?_
    refine u.segC 1 [103,105] [(0,1),(94,2),(101,3)] λ u=>?_
    refine aHN (u.hkS (sb:=0)) ?_
    refine aK1 18 ?_
    have u:=u.tipW (s:=101) 3 [0,94]
    refine u.shA 94 101 2 3 (tp Z) [105] [0] λ u=>?_
    have u:=u.gn
    refine aHN (u.hkS (sb:=0)) ?_
    refine aK0 ?_
    refine u.stG (s:=94) (sb:=0) 1 2 Z (by simp) (by simp) (by decide) Z Z (λ _ h=>h) (λ _ h=>h) [105] Z [] Z Z Z λ _ u=>?_
    have u:=u.gn
    exact(u.rs0 (s:=0) 1 (bx1 h)).2
   ·refine u.segC 1 [89,90,97,100,105] [(0,1),(94,2)] λ u=>?_
    refine aHN (u.hkS (sb:=0)) ?_
    refine aK1 12 ?_
    refine u.hdA 94 2 ((PV.root.row Z (λ h=>hA127 h Z) p140).fld owFile.f5) [0] λ g207 A207 _ hA207 u=>?_
    refine u.segB 1 (sc Z (xLc (sb:=94) (.head _) Z Z Z T Z)<|.nil) [89,90,98,100,105] [(0,1),(94,2)] λ u=>?_
    refine aHN (u.hkS (sb:=0)) ?_
    refine aK1 15 ?_
    refine u.mvG (s:=98) (sb:=94) 2 3 ((PV.root.row Z (λ h=>hA127 h Z) p140).fld owFile.f5) (.head _) (yv Z Z) [89,90,100,105] [0] @λ G210 H210 u=>?_
    have u:=u.gs (Gs':=[Q,G139,G210,H210,oneB Y,oneB A,oneB B])
    refine u.tipR (s:=98) 3 (by first | (simp;done) | exact oD rfl) [0,94] λ g212 u=>?_
    refine u.apA 3 xq p153 [89,90,105] [0,94] λ g214 u=>?_
    have u:=u.gn
    refine aHN (u.hkS (sb:=0)) ?_
    refine aK1 16 ?_
    refine u.segB 1 (sc Z (xIa (g:=g127) Z kS34 T T Z (λ h=>hA127 h Z) p157)<|.nil) [102,105] [(0,1),(94,2),(101,3)] λ u=>?_
    refine aHN (u.hkS (sb:=0)) ?_
    refine aK1 17 ?_
    refine u.segC 1 [103,105] [(0,1),(94,2),(101,3)] λ u=>?_
    refine aHN (u.hkS (sb:=0)) ?_
    refine aK1 18 ?_
    have u:=u.tipW (s:=101) 3 [0,94]
    refine u.shA 94 101 2 3 (tp Z) [105] [0] λ u=>?_
    have u:=u.gn
    refine aHN (u.hkS (sb:=0)) ?_
    refine aK0 ?_
    refine u.stG (s:=94) (sb:=0) 1 2 Z (by simp) (by simp) (by decide) Z Z (λ _ h=>h) (λ _ h=>h) [105] Z [] Z Z Z λ _ u=>?_
    have u:=u.gn
    exact(u.rs0 (s:=0) 1 (bx1 h)).2
 refine wp_skip ?_
 exact(u.rs0 (s:=0) 1 (bx1 h)).2
def yT(v20:List Str)(s25:Tree×Int):Option ((Tree×Int)⊕Tree):=
if(cmpI .lss s25.2 (v20.length:Int))=true then((atI v20 s25.2).bind λ v30=>
(yU v30 (⟨[32]⟩:Str)).bind λ v33=>
(jd s25.1 v33).bind λ v37=>
(i64 (s25.2+(1:Int))).bind λ v40=>
some (.inl (v37,v40)))
else(some (.inr s25.1))
def jG(x0:Str):Option (Tree×Bool):=
(yU x0 (⟨[10]⟩:Str)).bind λ v15=>
Option.bind (α:=Tree) ((i64 ((v15.length:Int) - (1:Int))).bind λ v19=>
(QI v15 v19).bind λ v20=>
zR (λ s25=>yT v20 s25) ((⟨[]⟩:Tree),(0:Int))) λ o18=>
(xb o18).bind λ v46=>
(gO ((!v46) == false) (qn o18)).bind λ v47=>
if((!v46)||decide (v47≠x0))=true then(some ((⟨[]⟩:Tree),false))
else(some (o18,true))
theorem zc3{r:Tree×Bool}(h:jG x0=some r):Fn prog 79 [wg (dt x0)] (dtup [dt r.1,dt r.2]):=by
 unfold jG at h
 refine fnx (fn:=f79) 4 func79 Z Z λ M w0 _ j=>?_
 have j:=j.glb (s:=0) (g:=38)
 refine Kc ?_
 refine Ka ?_
 refine j.alA 2 zrTree [0,38] [] λ b3 j=>?_
 have j:=j.gn
 refine j.segA 1 [0,38] [(2,2)] (λ j=>Kb ?_)
 refine za ?_
 refine Kc ?_
 refine Ka ?_
 refine j.segB 1 (sc Z (xR (α:=File) (e:=121) Z)<|.nil) [0,38] [(2,2),(8,0)] λ j=>?_
 have j:=j.tipW (s:=8) 0 (hG:=(λ _ h=>(by cases h))) [2]
 refine j.bldW (ow:=(owTree (Ow.row 121 (owFile (Ow.row 175 (Ow.frz (α:=Stmt))))))) (parts:=[(0,.tmp 8)]) (ns:=[1]) (zs:=zpTree) (x:=(⟨[]⟩:Tree)) 1 [0] (FA ⟨by decide,Ow.len _ (ZC (j.st.has 8 _ Z))⟩ FN) (((owTree (Ow.row 121 (owFile (Ow.row 175 (Ow.frz (α:=Stmt))))))).more (owTree.mk (x:=(⟨[]⟩:Tree)) (ZC (j.st.has 8 _ Z))) (λ b=>(λ hb=>⟨0,by simp,hb⟩))) [0,38] [2] (@λ G7 _ _ j=>?_)
 have j:=j.gs (Gs':=[oneB none,G7,oneB (some b3),oneB none])
 have j:=j.gs (Gs':=[oneB none,G7,oneB (some b3),oneB none])
 refine j.alcW (ow:=(owTree (Ow.row 121 (owFile (Ow.row 175 (Ow.frz (α:=Stmt))))))) 3 kZ36 (owTree.z Ow.row_z) [0,38] [2,9] λ b11 _ _ _ j=>?_
 have j:=j.gn
 refine j.stO (sb:=4) (tv:=9) 3 1 (PV.root.box Z) kT36 (yg Z) [0,38] [2] λ _ _ j=>?_
 have j:=j.gn
 refine Kb ?_
 refine za ?_
 obtain⟨v15,p15,h⟩:=bsW h X8
 refine j.sqA [0,5,38] [(2,2),(4,3)] λ j=>?_
 have⟨o18,p18,k18⟩:=bs h
 refine zV (λ a w=>∃ M1 Q R W X,Sx (Frm.of w0) 37 M M1 [Q,R,oneB W,X] [(0,dt x0),(38,dgl)] [(2,2,dbox W 0 WG),(4,3,dow (Ow.box (owTree (Ow.row 121 (owFile (Ow.row 175 (Ow.frz (α:=Stmt))))))) X ⟨o18⟩)] a w) ?_ ?_
 ·have⟨v19,p19,h⟩:=bs p18
  have⟨v20,p20,h⟩:=bs h
  refine j.sqB (sP 4 (r:=by exact sc Z (xSliH Z T T p20)<|segC)) [0,16,17,18,38] [(2,2),(4,3)] (λ j=>wp_block ?_)
  have j:=j.unm (s:=4) 3 [2]
  refine yV h (λ s25 a w=>∃ M1 Q R W X,Sx (Frm.of w0) 37 M M1 [Q,R,oneB W,X] [(0,dt x0),(16,dt v20),(17,dt (v20.length:Int)),(18,dt s25.2),(38,dgl)] [(2,2,dbox W 0 WG),(4,3,dow (Ow.box (owTree (Ow.row 121 (owFile (Ow.row 175 (Ow.frz (α:=Stmt))))))) X ⟨s25.1⟩)] a w) fx ?_
  rintro s25 z25 _ _ ⟨_,Q,R,W,X,j⟩ hs25 hx25
  have h:yT v20 s25=some z25:=hs25
  unfold yT at h
  refine j.sqA [0,16,17,18,19,38] [(2,2),(4,3)] (λ j=>Kc ?_)
  refine j.cs h (λ _ h=>?_) λ _ h=>?_
  ·refine wp_skip ?_
   refine za ?_
   refine Kc ?_
   refine wp_block ?_
   have⟨v30,p30,h⟩:=bs h
   refine j.sqB (sc Z (xIdx Z T T p30)<|
     sc Z (zm Z T)<|
     sc Z (oA Z T)<|.nil) [0,7,16,17,18,38] [(2,2),(4,3)] (λ j=>?_)
   refine Ka ?_
   obtain⟨v33,p33,h⟩:=bsW h X8
   refine j.segA 2 [0,16,17,18,23,38] [(2,2),(4,3)] λ j=>?_
   have⟨v37,p37,h⟩:=bs h
   refine j.cSF (l:=[.tmp 23]) 3 (j.bkR (s:=4) Z (λ _ h=>h)) Z Z kN128 Z (by simp) (.cons (zcY (s:=38) Z T) .nil) (FnS.any (zab p37)) [0,16,17,18,38] Z [2] Z Z (by decide) λ j=>?_
   have j:=j.gn
   refine Kb ?_
   refine zy ?_
   refine za ?_
   have⟨v40,p40,h⟩:=bs h
   refine j.rgA [0,16,17,18,38] [(2,2),(4,3)] (λ j=>za ?_)
   exact fl h
  refine wp_exit (zI (zI (z7 ?_)))
  refine za ?_
  have h:=lo h hx25
  cases h
  exact fx
 rintro _ _ ⟨_,Q,R,W,X,j⟩
 have h:=k18
 refine Kc ?_
 have j:=j.frzB (s:=4) 3 [0,38] [2]
 have⟨v46,p46,v47,p47,h⟩:=Kg h
 refine j.sqB (sc Z (zm Z T)<|
  sc Z (zz (l:=[.tmp 26]) Z (.cons T .nil) (wO p46))<|
  sc Z (jY Z T)<|
  sc Z (oM Z T)<|
  sg Z Z (λ hg=>zm Z T)<|
  sg Z Z (λ hg=>zz (l:=[.tmp 30]) Z (.cons V .nil) (zcl (gh hg p47)))<|
  sg Z Z (λ hg=>oM Z T)<|
  sg Z Z (λ hg=>QE Z V V)<|
  sc Z (ZO Z T T)<|.nil) [4,34,38] [(2,2)] (λ j=>?_)
 refine j.cs h (λ _ h=>?_) λ _ h=>?_
 ·refine Kc ?_
  refine Ka ?_
  refine j.segB 1 (sc Z (yt (parts:=[]) (ns:=[1]) (zs:=zpTree) Z Z (λ w a hl=>by simp) (λ w a hl=>Tree.parts (x:=(⟨[]⟩:Tree)) Y0))<|.nil) [35,38] [(2,2)] λ j=>?_
  refine j.stA 2 2 FldS.id (tp Z) [38] [] λ j=>?_
  refine j.segA 1 [3,38] [(2,2)] (λ j=>Kb ?_)
  refine za ?_
  refine wp_ret (zt ?_)
  obtain rfl:=Option.some.inj h
  exact j.ret2c kT36 (j.frozen (t:=3))
 refine wp_skip ?_
 refine za ?_
 refine Kc ?_
 refine Ka ?_
 refine j.segA 1 [36,38] [(2,2)] λ j=>?_
 refine j.stA 2 2 FldS.id (tp Z) [38] [] λ j=>?_
 refine j.segA 1 [3,38] [(2,2)] (λ j=>Kb ?_)
 refine za ?_
 refine wp_ret ?_
 obtain rfl:=Option.some.inj h
 exact j.ret2c kT36 (j.frozen (t:=3))
def Js(R:Int->Option Str)(x0:Int):Option Str:=
if cmpI .lss x0 10 then((i64 (x0+(1:Int))).bind λ v5=>
(cutLHO (⟨[48,49,50,51,52,53,54,55,56,57]⟩:Str) x0 v5).bind λ v6=>
some v6)
else((divO x0 (10:Int)).bind λ v10=>
(R v10).bind λ v11=>
(modO x0 (10:Int)).bind λ v12=>
(R v12).bind λ v13=>
(catO v11 v13).bind λ v14=>
some v14)
theorem spec_number_w{R:Int->Option Str}(hR:∀ {x0:Int} {r:Str},R x0=some r->Fn prog 121 [dt x0] (dt r)){x0:Int}(h:Js R x0=some r):Fn prog 121 [dt x0] (dt r):=by
 unfold Js at h
 refine fnx (fn:=f121) 0 func121 Z Z λ M _ _ j=>?_
 refine j.sq1 [0] (λ j=>Kc ?_)
 refine j.sq1 [0,4] λ j=>?_
 refine j.cs h (λ _ h=>?_) λ _ h=>?_
 ·have⟨v5,p5,h⟩:=bs h
  have⟨v6,p6,h⟩:=bs h
  refine j.sq2 (sP 3 (r:=by exact sc Z (zcK Z (zL) T T p6)<|segC)) [2] (λ j=>wp_ret (zt ?_))
  exact j.ret Z Z h
 refine wp_skip ?_
 refine za ?_
 have⟨v10,p10,v11,p11,h⟩:=Kg h
 have⟨v12,p12,v13,p13,h⟩:=Kg h
 have⟨v14,p14,h⟩:=bs h
 refine j.sq2 (sP 1 (r:=by exact sc Z (xDiv Z T cI p10)<|sc Z (oK (hR p11))<|sP 1 (r:=by exact sc Z (xMod Z T cI p12)<|sc Z (oK (hR p13))<|segC))) [2] (λ j=>wp_ret ?_)
 exact j.ret Z Z h
def wu:Nat->Int->Option Str
 | 0=>λ _=>none
 | n+1=>Js (wu n)
theorem wR:∀ (n:Nat) {x0:Int} {r:Str},wu n x0=some r->Fn prog 121 [dt x0] (dt r)
 | 0,_,_,h=>nomatch h
 | n+1,_,_,h=>spec_number_w (wR n) h
def ZI(x0:Str):Option Str:=
if(decide (x0=(⟨[]⟩:Str)))=true then(some (⟨[45]⟩:Str))
else(some x0)
theorem za8(h:ZI x0=some r):Fn prog 244 [dt x0] (dt r):=by
 unfold ZI at h
 refine fnx (fn:=f244) 0 func244 Z Z λ M _ _ j=>?_
 refine j.sq1 [0] (λ j=>Kc ?_)
 refine j.sq1 [0,4] λ j=>?_
 refine j.cs h (λ _ h=>?_) λ _ h=>?_
 ·refine j.sq1 [2] (λ j=>wp_ret (zt ?_))
  exact j.ret Z Z h
 refine wp_skip ?_
 refine za ?_
 refine j.sq1 [2] (λ j=>wp_ret ?_)
 exact j.ret Z Z h
def we(x0:Stmt):Option Str:=
if cmpI .eql x0.kind 0 then((catO (⟨[105,109,112,111,114,116,32]⟩:Str) x0.module).bind λ v6=>
some v6)
else(if cmpI .eql x0.kind 1 then((wu 4 x0.level).bind λ v12=>
(catO (⟨[102,114,111,109,32]⟩:Str) v12).bind λ v13=>
(catO v13 (⟨[32]⟩:Str)).bind λ v14=>
(ZI x0.module).bind λ v15=>
(catO v14 v15).bind λ v16=>
(catO v16 (⟨[32]⟩:Str)).bind λ v17=>
(catO v17 x0.name).bind λ v18=>
some v18)
else(if cmpI .eql x0.kind 2 then((catO (⟨[115,116,97,114,32]⟩:Str) x0.module).bind λ v30=>
some v30)
else(if cmpI .eql x0.kind 3 then((catO (⟨[115,101,116,32]⟩:Str) x0.name).bind λ v36=>
(catO v36 (⟨[32]⟩:Str)).bind λ v37=>
(wu 4 x0.value).bind λ v38=>
(catO v37 v38).bind λ v39=>
some v39)
else(if cmpI .eql x0.kind 4 then((catO (⟨[112,114,105,110,116,32]⟩:Str) x0.name).bind λ v48=>
some v48)
else(some (⟨[102,97,105,108]⟩:Str))))))
theorem zdL{x0:Stmt}(h:we x0=some r):Fn prog 187 [dt x0] (dt r):=by
 unfold we at h
 refine fnx (fn:=f187) 0 func187 Z Z λ M _ _ j=>?_
 refine j.sq1 [1] (λ j=>Kc ?_)
 refine j.sq1 [1,4] (λ j=>wp_block ?_)
 refine j.sq1 [1,4,5] λ j=>?_
 refine j.cs h (λ _ h=>?_) λ _ h=>?_
 ·have⟨v6,p6,h⟩:=bs h
  refine j.sq2 (sP 2 (r:=by exact sc Z (xCat Z (zL) T p6)<|segC)) [2] (λ j=>wp_ret (zS (zt ?_)))
  exact j.ret Z Z h
 refine j.sq1 [1,4,10] λ j=>?_
 refine j.cs h (λ _ h=>?_) λ _ h=>?_
 ·refine Kc ?_
  have⟨v12,p12,v13,p13,h⟩:=Kg h
  have⟨v14,p14,v15,p15,h⟩:=Kg h
  have⟨v16,p16,v17,p17,h⟩:=Kg h
  have⟨v18,p18,h⟩:=bs h
  refine j.drA (D:=[_,_,_,_,_,_,_,_,_,_,_,_,_,_]) zG [[(1,nS)],[(12,0)],[(13,1)],[(14,2)],[(15,3)],[(1,nS)],[(17,5)],[(18,6)],[(16,4),(19,7)],[(20,8)],[(1,nS)],[(22,10)],[(21,9),(23,11)],[(24,12)]] [2] [] (λ j=>?_) (hs:=rc Z Z (zJ Stmt.fld2 Z (ht:=zb7) T)<|
   rc Z Z (zm Z T)<|
   rc Z Z (zz (l:=[.tmp 13]) Z (.cons T .nil) (wR _ p12))<|
   rc Z Z (xCat Z (zL) T p13)<|
   rc Z Z (xCat Z T (zL) p14)<|
   rc Z Z (zJ Stmt.fld1 Z (ht:=zb6) T)<|
   rc Z Z (zm Z T)<|
   rc Z Z (zz (l:=[.tmp 18]) Z (.cons T .nil) (za8 p15))<|
   rc Z Z (xCat Z T T p16)<|
   rc Z Z (xCat Z T (zL) p17)<|
   rc Z Z (zJ Stmt.fld3 Z (ht:=J9) T)<|
   rc Z Z (zm Z T)<|
   rc Z Z (xCat Z T T p18)<|
   rc Z Z (oA Z T)<|.nil)
  refine za ?_
  refine wp_ret (zS (zt ?_))
  exact j.ret Z Z h
 refine j.sq1 [1,4,25] λ j=>?_
 refine j.cs h (λ _ h=>?_) λ _ h=>?_
 ·have⟨v30,p30,h⟩:=bs h
  refine j.sq2 (sP 2 (r:=by exact sc Z (xCat Z (zL) T p30)<|segC)) [2] (λ j=>wp_ret (zS (zt ?_)))
  exact j.ret Z Z h
 refine j.sq1 [1,4,30] λ j=>?_
 refine j.cs h (λ _ h=>?_) λ _ h=>?_
 ·refine Kc ?_
  have⟨v36,p36,v37,p37,h⟩:=Kg h
  have⟨v38,p38,v39,p39,h⟩:=Kg h
  refine j.drA (D:=[_,_,_,_,_,_,_,_,_]) zG [[(1,nS)],[(32,0)],[(33,1)],[(34,2)],[(1,nS)],[(36,4)],[(37,5)],[(35,3),(38,6)],[(39,7)]] [2] [] (λ j=>?_) (hs:=rc Z Z (zJ Stmt.fld3 Z (ht:=J9) T)<|
   rc Z Z (zm Z T)<|
   rc Z Z (xCat Z (zL) T p36)<|
   rc Z Z (xCat Z T (zL) p37)<|
   rc Z Z (zJ Stmt.fld4 Z T)<|
   rc Z Z (zm Z T)<|
   rc Z Z (zz (l:=[.tmp 37]) Z (.cons T .nil) (wR _ p38))<|
   rc Z Z (xCat Z T T p39)<|
   rc Z Z (oA Z T)<|.nil)
  refine za ?_
  refine wp_ret (zS (zt ?_))
  exact j.ret Z Z h
 refine j.sq1 [1,40] λ j=>?_
 refine j.cs h (λ _ h=>?_) λ _ h=>?_
 ·have⟨v48,p48,h⟩:=bs h
  refine j.sq2 (sP 2 (r:=by exact sc Z (xCat Z (zL) T p48)<|segC)) [2] (λ j=>wp_ret (zS (zt ?_)))
  exact j.ret Z Z h
 refine wp_skip ?_
 refine zy ?_
 refine za ?_
 refine j.sq1 [2] (λ j=>wp_ret ?_)
 exact j.ret Z Z h
def Zv(x0:File):Option Str:=
Option.bind (α:=Str) (if x0.init=true then(some (⟨[42]⟩:Str))
else(some x0.name)) λ o3=>
(wu 4 x0.root).bind λ v9=>
(catO (⟨[102,105,108,101,32]⟩:Str) v9).bind λ v10=>
(catO v10 (⟨[32]⟩:Str)).bind λ v11=>
(ZI x0.pkg).bind λ v12=>
(catO v11 v12).bind λ v13=>
(catO v13 (⟨[32]⟩:Str)).bind λ v14=>
(catO v14 o3).bind λ v15=>
(catO v15 (⟨[32]⟩:Str)).bind λ v16=>
(wu 4 x0.stamp).bind λ v17=>
(catO v16 v17).bind λ v18=>
some v18
theorem zdM{x0:File}(h:Zv x0=some r):Fn prog 186 [dt x0] (dt r):=by
 unfold Zv at h
 refine fnx (fn:=f186) 0 func186 Z Z λ M w0 _ j=>?_
 refine j.sq1 [1] λ j=>?_
 refine j.sq1 [1,3] λ j=>?_
 have⟨o3,p3,k3⟩:=bs h
 refine zV (λ a w=>Sx (Frm.of w0) 25 M M [] [(1,dptr x0),(3,dt o3)] [] a w) ?_ ?_
 ·refine j.sq1 [1,3,7] λ j=>?_
  refine j.cs p3 (λ _ h=>?_) λ _ h=>?_
  ·refine j.rg1 [1,3] (λ j=>za ?_)
   obtain rfl:=Option.some.inj h
   exact j.sel0 [1,3]
  refine wp_skip ?_
  refine za ?_
  obtain rfl:=Option.some.inj h
  exact j.sel0 [1,3]
 rintro _ _ j
 have h:=k3
 refine Kc ?_
 have⟨v9,p9,v10,p10,h⟩:=Kg h
 have⟨v11,p11,v12,p12,h⟩:=Kg h
 have⟨v13,p13,v14,p14,h⟩:=Kg h
 have⟨v15,p15,v16,p16,h⟩:=Kg h
 have⟨v17,p17,v18,p18,h⟩:=Kg h
 refine j.drA (D:=[_,_,_,_,_,_,_,_,_,_,_,_,_,_,_,_,_,_]) zG [[(1,nS)],[(8,0)],[(9,1)],[(10,2)],[(11,3)],[(1,nS)],[(13,5)],[(14,6)],[(12,4),(15,7)],[(16,8)],[(3,nS)],[(17,9),(18,10)],[(19,11)],[(1,nS)],[(21,13)],[(22,14)],[(20,12),(23,15)],[(24,16)]] [2] [] (λ j=>?_) (hs:=rc Z Z (zJ File.fld0 Z T)<|
  rc Z Z (zm Z T)<|
  rc Z Z (zz (l:=[.tmp 9]) Z (.cons T .nil) (wR _ p9))<|
  rc Z Z (xCat Z (zL) T p10)<|
  rc Z Z (xCat Z T (zL) p11)<|
  rc Z Z (zJ File.fld1 Z T)<|
  rc Z Z (zm Z T)<|
  rc Z Z (zz (l:=[.tmp 14]) Z (.cons T .nil) (za8 p12))<|
  rc Z Z (xCat Z T T p13)<|
  rc Z Z (xCat Z T (zL) p14)<|
  rc Z Z (oM Z T)<|
  rc Z Z (xCat Z T T p15)<|
  rc Z Z (xCat Z T (zL) p16)<|
  rc Z Z (zJ File.fld4 Z T)<|
  rc Z Z (zm Z T)<|
  rc Z Z (zz (l:=[.tmp 22]) Z (.cons T .nil) (wR _ p17))<|
  rc Z Z (xCat Z T T p18)<|
  rc Z Z (oA Z T)<|.nil)
 refine za ?_
 refine wp_ret ?_
 exact j.ret Z Z h
def xI(x0:Tree)(s5:Str×Int)(s21:Str×Int):Option ((Str×Int)⊕Str):=
(atI x0.files s5.2).bind λ v23=>
if(cmpI .lss s21.2 (v23.body.length:Int))=true then((atI x0.files s5.2).bind λ v28=>
(atI v28.body s21.2).bind λ v29=>
(we v29).bind λ v30=>
(catO s21.1 v30).bind λ v31=>
(catO v31 (⟨[10]⟩:Str)).bind λ v32=>
(i64 (s21.2+(1:Int))).bind λ v39=>
some (.inl (v32,v39)))
else(some (.inr s21.1))
def xJ(x0:Tree)(s5:Str×Int):Option ((Str×Int)⊕Str):=
if(cmpI .lss s5.2 (x0.files.length:Int))=true then(Option.bind (α:=Str) ((atI x0.files s5.2).bind λ v11=>
(Zv v11).bind λ v12=>
(catO s5.1 v12).bind λ v13=>
(catO v13 (⟨[10]⟩:Str)).bind λ v14=>
zR (λ s21=>xI x0 s5 s21) (v14,(0:Int))) λ o10=>
(i64 (s5.2+(1:Int))).bind λ v44=>
some (.inl (o10,v44)))
else(some (.inr s5.1))
def ZJ(x0:Tree):Option Str:=
Option.bind (α:=Str) (zR (λ s5=>xJ x0 s5) ((⟨[]⟩:Str),(0:Int))) λ o3=>
some o3
theorem spec_format_w{x0:Tree}(h:ZJ x0=some r):Fn prog 118 [dt x0] (dt r):=by
 unfold ZJ at h
 refine fnx (fn:=f118) 0 func118 Z Z λ M w0 _ j=>?_
 refine j.sq1 [1] λ j=>?_
 refine j.sq1 [1,3] λ j=>?_
 have⟨o3,p3,k3⟩:=bs h
 refine zV (λ a w=>Sx (Frm.of w0) 47 M M [] [(3,dt o3)] [] a w) ?_ ?_
 ·refine j.sq1 [1,3,4] (λ j=>wp_block ?_)
  refine yV p3 (λ s5 a w=>Sx (Frm.of w0) 47 M M [] [(1,dptr x0),(3,dt s5.1),(4,dt s5.2)] [] a w) (j.sel0 [1,3,4]) ?_
  rintro s5 z5 _ _ j hs5 hx5
  have h:xJ x0 s5=some z5:=hs5
  unfold xJ at h
  refine Kc ?_
  refine j.sq1 [1,3,4,10] λ j=>?_
  refine j.cs h (λ _ h=>?_) λ _ h=>?_
  ·refine wp_skip ?_
   refine za ?_
   have⟨o10,p10,k10⟩:=bs h
   refine zV (λ a w=>Sx (Frm.of w0) 47 M M [] [(1,dptr x0),(3,dt o10),(4,dt s5.2)] [] a w) ?_ ?_
   ·refine wp_block ?_
    have⟨v11,p11,h⟩:=bs p10
    have⟨v12,p12,v13,p13,h⟩:=Kg h
    have⟨v14,p14,h⟩:=bs h
    refine j.sq2 (sP 6 (r:=by exact sc Z (oK (zdM p12))<|sP 1 (r:=by exact sc Z (xCat Z T (zL) p14)<|segC))) [1,3,4] λ j=>?_
    refine j.sq1 [1,3,4,5] (λ j=>wp_block ?_)
    refine yV h (λ s21 a w=>Sx (Frm.of w0) 47 M M [] [(1,dptr x0),(3,dt s21.1),(4,dt s5.2),(5,dt s21.2)] [] a w) (j.sel0 [1,3,4,5]) ?_
    rintro s21 z21 _ _ j hs21 hx21
    have h:xI x0 s5 s21=some z21:=hs21
    unfold xI at h
    refine Kc ?_
    have⟨v23,p23,h⟩:=bs h
    refine j.sq1 [1,3,4,5,30] λ j=>?_
    refine j.cs h (λ _ h=>?_) λ _ h=>?_
    ·refine wp_skip ?_
     refine za ?_
     refine Kc ?_
     refine wp_block ?_
     have⟨v28,p28,v29,p29,h⟩:=Kg h
     have⟨v30,p30,v31,p31,h⟩:=Kg h
     have⟨v32,p32,h⟩:=bs h
     refine j.rg2 (sP 10 (r:=by exact sc Z (oK (zdL p30))<|sP 1 (r:=by exact sc Z (xCat Z T (zL) p32)<|segC))) [1,3,4,5] (λ j=>zy ?_)
     refine za ?_
     have⟨v39,p39,h⟩:=bs h
     refine j.rg1 [1,3,4,5] (λ j=>za ?_)
     exact⟨_,(Option.some.inj h).symm,j.sel0 [1,3,4,5]⟩
    refine wp_exit (zI (zI (z7 ?_)))
    refine zy ?_
    refine za ?_
    have h:=lo h hx21
    obtain rfl:=Option.some.inj h
    exact j.sel0 [1,3,4]
   rintro _ _ j
   have h:=k10
   have⟨v44,p44,h⟩:=bs h
   refine j.rg1 [1,3,4] (λ j=>za ?_)
   exact⟨_,(Option.some.inj h).symm,j.sel0 [1,3,4]⟩
  refine wp_exit (zI (zI (z7 ?_)))
  refine za ?_
  have h:=lo h hx5
  obtain rfl:=Option.some.inj h
  exact j.sel0 [3]
 rintro _ _ j
 have h:=k3
 refine j.sq1 [2] (λ j=>wp_ret ?_)
 exact j.ret Z Z h
def je(x0:Str)(s5:Int×Int):Option ((Int×Int)⊕(Int⊕Int)):=
if(cmpI .lss s5.2 (x0.l.length:Int))=true then((atI x0.l s5.2).bind λ v10=>
(gO (cmpB .lss v10 (UInt8.ofNat 48) == false) (atI x0.l s5.2)).bind λ v11=>
if((cmpB .lss v10 (UInt8.ofNat 48)||cmpB .gtr v11 (UInt8.ofNat 57))||cmpI .gtr s5.1 9)=true then(some (.inr (.inr (-1:Int))))
else((i64 ((10:Int)*s5.1)).bind λ v20=>
(atI x0.l s5.2).bind λ v21=>
(i64 (v20+((v21 - (UInt8.ofNat 48)).toNat:Int))).bind λ v22=>
(i64 (s5.2+(1:Int))).bind λ v27=>
some (.inl (v22,v27))))
else(some (.inr (.inl s5.1)))
def yy(x0:Str):Option Int:=
Option.bind (α:=Int⊕Int) (zR (λ s5=>je x0 s5) ((0:Int),(0:Int))) (Sum.elim (λ b3=>
(gO (decide (x0=(⟨[]⟩:Str)) == false) (wu 4 b3)).bind λ v32=>
if(decide (x0=(⟨[]⟩:Str))||decide (x0≠v32))=true then(some (-1:Int))
else(some b3)) some)
theorem ZU{r:Int}(h:yy x0=some r):Fn prog 184 [dt x0] (dt r):=by
 unfold yy at h
 refine fnx (fn:=f184) 0 func184 Z Z λ M w0 _ j=>?_
 refine j.sq1 [0] λ j=>?_
 refine j.sq1 [0,3] λ j=>?_
 have⟨o3,p3,k3⟩:=bs h
 refine zV (λ a w=>∃ b3,o3=.inl b3/\Sx (Frm.of w0) 42 M M [] [(0,dt x0),(3,dt b3)] [] a w) ?_ ?_
 ·refine j.sq1 [0,3,4] (λ j=>wp_block ?_)
  refine yV p3 (λ s5 a w=>Sx (Frm.of w0) 42 M M [] [(0,dt x0),(3,dt s5.1),(4,dt s5.2)] [] a w) (j.sel0 [0,3,4]) ?_
  rintro s5 z5 _ _ j hs5 hx5
  have h:je x0 s5=some z5:=hs5
  unfold je at h
  refine Kc ?_
  refine j.sq1 [0,3,4,8] λ j=>?_
  refine j.cs h (λ _ h=>?_) λ _ h=>?_
  ·refine wp_skip ?_
   refine za ?_
   refine Kc ?_
   refine wp_block ?_
   refine Kc ?_
   have⟨v10,p10,v11,p11,h⟩:=Kg h
   refine j.sq2 (sP 3 (r:=by exact sc Z (oCB Z T (Xa))<|sP 3 (r:=by exact sg Z Z (λ hg=>xByte Z V V (gh hg p11))<|sg Z Z (λ hg=>oCB Z V (Xa))<|segC))) [0,3,4,24] λ j=>?_
   refine j.cs h (λ _ h=>?_) λ _ h=>?_
   ·refine j.sq1 [2] (λ j=>wp_ret (zt (zS (zt (zt (zS (zt ?_)))))))
    have h:=lo h hx5
    have h:=jo h k3
    exact j.ret Z Z h
   refine wp_skip ?_
   refine za ?_
   have⟨v20,p20,v21,p21,h⟩:=Kg h
   have⟨v22,p22,h⟩:=bs h
   refine j.rg2 (sP 5 (r:=by exact sc Z (xSub8 Z T (Xa))<|sc Z (xCvI Z kCv5_3 T)<|segC)) [0,3,4] (λ j=>zy ?_)
   refine za ?_
   have⟨v27,p27,h⟩:=bs h
   refine j.rg1 [0,3,4] (λ j=>za ?_)
   exact⟨_,(Option.some.inj h).symm,j.sel0 [0,3,4]⟩
  refine wp_exit (zI (zI (z7 ?_)))
  refine za ?_
  have h:=lo h hx5
  exact⟨_,(Option.some.inj h).symm,j.sel0 [0,3]⟩
 rintro _ _ ⟨b3,rfl,j⟩
 have h:=jn k3
 refine Kc ?_
 have⟨v32,p32,h⟩:=bs h
 refine j.sq2 (sP 5 (r:=by exact sg Z Z (λ hg=>oK (wR _ (gh hg p32)))<|segC)) [3,40] λ j=>?_
 refine j.cs h (λ _ h=>?_) λ _ h=>?_
 ·refine j.sq1 [2] (λ j=>wp_ret (zt ?_))
  exact j.ret Z Z h
 refine wp_skip ?_
 refine za ?_
 refine j.sq1 [2] (λ j=>wp_ret ?_)
 exact j.ret Z Z h
def j8(x0:Str):Option Str:=
if(decide (x0=(⟨[45]⟩:Str)))=true then(some (⟨[]⟩:Str))
else(some x0)
theorem Qx(h:j8 x0=some r):Fn prog 185 [dt x0] (dt r):=by
 unfold j8 at h
 refine fnx (fn:=f185) 0 func185 Z Z λ M _ _ j=>?_
 refine j.sq1 [0] (λ j=>Kc ?_)
 refine j.sq1 [0,4] λ j=>?_
 refine j.cs h (λ _ h=>?_) λ _ h=>?_
 ·refine j.sq1 [2] (λ j=>wp_ret (zt ?_))
  exact j.ret Z Z h
 refine wp_skip ?_
 refine za ?_
 refine j.sq1 [2] (λ j=>wp_ret ?_)
 exact j.ret Z Z h
def Zw(x0:List Str):Option Stmt:=
(atI x0 0).bind λ v3=>
if(decide (v3=(⟨[105,109,112,111,114,116]⟩:Str))&&cmpI .eql (x0.length:Int) 2)=true then((atI x0 1).bind λ v8=>
some (⟨(0:Int),v8,0,⟨[]⟩,0⟩:Stmt))
else((atI x0 0).bind λ v13=>
if(decide (v13=(⟨[102,114,111,109]⟩:Str))&&cmpI .eql (x0.length:Int) 4)=true then((atI x0 1).bind λ v18=>
(yy v18).bind λ v19=>
(atI x0 2).bind λ v20=>
(j8 v20).bind λ v21=>
(atI x0 3).bind λ v22=>
some (⟨(1:Int),v21,v19,v22,0⟩:Stmt))
else((atI x0 0).bind λ v31=>
if(decide (v31=(⟨[115,116,97,114]⟩:Str))&&cmpI .eql (x0.length:Int) 2)=true then((atI x0 1).bind λ v36=>
some (⟨(2:Int),v36,0,⟨[]⟩,0⟩:Stmt))
else((atI x0 0).bind λ v41=>
if(decide (v41=(⟨[115,101,116]⟩:Str))&&cmpI .eql (x0.length:Int) 3)=true then((atI x0 1).bind λ v46=>
(atI x0 2).bind λ v47=>
(yy v47).bind λ v48=>
some (⟨(3:Int),⟨[]⟩,0,v46,v48⟩:Stmt))
else((atI x0 0).bind λ v55=>
if(decide (v55=(⟨[112,114,105,110,116]⟩:Str))&&cmpI .eql (x0.length:Int) 2)=true then((atI x0 1).bind λ v60=>
some (⟨(4:Int),⟨[]⟩,0,v60,0⟩:Stmt))
else((atI x0 0).bind λ v65=>
if(decide (v65=(⟨[102,97,105,108]⟩:Str))&&cmpI .eql (x0.length:Int) 1)=true then(some (⟨(5:Int),⟨[]⟩,0,⟨[]⟩,0⟩:Stmt))
else(some (⟨(-1:Int),⟨[]⟩,0,⟨[]⟩,0⟩:Stmt)))))))
theorem Qy{x0:List Str}{r:Stmt}(h:Zw x0=some r):Fn prog 117 [dt x0] (dt r):=by
 unfold Zw at h
 refine fnx (fn:=f117) 1 func117 Z Z (λ M _ _ j=>Kc ?_)
 refine Ka ?_
 refine j.alA 0 zcM [0] [] (λ b2 j=>Kb ?_)
 refine za ?_
 refine Kc ?_
 refine wp_block ?_
 have⟨v3,p3,h⟩:=bs h
 refine j.sqB (sP 1 (r:=by exact sc Z (xIdx Z T cI p3)<|segC)) [0,3] [(2,0)] λ j=>?_
 refine j.cs h (λ _ h=>?_) λ _ h=>?_
 ·refine Kc ?_
  refine Ka ?_
  have⟨v8,p8,h⟩:=bs h
  refine j.segB 4 (sP 1 (r:=by exact sc Z (xIdx Z T cI p8)<|sP 1 (r:=by exact sc Z (zaC Z cI T)<|.nil))) [16] [(2,0)] λ j=>?_
  refine j.stA 2 0 FldS.id (tp Z) [] [] (λ j=>Kb ?_)
  refine za ?_
  refine wp_ret (zS (zt ?_))
  exact j.ret_box Q4 h
 have⟨v13,p13,h⟩:=bs h
 refine j.sqB (sP 1 (r:=by exact sc Z (xIdx Z T cI p13)<|segC)) [0,17] [(2,0)] λ j=>?_
 refine j.cs h (λ _ h=>?_) λ _ h=>?_
 ·refine Kc ?_
  have⟨v18,p18,v19,p19,h⟩:=Kg h
  have⟨v20,p20,v21,p21,h⟩:=Kg h
  have⟨v22,p22,h⟩:=bs h
  refine j.drnA (D:=[_,_,_,_,_,_,_,_,_,_,_,_]) zG 12 [[(0,nS)],[(27,0)],[(28,1)],[(29,2)],[(0,nS)],[(31,4)],[(32,5)],[(33,6)],[(0,nS)],[(35,8)],[(36,9)],[(30,3),(34,7),(37,10)],[(2,nS),(38,11)]] [38] [(2,0)] (λ j=>?_) (hs:=rc Z Z (oM Z T)<|
   rc Z Z (xIdx Z T cI p18)<|
   rc Z Z (zm Z T)<|
   rc Z Z (zz (l:=[.tmp 29]) Z (.cons T .nil) (ZU p19))<|
   rc Z Z (oM Z T)<|
   rc Z Z (xIdx Z T cI p20)<|
   rc Z Z (zm Z T)<|
   rc Z Z (zz (l:=[.tmp 33]) Z (.cons T .nil) (Qx p21))<|
   rc Z Z (oM Z T)<|
   rc Z Z (xIdx Z T cI p22)<|
   rc Z Z (zm Z T)<|
   rc Z Z (za5 Z cI T T T)<|.nil)
  refine j.store (sb:=2) 0 FldS.id Z Z Z Q4 Z Z (tp Z) Z [] Z [] Z Z (λ _ _ j=>Kb ?_)
  refine za ?_
  refine wp_ret (zS (zt ?_))
  exact j.ret_box Q4 h
 have⟨v31,p31,h⟩:=bs h
 refine j.sqB (sP 1 (r:=by exact sc Z (xIdx Z T cI p31)<|segC)) [0,39] [(2,0)] λ j=>?_
 refine j.cs h (λ _ h=>?_) λ _ h=>?_
 ·refine Kc ?_
  refine Ka ?_
  have⟨v36,p36,h⟩:=bs h
  refine j.segB 4 (sP 1 (r:=by exact sc Z (xIdx Z T cI p36)<|sP 1 (r:=by exact sc Z (zaC Z cI T)<|.nil))) [52] [(2,0)] λ j=>?_
  refine j.stA 2 0 FldS.id (tp Z) [] [] (λ j=>Kb ?_)
  refine za ?_
  refine wp_ret (zS (zt ?_))
  exact j.ret_box Q4 h
 have⟨v41,p41,h⟩:=bs h
 refine j.sqB (sP 1 (r:=by exact sc Z (xIdx Z T cI p41)<|segC)) [0,53] [(2,0)] λ j=>?_
 refine j.cs h (λ _ h=>?_) λ _ h=>?_
 ·refine Kc ?_
  have⟨v46,p46,v47,p47,h⟩:=Kg h
  have⟨v48,p48,h⟩:=bs h
  refine j.drnA (D:=[_,_,_,_,_,_,_,_]) zG 8 [[(0,nS)],[(63,0)],[(64,1)],[(0,nS)],[(66,3)],[(67,4)],[(68,5)],[(65,2),(69,6)],[(2,nS),(70,7)]] [70] [(2,0)] (λ j=>?_) (hs:=rc Z Z (oM Z T)<|
   rc Z Z (xIdx Z T cI p46)<|
   rc Z Z (zm Z T)<|
   rc Z Z (oM Z T)<|
   rc Z Z (xIdx Z T cI p47)<|
   rc Z Z (zm Z T)<|
   rc Z Z (zz (l:=[.tmp 68]) Z (.cons T .nil) (ZU p48))<|
   rc Z Z (zds Z cI T T)<|.nil)
  refine j.store (sb:=2) 0 FldS.id Z Z Z Q4 Z Z (tp Z) Z [] Z [] Z Z (λ _ _ j=>Kb ?_)
  refine za ?_
  refine wp_ret (zS (zt ?_))
  exact j.ret_box Q4 h
 have⟨v55,p55,h⟩:=bs h
 refine j.sqB (sP 1 (r:=by exact sc Z (xIdx Z T cI p55)<|segC)) [0,71] [(2,0)] λ j=>?_
 refine j.cs h (λ _ h=>?_) λ _ h=>?_
 ·refine Kc ?_
  refine Ka ?_
  have⟨v60,p60,h⟩:=bs h
  refine j.segB 4 (sP 1 (r:=by exact sc Z (xIdx Z T cI p60)<|sP 1 (r:=by exact sc Z (kD175_0_3 Z cI T)<|.nil))) [84] [(2,0)] λ j=>?_
  refine j.stA 2 0 FldS.id (tp Z) [] [] (λ j=>Kb ?_)
  refine za ?_
  refine wp_ret (zS (zt ?_))
  exact j.ret_box Q4 h
 have⟨v65,p65,h⟩:=bs h
 refine j.sqB (sP 1 (r:=by exact sc Z (xIdx Z T cI p65)<|segC)) [85] [(2,0)] λ j=>?_
 refine j.cs h (λ _ h=>?_) λ _ h=>?_
 ·refine Kc ?_
  refine Ka ?_
  refine j.segB 1 (sc Z (zb5 Z cI)<|.nil) [95] [(2,0)] λ j=>?_
  refine j.stA 2 0 FldS.id (tp Z) [] [] (λ j=>Kb ?_)
  refine za ?_
  refine wp_ret (zS (zt ?_))
  exact j.ret_box Q4 h
 refine wp_skip ?_
 refine zy ?_
 refine za ?_
 refine Kc ?_
 refine Ka ?_
 refine j.segB 1 (sc Z (zb5 Z cI)<|.nil) [96] [(2,0)] λ j=>?_
 refine j.stA 2 0 FldS.id (tp Z) [] [] (λ j=>Kb ?_)
 refine za ?_
 refine wp_ret ?_
 exact j.ret_box Q4 h
def Zx(x0:List Str):Option File0:=
(atI x0 1).bind λ v3=>
(yy v3).bind λ v4=>
(atI x0 2).bind λ v5=>
(j8 v5).bind λ v6=>
(atI x0 3).bind λ v7=>
(atI x0 4).bind λ v8=>
(yy v8).bind λ v9=>
Option.bind (α:=File0) (if(decide ((⟨v4,v6,v7,false,v9,(⟨⟩:Nil0)⟩:File0).name=(⟨[42]⟩:Str)))=true then(some ({ { (⟨v4,v6,v7,false,v9,(⟨⟩:Nil0)⟩:File0) with name:=(⟨[]⟩:Str) } with init:=true }))
else(some (⟨v4,v6,v7,false,v9,(⟨⟩:Nil0)⟩:File0))) λ o20=>
some o20
theorem zdN{x0:List Str}{r:File0}(h:Zx x0=some r):Fn prog 116 [dt x0] (dt r):=by
 unfold Zx at h
 refine fnx (fn:=f116) 2 func116 Z Z (λ M w0 _ j=>Kc ?_)
 refine Ka ?_
 refine j.alA 0 zrFile0 [0] [] (λ b2 j=>Kb ?_)
 refine za ?_
 refine Kc ?_
 have⟨v3,p3,v4,p4,h⟩:=Kg h
 have⟨v5,p5,v6,p6,h⟩:=Kg h
 have⟨v7,p7,v8,p8,h⟩:=Kg h
 have⟨v9,p9,h⟩:=bs h
 refine j.alc (D:=[_,_,_,_,_,_,_,_,_,_,_,_,_,_,_,_,Wc]) [mkBox 16 3 121 zcFile0 1 zFile0 zrFile0] zG 17 [[(0,nS)],[(4,0)],[(5,1)],[(6,2)],[(0,nS)],[(8,4)],[(9,5)],[(10,6)],[(0,nS)],[(12,8)],[(13,9)],[(0,nS)],[(15,11)],[(16,12)],[(17,13)],[(7,3),(11,7),(14,10),(18,14)],[],[(3,16),(19,15)]] (by decide +kernel) (by decide) (by decide +kernel) ⟨kZ121,trivial⟩ (by decide) (by decide) (by simp[mkBox]) (λ M17 hM17=>
  ac Z Z Z (oM Z T)<|
  ac Z Z Z (xIdx Z T cI p3)<|
  ac Z Z Z (zm Z T)<|
  ac Z Z Z (zz (l:=[.tmp 6]) Z (.cons T .nil) (ZU p4))<|
  ac Z Z Z (oM Z T)<|
  ac Z Z Z (xIdx Z T cI p5)<|
  ac Z Z Z (zm Z T)<|
  ac Z Z Z (zz (l:=[.tmp 10]) Z (.cons T .nil) (Qx p6))<|
  ac Z Z Z (oM Z T)<|
  ac Z Z Z (xIdx Z T cI p7)<|
  ac Z Z Z (zm Z T)<|
  ac Z Z Z (oM Z T)<|
  ac Z Z Z (xIdx Z T cI p8)<|
  ac Z Z Z (zm Z T)<|
  ac Z Z Z (zz (l:=[.tmp 17]) Z (.cons T .nil) (ZU p9))<|
  ac Z Z Z (zea Z T T T T)<|
  al Z Z<|.nil) [19] Z [2] Z Z Z Z (λ β17 M17 _ _ j=>?_)
 refine j.stA 3 1 FldS.id (tp Z) [] [2] (λ j=>Kb ?_)
 refine za ?_
 have⟨o20,p20,k20⟩:=bs h
 refine zV (λ a w=>∃ M1 Q R,Sx (Frm.of w0) 26 M M1 [oneB Q,oneB R] [] [(2,0,dbox Q 0 zFile0),(3,1,dbox R 0 o20)] a w) ?_ ?_
 ·refine j.sqB (sc Z (yf File0.fld2 Z T)<|
   sc Z (yb Z T)<|
   sc Z (ji Z T (zL))<|.nil) [22] [(2,0),(3,1)] (λ j=>?_)
  refine j.cs p20 (λ _ h=>?_) λ _ h=>?_
  ·refine Kc ?_
   refine Ka ?_
   refine j.segB 1 (sc Z (yf File0.fld2 Z T)<|.nil) [] [(2,0),(3,1),(23,1)] λ j=>?_
   refine j.store (sb:=3) 1 File0.set2 Z Z Z kT9 Z Z (zL) Z [] Z [2] Z Z (λ _ _ j=>Kb ?_)
   refine za ?_
   refine Ka ?_
   refine j.segB 1 (sc Z (yf File0.fld3 Z T)<|.nil) [] [(2,0),(3,1),(24,1)] λ j=>?_
   refine j.store (sb:=3) 1 File0.set3 Z Z Z kT4 Z Z cB Z [] Z [2] Z Z (λ _ _ j=>Kb ?_)
   refine za ?_
   cases h
   exact fx
  refine wp_skip ?_
  refine za ?_
  cases h
  exact fx
 rintro _ _ ⟨_,Q,R,j⟩
 have h:=k20
 refine Kc ?_
 refine Ka ?_
 refine j.segC 1 [25] [(2,0)] λ j=>?_
 refine j.stA 2 0 FldS.id (tp Z) [] [] (λ j=>Kb ?_)
 refine za ?_
 refine wp_ret ?_
 exact j.ret_box zaZ h
def wE(v12:List Str)(s18:Tree×Tree×Int):Option ((Tree×Tree×Int)⊕((Tree×Tree)⊕(Tree×Bool))):=
(i64 (s18.2.2+(1:Int))).bind λ v20=>
if(cmpI .lss v20 (v12.length:Int))=true then(Option.bind (α:=(Tree×Tree)⊕((Tree×Tree×Int)⊕((Tree×Tree)⊕(Tree×Bool)))) ((atI v12 s18.2.2).bind λ v26=>
(xv v26 (UInt8.ofNat 32)).bind λ v27=>
(atI v27 0).bind λ v31=>
if(decide (v31=(⟨[102,105,108,101]⟩:Str))&&cmpI .eql (v27.length:Int) 5)=true then((Zx v27).bind λ v38=>
(appO 80 s18.2.1.files (([v38]:List File0).map File0.f)).bind λ v44=>
some (.inl (s18.1,(⟨v44⟩:Tree))))
else((i64 ((s18.2.1.files.length:Int) - (1:Int))).bind λ v53=>
if cmpI .lss v53 0 then(some (.inr (.inr (.inr ((⟨[]⟩:Tree),false)))))
else((atI s18.2.1.files v53).bind λ v77=>
(Zw v27).bind λ v82=>
(appO 56 v77.body ([v82]:List Stmt)).bind λ v91=>
(atI s18.2.1.files v53).bind λ _v95=>
some (.inl (s18.1,(⟨(s18.2.1.files.set v53.toNat ({ v77 with body:=v91 }))⟩:Tree)))))) (Sum.elim (λ b25=>
(i64 (s18.2.2+(1:Int))).bind λ v167=>
some (.inl (b25.1,b25.2,v167))) some))
else(some (.inr (.inl (s18.1,s18.2.1))))
def qq(x0:Str):Option (Tree×Bool):=
(xv x0 (UInt8.ofNat 10)).bind λ v12=>
Option.bind (α:=(Tree×Tree)⊕(Tree×Bool)) (zR (λ s18=>wE v12 s18) (WG,(⟨[]⟩:Tree),(0:Int))) (Sum.elim (λ b15=>
(i64 ((v12.length:Int) - (1:Int))).bind λ v173=>
(atI v12 v173).bind λ v174=>
(gO (decide (v174=(⟨[]⟩:Str)) == true) (xc b15.2)).bind λ v175=>
(gO ((decide (v174=(⟨[]⟩:Str))&&v175) == true) (ZJ b15.2)).bind λ v176=>
some (b15.2,((decide (v174=(⟨[]⟩:Str))&&v175)&&decide (v176=x0)))) some)
theorem spec_parse_w{r:Tree×Bool}(h:qq x0=some r):Fn prog 77 [dt x0] (dtup [dt r.1,dt r.2]):=by
 unfold qq at h
 refine fnx (fn:=f77) 6 func77 Z Z (λ M w0 _ y=>Kc ?_)
 refine Ka ?_
 refine y.alA 4 zrTree [0] [] λ b2 y=>?_
 have y:=y.gn
 refine y.segA 1 [0] [(2,4)] (λ y=>Kb ?_)
 refine za ?_
 refine Kc ?_
 refine Ka ?_
 refine y.bldW (ow:=(owTree (Ow.row 121 (owFile (Ow.row 175 (Ow.frz (α:=Stmt))))))) (parts:=[]) (ns:=[1]) (zs:=zpTree) (x:=(⟨[]⟩:Tree)) 0 [] (by simp) (((owTree (Ow.row 121 (owFile (Ow.row 175 (Ow.frz (α:=Stmt))))))).more (owTree.mk (x:=(⟨[]⟩:Tree)) (Ow.row_z _ _)) (λ b=>(λ hb=>hb.elim))) [0] [2] @λ G5 _ _ y=>?_
 have y:=y.gs (Gs':=[G5,oneB none,oneB none,oneB none,oneB (some b2),oneB none])
 have y:=y.gs (Gs':=[G5,oneB none,oneB none,oneB none,oneB (some b2),oneB none])
 refine y.alcW (ow:=(owTree (Ow.row 121 (owFile (Ow.row 175 (Ow.frz (α:=Stmt))))))) 5 kZ36 (owTree.z Ow.row_z) [0] [2,9] λ b8 _ _ _ y=>?_
 have y:=y.gn
 refine y.stO (sb:=4) (tv:=9) 5 0 (PV.root.box Z) kT36 (yg Z) [0] [2] λ _ _ y=>?_
 have y:=y.gn
 refine Kb ?_
 refine za ?_
 obtain⟨v12,p12,h⟩:=bsW h Xm
 refine y.sqA [0,5] [(2,4),(4,5)] λ y=>?_
 have⟨o15,p15,k15⟩:=bs h
 refine zV (λ a w=>∃ b15,o15=.inl b15/\(∃ M1 Q R W X Y A,Sx (Frm.of w0) 80 M M1 [Q,R,W,X,oneB Y,A] [(0,dt x0),(5,dt v12)] [(2,4,dbox Y 0 b15.1),(4,5,dow (Ow.box (owTree (Ow.row 121 (owFile (Ow.row 175 (Ow.frz (α:=Stmt))))))) A ⟨b15.2⟩)] a w)) ?_ ?_
 ·refine y.sqA [0,5,6] [(2,4),(4,5)] (λ y=>wp_block ?_)
  have y:=y.unm (s:=4) 5 [2]
  refine yV p15 (λ s18 a w=>∃ M1 Q R W X Y A,Sx (Frm.of w0) 80 M M1 [Q,R,W,X,oneB Y,A] [(0,dt x0),(5,dt v12),(6,dt s18.2.2)] [(2,4,dbox Y 0 s18.1),(4,5,dow (Ow.box (owTree (Ow.row 121 (owFile (Ow.row 175 (Ow.frz (α:=Stmt))))))) A ⟨s18.2.1⟩)] a w) fx ?_
  rintro s18 z18 _ _ ⟨_,Q,R,W,X,Y,A,y⟩ hs18 hx18
  have h:wE v12 s18=some z18:=hs18
  unfold wE at h
  refine Kc ?_
  have⟨v20,p20,h⟩:=bs h
  refine y.sqA [0,5,6,16] [(2,4),(4,5)] λ y=>?_
  refine y.cs h (λ _ h=>?_) λ _ h=>?_
  ·refine wp_skip ?_
   refine za ?_
   have⟨o25,p25,k25⟩:=bs h
   refine zV (λ a w=>∃ b25,o25=.inl b25/\(∃ M1 Q R W X Y A,Sx (Frm.of w0) 80 M M1 [Q,R,W,X,oneB Y,A] [(0,dt x0),(5,dt v12),(6,dt s18.2.2)] [(2,4,dbox Y 0 b25.1),(4,5,dow (Ow.box (owTree (Ow.row 121 (owFile (Ow.row 175 (Ow.frz (α:=Stmt))))))) A ⟨b25.2⟩)] a w)) ?_ ?_
   ·refine wp_block ?_
    have⟨v26,p26,h⟩:=bs p25
    obtain⟨v27,p27,h⟩:=bsW h Xm
    refine y.sqA [0,5,6,7] [(2,4),(4,5)] (λ y=>Kc ?_)
    have⟨v31,p31,h⟩:=bs h
    refine y.sqB (sP 1 (r:=by exact sc Z (xIdx Z T cI p31)<|segC)) [0,5,6,7,32] [(2,4),(4,5)] λ y=>?_
    refine y.cs h (λ _ h=>?_) λ _ h=>?_
    ·refine Kc ?_
     have⟨v38,p38,h⟩:=bs h
     refine y.nmB (s:=4) 5 [2] λ b36 y=>?_
     refine y.hdA 4 5 ((PV.root.box Z).fld owTree.f0) [2] λ g37 A37 _ hA37 y=>?_
     refine y.drnA (D:=[_,_,_,_,_]) zG 5 [[(4,nS)],[(33,0),(4,nS)],[(7,nS)],[(35,2)],[(36,3)],[(34,1),(37,4)],[(4,nS)],[(39,6),(38,5)]] [0,5,6,34,37] [(2,4),(4,5)] (λ y=>?_) (hs:=rc Z Z (xFa Z WO U)<|
       rc Z Z (xLc (sb:=4) (.head _) Z Z Z T Z)<|
       rc Z Z (oM Z T)<|
       rc Z Z (zz (l:=[.tmp 35]) Z (.cons T .nil) (zdN p38))<|
       rc Z Z (xO (opds:=[.tmp 36]) Z Z Z (.cons T .nil))<|.nil)
     refine y.mvG (s:=34) (sb:=4) 5 1 ((PV.root.box Z).fld owTree.f0) (.head _) (yv Z Z) [0,5,6,37] [2] λ y=>?_
     have y:=y.gn
     have⟨v44,p44,h⟩:=bs h
     refine y.app0 1 Z Z kE34 Z T p44 [0,5,6] Z [2,4] Z Z λ _ _ _ _ y=>?_
     have y:=y.gn
     refine y.segB 1 (sc Z (xFa Z WO (opd_hl Z))<|.nil) [0,5,6,39] [(2,4),(4,5),(38,1)] λ y=>?_
     refine y.shA 4 38 5 1 (tp Z) [0,5,6] [2] λ y=>?_
     have y:=y.gn
     refine Kb ?_
     refine za ?_
     refine wp_exit (zI (z7 ?_))
     have y:=y.unm (s:=4) 5 [2]
     refine za ?_
     exact fl h
    refine wp_skip ?_
    refine za ?_
    have⟨v53,p53,h⟩:=bs h
    refine y.nmB (s:=4) 5 [2] λ b51 y=>?_
    refine y.hdA 4 5 ((PV.root.box Z).fld owTree.f0) [2] λ g52 A52 _ hA52 y=>?_
    refine y.sqB (sc Z (xFa Z WO U)<|sc Z (xLc (sb:=4) (.head _) Z Z Z T Z)<|sc Z (xLe Z T)<|segC) [0,5,6,7,8] [(2,4),(4,5)] λ y=>?_
    have y:=y.ncf (s:=4) 5 [2]
    refine Kc ?_
    refine y.sqA [0,5,6,7,8,45] [(2,4),(4,5)] λ y=>?_
    refine y.cs h (λ _ h=>?_) λ _ h=>?_
    ·refine Kc ?_
     refine Ka ?_
     refine y.segB 1 (sc Z (yt (parts:=[]) (ns:=[1]) (zs:=zpTree) Z Z (λ w a hl=>by simp) (λ w a hl=>Tree.parts (x:=(⟨[]⟩:Tree)) Y0))<|.nil) [46] [(2,4)] λ y=>?_
     refine y.stA 2 4 FldS.id (tp Z) [] [] λ y=>?_
     refine y.segA 1 [3] [(2,4)] (λ y=>Kb ?_)
     refine za ?_
     refine wp_ret (zt (zS (zt (zt (zS (zt ?_))))))
     have h:=jo h k25
     have h:=lo h hx18
     have h:=jo h k15
     obtain rfl:=Option.some.inj h
     exact y.ret2c kT36 (y.frozen (t:=3))
    refine wp_skip ?_
    refine za ?_
    refine y.hdA 4 5 ((PV.root.box Z).fld owTree.f0) [2] λ g67 A67 c67 hA67 y=>?_
    refine y.held (λ w=>w.cell? ⟨b51,0,none⟩=some (.slice A67 (s18.2.1.files.length) c67)) zG λ _ y=>?_
    refine y.tk (i:=0) Z Z (by decide +kernel) (by decide +kernel) (by decide +kernel) (λ _ _ _ h=>h) (y.cellS (sb:=4) (.head _)) (yFa Z WO (y.st.has 4 _ Z).1) λ _ y=>?_
    refine y.tk (i:=1) Z Z (by decide +kernel) (by decide +kernel) (by decide +kernel) (λ _ _ _ h=>h) (y.cellS (sb:=4) (.head _)) (yLd Z (y.st.has 47 _ Z)) λ _ y=>?_
    refine y.tk (i:=3) Z Z (by decide +kernel) (by decide +kernel) (by decide +kernel) (λ _ _ _ h=>h) (y.cellS (sb:=4) (.head _)) (yFa Z WO (y.st.has 4 _ Z).1) λ _ y=>?_
    refine y.tk (i:=4) Z Z (by decide +kernel) (by decide +kernel) (by decide +kernel) (λ _ _ _ h=>h) (y.cellS (sb:=4) (.head _)) (yLd Z (y.st.has 50 _ Z)) λ _ y=>?_
    refine y.tM 2 8 (y.cellS (sb:=4) (.head _)) λ _ y=>?_
    refine y.tM 5 8 (y.cellS (sb:=4) (.head _)) λ _ y=>?_
    refine y.tM 9 7 (y.cellS (sb:=4) (.head _)) λ _ y=>?_
    refine y.mvN (s:=51) (sb:=4) 5 2 ((PV.root.box Z).fld owTree.f0) (.head _) Z (yv Z Z) Z Z (by simp) (by simp) (by decide) Z (λ _ h=>h) [0,5,6,7,8,45,47,48,49,50,52,56] Z [2] Z Z Z Z (by decide) λ G76 H76 y=>?_
    have⟨v77,p77,v82,p82,h⟩:=Kg h
    have⟨v91,p91,v95,p95,h⟩:=Kg h
    refine y.tkIN (i:=6) (s2:=51) (y.hkS (sb:=4)) kS34 (tp Z) (λ h=>hA67 h Z) p77 λ _ y=>?_
    refine y.tk (i:=7) Z Z (by decide +kernel) (by decide +kernel) (by decide +kernel) (λ _ _ _ h=>h) (y.hkS (sb:=4)) (yFa Z kF121_5 (y.st.has 53 _ Z)) λ _ y=>?_
    refine aH2 (i:=8) (j:=10) Z Z ?_ ?_
    ·refine y.hdA 51 2 ((PV.root.row Z (λ h=>hA67 h Z) p77).fld owFile.f5) [2,4] λ g107 A107 _ hA107 y=>?_
     refine y.segB 1 (sc Z (xLc (sb:=51) (.head _) Z Z Z T Z)<|.nil) [0,5,6,48,49,55,56] [(2,4),(4,5),(51,2)] λ y=>?_
     refine aHN (y.hkS (sb:=4)) ?_
     refine aK1 10 ?_
     refine y.segB 1 (sc Z (oK (Qy p82))<|.nil) [0,5,6,48,49,55,57] [(2,4),(4,5),(51,2)] λ y=>?_
     refine aHN (y.hkS (sb:=4)) ?_
     refine aK1 11 ?_
     refine y.segC 1 [0,5,6,48,49,55,58] [(2,4),(4,5),(51,2)] λ y=>?_
     refine aHN (y.hkS (sb:=4)) ?_
     refine aK1 12 ?_
     refine y.mvG (s:=55) (sb:=51) 2 3 ((PV.root.row Z (λ h=>hA67 h Z) p77).fld owFile.f5) (.head _) (yv Z Z) [0,5,6,48,49,58] [2,4] @λ G112 H112 y=>?_
     have y:=y.gs (Gs':=[Q,R,G112,H112,oneB Y,G76])
     refine y.tipR (s:=55) 3 (by first | (simp;done) | exact oD rfl) [2,4,51] λ g114 y=>?_
     refine y.apA 3 xq p91 [0,5,6,48,49] [2,4,51] λ g116 y=>?_
     have y:=y.gn
     refine aHN (y.hkS (sb:=4)) ?_
     refine aK1 13 ?_
     refine y.segB 1 (sc Z (xIa (g:=g67) Z kS34 T T Z (λ h=>hA67 h Z) p95)<|.nil) [0,5,6,60] [(2,4),(4,5),(51,2),(59,3)] λ y=>?_
     refine aHN (y.hkS (sb:=4)) ?_
     refine aK1 14 ?_
     refine y.segC 1 [0,5,6,61] [(2,4),(4,5),(51,2),(59,3)] λ y=>?_
     refine aHN (y.hkS (sb:=4)) ?_
     refine aK1 15 ?_
     have y:=y.tipW (s:=59) 3 [2,4,51]
     refine y.shA 51 59 2 3 (tp Z) [0,5,6] [2,4] λ y=>?_
     have y:=y.gn
     refine aHN (y.hkS (sb:=4)) ?_
     refine aK0 ?_
     refine y.stG (s:=51) (sb:=4) 5 2 Z (by simp) (by simp) (by decide) Z Z (λ _ h=>h) (λ _ h=>h) [0,5,6] Z [2] Z Z Z λ _ y=>?_
     have y:=y.gn
     refine zy ?_
     have y:=y.unm (s:=4) 5 [2]
     refine za ?_
     exact fl h
    ·refine y.segB 1 (sc Z (oK (Qy p82))<|.nil) [0,5,6,48,49,54,57] [(2,4),(4,5),(51,2)] λ y=>?_
     refine aHN (y.hkS (sb:=4)) ?_
     refine aK2 8 11 ?_ ?_
     ·refine y.hdA 51 2 ((PV.root.row Z (λ h=>hA67 h Z) p77).fld owFile.f5) [2,4] λ g128 A128 _ hA128 y=>?_
      refine y.segB 1 (sc Z (xLc (sb:=51) (.head _) Z Z Z T Z)<|.nil) [0,5,6,48,49,55,57] [(2,4),(4,5),(51,2)] λ y=>?_
      refine aHN (y.hkS (sb:=4)) ?_
      refine aK1 11 ?_
      refine y.segC 1 [0,5,6,48,49,55,58] [(2,4),(4,5),(51,2)] λ y=>?_
      refine aHN (y.hkS (sb:=4)) ?_
      refine aK1 12 ?_
      refine y.mvG (s:=55) (sb:=51) 2 3 ((PV.root.row Z (λ h=>hA67 h Z) p77).fld owFile.f5) (.head _) (yv Z Z) [0,5,6,48,49,58] [2,4] @λ G132 H132 y=>?_
      have y:=y.gs (Gs':=[Q,R,G132,H132,oneB Y,G76])
      refine y.tipR (s:=55) 3 (by first | (simp;done) | exact oD rfl) [2,4,51] λ g134 y=>?_
      refine y.apA 3 xq p91 [0,5,6,48,49] [2,4,51] λ g136 y=>?_
      have y:=y.gn
      refine aHN (y.hkS (sb:=4)) ?_
      refine aK1 13 ?_
      refine y.segB 1 (sc Z (xIa (g:=g67) Z kS34 T T Z (λ h=>hA67 h Z) p95)<|.nil) [0,5,6,60] [(2,4),(4,5),(51,2),(59,3)] λ y=>?_
      refine aHN (y.hkS (sb:=4)) ?_
      refine aK1 14 ?_
      refine y.segC 1 [0,5,6,61] [(2,4),(4,5),(51,2),(59,3)] λ y=>?_
      refine aHN (y.hkS (sb:=4)) ?_
      refine aK1 15 ?_
      have y:=y.tipW (s:=59) 3 [2,4,51]
      refine y.shA 51 59 2 3 (tp Z) [0,5,6] [2,4] λ y=>?_
      have y:=y.gn
      refine aHN (y.hkS (sb:=4)) ?_
      refine aK0 ?_
      refine y.stG (s:=51) (sb:=4) 5 2 Z (by simp) (by simp) (by decide) Z Z (λ _ h=>h) (λ _ h=>h) [0,5,6] Z [2] Z Z Z λ _ y=>?_
      have y:=y.gn
      refine zy ?_
      have y:=y.unm (s:=4) 5 [2]
      refine za ?_
      exact fl h
     ·refine y.segC 1 [0,5,6,48,49,54,58] [(2,4),(4,5),(51,2)] λ y=>?_
      refine aHN (y.hkS (sb:=4)) ?_
      refine aK1 8 ?_
      refine y.hdA 51 2 ((PV.root.row Z (λ h=>hA67 h Z) p77).fld owFile.f5) [2,4] λ g148 A148 _ hA148 y=>?_
      refine y.segB 1 (sc Z (xLc (sb:=51) (.head _) Z Z Z T Z)<|.nil) [0,5,6,48,49,55,58] [(2,4),(4,5),(51,2)] λ y=>?_
      refine aHN (y.hkS (sb:=4)) ?_
      refine aK1 12 ?_
      refine y.mvG (s:=55) (sb:=51) 2 3 ((PV.root.row Z (λ h=>hA67 h Z) p77).fld owFile.f5) (.head _) (yv Z Z) [0,5,6,48,49,58] [2,4] @λ G151 H151 y=>?_
      have y:=y.gs (Gs':=[Q,R,G151,H151,oneB Y,G76])
      refine y.tipR (s:=55) 3 (by first | (simp;done) | exact oD rfl) [2,4,51] λ g153 y=>?_
      refine y.apA 3 xq p91 [0,5,6,48,49] [2,4,51] λ g155 y=>?_
      have y:=y.gn
      refine aHN (y.hkS (sb:=4)) ?_
      refine aK1 13 ?_
      refine y.segB 1 (sc Z (xIa (g:=g67) Z kS34 T T Z (λ h=>hA67 h Z) p95)<|.nil) [0,5,6,60] [(2,4),(4,5),(51,2),(59,3)] λ y=>?_
      refine aHN (y.hkS (sb:=4)) ?_
      refine aK1 14 ?_
      refine y.segC 1 [0,5,6,61] [(2,4),(4,5),(51,2),(59,3)] λ y=>?_
      refine aHN (y.hkS (sb:=4)) ?_
      refine aK1 15 ?_
      have y:=y.tipW (s:=59) 3 [2,4,51]
      refine y.shA 51 59 2 3 (tp Z) [0,5,6] [2,4] λ y=>?_
      have y:=y.gn
      refine aHN (y.hkS (sb:=4)) ?_
      refine aK0 ?_
      refine y.stG (s:=51) (sb:=4) 5 2 Z (by simp) (by simp) (by decide) Z Z (λ _ h=>h) (λ _ h=>h) [0,5,6] Z [2] Z Z Z λ _ y=>?_
      have y:=y.gn
      refine zy ?_
      have y:=y.unm (s:=4) 5 [2]
      refine za ?_
      exact fl h
   rintro _ _ ⟨b25,rfl,⟨_,Q,R,W,X,Y,A,y⟩⟩
   have h:=jn k25
   have⟨v167,p167,h⟩:=bs h
   refine y.rgA [0,5,6] [(2,4),(4,5)] (λ y=>za ?_)
   exact fl h
  refine wp_exit (zI (zI (z7 ?_)))
  refine za ?_
  have h:=lo h hx18
  exact fl h
 rintro _ _ ⟨b15,rfl,⟨_,Q,R,W,X,Y,A,y⟩⟩
 have h:=jn k15
 refine Kc ?_
 have y:=y.frzB (s:=4) 5 [0,5] [2]
 have⟨v173,p173,v174,p174,h⟩:=Kg h
 have⟨v175,p175,v176,p176,h⟩:=Kg h
 refine y.late (D:=[_,_,_,_,_,_,_,_,_,_,_,_,_,_,_,_,_,_,Wc]) (sb:=2) 4 FldS.id zG 19 18 [[(4,nS)],[(5,nS)],[(5,nS)],[(64,2)],[(65,3)],[(63,1),(66,4)],[(67,5)],[(68,6)],[(69,7)],[(4,nS),(70,8)],[(71,9),(70,8)],[(70,8),(72,10)],[(73,11)],[(4,nS),(74,12)],[(75,13),(74,12)],[(0,nS),(74,12)],[(76,14),(77,15),(74,12)],[(74,12),(78,16)],[(2,nS),(62,0)],[(79,17)]] (by decide +kernel) (by decide) (by decide) Z (
  lc Z Z Z (zm Z T)<|
  lc Z Z Z (oM Z T)<|
  lc Z Z Z (oM Z T)<|
  lc Z Z Z (op_lenL Z kL64 T)<|
  lc Z Z Z (xAr Z T cI p173)<|
  lc Z Z Z (xIdx Z T T p174)<|
  lc Z Z Z (zm Z T)<|
  lc Z Z Z (ji Z T (zL))<|
  lc Z Z Z (oM Z T)<|
  lg Z Z Z Z (λ hg=>zm Z T)<|
  lg Z Z Z Z (λ hg=>zz (l:=[.tmp 71]) Z (.cons V .nil) (Yl (gh hg p175)))<|
  lc Z Z Z (xf Z T T)<|
  lc Z Z Z (oM Z T)<|
  lg Z Z Z Z (λ hg=>zm Z T)<|
  lg Z Z Z Z (λ hg=>zz (l:=[.tmp 75]) Z (.cons V .nil) (spec_format_w (gh hg p176)))<|
  lg Z Z Z Z (λ hg=>oM Z T)<|
  lg Z Z Z Z (λ hg=>ji Z V V)<|
  lc Z Z Z (xf Z T T)<|
  ll Z<|.nil) Z Z Z Z kT36 Z Z T Z [79] Z [] Z Z Z (λ _ _ y=>?_)
 refine y.segA 1 [3] [(2,4)] (λ y=>Kb ?_)
 refine za ?_
 refine wp_ret ?_
 obtain rfl:=Option.some.inj h
 exact y.ret2c kT36 (y.frozen (t:=3))
def j9(x0:List Str)(s5:Str×Int):Option ((Str×Int)⊕Str):=
if(cmpI .lss s5.2 (x0.length:Int))=true then(Option.bind (α:=Str) (if cmpI .gtr s5.2 0 then((catO s5.1 (⟨[32]⟩:Str)).bind λ v14=>
some v14)
else(some s5.1)) λ o10=>
(atI x0 s5.2).bind λ v18=>
(catO o10 v18).bind λ v19=>
(i64 (s5.2+(1:Int))).bind λ v23=>
some (.inl (v19,v23)))
else(some (.inr s5.1))
def Zl(x0:List Str):Option Str:=
Option.bind (α:=Str) (zR (λ s5=>j9 x0 s5) ((⟨[]⟩:Str),(0:Int))) λ o3=>
some o3
theorem zcm{x0:List Str}(h:Zl x0=some r):Fn prog 119 [dt x0] (dt r):=by
 unfold Zl at h
 refine fnx (fn:=f119) 0 func119 Z Z λ M w0 _ j=>?_
 refine j.sq1 [0] λ j=>?_
 refine j.sq1 [0,3] λ j=>?_
 have⟨o3,p3,k3⟩:=bs h
 refine zV (λ a w=>Sx (Frm.of w0) 22 M M [] [(3,dt o3)] [] a w) ?_ ?_
 ·refine j.sq1 [0,3,4] (λ j=>wp_block ?_)
  refine yV p3 (λ s5 a w=>Sx (Frm.of w0) 22 M M [] [(0,dt x0),(3,dt s5.1),(4,dt s5.2)] [] a w) (j.sel0 [0,3,4]) ?_
  rintro s5 z5 _ _ j hs5 hx5
  have h:j9 x0 s5=some z5:=hs5
  unfold j9 at h
  refine Kc ?_
  refine j.sq1 [0,3,4,8] λ j=>?_
  refine j.cs h (λ _ h=>?_) λ _ h=>?_
  ·refine wp_skip ?_
   refine za ?_
   refine Kc ?_
   refine wp_block ?_
   have⟨o10,p10,k10⟩:=bs h
   refine zV (λ a w=>Sx (Frm.of w0) 22 M M [] [(0,dt x0),(3,dt o10),(4,dt s5.2)] [] a w) ?_ ?_
   ·refine j.sq1 [0,3,4,12] λ j=>?_
    refine j.cs p10 (λ _ h=>?_) λ _ h=>?_
    ·have⟨v14,p14,h⟩:=bs h
     refine j.rg2 (sP 1 (r:=by exact sc Z (xCat Z T (zL) p14)<|segC)) [0,3,4] (λ j=>za ?_)
     obtain rfl:=Option.some.inj h
     exact j.sel0 [0,3,4]
    refine wp_skip ?_
    refine za ?_
    obtain rfl:=Option.some.inj h
    exact j.sel0 [0,3,4]
   rintro _ _ j
   have h:=k10
   have⟨v18,p18,v19,p19,h⟩:=Kg h
   refine j.rg1 [0,3,4] (λ j=>zy ?_)
   refine za ?_
   have⟨v23,p23,h⟩:=bs h
   refine j.rg1 [0,3,4] (λ j=>za ?_)
   exact⟨_,(Option.some.inj h).symm,j.sel0 [0,3,4]⟩
  refine wp_exit (zI (zI (z7 ?_)))
  refine za ?_
  have h:=lo h hx5
  obtain rfl:=Option.some.inj h
  exact j.sel0 [3]
 rintro _ _ j
 have h:=k3
 refine j.sq1 [2] (λ j=>wp_ret ?_)
 exact j.ret Z Z h
def Zy(x0:Int):Option Str:=
(atI ([(⟨[110,111,110,101]⟩:Str),(⟨[109,111,100,117,108,101]⟩:Str),(⟨[112,97,99,107,97,103,101]⟩:Str),(⟨[115,112,97,99,101]⟩:Str)]:List Str) x0).bind λ v2=>
some v2
theorem zdO{x0:Int}(h:Zy x0=some r):Fn prog 122 [dt x0] (dt r):=by
 unfold Zy at h
 refine fnx (fn:=f122) 0 func122 Z Z λ M _ _ j=>?_
 refine j.sq1 [0] λ j=>?_
 have⟨v2,p2,h⟩:=bs h
 refine j.sq2 (sc Z (xO (opds:=[_,_,_,_]) Z Z Z (.cons (zL) (.cons (zL) (.cons (zL) (.cons (zL) .nil)))))<|segC) [2] (λ j=>wp_ret ?_)
 exact j.ret Z Z h
def m_spec_endWords:Option (List Str):=
some ([(⟨[100,111,110,101]⟩:Str),(⟨[109,105,115,115,105,110,103]⟩:Str),(⟨[97,116,116,114]⟩:Str),(⟨[110,97,109,101]⟩:Str),(⟨[102,97,105,108]⟩:Str),(⟨[114,101,108,97,116,105,118,101]⟩:Str),(⟨[102,117,101,108]⟩:Str)]:List Str)
theorem zdP{r:List Str}(h:m_spec_endWords=some r):Fn prog 124 [] (dt r):=by
 unfold m_spec_endWords at h
 refine fnx (fn:=f124) 0 func124 Z Z λ M _ _ j=>?_
 refine j.sq2 (sc Z (oA Z (qE (α:=Str)))<|.nil) [] λ j=>?_
 refine j.sq2 (sc Z (xO (opds:=[_,_,_,_,_,_,_]) Z Z Z (.cons (zL) (.cons (zL) (.cons (zL) (.cons (zL) (.cons (zL) (.cons (zL) (.cons (zL) .nil))))))))<|segC) [0] (λ j=>wp_ret ?_)
 exact j.ret Z Z h
def qy(R:Rec)(x0:Tree)(x1:List Int)(x2:Str):Option Str:=
if(decide (x2=(⟨[110,97,109,101,115]⟩:Str)))=true then((ZR x0 x1).bind λ v7=>
(yX v7 (⟨[32]⟩:Str)).bind λ v8=>
some v8)
else(if(decide (x2=(⟨[102,105,108,101,115]⟩:Str)))=true then((yJ (x0.files.length:Int)).bind λ v15=>
some v15)
else((wV x2 (⟨[32]⟩:Str)).bind λ v18=>
(zZ v18.2.1).bind λ v21=>
if(!v21)=true then(some (⟨[119,104,97,116]⟩:Str))
else(if(decide (v18.1=(⟨[102,105,110,100]⟩:Str)))=true then((jl x0 x1 v18.2.1).bind λ v36=>
(atI gkinds v36.kind).bind λ v39=>
some v39)
else(if(decide (v18.1=(⟨[105,109,112,111,114,116]⟩:Str)))=true then((jE R x0 x1 v18.2.1).bind λ v53=>
(atI gends v53.1).bind λ v56=>
some v56)
else(if(decide (v18.1=(⟨[111,114,100,101,114]⟩:Str)))=true then((qX R x0 x1 v18.2.1).bind λ v62=>
(yX v62 (⟨[32]⟩:Str)).bind λ v63=>
some v63)
else(some (⟨[119,104,97,116]⟩:Str)))))))
theorem impl_answer_w(hR:R.ok){x0:Tree}{x2:Str}(h:qy R x0 x1 x2=some r):Fn prog 80 [dt x0,dt x1,wg (dt x2)] (dt r):=by
 unfold qy at h
 refine fnx (fn:=f80) 0 func80 Z Z λ M _ _ j=>?_
 have j:=j.glb (s:=2) (g:=66)
 refine j.sq1 [1,2,3,66] (λ j=>Kc ?_)
 refine j.sq1 [1,2,3,12,66] (λ j=>wp_block ?_)
 refine j.sq1 [1,2,3,12,13,66] λ j=>?_
 refine j.cs h (λ _ h=>?_) λ _ h=>?_
 ·have⟨v7,p7,h⟩:=bs h
  have⟨v8,p8,h⟩:=bs h
  refine j.sq2 (sP 2 (r:=by exact sc Z (zz (l:=[.tmp 15,.tmp 16]) Z (.cons T (.cons T .nil)) ((zca p7)).fn)<|sc Z (oK (ZZ p8))<|segC)) [6,66] (λ j=>wp_ret (zS (zt ?_)))
  exact j.ret Z Z h
 refine j.sq1 [1,2,3,19,66] λ j=>?_
 refine j.cs h (λ _ h=>?_) λ _ h=>?_
 ·obtain⟨v15,p15,h⟩:=bsW h Q3
  refine j.sq1 [6,66] (λ j=>wp_ret (zS (zt ?_)))
  exact j.ret Z Z h
 refine wp_skip ?_
 refine zy ?_
 refine za ?_
 have⟨v18,p18,h⟩:=bs h
 refine j.sq2 (sc Z (oM Z T)<|
  sc Z (zz (l:=[.tmp 26,_]) Z (.cons T (.cons (zL) .nil)) (za3 p18))<|
  sc Z (oM Z T)<|
  sc Z (xExt (i:=0) Z T Z)<|
  sc Z (xExt (i:=1) Z T Z)<|
  sc Z (xExt (i:=2) Z T Z)<|
  sc Z (oA Z T)<|
  sc Z (oA Z T)<|
  sc Z (oA Z T)<|.nil) [1,3,7,8,66] (λ j=>?_)
 refine Kc ?_
 obtain⟨v21,p21,h⟩:=bsW h xa
 refine j.sq1 [1,3,7,8,33,66] λ j=>?_
 refine j.cs h (λ _ h=>?_) λ _ h=>?_
 ·refine j.sq2 (sc Z (oA Z (zL))<|.nil) [6,66] (λ j=>wp_ret (zt ?_))
  exact j.ret Z Z h
 refine wp_skip ?_
 refine za ?_
 refine Kc ?_
 refine j.sq1 [1,3,8,34,66] (λ j=>wp_block ?_)
 refine j.sq2 (sc Z (ji Z T (zL))<|
  sc Z (oA Z T)<|.nil) [1,3,8,34,35,66] (λ j=>?_)
 refine j.cs h (λ _ h=>?_) λ _ h=>?_
 ·refine Kc ?_
  refine j.heldF zG λ _ _ hz31 j=>?_
  refine j.tkLp (i:=0) Z Z (j.fzS (g:=65)) hz31 Z kT64 (opd_gK (s:=66) Z) λ _ j=>?_
  refine j.tkLp (i:=1) Z Z (j.fzS (g:=65)) hz31 Z kT36 (tp Z) λ _ j=>?_
  refine j.tM 2 1 (j.fzS (g:=65)) λ _ j=>?_
  refine j.tM 3 8 (j.fzS (g:=65)) λ _ j=>?_
  obtain⟨v36,p36,h⟩:=bsW h X9
  have⟨v39,p39,h⟩:=bs h
  refine aK1 4 ?_
  refine j.segA 1 [37,41,65,66] [] λ j=>?_
  refine aHN (j.fzS (g:=65)) ?_
  refine aK1 5 ?_
  refine j.segB 1 (sc Z (Wr Spec.fld0 Z Z zb8 T)<|.nil) [37,42,65,66] [] λ j=>?_
  refine aHN (j.fzS (g:=65)) ?_
  refine aK1 6 ?_
  refine j.segB 1 (sc Z (xIdx Z T T p39)<|.nil) [43,65,66] [] λ j=>?_
  refine aHN (j.fzS (g:=65)) ?_
  refine aK1 7 ?_
  refine j.segA 1 [44,65,66] [] λ j=>?_
  refine aHN (j.fzS (g:=65)) ?_
  refine aK1 8 ?_
  refine j.segA 1 [6,65,66] [] λ j=>?_
  refine aHN (j.fzS (g:=65)) ?_
  refine aK0 ?_
  refine za ?_
  refine wp_ret (zS (zt ?_))
  exact j.ret Z Z h
 refine j.sq2 (sc Z (ji Z T (zL))<|
  sc Z (oA Z T)<|.nil) [1,3,8,34,45,66] (λ j=>?_)
 refine j.cs h (λ _ h=>?_) λ _ h=>?_
 ·have⟨v53,p53,h⟩:=bs h
  refine j.sq2 (sc Z (zm Z T)<|
   sc Z (oM Z T)<|
   sc Z (oM Z T)<|
   sc Z (zz (l:=[.tmp 48,.tmp 49,.tmp 50]) Z (.cons T (.cons T (.cons T .nil))) (FnN.fn2<|zc0 hR p53))<|
   sc Z (oM Z T)<|
   sc Z (xExt (i:=0) Z T Z)<|
   sc Z (xExt (i:=1) Z T Z)<|
   sc Z (oA Z T)<|
   sc Z (oA Z T)<|.nil) [10,66] (λ j=>?_)
  have⟨v56,p56,h⟩:=bs h
  refine j.sq2 (sc Z (zm Z (opd_gE (s:=66) Z))<|
   sc Z (oM Z T)<|
   sc Z (xIdx Z T T p56)<|
   sc Z (zm Z T)<|
   sc Z (oA Z T)<|.nil) [6,66] (λ j=>?_)
  refine wp_ret (zS (zt ?_))
  exact j.ret Z Z h
 refine j.sq2 (sc Z (ji Z T (zL))<|
  sc Z (oA Z T)<|.nil) [1,3,8,58,66] (λ j=>?_)
 refine j.cs h (λ _ h=>?_) λ _ h=>?_
 ·have⟨v62,p62,h⟩:=bs h
  have⟨v63,p63,h⟩:=bs h
  refine j.sq2 (sP 3 (r:=by exact sc Z (oK (FnN.fn<|zcZ hR p62))<|sc Z (oK (ZZ p63))<|segC)) [6,66] (λ j=>wp_ret (zS (zt ?_)))
  exact j.ret Z Z h
 refine wp_skip ?_
 refine zy ?_
 refine za ?_
 refine j.sq2 (sc Z (oA Z (zL))<|.nil) [6,66] (λ j=>wp_ret ?_)
 exact j.ret Z Z h
def xk(R:Rec)(x1:List Int)(x2:List Str)(v9:Tree×Bool)(s20:Str×Int):Option ((Str×Int)⊕Str):=
if(cmpI .lss s20.2 (x2.length:Int))=true then(Option.bind (α:=Str) ((atI x2 s20.2).bind λ v26=>
if v9.2=true then((qy R v9.1 x1 v26).bind λ v32=>
(catO v32 (⟨[10]⟩:Str)).bind λ v33=>
(catO s20.1 v33).bind λ v34=>
some v34)
else((catO s20.1 (⟨[119,114,111,110,103,10]⟩:Str)).bind λ v39=>
some v39)) λ o25=>
(i64 (s20.2+(1:Int))).bind λ v43=>
some (.inl (o25,v43)))
else(some (.inr s20.1))
def Yb(R:Rec)(x0:Str)(x1:List Int)(x2:List Str):Option Str:=
(gO (cmpI .gtr (x2.length:Int) 20 == false) (wP x1)).bind λ v3=>
if(cmpI .gtr (x2.length:Int) 20||(!v3))=true then(some (⟨[]⟩:Str))
else((jG x0).bind λ v9=>
Option.bind (α:=Str) (zR (λ s20=>xk R x1 x2 v9 s20) ((⟨[]⟩:Str),(0:Int))) λ o18=>
some o18)
theorem zeb(hR:R.ok)(h:Yb R x0 x1 x2=some r):Fn prog 37 [wg (dt x0),dt x1,dt x2] (dt r):=by
 unfold Yb at h
 refine fnx (fn:=f37) 1 func37 Z Z λ M w0 _ j=>?_
 have j:=j.glb (s:=0) (g:=44)
 refine j.sq1 [0,1,2,44] (λ j=>Kc ?_)
 have⟨v3,p3,h⟩:=bs h
 refine j.sq2 (sP 5 (r:=by exact sg Z Z (λ hg=>oK (Yi (gh hg p3)))<|segC)) [0,1,2,19,44] λ j=>?_
 refine j.cs h (λ _ h=>?_) λ _ h=>?_
 ·refine j.sq1 [6,44] (λ j=>wp_ret (zt ?_))
  exact j.ret Z Z h
 refine wp_skip ?_
 refine za ?_
 refine Kc ?_
 refine Ka ?_
 have⟨v9,p9,h⟩:=bs h
 refine j.segB 5 (sc Z (oM Z T)<|
  sc Z (zz (l:=[.tmp 21]) Z (.cons (zcY (s:=44) Z T) .nil) (zc3 p9))<|
  sc Z (oM Z T)<|
  sc Z (xExt (i:=0) Z T Z)<|
  sc Z (xExt (i:=1) Z T Z)<|.nil) [1,2,23,24,44] [] (λ j=>?_)
 refine j.alloc 0 Z Z kZ36 zrTree (by simp) [1,2,23,24,44] Z [] Z Z λ b13 _ _ _ j=>?_
 refine j.stA 7 0 FldS.id (tp Z) [1,2,24,44] [] λ j=>?_
 refine j.segA 1 [1,2,8,44] [(7,0)] (λ j=>Kb ?_)
 refine za ?_
 refine j.sqB (sc Z (oA Z (zL))<|.nil) [1,2,8,9,44] [(7,0)] λ j=>?_
 have⟨o18,p18,k18⟩:=bs h
 refine zV (λ a w=>∃ M1 Q,Sx (Frm.of w0) 43 M M1 [oneB Q] [(9,dt o18),(44,dgl)] [] a w) ?_ ?_
 ·refine j.sqA [1,8,9,25,26,27,44] [(7,0)] (λ j=>wp_block ?_)
  refine yV p18 (λ s20 a w=>∃ M1 Q,Sx (Frm.of w0) 43 M M1 [oneB Q] [(1,dt x1),(8,dt v9.2),(9,dt s20.1),(25,dt x2),(26,dt (x2.length:Int)),(27,dt s20.2),(44,dgl)] [(7,0,dbox Q 0 v9.1)] a w) fx ?_
  rintro s20 z20 _ _ ⟨_,Q,j⟩ hs20 hx20
  have h:xk R x1 x2 v9 s20=some z20:=hs20
  unfold xk at h
  refine j.sqA [1,8,9,25,26,27,28,44] [(7,0)] (λ j=>Kc ?_)
  refine j.cs h (λ _ h=>?_) λ _ h=>?_
  ·refine wp_skip ?_
   refine za ?_
   have⟨o25,p25,k25⟩:=bs h
   refine zV (λ a w=>∃ M1 Q,Sx (Frm.of w0) 43 M M1 [oneB Q] [(1,dt x1),(8,dt v9.2),(9,dt o25),(25,dt x2),(26,dt (x2.length:Int)),(27,dt s20.2),(44,dgl)] [(7,0,dbox Q 0 v9.1)] a w) ?_ ?_
   ·refine wp_block ?_
    have⟨v26,p26,h⟩:=bs p25
    refine j.sqB (sc Z (xIdx Z T T p26)<|
      sc Z (zm Z T)<|
      sc Z (oA Z T)<|.nil) [1,8,9,11,25,26,27,44] [(7,0)] (λ j=>?_)
    refine j.sqB (sc Z (oM Z T)<|.nil) [1,8,9,11,25,26,27,31,44] [(7,0)] λ j=>?_
    refine j.cs h (λ _ h=>?_) λ _ h=>?_
    ·have⟨v32,p32,h⟩:=bs h
     have⟨v33,p33,v34,p34,h⟩:=Kg h
     refine j.rgB (sc Z (oM Z T)<|
       sc Z (yb Z T)<|
       sc Z (oM Z T)<|
       sc Z (oM Z T)<|
       sc Z (zz (l:=[.tmp 33,.tmp 34,.tmp 35]) Z (.cons T (.cons T (.cons (zcY (s:=44) Z T) .nil))) (impl_answer_w hR p32))<|
       sc Z (xCat Z T (zL) p33)<|
       sc Z (xCat Z T T p34)<|
       sc Z (oA Z T)<|.nil) [1,8,9,25,26,27,44] [(7,0)] (λ j=>?_)
     refine zy ?_
     refine za ?_
     cases h
     exact fx
    have⟨v39,p39,h⟩:=bs h
    refine j.rgB (sP 1 (r:=by exact sc Z (xCat Z T (zL) p39)<|segC)) [1,8,9,25,26,27,44] [(7,0)] (λ j=>zy ?_)
    refine za ?_
    cases h
    exact fx
   rintro _ _ ⟨_,Q,j⟩
   have h:=k25
   have⟨v43,p43,h⟩:=bs h
   refine j.rgA [1,8,9,25,26,27,44] [(7,0)] (λ j=>za ?_)
   exact fl h
  refine wp_exit (zI (zI (z7 ?_)))
  refine za ?_
  have h:=lo h hx20
  cases h
  exact fx
 rintro _ _ ⟨_,Q,j⟩
 have h:=k18
 refine j.sq1 [6,44] (λ j=>wp_ret ?_)
 exact j.ret Z Z h
def ZK(R:Rec)(x0:Tree)(x1:List Int)(x2:Str):Option Str:=
(xv x2 (UInt8.ofNat 32)).bind λ v2=>
if(decide (x2=(⟨[110,97,109,101,115]⟩:Str)))=true then((qj x0 x1).bind λ v8=>
(Zl v8).bind λ v9=>
some v9)
else(if(decide (x2=(⟨[102,105,108,101,115]⟩:Str)))=true then((wu 4 (x0.files.length:Int)).bind λ v16=>
some v16)
else((gO (cmpI .neq (v2.length:Int) 2 == false) (atI v2 1)).bind λ v19=>
(gO (cmpI .neq (v2.length:Int) 2 == false) (yx v19)).bind λ v20=>
if(cmpI .neq (v2.length:Int) 2||(!v20))=true then(some (⟨[119,104,97,116]⟩:Str))
else((atI v2 0).bind λ v27=>
if(decide (v27=(⟨[102,105,110,100]⟩:Str)))=true then((atI v2 1).bind λ v32=>
(Y4 x0 x1 v32).bind λ v33=>
(Zy v33.kind).bind λ v34=>
some v34)
else((atI v2 0).bind λ v39=>
if(decide (v39=(⟨[105,109,112,111,114,116]⟩:Str)))=true then((m_spec_endWords).bind λ v44=>
(atI v2 1).bind λ v45=>
(XD R x0 x1 ([v45]:List Str)).bind λ v46=>
(atI v44 v46.fin).bind λ v47=>
some v47)
else((atI v2 0).bind λ v53=>
if(decide (v53=(⟨[111,114,100,101,114]⟩:Str)))=true then((atI v2 1).bind λ v58=>
(q6 R x0 x1 v58).bind λ v59=>
(Zl v59).bind λ v60=>
some v60)
else(some (⟨[119,104,97,116]⟩:Str)))))))
theorem spec_answer_w(hR:R.ok){x0:Tree}{x2:Str}(h:ZK R x0 x1 x2=some r):Fn prog 78 [dt x0,dt x1,dt x2] (dt r):=by
 unfold ZK at h
 refine fnx (fn:=f78) 0 func78 Z Z λ M _ _ j=>?_
 refine j.sq1 [1,2,3] λ j=>?_
 obtain⟨v2,p2,h⟩:=bsW h Xm
 refine j.sq1 [1,2,3,7] (λ j=>Kc ?_)
 refine wp_block ?_
 refine j.sq1 [1,2,3,7,10] λ j=>?_
 refine j.cs h (λ _ h=>?_) λ _ h=>?_
 ·obtain⟨v8,p8,h⟩:=bsW h W8
  obtain⟨v9,p9,h⟩:=bsW h zcm
  refine j.sq1 [6] (λ j=>wp_ret (zS (zt ?_)))
  exact j.ret Z Z h
 refine j.sq1 [1,3,7,17] λ j=>?_
 refine j.cs h (λ _ h=>?_) λ _ h=>?_
 ·have⟨v16,p16,h⟩:=bs h
  refine j.sq2 (sP 3 (r:=by exact sc Z (oK (wR _ p16))<|segC)) [6] (λ j=>wp_ret (zS (zt ?_)))
  exact j.ret Z Z h
 have⟨v19,p19,v20,p20,h⟩:=Kg h
 refine j.sq2 (sP 5 (r:=by exact sg Z Z (λ hg=>xIdx Z V cI (gh hg p19))<|sP 1 (r:=by exact sg Z Z (λ hg=>oK (qV (gh hg p20)))<|segC))) [1,3,7,24] λ j=>?_
 refine j.cs h (λ _ h=>?_) λ _ h=>?_
 ·refine j.sq1 [6] (λ j=>wp_ret (zS (zt ?_)))
  exact j.ret Z Z h
 have⟨v27,p27,h⟩:=bs h
 refine j.sq2 (sP 1 (r:=by exact sc Z (xIdx Z T cI p27)<|segC)) [1,3,7,35] λ j=>?_
 refine j.cs h (λ _ h=>?_) λ _ h=>?_
 ·refine Kc ?_
  have⟨v32,p32,v33,p33,h⟩:=Kg h
  have⟨v34,p34,h⟩:=bs h
  refine j.drA (D:=[_,_,_,_,_,_,_,_,_]) zG [[(3,nS)],[(1,nS)],[(7,nS)],[(42,2)],[(43,3)],[(40,0),(41,1),(44,4)],[(45,5)],[(46,6)],[(47,7)]] [6] [] (λ j=>?_) (hs:=rc Z Z (zm Z T)<|
   rc Z Z (oM Z T)<|
   rc Z Z (oM Z T)<|
   rc Z Z (xIdx Z T cI p32)<|
   rc Z Z (zm Z T)<|
   rc Z Z (zz (l:=[.tmp 40,.tmp 41,.tmp 44]) Z (.cons T (.cons T (.cons T .nil))) (zdr p33))<|
   rc Z Z (Wr Spec.fld0 Z Z zb8 T)<|
   rc Z Z (zz (l:=[.tmp 46]) Z (.cons T .nil) (zdO p34))<|
   rc Z Z (oA Z T)<|.nil)
  refine za ?_
  refine wp_ret (zS (zt ?_))
  exact j.ret Z Z h
 have⟨v39,p39,h⟩:=bs h
 refine j.sq2 (sP 1 (r:=by exact sc Z (xIdx Z T cI p39)<|segC)) [1,3,7,48] λ j=>?_
 refine j.cs h (λ _ h=>?_) λ _ h=>?_
 ·refine Kc ?_
  have⟨v44,p44,v45,p45,h⟩:=Kg h
  have⟨v46,p46,v47,p47,h⟩:=Kg h
  refine j.drA (D:=[_,_,_,_,_,_,_,_,_,_,_,_,_,_]) zG [[],[(3,nS)],[(1,nS)],[(7,nS)],[(56,3)],[(57,4)],[(58,5)],[(54,1),(55,2),(59,6)],[(60,7)],[(61,8)],[(62,9)],[(53,0),(63,10)],[(64,11)],[(65,12)]] [6] [] (λ j=>?_) (hs:=rc Z Z (zz (l:=[]) Z .nil (zdP p44))<|
   rc Z Z (zm Z T)<|
   rc Z Z (oM Z T)<|
   rc Z Z (oM Z T)<|
   rc Z Z (xIdx Z T cI p45)<|
   rc Z Z (zm Z T)<|
   rc Z Z (xO (opds:=[.tmp 58]) Z Z Z (.cons T .nil))<|
   rc Z Z (OpRel.bx (zz (l:=[.tmp 54,.tmp 55,.tmp 59]) Z (.cons T (.cons T (.cons T .nil))) (FnN.fn<|zd9 hR p46)))<|
   rc Z Z (xNcP Z T)<|
   rc Z Z (zJ Runner.fld5 Z T)<|
   rc Z Z (zm Z T)<|
   rc Z Z (xIdx Z T T p47)<|
   rc Z Z (zm Z T)<|
   rc Z Z (oA Z T)<|.nil)
  refine za ?_
  refine wp_ret (zS (zt ?_))
  exact j.ret Z Z h
 have⟨v53,p53,h⟩:=bs h
 refine j.sq2 (sP 1 (r:=by exact sc Z (xIdx Z T cI p53)<|segC)) [1,3,7,66] λ j=>?_
 refine j.cs h (λ _ h=>?_) λ _ h=>?_
 ·refine Kc ?_
  have⟨v58,p58,v59,p59,h⟩:=Kg h
  have⟨v60,p60,h⟩:=bs h
  refine j.drA (D:=[_,_,_,_,_,_,_,_]) zG [[(3,nS)],[(1,nS)],[(7,nS)],[(73,2)],[(74,3)],[(71,0),(72,1),(75,4)],[(76,5)],[(77,6)]] [6] [] (λ j=>?_) (hs:=rc Z Z (zm Z T)<|
   rc Z Z (oM Z T)<|
   rc Z Z (oM Z T)<|
   rc Z Z (xIdx Z T cI p58)<|
   rc Z Z (zm Z T)<|
   rc Z Z (zz (l:=[.tmp 71,.tmp 72,.tmp 75]) Z (.cons T (.cons T (.cons T .nil))) ((zc2 hR p59)).fn)<|
   rc Z Z (zz (l:=[.tmp 76]) Z (.cons T .nil) (zcm p60))<|
   rc Z Z (oA Z T)<|.nil)
  refine za ?_
  refine wp_ret (zS (zt ?_))
  exact j.ret Z Z h
 refine wp_skip ?_
 refine zy ?_
 refine za ?_
 refine j.sq1 [6] (λ j=>wp_ret ?_)
 exact j.ret Z Z h
def xl(R:Rec)(x1:List Int)(x2:List Str)(v8:Tree×Bool)(s19:Str×Int):Option ((Str×Int)⊕Str):=
if(cmpI .lss s19.2 (x2.length:Int))=true then(Option.bind (α:=Str) (if v8.2=true then((atI x2 s19.2).bind λ v28=>
(ZK R v8.1 x1 v28).bind λ v29=>
(catO s19.1 v29).bind λ v30=>
(catO v30 (⟨[10]⟩:Str)).bind λ v31=>
some v31)
else((catO s19.1 (⟨[119,114,111,110,103,10]⟩:Str)).bind λ v37=>
some v37)) λ o24=>
(i64 (s19.2+(1:Int))).bind λ v41=>
some (.inl (o24,v41)))
else(some (.inr s19.1))
def Yc(R:Rec)(x0:Str)(x1:List Int)(x2:List Str):Option Str:=
(gO (cmpI .gtr (x2.length:Int) 20 == false) (xH x1)).bind λ v2=>
if(cmpI .gtr (x2.length:Int) 20||(!v2))=true then(some (⟨[]⟩:Str))
else((qq x0).bind λ v8=>
Option.bind (α:=Str) (zR (λ s19=>xl R x1 x2 v8 s19) ((⟨[]⟩:Str),(0:Int))) λ o17=>
some o17)
theorem zec(hR:R.ok)(h:Yc R x0 x1 x2=some r):Fn prog 35 [dt x0,dt x1,dt x2] (dt r):=by
 unfold Yc at h
 refine fnx (fn:=f35) 1 func35 Z Z λ M w0 _ j=>?_
 refine j.sq1 [0,1,2] (λ j=>Kc ?_)
 have⟨v2,p2,h⟩:=bs h
 refine j.sq2 (sP 5 (r:=by exact sg Z Z (λ hg=>oK (Ym (gh hg p2)))<|segC)) [0,1,2,18] λ j=>?_
 refine j.cs h (λ _ h=>?_) λ _ h=>?_
 ·refine j.sq1 [6] (λ j=>wp_ret (zt ?_))
  exact j.ret Z Z h
 refine wp_skip ?_
 refine za ?_
 refine Kc ?_
 refine Ka ?_
 obtain⟨v8,p8,h⟩:=bsW h spec_parse_w
 refine j.segA 5 [1,2,22,23] [] λ j=>?_
 refine j.alA 0 zrTree [1,2,22,23] [] λ b12 j=>?_
 refine j.stA 7 0 FldS.id (tp Z) [1,2,23] [] λ j=>?_
 refine j.segA 1 [1,2,8] [(7,0)] (λ j=>Kb ?_)
 refine za ?_
 refine j.sqA [1,2,8,9] [(7,0)] λ j=>?_
 have⟨o17,p17,k17⟩:=bs h
 refine zV (λ a w=>∃ M1 Q,Sx (Frm.of w0) 44 M M1 [oneB Q] [(9,dt o17)] [] a w) ?_ ?_
 ·refine j.sqA [1,2,8,9,10] [(7,0)] (λ j=>wp_block ?_)
  refine yV p17 (λ s19 a w=>∃ M1 Q,Sx (Frm.of w0) 44 M M1 [oneB Q] [(1,dt x1),(2,dt x2),(8,dt v8.2),(9,dt s19.1),(10,dt s19.2)] [(7,0,dbox Q 0 v8.1)] a w) fx ?_
  rintro s19 z19 _ _ ⟨_,Q,j⟩ hs19 hx19
  have h:xl R x1 x2 v8 s19=some z19:=hs19
  unfold xl at h
  refine Kc ?_
  refine j.sqA [1,2,8,9,10,27] [(7,0)] λ j=>?_
  refine j.cs h (λ _ h=>?_) λ _ h=>?_
  ·refine wp_skip ?_
   refine za ?_
   have⟨o24,p24,k24⟩:=bs h
   refine zV (λ a w=>∃ M1 Q,Sx (Frm.of w0) 44 M M1 [oneB Q] [(1,dt x1),(2,dt x2),(8,dt v8.2),(9,dt o24),(10,dt s19.2)] [(7,0,dbox Q 0 v8.1)] a w) ?_ ?_
   ·refine wp_block ?_
    refine j.sqA [1,2,8,9,10,30] [(7,0)] λ j=>?_
    refine j.cs p24 (λ _ h=>?_) λ _ h=>?_
    ·have⟨v28,p28,h⟩:=bs h
     have⟨v29,p29,v30,p30,h⟩:=Kg h
     have⟨v31,p31,h⟩:=bs h
     refine j.drA (D:=[_,_,_,_,_,_,_,_,_,_,_]) zG [[(9,nS)],[(7,nS)],[(1,nS)],[(2,nS)],[(10,nS)],[(34,3),(35,4)],[(36,5)],[(32,1),(33,2),(37,6)],[(31,0),(38,7)],[(39,8)],[(40,9)]] [1,2,8,9,10] [(7,0)] (λ j=>?_) (hs:=rc Z Z (oM Z T)<|
       rc Z Z (yb Z T)<|
       rc Z Z (oM Z T)<|
       rc Z Z (oM Z T)<|
       rc Z Z (oM Z T)<|
       rc Z Z (xIdx Z T T p28)<|
       rc Z Z (zm Z T)<|
       rc Z Z (zz (l:=[.tmp 32,.tmp 33,.tmp 37]) Z (.cons T (.cons T (.cons T .nil))) (spec_answer_w hR p29))<|
       rc Z Z (xCat Z T T p30)<|
       rc Z Z (xCat Z T (zL) p31)<|
       rc Z Z (oA Z T)<|.nil)
     refine zy ?_
     refine za ?_
     cases h
     exact fx
    have⟨v37,p37,h⟩:=bs h
    refine j.rgB (sP 1 (r:=by exact sc Z (xCat Z T (zL) p37)<|segC)) [1,2,8,9,10] [(7,0)] (λ j=>zy ?_)
    refine za ?_
    cases h
    exact fx
   rintro _ _ ⟨_,Q,j⟩
   have h:=k24
   have⟨v41,p41,h⟩:=bs h
   refine j.rgA [1,2,8,9,10] [(7,0)] (λ j=>za ?_)
   exact fl h
  refine wp_exit (zI (zI (z7 ?_)))
  refine za ?_
  have h:=lo h hx19
  cases h
  exact fx
 rintro _ _ ⟨_,Q,j⟩
 have h:=k17
 refine j.sq1 [6] (λ j=>wp_ret ?_)
 exact j.ret Z Z h
end Go.Proofs.YtbbfcjifihknnaaGreatDoor
