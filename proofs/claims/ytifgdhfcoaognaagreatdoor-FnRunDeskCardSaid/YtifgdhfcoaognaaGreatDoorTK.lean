import Derived.Test.YtifgdhfcoaognaaGreatDoorTO
import Derived.Test.YtifgdhfcoaognaaGreatDoorTB
import Derived.Test.YtifgdhfcoaognaaGreatDoorTN
import Derived.Test.YtifgdhfcoaognaaGreatDoorTQ
import Derived.Test.YtifgdhfcoaognaaGreatDoorTH
import Derived.Test.YtifgdhfcoaognaaGreatDoorTFb
namespace Go.Proofs.YtifgdhfcoaognaaGreatDoor
open Go.RowKit Tryz
attribute [local irreducible] OpRel OpdR
set_option maxRecDepth 10000
set_option maxHeartbeats 1600000
abbrev oTr:=owTree (Ow.row 71 (owFile (Ow.row 74 (Ow.frz (α:=Stmt)))))
variable{x1:List Int}{x2:List Str}{R:Rec}{r x0:Str}
theorem kN32:fnB prog 32=true:=by kernel_rfl
theorem kN59:fnB prog 59=true:=by kernel_rfl
theorem kN60:fnB prog 60=true:=by kernel_rfl
theorem zcp:∀ {M:Nat->Prop} {look:Nat->Option Dt} {o:Oper} {q0 q1 q2 q3 q4 q5:Operand} {y0:Int} {y1:Str} {y2:Str} {y3:Bool} {y4:Int} {y5:Nil0},o.op=.build 71 #[(0,q0),(1,q1),(2,q2),(3,q3),(4,q4),(5,q5)]->OpdR M look q0 (dt y0)->OpdR M look q1 (dt y1)->OpdR M look q2 (dt y2)->OpdR M look q3 (dt y3)->OpdR M look q4 (dt y4)->OpdR M look q5 (dt y5)->OpRel prog M look o (dt (⟨y0,y1,y2,y3,y4,y5⟩:File0)):=@λ _ _ _ q0 q1 q2 q3 q4 q5 y0 y1 y2 y3 y4 y5 ho h0 h1 h2 h3 h4 h5=>yp (parts:=[(0,q0),(1,q1),(2,q2),(3,q3),(4,q4),(5,q5)]) (ns:=[1,1,1,1,1,1]) (zs:=zpFile0) Z ho (λ w a hl=>FA ⟨(by decide:0<6),Rep.len (α:=Int) (OpdR.cells h0 hl)⟩ (FA ⟨(by decide:1<6),Rep.len (α:=Str) (OpdR.cells h1 hl)⟩ (FA ⟨(by decide:2<6),Rep.len (α:=Str) (OpdR.cells h2 hl)⟩ (FA ⟨(by decide:3<6),Rep.len (α:=Bool) (OpdR.cells h3 hl)⟩ (FA ⟨(by decide:4<6),Rep.len (α:=Int) (OpdR.cells h4 hl)⟩ (FA ⟨(by decide:5<6),Rep.len (α:=Nil0) (OpdR.cells h5 hl)⟩ FN)))))) (λ w a hl=>File0.parts (x:=(⟨y0,y1,y2,y3,y4,y5⟩:File0)) (OpdR.cells h0 hl) (OpdR.cells h1 hl) (OpdR.cells h2 hl) (OpdR.cells h3 hl) (OpdR.cells h4 hl) (OpdR.cells h5 hl))
theorem kY37:zlB prog 37=true:=by kernel_rfl
theorem kE37:elB prog 37 71 6 80=true:=by kernel_rfl
theorem JY:∀ {M:Nat->Prop} {look:Nat->Option Dt} {o:Oper} {q0 q1:Operand} {y0:Int} {y1:Str},o.op=.build 74 #[(0,q0),(1,q1)]->OpdR M look q0 (dt y0)->OpdR M look q1 (dt y1)->OpRel prog M look o (dt (⟨y0,y1,0,⟨[]⟩,0⟩:Stmt)):=@λ _ _ _ q0 q1 y0 y1 ho h0 h1=>yp (parts:=[(0,q0),(1,q1)]) (ns:=[1,1,1,1,1]) (zs:=zbw) Z ho (λ w a hl=>FA ⟨(by decide:0<5),Rep.len (α:=Int) (OpdR.cells h0 hl)⟩ (FA ⟨(by decide:1<5),Rep.len (α:=Str) (OpdR.cells h1 hl)⟩ FN)) (λ w a hl=>Stmt.parts (x:=(⟨y0,y1,0,⟨[]⟩,0⟩:Stmt)) (OpdR.cells h0 hl) (OpdR.cells h1 hl) ⟨Z,trivial⟩ qt ⟨Z,trivial⟩)
theorem zcq:∀ {M:Nat->Prop} {look:Nat->Option Dt} {o:Oper} {q0 q2 q1 q3:Operand} {y0:Int} {y2:Int} {y1:Str} {y3:Str},o.op=.build 74 #[(0,q0),(2,q2),(1,q1),(3,q3)]->OpdR M look q0 (dt y0)->OpdR M look q2 (dt y2)->OpdR M look q1 (dt y1)->OpdR M look q3 (dt y3)->OpRel prog M look o (dt (⟨y0,y1,y2,y3,0⟩:Stmt)):=@λ _ _ _ q0 q2 q1 q3 y0 y2 y1 y3 ho h0 h2 h1 h3=>yp (parts:=[(0,q0),(2,q2),(1,q1),(3,q3)]) (ns:=[1,1,1,1,1]) (zs:=zbw) Z ho (λ w a hl=>FA ⟨(by decide:0<5),Rep.len (α:=Int) (OpdR.cells h0 hl)⟩ (FA ⟨(by decide:2<5),Rep.len (α:=Int) (OpdR.cells h2 hl)⟩ (FA ⟨(by decide:1<5),Rep.len (α:=Str) (OpdR.cells h1 hl)⟩ (FA ⟨(by decide:3<5),Rep.len (α:=Str) (OpdR.cells h3 hl)⟩ FN)))) (λ w a hl=>Stmt.parts (x:=(⟨y0,y1,y2,y3,0⟩:Stmt)) (OpdR.cells h0 hl) (OpdR.cells h1 hl) (OpdR.cells h2 hl) (OpdR.cells h3 hl) ⟨Z,trivial⟩)
theorem W3:∀ {M:Nat->Prop} {look:Nat->Option Dt} {o:Oper} {q0 q3 q4:Operand} {y0:Int} {y3:Str} {y4:Int},o.op=.build 74 #[(0,q0),(3,q3),(4,q4)]->OpdR M look q0 (dt y0)->OpdR M look q3 (dt y3)->OpdR M look q4 (dt y4)->OpRel prog M look o (dt (⟨y0,⟨[]⟩,0,y3,y4⟩:Stmt)):=@λ _ _ _ q0 q3 q4 y0 y3 y4 ho h0 h3 h4=>yp (parts:=[(0,q0),(3,q3),(4,q4)]) (ns:=[1,1,1,1,1]) (zs:=zbw) Z ho (λ w a hl=>FA ⟨(by decide:0<5),Rep.len (α:=Int) (OpdR.cells h0 hl)⟩ (FA ⟨(by decide:3<5),Rep.len (α:=Str) (OpdR.cells h3 hl)⟩ (FA ⟨(by decide:4<5),Rep.len (α:=Int) (OpdR.cells h4 hl)⟩ FN))) (λ w a hl=>Stmt.parts (x:=(⟨y0,⟨[]⟩,0,y3,y4⟩:Stmt)) (OpdR.cells h0 hl) qt ⟨Z,trivial⟩ (OpdR.cells h3 hl) (OpdR.cells h4 hl))
theorem kD74_0_3:∀ {M:Nat->Prop} {look:Nat->Option Dt} {o:Oper} {q0 q3:Operand} {y0:Int} {y3:Str},o.op=.build 74 #[(0,q0),(3,q3)]->OpdR M look q0 (dt y0)->OpdR M look q3 (dt y3)->OpRel prog M look o (dt (⟨y0,⟨[]⟩,0,y3,0⟩:Stmt)):=@λ _ _ _ q0 q3 y0 y3 ho h0 h3=>yp (parts:=[(0,q0),(3,q3)]) (ns:=[1,1,1,1,1]) (zs:=zbw) Z ho (λ w a hl=>FA ⟨(by decide:0<5),Rep.len (α:=Int) (OpdR.cells h0 hl)⟩ (FA ⟨(by decide:3<5),Rep.len (α:=Str) (OpdR.cells h3 hl)⟩ FN)) (λ w a hl=>Stmt.parts (x:=(⟨y0,⟨[]⟩,0,y3,0⟩:Stmt)) (OpdR.cells h0 hl) qt ⟨Z,trivial⟩ (OpdR.cells h3 hl) ⟨Z,trivial⟩)
theorem kZ39:wW prog 39=some zby:=by kernel_rfl
theorem kN27:fnB prog 27=true:=by kernel_rfl
theorem kD71_0_1_2_4z:∀ {M:Nat->Prop} {look:Nat->Option Dt} {o:Oper} {q0 q1 q2 q4:Operand} {y0:Int} {y1:Str} {y2:Str} {y4:Int},o.op=.build 71 #[(0,q0),(1,q1),(2,q2),(4,q4)]->OpdR M look q0 (dt y0)->OpdR M look q1 (dt y1)->OpdR M look q2 (dt y2)->OpdR M look q4 (dt y4)->OpRel prog M look o (dt (⟨y0,y1,y2,false,y4,(⟨⟩:Nil0)⟩:File0)):=@λ _ _ _ q0 q1 q2 q4 y0 y1 y2 y4 ho h0 h1 h2 h4=>yp (parts:=[(0,q0),(1,q1),(2,q2),(4,q4)]) (ns:=[1,1,1,1,1,1]) (zs:=zpFile0) Z ho (λ w a hl=>FA ⟨(by decide:0<6),Rep.len (α:=Int) (OpdR.cells h0 hl)⟩ (FA ⟨(by decide:1<6),Rep.len (α:=Str) (OpdR.cells h1 hl)⟩ (FA ⟨(by decide:2<6),Rep.len (α:=Str) (OpdR.cells h2 hl)⟩ (FA ⟨(by decide:4<6),Rep.len (α:=Int) (OpdR.cells h4 hl)⟩ FN)))) (λ w a hl=>File0.parts (x:=(⟨y0,y1,y2,false,y4,(⟨⟩:Nil0)⟩:File0)) (OpdR.cells h0 hl) (OpdR.cells h1 hl) (OpdR.cells h2 hl) ⟨Z,trivial⟩ (OpdR.cells h4 hl) zero_nil0)
instance iF39_0DsA:FldO prog 39 0 0:=⟨Xt⟩
instance iF71_5DsA:FldO prog 71 5 5:=⟨kF71_5⟩
def ZO(x0:Str):Option Str:=
if(decide (x0=(⟨[]⟩:Str)))=true then(some (⟨[45]⟩:Str))
else(some x0)
theorem JB(h:ZO x0=some r):Fn prog 66 [dt x0] (dt r):=by
 refine fq1 0 func66 λ M _ _ j=>?_
 refine j.z1 λ j=>?_
 refine j.zc h (λ j h=>?_) λ j h=>?_
 ·exact j.ze h
 exact j.ze h
instance:Ct1 prog 66 dt dt ZO:=⟨λ h=>JB h⟩
def ZP(x0:Str):Option Str:=
if(decide (x0=(⟨[45]⟩:Str)))=true then(some (⟨[]⟩:Str))
else(some x0)
theorem JC(h:ZP x0=some r):Fn prog 62 [dt x0] (dt r):=by
 refine fq1 0 func62 λ M _ _ j=>?_
 refine j.z1 λ j=>?_
 refine j.zc h (λ j h=>?_) λ j h=>?_
 ·exact j.ze h
 exact j.ze h
instance:Ct1 prog 62 dt dt ZP:=⟨λ h=>JC h⟩
def yv(x0:List Str)(x1:Str):Option Str:=
(y7 x0 (⟨[32]⟩:Str)).bind λ v1=>
(catO v1 (⟨[10]⟩:Str)).bind λ v2=>
(catO x1 v2).bind λ v3=>
some v3
theorem xY{x0:List Str}{x1:Str}(h:yv x0 x1=some r):FnM 1 prog 65 (Ow.box (Ow.frz (α:=Str))) ⟨x1⟩ [dt x0] ⟨r⟩ .gone:=by
 refine fnMB (fn:=f65) 1 0 2 func65 Z (oD Z) Z Z (λ M G _ b0 _ j=>wqw ?_)
 have⟨v1,p1,v2,p2,h⟩:=Kg h
 have⟨v3,p3,h⟩:=bs h
 refine j.zu 5 [(1,0)] (λ j=>?_) (hs:=sw Z (xLf (sb:=1) Pb Z U Z)<|sV 1 (r:=by exact sw Z (zA (l:=[.tmp 4,_]) Z (.cons T (.cons (zt) .nil)) (Z6 p1))<|sw Z (xCat Z T (zt) p2)<|sw Z (xCat Z T T p3)<|.nil))
 refine j.stF (sb:=1) 0 Pb kT9 (zU Z) (tp Z) [] [] (λ _ j=>Kb ?_)
 exact(j.rs0 (s:=1) 0 (bx1 h)).2
def yQ(v20:File)(s45:Str×Int):Option ((Str×Int)⊕Str):=
if(cmpI .lss s45.2 (v20.body.length:Int))=true then(Option.bind (α:=Str) ((atI v20.body s45.2).bind λ v51=>
if cmpI .eql v51.kind 0 then((yv ([(⟨[105,109,112,111,114,116]⟩:Str),v51.module]:List Str) s45.1).bind λ v64=>
some v64)
else(if cmpI .eql v51.kind 1 then((yO v51.level).bind λ v69=>
(ZO v51.module).bind λ v70=>
(yv ([(⟨[102,114,111,109]⟩:Str),v69,v70,v51.name]:List Str) s45.1).bind λ v75=>
some v75)
else(if cmpI .eql v51.kind 2 then((yv ([(⟨[115,116,97,114]⟩:Str),v51.module]:List Str) s45.1).bind λ v82=>
some v82)
else(if cmpI .eql v51.kind 3 then((yO v51.value).bind λ v87=>
(yv ([(⟨[115,101,116]⟩:Str),v51.name,v87]:List Str) s45.1).bind λ v91=>
some v91)
else(if cmpI .eql v51.kind 4 then((yv ([(⟨[112,114,105,110,116]⟩:Str),v51.name]:List Str) s45.1).bind λ v98=>
some v98)
else((yv ([(⟨[102,97,105,108]⟩:Str)]:List Str) s45.1).bind λ v102=>
some v102)))))) λ o50=>
(i64 (s45.2+(1:Int))).bind λ v105=>
some (.inl (o50,v105)))
else(some (.inr s45.1))
def yR(x0:Tree)(s14:Str×Int):Option ((Str×Int)⊕Str):=
if(cmpI .lss s14.2 (x0.files.length:Int))=true then(Option.bind (α:=Str) ((atI x0.files s14.2).bind λ v20=>
Option.bind (α:=Str) (if v20.init=true then(some (⟨[42]⟩:Str))
else(some v20.name)) λ o28=>
(yO v20.root).bind λ v34=>
(ZO v20.pkg).bind λ v35=>
(yO v20.stamp).bind λ v36=>
(yv ([(⟨[102,105,108,101]⟩:Str),v34,v35,o28,v36]:List Str) s14.1).bind λ v42=>
zP (λ s45=>yQ v20 s45) (v42,(0:Int))) λ o19=>
(i64 (s14.2+(1:Int))).bind λ v110=>
some (.inl (o19,v110)))
else(some (.inr s14.1))
def qE(x0:Tree):Option Str:=
(xg x0).bind λ v2=>
if(!v2)=true then(some (⟨[]⟩:Str))
else(Option.bind (α:=Str) (zP (λ s14=>yR x0 s14) ((⟨[]⟩:Str),(0:Int))) λ o12=>
some o12)
theorem Jj{x0:Tree}(h:qE x0=some r):Fn prog 29 [dt x0] (dt r):=by
 refine fq1 3 func29 λ M w0 _ j=>?_
 refine j.z1 λ j=>?_
 have⟨v2,p2,h⟩:=bs h
 refine j.zc h (λ j h=>?_) λ j h=>?_
 ·exact j.ze h
 refine j.z1 (λ j=>?_) (hs:=sc Z (oA Z (opd_fun1 kN32 (λ _ _ h=>zab h)))<|.nil)
 refine Ka ?_
 refine j.alcW (ow:=(Ow.frz (α:=Str))) 0 Jf [1,3] [] λ b9 _ _ _ j=>?_
 refine j.stF (sb:=4) 0 Pb kT9 (zU Z) (zt (l:=[])) [1,3] [] (λ _ j=>Kb ?_)
 refine j.zo [(4,0)] (λ j=>?_) (hs:=sc Z (xMkD Z U)<|segZ)
 refine za ?_
 have⟨o12,p12,k12⟩:=bs h
 refine wqj (λ a w=>∃ M1 Q R W,Sx (Frm.of w0) 102 M M1 [Q,oneB R,oneB W] [] [(4,0,dnm (Ow.box (Ow.frz (α:=Str))) Q ⟨o12⟩ (.pointer (some ⟨b9,0,none⟩)) [])] a w) ?_ ?_
 ·refine j.zo [(4,0)] λ j=>?_
  refine wql p12 (λ s14 a w=>∃ M1 Q R W,Sx (Frm.of w0) 102 M M1 [Q,oneB R,oneB W] [(16,dt x0.files),(17,dt (x0.files.length:Int)),(18,dt s14.2),(3,dfn1 prog yO),(5,dis (.func (.func 65) #[] #[(.pointer (some ⟨b9,0,none⟩))]))] [(4,0,dnm (Ow.box (Ow.frz (α:=Str))) Q ⟨s14.1⟩ (.pointer (some ⟨b9,0,none⟩)) [])] a w) fx ?_
  rintro s14 z14 _ _ ⟨_,Q,R,W,j⟩ hs14 hx14
  have h:yR x0 s14=some z14:=hs14
  unfold yR at h
  refine j.zd [(4,0)] h (λ j h=>?_) λ j h=>?_
  ·refine wqk ?_
   refine za ?_
   have⟨o19,p19,k19⟩:=bs h
   refine wqj (λ a w=>∃ M1 Q R W,Sx (Frm.of w0) 102 M M1 [Q,oneB R,oneB W] [(16,dt x0.files),(17,dt (x0.files.length:Int)),(18,dt s14.2),(3,dfn1 prog yO),(5,dis (.func (.func 65) #[] #[(.pointer (some ⟨b9,0,none⟩))]))] [(4,0,dnm (Ow.box (Ow.frz (α:=Str))) Q ⟨o19⟩ (.pointer (some ⟨b9,0,none⟩)) [])] a w) ?_ ?_
   ·refine Ka ?_
    have⟨v20,p20,h⟩:=bs p19
    refine j.zh 2 [(4,0)] λ j=>?_
    refine j.alA 1 zbx [3,5,16,17,18,21] [4] λ b24 j=>?_
    refine j.stA 7 1 FldS.id (tp Z) [3,5,16,17,18] [4] (λ j=>Kb ?_)
    refine j.zo [(4,0),(7,1)] (λ j=>za ?_)
    have⟨o28,p28,k28⟩:=bs h
    refine wqj (λ a w=>∃ M1 Q R W,Sx (Frm.of w0) 102 M M1 [Q,oneB R,oneB W] [(8,dt o28),(16,dt x0.files),(17,dt (x0.files.length:Int)),(18,dt s14.2),(3,dfn1 prog yO),(5,dis (.func (.func 65) #[] #[(.pointer (some ⟨b9,0,none⟩))]))] [(7,1,dbox R 0 v20),(4,0,dnm (Ow.box (Ow.frz (α:=Str))) Q ⟨s14.1⟩ (.pointer (some ⟨b9,0,none⟩)) [])] a w) ?_ ?_
    ·refine j.zd [(4,0),(7,1)] p28 (λ j h=>?_) λ j h=>?_
     ·refine j.zo [(4,0),(7,1)] λ j=>?_
      cases h
      exact fz
     cases h
     exact fz
    rintro _ _ ⟨_,Q,R,W,j⟩
    have h:=k28
    have⟨v34,p34,v35,p35,h⟩:=Kg h
    have⟨v36,p36,h⟩:=bs h
    refine j.zu 14 [(4,0),(7,1)] (λ j=>?_) (hs:=sV 4 (r:=by exact sw Z (Y9 Z T T p34)<|sV 2 (r:=by exact sw Z (zA (l:=[.tmp 32]) Z (.cons T .nil) (JB p35))<|sV 4 (r:=by exact sw Z (Y9 Z T T p36)<|sw Z (yf (opds:=[_,.tmp 30,.tmp 33,.tmp 34,.tmp 38]) Z Z Z (.cons (zt) (.cons T (.cons T (.cons T (.cons T .nil))))))<|.nil))))
    have⟨v42,p42,h⟩:=bs h
    refine j.cDF (s:=26) (sb:=4) (l:=[.tmp 39]) 0 (.cons T .nil) (xY p42) [3,5,16,17,18] [7] (λ j=>Kb ?_)
    refine j.zo [(4,0)] λ j=>?_
    refine wql h (λ s45 a w=>∃ M1 Q R W,Sx (Frm.of w0) 102 M M1 [Q,oneB R,oneB W] [(16,dt x0.files),(17,dt (x0.files.length:Int)),(18,dt s14.2),(42,dt v20.body),(43,dt (v20.body.length:Int)),(44,dt s45.2),(3,dfn1 prog yO),(5,dis (.func (.func 65) #[] #[(.pointer (some ⟨b9,0,none⟩))]))] [(4,0,dnm (Ow.box (Ow.frz (α:=Str))) Q ⟨s45.1⟩ (.pointer (some ⟨b9,0,none⟩)) [])] a w) fx ?_
    rintro s45 z45 _ _ ⟨_,Q,R,W,j⟩ hs45 hx45
    have h:yQ v20 s45=some z45:=hs45
    unfold yQ at h
    refine j.zd [(4,0)] h (λ j h=>?_) λ j h=>?_
    ·refine wqk ?_
     refine za ?_
     have⟨o50,p50,k50⟩:=bs h
     refine wqj (λ a w=>∃ M1 Q R W,Sx (Frm.of w0) 102 M M1 [Q,oneB R,oneB W] [(16,dt x0.files),(17,dt (x0.files.length:Int)),(18,dt s14.2),(42,dt v20.body),(43,dt (v20.body.length:Int)),(44,dt s45.2),(3,dfn1 prog yO),(5,dis (.func (.func 65) #[] #[(.pointer (some ⟨b9,0,none⟩))]))] [(4,0,dnm (Ow.box (Ow.frz (α:=Str))) Q ⟨o50⟩ (.pointer (some ⟨b9,0,none⟩)) [])] a w) ?_ ?_
     ·refine Ka ?_
      have⟨v51,p51,h⟩:=bs p50
      refine j.zh 2 [(4,0)] λ j=>?_
      refine j.alA 2 QY [3,5,16,17,18,42,43,44,47] [4] λ b55 j=>?_
      refine j.stA 10 2 FldS.id (tp Z) [3,5,16,17,18,42,43,44] [4] (λ j=>Kb ?_)
      refine j.zo [(4,0),(10,2)] λ j=>?_
      refine j.zd [(4,0),(10,2)] h (λ j h=>?_) λ j h=>?_
      ·refine Ka ?_
       refine j.zh 4 [(4,0)] (λ j=>?_) (hs:=sZ 3 (r:=by exact sc Z (yf (opds:=[_,.tmp 57]) Z Z Z (.cons (zt) (.cons T .nil)))<|.nil))
       have⟨v64,p64,h⟩:=bs h
       refine j.cDF (s:=55) (sb:=4) (l:=[.tmp 58]) 0 (.cons T .nil) (xY p64) [3,5,16,17,18,42,43,44] [] (λ j=>Kb ?_)
       cases h
       exact fz
      refine j.zd [(4,0),(10,2)] h (λ j h=>?_) λ j h=>?_
      ·have⟨v69,p69,h⟩:=bs h
       have⟨v70,p70,h⟩:=bs h
       refine j.zu 11 [(4,0)] (λ j=>?_) (hs:=sV 4 (r:=by exact sw Z (Y9 Z T T p69)<|sV 2 (r:=by exact sw Z (zA (l:=[.tmp 68]) Z (.cons T .nil) (JB p70))<|sV 2 (r:=by exact sw Z (yf (opds:=[_,.tmp 66,.tmp 69,.tmp 71]) Z Z Z (.cons (zt) (.cons T (.cons T (.cons T .nil)))))<|.nil))))
       have⟨v75,p75,h⟩:=bs h
       refine j.cDF (s:=62) (sb:=4) (l:=[.tmp 72]) 0 (.cons T .nil) (xY p75) [3,5,16,17,18,42,43,44] [] (λ j=>Kb ?_)
       cases h
       exact fz
      refine j.zd [(4,0),(10,2)] h (λ j h=>?_) λ j h=>?_
      ·refine Ka ?_
       refine j.zh 4 [(4,0)] (λ j=>?_) (hs:=sZ 3 (r:=by exact sc Z (yf (opds:=[_,.tmp 78]) Z Z Z (.cons (zt) (.cons T .nil)))<|.nil))
       have⟨v82,p82,h⟩:=bs h
       refine j.cDF (s:=76) (sb:=4) (l:=[.tmp 79]) 0 (.cons T .nil) (xY p82) [3,5,16,17,18,42,43,44] [] (λ j=>Kb ?_)
       cases h
       exact fz
      refine j.zd [(4,0),(10,2)] h (λ j h=>?_) λ j h=>?_
      ·have⟨v87,p87,h⟩:=bs h
       refine j.zu 8 [(4,0)] (λ j=>?_) (hs:=sV 6 (r:=by exact sw Z (Y9 Z T T p87)<|sw Z (yf (opds:=[_,.tmp 85,.tmp 89]) Z Z Z (.cons (zt) (.cons T (.cons T .nil))))<|.nil))
       have⟨v91,p91,h⟩:=bs h
       refine j.cDF (s:=83) (sb:=4) (l:=[.tmp 90]) 0 (.cons T .nil) (xY p91) [3,5,16,17,18,42,43,44] [] (λ j=>Kb ?_)
       cases h
       exact fz
      refine j.zd [(4,0),(10,2)] h (λ j h=>?_) λ j h=>?_
      ·refine Ka ?_
       refine j.zh 4 [(4,0)] (λ j=>?_) (hs:=sZ 3 (r:=by exact sc Z (yf (opds:=[_,.tmp 96]) Z Z Z (.cons (zt) (.cons T .nil)))<|.nil))
       have⟨v98,p98,h⟩:=bs h
       refine j.cDF (s:=94) (sb:=4) (l:=[.tmp 97]) 0 (.cons T .nil) (xY p98) [3,5,16,17,18,42,43,44] [] (λ j=>Kb ?_)
       cases h
       exact fz
      refine Ka ?_
      refine j.zh 2 [(4,0)] (λ j=>?_) (hs:=sZ 1 (r:=by exact sc Z (yf (opds:=[_]) Z Z Z (.cons (zt) .nil))<|.nil))
      have⟨v102,p102,h⟩:=bs h
      refine j.cDF (s:=50) (sb:=4) (l:=[.tmp 51]) 0 (.cons T .nil) (xY p102) [3,5,16,17,18,42,43,44] [] (λ j=>Kb ?_)
      cases h
      exact fz
     rintro _ _ ⟨_,Q,R,W,j⟩
     have h:=k50
     have⟨v105,p105,h⟩:=bs h
     exact j.zn [(4,0)] h
    have h:=lo h hx45
    cases h
    exact fz
   rintro _ _ ⟨_,Q,R,W,j⟩
   have h:=k19
   have⟨v110,p110,h⟩:=bs h
   exact j.zn [(4,0)] h
  have h:=lo h hx14
  cases h
  exact fz
 rintro _ _ ⟨_,Q,R,W,j⟩
 have h:=k12
 exact j.ze h (hs:=sc Z (xLf (sb:=4) Pb Z U Z)<|segZ)
instance:Ct1 prog 29 dt dt qE:=⟨λ h=>Jj h⟩
def zm(x0:Int)(x1:List Str):Option Str:=
if(cmpI .lss x0 (x1.length:Int))=true then((atI x1 x0).bind λ v5=>
some v5)
else(some (⟨[]⟩:Str))
theorem Qk{x0:Int}{x1:List Str}(h:zm x0 x1=some r):Fn prog 59 [dt x0,dptr x1] (dt r):=by
 refine fq1 0 func59 λ M _ _ j=>?_
 refine j.z1 λ j=>?_
 refine j.zc h (λ j h=>?_) λ j h=>?_
 ·have⟨v5,p5,h⟩:=bs h
  exact j.ze h
 exact j.ze h
def yb(x0:Int)(x1:(Int->Option Str)):Option Int:=
(x1 x0).bind λ v3=>
(Xs v3).bind λ v4=>
some v4.1
theorem Ql{x0:Int}{x1:(Int->Option Str)}{r:Int}(h:yb x0 x1=some r):Fn prog 60 [dt x0,wg (dptr (⟨some x1⟩:FnO Int Str))] (dt r):=by
 refine fq1 0 func60 λ M _ _ j=>?_
 have j:=j.glb (s:=1) (g:=15)
 refine j.z1 λ j=>?_
 have⟨v3,p3,v4,p4,h⟩:=Kg h
 refine j.z1 (λ j=>?_) (hs:=sc Z (OpRel.fno (zz Z T))<|sZ 1 (r:=by exact sc Z (Y9 Z T T p3)<|sc Z (zA (l:=[.tmp 9]) Z (.cons (zbD (s:=15) Z T) .nil) (zel p4))<|segZ))
 exact j.ze h
def qF(x0:Tree)(x1:List Str):Option Tree:=
Option.bind (α:=(Tree×Stmt)⊕Tree) (((λ a0=>zm a0 x1) (0:Int)).bind λ v20=>
if(decide (v20=(⟨[102,105,108,101]⟩:Str)))=true then(((λ a0=>yb a0 (λ a0=>zm a0 x1)) (1:Int)).bind λ v26=>
((λ a0=>zm a0 x1) (2:Int)).bind λ v27=>
(ZP v27).bind λ v28=>
((λ a0=>zm a0 x1) (3:Int)).bind λ v29=>
((λ a0=>zm a0 x1) (3:Int)).bind λ v30=>
((λ a0=>yb a0 (λ a0=>zm a0 x1)) (4:Int)).bind λ v31=>
Option.bind (α:=File0) (if((⟨v26,v28,v29,decide (v30=(⟨[42]⟩:Str)),v31,(⟨⟩:Nil0)⟩:File0).init)=true then(some ({ (⟨v26,v28,v29,decide (v30=(⟨[42]⟩:Str)),v31,(⟨⟩:Nil0)⟩:File0) with name:=(⟨[]⟩:Str) }))
else(some (⟨v26,v28,v29,decide (v30=(⟨[42]⟩:Str)),v31,(⟨⟩:Nil0)⟩:File0))) λ o42=>
(appO 80 x0.files (([o42]:List File0).map File0.f)).bind λ v57=>
some (.inr (⟨v57⟩:Tree)))
else(if(decide (v20=(⟨[105,109,112,111,114,116]⟩:Str)))=true then(((λ a0=>zm a0 x1) (1:Int)).bind λ v67=>
some (.inl (x0,(⟨(0:Int),v67,0,⟨[]⟩,0⟩:Stmt))))
else(if(decide (v20=(⟨[102,114,111,109]⟩:Str)))=true then(((λ a0=>yb a0 (λ a0=>zm a0 x1)) (1:Int)).bind λ v75=>
((λ a0=>zm a0 x1) (2:Int)).bind λ v76=>
(ZP v76).bind λ v77=>
((λ a0=>zm a0 x1) (3:Int)).bind λ v78=>
some (.inl (x0,(⟨(1:Int),v77,v75,v78,0⟩:Stmt))))
else(if(decide (v20=(⟨[115,116,97,114]⟩:Str)))=true then(((λ a0=>zm a0 x1) (1:Int)).bind λ v89=>
some (.inl (x0,(⟨(2:Int),v89,0,⟨[]⟩,0⟩:Stmt))))
else(if(decide (v20=(⟨[115,101,116]⟩:Str)))=true then(((λ a0=>zm a0 x1) (1:Int)).bind λ v97=>
((λ a0=>yb a0 (λ a0=>zm a0 x1)) (2:Int)).bind λ v98=>
some (.inl (x0,(⟨(3:Int),⟨[]⟩,0,v97,v98⟩:Stmt))))
else(if(decide (v20=(⟨[112,114,105,110,116]⟩:Str)))=true then(((λ a0=>zm a0 x1) (1:Int)).bind λ v107=>
some (.inl (x0,(⟨(4:Int),⟨[]⟩,0,v107,0⟩:Stmt))))
else(if(decide (v20=(⟨[102,97,105,108]⟩:Str)))=true then(some (.inl (x0,(⟨(5:Int),⟨[]⟩,0,⟨[]⟩,0⟩:Stmt))))
else(some (.inl (x0,(⟨(-1:Int),⟨[]⟩,0,⟨[]⟩,0⟩:Stmt))))))))))) (Sum.elim (λ b19=>
(i64 ((b19.1.files.length:Int) - (1:Int))).bind λ v120=>
if cmpI .geq v120 0 then((atI b19.1.files v120).bind λ v140=>
(appO 56 v140.body ([b19.2]:List Stmt)).bind λ v153=>
(atI b19.1.files v120).bind λ _v157=>
some (⟨(b19.1.files.set v120.toNat ({ v140 with body:=v153 }))⟩:Tree))
else(some b19.1)) some)
theorem zah{x0:Tree}{x1:List Str}{r:Tree}(h:qF x0 x1=some r):FnS prog 27 (Ow.box oTr) ⟨x0⟩ [wg (dt x1)] ⟨r⟩ .gone:=by
 refine fnSB (fn:=f27) 1 7 func27 Z Z (λ M G w0 b0 a0 u=>wqw ?_)
 have u:=u.glb (s:=1) (g:=105)
 refine u.zo [(0,1)] (λ u=>Ka ?_)
 refine u.zh 1 [(0,1)] (λ u=>?_) (hs:=sc Z (xMkF1 (l:=[.tmp 3]) (g:=(λ a0=>zm a0 x1)) Z kN59 (.cons T .nil) Z (λ _ _ h=>Qk h))<|.nil)
 refine u.alA 4 zrFnO [9,105] [0] λ b5 u=>?_
 have u:=u.gn
 have u:=u.addL (s:=9) (y:=dt (⟨some (λ a0=>zm a0 x1)⟩:FnO Int Str)) (fno_dt.2 (u.st.has 9 _ Z))
 refine u.stA 4 4 FldS.id (tp Z) [105] [0] λ u=>?_
 have u:=u.frzX 4 (s:=4) [105] [0]
 have u:=u.gn
 refine Kb ?_
 refine u.zo [(0,1)] (λ u=>?_) (hs:=sc Z (xMkF1 (l:=[.tmp 4]) (g:=(λ a0=>yb a0 (λ a0=>zm a0 x1))) Z kN60 (.cons (zbD (s:=105) Z T) .nil) Z (λ _ _ h=>Ql h))<|segZ)
 refine Ka ?_
 refine u.zh 1 [(0,1)] (λ u=>?_) (hs:=sc Z (zc7 Z cI)<|.nil)
 refine u.alA 5 QY [4,5,11,105] [0] λ b15 u=>?_
 have u:=u.gn
 refine u.stA 6 5 FldS.id (tp Z) [4,5,105] [0] (λ u=>Kb ?_)
 refine za ?_
 have⟨o19,p19,k19⟩:=bs h
 refine wqj (λ a w=>∃ b19,o19=.inl b19/\(∃ M1 Q R W X Y A B,Sx (Frm.chg w0 G) 104 M M1 [Q,R,W,X,oneB Y,oneB A,oneB B] [(105,dgl)] [(6,5,dbox A 0 b19.2),(0,1,dnm (Ow.box oTr) R ⟨b19.1⟩ (.pointer (some ⟨b0,0,none⟩)) [])] a w)) ?_ ?_
 ·have⟨v20,p20,h⟩:=bs p19
  refine u.zo [(0,1),(6,5)] (λ u=>?_) (hs:=sc Z (OpRel.fno (zz Z T))<|sc Z (Y9 Z T cI p20)<|.nil)
  refine u.zd [(0,1),(6,5)] h (λ u h=>?_) λ u h=>?_
  ·have⟨v26,p26,h⟩:=bs h
   have⟨v27,p27,v28,p28,h⟩:=Kg h
   have⟨v29,p29,v30,p30,h⟩:=Kg h
   have⟨v31,p31,h⟩:=bs h
   refine u.alc (D:=[_,_,_,_,_,_,_,_,_,_,_,_,_,_,WQ]) [mkBox 14 7 71 zcFile0 6 zFile0 zrFile0] yc 15 [[(5,nS)],[(16,0)],[(4,nS)],[(18,2)],[(19,3)],[(4,nS)],[(21,5)],[(4,nS)],[(23,7)],[(24,8)],[(5,nS)],[(26,10)],[],[(17,1),(20,4),(22,6),(25,9),(27,11),(28,12)],[],[(7,14),(29,13)]] (by decide +kernel) (by decide) (by decide +kernel) ⟨kZ71,trivial⟩ (by decide) (by decide) (by simp[mkBox]) (λ M38 hM38=>
    ac Z Z Z (oM Z T)<|
    ac Z Z Z (Y9 Z T cI p26)<|
    ac Z Z Z (OpRel.fno (zz Z T))<|
    ac Z Z Z (Y9 Z T cI p27)<|
    ac Z Z Z (zA (l:=[.tmp 19]) Z (.cons T .nil) (JC p28))<|
    ac Z Z Z (OpRel.fno (zz Z T))<|
    ac Z Z Z (Y9 Z T cI p29)<|
    ac Z Z Z (OpRel.fno (zz Z T))<|
    ac Z Z Z (Y9 Z T cI p30)<|
    ac Z Z Z (jx Z T (zt))<|
    ac Z Z Z (oM Z T)<|
    ac Z Z Z (Y9 Z T cI p31)<|
    ac Z Z Z (op_nil0 Stmt Z kS69)<|
    ac Z Z Z (zcp Z T T T T T T)<|
    al Z Z<|.nil) [29,105] Z [0] Z Z Z Z (λ β38 M38 _ _ u=>?_)
   have u:=u.gs (Gs':=[oneB none,G,oneB none,oneB none,oneB none,oneB (some b15),oneB (some (β38 14))])
   refine u.store (sb:=7) 6 FldS.id Z Z Z kT71 Z Z (tp Z) Z [105] Z [0] Z Z (λ _ _ u=>Kb ?_)
   refine za ?_
   have⟨o42,p42,k42⟩:=bs h
   refine wqj (λ a w=>∃ M1 Q R W X Y A B,Sx (Frm.chg w0 G) 104 M M1 [Q,R,W,X,oneB Y,oneB A,oneB B] [(105,dgl)] [(7,6,dbox B 0 o42),(0,1,dnm (Ow.box oTr) R ⟨x0⟩ (.pointer (some ⟨b0,0,none⟩)) [])] a w) ?_ ?_
   ·refine u.zd [(0,1),(7,6)] p42 (λ u h=>?_) (λ u h=>?_) (hs:=sc Z (yM File0.fld3 Z T)<|
     sc Z (yx Z T)<|.nil)
    ·refine Ka ?_
     refine u.zh 1 [(0,1),(7,6),(32,6)] (λ u=>?_) (hs:=sc Z (yM File0.fld2 Z (ht:=zc1) T)<|.nil)
     refine u.store (sb:=7) 6 File0.set2 Z Z Z kT9 Z Z (zt) Z [105] Z [0] Z Z (λ _ _ u=>Kb ?_)
     cases h
     exact fz
    cases h
    exact fz
   rintro _ _ ⟨_,Q,R,W,X,Y,A,B,u⟩
   have h:=k42
   refine u.held (λ _=>True) yc λ _ u=>?_
   refine u.tN 0 0 trivial λ _ u=>?_
   refine u.hdA 0 1 (Pb.fld owTree.f0) [7] λ g52 A52 _ hA52 u=>?_
   refine u.drnE (D:=[_,_,_,_,_,_,_]) 7 [0] [[(0,nS)],[(0,nS)],[(34,1)],[(35,2)],[(36,3),(0,nS)],[(7,nS)],[(38,5)],[(37,4),(39,6)],[(33,0)],[(41,8)],[(42,9),(40,7)]] (
    rc Z Z (oM Z U)<|
    rc Z Z (oM Z U)<|
    rc Z Z (xNc Z T)<|
    rc Z Z (xFa Z Xt T)<|
    rc Z Z (xLc (sb:=0) (.head _) Z Z Z T Z)<|
    rc Z Z (yx Z T)<|
    rc Z Z (yf (opds:=[.tmp 38]) Z Z Z (.cons T .nil))<|.nil) (by
 intro i hi x d hx
 simp only[List.mem_cons,List.not_mem_nil,or_false] at hi
 rcases hi with rfl
 all_goals (injection hx with hx;injection hx with h1 h2;subst h1;subst h2;rfl)) [33,37,39,105] [(0,1)] Z ⟨λ _ h=>h,trivial⟩ (λ _ _ u=>?_)
   refine u.mvG (s:=37) (sb:=0) 1 0 (Pb.fld owTree.f0) (.head _) (yA Z Z) [33,39,105] [] @λ G55 H55 u=>?_
   have u:=u.gs (Gs':=[H55,G55,W,X,oneB Y,oneB A,oneB B])
   have⟨v57,p57,h⟩:=bs h
   refine u.app0 0 Z Z kE37 Z T p57 [33,105] Z [0] Z Z λ _ _ _ _ u=>?_
   have u:=u.gn
   refine u.zh 2 [(0,1),(40,0)] λ u=>?_
   refine u.shA 0 40 1 0 (tp Z) [105] [] λ u=>?_
   have u:=u.gn
   refine Kb ?_
   have h:=jo h k19
   exact(u.rs0 (s:=0) 1 (bx1 h)).1
  refine u.zd [(0,1),(6,5)] h (λ u h=>?_) λ u h=>?_
  ·refine Ka ?_
   have⟨v67,p67,h⟩:=bs h
   refine u.zh 3 [(0,1),(6,5)] (λ u=>?_) (hs:=sc Z (OpRel.fno (zz Z T))<|sc Z (Y9 Z T cI p67)<|sc Z (JY Z cI T)<|.nil)
   refine u.stA 6 5 FldS.id (tp Z) [105] [0] (λ u=>Kb ?_)
   exact flz h
  refine u.zd [(0,1),(6,5)] h (λ u h=>?_) λ u h=>?_
  ·have⟨v75,p75,h⟩:=bs h
   have⟨v76,p76,v77,p77,h⟩:=Kg h
   have⟨v78,p78,h⟩:=bs h
   refine u.zu 8 [(0,1),(6,5)] (λ u=>?_) (hs:=sV 1 (r:=by exact sw Z (Y9 Z T cI p75)<|sw Z (OpRel.fno (zz Z T))<|sw Z (Y9 Z T cI p76)<|sw Z (zA (l:=[.tmp 53]) Z (.cons T .nil) (JC p77))<|sw Z (OpRel.fno (zz Z T))<|sw Z (Y9 Z T cI p78)<|sw Z (zcq Z cI T T T)<|.nil))
   refine u.store (sb:=6) 5 FldS.id Z Z Z kT74 Z Z (tp Z) Z [105] Z [0] Z Z (λ _ _ u=>Kb ?_)
   exact flz h
  refine u.zd [(0,1),(6,5)] h (λ u h=>?_) λ u h=>?_
  ·refine Ka ?_
   have⟨v89,p89,h⟩:=bs h
   refine u.zh 3 [(0,1),(6,5)] (λ u=>?_) (hs:=sc Z (OpRel.fno (zz Z T))<|sc Z (Y9 Z T cI p89)<|sc Z (JY Z cI T)<|.nil)
   refine u.stA 6 5 FldS.id (tp Z) [105] [0] (λ u=>Kb ?_)
   exact flz h
  refine u.zd [(0,1),(6,5)] h (λ u h=>?_) λ u h=>?_
  ·refine Ka ?_
   have⟨v97,p97,v98,p98,h⟩:=Kg h
   refine u.zh 5 [(0,1),(6,5)] (λ u=>?_) (hs:=sc Z (OpRel.fno (zz Z T))<|sc Z (Y9 Z T cI p97)<|sZ 1 (r:=by exact sc Z (Y9 Z T cI p98)<|sc Z (W3 Z cI T T)<|.nil))
   refine u.stA 6 5 FldS.id (tp Z) [105] [0] (λ u=>Kb ?_)
   exact flz h
  refine u.zd [(0,1),(6,5)] h (λ u h=>?_) λ u h=>?_
  ·refine Ka ?_
   have⟨v107,p107,h⟩:=bs h
   refine u.zh 3 [(0,1),(6,5)] (λ u=>?_) (hs:=sc Z (OpRel.fno (zz Z T))<|sc Z (Y9 Z T cI p107)<|sc Z (kD74_0_3 Z cI T)<|.nil)
   refine u.stA 6 5 FldS.id (tp Z) [105] [0] (λ u=>Kb ?_)
   exact flz h
  refine u.zd [(0,1),(6,5)] h (λ u h=>?_) λ u h=>?_
  ·refine Ka ?_
   refine u.zh 1 [(0,1),(6,5)] (λ u=>?_) (hs:=sc Z (zc7 Z cI)<|.nil)
   refine u.stA 6 5 FldS.id (tp Z) [105] [0] (λ u=>Kb ?_)
   exact flz h
  exact flz h
 rintro _ _ ⟨b19,rfl,⟨_,Q,R,W,X,Y,A,B,u⟩⟩
 have h:=jn k19
 have⟨v120,p120,h⟩:=bs h
 refine u.hdA 0 1 (Pb.fld owTree.f0) [6] λ g119 A119 _ hA119 u=>?_
 refine u.zo [(0,1),(6,5)] (λ u=>?_) (hs:=sZ 4 (r:=by exact sc Z (xLe Z T)<|segZ))
 have u:=u.ncf (s:=0) 1 [6]
 refine u.zd [(0,1),(6,5)] h (λ u h=>?_) λ u h=>?_
 ·refine u.hdA 0 1 (Pb.fld owTree.f0) [6] λ g127 A127 c127 hA127 u=>?_
  refine u.held (λ w=>w.cell? ⟨b0,0,none⟩=some (.slice A127 (b19.1.files.length) c127)) yc λ _ u=>?_
  refine u.tN 0 0 (u.cellS (sb:=0) (.head _)) λ _ u=>?_
  refine u.tk (i:=1) Z Z (by decide +kernel) (by decide +kernel) (by decide +kernel) (λ _ _ _ h=>h) (u.cellS (sb:=0) (.head _)) (yNc Z (u.st.has 86 _ Z)) λ _ u=>?_
  refine u.tk (i:=2) Z Z (by decide +kernel) (by decide +kernel) (by decide +kernel) (λ _ _ _ h=>h) (u.cellS (sb:=0) (.head _)) (yFa Z Xt (u.st.has 87 _ Z)) λ _ u=>?_
  refine u.tk (i:=3) Z Z (by decide +kernel) (by decide +kernel) (by decide +kernel) (λ _ _ _ h=>h) (u.cellS (sb:=0) (.head _)) (yLd Z (u.st.has 88 _ Z)) λ _ u=>?_
  refine u.tkN (i:=5) (sb:=0) Z Z (u.cellS (sb:=0) (.head _)) Z Z Z λ _ u=>?_
  refine u.tk (i:=6) Z Z (by decide +kernel) (by decide +kernel) (by decide +kernel) (λ _ _ _ h=>h) (u.cellS (sb:=0) (.head _)) (yNc Z (u.st.has 91 _ Z)) λ _ u=>?_
  refine u.tk (i:=7) Z Z (by decide +kernel) (by decide +kernel) (by decide +kernel) (λ _ _ _ h=>h) (u.cellS (sb:=0) (.head _)) (yFa Z Xt (u.st.has 92 _ Z)) λ _ u=>?_
  refine u.tk (i:=8) Z Z (by decide +kernel) (by decide +kernel) (by decide +kernel) (λ _ _ _ h=>h) (u.cellS (sb:=0) (.head _)) (yLd Z (u.st.has 93 _ Z)) λ _ u=>?_
  refine u.tkM (i:=4) (sb:=8) Z Z (u.cellS (sb:=0) (.head _)) Z Z Z Z λ _ u=>?_
  refine u.tM 9 8 (u.cellS (sb:=0) (.head _)) λ _ u=>?_
  refine u.mvN (s:=94) (sb:=0) 1 2 (Pb.fld owTree.f0) (.head _) Z (yA Z Z) Z Z (by simp) (by simp) (by decide) Z (λ _ h=>h) [8,85,86,87,88,89,90,91,92,93,95,105] Z [6] Z Z Z Z (by decide) λ G139 H139 u=>?_
  have⟨v140,p140,v153,p153,h⟩:=Kg h
  have⟨v157,p157,h⟩:=bs h
  refine u.tkIN (i:=10) (s2:=94) (u.hkS (sb:=0)) kS37 (tp Z) (λ h=>hA127 h Z) p140 λ _ u=>?_
  refine u.tk (i:=11) Z Z (by decide +kernel) (by decide +kernel) (by decide +kernel) (λ _ _ _ h=>h) (u.hkS (sb:=0)) (yFa Z kF71_5 (u.st.has 96 _ Z)) λ _ u=>?_
  refine aH2 (i:=12) (j:=13) Z Z ?_ ?_
  ·refine u.hdA 94 2 ((PV.root.row Z (λ h=>hA127 h Z) p140).fld owFile.f5) [0,6] λ g168 A168 _ hA168 u=>?_
   refine u.zh 1 [(0,1),(6,5),(94,2)] (λ u=>?_) (hs:=sc Z (xLc (sb:=94) (.head _) Z Z Z T Z)<|.nil)
   refine aHN (u.hkS (sb:=0)) ?_
   refine aK1 13 ?_
   refine u.zh 1 [(0,1),(94,2)] λ u=>?_
   refine aHN (u.hkS (sb:=0)) ?_
   refine aK1 14 ?_
   refine u.zh 1 [(0,1),(94,2)] λ u=>?_
   refine aHN (u.hkS (sb:=0)) ?_
   refine aK1 15 ?_
   refine u.mvG (s:=98) (sb:=94) 2 3 ((PV.root.row Z (λ h=>hA127 h Z) p140).fld owFile.f5) (.head _) (yA Z Z) [89,90,100,105] [0] @λ G173 H173 u=>?_
   have u:=u.gs (Gs':=[Q,G139,G173,H173,oneB Y,oneB A,oneB B])
   refine u.tipR (s:=98) 3 (by first | (simp;done) | exact oD rfl) [0,94] λ g175 u=>?_
   refine u.apA 3 xv p153 [89,90,105] [0,94] λ g177 u=>?_
   have u:=u.gn
   refine aHN (u.hkS (sb:=0)) ?_
   refine aK1 16 ?_
   refine u.zh 1 [(0,1),(94,2),(101,3)] (λ u=>?_) (hs:=sc Z (xIa (g:=g127) Z kS37 T T Z (λ h=>hA127 h Z) p157)<|.nil)
   refine aHN (u.hkS (sb:=0)) ?_
   refine aK1 17 ?_
   refine u.zh 1 [(0,1),(94,2),(101,3)] λ u=>?_
   refine aHN (u.hkS (sb:=0)) ?_
   refine aK1 18 ?_
   have u:=u.tipW (s:=101) 3 [0,94]
   refine u.shA 94 101 2 3 (tp Z) [105] [0] λ u=>?_
   have u:=u.gn
   refine aHN (u.hkS (sb:=0)) ?_
   refine aK0 ?_
   refine u.stG (s:=94) (sb:=0) 1 2 Z (by simp) (by simp) (by decide) Z Z (λ _ h=>h) (λ _ h=>h) [105] Z [] Z Z Z λ _ u=>?_
   have u:=u.gn
   exact(u.rs0 (s:=0) 1 (bx1 h)).2
  ·refine u.zh 1 [(0,1),(94,2)] λ u=>?_
   refine aHN (u.hkS (sb:=0)) ?_
   refine aK2 12 14 ?_ ?_
   ·refine u.hdA 94 2 ((PV.root.row Z (λ h=>hA127 h Z) p140).fld owFile.f5) [0] λ g188 A188 _ hA188 u=>?_
    refine u.zh 1 [(0,1),(94,2)] (λ u=>?_) (hs:=sc Z (xLc (sb:=94) (.head _) Z Z Z T Z)<|.nil)
    refine aHN (u.hkS (sb:=0)) ?_
    refine aK1 14 ?_
    refine u.zh 1 [(0,1),(94,2)] λ u=>?_
    refine aHN (u.hkS (sb:=0)) ?_
    refine aK1 15 ?_
    refine u.mvG (s:=98) (sb:=94) 2 3 ((PV.root.row Z (λ h=>hA127 h Z) p140).fld owFile.f5) (.head _) (yA Z Z) [89,90,100,105] [0] @λ G192 H192 u=>?_
    have u:=u.gs (Gs':=[Q,G139,G192,H192,oneB Y,oneB A,oneB B])
    refine u.tipR (s:=98) 3 (by first | (simp;done) | exact oD rfl) [0,94] λ g194 u=>?_
    refine u.apA 3 xv p153 [89,90,105] [0,94] λ g196 u=>?_
    have u:=u.gn
    refine aHN (u.hkS (sb:=0)) ?_
    refine aK1 16 ?_
    refine u.zh 1 [(0,1),(94,2),(101,3)] (λ u=>?_) (hs:=sc Z (xIa (g:=g127) Z kS37 T T Z (λ h=>hA127 h Z) p157)<|.nil)
    refine aHN (u.hkS (sb:=0)) ?_
    refine aK1 17 ?_
    refine u.zh 1 [(0,1),(94,2),(101,3)] λ u=>?_
    refine aHN (u.hkS (sb:=0)) ?_
    refine aK1 18 ?_
    have u:=u.tipW (s:=101) 3 [0,94]
    refine u.shA 94 101 2 3 (tp Z) [105] [0] λ u=>?_
    have u:=u.gn
    refine aHN (u.hkS (sb:=0)) ?_
    refine aK0 ?_
    refine u.stG (s:=94) (sb:=0) 1 2 Z (by simp) (by simp) (by decide) Z Z (λ _ h=>h) (λ _ h=>h) [105] Z [] Z Z Z λ _ u=>?_
    have u:=u.gn
    exact(u.rs0 (s:=0) 1 (bx1 h)).2
   ·refine u.zh 1 [(0,1),(94,2)] λ u=>?_
    refine aHN (u.hkS (sb:=0)) ?_
    refine aK1 12 ?_
    refine u.hdA 94 2 ((PV.root.row Z (λ h=>hA127 h Z) p140).fld owFile.f5) [0] λ g207 A207 _ hA207 u=>?_
    refine u.zh 1 [(0,1),(94,2)] (λ u=>?_) (hs:=sc Z (xLc (sb:=94) (.head _) Z Z Z T Z)<|.nil)
    refine aHN (u.hkS (sb:=0)) ?_
    refine aK1 15 ?_
    refine u.mvG (s:=98) (sb:=94) 2 3 ((PV.root.row Z (λ h=>hA127 h Z) p140).fld owFile.f5) (.head _) (yA Z Z) [89,90,100,105] [0] @λ G210 H210 u=>?_
    have u:=u.gs (Gs':=[Q,G139,G210,H210,oneB Y,oneB A,oneB B])
    refine u.tipR (s:=98) 3 (by first | (simp;done) | exact oD rfl) [0,94] λ g212 u=>?_
    refine u.apA 3 xv p153 [89,90,105] [0,94] λ g214 u=>?_
    have u:=u.gn
    refine aHN (u.hkS (sb:=0)) ?_
    refine aK1 16 ?_
    refine u.zh 1 [(0,1),(94,2),(101,3)] (λ u=>?_) (hs:=sc Z (xIa (g:=g127) Z kS37 T T Z (λ h=>hA127 h Z) p157)<|.nil)
    refine aHN (u.hkS (sb:=0)) ?_
    refine aK1 17 ?_
    refine u.zh 1 [(0,1),(94,2),(101,3)] λ u=>?_
    refine aHN (u.hkS (sb:=0)) ?_
    refine aK1 18 ?_
    have u:=u.tipW (s:=101) 3 [0,94]
    refine u.shA 94 101 2 3 (tp Z) [105] [0] λ u=>?_
    have u:=u.gn
    refine aHN (u.hkS (sb:=0)) ?_
    refine aK0 ?_
    refine u.stG (s:=94) (sb:=0) 1 2 Z (by simp) (by simp) (by decide) Z Z (λ _ h=>h) (λ _ h=>h) [105] Z [] Z Z Z λ _ u=>?_
    have u:=u.gn
    exact(u.rs0 (s:=0) 1 (bx1 h)).2
 exact(u.rs0 (s:=0) 1 (bx1 h)).2
def yX(v20:List Str)(s25:Tree×Int):Option ((Tree×Int)⊕Tree):=
if(cmpI .lss s25.2 (v20.length:Int))=true then((atI v20 s25.2).bind λ v30=>
(yY v30 (⟨[32]⟩:Str)).bind λ v33=>
(qF s25.1 v33).bind λ v37=>
(i64 (s25.2+(1:Int))).bind λ v40=>
some (.inl (v37,v40)))
else(some (.inr s25.1))
def Zl(x0:Str):Option (Tree×Bool):=
(yY x0 (⟨[10]⟩:Str)).bind λ v15=>
Option.bind (α:=Tree) ((i64 ((v15.length:Int) - (1:Int))).bind λ v19=>
(JJ v15 v19).bind λ v20=>
zP (λ s25=>yX v20 s25) ((⟨[]⟩:Tree),(0:Int))) λ o18=>
(xg o18).bind λ v46=>
(gO ((!v46) == false) (qE o18)).bind λ v47=>
if((!v46)||decide (v47≠x0))=true then(some ((⟨[]⟩:Tree),false))
else(some (o18,true))
theorem zdc{r:Tree×Bool}(h:Zl x0=some r):Fn prog 14 [wg (dt x0)] (dtup [dt r.1,dt r.2]):=by
 refine fq1 4 func14 λ M w0 _ j=>?_
 have j:=j.glb (s:=0) (g:=38)
 refine Ka ?_
 refine j.alA 2 zrTree [0,38] [] λ b3 j=>?_
 have j:=j.gn
 refine j.zh 1 [(2,2)] (λ j=>Kb ?_)
 refine Ka ?_
 refine j.zh 1 [(2,2),(8,0)] (λ j=>?_) (hs:=sc Z (wA (α:=File) (e:=71) Z)<|.nil)
 have j:=j.tipW (s:=8) 0 (hG:=(λ _ h=>(by cases h))) [2]
 refine j.bldW (ow:=oTr) (parts:=[(0,.tmp 8)]) (ns:=[1]) (zs:=zcU) (x:=(⟨[]⟩:Tree)) 1 [0] (FA ⟨by decide,Ow.len _ (js (j.st.has 8 _ Z))⟩ FN) ((oTr).more (owTree.mk (x:=(⟨[]⟩:Tree)) (js (j.st.has 8 _ Z))) (λ b=>(λ hb=>⟨0,by simp,hb⟩))) [0,38] [2] (@λ G7 _ _ j=>?_)
 have j:=j.gs (Gs':=[oneB none,G7,oneB (some b3),oneB none])
 have j:=j.gs (Gs':=[oneB none,G7,oneB (some b3),oneB none])
 refine j.alcW (ow:=oTr) 3 (owTree.z Ow.row_z) [0,38] [2,9] λ b11 _ _ _ j=>?_
 have j:=j.gn
 refine j.stO (sb:=4) (tv:=9) 3 1 Pb (zU Z) [0,38] [2] λ j=>?_
 have j:=j.gn
 refine Kb ?_
 have⟨v15,p15,h⟩:=bs h
 refine j.zo [(2,2),(4,3)] (λ j=>za ?_)
 have⟨o18,p18,k18⟩:=bs h
 refine wqj (λ a w=>∃ M1 Q R W X,Sx (Frm.of w0) 37 M M1 [Q,R,oneB W,X] [(0,dt x0),(38,dgl)] [(2,2,dbox W 0 XE),(4,3,dow (Ow.box oTr) X ⟨o18⟩)] a w) ?_ ?_
 ·have⟨v19,p19,h⟩:=bs p18
  have⟨v20,p20,h⟩:=bs h
  refine j.zo [(2,2),(4,3)] (λ j=>?_) (hs:=sZ 4 (r:=by exact sc Z (za1 Z T T p20)<|segZ))
  have j:=j.unm (s:=4) 3 [2]
  refine wql h (λ s25 a w=>∃ M1 Q R W X,Sx (Frm.of w0) 37 M M1 [Q,R,oneB W,X] [(0,dt x0),(16,dt v20),(17,dt (v20.length:Int)),(18,dt s25.2),(38,dgl)] [(2,2,dbox W 0 XE),(4,3,dow (Ow.box oTr) X ⟨s25.1⟩)] a w) fx ?_
  rintro s25 z25 _ _ ⟨_,Q,R,W,X,j⟩ hs25 hx25
  have h:yX v20 s25=some z25:=hs25
  unfold yX at h
  refine j.zd [(2,2),(4,3)] h (λ j h=>?_) λ j h=>?_
  ·have⟨v30,p30,h⟩:=bs h
   refine j.zo [(2,2),(4,3)] (λ j=>Ka ?_)
   have⟨v33,p33,h⟩:=bs h
   refine j.zh 2 [(2,2),(4,3)] λ j=>?_
   have⟨v37,p37,h⟩:=bs h
   refine j.cSF (l:=[.tmp 23]) 3 (j.bkR (s:=4) Z (λ _ h=>h)) Z Z kN27 Z (by simp) (.cons (zbD (s:=38) Z T) .nil) (FnS.any (zah p37)) [0,16,17,18,38] Z [2] Z Z (by decide) λ j=>?_
   have j:=j.gn
   refine Kb ?_
   have⟨v40,p40,h⟩:=bs h
   exact j.zn [(2,2),(4,3)] h
  have h:=lo h hx25
  cases h
  exact fz
 rintro _ _ ⟨_,Q,R,W,X,j⟩
 have h:=k18
 have j:=j.frzB (s:=4) 3 [0,38] [2]
 have⟨v46,p46,v47,p47,h⟩:=Kg h
 refine j.zd [(2,2)] h (λ j h=>?_) (λ j h=>?_) (hs:=sc Z (zz Z T)<|
  sc Z (zA (l:=[.tmp 26]) Z (.cons T .nil) (jN p46))<|
  sc Z (qe Z T)<|
  sc Z (oM Z T)<|
  sg Z Z (λ hg=>zz Z T)<|
  sg Z Z (λ hg=>zA (l:=[.tmp 30]) Z (.cons V .nil) (Jj (gh hg p47)))<|
  sg Z Z (λ hg=>oM Z T)<|
  sg Z Z (λ hg=>QO Z V V)<|
  sc Z (Za Z T T)<|.nil)
 ·refine Ka ?_
  refine j.zh 1 [(2,2)] (λ j=>?_) (hs:=sc Z (yp (parts:=[]) (ns:=[1]) (zs:=zcU) Z Z (λ w a hl=>by simp) (λ w a hl=>Tree.parts (x:=(⟨[]⟩:Tree)) Y7))<|.nil)
  refine j.stA 2 2 FldS.id (tp Z) [38] [] λ j=>?_
  refine j.zh 1 [(2,2)] (λ j=>Kb ?_)
  cases h
  exact j.y2
 refine Ka ?_
 refine j.zh 1 [(2,2)] λ j=>?_
 refine j.stA 2 2 FldS.id (tp Z) [38] [] λ j=>?_
 refine j.zh 1 [(2,2)] (λ j=>Kb ?_)
 cases h
 exact j.y2
def zbf(R:Int->Option Str)(x0:Int):Option Str:=
if cmpI .lss x0 10 then((i64 (x0+(1:Int))).bind λ v5=>
(cutLHO (⟨[48,49,50,51,52,53,54,55,56,57]⟩:Str) x0 v5).bind λ v6=>
some v6)
else((divO x0 (10:Int)).bind λ v10=>
(R v10).bind λ v11=>
(modO x0 (10:Int)).bind λ v12=>
(R v12).bind λ v13=>
(catO v11 v13).bind λ v14=>
some v14)
theorem spec_number_w{R:Int->Option Str}(hR:∀ {x0:Int} {r:Str},R x0=some r->Fn prog 46 [dt x0] (dt r)){x0:Int}(h:zbf R x0=some r):Fn prog 46 [dt x0] (dt r):=by
 refine fq1 0 func46 λ M _ _ j=>?_
 refine j.z1 λ j=>?_
 refine j.zc h (λ j h=>?_) λ j h=>?_
 ·have⟨v5,p5,h⟩:=bs h
  have⟨v6,p6,h⟩:=bs h
  exact j.ze h
 have⟨v10,p10,v11,p11,h⟩:=Kg h
 have⟨v12,p12,v13,p13,h⟩:=Kg h
 have⟨v14,p14,h⟩:=bs h
 exact j.ze h (hs:=sZ 1 (r:=by exact sc Z (xDiv Z T cI p10)<|sc Z (oK (hR p11))<|sZ 1 (r:=by exact sc Z (xMod Z T cI p12)<|sc Z (oK (hR p13))<|segZ)))
def wy:Nat->Int->Option Str
 | 0=>λ _=>none
 | n+1=>zbf (wy n)
theorem wY:∀ (n:Nat) {x0:Int} {r:Str},wy n x0=some r->Fn prog 46 [dt x0] (dt r)
 | 0,_,_,h=>nomatch h
 | n+1,_,_,h=>spec_number_w (wY n) h
def ZQ(x0:Str):Option Str:=
if(decide (x0=(⟨[]⟩:Str)))=true then(some (⟨[45]⟩:Str))
else(some x0)
theorem JD(h:ZQ x0=some r):Fn prog 89 [dt x0] (dt r):=by
 refine fq1 0 func89 λ M _ _ j=>?_
 refine j.z1 λ j=>?_
 refine j.zc h (λ j h=>?_) λ j h=>?_
 ·exact j.ze h
 exact j.ze h
instance:Ct1 prog 89 dt dt ZQ:=⟨λ h=>JD h⟩
def yZ(x0:Stmt):Option Str:=
if cmpI .eql x0.kind 0 then((catO (⟨[105,109,112,111,114,116,32]⟩:Str) x0.module).bind λ v6=>
some v6)
else(if cmpI .eql x0.kind 1 then((wy 4 x0.level).bind λ v12=>
(catO (⟨[102,114,111,109,32]⟩:Str) v12).bind λ v13=>
(catO v13 (⟨[32]⟩:Str)).bind λ v14=>
(ZQ x0.module).bind λ v15=>
(catO v14 v15).bind λ v16=>
(catO v16 (⟨[32]⟩:Str)).bind λ v17=>
(catO v17 x0.name).bind λ v18=>
some v18)
else(if cmpI .eql x0.kind 2 then((catO (⟨[115,116,97,114,32]⟩:Str) x0.module).bind λ v30=>
some v30)
else(if cmpI .eql x0.kind 3 then((catO (⟨[115,101,116,32]⟩:Str) x0.name).bind λ v36=>
(catO v36 (⟨[32]⟩:Str)).bind λ v37=>
(wy 4 x0.value).bind λ v38=>
(catO v37 v38).bind λ v39=>
some v39)
else(if cmpI .eql x0.kind 4 then((catO (⟨[112,114,105,110,116,32]⟩:Str) x0.name).bind λ v48=>
some v48)
else(some (⟨[102,97,105,108]⟩:Str))))))
theorem zdZ{x0:Stmt}(h:yZ x0=some r):Fn prog 55 [dt x0] (dt r):=by
 refine fq1 0 func55 λ M _ _ j=>?_
 refine j.z1 λ j=>?_
 refine j.z1 λ j=>?_
 refine j.zc h (λ j h=>?_) λ j h=>?_
 ·have⟨v6,p6,h⟩:=bs h
  exact j.ze h
 refine j.zc h (λ j h=>?_) λ j h=>?_
 ·have⟨v12,p12,h⟩:=bs h
  have⟨v13,p13,v14,p14,h⟩:=Kg h
  have⟨v15,p15,v16,p16,h⟩:=Kg h
  have⟨v17,p17,v18,p18,h⟩:=Kg h
  refine j.zw (λ j=>?_) (hs:=sV 2 (r:=by exact sw Z (zA (l:=[.tmp 13]) Z (.cons T .nil) (wY _ p12))<|sw Z (xCat Z (zt) T p13)<|sw Z (xCat Z T (zt) p14)<|sV 2 (r:=by exact sw Z (zA (l:=[.tmp 18]) Z (.cons T .nil) (JD p15))<|sw Z (xCat Z T T p16)<|sw Z (xCat Z T (zt) p17)<|sV 2 (r:=by exact sw Z (xCat Z T T p18)<|sw Z (oA Z T)<|.nil))))
  exact j.ret Z Z h
 refine j.zc h (λ j h=>?_) λ j h=>?_
 ·have⟨v30,p30,h⟩:=bs h
  exact j.ze h
 refine j.zc h (λ j h=>?_) λ j h=>?_
 ·have⟨v36,p36,h⟩:=bs h
  have⟨v37,p37,v38,p38,h⟩:=Kg h
  have⟨v39,p39,h⟩:=bs h
  refine j.zw (λ j=>?_) (hs:=sV 2 (r:=by exact sw Z (xCat Z (zt) T p36)<|sw Z (xCat Z T (zt) p37)<|sV 2 (r:=by exact sw Z (zA (l:=[.tmp 37]) Z (.cons T .nil) (wY _ p38))<|sw Z (xCat Z T T p39)<|sw Z (oA Z T)<|.nil)))
  exact j.ret Z Z h
 refine j.zc h (λ j h=>?_) λ j h=>?_
 ·have⟨v48,p48,h⟩:=bs h
  exact j.ze h
 exact j.ze h
instance:Ct1 prog 55 dt dt yZ:=⟨λ h=>zdZ h⟩
def wL(x0:File):Option Str:=
Option.bind (α:=Str) (if x0.init=true then(some (⟨[42]⟩:Str))
else(some x0.name)) λ o3=>
(wy 4 x0.root).bind λ v9=>
(catO (⟨[102,105,108,101,32]⟩:Str) v9).bind λ v10=>
(catO v10 (⟨[32]⟩:Str)).bind λ v11=>
(ZQ x0.pkg).bind λ v12=>
(catO v11 v12).bind λ v13=>
(catO v13 (⟨[32]⟩:Str)).bind λ v14=>
(catO v14 o3).bind λ v15=>
(catO v15 (⟨[32]⟩:Str)).bind λ v16=>
(wy 4 x0.stamp).bind λ v17=>
(catO v16 v17).bind λ v18=>
some v18
theorem zd0{x0:File}(h:wL x0=some r):Fn prog 54 [dt x0] (dt r):=by
 refine fq1 0 func54 λ M w0 _ j=>?_
 refine j.z1 λ j=>?_
 refine j.z1 (λ j=>za ?_)
 refine j.jm [1] (λ o3=>[(3,dt o3)]) h (λ o3 p3=>?_) λ o3 _ _ j h=>?_
 ·refine j.zc p3 (λ j h=>?_) λ j h=>?_
  ·refine j.z1 λ j=>?_
   cases h
   exact fz
  cases h
  exact fz
 have⟨v9,p9,v10,p10,h⟩:=Kg h
 have⟨v11,p11,v12,p12,h⟩:=Kg h
 have⟨v13,p13,v14,p14,h⟩:=Kg h
 have⟨v15,p15,v16,p16,h⟩:=Kg h
 have⟨v17,p17,v18,p18,h⟩:=Kg h
 refine j.zw (λ j=>?_) (hs:=sV 2 (r:=by exact sw Z (zA (l:=[.tmp 9]) Z (.cons T .nil) (wY _ p9))<|sw Z (xCat Z (zt) T p10)<|sw Z (xCat Z T (zt) p11)<|sV 2 (r:=by exact sw Z (zA (l:=[.tmp 14]) Z (.cons T .nil) (JD p12))<|sw Z (xCat Z T T p13)<|sw Z (xCat Z T (zt) p14)<|sV 1 (r:=by exact sw Z (xCat Z T T p15)<|sw Z (xCat Z T (zt) p16)<|sV 2 (r:=by exact sw Z (zA (l:=[.tmp 22]) Z (.cons T .nil) (wY _ p17))<|sw Z (xCat Z T T p18)<|sw Z (oA Z T)<|.nil)))))
 exact j.ret Z Z h
instance:Ct1 prog 54 dt dt wL:=⟨λ h=>zd0 h⟩
def yg(x0:Tree)(s5:Str×Int)(s21:Str×Int):Option ((Str×Int)⊕Str):=
(atI x0.files s5.2).bind λ v23=>
if(cmpI .lss s21.2 (v23.body.length:Int))=true then((atI x0.files s5.2).bind λ v28=>
(atI v28.body s21.2).bind λ v29=>
(yZ v29).bind λ v30=>
(catO s21.1 v30).bind λ v31=>
(catO v31 (⟨[10]⟩:Str)).bind λ v32=>
(i64 (s21.2+(1:Int))).bind λ v39=>
some (.inl (v32,v39)))
else(some (.inr s21.1))
def yh(x0:Tree)(s5:Str×Int):Option ((Str×Int)⊕Str):=
if(cmpI .lss s5.2 (x0.files.length:Int))=true then(Option.bind (α:=Str) ((atI x0.files s5.2).bind λ v11=>
(wL v11).bind λ v12=>
(catO s5.1 v12).bind λ v13=>
(catO v13 (⟨[10]⟩:Str)).bind λ v14=>
zP (λ s21=>yg x0 s5 s21) (v14,(0:Int))) λ o10=>
(i64 (s5.2+(1:Int))).bind λ v44=>
some (.inl (o10,v44)))
else(some (.inr s5.1))
def je(x0:Tree):Option Str:=
Option.bind (α:=Str) (zP (λ s5=>yh x0 s5) ((⟨[]⟩:Str),(0:Int))) λ o3=>
some o3
theorem zbg{x0:Tree}(h:je x0=some r):Fn prog 21 [dt x0] (dt r):=by
 refine fq1 0 func21 λ M w0 _ j=>?_
 refine j.z1 λ j=>?_
 refine j.z1 (λ j=>za ?_)
 refine j.jm [] (λ o3=>[(3,dt o3)]) h (λ o3 p3=>?_) λ o3 _ _ j h=>?_
 ·refine j.z1 λ j=>?_
  refine wql p3 (λ s5 a w=>Sx (Frm.of w0) 47 M M [] [(1,dptr x0),(3,dt s5.1),(4,dt s5.2)] [] a w) (j.sel0 [1,3,4]) ?_
  rintro s5 z5 _ _ j hs5 hx5
  have h:yh x0 s5=some z5:=hs5
  unfold yh at h
  refine j.zc h (λ j h=>?_) λ j h=>?_
  ·refine wqk ?_
   refine za ?_
   refine j.jm [1,4] (λ o10=>[(3,dt o10)]) h (λ o10 p10=>?_) λ o10 _ _ j h=>?_
   ·have⟨v11,p11,h⟩:=bs p10
    have⟨v12,p12,v13,p13,h⟩:=Kg h
    have⟨v14,p14,h⟩:=bs h
    refine j.z1 λ j=>?_
    refine j.z1 λ j=>?_
    refine wql h (λ s21 a w=>Sx (Frm.of w0) 47 M M [] [(1,dptr x0),(3,dt s21.1),(4,dt s5.2),(5,dt s21.2)] [] a w) (j.sel0 [1,3,4,5]) ?_
    rintro s21 z21 _ _ j hs21 hx21
    have h:yg x0 s5 s21=some z21:=hs21
    unfold yg at h
    have⟨v23,p23,h⟩:=bs h
    refine j.zc h (λ j h=>?_) λ j h=>?_
    ·have⟨v28,p28,h⟩:=bs h
     have⟨v29,p29,v30,p30,h⟩:=Kg h
     have⟨v31,p31,v32,p32,h⟩:=Kg h
     refine j.z1 λ j=>?_
     have⟨v39,p39,h⟩:=bs h
     exact j.zn [] h
    have h:=lo h hx21
    cases h
    exact fz
   have⟨v44,p44,h⟩:=bs h
   exact j.zn [] h
  have h:=lo h hx5
  cases h
  exact fz
 exact j.ze h
instance:Ct1 prog 21 dt dt je:=⟨λ h=>zbg h⟩
def jl(x0:Str)(s5:Int×Int):Option ((Int×Int)⊕(Int⊕Int)):=
if(cmpI .lss s5.2 (x0.l.length:Int))=true then((atI x0.l s5.2).bind λ v10=>
(gO (cmpB .lss v10 (UInt8.ofNat 48) == false) (atI x0.l s5.2)).bind λ v11=>
if((cmpB .lss v10 (UInt8.ofNat 48)||cmpB .gtr v11 (UInt8.ofNat 57))||cmpI .gtr s5.1 9)=true then(some (.inr (.inr (-1:Int))))
else((i64 ((10:Int)*s5.1)).bind λ v20=>
(atI x0.l s5.2).bind λ v21=>
(i64 (v20+((v21 - (UInt8.ofNat 48)).toNat:Int))).bind λ v22=>
(i64 (s5.2+(1:Int))).bind λ v27=>
some (.inl (v22,v27))))
else(some (.inr (.inl s5.1)))
def yD(x0:Str):Option Int:=
Option.bind (α:=Int⊕Int) (zP (λ s5=>jl x0 s5) ((0:Int),(0:Int))) (Sum.elim (λ b3=>
(gO (decide (x0=(⟨[]⟩:Str)) == false) (wy 4 b3)).bind λ v32=>
if(decide (x0=(⟨[]⟩:Str))||decide (x0≠v32))=true then(some (-1:Int))
else(some b3)) some)
theorem qG{r:Int}(h:yD x0=some r):Fn prog 79 [dt x0] (dt r):=by
 refine fq1 0 func79 λ M w0 _ j=>?_
 refine j.z1 λ j=>?_
 refine j.z1 (λ j=>za ?_)
 refine j.jb [0] (λ b3=>[(3,dt b3)]) h (λ o3 p3 k3=>?_) λ b3 _ _ j h=>?_
 ·refine j.z1 λ j=>?_
  refine wql p3 (λ s5 a w=>Sx (Frm.of w0) 42 M M [] [(0,dt x0),(3,dt s5.1),(4,dt s5.2)] [] a w) (j.sel0 [0,3,4]) ?_
  rintro s5 z5 _ _ j hs5 hx5
  have h:jl x0 s5=some z5:=hs5
  unfold jl at h
  refine j.zc h (λ j h=>?_) λ j h=>?_
  ·have⟨v10,p10,h⟩:=bs h
   have⟨v11,p11,h⟩:=bs h
   refine j.zc h (λ j h=>?_) λ j h=>?_
   ·exact j.ze (jo (lo h hx5) k3)
   have⟨v20,p20,v21,p21,h⟩:=Kg h
   have⟨v22,p22,h⟩:=bs h
   refine j.z1 (λ j=>?_) (hs:=sZ 5 (r:=by exact sc Z (xSub8 Z T (We))<|sc Z (xCvI Z T)<|segZ))
   have⟨v27,p27,h⟩:=bs h
   exact j.zn [] h
  have h:=lo h hx5
  exact flz h
 have⟨v32,p32,h⟩:=bs h
 refine j.zc h (λ j h=>?_) (λ j h=>?_) (hs:=sZ 5 (r:=by exact sg Z Z (λ hg=>oK (wY _ (gh hg p32)))<|segZ))
 ·exact j.ze h
 exact j.ze h
instance:Ct1 prog 79 dt dt yD:=⟨λ h=>qG h⟩
def qk(x0:Str):Option Str:=
if(decide (x0=(⟨[45]⟩:Str)))=true then(some (⟨[]⟩:Str))
else(some x0)
theorem Wk(h:qk x0=some r):Fn prog 80 [dt x0] (dt r):=by
 refine fq1 0 func80 λ M _ _ j=>?_
 refine j.z1 λ j=>?_
 refine j.zc h (λ j h=>?_) λ j h=>?_
 ·exact j.ze h
 exact j.ze h
instance:Ct1 prog 80 dt dt qk:=⟨λ h=>Wk h⟩
def ZE(x0:List Str):Option Stmt:=
(atI x0 0).bind λ v3=>
if(decide (v3=(⟨[105,109,112,111,114,116]⟩:Str))&&cmpI .eql (x0.length:Int) 2)=true then((atI x0 1).bind λ v8=>
some (⟨(0:Int),v8,0,⟨[]⟩,0⟩:Stmt))
else((atI x0 0).bind λ v13=>
if(decide (v13=(⟨[102,114,111,109]⟩:Str))&&cmpI .eql (x0.length:Int) 4)=true then((atI x0 1).bind λ v18=>
(yD v18).bind λ v19=>
(atI x0 2).bind λ v20=>
(qk v20).bind λ v21=>
(atI x0 3).bind λ v22=>
some (⟨(1:Int),v21,v19,v22,0⟩:Stmt))
else((atI x0 0).bind λ v31=>
if(decide (v31=(⟨[115,116,97,114]⟩:Str))&&cmpI .eql (x0.length:Int) 2)=true then((atI x0 1).bind λ v36=>
some (⟨(2:Int),v36,0,⟨[]⟩,0⟩:Stmt))
else((atI x0 0).bind λ v41=>
if(decide (v41=(⟨[115,101,116]⟩:Str))&&cmpI .eql (x0.length:Int) 3)=true then((atI x0 1).bind λ v46=>
(atI x0 2).bind λ v47=>
(yD v47).bind λ v48=>
some (⟨(3:Int),⟨[]⟩,0,v46,v48⟩:Stmt))
else((atI x0 0).bind λ v55=>
if(decide (v55=(⟨[112,114,105,110,116]⟩:Str))&&cmpI .eql (x0.length:Int) 2)=true then((atI x0 1).bind λ v60=>
some (⟨(4:Int),⟨[]⟩,0,v60,0⟩:Stmt))
else((atI x0 0).bind λ v65=>
if(decide (v65=(⟨[102,97,105,108]⟩:Str))&&cmpI .eql (x0.length:Int) 1)=true then(some (⟨(5:Int),⟨[]⟩,0,⟨[]⟩,0⟩:Stmt))
else(some (⟨(-1:Int),⟨[]⟩,0,⟨[]⟩,0⟩:Stmt)))))))
theorem zd1{x0:List Str}{r:Stmt}(h:ZE x0=some r):Fn prog 42 [dt x0] (dt r):=by
 refine fq1 1 func42 λ M _ _ j=>?_
 refine Ka ?_
 refine j.alA 0 QY [0] [] (λ b2 j=>Kb ?_)
 have⟨v3,p3,h⟩:=bs h
 refine j.zd [(2,0)] h (λ j h=>?_) λ j h=>?_
 ·refine Ka ?_
  have⟨v8,p8,h⟩:=bs h
  refine j.zh 4 [(2,0)] (λ j=>?_) (hs:=sZ 1 (r:=by exact sc Z (xIdx Z T cI p8)<|sZ 1 (r:=by exact sc Z (JY Z cI T)<|.nil)))
  refine j.stA 2 0 FldS.id (tp Z) [] [] (λ j=>Kb ?_)
  exact j.yB h
 have⟨v13,p13,h⟩:=bs h
 refine j.zd [(2,0)] h (λ j h=>?_) λ j h=>?_
 ·have⟨v18,p18,h⟩:=bs h
  have⟨v19,p19,v20,p20,h⟩:=Kg h
  have⟨v21,p21,v22,p22,h⟩:=Kg h
  refine j.zu 12 [(2,0)] (λ j=>?_) (hs:=sV 1 (r:=by exact sw Z (xIdx Z T cI p18)<|sV 1 (r:=by exact sw Z (zA (l:=[.tmp 29]) Z (.cons T .nil) (qG p19))<|sV 1 (r:=by exact sw Z (xIdx Z T cI p20)<|sV 1 (r:=by exact sw Z (zA (l:=[.tmp 33]) Z (.cons T .nil) (Wk p21))<|sV 1 (r:=by exact sw Z (xIdx Z T cI p22)<|sV 1 (r:=by exact sw Z (zcq Z cI T T T)<|.nil)))))))
  refine j.store (sb:=2) 0 FldS.id Z Z Z kT74 Z Z (tp Z) Z [] Z [] Z Z (λ _ _ j=>Kb ?_)
  exact j.yB h
 have⟨v31,p31,h⟩:=bs h
 refine j.zd [(2,0)] h (λ j h=>?_) λ j h=>?_
 ·refine Ka ?_
  have⟨v36,p36,h⟩:=bs h
  refine j.zh 4 [(2,0)] (λ j=>?_) (hs:=sZ 1 (r:=by exact sc Z (xIdx Z T cI p36)<|sZ 1 (r:=by exact sc Z (JY Z cI T)<|.nil)))
  refine j.stA 2 0 FldS.id (tp Z) [] [] (λ j=>Kb ?_)
  exact j.yB h
 have⟨v41,p41,h⟩:=bs h
 refine j.zd [(2,0)] h (λ j h=>?_) λ j h=>?_
 ·have⟨v46,p46,h⟩:=bs h
  have⟨v47,p47,v48,p48,h⟩:=Kg h
  refine j.zu 8 [(2,0)] (λ j=>?_) (hs:=sV 1 (r:=by exact sw Z (xIdx Z T cI p46)<|sV 2 (r:=by exact sw Z (xIdx Z T cI p47)<|sV 1 (r:=by exact sw Z (zA (l:=[.tmp 68]) Z (.cons T .nil) (qG p48))<|sw Z (W3 Z cI T T)<|.nil))))
  refine j.store (sb:=2) 0 FldS.id Z Z Z kT74 Z Z (tp Z) Z [] Z [] Z Z (λ _ _ j=>Kb ?_)
  exact j.yB h
 have⟨v55,p55,h⟩:=bs h
 refine j.zd [(2,0)] h (λ j h=>?_) λ j h=>?_
 ·refine Ka ?_
  have⟨v60,p60,h⟩:=bs h
  refine j.zh 4 [(2,0)] (λ j=>?_) (hs:=sZ 1 (r:=by exact sc Z (xIdx Z T cI p60)<|sZ 1 (r:=by exact sc Z (kD74_0_3 Z cI T)<|.nil)))
  refine j.stA 2 0 FldS.id (tp Z) [] [] (λ j=>Kb ?_)
  exact j.yB h
 have⟨v65,p65,h⟩:=bs h
 refine j.zd [(2,0)] h (λ j h=>?_) λ j h=>?_
 ·refine Ka ?_
  refine j.zh 1 [(2,0)] (λ j=>?_) (hs:=sc Z (zc7 Z cI)<|.nil)
  refine j.stA 2 0 FldS.id (tp Z) [] [] (λ j=>Kb ?_)
  exact j.yB h
 refine Ka ?_
 refine j.zh 1 [(2,0)] (λ j=>?_) (hs:=sc Z (zc7 Z cI)<|.nil)
 refine j.stA 2 0 FldS.id (tp Z) [] [] (λ j=>Kb ?_)
 exact j.yB h
instance:Ct1 prog 42 dt dt ZE:=⟨λ h=>zd1 h⟩
def ql(x0:List Str):Option File0:=
(atI x0 1).bind λ v3=>
(yD v3).bind λ v4=>
(atI x0 2).bind λ v5=>
(qk v5).bind λ v6=>
(atI x0 3).bind λ v7=>
(atI x0 4).bind λ v8=>
(yD v8).bind λ v9=>
Option.bind (α:=File0) (if(decide ((⟨v4,v6,v7,false,v9,(⟨⟩:Nil0)⟩:File0).name=(⟨[42]⟩:Str)))=true then(some ({ { (⟨v4,v6,v7,false,v9,(⟨⟩:Nil0)⟩:File0) with name:=(⟨[]⟩:Str) } with init:=true }))
else(some (⟨v4,v6,v7,false,v9,(⟨⟩:Nil0)⟩:File0))) λ o20=>
some o20
theorem QF{x0:List Str}{r:File0}(h:ql x0=some r):Fn prog 41 [dt x0] (dt r):=by
 unfold ql at h
 refine fnx (fn:=f41) 2 func41 Z Z (λ M w0 _ j=>Kc ?_)
 refine Ka ?_
 refine j.alA 0 zrFile0 [0] [] (λ b2 j=>Kb ?_)
 refine za ?_
 refine Kc ?_
 have⟨v3,p3,v4,p4,h⟩:=Kg h
 have⟨v5,p5,v6,p6,h⟩:=Kg h
 have⟨v7,p7,v8,p8,h⟩:=Kg h
 have⟨v9,p9,h⟩:=bs h
 refine j.alc (D:=[_,_,_,_,_,_,_,_,_,_,_,_,_,_,_,_,WQ]) [mkBox 16 3 71 zcFile0 1 zFile0 zrFile0] yc 17 [[(0,nS)],[(4,0)],[(5,1)],[(6,2)],[(0,nS)],[(8,4)],[(9,5)],[(10,6)],[(0,nS)],[(12,8)],[(13,9)],[(0,nS)],[(15,11)],[(16,12)],[(17,13)],[(7,3),(11,7),(14,10),(18,14)],[],[(3,16),(19,15)]] (by decide +kernel) (by decide) (by decide +kernel) ⟨kZ71,trivial⟩ (by decide) (by decide) (by simp[mkBox]) (λ M17 hM17=>
  ac Z Z Z (oM Z T)<|
  ac Z Z Z (xIdx Z T cI p3)<|
  ac Z Z Z (zz Z T)<|
  ac Z Z Z (zA (l:=[.tmp 6]) Z (.cons T .nil) (qG p4))<|
  ac Z Z Z (oM Z T)<|
  ac Z Z Z (xIdx Z T cI p5)<|
  ac Z Z Z (zz Z T)<|
  ac Z Z Z (zA (l:=[.tmp 10]) Z (.cons T .nil) (Wk p6))<|
  ac Z Z Z (oM Z T)<|
  ac Z Z Z (xIdx Z T cI p7)<|
  ac Z Z Z (zz Z T)<|
  ac Z Z Z (oM Z T)<|
  ac Z Z Z (xIdx Z T cI p8)<|
  ac Z Z Z (zz Z T)<|
  ac Z Z Z (zA (l:=[.tmp 17]) Z (.cons T .nil) (qG p9))<|
  ac Z Z Z (kD71_0_1_2_4z Z T T T T)<|
  al Z Z<|.nil) [19] Z [2] Z Z Z Z (λ β17 M17 _ _ j=>?_)
 refine j.stA 3 1 FldS.id (tp Z) [] [2] (λ j=>Kb ?_)
 refine za ?_
 have⟨o20,p20,k20⟩:=bs h
 refine jg (λ a w=>∃ M1 Q R,Sx (Frm.of w0) 26 M M1 [oneB Q,oneB R] [] [(2,0,dbox Q 0 zFile0),(3,1,dbox R 0 o20)] a w) ?_ ?_
 ·refine j.sqB (sc Z (yM File0.fld2 Z (ht:=zc1) T)<|
   sc Z (yx Z T)<|
   sc Z (jx Z T (zt))<|.nil) [22] [(2,0),(3,1)] (λ j=>?_)
  refine j.cs p20 (λ _ h=>?_) λ _ h=>?_
  ·refine Kc ?_
   refine Ka ?_
   refine j.segB 1 (sc Z (yM File0.fld2 Z (ht:=zc1) T)<|.nil) [] [(2,0),(3,1),(23,1)] λ j=>?_
   refine j.store (sb:=3) 1 File0.set2 Z Z Z kT9 Z Z (zt) Z [] Z [2] Z Z (λ _ _ j=>Kb ?_)
   refine za ?_
   refine Ka ?_
   refine j.segB 1 (sc Z (yM File0.fld3 Z T)<|.nil) [] [(2,0),(3,1),(24,1)] λ j=>?_
   refine j.store (sb:=3) 1 File0.set3 Z Z Z kT4 Z Z cB Z [] Z [2] Z Z (λ _ _ j=>Kb ?_)
   refine za ?_
   cases h
   exact fx
  refine wp_skip ?_
  refine za ?_
  cases h
  exact fx
 rintro _ _ ⟨_,Q,R,j⟩
 have h:=k20
 refine Kc ?_
 refine Ka ?_
 refine j.segC 1 [25] [(2,0)] λ j=>?_
 refine j.stA 2 0 FldS.id (tp Z) [] [] (λ j=>Kb ?_)
 refine za ?_
 refine wp_ret ?_
 exact j.yB h
instance:Ct1 prog 41 dt dt ql:=⟨λ h=>QF h⟩
def wM(v12:List Str)(s18:Tree×Tree×Int):Option ((Tree×Tree×Int)⊕((Tree×Tree)⊕(Tree×Bool))):=
(i64 (s18.2.2+(1:Int))).bind λ v20=>
if(cmpI .lss v20 (v12.length:Int))=true then(Option.bind (α:=(Tree×Tree)⊕((Tree×Tree×Int)⊕((Tree×Tree)⊕(Tree×Bool)))) ((atI v12 s18.2.2).bind λ v26=>
(xG v26 (UInt8.ofNat 32)).bind λ v27=>
(atI v27 0).bind λ v31=>
if(decide (v31=(⟨[102,105,108,101]⟩:Str))&&cmpI .eql (v27.length:Int) 5)=true then((ql v27).bind λ v38=>
(appO 80 s18.2.1.files (([v38]:List File0).map File0.f)).bind λ v44=>
some (.inl (s18.1,(⟨v44⟩:Tree))))
else((i64 ((s18.2.1.files.length:Int) - (1:Int))).bind λ v53=>
if cmpI .lss v53 0 then(some (.inr (.inr (.inr ((⟨[]⟩:Tree),false)))))
else((atI s18.2.1.files v53).bind λ v77=>
(ZE v27).bind λ v82=>
(appO 56 v77.body ([v82]:List Stmt)).bind λ v91=>
(atI s18.2.1.files v53).bind λ _v95=>
some (.inl (s18.1,(⟨(s18.2.1.files.set v53.toNat ({ v77 with body:=v91 }))⟩:Tree)))))) (Sum.elim (λ b25=>
(i64 (s18.2.2+(1:Int))).bind λ v167=>
some (.inl (b25.1,b25.2,v167))) some))
else(some (.inr (.inl (s18.1,s18.2.1))))
def qH(x0:Str):Option (Tree×Bool):=
(xG x0 (UInt8.ofNat 10)).bind λ v12=>
Option.bind (α:=(Tree×Tree)⊕(Tree×Bool)) (zP (λ s18=>wM v12 s18) (XE,(⟨[]⟩:Tree),(0:Int))) (Sum.elim (λ b15=>
(i64 ((v12.length:Int) - (1:Int))).bind λ v173=>
(atI v12 v173).bind λ v174=>
(gO (decide (v174=(⟨[]⟩:Str)) == true) (xP b15.2)).bind λ v175=>
(gO ((decide (v174=(⟨[]⟩:Str))&&v175) == true) (je b15.2)).bind λ v176=>
some (b15.2,((decide (v174=(⟨[]⟩:Str))&&v175)&&decide (v176=x0)))) some)
theorem spec_parse_w{r:Tree×Bool}(h:qH x0=some r):Fn prog 17 [dt x0] (dtup [dt r.1,dt r.2]):=by
 refine fq1 6 func17 λ M w0 _ y=>?_
 refine Ka ?_
 refine y.alA 4 zrTree [0] [] λ b2 y=>?_
 have y:=y.gn
 refine y.zh 1 [(2,4)] (λ y=>Kb ?_)
 refine Ka ?_
 refine y.bldW (ow:=oTr) (parts:=[]) (ns:=[1]) (zs:=zcU) (x:=(⟨[]⟩:Tree)) 0 [] (by simp) ((oTr).more (owTree.mk (x:=(⟨[]⟩:Tree)) (Ow.row_z _ _)) (λ b=>(λ hb=>hb.elim))) [0] [2] @λ G5 _ _ y=>?_
 have y:=y.gs (Gs':=[G5,oneB none,oneB none,oneB none,oneB (some b2),oneB none])
 have y:=y.gs (Gs':=[G5,oneB none,oneB none,oneB none,oneB (some b2),oneB none])
 refine y.alcW (ow:=oTr) 5 (owTree.z Ow.row_z) [0] [2,9] λ b8 _ _ _ y=>?_
 have y:=y.gn
 refine y.stO (sb:=4) (tv:=9) 5 0 Pb (zU Z) [0] [2] λ y=>?_
 have y:=y.gn
 refine Kb ?_
 have⟨v12,p12,h⟩:=bs h
 refine y.zo [(2,4),(4,5)] (λ y=>za ?_)
 have⟨o15,p15,k15⟩:=bs h
 refine wqj (λ a w=>∃ b15,o15=.inl b15/\(∃ M1 Q R W X Y A,Sx (Frm.of w0) 80 M M1 [Q,R,W,X,oneB Y,A] [(0,dt x0),(5,dt v12)] [(2,4,dbox Y 0 b15.1),(4,5,dow (Ow.box oTr) A ⟨b15.2⟩)] a w)) ?_ ?_
 ·refine y.zo [(2,4),(4,5)] λ y=>?_
  have y:=y.unm (s:=4) 5 [2]
  refine wql p15 (λ s18 a w=>∃ M1 Q R W X Y A,Sx (Frm.of w0) 80 M M1 [Q,R,W,X,oneB Y,A] [(0,dt x0),(5,dt v12),(6,dt s18.2.2)] [(2,4,dbox Y 0 s18.1),(4,5,dow (Ow.box oTr) A ⟨s18.2.1⟩)] a w) fx ?_
  rintro s18 z18 _ _ ⟨_,Q,R,W,X,Y,A,y⟩ hs18 hx18
  have h:wM v12 s18=some z18:=hs18
  unfold wM at h
  have⟨v20,p20,h⟩:=bs h
  refine y.zd [(2,4),(4,5)] h (λ y h=>?_) λ y h=>?_
  ·refine wqk ?_
   refine za ?_
   have⟨o25,p25,k25⟩:=bs h
   refine wqj (λ a w=>∃ b25,o25=.inl b25/\(∃ M1 Q R W X Y A,Sx (Frm.of w0) 80 M M1 [Q,R,W,X,oneB Y,A] [(0,dt x0),(5,dt v12),(6,dt s18.2.2)] [(2,4,dbox Y 0 b25.1),(4,5,dow (Ow.box oTr) A ⟨b25.2⟩)] a w)) ?_ ?_
   ·have⟨v26,p26,h⟩:=bs p25
    have⟨v27,p27,h⟩:=bs h
    refine y.zo [(2,4),(4,5)] λ y=>?_
    have⟨v31,p31,h⟩:=bs h
    refine y.zd [(2,4),(4,5)] h (λ y h=>?_) λ y h=>?_
    ·have⟨v38,p38,h⟩:=bs h
     refine y.nmB (s:=4) 5 [2] λ b36 y=>?_
     refine y.hdA 4 5 (Pb.fld owTree.f0) [2] λ g37 A37 _ hA37 y=>?_
     refine y.zu 5 [(2,4),(4,5)] (λ y=>?_) (hs:=sw Z (xFa Z Xt U)<|sw Z (xLc (sb:=4) (.head _) Z Z Z T Z)<|sV 1 (r:=by exact sw Z (zA (l:=[.tmp 35]) Z (.cons T .nil) (QF p38))<|sw Z (yf (opds:=[.tmp 36]) Z Z Z (.cons T .nil))<|.nil))
     refine y.mvG (s:=34) (sb:=4) 5 1 (Pb.fld owTree.f0) (.head _) (yA Z Z) [0,5,6,37] [2] λ y=>?_
     have y:=y.gn
     have⟨v44,p44,h⟩:=bs h
     refine y.app0 1 Z Z kE37 Z T p44 [0,5,6] Z [2,4] Z Z λ _ _ _ _ y=>?_
     have y:=y.gn
     refine y.zh 1 [(2,4),(4,5),(38,1)] (λ y=>?_) (hs:=sc Z (xFa Z Xt (opd_hl Z))<|.nil)
     refine y.shA 4 38 5 1 (tp Z) [0,5,6] [2] λ y=>?_
     have y:=y.gn
     refine Kb ?_
     have y:=y.unm (s:=4) 5 [2]
     exact flz h
    have⟨v53,p53,h⟩:=bs h
    refine y.nmB (s:=4) 5 [2] λ b51 y=>?_
    refine y.hdA 4 5 (Pb.fld owTree.f0) [2] λ g52 A52 _ hA52 y=>?_
    refine y.zo [(2,4),(4,5)] (λ y=>?_) (hs:=sc Z (xFa Z Xt U)<|sc Z (xLc (sb:=4) (.head _) Z Z Z T Z)<|sc Z (xLe Z T)<|segZ)
    have y:=y.ncf (s:=4) 5 [2]
    refine y.zd [(2,4),(4,5)] h (λ y h=>?_) λ y h=>?_
    ·refine Ka ?_
     refine y.zh 1 [(2,4)] (λ y=>?_) (hs:=sc Z (yp (parts:=[]) (ns:=[1]) (zs:=zcU) Z Z (λ w a hl=>by simp) (λ w a hl=>Tree.parts (x:=(⟨[]⟩:Tree)) Y7))<|.nil)
     refine y.stA 2 4 FldS.id (tp Z) [] [] λ y=>?_
     refine y.zh 1 [(2,4)] (λ y=>Kb ?_)
     have h:=jo h k25
     have h:=lo h hx18
     have h:=jo h k15
     cases h
     exact y.y2
    refine y.hdA 4 5 (Pb.fld owTree.f0) [2] λ g67 A67 c67 hA67 y=>?_
    refine y.held (λ w=>w.cell? ⟨b51,0,none⟩=some (.slice A67 (s18.2.1.files.length) c67)) yc λ _ y=>?_
    refine y.tk (i:=0) Z Z (by decide +kernel) (by decide +kernel) (by decide +kernel) (λ _ _ _ h=>h) (y.cellS (sb:=4) (.head _)) (yFa Z Xt (y.st.has 4 _ Z).1) λ _ y=>?_
    refine y.tk (i:=1) Z Z (by decide +kernel) (by decide +kernel) (by decide +kernel) (λ _ _ _ h=>h) (y.cellS (sb:=4) (.head _)) (yLd Z (y.st.has 47 _ Z)) λ _ y=>?_
    refine y.tk (i:=3) Z Z (by decide +kernel) (by decide +kernel) (by decide +kernel) (λ _ _ _ h=>h) (y.cellS (sb:=4) (.head _)) (yFa Z Xt (y.st.has 4 _ Z).1) λ _ y=>?_
    refine y.tk (i:=4) Z Z (by decide +kernel) (by decide +kernel) (by decide +kernel) (λ _ _ _ h=>h) (y.cellS (sb:=4) (.head _)) (yLd Z (y.st.has 50 _ Z)) λ _ y=>?_
    refine y.tM 2 8 (y.cellS (sb:=4) (.head _)) λ _ y=>?_
    refine y.tM 5 8 (y.cellS (sb:=4) (.head _)) λ _ y=>?_
    refine y.tM 9 7 (y.cellS (sb:=4) (.head _)) λ _ y=>?_
    refine y.mvN (s:=51) (sb:=4) 5 2 (Pb.fld owTree.f0) (.head _) Z (yA Z Z) Z Z (by simp) (by simp) (by decide) Z (λ _ h=>h) [0,5,6,7,8,45,47,48,49,50,52,56] Z [2] Z Z Z Z (by decide) λ G76 H76 y=>?_
    have⟨v77,p77,v82,p82,h⟩:=Kg h
    have⟨v91,p91,v95,p95,h⟩:=Kg h
    refine y.tkIN (i:=6) (s2:=51) (y.hkS (sb:=4)) kS37 (tp Z) (λ h=>hA67 h Z) p77 λ _ y=>?_
    refine y.tk (i:=7) Z Z (by decide +kernel) (by decide +kernel) (by decide +kernel) (λ _ _ _ h=>h) (y.hkS (sb:=4)) (yFa Z kF71_5 (y.st.has 53 _ Z)) λ _ y=>?_
    refine aH2 (i:=8) (j:=10) Z Z ?_ ?_
    ·refine y.hdA 51 2 ((PV.root.row Z (λ h=>hA67 h Z) p77).fld owFile.f5) [2,4] λ g107 A107 _ hA107 y=>?_
     refine y.zh 1 [(2,4),(4,5),(51,2)] (λ y=>?_) (hs:=sc Z (xLc (sb:=51) (.head _) Z Z Z T Z)<|.nil)
     refine aHN (y.hkS (sb:=4)) ?_
     refine aK1 10 ?_
     refine y.zh 1 [(2,4),(4,5),(51,2)] λ y=>?_
     refine aHN (y.hkS (sb:=4)) ?_
     refine aK1 11 ?_
     refine y.zh 1 [(2,4),(4,5),(51,2)] λ y=>?_
     refine aHN (y.hkS (sb:=4)) ?_
     refine aK1 12 ?_
     refine y.mvG (s:=55) (sb:=51) 2 3 ((PV.root.row Z (λ h=>hA67 h Z) p77).fld owFile.f5) (.head _) (yA Z Z) [0,5,6,48,49,58] [2,4] @λ G112 H112 y=>?_
     have y:=y.gs (Gs':=[Q,R,G112,H112,oneB Y,G76])
     refine y.tipR (s:=55) 3 (by first | (simp;done) | exact oD rfl) [2,4,51] λ g114 y=>?_
     refine y.apA 3 xv p91 [0,5,6,48,49] [2,4,51] λ g116 y=>?_
     have y:=y.gn
     refine aHN (y.hkS (sb:=4)) ?_
     refine aK1 13 ?_
     refine y.zh 1 [(2,4),(4,5),(51,2),(59,3)] (λ y=>?_) (hs:=sc Z (xIa (g:=g67) Z kS37 T T Z (λ h=>hA67 h Z) p95)<|.nil)
     refine aHN (y.hkS (sb:=4)) ?_
     refine aK1 14 ?_
     refine y.zh 1 [(2,4),(4,5),(51,2),(59,3)] λ y=>?_
     refine aHN (y.hkS (sb:=4)) ?_
     refine aK1 15 ?_
     have y:=y.tipW (s:=59) 3 [2,4,51]
     refine y.shA 51 59 2 3 (tp Z) [0,5,6] [2,4] λ y=>?_
     have y:=y.gn
     refine aHN (y.hkS (sb:=4)) ?_
     refine aK0 ?_
     refine y.stG (s:=51) (sb:=4) 5 2 Z (by simp) (by simp) (by decide) Z Z (λ _ h=>h) (λ _ h=>h) [0,5,6] Z [2] Z Z Z λ _ y=>?_
     have y:=y.gn
     have y:=y.unm (s:=4) 5 [2]
     exact flz h
    ·refine y.zh 1 [(2,4),(4,5),(51,2)] λ y=>?_
     refine aHN (y.hkS (sb:=4)) ?_
     refine aK2 8 11 ?_ ?_
     ·refine y.hdA 51 2 ((PV.root.row Z (λ h=>hA67 h Z) p77).fld owFile.f5) [2,4] λ g128 A128 _ hA128 y=>?_
      refine y.zh 1 [(2,4),(4,5),(51,2)] (λ y=>?_) (hs:=sc Z (xLc (sb:=51) (.head _) Z Z Z T Z)<|.nil)
      refine aHN (y.hkS (sb:=4)) ?_
      refine aK1 11 ?_
      refine y.zh 1 [(2,4),(4,5),(51,2)] λ y=>?_
      refine aHN (y.hkS (sb:=4)) ?_
      refine aK1 12 ?_
      refine y.mvG (s:=55) (sb:=51) 2 3 ((PV.root.row Z (λ h=>hA67 h Z) p77).fld owFile.f5) (.head _) (yA Z Z) [0,5,6,48,49,58] [2,4] @λ G132 H132 y=>?_
      have y:=y.gs (Gs':=[Q,R,G132,H132,oneB Y,G76])
      refine y.tipR (s:=55) 3 (by first | (simp;done) | exact oD rfl) [2,4,51] λ g134 y=>?_
      refine y.apA 3 xv p91 [0,5,6,48,49] [2,4,51] λ g136 y=>?_
      have y:=y.gn
      refine aHN (y.hkS (sb:=4)) ?_
      refine aK1 13 ?_
      refine y.zh 1 [(2,4),(4,5),(51,2),(59,3)] (λ y=>?_) (hs:=sc Z (xIa (g:=g67) Z kS37 T T Z (λ h=>hA67 h Z) p95)<|.nil)
      refine aHN (y.hkS (sb:=4)) ?_
      refine aK1 14 ?_
      refine y.zh 1 [(2,4),(4,5),(51,2),(59,3)] λ y=>?_
      refine aHN (y.hkS (sb:=4)) ?_
      refine aK1 15 ?_
      have y:=y.tipW (s:=59) 3 [2,4,51]
      refine y.shA 51 59 2 3 (tp Z) [0,5,6] [2,4] λ y=>?_
      have y:=y.gn
      refine aHN (y.hkS (sb:=4)) ?_
      refine aK0 ?_
      refine y.stG (s:=51) (sb:=4) 5 2 Z (by simp) (by simp) (by decide) Z Z (λ _ h=>h) (λ _ h=>h) [0,5,6] Z [2] Z Z Z λ _ y=>?_
      have y:=y.gn
      have y:=y.unm (s:=4) 5 [2]
      exact flz h
     ·refine y.zh 1 [(2,4),(4,5),(51,2)] λ y=>?_
      refine aHN (y.hkS (sb:=4)) ?_
      refine aK1 8 ?_
      refine y.hdA 51 2 ((PV.root.row Z (λ h=>hA67 h Z) p77).fld owFile.f5) [2,4] λ g148 A148 _ hA148 y=>?_
      refine y.zh 1 [(2,4),(4,5),(51,2)] (λ y=>?_) (hs:=sc Z (xLc (sb:=51) (.head _) Z Z Z T Z)<|.nil)
      refine aHN (y.hkS (sb:=4)) ?_
      refine aK1 12 ?_
      refine y.mvG (s:=55) (sb:=51) 2 3 ((PV.root.row Z (λ h=>hA67 h Z) p77).fld owFile.f5) (.head _) (yA Z Z) [0,5,6,48,49,58] [2,4] @λ G151 H151 y=>?_
      have y:=y.gs (Gs':=[Q,R,G151,H151,oneB Y,G76])
      refine y.tipR (s:=55) 3 (by first | (simp;done) | exact oD rfl) [2,4,51] λ g153 y=>?_
      refine y.apA 3 xv p91 [0,5,6,48,49] [2,4,51] λ g155 y=>?_
      have y:=y.gn
      refine aHN (y.hkS (sb:=4)) ?_
      refine aK1 13 ?_
      refine y.zh 1 [(2,4),(4,5),(51,2),(59,3)] (λ y=>?_) (hs:=sc Z (xIa (g:=g67) Z kS37 T T Z (λ h=>hA67 h Z) p95)<|.nil)
      refine aHN (y.hkS (sb:=4)) ?_
      refine aK1 14 ?_
      refine y.zh 1 [(2,4),(4,5),(51,2),(59,3)] λ y=>?_
      refine aHN (y.hkS (sb:=4)) ?_
      refine aK1 15 ?_
      have y:=y.tipW (s:=59) 3 [2,4,51]
      refine y.shA 51 59 2 3 (tp Z) [0,5,6] [2,4] λ y=>?_
      have y:=y.gn
      refine aHN (y.hkS (sb:=4)) ?_
      refine aK0 ?_
      refine y.stG (s:=51) (sb:=4) 5 2 Z (by simp) (by simp) (by decide) Z Z (λ _ h=>h) (λ _ h=>h) [0,5,6] Z [2] Z Z Z λ _ y=>?_
      have y:=y.gn
      have y:=y.unm (s:=4) 5 [2]
      exact flz h
   rintro _ _ ⟨b25,rfl,⟨_,Q,R,W,X,Y,A,y⟩⟩
   have h:=jn k25
   have⟨v167,p167,h⟩:=bs h
   exact y.zn [(2,4),(4,5)] h
  have h:=lo h hx18
  exact flz h
 rintro _ _ ⟨b15,rfl,⟨_,Q,R,W,X,Y,A,y⟩⟩
 have h:=jn k15
 have y:=y.frzB (s:=4) 5 [0,5] [2]
 have⟨v173,p173,v174,p174,h⟩:=Kg h
 have⟨v175,p175,v176,p176,h⟩:=Kg h
 refine y.late (D:=[_,_,_,_,_,_,_,_,_,_,_,_,_,_,_,_,_,_,WQ]) (sb:=2) 4 FldS.id yc 19 18 [[(4,nS)],[(5,nS)],[(5,nS)],[(64,2)],[(65,3)],[(63,1),(66,4)],[(67,5)],[(68,6)],[(69,7)],[(4,nS),(70,8)],[(71,9),(70,8)],[(70,8),(72,10)],[(73,11)],[(4,nS),(74,12)],[(75,13),(74,12)],[(0,nS),(74,12)],[(76,14),(77,15),(74,12)],[(74,12),(78,16)],[(2,nS),(62,0)],[(79,17)]] (by decide +kernel) (by decide) (by decide) Z (
  lc Z Z Z (zz Z T)<|
  lc Z Z Z (oM Z T)<|
  lc Z Z Z (oM Z T)<|
  lc Z Z Z (Wr Z T)<|
  lc Z Z Z (xAr Z T cI p173)<|
  lc Z Z Z (xIdx Z T T p174)<|
  lc Z Z Z (zz Z T)<|
  lc Z Z Z (jx Z T (zt))<|
  lc Z Z Z (oM Z T)<|
  lg Z Z Z Z (λ hg=>zz Z T)<|
  lg Z Z Z Z (λ hg=>zA (l:=[.tmp 71]) Z (.cons V .nil) (XL (gh hg p175)))<|
  lc Z Z Z (xk Z T T)<|
  lc Z Z Z (oM Z T)<|
  lg Z Z Z Z (λ hg=>zz Z T)<|
  lg Z Z Z Z (λ hg=>zA (l:=[.tmp 75]) Z (.cons V .nil) (zbg (gh hg p176)))<|
  lg Z Z Z Z (λ hg=>oM Z T)<|
  lg Z Z Z Z (λ hg=>jx Z V V)<|
  lc Z Z Z (xk Z T T)<|
  ll Z<|.nil) Z Z Z Z kT39 Z Z T Z [79] Z [] Z Z Z (λ _ _ y=>?_)
 refine y.zh 1 [(2,4)] (λ y=>Kb ?_)
 cases h
 exact y.y2
instance:Ct1 prog 17 dt (λ r=>dtup [dt r.1,dt r.2]) qH:=⟨λ h=>spec_parse_w h⟩
def qm(x0:List Str)(s5:Str×Int):Option ((Str×Int)⊕Str):=
if(cmpI .lss s5.2 (x0.length:Int))=true then(Option.bind (α:=Str) (if cmpI .gtr s5.2 0 then((catO s5.1 (⟨[32]⟩:Str)).bind λ v14=>
some v14)
else(some s5.1)) λ o10=>
(atI x0 s5.2).bind λ v18=>
(catO o10 v18).bind λ v19=>
(i64 (s5.2+(1:Int))).bind λ v23=>
some (.inl (v19,v23)))
else(some (.inr s5.1))
def Zu(x0:List Str):Option Str:=
Option.bind (α:=Str) (zP (λ s5=>qm x0 s5) ((⟨[]⟩:Str),(0:Int))) λ o3=>
some o3
theorem zcr{x0:List Str}(h:Zu x0=some r):Fn prog 44 [dt x0] (dt r):=by
 refine fq1 0 func44 λ M w0 _ j=>?_
 refine j.z1 λ j=>?_
 refine j.z1 (λ j=>za ?_)
 refine j.jm [] (λ o3=>[(3,dt o3)]) h (λ o3 p3=>?_) λ o3 _ _ j h=>?_
 ·refine j.z1 λ j=>?_
  refine wql p3 (λ s5 a w=>Sx (Frm.of w0) 22 M M [] [(0,dt x0),(3,dt s5.1),(4,dt s5.2)] [] a w) (j.sel0 [0,3,4]) ?_
  rintro s5 z5 _ _ j hs5 hx5
  have h:qm x0 s5=some z5:=hs5
  unfold qm at h
  refine j.zc h (λ j h=>?_) λ j h=>?_
  ·refine wqk ?_
   refine za ?_
   refine wqs ?_
   refine wqb ?_
   refine j.jm [0,4] (λ o10=>[(3,dt o10)]) h (λ o10 p10=>?_) λ o10 _ _ j h=>?_
   ·refine j.zc p10 (λ j h=>?_) λ j h=>?_
    ·have⟨v14,p14,h⟩:=bs h
     refine j.z1 λ j=>?_
     cases h
     exact fz
    cases h
    exact fz
   have⟨v18,p18,v19,p19,h⟩:=Kg h
   refine j.z1 λ j=>?_
   have⟨v23,p23,h⟩:=bs h
   exact j.zn [] h
  have h:=lo h hx5
  cases h
  exact fz
 exact j.ze h
instance:Ct1 prog 44 dt dt Zu:=⟨λ h=>zcr h⟩
def ZF(x0:Int):Option Str:=
(atI ([(⟨[110,111,110,101]⟩:Str),(⟨[109,111,100,117,108,101]⟩:Str),(⟨[112,97,99,107,97,103,101]⟩:Str),(⟨[115,112,97,99,101]⟩:Str)]:List Str) x0).bind λ v2=>
some v2
theorem QG{x0:Int}(h:ZF x0=some r):Fn prog 48 [dt x0] (dt r):=by
 refine fq1 0 func48 λ M _ _ j=>?_
 refine j.z1 λ j=>?_
 have⟨v2,p2,h⟩:=bs h
 exact j.ze h (hs:=sc Z (yf (opds:=[_,_,_,_]) Z Z Z (.cons (zt) (.cons (zt) (.cons (zt) (.cons (zt) .nil)))))<|segZ)
instance:Ct1 prog 48 dt dt ZF:=⟨λ h=>QG h⟩
def m_spec_endWords:Option (List Str):=
some ([(⟨[100,111,110,101]⟩:Str),(⟨[109,105,115,115,105,110,103]⟩:Str),(⟨[97,116,116,114]⟩:Str),(⟨[110,97,109,101]⟩:Str),(⟨[102,97,105,108]⟩:Str),(⟨[114,101,108,97,116,105,118,101]⟩:Str),(⟨[102,117,101,108]⟩:Str)]:List Str)
theorem QI{r:List Str}(h:m_spec_endWords=some r):Fn prog 50 [] (dt r):=by
 refine fq1 0 func50 λ M _ _ j=>?_
 refine j.z1 (λ j=>?_) (hs:=sc Z (oA Z (jC (α:=Str)))<|.nil)
 exact j.ze h (hs:=sc Z (yf (opds:=[_,_,_,_,_,_,_]) Z Z Z (.cons (zt) (.cons (zt) (.cons (zt) (.cons (zt) (.cons (zt) (.cons (zt) (.cons (zt) .nil))))))))<|segZ)
instance:Ct0 prog 50  dt m_spec_endWords:=⟨λ h=>QI h⟩
def qN(R:Rec)(x0:Tree)(x1:List Int)(x2:Str):Option Str:=
if(decide (x2=(⟨[110,97,109,101,115]⟩:Str)))=true then((ZY x0 x1).bind λ v7=>
(y7 v7 (⟨[32]⟩:Str)).bind λ v8=>
some v8)
else(if(decide (x2=(⟨[102,105,108,101,115]⟩:Str)))=true then((yO (x0.files.length:Int)).bind λ v15=>
some v15)
else((jc x2 (⟨[32]⟩:Str)).bind λ v18=>
(z7 v18.2.1).bind λ v21=>
if(!v21)=true then(some (⟨[119,104,97,116]⟩:Str))
else(if(decide (v18.1=(⟨[102,105,110,100]⟩:Str)))=true then((jA x0 x1 v18.2.1).bind λ v36=>
(atI gkinds v36.kind).bind λ v39=>
some v39)
else(if(decide (v18.1=(⟨[105,109,112,111,114,116]⟩:Str)))=true then((jO R x0 x1 v18.2.1).bind λ v53=>
(atI gends v53.1).bind λ v56=>
some v56)
else(if(decide (v18.1=(⟨[111,114,100,101,114]⟩:Str)))=true then((Zi R x0 x1 v18.2.1).bind λ v62=>
(y7 v62 (⟨[32]⟩:Str)).bind λ v63=>
some v63)
else(some (⟨[119,104,97,116]⟩:Str)))))))
theorem impl_answer_w(hR:R.ok){x0:Tree}{x2:Str}(h:qN R x0 x1 x2=some r):Fn prog 15 [dt x0,dt x1,wg (dt x2)] (dt r):=by
 unfold qN at h
 refine fnx (fn:=f15) 0 func15 Z Z λ M _ _ j=>?_
 have j:=j.glb (s:=2) (g:=66)
 refine j.sq1 [1,2,3,66] (λ j=>Kc ?_)
 refine j.sq1 [1,2,3,12,66] (λ j=>wp_block ?_)
 refine j.sq1 [1,2,3,12,13,66] λ j=>?_
 refine j.cs h (λ _ h=>?_) λ _ h=>?_
 ·have⟨v7,p7,h⟩:=bs h
  have⟨v8,p8,h⟩:=bs h
  refine j.sq2 (sP 2 (r:=by exact sc Z (zA (l:=[.tmp 15,.tmp 16]) Z (.cons T (.cons T .nil)) ((zcf p7)).fn)<|sc Z (oK (Z6 p8))<|segC)) [6,66] (λ j=>wp_ret (yq (zK ?_)))
  exact j.ret Z Z h
 refine j.sq1 [1,2,3,19,66] λ j=>?_
 refine j.cs h (λ _ h=>?_) λ _ h=>?_
 ·obtain⟨v15,p15,h⟩:=bsW h zab
  refine j.sq1 [6,66] (λ j=>wp_ret (yq (zK ?_)))
  exact j.ret Z Z h
 refine wp_skip ?_
 refine z3 ?_
 refine za ?_
 have⟨v18,p18,h⟩:=bs h
 refine j.sq2 (sc Z (oM Z T)<|
  sc Z (zA (l:=[.tmp 26,_]) Z (.cons T (.cons (zt) .nil)) (zbd p18))<|
  sc Z (oM Z T)<|
  sc Z (xExt (i:=0) Z T Z)<|
  sc Z (xExt (i:=1) Z T Z)<|
  sc Z (xExt (i:=2) Z T Z)<|
  sc Z (oA Z T)<|
  sc Z (oA Z T)<|
  sc Z (oA Z T)<|.nil) [1,3,7,8,66] (λ j=>?_)
 refine Kc ?_
 obtain⟨v21,p21,h⟩:=bsW h xN
 refine j.sq1 [1,3,7,8,33,66] λ j=>?_
 refine j.cs h (λ _ h=>?_) λ _ h=>?_
 ·refine j.sq2 (sc Z (oA Z (zt))<|.nil) [6,66] (λ j=>wp_ret (zK ?_))
  exact j.ret Z Z h
 refine wp_skip ?_
 refine za ?_
 refine Kc ?_
 refine j.sq1 [1,3,8,34,66] (λ j=>wp_block ?_)
 refine j.sq2 (sc Z (jx Z T (zt))<|
  sc Z (oA Z T)<|.nil) [1,3,8,34,35,66] (λ j=>?_)
 refine j.cs h (λ _ h=>?_) λ _ h=>?_
 ·refine Kc ?_
  refine j.heldF yc λ _ _ hz31 j=>?_
  refine j.tkLp (i:=0) Z Z (j.fzS (g:=65)) hz31 Z kT24 (opd_gK (s:=66) Z) λ _ j=>?_
  refine j.tkLp (i:=1) Z Z (j.fzS (g:=65)) hz31 Z kT39 (tp Z) λ _ j=>?_
  refine j.tM 2 1 (j.fzS (g:=65)) λ _ j=>?_
  refine j.tM 3 8 (j.fzS (g:=65)) λ _ j=>?_
  obtain⟨v36,p36,h⟩:=bsW h Wj
  have⟨v39,p39,h⟩:=bs h
  refine aK1 4 ?_
  refine j.segA 1 [37,41,65,66] [] λ j=>?_
  refine aHN (j.fzS (g:=65)) ?_
  refine aK1 5 ?_
  refine j.segB 1 (sc Z (WA Spec.fld0 Z Z T)<|.nil) [37,42,65,66] [] λ j=>?_
  refine aHN (j.fzS (g:=65)) ?_
  refine aK1 6 ?_
  refine j.segB 1 (sc Z (xIdx Z T T p39)<|.nil) [43,65,66] [] λ j=>?_
  refine aHN (j.fzS (g:=65)) ?_
  refine aK1 7 ?_
  refine j.segA 1 [44,65,66] [] λ j=>?_
  refine aHN (j.fzS (g:=65)) ?_
  refine aK1 8 ?_
  refine j.segA 1 [6,65,66] [] λ j=>?_
  refine aHN (j.fzS (g:=65)) ?_
  refine aK0 ?_
  refine za ?_
  refine wp_ret (yq (zK ?_))
  exact j.ret Z Z h
 refine j.sq2 (sc Z (jx Z T (zt))<|
  sc Z (oA Z T)<|.nil) [1,3,8,34,45,66] (λ j=>?_)
 refine j.cs h (λ _ h=>?_) λ _ h=>?_
 ·have⟨v53,p53,h⟩:=bs h
  refine j.sq2 (sc Z (zz Z T)<|
   sc Z (oM Z T)<|
   sc Z (oM Z T)<|
   sc Z (zA (l:=[.tmp 48,.tmp 49,.tmp 50]) Z (.cons T (.cons T (.cons T .nil))) (FnN.fn2<|zc9 hR p53))<|
   sc Z (oM Z T)<|
   sc Z (xExt (i:=0) Z T Z)<|
   sc Z (xExt (i:=1) Z T Z)<|
   sc Z (oA Z T)<|
   sc Z (oA Z T)<|.nil) [10,66] (λ j=>?_)
  have⟨v56,p56,h⟩:=bs h
  refine j.sq2 (sc Z (zz Z (opd_gE (s:=66) Z))<|
   sc Z (oM Z T)<|
   sc Z (xIdx Z T T p56)<|
   sc Z (zz Z T)<|
   sc Z (oA Z T)<|.nil) [6,66] (λ j=>?_)
  refine wp_ret (yq (zK ?_))
  exact j.ret Z Z h
 refine j.sq2 (sc Z (jx Z T (zt))<|
  sc Z (oA Z T)<|.nil) [1,3,8,58,66] (λ j=>?_)
 refine j.cs h (λ _ h=>?_) λ _ h=>?_
 ·have⟨v62,p62,h⟩:=bs h
  have⟨v63,p63,h⟩:=bs h
  refine j.sq2 (sP 3 (r:=by exact sc Z (oK (FnN.fn<|zc8 hR p62))<|sc Z (oK (Z6 p63))<|segC)) [6,66] (λ j=>wp_ret (yq (zK ?_)))
  exact j.ret Z Z h
 refine wp_skip ?_
 refine z3 ?_
 refine za ?_
 refine j.sq2 (sc Z (oA Z (zt))<|.nil) [6,66] (λ j=>wp_ret ?_)
 exact j.ret Z Z h
def xp(R:Rec)(x1:List Int)(x2:List Str)(v9:Tree×Bool)(s20:Str×Int):Option ((Str×Int)⊕Str):=
if(cmpI .lss s20.2 (x2.length:Int))=true then(Option.bind (α:=Str) ((atI x2 s20.2).bind λ v26=>
if v9.2=true then((qN R v9.1 x1 v26).bind λ v32=>
(catO v32 (⟨[10]⟩:Str)).bind λ v33=>
(catO s20.1 v33).bind λ v34=>
some v34)
else((catO s20.1 (⟨[119,114,111,110,103,10]⟩:Str)).bind λ v39=>
some v39)) λ o25=>
(i64 (s20.2+(1:Int))).bind λ v43=>
some (.inl (o25,v43)))
else(some (.inr s20.1))
def jp(R:Rec)(x0:Str)(x1:List Int)(x2:List Str):Option Str:=
(gO (cmpI .gtr (x2.length:Int) 20 == false) (wo x1)).bind λ v3=>
if(cmpI .gtr (x2.length:Int) 20||(!v3))=true then(some (⟨[]⟩:Str))
else((Zl x0).bind λ v9=>
Option.bind (α:=Str) (zP (λ s20=>xp R x1 x2 v9 s20) ((⟨[]⟩:Str),(0:Int))) λ o18=>
some o18)
theorem zai(hR:R.ok)(h:jp R x0 x1 x2=some r):Fn prog 5 [wg (dt x0),dt x1,dt x2] (dt r):=by
 refine fq1 1 func5 λ M w0 _ j=>?_
 have j:=j.glb (s:=0) (g:=44)
 refine j.z1 λ j=>?_
 have⟨v3,p3,h⟩:=bs h
 refine j.zc h (λ j h=>?_) (λ j h=>?_) (hs:=sZ 5 (r:=by exact sg Z Z (λ hg=>oK (Zh (gh hg p3)))<|segZ))
 ·exact j.ze h
 refine Ka ?_
 have⟨v9,p9,h⟩:=bs h
 refine j.zg 5 (λ j=>?_) (hs:=sc Z (oM Z T)<|
  sc Z (zA (l:=[.tmp 21]) Z (.cons (zbD (s:=44) Z T) .nil) (zdc p9))<|
  sc Z (oM Z T)<|
  sc Z (xExt (i:=0) Z T Z)<|
  sc Z (xExt (i:=1) Z T Z)<|.nil)
 refine j.alloc 0 Z Z kZ39 zrTree (gl Z) [1,2,23,24,44] Z [] Z Z λ b13 _ _ _ j=>?_
 refine j.stA 7 0 FldS.id (tp Z) [1,2,24,44] [] λ j=>?_
 refine j.zh 1 [(7,0)] (λ j=>Kb ?_)
 refine j.zo [(7,0)] (λ j=>za ?_)
 refine j.jmq 1 [44] (λ o18=>[(9,dt o18)]) (λ _ _=>[]) h (λ o18 p18=>?_) λ o18 q18 _ _ _ j h=>?_
 ·refine j.zo [(7,0)] λ j=>?_
  refine wql p18 (λ s20 a w=>∃ M1 Q,Sx (Frm.of w0) 43 M M1 [oneB Q] [(1,dt x1),(8,dt v9.2),(9,dt s20.1),(25,dt x2),(26,dt (x2.length:Int)),(27,dt s20.2),(44,dgl)] [(7,0,dbox Q 0 v9.1)] a w) fx ?_
  rintro s20 z20 _ _ ⟨_,Q,j⟩ hs20 hx20
  have h:xp R x1 x2 v9 s20=some z20:=hs20
  unfold xp at h
  refine j.zd [(7,0)] h (λ j h=>?_) λ j h=>?_
  ·refine wqk ?_
   refine za ?_
   refine j.jmq 1 [1,8,25,26,27,44] (λ o25=>[(9,dt o25)]) (λ _ q=>[(7,0,dbox (q 0) 0 v9.1)]) h (λ o25 p25=>?_) λ o25 q25 _ _ _ j h=>?_
   ·have⟨v26,p26,h⟩:=bs p25
    refine j.zo [(7,0)] λ j=>?_
    refine j.zd [(7,0)] h (λ j h=>?_) λ j h=>?_
    ·have⟨v32,p32,h⟩:=bs h
     have⟨v33,p33,v34,p34,h⟩:=Kg h
     refine j.zo [(7,0)] (λ j=>?_) (hs:=sc Z (oM Z T)<|
       sc Z (yx Z T)<|
       sc Z (oM Z T)<|
       sc Z (oM Z T)<|
       sc Z (zA (l:=[.tmp 33,.tmp 34,.tmp 35]) Z (.cons T (.cons T (.cons (zbD (s:=44) Z T) .nil))) (impl_answer_w hR p32))<|
       sc Z (xCat Z T (zt) p33)<|
       sc Z (xCat Z T T p34)<|
       sc Z (oA Z T)<|.nil)
     cases h
     exact fz
    have⟨v39,p39,h⟩:=bs h
    refine j.zo [(7,0)] (λ j=>?_) (hs:=sZ 1 (r:=by exact sc Z (xCat Z T (zt) p39)<|segZ))
    cases h
    exact fz
   have⟨v43,p43,h⟩:=bs h
   exact j.zn [(7,0)] h
  have h:=lo h hx20
  cases h
  exact fz
 exact j.ze h
def YI(R:Rec)(x0:Tree)(x1:List Int)(x2:Str):Option Str:=
(xG x2 (UInt8.ofNat 32)).bind λ v2=>
if(decide (x2=(⟨[110,97,109,101,115]⟩:Str)))=true then((qA x0 x1).bind λ v8=>
(Zu v8).bind λ v9=>
some v9)
else(if(decide (x2=(⟨[102,105,108,101,115]⟩:Str)))=true then((wy 4 (x0.files.length:Int)).bind λ v16=>
some v16)
else((gO (cmpI .neq (v2.length:Int) 2 == false) (atI v2 1)).bind λ v19=>
(gO (cmpI .neq (v2.length:Int) 2 == false) (yL v19)).bind λ v20=>
if(cmpI .neq (v2.length:Int) 2||(!v20))=true then(some (⟨[119,104,97,116]⟩:Str))
else((atI v2 0).bind λ v27=>
if(decide (v27=(⟨[102,105,110,100]⟩:Str)))=true then((atI v2 1).bind λ v32=>
(Xa x0 x1 v32).bind λ v33=>
(ZF v33.kind).bind λ v34=>
some v34)
else((atI v2 0).bind λ v39=>
if(decide (v39=(⟨[105,109,112,111,114,116]⟩:Str)))=true then((m_spec_endWords).bind λ v44=>
(atI v2 1).bind λ v45=>
(XP R x0 x1 ([v45]:List Str)).bind λ v46=>
(atI v44 v46.fin).bind λ v47=>
some v47)
else((atI v2 0).bind λ v53=>
if(decide (v53=(⟨[111,114,100,101,114]⟩:Str)))=true then((atI v2 1).bind λ v58=>
(Zk R x0 x1 v58).bind λ v59=>
(Zu v59).bind λ v60=>
some v60)
else(some (⟨[119,104,97,116]⟩:Str)))))))
theorem spec_answer_w(hR:R.ok){x0:Tree}{x2:Str}(h:YI R x0 x1 x2=some r):Fn prog 18 [dt x0,dt x1,dt x2] (dt r):=by
 refine fq1 0 func18 λ M _ _ j=>?_
 refine j.z1 λ j=>?_
 have⟨v2,p2,h⟩:=bs h
 refine j.z1 λ j=>?_
 refine j.zc h (λ j h=>?_) λ j h=>?_
 ·have⟨v8,p8,h⟩:=bs h
  have⟨v9,p9,h⟩:=bs h
  exact j.ze h
 refine j.zc h (λ j h=>?_) λ j h=>?_
 ·have⟨v16,p16,h⟩:=bs h
  exact j.ze h (hs:=sZ 3 (r:=by exact sc Z (oK (wY _ p16))<|segZ))
 have⟨v19,p19,v20,p20,h⟩:=Kg h
 refine j.zc h (λ j h=>?_) (λ j h=>?_) (hs:=sZ 5 (r:=by exact sg Z Z (λ hg=>xIdx Z V cI (gh hg p19))<|sZ 1 (r:=by exact sg Z Z (λ hg=>oK (Yo (gh hg p20)))<|segZ)))
 ·exact j.ze h
 have⟨v27,p27,h⟩:=bs h
 refine j.zc h (λ j h=>?_) λ j h=>?_
 ·have⟨v32,p32,h⟩:=bs h
  have⟨v33,p33,v34,p34,h⟩:=Kg h
  refine j.zw (λ j=>?_) (hs:=sV 3 (r:=by exact sw Z (xIdx Z T cI p32)<|sV 1 (r:=by exact sw Z (zA (l:=[.tmp 40,.tmp 41,.tmp 44]) Z (.cons T (.cons T (.cons T .nil))) (zdF p33))<|sw Z (WA Spec.fld0 Z Z T)<|sw Z (zA (l:=[.tmp 46]) Z (.cons T .nil) (QG p34))<|sw Z (oA Z T)<|.nil)))
  exact j.ret Z Z h
 have⟨v39,p39,h⟩:=bs h
 refine j.zc h (λ j h=>?_) λ j h=>?_
 ·have⟨v44,p44,h⟩:=bs h
  have⟨v45,p45,v46,p46,h⟩:=Kg h
  have⟨v47,p47,h⟩:=bs h
  refine j.zw (λ j=>?_) (hs:=sw Z (zA (l:=[]) Z .nil (QI p44))<|sV 3 (r:=by exact sw Z (xIdx Z T cI p45)<|sV 1 (r:=by exact sw Z (yf (opds:=[.tmp 58]) Z Z Z (.cons T .nil))<|sw Z (OpRel.bx (zA (l:=[.tmp 54,.tmp 55,.tmp 59]) Z (.cons T (.cons T (.cons T .nil))) (FnN.fn<|zet hR p46)))<|sV 5 (r:=by exact sw Z (oA Z T)<|.nil))))
  exact j.ret Z Z h
 have⟨v53,p53,h⟩:=bs h
 refine j.zc h (λ j h=>?_) λ j h=>?_
 ·have⟨v58,p58,h⟩:=bs h
  have⟨v59,p59,v60,p60,h⟩:=Kg h
  refine j.zw (λ j=>?_) (hs:=sV 3 (r:=by exact sw Z (xIdx Z T cI p58)<|sV 1 (r:=by exact sw Z (zA (l:=[.tmp 71,.tmp 72,.tmp 75]) Z (.cons T (.cons T (.cons T .nil))) ((zdb hR p59)).fn)<|sw Z (zA (l:=[.tmp 76]) Z (.cons T .nil) (zcr p60))<|sw Z (oA Z T)<|.nil)))
  exact j.ret Z Z h
 exact j.ze h
def xq(R:Rec)(x1:List Int)(x2:List Str)(v8:Tree×Bool)(s19:Str×Int):Option ((Str×Int)⊕Str):=
if(cmpI .lss s19.2 (x2.length:Int))=true then(Option.bind (α:=Str) (if v8.2=true then((atI x2 s19.2).bind λ v28=>
(YI R v8.1 x1 v28).bind λ v29=>
(catO s19.1 v29).bind λ v30=>
(catO v30 (⟨[10]⟩:Str)).bind λ v31=>
some v31)
else((catO s19.1 (⟨[119,114,111,110,103,10]⟩:Str)).bind λ v37=>
some v37)) λ o24=>
(i64 (s19.2+(1:Int))).bind λ v41=>
some (.inl (o24,v41)))
else(some (.inr s19.1))
def jq(R:Rec)(x0:Str)(x1:List Int)(x2:List Str):Option Str:=
(gO (cmpI .gtr (x2.length:Int) 20 == false) (xh x1)).bind λ v2=>
if(cmpI .gtr (x2.length:Int) 20||(!v2))=true then(some (⟨[]⟩:Str))
else((qH x0).bind λ v8=>
Option.bind (α:=Str) (zP (λ s19=>xq R x1 x2 v8 s19) ((⟨[]⟩:Str),(0:Int))) λ o17=>
some o17)
theorem zaj(hR:R.ok)(h:jq R x0 x1 x2=some r):Fn prog 6 [dt x0,dt x1,dt x2] (dt r):=by
 refine fq1 1 func6 λ M w0 _ j=>?_
 refine j.z1 λ j=>?_
 have⟨v2,p2,h⟩:=bs h
 refine j.zc h (λ j h=>?_) (λ j h=>?_) (hs:=sZ 5 (r:=by exact sg Z Z (λ hg=>oK (XM (gh hg p2)))<|segZ))
 ·exact j.ze h
 refine Ka ?_
 have⟨v8,p8,h⟩:=bs h
 refine j.zg 5 λ j=>?_
 refine j.alA 0 zrTree [1,2,22,23] [] λ b12 j=>?_
 refine j.stA 7 0 FldS.id (tp Z) [1,2,23] [] λ j=>?_
 refine j.zh 1 [(7,0)] (λ j=>Kb ?_)
 refine j.zo [(7,0)] (λ j=>za ?_)
 refine j.jmq 1 [] (λ o17=>[(9,dt o17)]) (λ _ _=>[]) h (λ o17 p17=>?_) λ o17 q17 _ _ _ j h=>?_
 ·refine j.zo [(7,0)] λ j=>?_
  refine wql p17 (λ s19 a w=>∃ M1 Q,Sx (Frm.of w0) 44 M M1 [oneB Q] [(1,dt x1),(2,dt x2),(8,dt v8.2),(9,dt s19.1),(10,dt s19.2)] [(7,0,dbox Q 0 v8.1)] a w) fx ?_
  rintro s19 z19 _ _ ⟨_,Q,j⟩ hs19 hx19
  have h:xq R x1 x2 v8 s19=some z19:=hs19
  unfold xq at h
  refine j.zd [(7,0)] h (λ j h=>?_) λ j h=>?_
  ·refine wqk ?_
   refine za ?_
   refine j.jmq 1 [1,2,8,10] (λ o24=>[(9,dt o24)]) (λ _ q=>[(7,0,dbox (q 0) 0 v8.1)]) h (λ o24 p24=>?_) λ o24 q24 _ _ _ j h=>?_
   ·refine j.zd [(7,0)] p24 (λ j h=>?_) λ j h=>?_
    ·have⟨v28,p28,h⟩:=bs h
     have⟨v29,p29,v30,p30,h⟩:=Kg h
     have⟨v31,p31,h⟩:=bs h
     refine j.drA (D:=[_,_,_,_,_,_,_,_,_,_,_]) yc [[(9,nS)],[(7,nS)],[(1,nS)],[(2,nS)],[(10,nS)],[(34,3),(35,4)],[(36,5)],[(32,1),(33,2),(37,6)],[(31,0),(38,7)],[(39,8)],[(40,9)]] [1,2,8,9,10] [(7,0)] (λ _ _ j=>?_) (hs:=rc Z Z (oM Z T)<|
       rc Z Z (yx Z T)<|
       rc Z Z (oM Z T)<|
       rc Z Z (oM Z T)<|
       rc Z Z (oM Z T)<|
       rc Z Z (xIdx Z T T p28)<|
       rc Z Z (zz Z T)<|
       rc Z Z (zA (l:=[.tmp 32,.tmp 33,.tmp 37]) Z (.cons T (.cons T (.cons T .nil))) (spec_answer_w hR p29))<|
       rc Z Z (xCat Z T T p30)<|
       rc Z Z (xCat Z T (zt) p31)<|
       rc Z Z (oA Z T)<|.nil)
     cases h
     exact fz
    have⟨v37,p37,h⟩:=bs h
    refine j.zo [(7,0)] λ j=>?_
    cases h
    exact fz
   have⟨v41,p41,h⟩:=bs h
   exact j.zn [(7,0)] h
  have h:=lo h hx19
  cases h
  exact fz
 exact j.ze h
end Go.Proofs.YtifgdhfcoaognaaGreatDoor
