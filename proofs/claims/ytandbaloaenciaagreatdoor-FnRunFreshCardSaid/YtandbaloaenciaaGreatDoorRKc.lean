import Derived.Test.YtandbaloaenciaaGreatDoorRO
import Derived.Test.YtandbaloaenciaaGreatDoorRH
import Derived.Test.YtandbaloaenciaaGreatDoorRB
import Derived.Test.YtandbaloaenciaaGreatDoorRKb
import Derived.Test.YtandbaloaenciaaGreatDoorRC
import Derived.Test.YtandbaloaenciaaGreatDoorRG
namespace Go.Proofs.YtandbaloaenciaaGreatDoor
open Go.RowKit Tryz
attribute [local irreducible] OpRel OpdR
set_option maxRecDepth 10000
set_option maxHeartbeats 1600000
variable{x1:List Int}{x0:Reader}{r:Reader×Str}{R:Rec}{x2:Str}
theorem kD165_0:∀ {M:Nat->Prop} {look:Nat->Option Dt} {o:Oper} {q0:Operand} {y0:List UInt8},o.op=.build 165 #[(0,q0)]->OpdR M look q0 (dt y0)->OpRel prog M look o (dt (⟨y0,0⟩:Reader)):=@λ _ _ _ q0 y0 ho h0=>zK (parts:=[(0,q0)]) (ns:=[1,1]) (zs:=zpReader) Z ho (λ w a hl=>FA ⟨(by decide:0<2),Rep.len (α:=List UInt8) (OpdR.cells h0 hl)⟩ FN) (λ w a hl=>Reader.parts (x:=(⟨y0,0⟩:Reader)) (OpdR.cells h0 hl) ⟨Z,trivial⟩)
theorem kF165_1:fldB prog 165 1 1=true:=by kernel_rfl
theorem W9:fldB prog 165 0 0=true:=by kernel_rfl
theorem kN101:fnB prog 101=true:=by kernel_rfl
theorem kN65:fnB prog 65=true:=by kernel_rfl
theorem kN104:fnB prog 104=true:=by kernel_rfl
theorem kD177_0_1:∀ {M:Nat->Prop} {look:Nat->Option Dt} {o:Oper} {q0 q1:Operand} {y0:Int} {y1:Str},o.op=.build 177 #[(0,q0),(1,q1)]->OpdR M look q0 (dt y0)->OpdR M look q1 (dt y1)->OpRel prog M look o (dt (⟨y0,y1,0,⟨[]⟩,0⟩:Stmt)):=@λ _ _ _ q0 q1 y0 y1 ho h0 h1=>zK (parts:=[(0,q0),(1,q1)]) (ns:=[1,1,1,1,1]) (zs:=zca) Z ho (λ w a hl=>FA ⟨(by decide:0<5),Rep.len (α:=Int) (OpdR.cells h0 hl)⟩ (FA ⟨(by decide:1<5),Rep.len (α:=Str) (OpdR.cells h1 hl)⟩ FN)) (λ w a hl=>Stmt.parts (x:=(⟨y0,y1,0,⟨[]⟩,0⟩:Stmt)) (OpdR.cells h0 hl) (OpdR.cells h1 hl) ⟨Z,trivial⟩ w8 ⟨Z,trivial⟩)
theorem kD177_0_1_2_3:∀ {M:Nat->Prop} {look:Nat->Option Dt} {o:Oper} {q0 q1 q2 q3:Operand} {y0:Int} {y1:Str} {y2:Int} {y3:Str},o.op=.build 177 #[(0,q0),(1,q1),(2,q2),(3,q3)]->OpdR M look q0 (dt y0)->OpdR M look q1 (dt y1)->OpdR M look q2 (dt y2)->OpdR M look q3 (dt y3)->OpRel prog M look o (dt (⟨y0,y1,y2,y3,0⟩:Stmt)):=@λ _ _ _ q0 q1 q2 q3 y0 y1 y2 y3 ho h0 h1 h2 h3=>zK (parts:=[(0,q0),(1,q1),(2,q2),(3,q3)]) (ns:=[1,1,1,1,1]) (zs:=zca) Z ho (λ w a hl=>FA ⟨(by decide:0<5),Rep.len (α:=Int) (OpdR.cells h0 hl)⟩ (FA ⟨(by decide:1<5),Rep.len (α:=Str) (OpdR.cells h1 hl)⟩ (FA ⟨(by decide:2<5),Rep.len (α:=Int) (OpdR.cells h2 hl)⟩ (FA ⟨(by decide:3<5),Rep.len (α:=Str) (OpdR.cells h3 hl)⟩ FN)))) (λ w a hl=>Stmt.parts (x:=(⟨y0,y1,y2,y3,0⟩:Stmt)) (OpdR.cells h0 hl) (OpdR.cells h1 hl) (OpdR.cells h2 hl) (OpdR.cells h3 hl) ⟨Z,trivial⟩)
theorem Q5:∀ {M:Nat->Prop} {look:Nat->Option Dt} {o:Oper} {q0 q3 q4:Operand} {y0:Int} {y3:Str} {y4:Int},o.op=.build 177 #[(0,q0),(3,q3),(4,q4)]->OpdR M look q0 (dt y0)->OpdR M look q3 (dt y3)->OpdR M look q4 (dt y4)->OpRel prog M look o (dt (⟨y0,⟨[]⟩,0,y3,y4⟩:Stmt)):=@λ _ _ _ q0 q3 q4 y0 y3 y4 ho h0 h3 h4=>zK (parts:=[(0,q0),(3,q3),(4,q4)]) (ns:=[1,1,1,1,1]) (zs:=zca) Z ho (λ w a hl=>FA ⟨(by decide:0<5),Rep.len (α:=Int) (OpdR.cells h0 hl)⟩ (FA ⟨(by decide:3<5),Rep.len (α:=Str) (OpdR.cells h3 hl)⟩ (FA ⟨(by decide:4<5),Rep.len (α:=Int) (OpdR.cells h4 hl)⟩ FN))) (λ w a hl=>Stmt.parts (x:=(⟨y0,⟨[]⟩,0,y3,y4⟩:Stmt)) (OpdR.cells h0 hl) w8 ⟨Z,trivial⟩ (OpdR.cells h3 hl) (OpdR.cells h4 hl))
theorem kD177_0_3:∀ {M:Nat->Prop} {look:Nat->Option Dt} {o:Oper} {q0 q3:Operand} {y0:Int} {y3:Str},o.op=.build 177 #[(0,q0),(3,q3)]->OpdR M look q0 (dt y0)->OpdR M look q3 (dt y3)->OpRel prog M look o (dt (⟨y0,⟨[]⟩,0,y3,0⟩:Stmt)):=@λ _ _ _ q0 q3 y0 y3 ho h0 h3=>zK (parts:=[(0,q0),(3,q3)]) (ns:=[1,1,1,1,1]) (zs:=zca) Z ho (λ w a hl=>FA ⟨(by decide:0<5),Rep.len (α:=Int) (OpdR.cells h0 hl)⟩ (FA ⟨(by decide:3<5),Rep.len (α:=Str) (OpdR.cells h3 hl)⟩ FN)) (λ w a hl=>Stmt.parts (x:=(⟨y0,⟨[]⟩,0,y3,0⟩:Stmt)) (OpdR.cells h0 hl) w8 ⟨Z,trivial⟩ (OpdR.cells h3 hl) ⟨Z,trivial⟩)
instance iF165_1KxE:FldO prog 165 1 1:=⟨kF165_1⟩
def Zj(x0:List UInt8):Option Reader:=
Option.bind (α:=(List UInt8)) (if(cmpI .gtr (x0.length:Int) 2000)=true then((ZX x0 (2000:Int)).bind λ v6=>
some v6)
else(some x0)) λ o2=>
some (⟨o2,0⟩:Reader)
theorem zcn{x0:List UInt8}{r:Reader}(h:Zj x0=some r):FnN prog 62 [dt x0] (.ow (Ow.box (Ow.frz (α:=Reader))) ⟨r⟩):=by
 unfold Zj at h
 refine fnN (fn:=f62) 2 func62 Z Z λ M w0 _ j=>?_
 refine j.sq0 (
  sc Z (oA Z opd_nilp)<|.nil) [0] Z (λ _ _ j=>?_)
 have⟨o2,p2,k2⟩:=bs h
 refine jF (λ a w=>∃ M1 Q R,Sx (Frm.of w0) 11 M M1 [Q,R] [(0,dt o2)] [] a w) ?_ ?_
 ·refine j.sq0 (
   sc Z (oM Z (tp Z))<|sc Z (W5 Z (tp Z))<|sc Z (oCI Z (tp Z) cI)<|.nil) [0,5] Z (λ _ _ j=>?_)
  refine j.cs p2 (λ _ h=>?_) λ _ h=>?_
  ·have⟨v6,p6,h⟩:=bs h
   refine j.rg0 (
    sc Z (oM Z (tp Z))<|sc Z (Qk Z (tp Z) cI p6)<|sc Z (oA Z (tp Z))<|.nil) [0] Z (λ _ _ j=>?_)
   refine za ?_
   cases h
   exact fx
  refine wp_skip (za ?_)
  cases h
  exact fx
 rintro _ _ ⟨_,Q,R,j⟩
 have h:=k2
 refine Kc (Ka ?_)
 refine j.segB 2 (sP 1 (r:=by exact sc Z (kD165_0 Z (tp Z))<|.nil)) [9] [] λ _ _ j=>?_
 refine j.boxZ 0 (tp Z) [] [] λ b11 _ _ _ j=>?_
 refine j.segA 1 [] [(2,0)] (λ _ _ j=>Kb (za (wp_ret ?_)))
 have j:=j.unm (s:=2) 0 []
 exact j.rnO 0 iI (bx1 h)
def zE(x0:Reader)(x1:Int):Option (Reader×Int):=
(i64 (x0.p+(1:Int))).bind λ v2=>
if(cmpI .lss x1 1||cmpI .eql (x0.b.length:Int) 0)=true then(some ({ x0 with p:=v2 },(0:Int)))
else((i64 (v2 - (1:Int))).bind λ v10=>
if(cmpI .lss v10 (x0.b.length:Int))=true then((atI x0.b v10).bind λ v16=>
(modO (v16.toNat:Int) x1).bind λ v17=>
some ({ x0 with p:=v2 },v17))
else((modO v10 (x0.b.length:Int)).bind λ v21=>
(atI x0.b v21).bind λ v22=>
(i64 ((v22.toNat:Int)*(131:Int))).bind λ v23=>
(i64 (v10*(7:Int))).bind λ v24=>
(i64 (v24+(3:Int))).bind λ v25=>
(modO v25 (x0.b.length:Int)).bind λ v26=>
(atI x0.b v26).bind λ v27=>
(i64 ((v27.toNat:Int)*(1117:Int))).bind λ v28=>
(i64 (v23+v28)).bind λ v29=>
(i64 (v10*(29:Int))).bind λ v30=>
(i64 (v29+v30)).bind λ v31=>
(divO v10 (x0.b.length:Int)).bind λ v32=>
(i64 (v32*(53:Int))).bind λ v33=>
(i64 (v31+v33)).bind λ v34=>
(divO v34 (64:Int)).bind λ v50=>
(modO (xorI v34 v50) x1).bind λ v53=>
some ({ x0 with p:=v2 },v53)))
theorem zN{x1:Int}{r:Reader×Int}(h:zE x0 x1=some r):FnS prog 101 (Ow.box (Ow.frz (α:=Reader))) ⟨x0⟩ [dt x1] ⟨r.1⟩ (.frz (dt r.2)):=by
 unfold zE at h
 refine fnSB (fn:=f101) 0 1 func101 Z Z λ M G _ b0 _ j=>?_
 refine j.sqA [1] [(0,0)] (λ _ _ j=>Kc (Ka ?_))
 have⟨v2,p2,h⟩:=bs h
 refine j.segB 8 (sP 4 (r:=by exact sc Z (xLf (sb:=0) ((PV.root.box Z).fld Reader.z1) Z (tp Z) Z)<|segC)) [1,12,14] [(0,0)] λ _ _ j=>?_
 refine j.stF (sb:=0) 0 ((PV.root.box Z).fld Reader.z1) Z Z Z kT3 (tp Z) (tp Z) Z Z iI [1] Z [] Z Z (λ _ j=>Kb (za (Kc ?_)))
 refine j.sq (
  sc Z (oM Z (tp Z))<|sc Z (oCI Z (tp Z) cI)<|sc Z (oM Z (tp Z))<|sg Z Z (λ hg=>oM Z (zy Z))<|sg Z Z (λ hg=>xNc Z (zk hg Z))<|sg Z Z (λ hg=>xFa Z W9 (zk hg Z))<|sg Z Z (λ hg=>xLf (sb:=0) ((PV.root.box Z).fld Reader.z0) Z (zk hg Z) Z)<|sg Z Z (λ hg=>W5 Z (zk hg Z))<|sg Z Z (λ hg=>oCI Z (zk hg Z) cI)<|sc Z (js Z (tp Z) (zb Z))<|.nil) [1,24] Z [(0,0)] Z iT (λ _ _ j=>?_)
 refine j.cs h (λ _ h=>?_) λ _ h=>?_
 ·refine j.sq (
   sc Z (oA Z cI)<|.nil) [4] Z [(0,0)] Z iT (λ _ _ j=>?_)
  refine wp_ret (zL ?_)
  exact j.xF 0 0 h
 refine wp_skip (za ?_)
 have⟨v10,p10,h⟩:=bs h
 refine j.sq (
  sc Z (oM Z (zy Z))<|sc Z (xNc Z (tp Z))<|sc Z (xFa Z kF165_1 (tp Z))<|sc Z (xLf (sb:=0) ((PV.root.box Z).fld Reader.z1) Z (tp Z) Z)<|sc Z (xAr Z (tp Z) cI p10)<|sc Z (oA Z (tp Z))<|.nil) [1,5] Z [(0,0)] Z iT (λ _ _ j=>?_)
 refine Kc ?_
 refine j.sq (
  sc Z (oM Z (tp Z))<|sc Z (oM Z (zy Z))<|sc Z (xNc Z (tp Z))<|sc Z (xFa Z W9 (tp Z))<|sc Z (xLf (sb:=0) ((PV.root.box Z).fld Reader.z0) Z (tp Z) Z)<|sc Z (W5 Z (tp Z))<|sc Z (oCI Z (tp Z) (tp Z))<|.nil) [1,5,36] Z [(0,0)] Z iT (λ _ _ j=>?_)
 refine j.cs h (λ _ h=>?_) λ _ h=>?_
 ·have⟨v16,p16,h⟩:=bs h
  have⟨v17,p17,h⟩:=bs h
  refine j.sq (
   sc Z (oM Z (zy Z))<|sc Z (xNc Z (tp Z))<|sc Z (xFa Z W9 (tp Z))<|sc Z (xLf (sb:=0) ((PV.root.box Z).fld Reader.z0) Z (tp Z) Z)<|sc Z (oM Z (tp Z))<|sc Z (xIdx Z (tp Z) (tp Z) p16)<|sc Z (zr Z (tp Z))<|sc Z (xCvI Z (tp Z))<|sc Z (oM Z (tp Z))<|sc Z (xMod Z (tp Z) (tp Z) p17)<|sc Z (oA Z (tp Z))<|.nil) [4] Z [(0,0)] Z iT (λ _ _ j=>?_)
  refine wp_ret (zL ?_)
  exact j.xF 0 0 h
 refine wp_skip (za (Kc ?_))
 have⟨v21,p21,v22,p22,h⟩:=Kg h
 have⟨v23,p23,v24,p24,h⟩:=Kg h
 have⟨v25,p25,v26,p26,h⟩:=Kg h
 have⟨v27,p27,v28,p28,h⟩:=Kg h
 have⟨v29,p29,v30,p30,h⟩:=Kg h
 have⟨v31,p31,v32,p32,h⟩:=Kg h
 have⟨v33,p33,v34,p34,h⟩:=Kg h
 refine j.dr (D:=[_,_,_,_,_,_,_,_,_,_,_,_,_,_,_,_,_,_,_,_,_,_,_,_,_,_,_,_,_,_,_,_,_,_,_,_,_,_,_,_,_,_,_,_,_,_]) zH [[(0,nS)],[(47,0)],[(48,1)],[(49,2),(0,nS)],[(5,nS)],[(0,nS)],[(52,5)],[(53,6)],[(54,7),(0,nS)],[(55,8)],[(51,4),(56,9)],[(50,3),(57,10)],[(58,11)],[(59,12)],[(60,13)],[(0,nS)],[(62,15)],[(63,16)],[(64,17),(0,nS)],[(5,nS)],[(66,19)],[(67,20)],[(0,nS)],[(69,22)],[(70,23)],[(71,24),(0,nS)],[(72,25)],[(68,21),(73,26)],[(65,18),(74,27)],[(75,28)],[(76,29)],[(77,30)],[(61,14),(78,31)],[(5,nS)],[(80,33)],[(79,32),(81,34)],[(5,nS)],[(0,nS)],[(84,37)],[(85,38)],[(86,39),(0,nS)],[(87,40)],[(83,36),(88,41)],[(89,42)],[(82,35),(90,43)],[(91,44)]] (by decide +kernel) (
  rc Z Z (oM Z (zy Z))<|rc Z Z (xNc Z (tp Z))<|rc Z Z (xFa Z W9 (tp Z))<|rc Z Z (xLf (sb:=0) ((PV.root.box Z).fld Reader.z0) Z (tp Z) Z)<|rc Z Z (oM Z (tp Z))<|rc Z Z (oM Z (zy Z))<|rc Z Z (xNc Z (tp Z))<|rc Z Z (xFa Z W9 (tp Z))<|rc Z Z (xLf (sb:=0) ((PV.root.box Z).fld Reader.z0) Z (tp Z) Z)<|rc Z Z (W5 Z (tp Z))<|rc Z Z (xMod Z (tp Z) (tp Z) p21)<|rc Z Z (xIdx Z (tp Z) (tp Z) p22)<|rc Z Z (zr Z (tp Z))<|rc Z Z (xCvI Z (tp Z))<|rc Z Z (xAr Z (tp Z) cI p23)<|rc Z Z (oM Z (zy Z))<|rc Z Z (xNc Z (tp Z))<|rc Z Z (xFa Z W9 (tp Z))<|rc Z Z (xLf (sb:=0) ((PV.root.box Z).fld Reader.z0) Z (tp Z) Z)<|rc Z Z (oM Z (tp Z))<|rc Z Z (xAr Z (tp Z) cI p24)<|rc Z Z (xAr Z (tp Z) cI p25)<|rc Z Z (oM Z (zy Z))<|rc Z Z (xNc Z (tp Z))<|rc Z Z (xFa Z W9 (tp Z))<|rc Z Z (xLf (sb:=0) ((PV.root.box Z).fld Reader.z0) Z (tp Z) Z)<|rc Z Z (W5 Z (tp Z))<|rc Z Z (xMod Z (tp Z) (tp Z) p26)<|rc Z Z (xIdx Z (tp Z) (tp Z) p27)<|rc Z Z (zr Z (tp Z))<|rc Z Z (xCvI Z (tp Z))<|rc Z Z (xAr Z (tp Z) cI p28)<|rc Z Z (xAr Z (tp Z) (tp Z) p29)<|rc Z Z (oM Z (tp Z))<|rc Z Z (xAr Z (tp Z) cI p30)<|rc Z Z (xAr Z (tp Z) (tp Z) p31)<|rc Z Z (oM Z (tp Z))<|rc Z Z (oM Z (zy Z))<|rc Z Z (xNc Z (tp Z))<|rc Z Z (xFa Z W9 (tp Z))<|rc Z Z (xLf (sb:=0) ((PV.root.box Z).fld Reader.z0) Z (tp Z) Z)<|rc Z Z (W5 Z (tp Z))<|rc Z Z (xDiv Z (tp Z) (tp Z) p32)<|rc Z Z (xAr Z (tp Z) cI p33)<|rc Z Z (xAr Z (tp Z) (tp Z) p34)<|rc Z Z (oA Z (tp Z))<|.nil) [1,6] Z [(0,0)] Z iT (λ _ _ j=>?_)
 refine za ?_
 have⟨v50,p50,h⟩:=bs h
 refine j.sqB (sP 2 (r:=by exact sc Z (xDiv Z (tp Z) cI p50)<|sc Z (xXor Z (tp Z) (tp Z))<|segC)) [1,6] [(0,0)] λ _ _ j=>?_
 have⟨v53,p53,h⟩:=bs h
 refine j.sqB (sP 2 (r:=by exact sc Z (xMod Z (tp Z) (tp Z) p53)<|segC)) [4] [(0,0)] (λ _ _ j=>wp_ret ?_)
 exact j.xF 0 0 h
def yX(x0:Reader)(x1:List Int):Option (Reader×Int):=
(zE x0 (x1.length:Int)).bind λ v4=>
(atI x1 v4.2).bind λ v6=>
some (v4.1,v6)
theorem wt{r:Reader×Int}(h:yX x0 x1=some r):FnS prog 65 (Ow.box (Ow.frz (α:=Reader))) ⟨x0⟩ [dt x1] ⟨r.1⟩ (.frz (dt r.2)):=by
 refine fnSB (fn:=f65) 0 1 func65 Z Z (λ M G _ b0 _ j=>wqw ?_)
 refine j.zo [(0,0)] (λ _ _ j=>Ka ?_)
 refine j.zh 4 [(0,0)] λ _ _ j=>?_
 have⟨v4,p4,h⟩:=bs h
 refine j.cNA 0 0 (zN p4) [5] [] λ _ _ _ _ j=>?_
 have⟨v6,p6,h⟩:=bs h
 refine j.zh 3 [(0,0)] (λ _ _ j=>Kb ?_)
 exact j.xF 0 0 h
def jS(x0:Reader)(x1:List Str):Option (Reader×Str):=
(zE x0 (x1.length:Int)).bind λ v4=>
(atI x1 v4.2).bind λ v6=>
some (v4.1,v6)
theorem XL{x1:List Str}(h:jS x0 x1=some r):FnS prog 179 (Ow.box (Ow.frz (α:=Reader))) ⟨x0⟩ [dt x1] ⟨r.1⟩ (.frz (dt r.2)):=by
 refine fnSB (fn:=f179) 0 1 func179 Z Z (λ M G _ b0 _ j=>wqw ?_)
 refine j.zo [(0,0)] (λ _ _ j=>Ka ?_)
 refine j.zh 4 [(0,0)] λ _ _ j=>?_
 have⟨v4,p4,h⟩:=bs h
 refine j.cNA 0 0 (zN p4) [5] [] λ _ _ _ _ j=>?_
 have⟨v6,p6,h⟩:=bs h
 refine j.zh 3 [(0,0)] (λ _ _ j=>Kb ?_)
 exact j.xF 0 0 h
def xw(x0:Reader):Option (Reader×Str):=
(jS x0 ([(⟨[97]⟩:Str),(⟨[98]⟩:Str),(⟨[99]⟩:Str),(⟨[97]⟩:Str),(⟨[98]⟩:Str)]:List Str)).bind λ v4=>
some (v4.1,v4.2)
theorem wZ(h:xw x0=some r):FnS prog 141 (Ow.box (Ow.frz (α:=Reader))) ⟨x0⟩ [] ⟨r.1⟩ (.frz (dt r.2)):=by
 refine fnSB (fn:=f141) 0 1 func141 Z Z (λ M G _ b0 _ j=>wqw ?_)
 refine j.zo [(0,0)] (λ _ _ j=>Ka ?_)
 refine j.zh 2 [(0,0)] (λ _ _ j=>?_) (hs:=sZ 1 (r:=by exact sc Z (yj (opds:=[_,_,_,_,_]) Z (ht':=X5) Z Z (.cons (zZ) (.cons (zZ) (.cons (zZ) (.cons (zZ) (.cons (zZ) .nil))))))<|.nil))
 have⟨v4,p4,h⟩:=bs h
 refine j.cNA 0 0 (XL p4) [] [] λ _ _ _ _ j=>?_
 refine j.zh 1 [(0,0)] (λ _ _ j=>Kb ?_)
 exact j.xF 0 0 h
def ZM(s13:Reader×Str×Int):Option ((Reader×Str×Int)⊕(Reader×Str)):=
if cmpI .gtr s13.2.2 0 then((catO s13.2.1 (⟨[46]⟩:Str)).bind λ v18=>
(xw s13.1).bind λ v22=>
(catO v18 v22.2).bind λ v24=>
(i64 (s13.2.2 - (1:Int))).bind λ v27=>
some (.inl (v22.1,v24,v27)))
else(some (.inr (s13.1,s13.2.1)))
def Zx(x0:Reader):Option (Reader×Str):=
(xw x0).bind λ v4=>
Option.bind (α:=Reader×Str) ((yX v4.1 ([(0:Int),(1:Int),(0:Int),(1:Int),(2:Int)]:List Int)).bind λ v10=>
zI (λ s13=>ZM s13) (v10.1,v4.2,v10.2)) λ o7=>
some (o7.1,o7.2)
theorem Wv(h:Zx x0=some r):FnS prog 104 (Ow.box (Ow.frz (α:=Reader))) ⟨x0⟩ [] ⟨r.1⟩ (.frz (dt r.2)):=by
 refine fnSB (fn:=f104) 0 1 func104 Z Z (λ M G w0 b0 _ j=>wqw ?_)
 refine j.zo [(0,0)] (λ _ _ j=>Ka ?_)
 refine j.zh 1 [(0,0)] λ _ _ j=>?_
 have⟨v4,p4,h⟩:=bs h
 refine j.cNA 0 0 (wZ p4) [] [] λ _ _ _ _ j=>?_
 refine j.zh 1 [(0,0)] (λ _ _ j=>Kb (za ?_))
 have⟨o7,p7,k7⟩:=bs h
 refine wqj (λ a w=>∃ M1 Q,Sx (Frm.chg w0 G) 20 M M1 [Q] [(3,dt o7.2)] [(0,0,dnm (Ow.box (Ow.frz (α:=Reader))) Q ⟨o7.1⟩ (.pointer (some ⟨b0,0,none⟩)) [])] a w) ?_ ?_
 ·refine Ka ?_
  refine j.zh 2 [(0,0)] (λ _ _ j=>?_) (hs:=sZ 1 (r:=by exact sc Z (yj (opds:=[.const (.int .i64 0),.const (.int .i64 1),.const (.int .i64 0),.const (.int .i64 1),.const (.int .i64 2)]) Z Z Z (.cons cI (.cons cI (.cons cI (.cons cI (.cons cI .nil))))))<|.nil))
  have⟨v10,p10,h⟩:=bs p7
  refine j.cNA 0 0 (wt p10) [3] [] λ _ _ _ _ j=>?_
  refine j.zh 1 [(0,0)] (λ _ _ j=>Kb ?_)
  refine wql h (λ s13 a w=>∃ M1 Q,Sx (Frm.chg w0 G) 20 M M1 [Q] [(3,dt s13.2.1),(4,dt s13.2.2)] [(0,0,dnm (Ow.box (Ow.frz (α:=Reader))) Q ⟨s13.1⟩ (.pointer (some ⟨b0,0,none⟩)) [])] a w) fx ?_
  rintro s13 z13 _ _ ⟨_,Q,j⟩ hs13 hx13
  have h:ZM s13=some z13:=hs13
  unfold ZM at h
  refine j.zd [(0,0)] h (λ _ _ j h=>?_) λ _ _ j h=>?_
  ·refine Ka ?_
   have⟨v18,p18,h⟩:=bs h
   refine j.zh 3 [(0,0)] λ _ _ j=>?_
   have⟨v22,p22,h⟩:=bs h
   refine j.cNA 0 0 (wZ p22) [3,4,15] [] λ _ _ _ _ j=>?_
   have⟨v24,p24,h⟩:=bs h
   refine j.zh 2 [(0,0)] (λ _ _ j=>Kb ?_)
   have⟨v27,p27,h⟩:=bs h
   exact j.zn [(0,0)] h
  have h:=lo h hx13
  cases h
  exact fz
 rintro _ _ ⟨_,Q,j⟩
 have h:=k7
 refine j.zo [(0,0)] λ _ _ j=>?_
 exact j.xF 0 0 h
def YR(x0:Reader):Option (Reader×Stmt):=
(zE x0 (9:Int)).bind λ v5=>
Option.bind (α:=Bool) (if cmpI .eql v5.2 0 then(some (cmpI .eql v5.2 0))
else(some (cmpI .eql v5.2 1))) λ o7=>
if o7=true then((Zx v5.1).bind λ v17=>
some (v17.1,(⟨(0:Int),v17.2,0,⟨[]⟩,0⟩:Stmt)))
else(if cmpI .eql v5.2 2 then((yX v5.1 ([(0:Int),(1:Int),(2:Int),(1:Int)]:List Int)).bind λ v27=>
(Zx v27.1).bind λ v32=>
Option.bind (α:=Reader×Str) ((gO (cmpI .gtr v27.2 0 == true) (zE v32.1 (2:Int))).bind λ v38=>
if(cmpI .gtr v27.2 0&&cmpI .eql v38.2 0)=true then(some ((if(cmpI .gtr v27.2 0 == true)=true then v38.1 else v32.1),(⟨[]⟩:Str)))
else(some ((if(cmpI .gtr v27.2 0 == true)=true then v38.1 else v32.1),v32.2))) λ o35=>
(xw o35.1).bind λ v47=>
some (v47.1,(⟨(1:Int),o35.2,v27.2,v47.2,0⟩:Stmt)))
else(if cmpI .eql v5.2 3 then((Zx v5.1).bind λ v57=>
some (v57.1,(⟨(2:Int),v57.2,0,⟨[]⟩,0⟩:Stmt)))
else(Option.bind (α:=Bool) (if cmpI .eql v5.2 4 then(some (cmpI .eql v5.2 4))
else(if cmpI .eql v5.2 5 then(some (cmpI .eql v5.2 5))
else(some (cmpI .eql v5.2 6)))) λ o62=>
if o62=true then((jS v5.1 ([(⟨[120]⟩:Str),(⟨[121]⟩:Str),(⟨[122]⟩:Str),(⟨[97]⟩:Str)]:List Str)).bind λ v75=>
(zE v75.1 (100:Int)).bind λ v79=>
some (v79.1,(⟨(3:Int),⟨[]⟩,0,v75.2,v79.2⟩:Stmt)))
else(if cmpI .eql v5.2 7 then((jS v5.1 ([(⟨[120]⟩:Str),(⟨[121]⟩:Str),(⟨[97]⟩:Str),(⟨[98]⟩:Str),(⟨[120]⟩:Str)]:List Str)).bind λ v89=>
some (v89.1,(⟨(4:Int),⟨[]⟩,0,v89.2,0⟩:Stmt)))
else((zE v5.1 (3:Int)).bind λ v96=>
if cmpI .eql v96.2 0 then(some (v96.1,(⟨(5:Int),⟨[]⟩,0,⟨[]⟩,0⟩:Stmt)))
else((zE v96.1 (100:Int)).bind λ v106=>
some (v106.1,(⟨(3:Int),⟨[]⟩,0,(⟨[120]⟩:Str),v106.2⟩:Stmt))))))))
theorem zcV{r:Reader×Stmt}(h:YR x0=some r):FnS prog 142 (Ow.box (Ow.frz (α:=Reader))) ⟨x0⟩ [] ⟨r.1⟩ (.frz (dt r.2)):=by
 refine fnSB (fn:=f142) 0 2 func142 Z Z (λ M G w0 b0 _ j=>wqw (Ka ?_))
 refine j.alA 1 zrStmt [] [0] (λ b2 _ _ _ j=>Kb (Ka ?_))
 refine j.segC 1 [5] [(0,0),(2,1)] λ _ _ j=>?_
 have⟨v5,p5,h⟩:=bs h
 refine j.cNA 0 0 (zN p5) [] [2] (λ _ _ _ _ j=>Kb (za (wqb ?_)))
 have⟨o7,p7,k7⟩:=bs h
 refine wqj (λ a w=>∃ M1 Q R,Sx (Frm.chg w0 G) 60 M M1 [Q,oneB R] [(6,dt v5.2),(7,dt o7)] [(2,1,dbox R 0 zStmt),(0,0,dnm (Ow.box (Ow.frz (α:=Reader))) Q ⟨v5.1⟩ (.pointer (some ⟨b0,0,none⟩)) [])] a w) ?_ ?_
 ·refine j.rgA [6,7] [(0,0),(2,1)] λ _ _ j=>?_
  refine j.cq p7 (λ h=>?_) λ h=>?_
  ·cases h
   exact fz
  refine j.rgA [6,7] [(0,0),(2,1)] λ _ _ j=>?_
  cases h
  exact fz
 rintro _ _ ⟨_,Q,R,j⟩
 have h:=k7
 refine j.cq h (λ h=>?_) λ h=>?_
 ·refine Ka ?_
  refine j.segC 1 [10] [(0,0),(2,1)] λ _ _ j=>?_
  have⟨v17,p17,h⟩:=bs h
  refine j.cNA 0 0 (Wv p17) [] [2] λ _ _ _ _ j=>?_
  refine j.segB 1 (sc Z (kD177_0_1 Z cI (tp Z))<|.nil) [12] [(0,0),(2,1)] λ _ _ j=>?_
  refine j.stA 2 1 FldS.id (tp Z) [] [0] (λ _ _ j=>Kb ?_)
  exact j.xC 0 0 h
 refine j.rgA [6,13] [(0,0),(2,1)] λ _ _ j=>?_
 refine j.cq h (λ h=>?_) λ h=>?_
 ·refine Ka ?_
  refine j.segB 2 (sZ 1 (r:=by exact sc Z (yj (opds:=[.const (.int .i64 0),.const (.int .i64 1),.const (.int .i64 2),.const (.int .i64 1)]) Z Z Z (.cons cI (.cons cI (.cons cI (.cons cI .nil)))))<|.nil)) [15,16] [(0,0),(2,1)] λ _ _ j=>?_
  have⟨v27,p27,h⟩:=bs h
  refine j.cNA 0 0 (wt p27) [] [2] λ _ _ _ _ j=>?_
  refine j.segA 1 [3] [(0,0),(2,1)] (λ _ _ j=>Kb (Ka ?_))
  refine j.segC 1 [3,18] [(0,0),(2,1)] λ _ _ j=>?_
  have⟨v32,p32,h⟩:=bs h
  refine j.cNA 0 0 (Wv p32) [3] [2] λ _ _ _ _ j=>?_
  refine j.segA 1 [3,4] [(0,0),(2,1)] (λ _ _ j=>Kb (za ?_))
  have⟨o35,p35,k35⟩:=bs h
  refine wqj (λ a w=>∃ M1 Q R,Sx (Frm.chg w0 G) 60 M M1 [Q,oneB R] [(3,dt v27.2),(4,dt o35.2)] [(2,1,dbox R 0 zStmt),(0,0,dnm (Ow.box (Ow.frz (α:=Reader))) Q ⟨o35.1⟩ (.pointer (some ⟨b0,0,none⟩)) [])] a w) ?_ ?_
  ·refine Ka ?_
   refine j.segB 4 (sc Z (oM Z (tp Z))<|sc Z (oCI Z (tp Z) cI)<|sc Z (oM Z (tp Z))<|sg Z Z (λ hg=>oM Z (zy Z))<|.nil) [3,4,22,23] [(0,0),(2,1)] λ _ _ j=>?_
   have⟨v38,p38,h⟩:=bs p35
   refine j.cSFgB (sb:=0) (l:=[.const (.int .i64 2)]) 0 Z iI Z Z Z kN101 (λ hg=>(j.st.has 23 _ Z).1 hg) (by simp) (λ hg=>(.cons cI .nil)) (λ hg=>zN (gh hg p38)) [3,4,22] Z [2] Z Z (by decide) λ _ _ _ _ j=>?_
   refine j.segC 2 [3,4,26] [(0,0),(2,1)] (λ _ _ j=>Kb ?_)
   refine j.cq h (λ h=>?_) λ h=>?_
   ·refine j.rgA [3,4] [(0,0),(2,1)] λ _ _ j=>?_
    cases h
    exact fz
   cases h
   exact fz
  rintro _ _ ⟨_,Q,R,j⟩
  have h:=k35
  refine Ka ?_
  refine j.segC 3 [27,28,29] [(0,0),(2,1)] λ _ _ j=>?_
  have⟨v47,p47,h⟩:=bs h
  refine j.cNA 0 0 (wZ p47) [27,28] [2] λ _ _ _ _ j=>?_
  refine j.segB 1 (sc Z (kD177_0_1_2_3 Z cI (tp Z) (tp Z) (tp Z))<|.nil) [31] [(0,0),(2,1)] λ _ _ j=>?_
  refine j.stA 2 1 FldS.id (tp Z) [] [0] (λ _ _ j=>Kb ?_)
  exact j.xC 0 0 h
 refine j.rgA [6,32] [(0,0),(2,1)] λ _ _ j=>?_
 refine j.cq h (λ h=>?_) λ h=>?_
 ·refine Ka ?_
  refine j.segC 1 [34] [(0,0),(2,1)] λ _ _ j=>?_
  have⟨v57,p57,h⟩:=bs h
  refine j.cNA 0 0 (Wv p57) [] [2] λ _ _ _ _ j=>?_
  refine j.segB 1 (sc Z (kD177_0_1 Z cI (tp Z))<|.nil) [36] [(0,0),(2,1)] λ _ _ j=>?_
  refine j.stA 2 1 FldS.id (tp Z) [] [0] (λ _ _ j=>Kb ?_)
  exact j.xC 0 0 h
 have⟨o62,p62,k62⟩:=bs h
 refine wqj (λ a w=>∃ M1 Q R,Sx (Frm.chg w0 G) 60 M M1 [Q,oneB R] [(6,dt v5.2),(37,dt o62)] [(2,1,dbox R 0 zStmt),(0,0,dnm (Ow.box (Ow.frz (α:=Reader))) Q ⟨v5.1⟩ (.pointer (some ⟨b0,0,none⟩)) [])] a w) ?_ ?_
 ·refine j.rgA [6,37] [(0,0),(2,1)] λ _ _ j=>?_
  refine j.cq p62 (λ h=>?_) λ h=>?_
  ·cases h
   exact fz
  refine j.rgA [6,37] [(0,0),(2,1)] λ _ _ j=>?_
  refine j.cq h (λ h=>?_) λ h=>?_
  ·cases h
   exact fz
  refine j.rgA [6,37] [(0,0),(2,1)] λ _ _ j=>?_
  cases h
  exact fz
 rintro _ _ ⟨_,Q,R,j⟩
 have h:=k62
 refine j.cq h (λ h=>?_) λ h=>?_
 ·refine Ka ?_
  refine j.segB 2 (sZ 1 (r:=by exact sc Z (yj (opds:=[_,_,_,_]) Z (ht':=X5) Z Z (.cons (zZ) (.cons (zZ) (.cons (zZ) (.cons (zZ) .nil)))))<|.nil)) [41,42] [(0,0),(2,1)] λ _ _ j=>?_
  have⟨v75,p75,h⟩:=bs h
  refine j.cNA 0 0 (XL p75) [] [2] λ _ _ _ _ j=>?_
  refine j.segC 1 [43,44] [(0,0),(2,1)] λ _ _ j=>?_
  have⟨v79,p79,h⟩:=bs h
  refine j.cNA 0 0 (zN p79) [43] [2] λ _ _ _ _ j=>?_
  refine j.segB 1 (sc Z (Q5 Z cI (tp Z) (tp Z))<|.nil) [46] [(0,0),(2,1)] λ _ _ j=>?_
  refine j.stA 2 1 FldS.id (tp Z) [] [0] (λ _ _ j=>Kb ?_)
  exact j.xC 0 0 h
 refine j.rgA [47] [(0,0),(2,1)] λ _ _ j=>?_
 refine j.cq h (λ h=>?_) λ h=>?_
 ·refine Ka ?_
  refine j.segB 2 (sZ 1 (r:=by exact sc Z (yj (opds:=[_,_,_,_,_]) Z (ht':=X5) Z Z (.cons (zZ) (.cons (zZ) (.cons (zZ) (.cons (zZ) (.cons (zZ) .nil))))))<|.nil)) [49,50] [(0,0),(2,1)] λ _ _ j=>?_
  have⟨v89,p89,h⟩:=bs h
  refine j.cNA 0 0 (XL p89) [] [2] λ _ _ _ _ j=>?_
  refine j.segB 1 (sc Z (kD177_0_3 Z cI (tp Z))<|.nil) [52] [(0,0),(2,1)] λ _ _ j=>?_
  refine j.stA 2 1 FldS.id (tp Z) [] [0] (λ _ _ j=>Kb ?_)
  exact j.xC 0 0 h
 refine Ka ?_
 refine j.segC 1 [53] [(0,0),(2,1)] λ _ _ j=>?_
 have⟨v96,p96,h⟩:=bs h
 refine j.cNA 0 0 (zN p96) [] [2] λ _ _ _ _ j=>?_
 refine j.segA 1 [55] [(0,0),(2,1)] (λ _ _ j=>Kb ?_)
 refine j.cq h (λ h=>?_) λ h=>?_
 ·refine Ka ?_
  refine j.segB 1 (sc Z (kD177_0 Z cI)<|.nil) [56] [(0,0),(2,1)] λ _ _ j=>?_
  refine j.stA 2 1 FldS.id (tp Z) [] [0] (λ _ _ j=>Kb ?_)
  exact j.xC 0 0 h
 refine Ka ?_
 refine j.segC 1 [57] [(0,0),(2,1)] λ _ _ j=>?_
 have⟨v106,p106,h⟩:=bs h
 refine j.cNA 0 0 (zN p106) [] [2] λ _ _ _ _ j=>?_
 refine j.segB 1 (sc Z (Q5 Z cI (zZ) (tp Z))<|.nil) [59] [(0,0),(2,1)] λ _ _ j=>?_
 refine j.stA 2 1 FldS.id (tp Z) [] [0] (λ _ _ j=>Kb ?_)
 exact j.xC 0 0 h
theorem kN103:fnB prog 103=true:=by kernel_rfl
instance iF59_1KxF:FldO prog 59 1 1:=⟨zce⟩
def wU(v5:Reader×Int)(s14:Reader×(List Stmt)×Int):Option ((Reader×(List Stmt)×Int)⊕(Reader×(List Stmt))):=
if cmpI .gtr s14.2.2 0 then((YR s14.1).bind λ v21=>
Option.bind (α:=Reader×Stmt) (if(cmpI .eql v5.2 0&&((cmpI .eql v21.2.kind 1||cmpI .eql v21.2.kind 4)||cmpI .eql v21.2.kind 5))=true then((zE v21.1 (100:Int)).bind λ v33=>
some (v33.1,(⟨(3:Int),⟨[]⟩,0,(⟨[121]⟩:Str),v33.2⟩:Stmt)))
else(some (v21.1,v21.2))) λ o27=>
(appO 56 s14.2.1 ([o27.2]:List Stmt)).bind λ v42=>
(i64 (s14.2.2 - (1:Int))).bind λ v45=>
some (.inl (o27.1,v42,v45)))
else(some (.inr (s14.1,s14.2.1)))
def ZN(x0:Reader):Option (Reader×(List Stmt)):=
(zE x0 (2:Int)).bind λ v5=>
Option.bind (α:=Reader×(List Stmt)) ((yX v5.1 ([(2:Int),(1:Int),(3:Int),(0:Int),(4:Int)]:List Int)).bind λ v11=>
zI (λ s14=>wU v5 s14) (v11.1,[],v11.2)) λ o8=>
some (o8.1,o8.2)
theorem Qu{r:Reader×(List Stmt)}(h:ZN x0=some r):FnS prog 103 (Ow.box (Ow.frz (α:=Reader))) ⟨x0⟩ [] ⟨r.1⟩ (.ow (Ow.row 177 (Ow.frz (α:=Stmt))) r.2):=by
 refine fnSB (fn:=f103) 1 3 func103 Z Z (λ M G w0 b0 _ j=>wqw ?_)
 refine j.zo [(0,1)] (λ _ _ j=>?_) (hs:=sc Z (oA Z (YY (α:=Stmt) (e:=177)))<|.nil)
 refine j.zo [(0,1),(3,0)] (λ _ _ j=>?_) (hs:=sc Z (xl (α:=Stmt) (e:=177) Z)<|segZ)
 refine Ka ?_
 refine j.zh 1 [(0,1),(3,0)] λ _ _ j=>?_
 have⟨v5,p5,h⟩:=bs h
 refine j.cNA 1 0 (zN p5) [] [3] λ _ _ _ _ j=>?_
 refine j.zh 2 [(0,1),(3,0)] (λ _ _ j=>Kb (za ?_))
 have⟨o8,p8,k8⟩:=bs h
 refine wqj (λ a w=>∃ M1 Q R T,Sx (Frm.chg w0 G) 44 M M1 [oneB Q,R,oneB T] [] [(3,0,dtip Q 177 o8.2),(0,1,dnm (Ow.box (Ow.frz (α:=Reader))) R ⟨o8.1⟩ (.pointer (some ⟨b0,0,none⟩)) [])] a w) ?_ ?_
 ·refine Ka ?_
  refine j.zh 2 [(0,1),(3,0)] (λ _ _ j=>?_) (hs:=sZ 1 (r:=by exact sc Z (yj (opds:=[.const (.int .i64 2),.const (.int .i64 1),.const (.int .i64 3),.const (.int .i64 0),.const (.int .i64 4)]) Z Z Z (.cons cI (.cons cI (.cons cI (.cons cI (.cons cI .nil))))))<|.nil))
  have⟨v11,p11,h⟩:=bs p8
  refine j.cNA 1 0 (wt p11) [4] [3] λ _ _ _ _ j=>?_
  refine j.zh 1 [(0,1),(3,0)] (λ _ _ j=>Kb ?_)
  refine wql h (λ s14 a w=>∃ M1 Q R T,Sx (Frm.chg w0 G) 44 M M1 [oneB Q,R,oneB T] [(4,dt (cmpI .eql v5.2 (0:Int))),(5,dt s14.2.2)] [(3,0,dtip Q 177 s14.2.1),(0,1,dnm (Ow.box (Ow.frz (α:=Reader))) R ⟨s14.1⟩ (.pointer (some ⟨b0,0,none⟩)) [])] a w) fx ?_
  rintro s14 z14 _ _ ⟨_,Q,R,T,j⟩ hs14 hx14
  have h:wU v5 s14=some z14:=hs14
  unfold wU at h
  refine j.zd [(0,1),(3,0)] h (λ _ _ j h=>?_) λ _ _ j h=>?_
  ·refine Ka ?_
   refine j.zh 1 [(0,1),(3,0)] λ _ _ j=>?_
   have⟨v21,p21,h⟩:=bs h
   refine j.cNA 1 0 (zcV p21) [4,5] [3] λ _ _ _ _ j=>?_
   refine j.alA 2 zrStmt [4,5,19] [0,3] λ b24 _ _ _ j=>?_
   refine j.stA 6 2 FldS.id (tp Z) [4,5] [0,3] (λ _ _ j=>Kb (za ?_))
   have⟨o27,p27,k27⟩:=bs h
   refine wqj (λ a w=>∃ M1 Q R T,Sx (Frm.chg w0 G) 44 M M1 [oneB Q,R,oneB T] [(4,dt (cmpI .eql v5.2 (0:Int))),(5,dt s14.2.2)] [(3,0,dtip Q 177 s14.2.1),(6,2,dbox T 0 o27.2),(0,1,dnm (Ow.box (Ow.frz (α:=Reader))) R ⟨o27.1⟩ (.pointer (some ⟨b0,0,none⟩)) [])] a w) ?_ ?_
   ·refine j.zd [(0,1),(3,0),(6,2)] p27 (λ _ _ j h=>?_) (λ _ _ j h=>?_) (hs:=sZ 5 (r:=by exact sg Z Z (λ hg=>oM Z (zk hg Z))<|sgg Z Z (λ hg=>Z2 Stmt.fld0 Z (tp Z))<|sgg Z Z (λ hg=>wh Z (zk hg Z))<|sgg Z Z (λ hg=>oCI Z (zk hg Z) cI)<|sg Z Z (λ hg=>js Z (zk hg Z) (QA hg Z))<|sg Z Z (λ hg=>oM Z (zk hg Z))<|sgg Z Z (λ hg=>Z2 Stmt.fld0 Z (tp Z))<|sgg Z Z (λ hg=>wh Z (zk hg Z))<|sgg Z Z (λ hg=>oCI Z (zk hg Z) cI)<|sg Z Z (λ hg=>js Z (zk hg Z) (QA hg Z))<|segZ))
    ·refine Ka ?_
     refine j.zh 1 [(0,1),(3,0),(6,2)] λ _ _ j=>?_
     have⟨v33,p33,h⟩:=bs h
     refine j.cNA 1 0 (zN p33) [4,5] [3,6] λ _ _ _ _ j=>?_
     refine j.zh 1 [(0,1),(3,0),(6,2)] (λ _ _ j=>?_) (hs:=sc Z (Q5 Z cI (zZ) (tp Z))<|.nil)
     refine j.stA 6 2 FldS.id (tp Z) [4,5] [0,3] (λ _ _ j=>Kb ?_)
     cases h
     exact fz
    cases h
    exact fz
   rintro _ _ ⟨_,Q,R,T,j⟩
   have h:=k27
   refine Ka ?_
   refine j.zh 3 [(0,1),(3,0),(39,0)] λ _ _ j=>?_
   have⟨v42,p42,h⟩:=bs h
   refine j.apA 0 yA p42 [4,5] [0] λ g41 _ _ _ j=>?_
   refine j.zh 1 [(0,1),(3,0)] (λ _ _ j=>Kb ?_)
   have⟨v45,p45,h⟩:=bs h
   exact j.zn [(0,1),(3,0)] h
  have h:=lo h hx14
  cases h
  exact fz
 rintro _ _ ⟨_,Q,R,T,j⟩
 have h:=k8
 refine j.zo [(0,1),(2,0)] λ _ _ j=>?_
 have j:=j.tipW (s:=2) 0 [0]
 exact j.rsO (s:=0) 1 0 Z Z Z iI iI (bxr h)
def YS(x0:Reader):Option (Reader×(List Int)):=
(zE x0 (8:Int)).bind λ v4=>
if cmpI .eql v4.2 0 then(some (v4.1,([(1:Int),(0:Int)]:List Int)))
else(if cmpI .eql v4.2 1 then(some (v4.1,([(2:Int),(1:Int),(0:Int)]:List Int)))
else(if cmpI .eql v4.2 2 then(some (v4.1,([(0:Int)]:List Int)))
else(if cmpI .eql v4.2 3 then(some (v4.1,([(1:Int)]:List Int)))
else(if cmpI .eql v4.2 4 then(some (v4.1,([(0:Int),(1:Int)]:List Int)))
else(some (v4.1,([(0:Int),(1:Int),(2:Int)]:List Int)))))))
theorem zcW{r:Reader×(List Int)}(h:YS x0=some r):FnS prog 105 (Ow.box (Ow.frz (α:=Reader))) ⟨x0⟩ [] ⟨r.1⟩ (.frz (dt r.2)):=by
 refine fnSB (fn:=f105) 0 1 func105 Z Z (λ M G _ b0 _ j=>wqw ?_)
 refine j.zo [(0,0)] (λ _ _ j=>?_) (hs:=sc Z (oA Z (wG (α:=Int)))<|.nil)
 refine Ka ?_
 refine j.zh 1 [(0,0)] λ _ _ j=>?_
 have⟨v4,p4,h⟩:=bs h
 refine j.cNA 0 0 (zN p4) [] [] (λ _ _ _ _ j=>Kb ?_)
 refine j.zd [(0,0)] h (λ _ _ j h=>?_) λ _ _ j h=>?_
 ·refine j.zo [(0,0)] (λ _ _ j=>?_) (hs:=sc Z (yj (opds:=[.const (.int .i64 1),.const (.int .i64 0)]) Z Z Z (.cons cI (.cons cI .nil)))<|segZ)
  exact j.xD 0 0 h
 refine j.zd [(0,0)] h (λ _ _ j h=>?_) λ _ _ j h=>?_
 ·refine j.zo [(0,0)] (λ _ _ j=>?_) (hs:=sc Z (yj (opds:=[.const (.int .i64 2),.const (.int .i64 1),.const (.int .i64 0)]) Z Z Z (.cons cI (.cons cI (.cons cI .nil))))<|segZ)
  exact j.xD 0 0 h
 refine j.zd [(0,0)] h (λ _ _ j h=>?_) λ _ _ j h=>?_
 ·refine j.zo [(0,0)] (λ _ _ j=>?_) (hs:=sc Z (yj (opds:=[.const (.int .i64 0)]) Z Z Z (.cons cI .nil))<|segZ)
  exact j.xD 0 0 h
 refine j.zd [(0,0)] h (λ _ _ j h=>?_) λ _ _ j h=>?_
 ·refine j.zo [(0,0)] (λ _ _ j=>?_) (hs:=sc Z (yj (opds:=[.const (.int .i64 1)]) Z Z Z (.cons cI .nil))<|segZ)
  exact j.xD 0 0 h
 refine j.zd [(0,0)] h (λ _ _ j h=>?_) λ _ _ j h=>?_
 ·refine j.zo [(0,0)] (λ _ _ j=>?_) (hs:=sc Z (yj (opds:=[.const (.int .i64 0),.const (.int .i64 1)]) Z Z Z (.cons cI (.cons cI .nil)))<|segZ)
  exact j.xD 0 0 h
 refine j.zo [(0,0)] (λ _ _ j=>?_) (hs:=sc Z (yj (opds:=[.const (.int .i64 0),.const (.int .i64 1),.const (.int .i64 2)]) Z Z Z (.cons cI (.cons cI (.cons cI .nil))))<|segZ)
 exact j.xD 0 0 h
def YT(x0:Reader):Option (Reader×File):=
(yX x0 ([(0:Int),(0:Int),(1:Int),(2:Int),(1:Int)]:List Int)).bind λ v5=>
(zE v5.1 (100:Int)).bind λ v10=>
(ZN v10.1).bind λ v15=>
Option.bind (α:=Reader×File) ((zE v15.1 (6:Int)).bind λ v28=>
Option.bind (α:=Bool) (if cmpI .eql v28.2 0 then(some (cmpI .eql v28.2 0))
else(some (cmpI .eql v28.2 1))) λ o31=>
if o31=true then((xw v28.1).bind λ v45=>
some (v45.1,{ (⟨v5.2,⟨[]⟩,⟨[]⟩,false,v10.2,v15.2⟩:File) with name:=v45.2 }))
else(Option.bind (α:=Bool) (if cmpI .eql v28.2 2 then(some (cmpI .eql v28.2 2))
else(some (cmpI .eql v28.2 3))) λ o52=>
if o52=true then((xw v28.1).bind λ v62=>
(xw v62.1).bind λ v70=>
some (v70.1,{ (⟨v5.2,⟨[]⟩,⟨[]⟩,false,v10.2,v15.2⟩:File) with pkg:=v62.2,name:=v70.2 }))
else(if cmpI .eql v28.2 4 then((xw v28.1).bind λ v81=>
some (v81.1,{ (⟨v5.2,⟨[]⟩,⟨[]⟩,false,v10.2,v15.2⟩:File) with pkg:=v81.2,init:=true }))
else((xw v28.1).bind λ v92=>
(catO v92.2 (⟨[46]⟩:Str)).bind λ v95=>
(xw v92.1).bind λ v99=>
(catO v95 v99.2).bind λ v102=>
(zE v99.1 (2:Int)).bind λ v109=>
if cmpI .eql v109.2 0 then(some (v109.1,{ (⟨v5.2,⟨[]⟩,⟨[]⟩,false,v10.2,v15.2⟩:File) with pkg:=v102,init:=true }))
else((xw v109.1).bind λ v120=>
some (v120.1,{ (⟨v5.2,⟨[]⟩,⟨[]⟩,false,v10.2,v15.2⟩:File) with pkg:=v102,name:=v120.2 })))))) λ o25=>
some (o25.1,o25.2)
theorem zcX{r:Reader×File}(h:YT x0=some r):FnS prog 102 (Ow.box (Ow.frz (α:=Reader))) ⟨x0⟩ [] ⟨r.1⟩ (.ow (owFile (Ow.row 177 (Ow.frz (α:=Stmt)))) r.2):=by
 refine fnSB (fn:=f102) 2 5 func102 Z Z (λ M G w0 b0 _ j=>wqw (Ka ?_))
 refine j.alcW (ow:=(owFile (Ow.row 177 (Ow.frz (α:=Stmt))))) 3 (owFile.z Ow.row_z) [] [0] λ b1 M1 _ _ j=>?_
 have j:=j.gn
 refine Kb (Ka ?_)
 refine j.zh 2 [(0,2),(2,3)] (λ _ _ j=>?_) (hs:=sZ 1 (r:=by exact sc Z (yj (opds:=[.const (.int .i64 0),.const (.int .i64 0),.const (.int .i64 1),.const (.int .i64 2),.const (.int .i64 1)]) Z Z Z (.cons cI (.cons cI (.cons cI (.cons cI (.cons cI .nil))))))<|.nil))
 have⟨v5,p5,h⟩:=bs h
 refine j.cNA 2 0 (wt p5) [] [2] λ G4 _ _ _ j=>?_
 refine j.zh 1 [(0,2),(2,3)] λ _ _ j=>?_
 have⟨v10,p10,h⟩:=bs h
 refine j.cNA 2 0 (zN p10) [6] [2] λ G9 _ _ _ j=>?_
 refine j.zh 1 [(0,2),(2,3)] λ _ _ j=>?_
 have⟨v15,p15,h⟩:=bs h
 refine j.cSO (l:=[]) 2 0 (j.bkN (s:=0)) Z Z kN103 (Eq.trans (j.st.has 9 _ Z) (j.st.has 0 _ Z).1.symm) .nil (Qu p15) [6,8] Z [2] Z Z Z Z λ G14 H14 _ _ _ j=>?_
 have j:=j.gn
 refine j.bldW (ow:=(owFile (Ow.row 177 (Ow.frz (α:=Stmt))))) (parts:=[(0,.tmp 6),(4,.tmp 8),(5,.tmp 10)]) (ns:=[1,1,1,1,1,1]) (zs:=zpFile) (x:=(⟨v5.2,⟨[]⟩,⟨[]⟩,false,v10.2,v15.2⟩:File)) 1 [0] (FA ⟨by decide,Rep.len (α:=Int) (OpdR.cells (tp Z) (λ s y hs=>j.st.has s y hs))⟩ (FA ⟨by decide,Rep.len (α:=Int) (OpdR.cells (tp Z) (λ s y hs=>j.st.has s y hs))⟩ (FA ⟨by decide,Ow.len _ (y6 (j.st.has 10 _ Z))⟩ FN))) (((owFile (Ow.row 177 (Ow.frz (α:=Stmt))))).more (owFile.mk (x:=(⟨v5.2,⟨[]⟩,⟨[]⟩,false,v10.2,v15.2⟩:File)) (OpdR.cells (tp Z) (λ s y hs=>j.st.has s y hs)) w8 w8 ⟨Z,trivial⟩ (OpdR.cells (tp Z) (λ s y hs=>j.st.has s y hs)) (y6 (j.st.has 10 _ Z))) (λ b=>(λ hb=>⟨0,by simp,hb⟩))) [] [0,2] (λ G18 _ _ j=>?_)
 have j:=j.gs (Gs':=[oneB none,G18,G14,(oneB (some b1)),oneB none])
 have j:=j.gn
 refine j.alcW (ow:=(owFile (Ow.row 177 (Ow.frz (α:=Stmt))))) 4 (owFile.z Ow.row_z) [] [0,2,11] λ b21 _ _ _ j=>?_
 have j:=j.gn
 refine j.stO (sb:=3) (tv:=11) 4 1 (PV.root.box Z) (zy Z) [] [0,2] λ G23 _ j=>?_
 have j:=j.gn
 refine Kb (za ?_)
 have⟨o25,p25,k25⟩:=bs h
 refine wqj (λ a w=>∃ M1 Q R T U V,Sx (Frm.chg w0 G) 50 M M1 [Q,R,T,U,V] [] [(0,2,dnm (Ow.box (Ow.frz (α:=Reader))) T ⟨o25.1⟩ (.pointer (some ⟨b0,0,none⟩)) []),(2,3,dow (Ow.box (owFile (Ow.row 177 (Ow.frz (α:=Stmt))))) U ⟨JA⟩),(3,4,dow (Ow.box (owFile (Ow.row 177 (Ow.frz (α:=Stmt))))) V ⟨o25.2⟩)] a w) ?_ ?_
 ·refine Ka ?_
  refine j.zh 1 [(0,2),(2,3),(3,4)] λ _ _ j=>?_
  have⟨v28,p28,h⟩:=bs p25
  refine j.cNA 2 0 (zN p28) [] [2,3] (λ G27 _ _ _ j=>Kb (za (wqb ?_)))
  have⟨o31,p31,k31⟩:=bs h
  refine wqj (λ a w=>∃ M1 Q R T U V,Sx (Frm.chg w0 G) 50 M M1 [Q,R,T,U,V] [(13,dt v28.2),(28,dt o31)] [(0,2,dnm (Ow.box (Ow.frz (α:=Reader))) T ⟨v28.1⟩ (.pointer (some ⟨b0,0,none⟩)) []),(2,3,dow (Ow.box (owFile (Ow.row 177 (Ow.frz (α:=Stmt))))) U ⟨JA⟩),(3,4,dow (Ow.box (owFile (Ow.row 177 (Ow.frz (α:=Stmt))))) V ⟨(⟨v5.2,⟨[]⟩,⟨[]⟩,false,v10.2,v15.2⟩:File)⟩)] a w) ?_ ?_
  ·refine j.zd [(0,2),(2,3),(3,4)] p31 (λ _ _ j h=>?_) λ _ _ j h=>?_
   ·have j:=j.unm (s:=2) 3 [0,3]
    have j:=j.unm (s:=3) 4 [0,2]
    cases h
    exact fz
   refine j.zo [(0,2),(2,3),(3,4)] λ _ _ j=>?_
   have j:=j.unm (s:=2) 3 [0,3]
   have j:=j.unm (s:=3) 4 [0,2]
   cases h
   exact fz
  rintro _ _ ⟨_,Q,R,T,U,V,j⟩
  have h:=k31
  refine j.cq h (λ h=>?_) λ h=>?_
  ·refine Ka ?_
   refine j.zh 1 [(0,2),(2,3),(3,4)] λ _ _ j=>?_
   have⟨v45,p45,h⟩:=bs h
   refine j.cNA 2 0 (wZ p45) [] [2,3] λ G44 _ _ _ j=>?_
   refine j.nmB (s:=3) 4 [0,2] λ b48 j=>?_
   refine j.zh 1 [(0,2),(2,3),(3,4)] (λ _ _ j=>?_) (hs:=sc Z (xFa Z kF59_2 (zy Z))<|.nil)
   refine j.sfA 3 4 ((PV.root.box Z).fld owFile.f2) (tp Z) (tp Z) [] [0,2] (λ _ j=>Kb ?_)
   have j:=j.unm (s:=3) 4 [0,2]
   cases h
   exact fz
  have⟨o52,p52,k52⟩:=bs h
  refine wqj (λ a w=>∃ M1 Q R T U V,Sx (Frm.chg w0 G) 50 M M1 [Q,R,T,U,V] [(13,dt v28.2),(34,dt o52)] [(0,2,dnm (Ow.box (Ow.frz (α:=Reader))) T ⟨v28.1⟩ (.pointer (some ⟨b0,0,none⟩)) []),(2,3,dow (Ow.box (owFile (Ow.row 177 (Ow.frz (α:=Stmt))))) U ⟨JA⟩),(3,4,dow (Ow.box (owFile (Ow.row 177 (Ow.frz (α:=Stmt))))) V ⟨(⟨v5.2,⟨[]⟩,⟨[]⟩,false,v10.2,v15.2⟩:File)⟩)] a w) ?_ ?_
  ·refine j.zd [(0,2),(2,3),(3,4)] p52 (λ _ _ j h=>?_) λ _ _ j h=>?_
   ·cases h
    exact fz
   refine j.zo [(0,2),(2,3),(3,4)] λ _ _ j=>?_
   cases h
   exact fz
  rintro _ _ ⟨_,Q,R,T,U,V,j⟩
  have h:=k52
  refine j.cq h (λ h=>?_) λ h=>?_
  ·refine Ka ?_
   refine j.zh 1 [(0,2),(2,3),(3,4)] λ _ _ j=>?_
   have⟨v62,p62,h⟩:=bs h
   refine j.cNA 2 0 (wZ p62) [] [2,3] λ G61 _ _ _ j=>?_
   refine j.nmB (s:=3) 4 [0,2] λ b65 j=>?_
   refine j.zh 1 [(0,2),(2,3),(3,4)] (λ _ _ j=>?_) (hs:=sc Z (xFa Z zce (zy Z))<|.nil)
   refine j.sfA 3 4 ((PV.root.box Z).fld owFile.f1) (tp Z) (tp Z) [] [0,2] (λ _ j=>Kb (Ka ?_))
   refine j.zh 1 [(0,2),(2,3),(3,4)] λ _ _ j=>?_
   have⟨v70,p70,h⟩:=bs h
   refine j.cNA 2 0 (wZ p70) [] [2,3] λ G69 _ _ _ j=>?_
   refine j.zh 1 [(0,2),(2,3),(3,4)] (λ _ _ j=>?_) (hs:=sc Z (xFa Z kF59_2 (zy Z))<|.nil)
   refine j.sfA 3 4 ((PV.root.box Z).fld owFile.f2) (tp Z) (tp Z) [] [0,2] (λ _ j=>Kb ?_)
   have j:=j.unm (s:=3) 4 [0,2]
   cases h
   exact fz
  refine j.zd [(0,2),(2,3),(3,4)] h (λ _ _ j h=>?_) λ _ _ j h=>?_
  ·refine Ka ?_
   refine j.zh 1 [(0,2),(2,3),(3,4)] λ _ _ j=>?_
   have⟨v81,p81,h⟩:=bs h
   refine j.cNA 2 0 (wZ p81) [] [2,3] λ G80 _ _ _ j=>?_
   refine j.nmB (s:=3) 4 [0,2] λ b84 j=>?_
   refine j.zh 1 [(0,2),(2,3),(3,4)] (λ _ _ j=>?_) (hs:=sc Z (xFa Z zce (zy Z))<|.nil)
   refine j.sfA 3 4 ((PV.root.box Z).fld owFile.f1) (tp Z) (tp Z) [] [0,2] (λ _ j=>Kb (Ka ?_))
   refine j.zh 1 [(0,2),(2,3),(3,4)] (λ _ _ j=>?_) (hs:=sc Z (xFa Z kF59_3 (zy Z))<|.nil)
   refine j.sfA 3 4 ((PV.root.box Z).fld owFile.f3) (tp Z) cB [] [0,2] (λ _ j=>Kb ?_)
   have j:=j.unm (s:=3) 4 [0,2]
   cases h
   exact fz
  refine Ka ?_
  refine j.zh 1 [(0,2),(2,3),(3,4)] λ _ _ j=>?_
  have⟨v92,p92,h⟩:=bs h
  refine j.cNA 2 0 (wZ p92) [] [2,3] λ G91 _ _ _ j=>?_
  have⟨v95,p95,h⟩:=bs h
  refine j.zh 2 [(0,2),(2,3),(3,4)] λ _ _ j=>?_
  have⟨v99,p99,h⟩:=bs h
  refine j.cNA 2 0 (wZ p99) [16] [2,3] λ G98 _ _ _ j=>?_
  have⟨v102,p102,h⟩:=bs h
  refine j.nmB (s:=3) 4 [0,2] λ b103 j=>?_
  refine j.zh 2 [(0,2),(2,3),(3,4)] (λ _ _ j=>?_) (hs:=sZ 1 (r:=by exact sc Z (xFa Z zce (zy Z))<|.nil))
  refine j.sfA 3 4 ((PV.root.box Z).fld owFile.f1) (tp Z) (tp Z) [] [0,2] (λ _ j=>Kb (Ka ?_))
  refine j.zh 1 [(0,2),(2,3),(3,4)] λ _ _ j=>?_
  have⟨v109,p109,h⟩:=bs h
  refine j.cNA 2 0 (zN p109) [] [2,3] λ G108 _ _ _ j=>?_
  refine j.zh 1 [(0,2),(2,3),(3,4)] (λ _ _ j=>Kb ?_)
  refine j.cq h (λ h=>?_) λ h=>?_
  ·refine Ka ?_
   refine j.zh 1 [(0,2),(2,3),(3,4)] (λ _ _ j=>?_) (hs:=sc Z (xFa Z kF59_3 (zy Z))<|.nil)
   refine j.sfA 3 4 ((PV.root.box Z).fld owFile.f3) (tp Z) cB [] [0,2] (λ _ j=>Kb ?_)
   have j:=j.unm (s:=3) 4 [0,2]
   cases h
   exact fz
  refine Ka ?_
  refine j.zh 1 [(0,2),(2,3),(3,4)] λ _ _ j=>?_
  have⟨v120,p120,h⟩:=bs h
  refine j.cNA 2 0 (wZ p120) [] [2,3] λ G119 _ _ _ j=>?_
  refine j.zh 1 [(0,2),(2,3),(3,4)] (λ _ _ j=>?_) (hs:=sc Z (xFa Z kF59_2 (zy Z))<|.nil)
  refine j.sfA 3 4 ((PV.root.box Z).fld owFile.f2) (tp Z) (tp Z) [] [0,2] (λ _ j=>Kb ?_)
  have j:=j.unm (s:=3) 4 [0,2]
  cases h
  exact fz
 rintro _ _ ⟨_,Q,R,T,U,V,j⟩
 have h:=k25
 refine Ka ?_
 refine j.nmB (s:=3) 4 [0,2] λ b128 j=>?_
 refine j.ldW (sb:=3) 4 [] [0,2] λ _ _ j=>?_
 refine j.nmB (s:=2) 3 [0,49] λ b130 j=>?_
 refine j.stO (sb:=2) (tv:=49) 3 4 (PV.root.box Z) (zy Z) [] [0] λ _ _ j=>?_
 have j:=j.gn
 refine Kb ?_
 exact j.rsCO (s:=0) 2 3 Z kT59 Z Z iI iI (bxr h)
theorem kN102:fnB prog 102=true:=by kernel_rfl
theorem kD61_0_1:∀ {M:Nat->Prop} {look:Nat->Option Dt} {o:Oper} {q0 q1:Operand} {y0:Int} {y1:File},o.op=.build 61 #[(0,q0),(1,q1)]->OpdR M look q0 (dt y0)->OpdR M look q1 (dt y1)->OpRel prog M look o (dt (⟨y0,y1,0,⟨[]⟩⟩:GAct)):=@λ _ _ _ q0 q1 y0 y1 ho h0 h1=>zK (parts:=[(0,q0),(1,q1)]) (ns:=[1,6,1,1]) (zs:=zpGAct) Z ho (λ w a hl=>FA ⟨(by decide:0<4),Rep.len (α:=Int) (OpdR.cells h0 hl)⟩ (FA ⟨(by decide:1<4),Rep.len (α:=File) (OpdR.cells h1 hl)⟩ FN)) (λ w a hl=>GAct.parts (x:=(⟨y0,y1,0,⟨[]⟩⟩:GAct)) (OpdR.cells h0 hl) (OpdR.cells h1 hl) ⟨Z,trivial⟩ w8)
theorem kD59_5:∀ {M:Nat->Prop} {look:Nat->Option Dt} {o:Oper} {q5:Operand} {y5:List Stmt},o.op=.build 59 #[(5,q5)]->OpdR M look q5 (dt y5)->OpRel prog M look o (dt (⟨0,⟨[]⟩,⟨[]⟩,false,0,y5⟩:File)):=@λ _ _ _ q5 y5 ho h5=>zK (parts:=[(5,q5)]) (ns:=[1,1,1,1,1,1]) (zs:=zpFile) Z ho (λ w a hl=>FA ⟨(by decide:5<6),Rep.len (α:=List Stmt) (OpdR.cells h5 hl)⟩ FN) (λ w a hl=>File.parts (x:=(⟨0,⟨[]⟩,⟨[]⟩,false,0,y5⟩:File)) ⟨Z,trivial⟩ w8 w8 ⟨Z,trivial⟩ ⟨Z,trivial⟩ (OpdR.cells h5 hl))
theorem kD61_0_2_1:∀ {M:Nat->Prop} {look:Nat->Option Dt} {o:Oper} {q0 q2 q1:Operand} {y0:Int} {y2:Int} {y1:File},o.op=.build 61 #[(0,q0),(2,q2),(1,q1)]->OpdR M look q0 (dt y0)->OpdR M look q2 (dt y2)->OpdR M look q1 (dt y1)->OpRel prog M look o (dt (⟨y0,y1,y2,⟨[]⟩⟩:GAct)):=@λ _ _ _ q0 q2 q1 y0 y2 y1 ho h0 h2 h1=>zK (parts:=[(0,q0),(2,q2),(1,q1)]) (ns:=[1,6,1,1]) (zs:=zpGAct) Z ho (λ w a hl=>FA ⟨(by decide:0<4),Rep.len (α:=Int) (OpdR.cells h0 hl)⟩ (FA ⟨(by decide:2<4),Rep.len (α:=Int) (OpdR.cells h2 hl)⟩ (FA ⟨(by decide:1<4),Rep.len (α:=File) (OpdR.cells h1 hl)⟩ FN))) (λ w a hl=>GAct.parts (x:=(⟨y0,y1,y2,⟨[]⟩⟩:GAct)) (OpdR.cells h0 hl) (OpdR.cells h1 hl) (OpdR.cells h2 hl) w8)
theorem kD61_0_2:∀ {M:Nat->Prop} {look:Nat->Option Dt} {o:Oper} {q0 q2:Operand} {y0:Int} {y2:Int},o.op=.build 61 #[(0,q0),(2,q2)]->OpdR M look q0 (dt y0)->OpdR M look q2 (dt y2)->OpRel prog M look o (dt (⟨y0,JA,y2,⟨[]⟩⟩:GAct)):=@λ _ _ _ q0 q2 y0 y2 ho h0 h2=>zK (parts:=[(0,q0),(2,q2)]) (ns:=[1,6,1,1]) (zs:=zpGAct) Z ho (λ w a hl=>FA ⟨(by decide:0<4),Rep.len (α:=Int) (OpdR.cells h0 hl)⟩ (FA ⟨(by decide:2<4),Rep.len (α:=Int) (OpdR.cells h2 hl)⟩ FN)) (λ w a hl=>GAct.parts (x:=(⟨y0,JA,y2,⟨[]⟩⟩:GAct)) (OpdR.cells h0 hl) (Wg _ _) (OpdR.cells h2 hl) w8)
theorem kD61_0_3:∀ {M:Nat->Prop} {look:Nat->Option Dt} {o:Oper} {q0 q3:Operand} {y0:Int} {y3:Str},o.op=.build 61 #[(0,q0),(3,q3)]->OpdR M look q0 (dt y0)->OpdR M look q3 (dt y3)->OpRel prog M look o (dt (⟨y0,JA,0,y3⟩:GAct)):=@λ _ _ _ q0 q3 y0 y3 ho h0 h3=>zK (parts:=[(0,q0),(3,q3)]) (ns:=[1,6,1,1]) (zs:=zpGAct) Z ho (λ w a hl=>FA ⟨(by decide:0<4),Rep.len (α:=Int) (OpdR.cells h0 hl)⟩ (FA ⟨(by decide:3<4),Rep.len (α:=Str) (OpdR.cells h3 hl)⟩ FN)) (λ w a hl=>GAct.parts (x:=(⟨y0,JA,0,y3⟩:GAct)) (OpdR.cells h0 hl) (Wg _ _) ⟨Z,trivial⟩ (OpdR.cells h3 hl))
theorem kN63:fnB prog 63=true:=by kernel_rfl
theorem kN64:fnB prog 64=true:=by kernel_rfl
theorem kD83_0_1:∀ {M:Nat->Prop} {look:Nat->Option Dt} {o:Oper} {q0 q1:Operand} {y0:Int} {y1:Str},o.op=.build 83 #[(0,q0),(1,q1)]->OpdR M look q0 (dt y0)->OpdR M look q1 (dt y1)->OpRel prog M look o (dt (⟨y0,y1⟩:GCmd)):=@λ _ _ _ q0 q1 y0 y1 ho h0 h1=>zK (parts:=[(0,q0),(1,q1)]) (ns:=[1,1]) (zs:=zpGCmd) Z ho (λ w a hl=>FA ⟨(by decide:0<2),Rep.len (α:=Int) (OpdR.cells h0 hl)⟩ (FA ⟨(by decide:1<2),Rep.len (α:=Str) (OpdR.cells h1 hl)⟩ FN)) (λ w a hl=>GCmd.parts (x:=(⟨y0,y1⟩:GCmd)) (OpdR.cells h0 hl) (OpdR.cells h1 hl))
def Xr(x0:Reader):Option (Reader×(List Int)):=
(zE x0 (20:Int)).bind λ v4=>
if cmpI .eql v4.2 0 then((zE v4.1 (3:Int)).bind λ v11=>
(atI ([([]:List Int),([(0:Int),(0:Int)]:List Int),([(3:Int)]:List Int)]:List (List Int)) v11.2).bind λ v13=>
some (v11.1,v13))
else((YS v4.1).bind λ v18=>
some (v18.1,v18.2))
theorem zdq{r:Reader×(List Int)}(h:Xr x0=some r):FnS prog 64 (Ow.box (Ow.frz (α:=Reader))) ⟨x0⟩ [] ⟨r.1⟩ (.frz (dt r.2)):=by
 refine fnSB (fn:=f64) 0 1 func64 Z Z (λ M G _ b0 _ j=>wqw ?_)
 refine j.zo [(0,0)] (λ _ _ j=>?_) (hs:=sc Z (oA Z (wG (α:=Int)))<|.nil)
 refine Ka ?_
 refine j.zh 1 [(0,0)] λ _ _ j=>?_
 have⟨v4,p4,h⟩:=bs h
 refine j.cNA 0 0 (zN p4) [] [] λ _ _ _ _ j=>?_
 refine j.zh 1 [(0,0)] (λ _ _ j=>Kb ?_)
 refine j.cq h (λ h=>?_) λ h=>?_
 ·refine Ka ?_
  refine j.zh 5 [(0,0)] (λ _ _ j=>?_) (hs:=sc Z (yj (opds:=[]) (α:=Int) Z Z Z .nil)<|sc Z (yj (opds:=[.const (.int .i64 0),.const (.int .i64 0)]) Z Z Z (.cons cI (.cons cI .nil)))<|sc Z (yj (opds:=[.const (.int .i64 3)]) Z Z Z (.cons cI .nil))<|sc Z (yj (opds:=[.tmp 6,.tmp 7,.tmp 8]) Z Z Z (.cons (tp Z) (.cons (tp Z) (.cons (tp Z) .nil))))<|segZ)
  have⟨v11,p11,h⟩:=bs h
  refine j.cNA 0 0 (zN p11) [9] [] λ _ _ _ _ j=>?_
  have⟨v13,p13,h⟩:=bs h
  refine j.zh 3 [(0,0)] (λ _ _ j=>Kb ?_)
  exact j.xD 0 0 h
 refine Ka ?_
 refine j.zh 1 [(0,0)] λ _ _ j=>?_
 have⟨v18,p18,h⟩:=bs h
 refine j.cNA 0 0 (zcW p18) [] [] λ _ _ _ _ j=>?_
 refine j.zh 1 [(0,0)] (λ _ _ j=>Kb ?_)
 exact j.xD 0 0 h
def wV(s11:Reader×(List GAct)×Int×Int):Option ((Reader×(List GAct)×Int×Int)⊕(Reader×(List GAct))):=
if cmpI .gtr s11.2.2.2 0 then(Option.bind (α:=Reader×(List GAct)×Int) ((zE s11.1 (8:Int)).bind λ v19=>
Option.bind (α:=Bool) (if cmpI .eql v19.2 0 then(some (cmpI .eql v19.2 0))
else(if cmpI .eql v19.2 1 then(some (cmpI .eql v19.2 1))
else(some (cmpI .eql v19.2 2)))) λ o21=>
if o21=true then((YT v19.1).bind λ v35=>
(appO 112 s11.2.1 ([(⟨(0:Int),v35.2,0,⟨[]⟩⟩:GAct)]:List GAct)).bind λ v43=>
(i64 (s11.2.2.1+(1:Int))).bind λ v46=>
some (v35.1,v43,v46))
else(if cmpI .eql v19.2 3 then((i64 (s11.2.2.1+(1:Int))).bind λ v54=>
(zE v19.1 v54).bind λ v58=>
(ZN v58.1).bind λ v62=>
(appO 112 s11.2.1 ([(⟨(2:Int),(⟨0,⟨[]⟩,⟨[]⟩,false,0,v62.2⟩:File),v58.2,⟨[]⟩⟩:GAct)]:List GAct)).bind λ v70=>
some (v62.1,v70,s11.2.2.1))
else(if cmpI .eql v19.2 4 then((zE v19.1 (2:Int)).bind λ v79=>
if cmpI .eql v79.2 0 then((i64 (s11.2.2.1+(1:Int))).bind λ v85=>
(zE v79.1 v85).bind λ v89=>
(appO 112 s11.2.1 ([(⟨(1:Int),JA,v89.2,⟨[]⟩⟩:GAct)]:List GAct)).bind λ v97=>
some (v89.1,v97,s11.2.2.1))
else(some (v79.1,s11.2.1,s11.2.2.1)))
else((Zx v19.1).bind λ v104=>
(appO 112 s11.2.1 ([(⟨(3:Int),JA,0,v104.2⟩:GAct)]:List GAct)).bind λ v112=>
some (v104.1,v112,s11.2.2.1))))) λ o16=>
(i64 (s11.2.2.2 - (1:Int))).bind λ v117=>
some (.inl (o16.1,o16.2.1,o16.2.2,v117)))
else(some (.inr (s11.1,s11.2.1)))
def YU(x0:Reader):Option (Reader×(List GAct)):=
Option.bind (α:=Reader×(List GAct)) ((yX x0 ([(8:Int),(12:Int),(6:Int),(16:Int),(3:Int),(0:Int)]:List Int)).bind λ v7=>
zI (λ s11=>wV s11) (v7.1,[],(0:Int),v7.2)) λ o4=>
Option.bind (α:=Reader×(List GAct)) ((gO (cmpI .gtr (o4.2.length:Int) 0 == true) (zE o4.1 (20:Int))).bind λ v126=>
if(cmpI .gtr (o4.2.length:Int) 0&&cmpI .eql v126.2 0)=true then((yX (if(cmpI .gtr (o4.2.length:Int) 0 == true)=true then v126.1 else o4.1) ([(-1:Int),(4:Int)]:List Int)).bind λ v133=>
(atI o4.2 0).bind λ v135=>
some (v133.1,(o4.2.set (0:Int).toNat ({ v135 with kind:=v133.2 }))))
else(some ((if(cmpI .gtr (o4.2.length:Int) 0 == true)=true then v126.1 else o4.1),o4.2))) λ o122=>
some (o122.1,o122.2)
theorem zcY{r:Reader×(List GAct)}(h:YU x0=some r):FnS prog 63 (Ow.box (Ow.frz (α:=Reader))) ⟨x0⟩ [] ⟨r.1⟩ (.ow (Ow.row 61 (Ow.frz (α:=GAct))) r.2):=by
 refine fnSB (fn:=f63) 1 2 func63 Z Z (λ M G w0 b0 _ j=>wqw ?_)
 refine j.rgB (sc Z (oA Z (wG (α:=GAct)))<|.nil) [] [(0,1)] λ _ _ j=>?_
 refine j.rgB (sc Z (xl (α:=GAct) (e:=61) Z)<|segZ) [] [(0,1),(3,0)] λ _ _ j=>?_
 refine j.rgA [4] [(0,1),(3,0)] (λ _ _ j=>za ?_)
 have⟨o4,p4,k4⟩:=bs h
 refine wqj (λ a w=>∃ M1 Q R,Sx (Frm.chg w0 G) 75 M M1 [Q,R] [] [(0,1,dnm (Ow.box (Ow.frz (α:=Reader))) R ⟨o4.1⟩ (.pointer (some ⟨b0,0,none⟩)) []),(3,0,dow (Ow.row 61 (Ow.frz (α:=GAct))) Q o4.2)] a w) ?_ ?_
 ·refine Ka ?_
  refine j.segB 2 (sZ 1 (r:=by exact sc Z (yj (opds:=[.const (.int .i64 8),.const (.int .i64 12),.const (.int .i64 6),.const (.int .i64 16),.const (.int .i64 3),.const (.int .i64 0)]) Z Z Z (.cons cI (.cons cI (.cons cI (.cons cI (.cons cI (.cons cI .nil)))))))<|.nil)) [4,7,8] [(0,1),(3,0)] λ _ _ j=>?_
  have⟨v7,p7,h⟩:=bs p4
  refine j.cNA 1 0 (wt p7) [4] [3] λ _ _ _ _ j=>?_
  refine j.segA 1 [4,5] [(0,1),(3,0)] (λ _ _ j=>Kb ?_)
  have j:=j.tipW (s:=3) 0 (hG:=iE) [0]
  refine wql h (λ s11 a w=>∃ M1 Q R,Sx (Frm.chg w0 G) 75 M M1 [Q,R] [(4,dt s11.2.2.1),(5,dt s11.2.2.2)] [(0,1,dnm (Ow.box (Ow.frz (α:=Reader))) R ⟨s11.1⟩ (.pointer (some ⟨b0,0,none⟩)) []),(3,0,dow (Ow.row 61 (Ow.frz (α:=GAct))) Q s11.2.1)] a w) fx ?_
  rintro s11 z11 _ _ ⟨_,Q,R,j⟩ hs11 hx11
  have h:wV s11=some z11:=hs11
  unfold wV at h
  refine j.rgA [4,5,11] [(0,1),(3,0)] λ _ _ j=>?_
  refine j.cq h (λ h=>?_) λ h=>?_
  ·refine wqk (za ?_)
   have⟨o16,p16,k16⟩:=bs h
   refine wqj (λ a w=>∃ M1 Q R,Sx (Frm.chg w0 G) 75 M M1 [Q,R] [(4,dt o16.2.2),(5,dt s11.2.2.2)] [(0,1,dnm (Ow.box (Ow.frz (α:=Reader))) R ⟨o16.1⟩ (.pointer (some ⟨b0,0,none⟩)) []),(3,0,dow (Ow.row 61 (Ow.frz (α:=GAct))) Q o16.2.1)] a w) ?_ ?_
   ·refine Ka ?_
    refine j.segC 1 [4,5,14] [(0,1),(3,0)] λ _ _ j=>?_
    have⟨v19,p19,h⟩:=bs p16
    refine j.cNA 1 0 (zN p19) [4,5] [3] (λ _ _ _ _ j=>Kb (za (wqb ?_)))
    have⟨o21,p21,k21⟩:=bs h
    refine wqj (λ a w=>∃ M1 Q R,Sx (Frm.chg w0 G) 75 M M1 [Q,R] [(4,dt s11.2.2.1),(5,dt s11.2.2.2),(15,dt v19.2),(22,dt o21)] [(0,1,dnm (Ow.box (Ow.frz (α:=Reader))) R ⟨v19.1⟩ (.pointer (some ⟨b0,0,none⟩)) []),(3,0,dow (Ow.row 61 (Ow.frz (α:=GAct))) Q s11.2.1)] a w) ?_ ?_
    ·refine j.rgA [4,5,15,22] [(0,1),(3,0)] λ _ _ j=>?_
     refine j.cq p21 (λ h=>?_) λ h=>?_
     ·cases h
      exact fz
     refine j.rgA [4,5,15,22] [(0,1),(3,0)] λ _ _ j=>?_
     refine j.cq h (λ h=>?_) λ h=>?_
     ·cases h
      exact fz
     refine j.rgA [4,5,15,22] [(0,1),(3,0)] λ _ _ j=>?_
     cases h
     exact fz
    rintro _ _ ⟨_,Q,R,j⟩
    have h:=k21
    refine j.cq h (λ h=>?_) λ h=>?_
    ·refine Ka ?_
     refine j.nmR (s:=3) 0 [0] λ g32 A32 _ hA32 j=>?_
     refine j.segB 2 (sc Z (oM Z (tp Z))<|sc Z (oM Z (zy Z))<|.nil) [4,5,27] [(0,1),(3,0),(26,0)] λ _ _ j=>?_
     have⟨v35,p35,h⟩:=bs h
     refine j.cSF (l:=[]) 1 (j.bkN (s:=0)) Z Z kN102 (Eq.trans (j.st.has 27 _ Z) (j.st.has 0 _ Z).1.symm) (by simp) .nil (FnS.frz (zcX p35)) [4,5] Z [3,26] Z Z (by decide) λ _ _ _ _ j=>?_
     refine j.seg 2 (
       sc Z (kD61_0_1 Z cI (tp Z))<|sc Z (yj (opds:=[.tmp 29]) Z Z Z (.cons (tp Z) .nil))<|.nil) [4,5,30] Z [(0,1),(3,0),(26,0)] Z ⟨iI,⟨iI,iT⟩⟩ (λ _ _ j=>?_)
     have j:=j.unm (s:=26) 0 [0]
     refine j.tipR (s:=26) 0 (by first | (simp;done) | exact oD rfl) [0] λ g40 j=>?_
     have⟨v43,p43,h⟩:=bs h
     refine j.apA 0 yA p43 [4,5] [0] λ g42 _ _ _ j=>?_
     refine j.segA 1 [4,5] [(0,1),(3,0)] (λ _ _ j=>Kb ?_)
     have⟨v46,p46,h⟩:=bs h
     refine j.rgA [4,5] [(0,1),(3,0)] λ _ _ j=>?_
     have j:=j.tipW (s:=3) 0 [0]
     cases h
     exact fz
    refine j.rgA [4,5,15,34] [(0,1),(3,0)] λ _ _ j=>?_
    refine j.cq h (λ h=>?_) λ h=>?_
    ·refine Ka ?_
     have⟨v54,p54,h⟩:=bs h
     refine j.nmR (s:=3) 0 [0] λ g53 A53 _ hA53 j=>?_
     refine j.segB 4 (sc Z (oM Z (tp Z))<|sc Z (oM Z (zy Z))<|sc Z (oM Z (tp Z))<|sc Z (xAr Z (tp Z) cI p54)<|.nil) [4,5,37,39] [(0,1),(3,0),(36,0)] λ _ _ j=>?_
     have⟨v58,p58,h⟩:=bs h
     refine j.cSF (l:=[.tmp 39]) 1 (j.bkN (s:=0)) Z Z kN101 (Eq.trans (j.st.has 37 _ Z) (j.st.has 0 _ Z).1.symm) (by simp) (.cons (tp Z) .nil) (zN p58) [4,5] Z [3,36] Z Z (by decide) λ _ _ _ _ j=>?_
     refine j.seg 1 (
       sc Z (oM Z (zy Z))<|.nil) [4,5,40,41] Z [(0,1),(3,0),(36,0)] Z ⟨iI,⟨iI,iT⟩⟩ (λ _ _ j=>?_)
     have⟨v62,p62,h⟩:=bs h
     refine j.cSF (l:=[]) 1 (j.bkN (s:=0)) Z Z kN103 (Eq.trans (j.st.has 41 _ Z) (j.st.has 0 _ Z).1.symm) (by simp) .nil (FnS.frz (Qu p62)) [4,5,40] Z [3,36] Z Z (by decide) λ _ _ _ _ j=>?_
     refine j.seg 3 (
       sc Z (kD59_5 Z (tp Z))<|sc Z (kD61_0_2_1 Z cI (tp Z) (tp Z))<|sc Z (yj (opds:=[.tmp 44]) Z Z Z (.cons (tp Z) .nil))<|.nil) [4,5,45] Z [(0,1),(3,0),(36,0)] Z ⟨iI,⟨iI,iT⟩⟩ (λ _ _ j=>?_)
     have j:=j.unm (s:=36) 0 [0]
     refine j.tipR (s:=36) 0 (by first | (simp;done) | exact oD rfl) [0] λ g67 j=>?_
     have⟨v70,p70,h⟩:=bs h
     refine j.apA 0 yA p70 [4,5] [0] λ g69 _ _ _ j=>?_
     refine j.segA 1 [4,5] [(0,1),(3,0)] (λ _ _ j=>Kb ?_)
     have j:=j.tipW (s:=3) 0 [0]
     cases h
     exact fz
    refine j.rgA [4,5,47] [(0,1),(3,0)] λ _ _ j=>?_
    refine j.cq h (λ h=>?_) λ h=>?_
    ·refine Ka ?_
     refine j.segC 1 [4,5,49] [(0,1),(3,0)] λ _ _ j=>?_
     have⟨v79,p79,h⟩:=bs h
     refine j.cNA 1 0 (zN p79) [4,5] [3] λ _ _ _ _ j=>?_
     refine j.segA 1 [4,5,51] [(0,1),(3,0)] (λ _ _ j=>Kb ?_)
     refine j.cq h (λ h=>?_) λ h=>?_
     ·refine Ka ?_
      have⟨v85,p85,h⟩:=bs h
      refine j.nmR (s:=3) 0 [0] λ g84 A84 _ hA84 j=>?_
      refine j.segB 4 (sc Z (oM Z (tp Z))<|sc Z (oM Z (zy Z))<|sc Z (oM Z (tp Z))<|sc Z (xAr Z (tp Z) cI p85)<|.nil) [4,5,53,55] [(0,1),(3,0),(52,0)] λ _ _ j=>?_
      have⟨v89,p89,h⟩:=bs h
      refine j.cSF (l:=[.tmp 55]) 1 (j.bkN (s:=0)) Z Z kN101 (Eq.trans (j.st.has 53 _ Z) (j.st.has 0 _ Z).1.symm) (by simp) (.cons (tp Z) .nil) (zN p89) [4,5] Z [3,52] Z Z (by decide) λ _ _ _ _ j=>?_
      refine j.seg 2 (
        sc Z (kD61_0_2 Z cI (tp Z))<|sc Z (yj (opds:=[.tmp 57]) Z Z Z (.cons (tp Z) .nil))<|.nil) [4,5,58] Z [(0,1),(3,0),(52,0)] Z ⟨iI,⟨iI,iT⟩⟩ (λ _ _ j=>?_)
      have j:=j.unm (s:=52) 0 [0]
      refine j.tipR (s:=52) 0 (by first | (simp;done) | exact oD rfl) [0] λ g94 j=>?_
      have⟨v97,p97,h⟩:=bs h
      refine j.apA 0 yA p97 [4,5] [0] λ g96 _ _ _ j=>?_
      refine j.segA 1 [4,5] [(0,1),(3,0)] (λ _ _ j=>Kb ?_)
      have j:=j.tipW (s:=3) 0 [0]
      cases h
      exact fz
     cases h
     exact fz
    refine Ka ?_
    refine j.nmR (s:=3) 0 [0] λ g101 A101 _ hA101 j=>?_
    refine j.segB 2 (sc Z (oM Z (tp Z))<|sc Z (oM Z (zy Z))<|.nil) [4,5,17] [(0,1),(3,0),(16,0)] λ _ _ j=>?_
    have⟨v104,p104,h⟩:=bs h
    refine j.cSF (l:=[]) 1 (j.bkN (s:=0)) Z Z kN104 (Eq.trans (j.st.has 17 _ Z) (j.st.has 0 _ Z).1.symm) (by simp) .nil (Wv p104) [4,5] Z [3,16] Z Z (by decide) λ _ _ _ _ j=>?_
    refine j.seg 2 (
      sc Z (kD61_0_3 Z cI (tp Z))<|sc Z (yj (opds:=[.tmp 19]) Z Z Z (.cons (tp Z) .nil))<|.nil) [4,5,20] Z [(0,1),(3,0),(16,0)] Z ⟨iI,⟨iI,iT⟩⟩ (λ _ _ j=>?_)
    have j:=j.unm (s:=16) 0 [0]
    refine j.tipR (s:=16) 0 (by first | (simp;done) | exact oD rfl) [0] λ g109 j=>?_
    have⟨v112,p112,h⟩:=bs h
    refine j.apA 0 yA p112 [4,5] [0] λ g111 _ _ _ j=>?_
    refine j.segA 1 [4,5] [(0,1),(3,0)] (λ _ _ j=>Kb ?_)
    have j:=j.tipW (s:=3) 0 [0]
    cases h
    exact fz
   rintro _ _ ⟨_,Q,R,j⟩
   have h:=k16
   have⟨v117,p117,h⟩:=bs h
   refine j.rgA [4,5] [(0,1),(3,0)] λ _ _ j=>?_
   exact flz h
  have h:=lo h hx11
  cases h
  exact fz
 rintro _ _ ⟨_,Q,R,j⟩
 have h:=k4
 have⟨o122,p122,k122⟩:=bs h
 refine wqj (λ a w=>∃ M1 Q R,Sx (Frm.chg w0 G) 75 M M1 [Q,R] [] [(0,1,dnm (Ow.box (Ow.frz (α:=Reader))) R ⟨o122.1⟩ (.pointer (some ⟨b0,0,none⟩)) []),(3,0,dow (Ow.row 61 (Ow.frz (α:=GAct))) Q o122.2)] a w) ?_ ?_
 ·refine Ka ?_
  refine j.nmR (s:=3) 0 [0] λ g123 A123 _ hA123 j=>?_
  refine j.segB 5 (sc Z (oM Z (tp Z))<|sc Z (xLeN Z kL51 Z)<|sc Z (oCI Z (tp Z) cI)<|sc Z (oM Z (tp Z))<|sg Z Z (λ hg=>oM Z (zy Z))<|.nil) [63,64] [(0,1),(3,0)] λ _ _ j=>?_
  have⟨v126,p126,h⟩:=bs p122
  refine j.cSFgB (sb:=0) (l:=[.const (.int .i64 20)]) 1 Z iI Z Z Z kN101 (λ hg=>(j.st.has 64 _ Z).1 hg) (by simp) (λ hg=>(.cons cI .nil)) (λ hg=>zN (gh hg p126)) [63] Z [3] Z Z (by decide) λ _ _ _ _ j=>?_
  refine j.segC 2 [67] [(0,1),(3,0)] (λ _ _ j=>Kb ?_)
  refine j.cq h (λ h=>?_) λ h=>?_
  ·refine Ka ?_
   refine j.segB 3 (sc Z (oM Z (tp Z))<|sc Z (oM Z (zy Z))<|sc Z (yj (opds:=[.const (.int .i64 (-1)),.const (.int .i64 4)]) Z Z Z (.cons cI (.cons cI .nil)))<|.nil) [69,70] [(0,1),(3,0),(68,0)] λ _ _ j=>?_
   have⟨v133,p133,h⟩:=bs h
   refine j.cSF (l:=[.tmp 70]) 1 (j.bkN (s:=0)) Z Z kN65 (Eq.trans (j.st.has 69 _ Z) (j.st.has 0 _ Z).1.symm) (by simp) (.cons (tp Z) .nil) (wt p133) [] Z [3,68] Z Z (by decide) λ _ _ _ _ j=>?_
   have⟨v135,p135,h⟩:=bs h
   refine j.seg 2 (
    sc Z (xIaN Z kS51 Z cI hA123 p135)<|sc Z (xFa Z kF61_0 (tp Z))<|.nil) [71,73] Z [(0,1),(3,0),(68,0)] Z ⟨iI,⟨iI,iT⟩⟩ (λ _ _ j=>?_)
   refine j.stF (sb:=3) 0 ((PV.root.row Z hA123 p135).fld GAct.z0) Z Z Z kT3 (tp Z) (tp Z) Z Z iI [] Z [0] Z Z (λ _ j=>Kb ?_)
   have j:=j.unm (s:=3) 0 [0]
   cases h
   exact fz
  have j:=j.unm (s:=3) 0 [0]
  cases h
  exact fz
 rintro _ _ ⟨_,Q,R,j⟩
 have h:=k122
 refine j.nmR (s:=3) 0 [0] λ g142 A142 _ hA142 j=>?_
 refine j.rgA [] [(0,1),(2,0)] λ _ _ j=>?_
 have j:=j.unm (s:=2) 0 [0]
 exact j.rsO (s:=0) 1 0 Z Z Z iI iI (bxr h)
def jw(x0:List UInt8):Option ((List GAct)×(List Int)×Int):=
(Zj x0).bind λ v4=>
(YU v4).bind λ v10=>
(Xr v10.1).bind λ v14=>
(yX v14.1 ([(1:Int),(0:Int),(2:Int),(4:Int),(5:Int),(-1:Int)]:List Int)).bind λ v18=>
some (v10.2,v14.2,v18.2)
theorem Wp{x0:List UInt8}{r:(List GAct)×(List Int)×Int}(h:jw x0=some r):Fn prog 22 [dt x0] (dtup [dt r.1,dt r.2.1,dt r.2.2]):=by
 refine fq1 1 func22 λ M _ _ j=>?_
 refine j.rg2 (sc Z (oA Z (wG (α:=GAct)))<|sc Z (oA Z (wG (α:=Int)))<|segZ) [0] (λ _ _ j=>Ka ?_)
 refine j.segA 1 [6] [] λ _ _ j=>?_
 have⟨v4,p4,h⟩:=bs h
 refine j.cN (l:=[.tmp 6]) 0 (.cons (tp Z) .nil) (zcn p4) [] [] λ _ _ _ _ j=>?_
 refine j.nmB (s:=7) 0 [] λ b6 j=>?_
 refine j.segA 1 [] [(5,0)] (λ _ _ j=>Kb (Ka ?_))
 refine j.segA 1 [] [(5,0),(8,0)] λ _ _ j=>?_
 have⟨v10,p10,h⟩:=bs h
 refine j.cSF (l:=[]) 0 (j.bkN (s:=5)) Z Z kN63 ((j.st.has 8 _ Z).1.trans (j.st.has 5 _ Z).1.symm) (by simp) .nil (FnS.frz (zcY p10)) [] Z [] Z Z (by decide) λ _ _ _ _ j=>?_
 refine j.segA 1 [9] [(5,0),(10,0)] λ _ _ j=>?_
 have⟨v14,p14,h⟩:=bs h
 refine j.cSF (l:=[]) 0 (j.bkN (s:=5)) Z Z kN64 ((j.st.has 10 _ Z).1.trans (j.st.has 5 _ Z).1.symm) (by simp) .nil (zdq p14) [9] Z [] Z Z (by decide) λ _ _ _ _ j=>?_
 refine j.segB 2 (sc Z (oM Z (tp Z))<|sc Z (yj (opds:=[.const (.int .i64 1),.const (.int .i64 0),.const (.int .i64 2),.const (.int .i64 4),.const (.int .i64 5),.const (.int .i64 (-1))]) Z Z Z (.cons cI (.cons cI (.cons cI (.cons cI (.cons cI (.cons cI .nil)))))))<|.nil) [9,11,13] [(12,0)] λ _ _ j=>?_
 have⟨v18,p18,h⟩:=bs h
 refine j.cSF (l:=[.tmp 13]) 0 (j.bkN (s:=12)) Z Z kN65 Z (by simp) (.cons (tp Z) .nil) (wt p18) [9,11] Z [] Z Z (by decide) λ _ _ _ _ j=>?_
 refine j.seg 3 (
  sc Z (oA Z (tp Z))<|sc Z (oA Z (tp Z))<|sc Z (oA Z (tp Z))<|.nil) [2,3,4] Z [] Z trivial (λ _ _ j=>?_)
 refine Kb ?_
 obtain rfl:=Option.some.inj h
 exact j.ret3 (j.frozen (t:=2)) (j.frozen (t:=3)) (j.frozen (t:=4)) ⟨Z,Z,Z⟩
instance:Ct1 prog 22 dt (λ r=>dtup [dt r.1,dt r.2.1,dt r.2.2]) jw:=⟨λ h=>Wp h⟩
def jx(x0:List Int)(x1:List Int)(s8:Int):Option (Int⊕(Unit⊕Bool)):=
if(cmpI .lss s8 (x0.length:Int))=true then((atI x0 s8).bind λ v13=>
(atI x1 s8).bind λ v14=>
if cmpI .neq v13 v14 then(some (.inr (.inr false)))
else((i64 (s8+(1:Int))).bind λ v23=>
some (.inl v23)))
else(some (.inr (.inl ())))
def wW(x0:List Int)(x1:List Int):Option Bool:=
if(cmpI .neq (x0.length:Int) (x1.length:Int))=true then(some false)
else(Option.bind (α:=Unit⊕Bool) (zI (λ s8=>jx x0 x1 s8) (0:Int)) (Sum.elim (λ _b6=>
some true) some))
theorem JP{x0:List Int}{r:Bool}(h:wW x0 x1=some r):Fn prog 28 [dt x0,dt x1] (dt r):=by
 refine fq1 0 func28 λ M w0 _ j=>?_
 refine j.z1 λ _ _ j=>?_
 refine j.zc h (λ _ _ j h=>?_) λ _ _ j h=>?_
 ·exact j.ze h
 refine wqk (za ?_)
 refine j.jb [] (λ _=>[]) h (λ o6 p6 k6=>?_) λ b6 _ _ j h=>?_
 ·refine j.z1 λ _ _ j=>?_
  refine wql p6 (λ s8 a w=>Sx (Frm.of w0) 26 M M [] [(0,dt x0),(1,dt x1),(5,dt s8)] [] a w) (j.sel0 [0,1,5]) ?_
  rintro s8 z8 _ _ j hs8 hx8
  have h:jx x0 x1 s8=some z8:=hs8
  unfold jx at h
  refine j.zc h (λ _ _ j h=>?_) λ _ _ j h=>?_
  ·have⟨v13,p13,h⟩:=bs h
   have⟨v14,p14,h⟩:=bs h
   refine j.zw λ _ _ j=>?_
   refine j.cq h (λ h=>?_) λ h=>?_
   ·exact j.ze (jo (lo h hx8) k6)
   have⟨v23,p23,h⟩:=bs h
   exact j.zn [] h
  have h:=lo h hx8
  exact flz h
 exact j.ze h
instance:Ct2 prog 28 dt dt dt wW:=⟨λ h=>JP h⟩
def jh(x0:List (List Int))(x1:List (List Int))(s8:Int):Option (Int⊕(Unit⊕Bool)):=
if(cmpI .lss s8 (x0.length:Int))=true then((atI x0 s8).bind λ v13=>
(atI x1 s8).bind λ v14=>
(wW v13 v14).bind λ v15=>
if(!v15)=true then(some (.inr (.inr false)))
else((i64 (s8+(1:Int))).bind λ v25=>
some (.inl v25)))
else(some (.inr (.inl ())))
def xI(x0:List (List Int))(x1:List (List Int)):Option Bool:=
if(cmpI .neq (x0.length:Int) (x1.length:Int))=true then(some false)
else(Option.bind (α:=Unit⊕Bool) (zI (λ s8=>jh x0 x1 s8) (0:Int)) (Sum.elim (λ _b6=>
some true) some))
theorem ZZ{x0:List (List Int)}{x1:List (List Int)}{r:Bool}(h:xI x0 x1=some r):Fn prog 24 [dt x0,dt x1] (dt r):=by
 refine fq1 0 func24 λ M w0 _ j=>?_
 refine j.z1 λ _ _ j=>?_
 refine j.zc h (λ _ _ j h=>?_) λ _ _ j h=>?_
 ·exact j.ze h
 refine wqk (za ?_)
 refine j.jb [] (λ _=>[]) h (λ o6 p6 k6=>?_) λ b6 _ _ j h=>?_
 ·refine j.z1 λ _ _ j=>?_
  refine wql p6 (λ s8 a w=>Sx (Frm.of w0) 27 M M [] [(0,dt x0),(1,dt x1),(5,dt s8)] [] a w) (j.sel0 [0,1,5]) ?_
  rintro s8 z8 _ _ j hs8 hx8
  have h:jh x0 x1 s8=some z8:=hs8
  unfold jh at h
  refine j.zc h (λ _ _ j h=>?_) λ _ _ j h=>?_
  ·have⟨v13,p13,h⟩:=bs h
   have⟨v14,p14,v15,p15,h⟩:=Kg h
   refine j.zw λ _ _ j=>?_
   refine j.cq h (λ h=>?_) λ h=>?_
   ·exact j.ze (jo (lo h hx8) k6)
   have⟨v25,p25,h⟩:=bs h
   exact j.zn [] h
  have h:=lo h hx8
  exact flz h
 exact j.ze h
instance:Ct2 prog 24 dt dt dt xI:=⟨λ h=>ZZ h⟩
def YV(R:Rec)(x0:Tree)(x1:List Int)(x2:Str):Option GResult:=
(Zu R x0 x1 ([(⟨(0:Int),x2⟩:GCmd)]:List GCmd) (120:Int)).bind λ v4=>
some v4
theorem zcZ(hR:R.ok){x0:Tree}{r:GResult}(h:YV R x0 x1 x2=some r):Fn prog 27 [dt x0,dt x1,dt x2] (dt r):=by
 refine fq1 1 func27 λ M _ _ j=>?_
 refine Ka ?_
 refine j.zg 1 λ _ _ j=>?_
 refine j.alA 0 zae [1,2,3] [] (λ b3 _ _ _ j=>Kb (Ka ?_))
 have⟨v4,p4,h⟩:=bs h
 refine j.zh 6 [(6,0)] (λ _ _ j=>?_) (hs:=sZ 3 (r:=by exact sc Z (kD83_0_1 Z cI (tp Z))<|sZ 1 (r:=by exact sc Z (oK (zaU hR p4))<|.nil)))
 refine j.stA 6 0 FldS.id (tp Z) [] [] (λ _ _ j=>Kb ?_)
 exact j.yB h
end Go.Proofs.YtandbaloaenciaaGreatDoor
