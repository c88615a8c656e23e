import Derived.Test.YtifgdhfcoaognaaGreatDoorTO
import Derived.Test.YtifgdhfcoaognaaGreatDoorTH
import Derived.Test.YtifgdhfcoaognaaGreatDoorTB
import Derived.Test.YtifgdhfcoaognaaGreatDoorTK
import Derived.Test.YtifgdhfcoaognaaGreatDoorTC
import Derived.Test.YtifgdhfcoaognaaGreatDoorTG
import Derived.Test.YtifgdhfcoaognaaGreatDoorTQ
namespace Go.Proofs.YtifgdhfcoaognaaGreatDoor
open Go.RowKit Tryz
attribute [local irreducible] OpRel OpdR
set_option maxRecDepth 10000
set_option maxHeartbeats 1600000
abbrev oRd:=Ow.box (Ow.frz (α:=Reader))
variable{x1:List Int}{x0:Reader}{r:Reader×Str}
theorem kD46_0:∀ {M:Nat->Prop} {look:Nat->Option Dt} {o:Oper} {q0:Operand} {y0:List UInt8},o.op=.build 46 #[(0,q0)]->OpdR M look q0 (dt y0)->OpRel prog M look o (dt (⟨y0,0⟩:Reader)):=@λ _ _ _ q0 y0 ho h0=>yp (parts:=[(0,q0)]) (ns:=[1,1]) (zs:=zpReader) Z ho (λ w a hl=>FA ⟨(by decide:0<2),Rep.len (α:=List UInt8) (OpdR.cells h0 hl)⟩ FN) (λ w a hl=>Reader.parts (x:=(⟨y0,0⟩:Reader)) (OpdR.cells h0 hl) ⟨Z,trivial⟩)
theorem kF46_1:fldB prog 46 1 1=true:=by kernel_rfl
theorem zak:fldB prog 46 0 0=true:=by kernel_rfl
theorem kN23:fnB prog 23=true:=by kernel_rfl
theorem kN13:fnB prog 13=true:=by kernel_rfl
theorem kN12:fnB prog 12=true:=by kernel_rfl
theorem kD74_0_1_2_3:∀ {M:Nat->Prop} {look:Nat->Option Dt} {o:Oper} {q0 q1 q2 q3:Operand} {y0:Int} {y1:Str} {y2:Int} {y3:Str},o.op=.build 74 #[(0,q0),(1,q1),(2,q2),(3,q3)]->OpdR M look q0 (dt y0)->OpdR M look q1 (dt y1)->OpdR M look q2 (dt y2)->OpdR M look q3 (dt y3)->OpRel prog M look o (dt (⟨y0,y1,y2,y3,0⟩:Stmt)):=@λ _ _ _ q0 q1 q2 q3 y0 y1 y2 y3 ho h0 h1 h2 h3=>yp (parts:=[(0,q0),(1,q1),(2,q2),(3,q3)]) (ns:=[1,1,1,1,1]) (zs:=zbw) Z ho (λ w a hl=>FA ⟨(by decide:0<5),Rep.len (α:=Int) (OpdR.cells h0 hl)⟩ (FA ⟨(by decide:1<5),Rep.len (α:=Str) (OpdR.cells h1 hl)⟩ (FA ⟨(by decide:2<5),Rep.len (α:=Int) (OpdR.cells h2 hl)⟩ (FA ⟨(by decide:3<5),Rep.len (α:=Str) (OpdR.cells h3 hl)⟩ FN)))) (λ w a hl=>Stmt.parts (x:=(⟨y0,y1,y2,y3,0⟩:Stmt)) (OpdR.cells h0 hl) (OpdR.cells h1 hl) (OpdR.cells h2 hl) (OpdR.cells h3 hl) ⟨Z,trivial⟩)
instance iF46_1KxE:FldO prog 46 1 1:=⟨kF46_1⟩
def Zm(x0:List UInt8):Option Reader:=
Option.bind (α:=(List UInt8)) (if(cmpI .gtr (x0.length:Int) 2000)=true then((JJ x0 (2000:Int)).bind λ v6=>
some v6)
else(some x0)) λ o2=>
some (⟨o2,0⟩:Reader)
theorem zdd{x0:List UInt8}{r:Reader}(h:Zm x0=some r):FnN prog 9 [dt x0] (.ow oRd ⟨r⟩):=by
 unfold Zm at h
 refine fnN (fn:=f9) 2 func9 Z Z λ M w0 _ j=>?_
 refine j.sq0 (
  sc Z (oA Z JR)<|.nil) [0] Z (λ _ _ j=>?_)
 have⟨o2,p2,k2⟩:=bs h
 refine jg (λ a w=>∃ M1 Q R,Sx (Frm.of w0) 11 M M1 [Q,R] [(0,dt o2)] [] a w) ?_ ?_
 ·refine j.sq0 (
   sc Z (oM Z T)<|
   sc Z (Wr Z T)<|
   sc Z (oCI Z T cI)<|.nil) [0,5] Z (λ _ _ j=>?_)
  refine j.cs p2 (λ _ h=>?_) λ _ h=>?_
  ·have⟨v6,p6,h⟩:=bs h
   refine j.rg0 (
    sc Z (oM Z T)<|
    sc Z (za1 Z T cI p6)<|
    sc Z (oA Z T)<|.nil) [0] Z (λ _ _ j=>?_)
   refine za ?_
   cases h
   exact fx
  refine wp_skip ?_
  refine za ?_
  cases h
  exact fx
 rintro _ _ ⟨_,Q,R,j⟩
 have h:=k2
 refine Kc ?_
 refine Ka ?_
 refine j.segB 2 (sP 1 (r:=by exact sc Z (kD46_0 Z T)<|.nil)) [9] [] λ j=>?_
 refine j.boxZ 0 Z Z T [] Z [] Z Z λ b11 _ _ _ j=>?_
 refine j.segA 1 [] [(2,0)] (λ j=>Kb ?_)
 refine za ?_
 refine wp_ret ?_
 have j:=j.unm (s:=2) 0 []
 exact j.rnO 0 (bx1 h)
def zO(x0:Reader)(x1:Int):Option (Reader×Int):=
(i64 (x0.p+(1:Int))).bind λ v2=>
if(cmpI .lss x1 1||cmpI .eql (x0.b.length:Int) 0)=true then(some ({ x0 with p:=v2 },(0:Int)))
else((i64 (v2 - (1:Int))).bind λ v10=>
if(cmpI .lss v10 (x0.b.length:Int))=true then((atI x0.b v10).bind λ v16=>
(modO (v16.toNat:Int) x1).bind λ v17=>
some ({ x0 with p:=v2 },v17))
else((modO v10 (x0.b.length:Int)).bind λ v21=>
(atI x0.b v21).bind λ v22=>
(i64 ((v22.toNat:Int)*(131:Int))).bind λ v23=>
(i64 (v10*(7:Int))).bind λ v24=>
(i64 (v24+(3:Int))).bind λ v25=>
(modO v25 (x0.b.length:Int)).bind λ v26=>
(atI x0.b v26).bind λ v27=>
(i64 ((v27.toNat:Int)*(1117:Int))).bind λ v28=>
(i64 (v23+v28)).bind λ v29=>
(i64 (v10*(29:Int))).bind λ v30=>
(i64 (v29+v30)).bind λ v31=>
(divO v10 (x0.b.length:Int)).bind λ v32=>
(i64 (v32*(53:Int))).bind λ v33=>
(i64 (v31+v33)).bind λ v34=>
(divO v34 (64:Int)).bind λ v50=>
(modO (xorI v34 v50) x1).bind λ v53=>
some ({ x0 with p:=v2 },v53)))
theorem zV{x1:Int}{r:Reader×Int}(h:zO x0 x1=some r):FnS prog 23 oRd ⟨x0⟩ [dt x1] ⟨r.1⟩ (.frz (dt r.2)):=by
 unfold zO at h
 refine fnSB (fn:=f23) 0 1 func23 Z Z λ M G _ b0 _ j=>?_
 refine j.sqA [1] [(0,0)] (λ j=>Kc ?_)
 refine Ka ?_
 have⟨v2,p2,h⟩:=bs h
 refine j.segB 8 (sP 4 (r:=by exact sc Z (xLf (sb:=0) (Pb.fld Reader.z1) Z T Z)<|segC)) [1,12,14] [(0,0)] λ j=>?_
 refine j.stF (sb:=0) 0 (Pb.fld Reader.z1) kT3 (tp Z) (tp Z) [1] [] (λ _ j=>Kb ?_)
 refine za ?_
 refine Kc ?_
 refine j.sq (
  sc Z (oM Z T)<|
  sc Z (oCI Z T cI)<|
  sc Z (oM Z T)<|
  sg Z Z (λ hg=>oM Z U)<|
  sg Z Z (λ hg=>xNc Z V)<|
  sg Z Z (λ hg=>xFa Z zak V)<|
  sg Z Z (λ hg=>xLf (sb:=0) (Pb.fld Reader.z0) Z V Z)<|
  sg Z Z (λ hg=>Wr Z V)<|
  sg Z Z (λ hg=>oCI Z V cI)<|
  sc Z (Za Z T T)<|.nil) [1,24] Z [(0,0)] Z ⟨λ _ h=>h,trivial⟩ (λ _ _ j=>?_)
 refine j.cs h (λ _ h=>?_) λ _ h=>?_
 ·refine j.sq (
   sc Z (oA Z cI)<|.nil) [4] Z [(0,0)] Z ⟨λ _ h=>h,trivial⟩ (λ _ _ j=>?_)
  refine wp_ret (zK ?_)
  exact j.xF 0 0 h
 refine wp_skip ?_
 refine za ?_
 have⟨v10,p10,h⟩:=bs h
 refine j.sq (
  sc Z (oM Z U)<|
  sc Z (xNc Z T)<|
  sc Z (xFa Z kF46_1 T)<|
  sc Z (xLf (sb:=0) (Pb.fld Reader.z1) Z T Z)<|
  sc Z (xAr Z T cI p10)<|
  sc Z (oA Z T)<|.nil) [1,5] Z [(0,0)] Z ⟨λ _ h=>h,trivial⟩ (λ _ _ j=>?_)
 refine Kc ?_
 refine j.sq (
  sc Z (oM Z T)<|
  sc Z (oM Z U)<|
  sc Z (xNc Z T)<|
  sc Z (xFa Z zak T)<|
  sc Z (xLf (sb:=0) (Pb.fld Reader.z0) Z T Z)<|
  sc Z (Wr Z T)<|
  sc Z (oCI Z T T)<|.nil) [1,5,36] Z [(0,0)] Z ⟨λ _ h=>h,trivial⟩ (λ _ _ j=>?_)
 refine j.cs h (λ _ h=>?_) λ _ h=>?_
 ·have⟨v16,p16,h⟩:=bs h
  have⟨v17,p17,h⟩:=bs h
  refine j.sq (
   sc Z (oM Z U)<|
   sc Z (xNc Z T)<|
   sc Z (xFa Z zak T)<|
   sc Z (xLf (sb:=0) (Pb.fld Reader.z0) Z T Z)<|
   sc Z (oM Z T)<|
   sc Z (xIdx Z T T p16)<|
   sc Z (zz Z T)<|
   sc Z (xCvI Z T)<|
   sc Z (oM Z T)<|
   sc Z (xMod Z T T p17)<|
   sc Z (oA Z T)<|.nil) [4] Z [(0,0)] Z ⟨λ _ h=>h,trivial⟩ (λ _ _ j=>?_)
  refine wp_ret (zK ?_)
  exact j.xF 0 0 h
 refine wp_skip ?_
 refine za ?_
 refine Kc ?_
 have⟨v21,p21,v22,p22,h⟩:=Kg h
 have⟨v23,p23,v24,p24,h⟩:=Kg h
 have⟨v25,p25,v26,p26,h⟩:=Kg h
 have⟨v27,p27,v28,p28,h⟩:=Kg h
 have⟨v29,p29,v30,p30,h⟩:=Kg h
 have⟨v31,p31,v32,p32,h⟩:=Kg h
 have⟨v33,p33,v34,p34,h⟩:=Kg h
 refine j.dr (D:=[_,_,_,_,_,_,_,_,_,_,_,_,_,_,_,_,_,_,_,_,_,_,_,_,_,_,_,_,_,_,_,_,_,_,_,_,_,_,_,_,_,_,_,_,_,_]) yc [[(0,nS)],[(47,0)],[(48,1)],[(49,2),(0,nS)],[(5,nS)],[(0,nS)],[(52,5)],[(53,6)],[(54,7),(0,nS)],[(55,8)],[(51,4),(56,9)],[(50,3),(57,10)],[(58,11)],[(59,12)],[(60,13)],[(0,nS)],[(62,15)],[(63,16)],[(64,17),(0,nS)],[(5,nS)],[(66,19)],[(67,20)],[(0,nS)],[(69,22)],[(70,23)],[(71,24),(0,nS)],[(72,25)],[(68,21),(73,26)],[(65,18),(74,27)],[(75,28)],[(76,29)],[(77,30)],[(61,14),(78,31)],[(5,nS)],[(80,33)],[(79,32),(81,34)],[(5,nS)],[(0,nS)],[(84,37)],[(85,38)],[(86,39),(0,nS)],[(87,40)],[(83,36),(88,41)],[(89,42)],[(82,35),(90,43)],[(91,44)]] (by decide +kernel) (
  rc Z Z (oM Z U)<|
  rc Z Z (xNc Z T)<|
  rc Z Z (xFa Z zak T)<|
  rc Z Z (xLf (sb:=0) (Pb.fld Reader.z0) Z T Z)<|
  rc Z Z (oM Z T)<|
  rc Z Z (oM Z U)<|
  rc Z Z (xNc Z T)<|
  rc Z Z (xFa Z zak T)<|
  rc Z Z (xLf (sb:=0) (Pb.fld Reader.z0) Z T Z)<|
  rc Z Z (Wr Z T)<|
  rc Z Z (xMod Z T T p21)<|
  rc Z Z (xIdx Z T T p22)<|
  rc Z Z (zz Z T)<|
  rc Z Z (xCvI Z T)<|
  rc Z Z (xAr Z T cI p23)<|
  rc Z Z (oM Z U)<|
  rc Z Z (xNc Z T)<|
  rc Z Z (xFa Z zak T)<|
  rc Z Z (xLf (sb:=0) (Pb.fld Reader.z0) Z T Z)<|
  rc Z Z (oM Z T)<|
  rc Z Z (xAr Z T cI p24)<|
  rc Z Z (xAr Z T cI p25)<|
  rc Z Z (oM Z U)<|
  rc Z Z (xNc Z T)<|
  rc Z Z (xFa Z zak T)<|
  rc Z Z (xLf (sb:=0) (Pb.fld Reader.z0) Z T Z)<|
  rc Z Z (Wr Z T)<|
  rc Z Z (xMod Z T T p26)<|
  rc Z Z (xIdx Z T T p27)<|
  rc Z Z (zz Z T)<|
  rc Z Z (xCvI Z T)<|
  rc Z Z (xAr Z T cI p28)<|
  rc Z Z (xAr Z T T p29)<|
  rc Z Z (oM Z T)<|
  rc Z Z (xAr Z T cI p30)<|
  rc Z Z (xAr Z T T p31)<|
  rc Z Z (oM Z T)<|
  rc Z Z (oM Z U)<|
  rc Z Z (xNc Z T)<|
  rc Z Z (xFa Z zak T)<|
  rc Z Z (xLf (sb:=0) (Pb.fld Reader.z0) Z T Z)<|
  rc Z Z (Wr Z T)<|
  rc Z Z (xDiv Z T T p32)<|
  rc Z Z (xAr Z T cI p33)<|
  rc Z Z (xAr Z T T p34)<|
  rc Z Z (oA Z T)<|.nil) [1,6] Z [(0,0)] Z ⟨λ _ h=>h,trivial⟩ (λ _ _ j=>?_)
 refine za ?_
 have⟨v50,p50,h⟩:=bs h
 refine j.sqB (sP 2 (r:=by exact sc Z (xDiv Z T cI p50)<|sc Z (xXor Z T T)<|segC)) [1,6] [(0,0)] λ j=>?_
 have⟨v53,p53,h⟩:=bs h
 refine j.sqB (sP 2 (r:=by exact sc Z (xMod Z T T p53)<|segC)) [4] [(0,0)] (λ j=>wp_ret ?_)
 exact j.xF 0 0 h
def xt(x0:Reader)(x1:List Int):Option (Reader×Int):=
(zO x0 (x1.length:Int)).bind λ v4=>
(atI x1 v4.2).bind λ v6=>
some (v4.1,v6)
theorem jt{r:Reader×Int}(h:xt x0 x1=some r):FnS prog 12 oRd ⟨x0⟩ [dt x1] ⟨r.1⟩ (.frz (dt r.2)):=by
 refine fnSB (fn:=f12) 0 1 func12 Z Z (λ M G _ b0 _ j=>wqw ?_)
 refine j.zo [(0,0)] (λ j=>Ka ?_)
 refine j.zh 4 [(0,0)] λ j=>?_
 have⟨v4,p4,h⟩:=bs h
 refine j.cNA 0 0 (zV p4) [5] [] λ j=>?_
 have⟨v6,p6,h⟩:=bs h
 refine j.zh 3 [(0,0)] (λ j=>Kb ?_)
 exact j.xF 0 0 h
def xQ(x0:Reader)(x1:List Str):Option (Reader×Str):=
(zO x0 (x1.length:Int)).bind λ v4=>
(atI x1 v4.2).bind λ v6=>
some (v4.1,v6)
theorem wZ{x1:List Str}(h:xQ x0 x1=some r):FnS prog 13 oRd ⟨x0⟩ [dt x1] ⟨r.1⟩ (.frz (dt r.2)):=by
 refine fnSB (fn:=f13) 0 1 func13 Z Z (λ M G _ b0 _ j=>wqw ?_)
 refine j.zo [(0,0)] (λ j=>Ka ?_)
 refine j.zh 4 [(0,0)] λ j=>?_
 have⟨v4,p4,h⟩:=bs h
 refine j.cNA 0 0 (zV p4) [5] [] λ j=>?_
 have⟨v6,p6,h⟩:=bs h
 refine j.zh 3 [(0,0)] (λ j=>Kb ?_)
 exact j.xF 0 0 h
def xR(x0:Reader):Option (Reader×Str):=
(xQ x0 ([(⟨[97]⟩:Str),(⟨[98]⟩:Str),(⟨[99]⟩:Str),(⟨[97]⟩:Str),(⟨[98]⟩:Str)]:List Str)).bind λ v4=>
some (v4.1,v4.2)
theorem jf(h:xR x0=some r):FnS prog 91 oRd ⟨x0⟩ [] ⟨r.1⟩ (.frz (dt r.2)):=by
 refine fnSB (fn:=f91) 0 1 func91 Z Z (λ M G _ b0 _ j=>wqw ?_)
 refine j.zo [(0,0)] (λ j=>Ka ?_)
 refine j.zh 2 [(0,0)] (λ j=>?_) (hs:=sZ 1 (r:=by exact sc Z (yf (opds:=[_,_,_,_,_]) Z Z Z (.cons (zt) (.cons (zt) (.cons (zt) (.cons (zt) (.cons (zt) .nil))))))<|.nil))
 have⟨v4,p4,h⟩:=bs h
 refine j.cNA 0 0 (wZ p4) [] [] λ j=>?_
 refine j.zh 1 [(0,0)] (λ j=>Kb ?_)
 exact j.xF 0 0 h
def ZG(s13:Reader×Str×Int):Option ((Reader×Str×Int)⊕(Reader×Str)):=
if cmpI .gtr s13.2.2 0 then((catO s13.2.1 (⟨[46]⟩:Str)).bind λ v18=>
(xR s13.1).bind λ v22=>
(catO v18 v22.2).bind λ v24=>
(i64 (s13.2.2 - (1:Int))).bind λ v27=>
some (.inl (v22.1,v24,v27)))
else(some (.inr (s13.1,s13.2.1)))
def Yp(x0:Reader):Option (Reader×Str):=
(xR x0).bind λ v4=>
Option.bind (α:=Reader×Str) ((xt v4.1 ([(0:Int),(1:Int),(0:Int),(1:Int),(2:Int)]:List Int)).bind λ v10=>
zP (λ s13=>ZG s13) (v10.1,v4.2,v10.2)) λ o7=>
some (o7.1,o7.2)
theorem Qm(h:Yp x0=some r):FnS prog 167 oRd ⟨x0⟩ [] ⟨r.1⟩ (.frz (dt r.2)):=by
 refine fnSB (fn:=f167) 0 1 func167 Z Z (λ M G w0 b0 _ j=>wqw ?_)
 refine j.zo [(0,0)] (λ j=>Ka ?_)
 refine j.zh 1 [(0,0)] λ j=>?_
 have⟨v4,p4,h⟩:=bs h
 refine j.cNA 0 0 (jf p4) [] [] λ j=>?_
 refine j.zh 1 [(0,0)] (λ j=>Kb ?_)
 refine za ?_
 have⟨o7,p7,k7⟩:=bs h
 refine wqj (λ a w=>∃ M1 Q,Sx (Frm.chg w0 G) 20 M M1 [Q] [(3,dt o7.2)] [(0,0,dnm oRd Q ⟨o7.1⟩ (.pointer (some ⟨b0,0,none⟩)) [])] a w) ?_ ?_
 ·refine Ka ?_
  refine j.zh 2 [(0,0)] (λ j=>?_) (hs:=sZ 1 (r:=by exact sc Z (yf (opds:=[.const (.int .i64 0),.const (.int .i64 1),.const (.int .i64 0),.const (.int .i64 1),.const (.int .i64 2)]) Z Z Z (.cons cI (.cons cI (.cons cI (.cons cI (.cons cI .nil))))))<|.nil))
  have⟨v10,p10,h⟩:=bs p7
  refine j.cNA 0 0 (jt p10) [3] [] λ j=>?_
  refine j.zh 1 [(0,0)] (λ j=>Kb ?_)
  refine wql h (λ s13 a w=>∃ M1 Q,Sx (Frm.chg w0 G) 20 M M1 [Q] [(3,dt s13.2.1),(4,dt s13.2.2)] [(0,0,dnm oRd Q ⟨s13.1⟩ (.pointer (some ⟨b0,0,none⟩)) [])] a w) fx ?_
  rintro s13 z13 _ _ ⟨_,Q,j⟩ hs13 hx13
  have h:ZG s13=some z13:=hs13
  unfold ZG at h
  refine j.zd [(0,0)] h (λ j h=>?_) λ j h=>?_
  ·refine Ka ?_
   have⟨v18,p18,h⟩:=bs h
   refine j.zh 3 [(0,0)] λ j=>?_
   have⟨v22,p22,h⟩:=bs h
   refine j.cNA 0 0 (jf p22) [3,4,15] [] λ j=>?_
   have⟨v24,p24,h⟩:=bs h
   refine j.zh 2 [(0,0)] (λ j=>Kb ?_)
   have⟨v27,p27,h⟩:=bs h
   exact j.zn [(0,0)] h
  have h:=lo h hx13
  cases h
  exact fz
 rintro _ _ ⟨_,Q,j⟩
 have h:=k7
 refine j.zo [(0,0)] λ j=>?_
 exact j.xF 0 0 h
def YQ(x0:Reader):Option (Reader×Stmt):=
(zO x0 (9:Int)).bind λ v5=>
Option.bind (α:=Bool) (if cmpI .eql v5.2 0 then(some (cmpI .eql v5.2 0))
else(some (cmpI .eql v5.2 1))) λ o7=>
if o7=true then((Yp v5.1).bind λ v17=>
some (v17.1,(⟨(0:Int),v17.2,0,⟨[]⟩,0⟩:Stmt)))
else(if cmpI .eql v5.2 2 then((xt v5.1 ([(0:Int),(1:Int),(2:Int),(1:Int)]:List Int)).bind λ v27=>
(Yp v27.1).bind λ v32=>
Option.bind (α:=Reader×Str) ((gO (cmpI .gtr v27.2 0 == true) (zO v32.1 (2:Int))).bind λ v38=>
if(cmpI .gtr v27.2 0&&cmpI .eql v38.2 0)=true then(some ((if(cmpI .gtr v27.2 0 == true)=true then v38.1 else v32.1),(⟨[]⟩:Str)))
else(some ((if(cmpI .gtr v27.2 0 == true)=true then v38.1 else v32.1),v32.2))) λ o35=>
(xR o35.1).bind λ v47=>
some (v47.1,(⟨(1:Int),o35.2,v27.2,v47.2,0⟩:Stmt)))
else(if cmpI .eql v5.2 3 then((Yp v5.1).bind λ v57=>
some (v57.1,(⟨(2:Int),v57.2,0,⟨[]⟩,0⟩:Stmt)))
else(Option.bind (α:=Bool) (if cmpI .eql v5.2 4 then(some (cmpI .eql v5.2 4))
else(if cmpI .eql v5.2 5 then(some (cmpI .eql v5.2 5))
else(some (cmpI .eql v5.2 6)))) λ o62=>
if o62=true then((xQ v5.1 ([(⟨[120]⟩:Str),(⟨[121]⟩:Str),(⟨[122]⟩:Str),(⟨[97]⟩:Str)]:List Str)).bind λ v75=>
(zO v75.1 (100:Int)).bind λ v79=>
some (v79.1,(⟨(3:Int),⟨[]⟩,0,v75.2,v79.2⟩:Stmt)))
else(if cmpI .eql v5.2 7 then((xQ v5.1 ([(⟨[120]⟩:Str),(⟨[121]⟩:Str),(⟨[97]⟩:Str),(⟨[98]⟩:Str),(⟨[120]⟩:Str)]:List Str)).bind λ v89=>
some (v89.1,(⟨(4:Int),⟨[]⟩,0,v89.2,0⟩:Stmt)))
else((zO v5.1 (3:Int)).bind λ v96=>
if cmpI .eql v96.2 0 then(some (v96.1,(⟨(5:Int),⟨[]⟩,0,⟨[]⟩,0⟩:Stmt)))
else((zO v96.1 (100:Int)).bind λ v106=>
some (v106.1,(⟨(3:Int),⟨[]⟩,0,(⟨[120]⟩:Str),v106.2⟩:Stmt))))))))
theorem zd2{r:Reader×Stmt}(h:YQ x0=some r):FnS prog 122 oRd ⟨x0⟩ [] ⟨r.1⟩ (.frz (dt r.2)):=by
 refine fnSB (fn:=f122) 0 2 func122 Z Z (λ M G w0 b0 _ j=>wqw ?_)
 refine Ka ?_
 refine j.alA 1 QY [] [0] (λ b2 j=>Kb ?_)
 refine Ka ?_
 refine j.segC 1 [5] [(0,0),(2,1)] λ j=>?_
 have⟨v5,p5,h⟩:=bs h
 refine j.cNA 0 0 (zV p5) [] [2] (λ j=>Kb ?_)
 refine za ?_
 refine wqb ?_
 have⟨o7,p7,k7⟩:=bs h
 refine wqj (λ a w=>∃ M1 Q R,Sx (Frm.chg w0 G) 60 M M1 [Q,oneB R] [(6,dt v5.2),(7,dt o7)] [(2,1,dbox R 0 zStmt),(0,0,dnm oRd Q ⟨v5.1⟩ (.pointer (some ⟨b0,0,none⟩)) [])] a w) ?_ ?_
 ·refine j.rgA [6,7] [(0,0),(2,1)] λ j=>?_
  refine j.cq p7 (λ h=>?_) λ h=>?_
  ·cases h
   exact fz
  refine j.rgA [6,7] [(0,0),(2,1)] λ j=>?_
  cases h
  exact fz
 rintro _ _ ⟨_,Q,R,j⟩
 have h:=k7
 refine j.cq h (λ h=>?_) λ h=>?_
 ·refine Ka ?_
  refine j.segC 1 [10] [(0,0),(2,1)] λ j=>?_
  have⟨v17,p17,h⟩:=bs h
  refine j.cNA 0 0 (Qm p17) [] [2] λ j=>?_
  refine j.segB 1 (sc Z (JY Z cI T)<|.nil) [12] [(0,0),(2,1)] λ j=>?_
  refine j.stA 2 1 FldS.id (tp Z) [] [0] (λ j=>Kb ?_)
  exact j.xC 0 0 h
 refine j.rgA [6,13] [(0,0),(2,1)] λ j=>?_
 refine j.cq h (λ h=>?_) λ h=>?_
 ·refine Ka ?_
  refine j.segB 2 (sZ 1 (r:=by exact sc Z (yf (opds:=[.const (.int .i64 0),.const (.int .i64 1),.const (.int .i64 2),.const (.int .i64 1)]) Z Z Z (.cons cI (.cons cI (.cons cI (.cons cI .nil)))))<|.nil)) [15,16] [(0,0),(2,1)] λ j=>?_
  have⟨v27,p27,h⟩:=bs h
  refine j.cNA 0 0 (jt p27) [] [2] λ j=>?_
  refine j.segA 1 [3] [(0,0),(2,1)] (λ j=>Kb ?_)
  refine Ka ?_
  refine j.segC 1 [3,18] [(0,0),(2,1)] λ j=>?_
  have⟨v32,p32,h⟩:=bs h
  refine j.cNA 0 0 (Qm p32) [3] [2] λ j=>?_
  refine j.segA 1 [3,4] [(0,0),(2,1)] (λ j=>Kb ?_)
  refine za ?_
  have⟨o35,p35,k35⟩:=bs h
  refine wqj (λ a w=>∃ M1 Q R,Sx (Frm.chg w0 G) 60 M M1 [Q,oneB R] [(3,dt v27.2),(4,dt o35.2)] [(2,1,dbox R 0 zStmt),(0,0,dnm oRd Q ⟨o35.1⟩ (.pointer (some ⟨b0,0,none⟩)) [])] a w) ?_ ?_
  ·refine Ka ?_
   refine j.segB 4 (sc Z (oM Z T)<|
    sc Z (oCI Z T cI)<|
    sc Z (oM Z T)<|
    sg Z Z (λ hg=>oM Z U)<|.nil) [3,4,22,23] [(0,0),(2,1)] (λ j=>?_)
   have⟨v38,p38,h⟩:=bs p35
   refine j.cSFgB (sb:=0) (l:=[.const (.int .i64 2)]) 0 Z (λ _ h=>h) Z Z Z kN23 (λ hg=>(j.st.has 23 _ Z).1 hg) (by simp) (λ hg=>(.cons cI .nil)) (λ hg=>zV (gh hg p38)) [3,4,22] Z [2] Z Z (by decide) λ _ _ _ _ j=>?_
   refine j.segC 2 [3,4,26] [(0,0),(2,1)] (λ j=>Kb ?_)
   refine j.cq h (λ h=>?_) λ h=>?_
   ·refine j.rgA [3,4] [(0,0),(2,1)] λ j=>?_
    cases h
    exact fz
   cases h
   exact fz
  rintro _ _ ⟨_,Q,R,j⟩
  have h:=k35
  refine Ka ?_
  refine j.segC 3 [27,28,29] [(0,0),(2,1)] λ j=>?_
  have⟨v47,p47,h⟩:=bs h
  refine j.cNA 0 0 (jf p47) [27,28] [2] λ j=>?_
  refine j.segB 1 (sc Z (kD74_0_1_2_3 Z cI T T T)<|.nil) [31] [(0,0),(2,1)] λ j=>?_
  refine j.stA 2 1 FldS.id (tp Z) [] [0] (λ j=>Kb ?_)
  exact j.xC 0 0 h
 refine j.rgA [6,32] [(0,0),(2,1)] λ j=>?_
 refine j.cq h (λ h=>?_) λ h=>?_
 ·refine Ka ?_
  refine j.segC 1 [34] [(0,0),(2,1)] λ j=>?_
  have⟨v57,p57,h⟩:=bs h
  refine j.cNA 0 0 (Qm p57) [] [2] λ j=>?_
  refine j.segB 1 (sc Z (JY Z cI T)<|.nil) [36] [(0,0),(2,1)] λ j=>?_
  refine j.stA 2 1 FldS.id (tp Z) [] [0] (λ j=>Kb ?_)
  exact j.xC 0 0 h
 have⟨o62,p62,k62⟩:=bs h
 refine wqj (λ a w=>∃ M1 Q R,Sx (Frm.chg w0 G) 60 M M1 [Q,oneB R] [(6,dt v5.2),(37,dt o62)] [(2,1,dbox R 0 zStmt),(0,0,dnm oRd Q ⟨v5.1⟩ (.pointer (some ⟨b0,0,none⟩)) [])] a w) ?_ ?_
 ·refine j.rgA [6,37] [(0,0),(2,1)] λ j=>?_
  refine j.cq p62 (λ h=>?_) λ h=>?_
  ·cases h
   exact fz
  refine j.rgA [6,37] [(0,0),(2,1)] λ j=>?_
  refine j.cq h (λ h=>?_) λ h=>?_
  ·cases h
   exact fz
  refine j.rgA [6,37] [(0,0),(2,1)] λ j=>?_
  cases h
  exact fz
 rintro _ _ ⟨_,Q,R,j⟩
 have h:=k62
 refine j.cq h (λ h=>?_) λ h=>?_
 ·refine Ka ?_
  refine j.segB 2 (sZ 1 (r:=by exact sc Z (yf (opds:=[_,_,_,_]) Z Z Z (.cons (zt) (.cons (zt) (.cons (zt) (.cons (zt) .nil)))))<|.nil)) [41,42] [(0,0),(2,1)] λ j=>?_
  have⟨v75,p75,h⟩:=bs h
  refine j.cNA 0 0 (wZ p75) [] [2] λ j=>?_
  refine j.segC 1 [43,44] [(0,0),(2,1)] λ j=>?_
  have⟨v79,p79,h⟩:=bs h
  refine j.cNA 0 0 (zV p79) [43] [2] λ j=>?_
  refine j.segB 1 (sc Z (W3 Z cI T T)<|.nil) [46] [(0,0),(2,1)] λ j=>?_
  refine j.stA 2 1 FldS.id (tp Z) [] [0] (λ j=>Kb ?_)
  exact j.xC 0 0 h
 refine j.rgA [47] [(0,0),(2,1)] λ j=>?_
 refine j.cq h (λ h=>?_) λ h=>?_
 ·refine Ka ?_
  refine j.segB 2 (sZ 1 (r:=by exact sc Z (yf (opds:=[_,_,_,_,_]) Z Z Z (.cons (zt) (.cons (zt) (.cons (zt) (.cons (zt) (.cons (zt) .nil))))))<|.nil)) [49,50] [(0,0),(2,1)] λ j=>?_
  have⟨v89,p89,h⟩:=bs h
  refine j.cNA 0 0 (wZ p89) [] [2] λ j=>?_
  refine j.segB 1 (sc Z (kD74_0_3 Z cI T)<|.nil) [52] [(0,0),(2,1)] λ j=>?_
  refine j.stA 2 1 FldS.id (tp Z) [] [0] (λ j=>Kb ?_)
  exact j.xC 0 0 h
 refine Ka ?_
 refine j.segC 1 [53] [(0,0),(2,1)] λ j=>?_
 have⟨v96,p96,h⟩:=bs h
 refine j.cNA 0 0 (zV p96) [] [2] λ j=>?_
 refine j.segA 1 [55] [(0,0),(2,1)] (λ j=>Kb ?_)
 refine j.cq h (λ h=>?_) λ h=>?_
 ·refine Ka ?_
  refine j.segB 1 (sc Z (zc7 Z cI)<|.nil) [56] [(0,0),(2,1)] λ j=>?_
  refine j.stA 2 1 FldS.id (tp Z) [] [0] (λ j=>Kb ?_)
  exact j.xC 0 0 h
 refine Ka ?_
 refine j.segC 1 [57] [(0,0),(2,1)] λ j=>?_
 have⟨v106,p106,h⟩:=bs h
 refine j.cNA 0 0 (zV p106) [] [2] λ j=>?_
 refine j.segB 1 (sc Z (W3 Z cI (zt) T)<|.nil) [59] [(0,0),(2,1)] λ j=>?_
 refine j.stA 2 1 FldS.id (tp Z) [] [0] (λ j=>Kb ?_)
 exact j.xC 0 0 h
theorem kN90:fnB prog 90=true:=by kernel_rfl
theorem kN56:fnB prog 56=true:=by kernel_rfl
theorem kI37:sliB prog 37 71 6=true:=by kernel_rfl
instance iF39_0KxF:FldO prog 39 0 0:=⟨Xt⟩
instance iF71_1KxF:FldO prog 71 1 1:=⟨zc0⟩
def w6(v5:Reader×Int)(s14:Reader×(List Stmt)×Int):Option ((Reader×(List Stmt)×Int)⊕(Reader×(List Stmt))):=
if cmpI .gtr s14.2.2 0 then((YQ s14.1).bind λ v21=>
Option.bind (α:=Reader×Stmt) (if(cmpI .eql v5.2 0&&((cmpI .eql v21.2.kind 1||cmpI .eql v21.2.kind 4)||cmpI .eql v21.2.kind 5))=true then((zO v21.1 (100:Int)).bind λ v33=>
some (v33.1,(⟨(3:Int),⟨[]⟩,0,(⟨[121]⟩:Str),v33.2⟩:Stmt)))
else(some (v21.1,v21.2))) λ o27=>
(appO 56 s14.2.1 ([o27.2]:List Stmt)).bind λ v42=>
(i64 (s14.2.2 - (1:Int))).bind λ v45=>
some (.inl (o27.1,v42,v45)))
else(some (.inr (s14.1,s14.2.1)))
def YR(x0:Reader):Option (Reader×(List Stmt)):=
(zO x0 (2:Int)).bind λ v5=>
Option.bind (α:=Reader×(List Stmt)) ((xt v5.1 ([(2:Int),(1:Int),(3:Int),(0:Int),(4:Int)]:List Int)).bind λ v11=>
zP (λ s14=>w6 v5 s14) (v11.1,[],v11.2)) λ o8=>
some (o8.1,o8.2)
theorem zd3{r:Reader×(List Stmt)}(h:YR x0=some r):FnS prog 90 oRd ⟨x0⟩ [] ⟨r.1⟩ (.ow (Ow.row 74 (Ow.frz (α:=Stmt))) r.2):=by
 refine fnSB (fn:=f90) 1 3 func90 Z Z (λ M G w0 b0 _ j=>wqw ?_)
 refine j.zo [(0,1)] (λ j=>?_) (hs:=sc Z (oA Z (jy (α:=Stmt) (e:=74)))<|.nil)
 refine j.zo [(0,1),(3,0)] (λ j=>?_) (hs:=sc Z (wA (α:=Stmt) (e:=74) Z)<|segZ)
 refine Ka ?_
 refine j.zh 1 [(0,1),(3,0)] λ j=>?_
 have⟨v5,p5,h⟩:=bs h
 refine j.cNA 1 0 (zV p5) [] [3] λ j=>?_
 refine j.zh 2 [(0,1),(3,0)] (λ j=>Kb ?_)
 refine za ?_
 have⟨o8,p8,k8⟩:=bs h
 refine wqj (λ a w=>∃ M1 Q R W,Sx (Frm.chg w0 G) 44 M M1 [oneB Q,R,oneB W] [] [(3,0,dtip Q 74 o8.2),(0,1,dnm oRd R ⟨o8.1⟩ (.pointer (some ⟨b0,0,none⟩)) [])] a w) ?_ ?_
 ·refine Ka ?_
  refine j.zh 2 [(0,1),(3,0)] (λ j=>?_) (hs:=sZ 1 (r:=by exact sc Z (yf (opds:=[.const (.int .i64 2),.const (.int .i64 1),.const (.int .i64 3),.const (.int .i64 0),.const (.int .i64 4)]) Z Z Z (.cons cI (.cons cI (.cons cI (.cons cI (.cons cI .nil))))))<|.nil))
  have⟨v11,p11,h⟩:=bs p8
  refine j.cNA 1 0 (jt p11) [4] [3] λ j=>?_
  refine j.zh 1 [(0,1),(3,0)] (λ j=>Kb ?_)
  refine wql h (λ s14 a w=>∃ M1 Q R W,Sx (Frm.chg w0 G) 44 M M1 [oneB Q,R,oneB W] [(4,dt (cmpI .eql v5.2 (0:Int))),(5,dt s14.2.2)] [(3,0,dtip Q 74 s14.2.1),(0,1,dnm oRd R ⟨s14.1⟩ (.pointer (some ⟨b0,0,none⟩)) [])] a w) fx ?_
  rintro s14 z14 _ _ ⟨_,Q,R,W,j⟩ hs14 hx14
  have h:w6 v5 s14=some z14:=hs14
  unfold w6 at h
  refine j.zd [(0,1),(3,0)] h (λ j h=>?_) λ j h=>?_
  ·refine Ka ?_
   refine j.zh 1 [(0,1),(3,0)] λ j=>?_
   have⟨v21,p21,h⟩:=bs h
   refine j.cNA 1 0 (zd2 p21) [4,5] [3] λ j=>?_
   refine j.alA 2 QY [4,5,19] [0,3] λ b24 j=>?_
   refine j.stA 6 2 FldS.id (tp Z) [4,5] [0,3] (λ j=>Kb ?_)
   refine za ?_
   have⟨o27,p27,k27⟩:=bs h
   refine wqj (λ a w=>∃ M1 Q R W,Sx (Frm.chg w0 G) 44 M M1 [oneB Q,R,oneB W] [(4,dt (cmpI .eql v5.2 (0:Int))),(5,dt s14.2.2)] [(3,0,dtip Q 74 s14.2.1),(6,2,dbox W 0 o27.2),(0,1,dnm oRd R ⟨o27.1⟩ (.pointer (some ⟨b0,0,none⟩)) [])] a w) ?_ ?_
   ·refine j.zd [(0,1),(3,0),(6,2)] p27 (λ j h=>?_) (λ j h=>?_) (hs:=sZ 5 (r:=by exact sg Z Z (λ hg=>oM Z V)<|sgg Z Z (λ hg=>yM Stmt.fld0 Z T)<|sgg Z Z (λ hg=>yx Z V)<|sgg Z Z (λ hg=>oCI Z V cI)<|sg Z Z (λ hg=>Za Z V (zbq hg Z))<|sg Z Z (λ hg=>oM Z V)<|sgg Z Z (λ hg=>yM Stmt.fld0 Z T)<|sgg Z Z (λ hg=>yx Z V)<|sgg Z Z (λ hg=>oCI Z V cI)<|sg Z Z (λ hg=>Za Z V (zbq hg Z))<|segZ))
    ·refine Ka ?_
     refine j.zh 1 [(0,1),(3,0),(6,2)] λ j=>?_
     have⟨v33,p33,h⟩:=bs h
     refine j.cNA 1 0 (zV p33) [4,5] [3,6] λ j=>?_
     refine j.zh 1 [(0,1),(3,0),(6,2)] (λ j=>?_) (hs:=sc Z (W3 Z cI (zt) T)<|.nil)
     refine j.stA 6 2 FldS.id (tp Z) [4,5] [0,3] (λ j=>Kb ?_)
     cases h
     exact fz
    cases h
    exact fz
   rintro _ _ ⟨_,Q,R,W,j⟩
   have h:=k27
   refine Ka ?_
   refine j.zh 3 [(0,1),(3,0),(39,0)] λ j=>?_
   have⟨v42,p42,h⟩:=bs h
   refine j.apA 0 xv p42 [4,5] [0] λ g41 j=>?_
   refine j.zh 1 [(0,1),(3,0)] (λ j=>Kb ?_)
   have⟨v45,p45,h⟩:=bs h
   exact j.zn [(0,1),(3,0)] h
  have h:=lo h hx14
  cases h
  exact fz
 rintro _ _ ⟨_,Q,R,W,j⟩
 have h:=k8
 refine j.zo [(0,1),(2,0)] λ j=>?_
 have j:=j.tipW (s:=2) 0 [0]
 exact j.rsO (s:=0) 1 0 Z Z Z (λ _ h=>h) (λ _ h=>h) (bxr h)
def YS(x0:Reader):Option (Reader×(List Int)):=
(zO x0 (8:Int)).bind λ v4=>
if cmpI .eql v4.2 0 then(some (v4.1,([(1:Int),(0:Int)]:List Int)))
else(if cmpI .eql v4.2 1 then(some (v4.1,([(2:Int),(1:Int),(0:Int)]:List Int)))
else(if cmpI .eql v4.2 2 then(some (v4.1,([(0:Int)]:List Int)))
else(if cmpI .eql v4.2 3 then(some (v4.1,([(1:Int)]:List Int)))
else(if cmpI .eql v4.2 4 then(some (v4.1,([(0:Int),(1:Int)]:List Int)))
else(some (v4.1,([(0:Int),(1:Int),(2:Int)]:List Int)))))))
theorem zd4{r:Reader×(List Int)}(h:YS x0=some r):FnS prog 25 oRd ⟨x0⟩ [] ⟨r.1⟩ (.frz (dt r.2)):=by
 refine fnSB (fn:=f25) 0 1 func25 Z Z (λ M G _ b0 _ j=>wqw ?_)
 refine j.zo [(0,0)] (λ j=>?_) (hs:=sc Z (oA Z (jC (α:=Int)))<|.nil)
 refine Ka ?_
 refine j.zh 1 [(0,0)] λ j=>?_
 have⟨v4,p4,h⟩:=bs h
 refine j.cNA 0 0 (zV p4) [] [] (λ j=>Kb ?_)
 refine j.zd [(0,0)] h (λ j h=>?_) λ j h=>?_
 ·refine j.zo [(0,0)] (λ j=>?_) (hs:=sc Z (yf (opds:=[.const (.int .i64 1),.const (.int .i64 0)]) Z Z Z (.cons cI (.cons cI .nil)))<|segZ)
  exact j.xD 0 0 h
 refine j.zd [(0,0)] h (λ j h=>?_) λ j h=>?_
 ·refine j.zo [(0,0)] (λ j=>?_) (hs:=sc Z (yf (opds:=[.const (.int .i64 2),.const (.int .i64 1),.const (.int .i64 0)]) Z Z Z (.cons cI (.cons cI (.cons cI .nil))))<|segZ)
  exact j.xD 0 0 h
 refine j.zd [(0,0)] h (λ j h=>?_) λ j h=>?_
 ·refine j.zo [(0,0)] (λ j=>?_) (hs:=sc Z (yf (opds:=[.const (.int .i64 0)]) Z Z Z (.cons cI .nil))<|segZ)
  exact j.xD 0 0 h
 refine j.zd [(0,0)] h (λ j h=>?_) λ j h=>?_
 ·refine j.zo [(0,0)] (λ j=>?_) (hs:=sc Z (yf (opds:=[.const (.int .i64 1)]) Z Z Z (.cons cI .nil))<|segZ)
  exact j.xD 0 0 h
 refine j.zd [(0,0)] h (λ j h=>?_) λ j h=>?_
 ·refine j.zo [(0,0)] (λ j=>?_) (hs:=sc Z (yf (opds:=[.const (.int .i64 0),.const (.int .i64 1)]) Z Z Z (.cons cI (.cons cI .nil)))<|segZ)
  exact j.xD 0 0 h
 refine j.zo [(0,0)] (λ j=>?_) (hs:=sc Z (yf (opds:=[.const (.int .i64 0),.const (.int .i64 1),.const (.int .i64 2)]) Z Z Z (.cons cI (.cons cI (.cons cI .nil))))<|segZ)
 exact j.xD 0 0 h
def YT(x0:Reader):Option (Reader×File):=
(xt x0 ([(0:Int),(0:Int),(1:Int),(2:Int),(1:Int)]:List Int)).bind λ v5=>
(zO v5.1 (100:Int)).bind λ v10=>
(YR v10.1).bind λ v15=>
Option.bind (α:=Reader×File) ((zO v15.1 (6:Int)).bind λ v28=>
Option.bind (α:=Bool) (if cmpI .eql v28.2 0 then(some (cmpI .eql v28.2 0))
else(some (cmpI .eql v28.2 1))) λ o31=>
if o31=true then((xR v28.1).bind λ v45=>
some (v45.1,{ (⟨v5.2,⟨[]⟩,⟨[]⟩,false,v10.2,v15.2⟩:File) with name:=v45.2 }))
else(Option.bind (α:=Bool) (if cmpI .eql v28.2 2 then(some (cmpI .eql v28.2 2))
else(some (cmpI .eql v28.2 3))) λ o52=>
if o52=true then((xR v28.1).bind λ v62=>
(xR v62.1).bind λ v70=>
some (v70.1,{ (⟨v5.2,⟨[]⟩,⟨[]⟩,false,v10.2,v15.2⟩:File) with pkg:=v62.2,name:=v70.2 }))
else(if cmpI .eql v28.2 4 then((xR v28.1).bind λ v81=>
some (v81.1,{ (⟨v5.2,⟨[]⟩,⟨[]⟩,false,v10.2,v15.2⟩:File) with pkg:=v81.2,init:=true }))
else((xR v28.1).bind λ v92=>
(catO v92.2 (⟨[46]⟩:Str)).bind λ v95=>
(xR v92.1).bind λ v99=>
(catO v95 v99.2).bind λ v102=>
(zO v99.1 (2:Int)).bind λ v109=>
if cmpI .eql v109.2 0 then(some (v109.1,{ (⟨v5.2,⟨[]⟩,⟨[]⟩,false,v10.2,v15.2⟩:File) with pkg:=v102,init:=true }))
else((xR v109.1).bind λ v120=>
some (v120.1,{ (⟨v5.2,⟨[]⟩,⟨[]⟩,false,v10.2,v15.2⟩:File) with pkg:=v102,name:=v120.2 })))))) λ o25=>
some (o25.1,o25.2)
theorem zd5{r:Reader×File}(h:YT x0=some r):FnS prog 56 oRd ⟨x0⟩ [] ⟨r.1⟩ (.ow (owFile (Ow.row 74 (Ow.frz (α:=Stmt)))) r.2):=by
 refine fnSB (fn:=f56) 2 5 func56 Z Z (λ M G w0 b0 _ j=>wqw ?_)
 refine Ka ?_
 refine j.alcW (ow:=(owFile (Ow.row 74 (Ow.frz (α:=Stmt))))) 3 (owFile.z Ow.row_z) [] [0] λ b1 M1 _ _ j=>?_
 have j:=j.gn
 refine Kb ?_
 refine Ka ?_
 refine j.zh 2 [(0,2),(2,3)] (λ j=>?_) (hs:=sZ 1 (r:=by exact sc Z (yf (opds:=[.const (.int .i64 0),.const (.int .i64 0),.const (.int .i64 1),.const (.int .i64 2),.const (.int .i64 1)]) Z Z Z (.cons cI (.cons cI (.cons cI (.cons cI (.cons cI .nil))))))<|.nil))
 have⟨v5,p5,h⟩:=bs h
 refine j.cNA 2 0 (jt p5) [] [2] λ j=>?_
 refine j.zh 1 [(0,2),(2,3)] λ j=>?_
 have⟨v10,p10,h⟩:=bs h
 refine j.cNA 2 0 (zV p10) [6] [2] λ j=>?_
 refine j.zh 1 [(0,2),(2,3)] λ j=>?_
 have⟨v15,p15,h⟩:=bs h
 refine j.cSO (l:=[]) 2 0 (j.bkN (s:=0)) Z Z kN90 (Eq.trans (j.st.has 9 _ Z) (j.st.has 0 _ Z).1.symm) .nil (zd3 p15) [6,8] Z [2] Z Z Z Z λ G14 H14 _ _ _ j=>?_
 have j:=j.gn
 refine j.bldW (ow:=(owFile (Ow.row 74 (Ow.frz (α:=Stmt))))) (parts:=[(0,.tmp 6),(4,.tmp 8),(5,.tmp 10)]) (ns:=[1,1,1,1,1,1]) (zs:=zpFile) (x:=(⟨v5.2,⟨[]⟩,⟨[]⟩,false,v10.2,v15.2⟩:File)) 1 [0] (FA ⟨by decide,Rep.len (α:=Int) (j.oc T)⟩ (FA ⟨by decide,Rep.len (α:=Int) (j.oc T)⟩ (FA ⟨by decide,Ow.len _ (js (j.st.has 10 _ Z))⟩ FN))) (((owFile (Ow.row 74 (Ow.frz (α:=Stmt))))).more (owFile.mk (x:=(⟨v5.2,⟨[]⟩,⟨[]⟩,false,v10.2,v15.2⟩:File)) (j.oc T) qt qt ⟨Z,trivial⟩ (j.oc T) (js (j.st.has 10 _ Z))) (λ b=>(λ hb=>⟨0,by simp,hb⟩))) [] [0,2] (@λ G18 _ _ j=>?_)
 have j:=j.gs (Gs':=[oneB none,G18,G14,(oneB (some b1)),oneB none])
 have j:=j.gn
 refine j.alcW (ow:=(owFile (Ow.row 74 (Ow.frz (α:=Stmt))))) 4 (owFile.z Ow.row_z) [] [0,2,11] λ b21 _ _ _ j=>?_
 have j:=j.gn
 refine j.stO (sb:=3) (tv:=11) 4 1 Pb (zU Z) [] [0,2] λ j=>?_
 have j:=j.gn
 refine Kb ?_
 refine za ?_
 have⟨o25,p25,k25⟩:=bs h
 refine wqj (λ a w=>∃ M1 Q R W X Y,Sx (Frm.chg w0 G) 50 M M1 [Q,R,W,X,Y] [] [(0,2,dnm oRd W ⟨o25.1⟩ (.pointer (some ⟨b0,0,none⟩)) []),(2,3,dow (Ow.box (owFile (Ow.row 74 (Ow.frz (α:=Stmt))))) X ⟨zFile⟩),(3,4,dow (Ow.box (owFile (Ow.row 74 (Ow.frz (α:=Stmt))))) Y ⟨o25.2⟩)] a w) ?_ ?_
 ·refine Ka ?_
  refine j.zh 1 [(0,2),(2,3),(3,4)] λ j=>?_
  have⟨v28,p28,h⟩:=bs p25
  refine j.cNA 2 0 (zV p28) [] [2,3] (λ j=>Kb ?_)
  refine za ?_
  refine wqb ?_
  have⟨o31,p31,k31⟩:=bs h
  refine wqj (λ a w=>∃ M1 Q R W X Y,Sx (Frm.chg w0 G) 50 M M1 [Q,R,W,X,Y] [(13,dt v28.2),(28,dt o31)] [(0,2,dnm oRd W ⟨v28.1⟩ (.pointer (some ⟨b0,0,none⟩)) []),(2,3,dow (Ow.box (owFile (Ow.row 74 (Ow.frz (α:=Stmt))))) X ⟨zFile⟩),(3,4,dow (Ow.box (owFile (Ow.row 74 (Ow.frz (α:=Stmt))))) Y ⟨(⟨v5.2,⟨[]⟩,⟨[]⟩,false,v10.2,v15.2⟩:File)⟩)] a w) ?_ ?_
  ·refine j.zd [(0,2),(2,3),(3,4)] p31 (λ j h=>?_) λ j h=>?_
   ·have j:=j.unm (s:=2) 3 [0,3]
    have j:=j.unm (s:=3) 4 [0,2]
    cases h
    exact fz
   refine j.zo [(0,2),(2,3),(3,4)] λ j=>?_
   have j:=j.unm (s:=2) 3 [0,3]
   have j:=j.unm (s:=3) 4 [0,2]
   cases h
   exact fz
  rintro _ _ ⟨_,Q,R,W,X,Y,j⟩
  have h:=k31
  refine j.cq h (λ h=>?_) λ h=>?_
  ·refine Ka ?_
   refine j.zh 1 [(0,2),(2,3),(3,4)] λ j=>?_
   have⟨v45,p45,h⟩:=bs h
   refine j.cNA 2 0 (jf p45) [] [2,3] λ j=>?_
   refine j.nmB (s:=3) 4 [0,2] λ b48 j=>?_
   refine j.zh 1 [(0,2),(2,3),(3,4)] (λ j=>?_) (hs:=sc Z (xFa Z zc1 U)<|.nil)
   refine j.sfA 3 4 (Pb.fld owFile.f2) (tp Z) (tp Z) [] [0,2] (λ j=>Kb ?_)
   have j:=j.unm (s:=3) 4 [0,2]
   cases h
   exact fz
  have⟨o52,p52,k52⟩:=bs h
  refine wqj (λ a w=>∃ M1 Q R W X Y,Sx (Frm.chg w0 G) 50 M M1 [Q,R,W,X,Y] [(13,dt v28.2),(34,dt o52)] [(0,2,dnm oRd W ⟨v28.1⟩ (.pointer (some ⟨b0,0,none⟩)) []),(2,3,dow (Ow.box (owFile (Ow.row 74 (Ow.frz (α:=Stmt))))) X ⟨zFile⟩),(3,4,dow (Ow.box (owFile (Ow.row 74 (Ow.frz (α:=Stmt))))) Y ⟨(⟨v5.2,⟨[]⟩,⟨[]⟩,false,v10.2,v15.2⟩:File)⟩)] a w) ?_ ?_
  ·refine j.zd [(0,2),(2,3),(3,4)] p52 (λ j h=>?_) λ j h=>?_
   ·cases h
    exact fz
   refine j.zo [(0,2),(2,3),(3,4)] λ j=>?_
   cases h
   exact fz
  rintro _ _ ⟨_,Q,R,W,X,Y,j⟩
  have h:=k52
  refine j.cq h (λ h=>?_) λ h=>?_
  ·refine Ka ?_
   refine j.zh 1 [(0,2),(2,3),(3,4)] λ j=>?_
   have⟨v62,p62,h⟩:=bs h
   refine j.cNA 2 0 (jf p62) [] [2,3] λ j=>?_
   refine j.nmB (s:=3) 4 [0,2] λ b65 j=>?_
   refine j.zh 1 [(0,2),(2,3),(3,4)] (λ j=>?_) (hs:=sc Z (xFa Z zc0 U)<|.nil)
   refine j.sfA 3 4 (Pb.fld owFile.f1) (tp Z) (tp Z) [] [0,2] (λ j=>Kb ?_)
   refine Ka ?_
   refine j.zh 1 [(0,2),(2,3),(3,4)] λ j=>?_
   have⟨v70,p70,h⟩:=bs h
   refine j.cNA 2 0 (jf p70) [] [2,3] λ j=>?_
   refine j.zh 1 [(0,2),(2,3),(3,4)] (λ j=>?_) (hs:=sc Z (xFa Z zc1 U)<|.nil)
   refine j.sfA 3 4 (Pb.fld owFile.f2) (tp Z) (tp Z) [] [0,2] (λ j=>Kb ?_)
   have j:=j.unm (s:=3) 4 [0,2]
   cases h
   exact fz
  refine j.zd [(0,2),(2,3),(3,4)] h (λ j h=>?_) λ j h=>?_
  ·refine Ka ?_
   refine j.zh 1 [(0,2),(2,3),(3,4)] λ j=>?_
   have⟨v81,p81,h⟩:=bs h
   refine j.cNA 2 0 (jf p81) [] [2,3] λ j=>?_
   refine j.nmB (s:=3) 4 [0,2] λ b84 j=>?_
   refine j.zh 1 [(0,2),(2,3),(3,4)] (λ j=>?_) (hs:=sc Z (xFa Z zc0 U)<|.nil)
   refine j.sfA 3 4 (Pb.fld owFile.f1) (tp Z) (tp Z) [] [0,2] (λ j=>Kb ?_)
   refine Ka ?_
   refine j.zh 1 [(0,2),(2,3),(3,4)] (λ j=>?_) (hs:=sc Z (xFa Z kF71_3 U)<|.nil)
   refine j.sfA 3 4 (Pb.fld owFile.f3) (tp Z) cB [] [0,2] (λ j=>Kb ?_)
   have j:=j.unm (s:=3) 4 [0,2]
   cases h
   exact fz
  refine Ka ?_
  refine j.zh 1 [(0,2),(2,3),(3,4)] λ j=>?_
  have⟨v92,p92,h⟩:=bs h
  refine j.cNA 2 0 (jf p92) [] [2,3] λ j=>?_
  have⟨v95,p95,h⟩:=bs h
  refine j.zh 2 [(0,2),(2,3),(3,4)] λ j=>?_
  have⟨v99,p99,h⟩:=bs h
  refine j.cNA 2 0 (jf p99) [16] [2,3] λ j=>?_
  have⟨v102,p102,h⟩:=bs h
  refine j.nmB (s:=3) 4 [0,2] λ b103 j=>?_
  refine j.zh 2 [(0,2),(2,3),(3,4)] (λ j=>?_) (hs:=sZ 1 (r:=by exact sc Z (xFa Z zc0 U)<|.nil))
  refine j.sfA 3 4 (Pb.fld owFile.f1) (tp Z) (tp Z) [] [0,2] (λ j=>Kb ?_)
  refine Ka ?_
  refine j.zh 1 [(0,2),(2,3),(3,4)] λ j=>?_
  have⟨v109,p109,h⟩:=bs h
  refine j.cNA 2 0 (zV p109) [] [2,3] λ j=>?_
  refine j.zh 1 [(0,2),(2,3),(3,4)] (λ j=>Kb ?_)
  refine j.cq h (λ h=>?_) λ h=>?_
  ·refine Ka ?_
   refine j.zh 1 [(0,2),(2,3),(3,4)] (λ j=>?_) (hs:=sc Z (xFa Z kF71_3 U)<|.nil)
   refine j.sfA 3 4 (Pb.fld owFile.f3) (tp Z) cB [] [0,2] (λ j=>Kb ?_)
   have j:=j.unm (s:=3) 4 [0,2]
   cases h
   exact fz
  refine Ka ?_
  refine j.zh 1 [(0,2),(2,3),(3,4)] λ j=>?_
  have⟨v120,p120,h⟩:=bs h
  refine j.cNA 2 0 (jf p120) [] [2,3] λ j=>?_
  refine j.zh 1 [(0,2),(2,3),(3,4)] (λ j=>?_) (hs:=sc Z (xFa Z zc1 U)<|.nil)
  refine j.sfA 3 4 (Pb.fld owFile.f2) (tp Z) (tp Z) [] [0,2] (λ j=>Kb ?_)
  have j:=j.unm (s:=3) 4 [0,2]
  cases h
  exact fz
 rintro _ _ ⟨_,Q,R,W,X,Y,j⟩
 have h:=k25
 refine Ka ?_
 refine j.nmB (s:=3) 4 [0,2] λ b128 j=>?_
 refine j.ldW (sb:=3) 4 kT71 [] [0,2] λ _ _ j=>?_
 refine j.nmB (s:=2) 3 [0,49] λ b130 j=>?_
 refine j.stO (sb:=2) (tv:=49) 3 4 Pb (zU Z) [] [0] λ j=>?_
 have j:=j.gn
 refine Kb ?_
 exact j.rsCO (s:=0) 2 3 Z kT71 Z Z (bxr h)
def w9(s19:Reader×Tree×Int):Option ((Reader×Tree×Int)⊕(Reader×Tree)):=
if cmpI .gtr s19.2.2 0 then(Option.bind (α:=Reader×Tree) ((YT s19.1).bind λ v27=>
(XV s19.2.1 v27.2).bind λ v37=>
if cmpI .lss v37 0 then((appO 80 s19.2.1.files [v27.2]).bind λ v52=>
some (v27.1,(⟨v52⟩:Tree)))
else(some (v27.1,s19.2.1))) λ o24=>
(i64 (s19.2.2 - (1:Int))).bind λ v61=>
some (.inl (o24.1,o24.2,v61)))
else(some (.inr (s19.1,s19.2.1)))
def YU(x0:Reader):Option (Reader×Tree):=
Option.bind (α:=Reader×Tree) ((xt x0 ([(5:Int),(4:Int),(6:Int),(3:Int),(8:Int),(1:Int),(0:Int),(10:Int)]:List Int)).bind λ v13=>
zP (λ s19=>w9 s19) (v13.1,(⟨[]⟩:Tree),v13.2)) λ o10=>
some (o10.1,o10.2)
theorem zd6{r:Reader×Tree}(h:YU x0=some r):FnS prog 22 oRd ⟨x0⟩ [] ⟨r.1⟩ (.ow oTr r.2):=by
 refine fnSB (fn:=f22) 1 9 func22 Z Z (λ M G w0 b0 _ j=>wqw ?_)
 refine Ka ?_
 refine j.alcW (ow:=oTr) 6 (owTree.z Ow.row_z) [] [0] λ b1 M1 _ _ j=>?_
 have j:=j.gn
 refine Kb ?_
 refine Ka ?_
 refine j.bldW (ow:=oTr) (parts:=[]) (ns:=[1]) (zs:=zcU) (x:=(⟨[]⟩:Tree)) 0 [] (by simp) ((oTr).more (owTree.mk (x:=(⟨[]⟩:Tree)) (Ow.row_z _ _)) (λ b=>(λ hb=>hb.elim))) [] [0,2] @λ G3 _ _ j=>?_
 have j:=j.gs (Gs':=[G3,G,oneB none,oneB none,oneB none,oneB none,(oneB (some b1)),oneB none,oneB none])
 have j:=j.gn
 refine j.alcW (ow:=oTr) 7 (owTree.z Ow.row_z) [] [0,2,6] λ b6 _ _ _ j=>?_
 have j:=j.gn
 refine j.stO (sb:=3) (tv:=6) 7 0 Pb (zU Z) [] [0,2] λ j=>?_
 have j:=j.gn
 refine Kb ?_
 refine za ?_
 have⟨o10,p10,k10⟩:=bs h
 refine wqj (λ a w=>∃ M1 Q R W X Y A B C D,Sx (Frm.chg w0 G) 27 M M1 [Q,R,W,X,Y,A,B,C,D] [] [(0,1,dnm oRd R ⟨o10.1⟩ (.pointer (some ⟨b0,0,none⟩)) []),(2,6,dow (Ow.box oTr) B ⟨XE⟩),(3,7,dow (Ow.box oTr) C ⟨o10.2⟩)] a w) ?_ ?_
 ·refine Ka ?_
  refine j.zh 2 [(0,1),(2,6),(3,7)] (λ j=>?_) (hs:=sZ 1 (r:=by exact sc Z (yf (opds:=[.const (.int .i64 5),.const (.int .i64 4),.const (.int .i64 6),.const (.int .i64 3),.const (.int .i64 8),.const (.int .i64 1),.const (.int .i64 0),.const (.int .i64 10)]) Z Z Z (.cons cI (.cons cI (.cons cI (.cons cI (.cons cI (.cons cI (.cons cI (.cons cI .nil)))))))))<|.nil))
  have⟨v13,p13,h⟩:=bs p10
  refine j.cNA 1 0 (jt p13) [] [2,3] λ j=>?_
  refine j.zh 1 [(0,1),(2,6),(3,7)] (λ j=>Kb ?_)
  have j:=j.unm (s:=2) 6 [0,3]
  have j:=j.unm (s:=3) 7 [0,2]
  refine wql h (λ s19 a w=>∃ M1 Q R W X Y A B C D,Sx (Frm.chg w0 G) 27 M M1 [Q,R,W,X,Y,A,B,C,D] [(4,dt s19.2.2)] [(0,1,dnm oRd R ⟨s19.1⟩ (.pointer (some ⟨b0,0,none⟩)) []),(2,6,dow (Ow.box oTr) B ⟨XE⟩),(3,7,dow (Ow.box oTr) C ⟨s19.2.1⟩)] a w) fx ?_
  rintro s19 z19 _ _ ⟨_,Q,R,W,X,Y,A,B,C,D,j⟩ hs19 hx19
  have h:w9 s19=some z19:=hs19
  unfold w9 at h
  refine j.zd [(0,1),(2,6),(3,7)] h (λ j h=>?_) λ j h=>?_
  ·refine wqk ?_
   refine za ?_
   have⟨o24,p24,k24⟩:=bs h
   refine wqj (λ a w=>∃ M1 Q R W X Y A B C D,Sx (Frm.chg w0 G) 27 M M1 [Q,R,W,X,Y,A,B,C,D] [(4,dt s19.2.2)] [(0,1,dnm oRd R ⟨o24.1⟩ (.pointer (some ⟨b0,0,none⟩)) []),(2,6,dow (Ow.box oTr) B ⟨XE⟩),(3,7,dow (Ow.box oTr) C ⟨o24.2⟩)] a w) ?_ ?_
   ·refine Ka ?_
    refine j.zh 1 [(0,1),(2,6),(3,7)] λ j=>?_
    have⟨v27,p27,h⟩:=bs p24
    refine j.cSO (l:=[]) 1 2 (j.bkN (s:=0)) Z Z kN56 (Eq.trans (j.st.has 14 _ Z) (j.st.has 0 _ Z).1.symm) .nil (zd5 p27) [4] Z [2,3] Z Z Z Z λ G26 H26 _ _ _ j=>?_
    have j:=j.gn
    refine j.alcW (ow:=(owFile (Ow.row 74 (Ow.frz (α:=Stmt))))) 8 (owFile.z Ow.row_z) [4] [0,2,3,15] λ b30 _ _ _ j=>?_
    have j:=j.gn
    refine j.stO (sb:=5) (tv:=15) 8 2 Pb (zU Z) [4] [0,2,3] λ j=>?_
    have j:=j.gn
    refine Kb ?_
    have⟨v37,p37,h⟩:=bs h
    refine j.nmB (s:=3) 7 [0,2,5] λ b34 j=>?_
    refine j.hdW (s:=3) 7 true (λ _=>Pb) [0,2,5] λ cs35 hS35 j=>?_
    refine j.hdW (s:=5) 8 true (λ _=>Pb) [0,2,3] λ cs36 hS36 j=>?_
    refine j.zo [(0,1),(2,6),(3,7),(5,8)] (λ j=>?_) (hs:=sc Z (xLw (sb:=3) (.head _) Z (hS35 Z) Z U Z)<|sc Z (xLw (sb:=5) (.head _) Z (hS36 Z) Z U Z)<|sc Z (wB (l:=[.tmp 16,.tmp 17]) j.ob.sub Z (.cons (lendP (sb:=3) j.ob 7 Pb (.head _) Z (fits_all Z (hS35 Z)) T Z) (.cons (lendP (sb:=5) j.ob 8 Pb (.head _) Z (fits_all Z (hS36 Z)) T Z) .nil)) (zba p37) Z5)<|segZ)
    have j:=j.ncf (s:=3) 7 [0,2,5]
    have j:=j.ncf (s:=5) 8 [0,2,3]
    refine j.cq h (λ h=>?_) λ h=>?_
    ·refine Ka ?_
     refine j.hdA 3 7 (Pb.fld owTree.f0) [0,2,5] λ g44 A44 _ hA44 j=>?_
     refine j.zh 2 [(0,1),(2,6),(3,7),(5,8)] (λ j=>?_) (hs:=sc Z (xFa Z Xt U)<|sc Z (xLc (sb:=3) (.head _) Z Z Z T Z)<|.nil)
     refine j.ldW (sb:=5) 8 kT71 [4,21] [0,2,3] λ _ _ j=>?_
     refine j.litW (oe:=(owFile (Ow.row 74 (Ow.frz (α:=Stmt))))) (opds:=[.tmp 22]) (xs:=[v27.2]) 4 [8] kI37 kY37 (Q9 (js (j.st.has 22 _ Z)) (λ b hb=>⟨8,by simp,hb⟩)) (λ q hq=>by
 simp only[List.mem_cons,List.not_mem_nil,or_false] at hq
 subst hq
 exact Ow.len _ (js (j.st.has 22 _ Z))) [4,21] [0,2,3] (λ G47 _ _ _ j=>?_)
     have j:=j.gs (Gs':=[Q,G26,oneB none,X,G47,A,B,C,oneB none])
     refine j.mvG (s:=21) (sb:=3) 7 5 (Pb.fld owTree.f0) (.head _) (yA Z Z) [4] [0,2,23] λ j=>?_
     have j:=j.gn
     have⟨v52,p52,h⟩:=bs h
     refine j.appW 5 4 p52 [4] [0,2,3] λ _ _ _ _ j=>?_
     have j:=j.gn
     refine j.zh 1 [(0,1),(2,6),(3,7),(24,5)] (λ j=>?_) (hs:=sc Z (xFa Z Xt (opd_hl Z))<|.nil)
     refine j.shA 3 24 7 5 (tp Z) [4] [0,2] λ j=>?_
     have j:=j.gn
     refine Kb ?_
     have j:=j.unm (s:=3) 7 [0,2]
     cases h
     exact fz
    have j:=j.unm (s:=3) 7 [0,2,5]
    cases h
    exact fz
   rintro _ _ ⟨_,Q,R,W,X,Y,A,B,C,D,j⟩
   have h:=k24
   have⟨v61,p61,h⟩:=bs h
   exact j.zn [(0,1),(2,6),(3,7)] h
  have h:=lo h hx19
  cases h
  exact fz
 rintro _ _ ⟨_,Q,R,W,X,Y,A,B,C,D,j⟩
 have h:=k10
 refine Ka ?_
 refine j.nmB (s:=3) 7 [0,2] λ b67 j=>?_
 refine j.ldW (sb:=3) 7 kT39 [] [0,2] λ _ _ j=>?_
 refine j.nmB (s:=2) 6 [0,26] λ b69 j=>?_
 refine j.stO (sb:=2) (tv:=26) 6 7 Pb (zU Z) [] [0] λ j=>?_
 have j:=j.gn
 refine Kb ?_
 exact j.rsCO (s:=0) 1 6 Z kT39 Z Z (bxr h)
def XA(x0:Reader):Option (Reader×(List Int)):=
(zO x0 (20:Int)).bind λ v4=>
if cmpI .eql v4.2 0 then((zO v4.1 (3:Int)).bind λ v11=>
(atI ([([]:List Int),([(0:Int),(0:Int)]:List Int),([(3:Int)]:List Int)]:List (List Int)) v11.2).bind λ v13=>
some (v11.1,v13))
else((YS v4.1).bind λ v18=>
some (v18.1,v18.2))
theorem zeu{r:Reader×(List Int)}(h:XA x0=some r):FnS prog 11 oRd ⟨x0⟩ [] ⟨r.1⟩ (.frz (dt r.2)):=by
 refine fnSB (fn:=f11) 0 1 func11 Z Z (λ M G _ b0 _ j=>wqw ?_)
 refine j.zo [(0,0)] (λ j=>?_) (hs:=sc Z (oA Z (jC (α:=Int)))<|.nil)
 refine Ka ?_
 refine j.zh 1 [(0,0)] λ j=>?_
 have⟨v4,p4,h⟩:=bs h
 refine j.cNA 0 0 (zV p4) [] [] λ j=>?_
 refine j.zh 1 [(0,0)] (λ j=>Kb ?_)
 refine j.cq h (λ h=>?_) λ h=>?_
 ·refine Ka ?_
  refine j.zh 5 [(0,0)] (λ j=>?_) (hs:=sc Z (yf (opds:=[]) (α:=Int) Z Z Z .nil)<|sc Z (yf (opds:=[.const (.int .i64 0),.const (.int .i64 0)]) Z Z Z (.cons cI (.cons cI .nil)))<|sc Z (yf (opds:=[.const (.int .i64 3)]) Z Z Z (.cons cI .nil))<|sc Z (yf (opds:=[.tmp 6,.tmp 7,.tmp 8]) Z Z Z (.cons T (.cons T (.cons T .nil))))<|segZ)
  have⟨v11,p11,h⟩:=bs h
  refine j.cNA 0 0 (zV p11) [9] [] λ j=>?_
  have⟨v13,p13,h⟩:=bs h
  refine j.zh 3 [(0,0)] (λ j=>Kb ?_)
  exact j.xD 0 0 h
 refine Ka ?_
 refine j.zh 1 [(0,0)] λ j=>?_
 have⟨v18,p18,h⟩:=bs h
 refine j.cNA 0 0 (zd4 p18) [] [] λ j=>?_
 refine j.zh 1 [(0,0)] (λ j=>Kb ?_)
 exact j.xD 0 0 h
theorem kN10:fnB prog 10=true:=by kernel_rfl
theorem kN11:fnB prog 11=true:=by kernel_rfl
def XX(x0:Reader)(x1:Str):Option (Reader×Str):=
(i64 ((x1.l.length:Int)+(1:Int))).bind λ v2=>
(zO x0 v2).bind λ v6=>
Option.bind (α:=Reader⊕(Reader×Str)) ((zO v6.1 (5:Int)).bind λ v12=>
Option.bind (α:=Bool) (if cmpI .eql v12.2 0 then(some (cmpI .eql v12.2 0))
else(some (cmpI .eql v12.2 1))) λ o14=>
if o14=true then(if(cmpI .lss v6.2 (x1.l.length:Int))=true then((JI x1 v6.2).bind λ v28=>
(i64 (v6.2+(1:Int))).bind λ v33=>
(za0 x1 v33).bind λ v36=>
(xQ v12.1 ([(⟨[48]⟩:Str),(⟨[97]⟩:Str),(⟨[32]⟩:Str),(⟨[45]⟩:Str),(⟨[46]⟩:Str),(⟨[10]⟩:Str),(⟨[42]⟩:Str)]:List Str)).bind λ v42=>
(catO v28 v42.2).bind λ v44=>
(catO v44 v36).bind λ v46=>
some (.inr (v42.1,v46)))
else(some (.inl v12.1)))
else(if cmpI .eql v12.2 2 then((JI x1 v6.2).bind λ v69=>
some (.inr (v12.1,v69)))
else(if cmpI .eql v12.2 3 then((xQ v12.1 ([(⟨[48]⟩:Str),(⟨[32]⟩:Str),(⟨[10]⟩:Str),(⟨[120]⟩:Str)]:List Str)).bind λ v78=>
(catO x1 v78.2).bind λ v80=>
some (.inr (v78.1,v80)))
else(some (.inl v12.1))))) (Sum.elim (λ b9=>
some (b9,x1)) some)
theorem spec_mutate_w{x1:Str}(h:XX x0 x1=some r):FnS prog 24 oRd ⟨x0⟩ [dt x1] ⟨r.1⟩ (.frz (dt r.2)):=by
 refine fnSB (fn:=f24) 0 1 func24 Z Z (λ M G w0 b0 _ j=>wqw ?_)
 refine j.zo [(0,0)] (λ j=>Ka ?_)
 have⟨v2,p2,h⟩:=bs h
 refine j.zh 4 [(0,0)] λ j=>?_
 have⟨v6,p6,h⟩:=bs h
 refine j.cNA 0 0 (zV p6) [1] [] λ j=>?_
 refine j.zh 1 [(0,0)] (λ j=>Kb ?_)
 refine za ?_
 have⟨o9,p9,k9⟩:=bs h
 refine wqj (λ a w=>∃ b9,o9=.inl b9/\(∃ M1 Q,Sx (Frm.chg w0 G) 45 M M1 [Q] [(1,dt x1)] [(0,0,dnm oRd Q ⟨b9⟩ (.pointer (some ⟨b0,0,none⟩)) [])] a w)) ?_ ?_
 ·refine Ka ?_
  refine j.zh 1 [(0,0)] λ j=>?_
  have⟨v12,p12,h⟩:=bs p9
  refine j.cNA 0 0 (zV p12) [1,5] [] (λ j=>Kb ?_)
  refine za ?_
  refine wqb ?_
  have⟨o14,p14,k14⟩:=bs h
  refine wqj (λ a w=>∃ M1 Q,Sx (Frm.chg w0 G) 45 M M1 [Q] [(1,dt x1),(5,dt v6.2),(12,dt v12.2),(13,dt o14)] [(0,0,dnm oRd Q ⟨v12.1⟩ (.pointer (some ⟨b0,0,none⟩)) [])] a w) ?_ ?_
  ·refine j.zd [(0,0)] p14 (λ j h=>?_) λ j h=>?_
   ·cases h
    exact fz
   refine j.zo [(0,0)] λ j=>?_
   cases h
   exact fz
  rintro _ _ ⟨_,Q,j⟩
  have h:=k14
  refine j.cq h (λ h=>?_) λ h=>?_
  ·refine j.zd [(0,0)] h (λ j h=>?_) λ j h=>?_
   ·refine j.held (λ _=>True) yc λ _ j=>?_
    refine j.tM 0 1 trivial λ _ j=>?_
    refine j.tM 1 5 trivial λ _ j=>?_
    have⟨v28,p28,h⟩:=bs h
    refine j.tkCuH (i:=2) Z Z (λ _ _ _ _ h=>h) trivial Z kX9 (tp Z) (tp Z) p28 (next:=λ a29 j=>?_)
    refine j.tM 7 1 trivial λ _ j=>?_
    refine j.tM 8 5 trivial λ _ j=>?_
    have⟨v33,p33,h⟩:=bs h
    refine j.tkAr (i:=9) Z Z (λ _ _ _ _ h=>h) trivial Z (tp Z) cI p33 (next:=λ a34 j=>?_)
    have⟨v36,p36,h⟩:=bs h
    refine j.tkCuL (i:=10) Z Z (λ _ _ _ _ h=>h) trivial Z kX9 (tp Z) (tp Z) p36 (next:=λ a37 j=>?_)
    have⟨v42,p42,v44,p44,h⟩:=Kg h
    have⟨v46,p46,h⟩:=bs h
    refine aK2 3 4 ?_ ?_
    ·refine j.zh 1 [(0,0)] (λ j=>aHN trivial ?_)
     refine aK1 4 ?_
     refine j.zh 1 [(0,0)] (λ j=>?_) (hs:=sc Z (yf (opds:=[_,_,_,_,_,_,_]) Z Z Z (.cons (zt) (.cons (zt) (.cons (zt) (.cons (zt) (.cons (zt) (.cons (zt) (.cons (zt) .nil))))))))<|.nil)
     refine aHN trivial ?_
     refine aK1 5 ?_
     refine j.cNA 0 0 (wZ p42) [22,30] [] (λ j=>aHN trivial ?_)
     refine aK1 6 ?_
     refine j.zh 1 [(0,0)] (λ j=>aHN trivial ?_)
     refine aK1 11 ?_
     refine j.zh 1 [(0,0)] (λ j=>aHN trivial ?_)
     refine aK1 12 ?_
     refine j.zh 1 [(0,0)] (λ j=>aHN trivial ?_)
     refine aK0 ?_
     have h:=jo h k9
     exact j.xF 0 0 h
    ·refine j.zh 1 [(0,0)] (λ j=>?_) (hs:=sc Z (yf (opds:=[_,_,_,_,_,_,_]) Z Z Z (.cons (zt) (.cons (zt) (.cons (zt) (.cons (zt) (.cons (zt) (.cons (zt) (.cons (zt) .nil))))))))<|.nil)
     refine aHN trivial ?_
     refine aK1 3 ?_
     refine j.zh 1 [(0,0)] (λ j=>aHN trivial ?_)
     refine aK1 5 ?_
     refine j.cNA 0 0 (wZ p42) [22,30] [] (λ j=>aHN trivial ?_)
     refine aK1 6 ?_
     refine j.zh 1 [(0,0)] (λ j=>aHN trivial ?_)
     refine aK1 11 ?_
     refine j.zh 1 [(0,0)] (λ j=>aHN trivial ?_)
     refine aK1 12 ?_
     refine j.zh 1 [(0,0)] (λ j=>aHN trivial ?_)
     refine aK0 ?_
     have h:=jo h k9
     exact j.xF 0 0 h
   exact flz h
  refine j.zd [(0,0)] h (λ j h=>?_) λ j h=>?_
  ·have⟨v69,p69,h⟩:=bs h
   refine j.zo [(0,0)] λ j=>?_
   have h:=jo h k9
   exact j.xF 0 0 h
  refine j.zd [(0,0)] h (λ j h=>?_) λ j h=>?_
  ·refine Ka ?_
   refine j.zh 3 [(0,0)] (λ j=>?_) (hs:=sZ 2 (r:=by exact sc Z (yf (opds:=[_,_,_,_]) Z Z Z (.cons (zt) (.cons (zt) (.cons (zt) (.cons (zt) .nil)))))<|.nil))
   have⟨v78,p78,h⟩:=bs h
   refine j.cNA 0 0 (wZ p78) [39] [] λ j=>?_
   have⟨v80,p80,h⟩:=bs h
   refine j.zh 2 [(0,0)] (λ j=>Kb ?_)
   have h:=jo h k9
   exact j.xF 0 0 h
  exact flz h
 rintro _ _ ⟨b9,rfl,⟨_,Q,j⟩⟩
 have h:=jn k9
 refine j.zo [(0,0)] λ j=>?_
 exact j.xF 0 0 h
def YV(x0:Reader):Option (Reader×Str):=
(YU x0).bind λ v4=>
(je v4.2).bind λ v6=>
Option.bind (α:=Reader×Str) ((zO v4.1 (3:Int)).bind λ v12=>
if cmpI .eql v12.2 0 then((XX v12.1 v6).bind λ v19=>
some (v19.1,v19.2))
else(some (v12.1,v6))) λ o9=>
some (o9.1,o9.2)
theorem zd7(h:YV x0=some r):FnS prog 10 oRd ⟨x0⟩ [] ⟨r.1⟩ (.frz (dt r.2)):=by
 refine fnSB (fn:=f10) 0 1 func10 Z Z (λ M G w0 b0 _ j=>wqw ?_)
 refine j.zo [(0,0)] (λ j=>Ka ?_)
 refine j.zh 1 [(0,0)] λ j=>?_
 have⟨v4,p4,h⟩:=bs h
 refine j.cNA 0 0 (FnS.frz (zd6 p4)) [] [] λ j=>?_
 have⟨v6,p6,h⟩:=bs h
 refine j.zh 2 [(0,0)] (λ j=>Kb ?_)
 refine za ?_
 have⟨o9,p9,k9⟩:=bs h
 refine wqj (λ a w=>∃ M1 Q,Sx (Frm.chg w0 G) 14 M M1 [Q] [(3,dt o9.2)] [(0,0,dnm oRd Q ⟨o9.1⟩ (.pointer (some ⟨b0,0,none⟩)) [])] a w) ?_ ?_
 ·refine Ka ?_
  refine j.zh 1 [(0,0)] λ j=>?_
  have⟨v12,p12,h⟩:=bs p9
  refine j.cNA 0 0 (zV p12) [3] [] λ j=>?_
  refine j.zh 1 [(0,0)] (λ j=>Kb ?_)
  refine j.cq h (λ h=>?_) λ h=>?_
  ·refine Ka ?_
   refine j.zh 2 [(0,0)] λ j=>?_
   have⟨v19,p19,h⟩:=bs h
   refine j.cNA 0 0 (spec_mutate_w p19) [3] [] λ j=>?_
   refine j.zh 1 [(0,0)] (λ j=>Kb ?_)
   cases h
   exact fz
  cases h
  exact fz
 rintro _ _ ⟨_,Q,j⟩
 have h:=k9
 refine j.zo [(0,0)] λ j=>?_
 exact j.xF 0 0 h
def yW(s26:Reader×(List Str)×Int):Option ((Reader×(List Str)×Int)⊕(List Str)):=
if cmpI .gtr s26.2.2 0 then((xQ s26.1 ([(⟨[102,105,110,100,32,97]⟩:Str),(⟨[102,105,110,100,32,97,46,98]⟩:Str),(⟨[105,109,112,111,114,116,32,97]⟩:Str),(⟨[105,109,112,111,114,116,32,98,46,99]⟩:Str),(⟨[111,114,100,101,114,32,97,46,98]⟩:Str),(⟨[111,114,100,101,114,32,99]⟩:Str),(⟨[110,97,109,101,115]⟩:Str),(⟨[102,105,108,101,115]⟩:Str),(⟨[102,105,110,100,32,65]⟩:Str),(⟨[104,101,108,112]⟩:Str),(⟨[]⟩:Str)]:List Str)).bind λ v34=>
(appO 16 s26.2.1 ([v34.2]:List Str)).bind λ v39=>
(i64 (s26.2.2 - (1:Int))).bind λ v42=>
some (.inl (v34.1,v39,v42)))
else(some (.inr s26.2.1))
def j0(x0:List UInt8):Option (Str×(List Int)×(List Str)):=
(Zm x0).bind λ v4=>
(YV v4).bind λ v10=>
(XA v10.1).bind λ v15=>
Option.bind (α:=(List Str)) ((xt v15.1 ([(4:Int),(6:Int),(2:Int),(0:Int)]:List Int)).bind λ v22=>
zP (λ s26=>yW s26) (v22.1,[],v22.2)) λ o19=>
some (v10.2,v15.2,o19)
theorem W4{x0:List UInt8}{r:Str×(List Int)×(List Str)}(h:j0 x0=some r):Fn prog 4 [dt x0] (dtup [dt r.1,dt r.2.1,dt r.2.2]):=by
 refine fq1 2 func4 λ M w0 _ j=>?_
 refine j.rg2 (sZ 1 (r:=by exact sc Z (oA Z (jC (α:=Int)))<|sc Z (oA Z (jy (α:=Str) (e:=9)))<|.nil)) [0] (λ _ _ j=>Ka ?_)
 refine j.segA 1 [10] [] λ j=>?_
 have⟨v4,p4,h⟩:=bs h
 refine j.cN (l:=[.tmp 10]) 1 (.cons T .nil) (zdd p4) [] [] λ _ _ _ _ j=>?_
 refine j.nmB (s:=11) 1 [] λ b6 j=>?_
 refine j.segA 1 [] [(5,1)] (λ j=>Kb ?_)
 refine Ka ?_
 refine j.segA 1 [] [(5,1),(12,1)] λ j=>?_
 have⟨v10,p10,h⟩:=bs h
 refine j.cSF (l:=[]) 1 (j.bkN (s:=5)) Z Z kN10 ((j.st.has 12 _ Z).1.trans (j.st.has 5 _ Z).1.symm) (by simp) .nil (zd7 p10) [] Z [] Z Z (by decide) λ j=>?_
 refine j.segA 1 [6] [(5,1)] (λ j=>Kb ?_)
 refine Ka ?_
 refine j.segA 1 [6] [(5,1),(14,1)] λ j=>?_
 have⟨v15,p15,h⟩:=bs h
 refine j.cSF (l:=[]) 1 (j.bkN (s:=5)) Z Z kN11 ((j.st.has 14 _ Z).1.trans (j.st.has 5 _ Z).1.symm) (by simp) .nil (zeu p15) [6] Z [] Z Z (by decide) λ j=>?_
 refine j.segA 1 [6,7] [(5,1)] (λ j=>Kb ?_)
 refine j.rgB (sc Z (wA (α:=Str) (e:=9) Z)<|segZ) [6,7] [(5,1),(8,0)] (λ j=>za ?_)
 have⟨o19,p19,k19⟩:=bs h
 refine wqj (λ a w=>∃ M1 Q R,Sx (Frm.of w0) 33 M M1 [oneB Q,R] [(6,dt v10.2),(7,dt v15.2)] [(8,0,dtip Q 9 o19)] a w) ?_ ?_
 ·refine Ka ?_
  refine j.segB 2 (sc Z (oM Z T)<|
   sc Z (yf (opds:=[.const (.int .i64 4),.const (.int .i64 6),.const (.int .i64 2),.const (.int .i64 0)]) Z Z Z (.cons cI (.cons cI (.cons cI (.cons cI .nil)))))<|.nil) [6,7,18] [(5,1),(8,0),(17,1)] (λ j=>?_)
  have⟨v22,p22,h⟩:=bs p19
  refine j.cSF (l:=[.tmp 18]) 1 (j.bkN (s:=5)) Z Z kN12 ((j.st.has 17 _ Z).1.trans (j.st.has 5 _ Z).1.symm) (by simp) (.cons T .nil) (jt p22) [6,7] Z [8] Z Z (by decide) λ j=>?_
  refine j.seg 1 (
   sc Z (oA Z T)<|.nil) [6,7,9] Z [(5,1),(8,0)] Z ⟨λ _ h=>h,⟨λ _ h=>(by cases h),trivial⟩⟩ (λ _ _ j=>?_)
  refine Kb ?_
  have j:=j.unm (s:=5) 1 [8]
  refine wql h (λ s26 a w=>∃ M1 Q R,Sx (Frm.of w0) 33 M M1 [oneB Q,R] [(6,dt v10.2),(7,dt v15.2),(9,dt s26.2.2)] [(8,0,dtip Q 9 s26.2.1),(5,1,dow oRd R ⟨s26.1⟩)] a w) fx ?_
  rintro s26 z26 _ _ ⟨_,Q,R,j⟩ hs26 hx26
  have h:yW s26=some z26:=hs26
  unfold yW at h
  refine j.rgA [6,7,9,21] [(5,1),(8,0)] λ j=>?_
  refine j.cq h (λ h=>?_) λ h=>?_
  ·refine Ka ?_
   refine j.nmB (s:=5) 1 [8] λ b31 j=>?_
   refine j.segB 3 (sc Z (oM Z T)<|
     sc Z (oM Z T)<|
     sc Z (yf (opds:=[_,_,_,_,_,_,_,_,_,_,_]) Z Z Z (.cons (zt) (.cons (zt) (.cons (zt) (.cons (zt) (.cons (zt) (.cons (zt) (.cons (zt) (.cons (zt) (.cons (zt) (.cons (zt) (.cons (zt) .nil))))))))))))<|.nil) [6,7,9,26] [(5,1),(8,0),(24,0),(25,1)] (λ j=>?_)
   have⟨v34,p34,h⟩:=bs h
   refine j.cSF (l:=[.tmp 26]) 1 (j.bkN (s:=5)) Z Z kN13 ((j.st.has 25 _ Z).1.trans (j.st.has 5 _ Z).1.symm) (by simp) (.cons T .nil) (wZ p34) [6,7,9] Z [8,24] Z Z (by decide) λ j=>?_
   refine j.seg 1 (
     sc Z (yf (opds:=[.tmp 27]) Z Z Z (.cons T .nil))<|.nil) [6,7,9,28] Z [(5,1),(8,0),(24,0)] Z ⟨λ _ h=>h,⟨λ _ h=>h,⟨λ _ h=>h,trivial⟩⟩⟩ (λ _ _ j=>?_)
   have⟨v39,p39,h⟩:=bs h
   refine j.apA 0 xv p39 [6,7,9] [5] λ g38 j=>?_
   refine j.segA 1 [6,7,9] [(5,1),(8,0)] (λ j=>Kb ?_)
   have⟨v42,p42,h⟩:=bs h
   refine j.rgA [6,7,9] [(5,1),(8,0)] λ j=>?_
   have j:=j.unm (s:=5) 1 [8]
   exact flz h
  have h:=lo h hx26
  cases h
  exact fz
 rintro _ _ ⟨_,Q,R,j⟩
 have h:=k19
 refine j.rgA [2,3] [(4,0)] λ j=>?_
 cases h
 exact j.ret3 (j.frozen (t:=2)) (j.frozen (t:=3)) (j.frozenT (t:=4) 0 Z (λ _ h=>h)) ⟨Z,Z,Z⟩
instance:Ct1 prog 4 dt (λ r=>dtup [dt r.1,dt r.2.1,dt r.2.2]) j0:=⟨λ h=>W4 h⟩
def xa(x0:Str)(s5:Int×Int):Option ((Int×Int)⊕Int):=
if(cmpI .lss s5.2 (x0.l.length:Int))=true then(Option.bind (α:=Int) ((atI x0.l s5.2).bind λ v11=>
if(cmpB .eql v11 (UInt8.ofNat 10))=true then((i64 (s5.1+(1:Int))).bind λ v16=>
some v16)
else(some s5.1)) λ o10=>
(i64 (s5.2+(1:Int))).bind λ v20=>
some (.inl (o10,v20)))
else(some (.inr s5.1))
def ZH(x0:Str):Option Int:=
Option.bind (α:=Int) (zP (λ s5=>xa x0 s5) ((0:Int),(0:Int))) λ o3=>
some o3
theorem QJ{x0:Str}{r:Int}(h:ZH x0=some r):Fn prog 8 [dt x0] (dt r):=by
 refine fq1 0 func8 λ M w0 _ j=>?_
 refine j.z1 λ j=>?_
 refine j.z1 (λ j=>za ?_)
 refine j.jm [] (λ o3=>[(3,dt o3)]) h (λ o3 p3=>?_) λ o3 _ _ j h=>?_
 ·refine j.z1 λ j=>?_
  refine wql p3 (λ s5 a w=>Sx (Frm.of w0) 18 M M [] [(0,dt x0),(3,dt s5.1),(4,dt s5.2)] [] a w) (j.sel0 [0,3,4]) ?_
  rintro s5 z5 _ _ j hs5 hx5
  have h:xa x0 s5=some z5:=hs5
  unfold xa at h
  refine j.zc h (λ j h=>?_) λ j h=>?_
  ·refine wqk ?_
   refine za ?_
   refine j.jm [0,4] (λ o10=>[(3,dt o10)]) h (λ o10 p10=>?_) λ o10 _ _ j h=>?_
   ·have⟨v11,p11,h⟩:=bs p10
    refine j.zc h (λ j h=>?_) λ j h=>?_
    ·have⟨v16,p16,h⟩:=bs h
     refine j.z1 λ j=>?_
     cases h
     exact fz
    cases h
    exact fz
   have⟨v20,p20,h⟩:=bs h
   exact j.zn [] h
  have h:=lo h hx5
  cases h
  exact fz
 exact j.ze h
instance:Ct1 prog 8 dt dt ZH:=⟨λ h=>QJ h⟩
end Go.Proofs.YtifgdhfcoaognaaGreatDoor
