import Derived.Test.YtdoidiipacdbpaaGreatDoorRB
import Derived.Test.YtdoidiipacdbpaaGreatDoorRO
import Derived.Test.YtdoidiipacdbpaaGreatDoorRKb
import Derived.Test.YtdoidiipacdbpaaGreatDoorRG
import Derived.Test.YtdoidiipacdbpaaGreatDoorRQ
namespace Go.Proofs.YtdoidiipacdbpaaGreatDoor
open Go.RowKit Tryz
attribute [local irreducible] OpRel OpdR
set_option maxRecDepth 10000
set_option maxHeartbeats 1600000
theorem kL57:isSl prog 57=true:=by kernel_rfl
theorem kB127:bldB prog 127 [1,1]=true:=by kernel_rfl
theorem kC127:Yz prog 127 [1,1]=some zpReader:=by kernel_rfl
theorem kD127_0:∀ {M:Nat->Prop} {look:Nat->Option Dt} {o:Oper} {q0:Operand} {y0:List UInt8},o.op=.build 127 #[(0,q0)]->OpdR M look q0 (dt y0)->OpRel prog M look o (dt (⟨y0,0⟩:Reader)):=@λ _ _ _ q0 y0 ho h0=>yw (parts:=[(0,q0)]) (ns:=[1,1]) (zs:=zpReader) rfl ho kB127 kC127 (λ w a hl=>by
 intro p hp;simp only[List.mem_cons,List.not_mem_nil,or_false] at hp
 rcases hp with rfl
 ·
  exact⟨(by decide:0<2),Rep.len (α:=List UInt8) (OpdR.cells h0 hl)⟩) (λ w a hl=>Reader.parts (x:=(⟨y0,0⟩:Reader)) (OpdR.cells h0 hl) ⟨rfl,trivial⟩)
theorem kF127_1:fldB prog 127 1 1=true:=by kernel_rfl
theorem WG:fldB prog 127 0 0=true:=by kernel_rfl
theorem kT57:tyB prog 57 false 1=true:=by kernel_rfl
theorem kT5:tyB prog 5 false 1=true:=by kernel_rfl
theorem kCv5_3:cvI prog 5 3=true:=by kernel_rfl
theorem kN70:fnB prog 70=true:=by kernel_rfl
theorem kD159_0_1:∀ {M:Nat->Prop} {look:Nat->Option Dt} {o:Oper} {q0 q1:Operand} {y0:Int} {y1:Str},o.op=.build 159 #[(0,q0),(1,q1)]->OpdR M look q0 (dt y0)->OpdR M look q1 (dt y1)->OpRel prog M look o (dt (⟨y0,y1,0,⟨[]⟩,0⟩:Stmt)):=@λ _ _ _ q0 q1 y0 y1 ho h0 h1=>yw (parts:=[(0,q0),(1,q1)]) (ns:=[1,1,1,1,1]) (zs:=zaA) rfl ho kB159 kC159 (λ w a hl=>by
 intro p hp;simp only[List.mem_cons,List.not_mem_nil,or_false] at hp
 rcases hp with rfl | rfl
 ·
  exact⟨(by decide:0<5),Rep.len (α:=Int) (OpdR.cells h0 hl)⟩
 ·
  exact⟨(by decide:1<5),Rep.len (α:=Str) (OpdR.cells h1 hl)⟩) (λ w a hl=>Stmt.parts (x:=(⟨y0,y1,0,⟨[]⟩,0⟩:Stmt)) (OpdR.cells h0 hl) (OpdR.cells h1 hl) ⟨rfl,trivial⟩ qn ⟨rfl,trivial⟩)
theorem kD159_0_1_2_3:∀ {M:Nat->Prop} {look:Nat->Option Dt} {o:Oper} {q0 q1 q2 q3:Operand} {y0:Int} {y1:Str} {y2:Int} {y3:Str},o.op=.build 159 #[(0,q0),(1,q1),(2,q2),(3,q3)]->OpdR M look q0 (dt y0)->OpdR M look q1 (dt y1)->OpdR M look q2 (dt y2)->OpdR M look q3 (dt y3)->OpRel prog M look o (dt (⟨y0,y1,y2,y3,0⟩:Stmt)):=@λ _ _ _ q0 q1 q2 q3 y0 y1 y2 y3 ho h0 h1 h2 h3=>yw (parts:=[(0,q0),(1,q1),(2,q2),(3,q3)]) (ns:=[1,1,1,1,1]) (zs:=zaA) rfl ho kB159 kC159 (λ w a hl=>by
 intro p hp;simp only[List.mem_cons,List.not_mem_nil,or_false] at hp
 rcases hp with rfl | rfl | rfl | rfl
 ·
  exact⟨(by decide:0<5),Rep.len (α:=Int) (OpdR.cells h0 hl)⟩
 ·
  exact⟨(by decide:1<5),Rep.len (α:=Str) (OpdR.cells h1 hl)⟩
 ·
  exact⟨(by decide:2<5),Rep.len (α:=Int) (OpdR.cells h2 hl)⟩
 ·
  exact⟨(by decide:3<5),Rep.len (α:=Str) (OpdR.cells h3 hl)⟩) (λ w a hl=>Stmt.parts (x:=(⟨y0,y1,y2,y3,0⟩:Stmt)) (OpdR.cells h0 hl) (OpdR.cells h1 hl) (OpdR.cells h2 hl) (OpdR.cells h3 hl) ⟨rfl,trivial⟩)
theorem Jq:∀ {M:Nat->Prop} {look:Nat->Option Dt} {o:Oper} {q0 q3 q4:Operand} {y0:Int} {y3:Str} {y4:Int},o.op=.build 159 #[(0,q0),(3,q3),(4,q4)]->OpdR M look q0 (dt y0)->OpdR M look q3 (dt y3)->OpdR M look q4 (dt y4)->OpRel prog M look o (dt (⟨y0,⟨[]⟩,0,y3,y4⟩:Stmt)):=@λ _ _ _ q0 q3 q4 y0 y3 y4 ho h0 h3 h4=>yw (parts:=[(0,q0),(3,q3),(4,q4)]) (ns:=[1,1,1,1,1]) (zs:=zaA) rfl ho kB159 kC159 (λ w a hl=>by
 intro p hp;simp only[List.mem_cons,List.not_mem_nil,or_false] at hp
 rcases hp with rfl | rfl | rfl
 ·
  exact⟨(by decide:0<5),Rep.len (α:=Int) (OpdR.cells h0 hl)⟩
 ·
  exact⟨(by decide:3<5),Rep.len (α:=Str) (OpdR.cells h3 hl)⟩
 ·
  exact⟨(by decide:4<5),Rep.len (α:=Int) (OpdR.cells h4 hl)⟩) (λ w a hl=>Stmt.parts (x:=(⟨y0,⟨[]⟩,0,y3,y4⟩:Stmt)) (OpdR.cells h0 hl) qn ⟨rfl,trivial⟩ (OpdR.cells h3 hl) (OpdR.cells h4 hl))
theorem kD159_0_3:∀ {M:Nat->Prop} {look:Nat->Option Dt} {o:Oper} {q0 q3:Operand} {y0:Int} {y3:Str},o.op=.build 159 #[(0,q0),(3,q3)]->OpdR M look q0 (dt y0)->OpdR M look q3 (dt y3)->OpRel prog M look o (dt (⟨y0,⟨[]⟩,0,y3,0⟩:Stmt)):=@λ _ _ _ q0 q3 y0 y3 ho h0 h3=>yw (parts:=[(0,q0),(3,q3)]) (ns:=[1,1,1,1,1]) (zs:=zaA) rfl ho kB159 kC159 (λ w a hl=>by
 intro p hp;simp only[List.mem_cons,List.not_mem_nil,or_false] at hp
 rcases hp with rfl | rfl
 ·
  exact⟨(by decide:0<5),Rep.len (α:=Int) (OpdR.cells h0 hl)⟩
 ·
  exact⟨(by decide:3<5),Rep.len (α:=Str) (OpdR.cells h3 hl)⟩) (λ w a hl=>Stmt.parts (x:=(⟨y0,⟨[]⟩,0,y3,0⟩:Stmt)) (OpdR.cells h0 hl) qn ⟨rfl,trivial⟩ (OpdR.cells h3 hl) ⟨rfl,trivial⟩)
instance iF127_0FdA:FldO prog 127 0 0:=⟨WG⟩
instance iF127_1FdA:FldO prog 127 1 1:=⟨kF127_1⟩
def jx(x0:List UInt8):Option Reader:=
Option.bind (α:=(List UInt8)) (if(cmpI .gtr (x0.length:Int) (2000:Int))=true then((ZQ x0 (2000:Int)).bind λ v6=>
some v6)
else(some x0)) λ o2=>
some (⟨o2,0⟩:Reader)
theorem Wl{x0:List UInt8}{r:Reader}(h:jx x0=some r):FnN prog 67 [dt x0] (.ow (Ow.box (Ow.frz (α:=Reader))) ⟨r⟩):=by
 unfold jx at h
 refine fnN (fn:=f67) 2 func67 rfl (oD rfl) rfl (λ M w0 _ st0=>?_)
 refine st0.sq2 (sc rfl (oA rfl opd_nilp)<|.nil) [0] (λ _ _ st1=>?_)
 obtain⟨o2,p2,k2⟩:=bs h
 refine zm (λ a w=>∃ M1 q2_0 q2_1,Sx (Frm.of w0) 11 M M1 [q2_0,q2_1] [(0,dt o2)] [] a w) ?_ ?_
 ·
  refine st1.sq1 [0,5] (λ _ _ st3=>?_)
  refine st3.cs rfl p2 (λ _ h4=>?_) (λ _ h5=>wp_skip (za ?_))
  ·
   obtain⟨v6,p6,h7⟩:=bs h4
   refine st3.rg2 (sP 1 (r:=by exact sc rfl (xSliH rfl kS57 (tp rfl) cI p6)<|segC)) [0] (λ _ _ st8=>za ?_)
   cases h7
   exact fx
  cases h5
  exact fx
 rintro a2 w2 ⟨M2,q2_0,q2_1,st2⟩
 have h9:=k2
 refine wp_seq (wp_region_list ?_)
 refine st2.segB 2 (sP 1 (r:=by exact sc rfl (kD127_0 rfl (tp rfl))<|.nil)) [9] [] (λ _ _ st10=>?_)
 refine st10.boxZ 0 rfl rfl (tp rfl) (by simp) [] rfl [] rfl rfl (λ b11 _ _ _ st11=>?_)
 refine st11.segA 1 [] [(2,0)] (λ _ _ st12=>wpList_nil (za (wp_ret ?_)))
 have st13:=st12.unm (s:=2) 0 rfl rfl iI [] rfl
 exact st13.rnO 0 rfl rfl iI (bx1 h9)
def zz(x0:Reader)(x1:Int):Option (Reader×Int):=
(i64 (x0.p+(1:Int))).bind λ v2=>
if(cmpI .lss x1 (1:Int)||cmpI .eql (x0.b.length:Int) (0:Int))=true then(some ({ x0 with p:=v2 },(0:Int)))
else((i64 (v2 - (1:Int))).bind λ v10=>
if(cmpI .lss v10 (x0.b.length:Int))=true then((atI x0.b v10).bind λ v16=>
(modO (v16.toNat:Int) x1).bind λ v17=>
some ({ x0 with p:=v2 },v17))
else((modO v10 (x0.b.length:Int)).bind λ v21=>
(atI x0.b v21).bind λ v22=>
(i64 ((v22.toNat:Int)*(131:Int))).bind λ v23=>
(i64 (v10*(7:Int))).bind λ v24=>
(i64 (v24+(3:Int))).bind λ v25=>
(modO v25 (x0.b.length:Int)).bind λ v26=>
(atI x0.b v26).bind λ v27=>
(i64 ((v27.toNat:Int)*(1117:Int))).bind λ v28=>
(i64 (v23+v28)).bind λ v29=>
(i64 (v10*(29:Int))).bind λ v30=>
(i64 (v29+v30)).bind λ v31=>
(divO v10 (x0.b.length:Int)).bind λ v32=>
(i64 (v32*(53:Int))).bind λ v33=>
(i64 (v31+v33)).bind λ v34=>
(divO v34 (64:Int)).bind λ v50=>
(modO (xorI v34 v50) x1).bind λ v53=>
some ({ x0 with p:=v2 },v53)))
theorem zH{x0:Reader}{x1:Int}{r:Reader×Int}(h:zz x0 x1=some r):FnS prog 70 (Ow.box (Ow.frz (α:=Reader))) ⟨x0⟩ [dt x1] ⟨r.1⟩ (.frz (dt r.2)):=by
 unfold zz at h
 refine fnSB (fn:=f70) 0 1 func70 rfl (oD rfl) rfl (λ M G _ b0 _ st0=>?_)
 refine st0.sqA [1] [(0,0)] (λ _ _ st1=>wp_seq (wp_region_list ?_))
 obtain⟨v2,p2,h3⟩:=bs h
 refine st1.segB 8 (sP 4 (r:=by exact sc rfl (xLf (sb:=0) ((PV.root.box rfl).fld Reader.z1) rfl kT3 (tp rfl) rfl)<|segC)) [1,12,14] [(0,0)] (λ _ _ st4=>?_)
 refine st4.sfA 0 0 ((PV.root.box rfl).fld Reader.z1) (tp rfl) (tp rfl) [1] [] (λ _ st5=>wpList_nil (za (wp_seq ?_)))
 refine st5.sqB (sc rfl (oM rfl (tp rfl))<|sc rfl (oCI rfl (tp rfl) cI)<|sc rfl (oM rfl (tp rfl))<|sg rfl rfl (λ hg=>oM rfl (zG rfl))<|sg rfl rfl (λ hg=>xNc rfl (ze hg rfl))<|sg rfl rfl (λ hg=>xFa rfl WG (ze hg rfl))<|sg rfl rfl (λ hg=>xLf (sb:=0) ((PV.root.box rfl).fld Reader.z0) rfl kT57 (ze hg rfl) rfl)<|sg rfl rfl (λ hg=>jJ rfl kL57 (ze hg rfl))<|sg rfl rfl (λ hg=>oCI rfl (ze hg rfl) cI)<|sc rfl (yU rfl (tp rfl) (zb rfl))<|.nil) [1,24] [(0,0)] (λ _ _ st6=>?_)
 refine st6.cs rfl h3 (λ _ h7=>?_) (λ _ h8=>wp_skip (za ?_))
 ·
  refine st6.sqA [4] [(0,0)] (λ _ _ st9=>wp_ret (zd ?_))
  exact st9.rsF (s:=0) 0 rfl rfl rfl iI (bxr h7) Xu
 obtain⟨v10,p10,h11⟩:=bs h8
 refine st6.sqB (sP 3 (r:=by exact sc rfl (xLf (sb:=0) ((PV.root.box rfl).fld Reader.z1) rfl kT3 (tp rfl) rfl)<|segC)) [1,5] [(0,0)] (λ _ _ st12=>wp_seq ?_)
 refine st12.sqB (sP 4 (r:=by exact sc rfl (xLf (sb:=0) ((PV.root.box rfl).fld Reader.z0) rfl kT57 (tp rfl) rfl)<|segC)) [1,5,36] [(0,0)] (λ _ _ st13=>?_)
 refine st13.cs rfl h11 (λ _ h14=>?_) (λ _ h15=>wp_skip (za (wp_seq ?_)))
 ·
  obtain⟨v16,p16,v17,p17,h19⟩:=bsB h14
  refine st13.sqB (sP 3 (r:=by exact sc rfl (xLf (sb:=0) ((PV.root.box rfl).fld Reader.z0) rfl kT57 (tp rfl) rfl)<|sP 3 (r:=by exact sc rfl (xCvI rfl kCv5_3 (tp rfl))<|sP 1 (r:=by exact sc rfl (xMod rfl (tp rfl) (tp rfl) p17)<|segC)))) [4] [(0,0)] (λ _ _ st20=>wp_ret (zd ?_))
  exact st20.rsF (s:=0) 0 rfl rfl rfl iI (bxr h19) Xu
 obtain⟨v21,p21,v22,p22,v23,p23,v24,p24,h38⟩:=bsD h15
 obtain⟨v25,p25,v26,p26,v27,p27,v28,p28,h42⟩:=bsD h38
 obtain⟨v29,p29,v30,p30,v31,p31,v32,p32,h46⟩:=bsD h42
 obtain⟨v33,p33,v34,p34,h48⟩:=bsB h46
 refine st13.drA (D:=[_,_,_,_,_,_,_,_,_,_,_,_,_,_,_,_,_,_,_,_,_,_,_,_,_,_,_,_,_,_,_,_,_,_,_,_,_,_,_,_,_,_,_,_,_,_]) zD [[(0,nS)],[(47,0)],[(48,1)],[(49,2),(0,nS)],[(5,nS)],[(0,nS)],[(52,5)],[(53,6)],[(54,7),(0,nS)],[(55,8)],[(51,4),(56,9)],[(50,3),(57,10)],[(58,11)],[(59,12)],[(60,13)],[(0,nS)],[(62,15)],[(63,16)],[(64,17),(0,nS)],[(5,nS)],[(66,19)],[(67,20)],[(0,nS)],[(69,22)],[(70,23)],[(71,24),(0,nS)],[(72,25)],[(68,21),(73,26)],[(65,18),(74,27)],[(75,28)],[(76,29)],[(77,30)],[(61,14),(78,31)],[(5,nS)],[(80,33)],[(79,32),(81,34)],[(5,nS)],[(0,nS)],[(84,37)],[(85,38)],[(86,39),(0,nS)],[(87,40)],[(83,36),(88,41)],[(89,42)],[(82,35),(90,43)],[(91,44)]] [1,6] [(0,0)] (λ _ _ st49=>?_) (hs:=rc rfl rfl (oM rfl (zG rfl))<|rc rfl rfl (xNc rfl (tp rfl))<|rc rfl rfl (xFa rfl WG (tp rfl))<|rc rfl rfl (xLf (sb:=0) ((PV.root.box rfl).fld Reader.z0) rfl kT57 (tp rfl) rfl)<|rc rfl rfl (oM rfl (tp rfl))<|rc rfl rfl (oM rfl (zG rfl))<|rc rfl rfl (xNc rfl (tp rfl))<|rc rfl rfl (xFa rfl WG (tp rfl))<|rc rfl rfl (xLf (sb:=0) ((PV.root.box rfl).fld Reader.z0) rfl kT57 (tp rfl) rfl)<|rc rfl rfl (jJ rfl kL57 (tp rfl))<|rc rfl rfl (xMod rfl (tp rfl) (tp rfl) p21)<|rc rfl rfl (xIdx rfl kS57 (tp rfl) (tp rfl) p22)<|rc rfl rfl (zp rfl kT5 (tp rfl))<|rc rfl rfl (xCvI rfl kCv5_3 (tp rfl))<|rc rfl rfl (xAr rfl (tp rfl) cI p23)<|rc rfl rfl (oM rfl (zG rfl))<|rc rfl rfl (xNc rfl (tp rfl))<|rc rfl rfl (xFa rfl WG (tp rfl))<|rc rfl rfl (xLf (sb:=0) ((PV.root.box rfl).fld Reader.z0) rfl kT57 (tp rfl) rfl)<|rc rfl rfl (oM rfl (tp rfl))<|rc rfl rfl (xAr rfl (tp rfl) cI p24)<|rc rfl rfl (xAr rfl (tp rfl) cI p25)<|rc rfl rfl (oM rfl (zG rfl))<|rc rfl rfl (xNc rfl (tp rfl))<|rc rfl rfl (xFa rfl WG (tp rfl))<|rc rfl rfl (xLf (sb:=0) ((PV.root.box rfl).fld Reader.z0) rfl kT57 (tp rfl) rfl)<|rc rfl rfl (jJ rfl kL57 (tp rfl))<|rc rfl rfl (xMod rfl (tp rfl) (tp rfl) p26)<|rc rfl rfl (xIdx rfl kS57 (tp rfl) (tp rfl) p27)<|rc rfl rfl (zp rfl kT5 (tp rfl))<|rc rfl rfl (xCvI rfl kCv5_3 (tp rfl))<|rc rfl rfl (xAr rfl (tp rfl) cI p28)<|rc rfl rfl (xAr rfl (tp rfl) (tp rfl) p29)<|rc rfl rfl (oM rfl (tp rfl))<|rc rfl rfl (xAr rfl (tp rfl) cI p30)<|rc rfl rfl (xAr rfl (tp rfl) (tp rfl) p31)<|rc rfl rfl (oM rfl (tp rfl))<|rc rfl rfl (oM rfl (zG rfl))<|rc rfl rfl (xNc rfl (tp rfl))<|rc rfl rfl (xFa rfl WG (tp rfl))<|rc rfl rfl (xLf (sb:=0) ((PV.root.box rfl).fld Reader.z0) rfl kT57 (tp rfl) rfl)<|rc rfl rfl (jJ rfl kL57 (tp rfl))<|rc rfl rfl (xDiv rfl (tp rfl) (tp rfl) p32)<|rc rfl rfl (xAr rfl (tp rfl) cI p33)<|rc rfl rfl (xAr rfl (tp rfl) (tp rfl) p34)<|rc rfl rfl (oA rfl (tp rfl))<|.nil)
 refine za ?_
 obtain⟨v50,p50,h51⟩:=bs h48
 refine st49.sqB (sP 2 (r:=by exact sc rfl (xDiv rfl (tp rfl) cI p50)<|sc rfl (xXor rfl (tp rfl) (tp rfl))<|segC)) [1,6] [(0,0)] (λ _ _ st52=>?_)
 obtain⟨v53,p53,h54⟩:=bs h51
 refine st52.sqB (sP 2 (r:=by exact sc rfl (xMod rfl (tp rfl) (tp rfl) p53)<|segC)) [4] [(0,0)] (λ _ _ st55=>wp_ret ?_)
 exact st55.rsF (s:=0) 0 rfl rfl rfl iI (bxr h54) Xu
def yF(x0:Reader)(x1:List Int):Option (Reader×Int):=
(zz x0 (x1.length:Int)).bind λ v4=>
(atI x1 v4.2).bind λ v6=>
some (v4.1,v6)
theorem xX{x0:Reader}{x1:List Int}{r:Reader×Int}(h:yF x0 x1=some r):FnS prog 113 (Ow.box (Ow.frz (α:=Reader))) ⟨x0⟩ [dt x1] ⟨r.1⟩ (.frz (dt r.2)):=by
 unfold yF at h
 refine fnSB (fn:=f113) 0 1 func113 rfl (oD rfl) rfl (λ M G _ b0 _ st0=>?_)
 refine st0.sqA [1] [(0,0)] (λ _ _ st1=>wp_seq (wp_region_list ?_))
 refine st1.segC 4 [5,6,8] [(0,0)] (λ _ _ st2=>?_)
 obtain⟨v4,p4,h5⟩:=bs h
 refine st2.cNA 0 0 (zH p4) [5] [] (λ _ _ _ _ st3=>?_)
 obtain⟨v6,p6,h7⟩:=bs h5
 refine st3.segA 3 [4] [(0,0)] (λ _ _ st8=>wpList_nil (za (wp_ret ?_)))
 exact st8.rsF (s:=0) 0 rfl rfl rfl iI (bxr h7) Xu
def xK(x0:Reader)(x1:List Str):Option (Reader×Str):=
(zz x0 (x1.length:Int)).bind λ v4=>
(atI x1 v4.2).bind λ v6=>
some (v4.1,v6)
theorem ZG{x0:Reader}{x1:List Str}{r:Reader×Str}(h:xK x0 x1=some r):FnS prog 117 (Ow.box (Ow.frz (α:=Reader))) ⟨x0⟩ [dt x1] ⟨r.1⟩ (.frz (dt r.2)):=by
 unfold xK at h
 refine fnSB (fn:=f117) 0 1 func117 rfl (oD rfl) rfl (λ M G _ b0 _ st0=>?_)
 refine st0.sqA [1] [(0,0)] (λ _ _ st1=>wp_seq (wp_region_list ?_))
 refine st1.segC 4 [5,6,8] [(0,0)] (λ _ _ st2=>?_)
 obtain⟨v4,p4,h5⟩:=bs h
 refine st2.cNA 0 0 (zH p4) [5] [] (λ _ _ _ _ st3=>?_)
 obtain⟨v6,p6,h7⟩:=bs h5
 refine st3.segA 3 [4] [(0,0)] (λ _ _ st8=>wpList_nil (za (wp_ret ?_)))
 exact st8.rsF (s:=0) 0 rfl rfl rfl iI (bxr h7) X9
def yJ(x0:Reader):Option (Reader×Str):=
(xK x0 ([(⟨[97]⟩:Str),(⟨[98]⟩:Str),(⟨[99]⟩:Str),(⟨[97]⟩:Str),(⟨[98]⟩:Str)]:List Str)).bind λ v4=>
some (v4.1,v4.2)
theorem wM{x0:Reader}{r:Reader×Str}(h:yJ x0=some r):FnS prog 151 (Ow.box (Ow.frz (α:=Reader))) ⟨x0⟩ [] ⟨r.1⟩ (.frz (dt r.2)):=by
 unfold yJ at h
 refine fnSB (fn:=f151) 0 1 func151 rfl (oD rfl) rfl (λ M G _ b0 _ st0=>?_)
 refine st0.sqA [] [(0,0)] (λ _ _ st1=>wp_seq (wp_region_list ?_))
 refine st1.segB 2 (sP 1 (r:=by exact sc rfl (yG (opds:=[_,_,_,_,_]) rfl kS75 kY75 rfl rfl (by decide) (.cons (zQ (by decide)) (.cons (zQ (by decide)) (.cons (zQ (by decide)) (.cons (zQ (by decide)) (.cons (zQ (by decide)) .nil))))))<|.nil)) [3,4] [(0,0)] (λ _ _ st2=>?_)
 obtain⟨v4,p4,h5⟩:=bs h
 refine st2.cNA 0 0 (ZG p4) [] [] (λ _ _ _ _ st3=>?_)
 refine st3.segA 1 [2] [(0,0)] (λ _ _ st6=>wpList_nil (za (wp_ret ?_)))
 exact st6.rsF (s:=0) 0 rfl rfl rfl iI (bxr h5) X9
def jb(s13:Reader×Str×Int):Option ((Reader×Str×Int)⊕(Reader×Str)):=
if(cmpI .gtr s13.2.2 (0:Int))=true then((catO s13.2.1 (⟨[46]⟩:Str)).bind λ v18=>
(yJ s13.1).bind λ v22=>
(catO v18 v22.2).bind λ v24=>
(i64 (s13.2.2 - (1:Int))).bind λ v27=>
some (.inl (v22.1,v24,v27)))
else(some (.inr (s13.1,s13.2.1)))
def xY(x0:Reader):Option (Reader×Str):=
(yJ x0).bind λ v4=>
Option.bind (α:=Reader×Str) ((yF v4.1 ([(0:Int),(1:Int),(0:Int),(1:Int),(2:Int)]:List Int)).bind λ v10=>
zS (λ s13=>jb s13) (v10.1,v4.2,v10.2)) λ o7=>
some (o7.1,o7.2)
theorem j7{x0:Reader}{r:Reader×Str}(h:xY x0=some r):FnS prog 116 (Ow.box (Ow.frz (α:=Reader))) ⟨x0⟩ [] ⟨r.1⟩ (.frz (dt r.2)):=by
 unfold xY at h
 refine fnSB (fn:=f116) 0 1 func116 rfl (oD rfl) rfl (λ M G w0 b0 _ st0=>?_)
 refine st0.sqA [] [(0,0)] (λ _ _ st1=>wp_seq (wp_region_list ?_))
 refine st1.segC 1 [5] [(0,0)] (λ _ _ st2=>?_)
 obtain⟨v4,p4,h5⟩:=bs h
 refine st2.cNA 0 0 (wM p4) [] [] (λ _ _ _ _ st3=>?_)
 refine st3.segA 1 [3] [(0,0)] (λ _ _ st6=>wpList_nil (za ?_))
 obtain⟨o7,p7,k7⟩:=bs h5
 refine zm (λ a w=>∃ M1 q7_0,Sx (Frm.chg w0 G) 20 M M1 [q7_0] [(3,dt o7.2)] [(0,0,dnm (Ow.box (Ow.frz (α:=Reader))) q7_0 ⟨o7.1⟩ (.pointer (some ⟨b0,0,none⟩)) [])] a w) ?_ ?_
 ·
  refine wp_seq (wp_region_list ?_)
  refine st6.segB 2 (sP 1 (r:=by exact sc rfl (yG (opds:=[.const (.int .i64 0),.const (.int .i64 1),.const (.int .i64 0),.const (.int .i64 1),.const (.int .i64 2)]) rfl kS30 kY30 rfl rfl (by decide) (.cons cI (.cons cI (.cons cI (.cons cI (.cons cI .nil))))))<|.nil)) [3,7,8] [(0,0)] (λ _ _ st8=>?_)
  obtain⟨v10,p10,h11⟩:=bs p7
  refine st8.cNA 0 0 (xX p10) [3] [] (λ _ _ _ _ st9=>?_)
  refine st9.segA 1 [3,4] [(0,0)] (λ _ _ st12=>wpList_nil (za (wp_block ?_)))
  refine zL h11 (λ s13 a w=>∃ M1 q13_0,Sx (Frm.chg w0 G) 20 M M1 [q13_0] [(3,dt s13.2.1),(4,dt s13.2.2)] [(0,0,dnm (Ow.box (Ow.frz (α:=Reader))) q13_0 ⟨s13.1⟩ (.pointer (some ⟨b0,0,none⟩)) [])] a w) fx ?_
  rintro s13 z13 a13 w13 ⟨M13,q13_0,st13⟩ hs13 hx13
  have h14:jb s13=some z13:=hs13
  unfold jb at h14
  refine wp_seq ?_
  refine st13.sqA [3,4,11] [(0,0)] (λ _ _ st15=>?_)
  refine st15.cs rfl h14 (λ _ h16=>wp_skip (za (wp_seq (wp_block (wp_region_list ?_))))) (λ _ h17=>wp_exit (zh (zh (zE ?_))))
  ·
   obtain⟨v18,p18,h19⟩:=bs h16
   refine st15.segB 3 (sP 1 (r:=by exact sc rfl (xCat rfl (tp rfl) (zQ (by decide)) p18)<|segC)) [3,4,15,16] [(0,0)] (λ _ _ st20=>?_)
   obtain⟨v22,p22,h23⟩:=bs h19
   refine st20.cNA 0 0 (wM p22) [3,4,15] [] (λ _ _ _ _ st21=>?_)
   obtain⟨v24,p24,h25⟩:=bs h23
   refine st21.segA 2 [3,4] [(0,0)] (λ _ _ st26=>wpList_nil (zg (za ?_)))
   obtain⟨v27,p27,h28⟩:=bs h25
   refine st26.rgA [3,4] [(0,0)] (λ _ _ st29=>za ?_)
   exact fl h28
  refine za ?_
  have h30:=lo h17 hx13
  cases h30
  exact fx
 rintro a7 w7 ⟨M7,q7_0,st7⟩
 have h31:=k7
 refine st7.sqA [2] [(0,0)] (λ _ _ st32=>wp_ret ?_)
 exact st32.rsF (s:=0) 0 rfl rfl rfl iI (bxr h31) X9
def jH(x0:Reader):Option (Reader×Str):=
(xY x0).bind λ v4=>
(zz v4.1 (20:Int)).bind λ v9=>
if(cmpI .eql v9.2 (0:Int))=true then((catO v4.2 (⟨[46]⟩:Str)).bind λ v14=>
some (v9.1,v14))
else(if(cmpI .eql v9.2 (1:Int))=true then((xK v9.1 ([(⟨[]⟩:Str),(⟨[97,46,46,98]⟩:Str),(⟨[97,46,98,46,99,46,100]⟩:Str),(⟨[65]⟩:Str),(⟨[97,98,99,100]⟩:Str)]:List Str)).bind λ v22=>
some (v22.1,v22.2))
else(some (v9.1,v4.2)))
theorem zbI{x0:Reader}{r:Reader×Str}(h:jH x0=some r):FnS prog 72 (Ow.box (Ow.frz (α:=Reader))) ⟨x0⟩ [] ⟨r.1⟩ (.frz (dt r.2)):=by
 unfold jH at h
 refine fnSB (fn:=f72) 0 1 func72 rfl (oD rfl) rfl (λ M G _ b0 _ st0=>?_)
 refine st0.sqA [] [(0,0)] (λ _ _ st1=>wp_seq (wp_region_list ?_))
 refine st1.segC 1 [4] [(0,0)] (λ _ _ st2=>?_)
 obtain⟨v4,p4,h5⟩:=bs h
 refine st2.cNA 0 0 (j7 p4) [] [] (λ _ _ _ _ st3=>?_)
 refine st3.segA 1 [3] [(0,0)] (λ _ _ st6=>wpList_nil (za (wp_seq (wp_seq (wp_region_list ?_)))))
 refine st6.segC 1 [3,6] [(0,0)] (λ _ _ st7=>?_)
 obtain⟨v9,p9,h10⟩:=bs h5
 refine st7.cNA 0 0 (zH p9) [3] [] (λ _ _ _ _ st8=>wpList_nil (za (wp_block ?_)))
 refine st8.sqA [3,7,8] [(0,0)] (λ _ _ st11=>?_)
 refine st11.cs rfl h10 (λ _ h12=>?_) (λ _ h13=>?_)
 ·
  obtain⟨v14,p14,h15⟩:=bs h12
  refine st11.sqB (sP 1 (r:=by exact sc rfl (xCat rfl (tp rfl) (zQ (by decide)) p14)<|segC)) [2] [(0,0)] (λ _ _ st16=>wp_ret (zt (zd ?_)))
  exact st16.rsF (s:=0) 0 rfl rfl rfl iI (bxr h15) X9
 refine st11.sqA [3,12] [(0,0)] (λ _ _ st17=>?_)
 refine st17.cs rfl h13 (λ _ h18=>wp_seq (wp_region_list ?_)) (λ _ h19=>wp_skip (zg (za ?_)))
 ·
  refine st17.segB 2 (sP 1 (r:=by exact sc rfl (yG (opds:=[_,_,_,_,_]) rfl kS75 kY75 rfl rfl (by decide) (.cons (zQ (by decide)) (.cons (zQ (by decide)) (.cons (zQ (by decide)) (.cons (zQ (by decide)) (.cons (zQ (by decide)) .nil))))))<|.nil)) [14,15] [(0,0)] (λ _ _ st20=>?_)
  obtain⟨v22,p22,h23⟩:=bs h18
  refine st20.cNA 0 0 (ZG p22) [] [] (λ _ _ _ _ st21=>?_)
  refine st21.segA 1 [2] [(0,0)] (λ _ _ st24=>wpList_nil (za ?_))
  refine wp_ret (zt (zd ?_))
  exact st24.rsF (s:=0) 0 rfl rfl rfl iI (bxr h23) X9
 refine st17.sqA [2] [(0,0)] (λ _ _ st25=>wp_ret ?_)
 exact st25.rsF (s:=0) 0 rfl rfl rfl iI (bxr h19) X9
def qX(x0:Reader):Option (Reader×Stmt):=
(zz x0 (9:Int)).bind λ v5=>
Option.bind (α:=Bool) (if(cmpI .eql v5.2 (0:Int))=true then(some (cmpI .eql v5.2 (0:Int)))
else(some (cmpI .eql v5.2 (1:Int)))) λ o7=>
if o7=true then((xY v5.1).bind λ v17=>
some (v17.1,(⟨(0:Int),v17.2,0,⟨[]⟩,0⟩:Stmt)))
else(if(cmpI .eql v5.2 (2:Int))=true then((yF v5.1 ([(0:Int),(1:Int),(2:Int),(1:Int)]:List Int)).bind λ v27=>
(xY v27.1).bind λ v32=>
Option.bind (α:=Reader×Str) ((gO (cmpI .gtr v27.2 (0:Int) == true) (zz v32.1 (2:Int))).bind λ v38=>
if(cmpI .gtr v27.2 (0:Int)&&cmpI .eql v38.2 (0:Int))=true then(some ((if(cmpI .gtr v27.2 (0:Int) == true)=true then v38.1 else v32.1),(⟨[]⟩:Str)))
else(some ((if(cmpI .gtr v27.2 (0:Int) == true)=true then v38.1 else v32.1),v32.2))) λ o35=>
(yJ o35.1).bind λ v47=>
some (v47.1,(⟨(1:Int),o35.2,v27.2,v47.2,0⟩:Stmt)))
else(if(cmpI .eql v5.2 (3:Int))=true then((xY v5.1).bind λ v57=>
some (v57.1,(⟨(2:Int),v57.2,0,⟨[]⟩,0⟩:Stmt)))
else(Option.bind (α:=Bool) (if(cmpI .eql v5.2 (4:Int))=true then(some (cmpI .eql v5.2 (4:Int)))
else(if(cmpI .eql v5.2 (5:Int))=true then(some (cmpI .eql v5.2 (5:Int)))
else(some (cmpI .eql v5.2 (6:Int))))) λ o62=>
if o62=true then((xK v5.1 ([(⟨[120]⟩:Str),(⟨[121]⟩:Str),(⟨[122]⟩:Str),(⟨[97]⟩:Str)]:List Str)).bind λ v75=>
(zz v75.1 (100:Int)).bind λ v79=>
some (v79.1,(⟨(3:Int),⟨[]⟩,0,v75.2,v79.2⟩:Stmt)))
else(if(cmpI .eql v5.2 (7:Int))=true then((xK v5.1 ([(⟨[120]⟩:Str),(⟨[121]⟩:Str),(⟨[97]⟩:Str),(⟨[98]⟩:Str),(⟨[120]⟩:Str)]:List Str)).bind λ v89=>
some (v89.1,(⟨(4:Int),⟨[]⟩,0,v89.2,0⟩:Stmt)))
else((zz v5.1 (3:Int)).bind λ v96=>
if(cmpI .eql v96.2 (0:Int))=true then(some (v96.1,(⟨(5:Int),⟨[]⟩,0,⟨[]⟩,0⟩:Stmt)))
else((zz v96.1 (100:Int)).bind λ v106=>
some (v106.1,(⟨(3:Int),⟨[]⟩,0,(⟨[120]⟩:Str),v106.2⟩:Stmt))))))))
theorem zbq{x0:Reader}{r:Reader×Stmt}(h:qX x0=some r):FnS prog 185 (Ow.box (Ow.frz (α:=Reader))) ⟨x0⟩ [] ⟨r.1⟩ (.frz (dt r.2)):=by
 unfold qX at h
 refine fnSB (fn:=f185) 0 2 func185 rfl (oD rfl) rfl (λ M G w0 b0 _ st0=>wp_seq (wp_region_list ?_))
 refine st0.alA 1 zrStmt [] [0] (λ b2 _ _ _ st2=>wpList_nil (za (wp_seq (wp_seq (wp_region_list ?_)))))
 refine st2.segC 1 [5] [(0,0),(2,1)] (λ _ _ st3=>?_)
 obtain⟨v5,p5,h6⟩:=bs h
 refine st3.cNA 0 0 (zH p5) [] [2] (λ _ _ _ _ st4=>wpList_nil (za (wp_block ?_)))
 obtain⟨o7,p7,k7⟩:=bs h6
 refine zm (λ a w=>∃ M1 q7_0 q7_1,Sx (Frm.chg w0 G) 60 M M1 [q7_0,oneB q7_1] [(6,dt v5.2),(7,dt o7)] [(2,1,dbox q7_1 0 zStmt),(0,0,dnm (Ow.box (Ow.frz (α:=Reader))) q7_0 ⟨v5.1⟩ (.pointer (some ⟨b0,0,none⟩)) [])] a w) ?_ ?_
 ·
  refine st4.sqA [6,7] [(0,0),(2,1)] (λ _ _ st8=>?_)
  refine st8.cs rfl p7 (λ _ h9=>wp_skip (za ?_)) (λ _ h10=>?_)
  ·
   cases h9
   exact fx
  refine st8.rgA [6,7] [(0,0),(2,1)] (λ _ _ st11=>za ?_)
  cases h10
  exact fx
 rintro a7 w7 ⟨M7,q7_0,q7_1,st7⟩
 have h12:=k7
 refine st7.cs rfl h12 (λ _ h13=>wp_seq (wp_region_list ?_)) (λ _ h14=>?_)
 ·
  refine st7.segC 1 [10] [(0,0),(2,1)] (λ _ _ st15=>?_)
  obtain⟨v17,p17,h18⟩:=bs h13
  refine st15.cNA 0 0 (j7 p17) [] [2] (λ _ _ _ _ st16=>?_)
  refine st16.segB 1 (sc rfl (kD159_0_1 rfl cI (tp rfl))<|.nil) [12] [(0,0),(2,1)] (λ _ _ st19=>?_)
  refine st19.stA 2 1 FldS.id (tp rfl) [] [0] (λ _ _ st21=>wpList_nil (za ?_))
  refine wp_ret (zt (zd ?_))
  exact st21.rsC (s:=0) 0 rfl kT159 rfl rfl iI (bxr h18)
 refine st7.sqA [6,13] [(0,0),(2,1)] (λ _ _ st22=>?_)
 refine st22.cs rfl h14 (λ _ h23=>wp_seq (wp_region_list ?_)) (λ _ h24=>?_)
 ·
  refine st22.segB 2 (sP 1 (r:=by exact sc rfl (yG (opds:=[.const (.int .i64 0),.const (.int .i64 1),.const (.int .i64 2),.const (.int .i64 1)]) rfl kS30 kY30 rfl rfl (by decide) (.cons cI (.cons cI (.cons cI (.cons cI .nil)))))<|.nil)) [15,16] [(0,0),(2,1)] (λ _ _ st25=>?_)
  obtain⟨v27,p27,h28⟩:=bs h23
  refine st25.cNA 0 0 (xX p27) [] [2] (λ _ _ _ _ st26=>?_)
  refine st26.segA 1 [3] [(0,0),(2,1)] (λ _ _ st29=>wpList_nil (za (wp_seq (wp_region_list ?_))))
  refine st29.segC 1 [3,18] [(0,0),(2,1)] (λ _ _ st30=>?_)
  obtain⟨v32,p32,h33⟩:=bs h28
  refine st30.cNA 0 0 (j7 p32) [3] [2] (λ _ _ _ _ st31=>?_)
  refine st31.segA 1 [3,4] [(0,0),(2,1)] (λ _ _ st34=>wpList_nil (za ?_))
  obtain⟨o35,p35,k35⟩:=bs h33
  refine zm (λ a w=>∃ M1 q35_0 q35_1,Sx (Frm.chg w0 G) 60 M M1 [q35_0,oneB q35_1] [(3,dt v27.2),(4,dt o35.2)] [(2,1,dbox q35_1 0 zStmt),(0,0,dnm (Ow.box (Ow.frz (α:=Reader))) q35_0 ⟨o35.1⟩ (.pointer (some ⟨b0,0,none⟩)) [])] a w) ?_ ?_
  ·
   refine wp_seq (wp_region_list ?_)
   refine st34.segB 4 (sc rfl (oM rfl (tp rfl))<|sc rfl (oCI rfl (tp rfl) cI)<|sc rfl (oM rfl (tp rfl))<|sg rfl rfl (λ hg=>oM rfl (zG rfl))<|.nil) [3,4,22,23] [(0,0),(2,1)] (λ _ _ st36=>?_)
   obtain⟨v38,p38,h39⟩:=bs p35
   refine st36.cSFgB (sb:=0) (l:=[.const (.int .i64 2)]) 0 rfl iI rfl rfl rfl kN70 (λ hg=>(st36.st.has 23 _ rfl).1 hg) (by simp) (λ hg=>(.cons cI .nil)) (λ hg=>zH (gh hg p38)) [3,4,22] rfl [2] rfl rfl (by decide) (λ _ _ _ _ st37=>?_)
   refine st37.segC 2 [3,4,26] [(0,0),(2,1)] (λ _ _ st40=>wpList_nil (za ?_))
   refine st40.cs rfl h39 (λ _ h41=>?_) (λ _ h42=>wp_skip (za ?_))
   ·
    refine st40.rgA [3,4] [(0,0),(2,1)] (λ _ _ st43=>za ?_)
    cases h41
    exact fx
   cases h42
   exact fx
  rintro a35 w35 ⟨M35,q35_0,q35_1,st35⟩
  have h44:=k35
  refine wp_seq (wp_region_list ?_)
  refine st35.segC 3 [27,28,29] [(0,0),(2,1)] (λ _ _ st45=>?_)
  obtain⟨v47,p47,h48⟩:=bs h44
  refine st45.cNA 0 0 (wM p47) [27,28] [2] (λ _ _ _ _ st46=>?_)
  refine st46.segB 1 (sc rfl (kD159_0_1_2_3 rfl cI (tp rfl) (tp rfl) (tp rfl))<|.nil) [31] [(0,0),(2,1)] (λ _ _ st49=>?_)
  refine st49.stA 2 1 FldS.id (tp rfl) [] [0] (λ _ _ st51=>wpList_nil (za ?_))
  refine wp_ret (zt (zd ?_))
  exact st51.rsC (s:=0) 0 rfl kT159 rfl rfl iI (bxr h48)
 refine st22.sqA [6,32] [(0,0),(2,1)] (λ _ _ st52=>?_)
 refine st52.cs rfl h24 (λ _ h53=>wp_seq (wp_region_list ?_)) (λ _ h54=>?_)
 ·
  refine st52.segC 1 [34] [(0,0),(2,1)] (λ _ _ st55=>?_)
  obtain⟨v57,p57,h58⟩:=bs h53
  refine st55.cNA 0 0 (j7 p57) [] [2] (λ _ _ _ _ st56=>?_)
  refine st56.segB 1 (sc rfl (kD159_0_1 rfl cI (tp rfl))<|.nil) [36] [(0,0),(2,1)] (λ _ _ st59=>?_)
  refine st59.stA 2 1 FldS.id (tp rfl) [] [0] (λ _ _ st61=>wpList_nil (za ?_))
  refine wp_ret (zt (zd ?_))
  exact st61.rsC (s:=0) 0 rfl kT159 rfl rfl iI (bxr h58)
 obtain⟨o62,p62,k62⟩:=bs h54
 refine zm (λ a w=>∃ M1 q62_0 q62_1,Sx (Frm.chg w0 G) 60 M M1 [q62_0,oneB q62_1] [(6,dt v5.2),(37,dt o62)] [(2,1,dbox q62_1 0 zStmt),(0,0,dnm (Ow.box (Ow.frz (α:=Reader))) q62_0 ⟨v5.1⟩ (.pointer (some ⟨b0,0,none⟩)) [])] a w) ?_ ?_
 ·
  refine st52.sqA [6,37] [(0,0),(2,1)] (λ _ _ st63=>?_)
  refine st63.cs rfl p62 (λ _ h64=>wp_skip (za ?_)) (λ _ h65=>?_)
  ·
   cases h64
   exact fx
  refine st63.sqA [6,37] [(0,0),(2,1)] (λ _ _ st66=>?_)
  refine st66.cs rfl h65 (λ _ h67=>wp_skip (za ?_)) (λ _ h68=>?_)
  ·
   cases h67
   exact fx
  refine st66.rgA [6,37] [(0,0),(2,1)] (λ _ _ st69=>za ?_)
  cases h68
  exact fx
 rintro a62 w62 ⟨M62,q62_0,q62_1,st62⟩
 have h70:=k62
 refine st62.cs rfl h70 (λ _ h71=>wp_seq (wp_region_list ?_)) (λ _ h72=>?_)
 ·
  refine st62.segB 2 (sP 1 (r:=by exact sc rfl (yG (opds:=[_,_,_,_]) rfl kS75 kY75 rfl rfl (by decide) (.cons (zQ (by decide)) (.cons (zQ (by decide)) (.cons (zQ (by decide)) (.cons (zQ (by decide)) .nil)))))<|.nil)) [41,42] [(0,0),(2,1)] (λ _ _ st73=>?_)
  obtain⟨v75,p75,h76⟩:=bs h71
  refine st73.cNA 0 0 (ZG p75) [] [2] (λ _ _ _ _ st74=>?_)
  refine st74.segC 1 [43,44] [(0,0),(2,1)] (λ _ _ st77=>?_)
  obtain⟨v79,p79,h80⟩:=bs h76
  refine st77.cNA 0 0 (zH p79) [43] [2] (λ _ _ _ _ st78=>?_)
  refine st78.segB 1 (sc rfl (Jq rfl cI (tp rfl) (tp rfl))<|.nil) [46] [(0,0),(2,1)] (λ _ _ st81=>?_)
  refine st81.stA 2 1 FldS.id (tp rfl) [] [0] (λ _ _ st83=>wpList_nil (za ?_))
  refine wp_ret (zt (zd ?_))
  exact st83.rsC (s:=0) 0 rfl kT159 rfl rfl iI (bxr h80)
 refine st62.sqA [47] [(0,0),(2,1)] (λ _ _ st84=>?_)
 refine st84.cs rfl h72 (λ _ h85=>wp_seq (wp_region_list ?_)) (λ _ h86=>wp_skip (zg (za (wp_seq (wp_seq (wp_region_list ?_))))))
 ·
  refine st84.segB 2 (sP 1 (r:=by exact sc rfl (yG (opds:=[_,_,_,_,_]) rfl kS75 kY75 rfl rfl (by decide) (.cons (zQ (by decide)) (.cons (zQ (by decide)) (.cons (zQ (by decide)) (.cons (zQ (by decide)) (.cons (zQ (by decide)) .nil))))))<|.nil)) [49,50] [(0,0),(2,1)] (λ _ _ st87=>?_)
  obtain⟨v89,p89,h90⟩:=bs h85
  refine st87.cNA 0 0 (ZG p89) [] [2] (λ _ _ _ _ st88=>?_)
  refine st88.segB 1 (sc rfl (kD159_0_3 rfl cI (tp rfl))<|.nil) [52] [(0,0),(2,1)] (λ _ _ st91=>?_)
  refine st91.stA 2 1 FldS.id (tp rfl) [] [0] (λ _ _ st93=>wpList_nil (za ?_))
  refine wp_ret (zt (zd ?_))
  exact st93.rsC (s:=0) 0 rfl kT159 rfl rfl iI (bxr h90)
 refine st84.segC 1 [53] [(0,0),(2,1)] (λ _ _ st94=>?_)
 obtain⟨v96,p96,h97⟩:=bs h86
 refine st94.cNA 0 0 (zH p96) [] [2] (λ _ _ _ _ st95=>?_)
 refine st95.segA 1 [55] [(0,0),(2,1)] (λ _ _ st98=>wpList_nil (za ?_))
 refine st98.cs rfl h97 (λ _ h99=>wp_seq (wp_region_list ?_)) (λ _ h100=>wp_skip (za (wp_seq (wp_region_list ?_))))
 ·
  refine st98.segB 1 (sc rfl (kD159_0 rfl cI)<|.nil) [56] [(0,0),(2,1)] (λ _ _ st101=>?_)
  refine st101.stA 2 1 FldS.id (tp rfl) [] [0] (λ _ _ st103=>wpList_nil (za ?_))
  refine wp_ret (zd ?_)
  exact st103.rsC (s:=0) 0 rfl kT159 rfl rfl iI (bxr h99)
 refine st98.segC 1 [57] [(0,0),(2,1)] (λ _ _ st104=>?_)
 obtain⟨v106,p106,h107⟩:=bs h100
 refine st104.cNA 0 0 (zH p106) [] [2] (λ _ _ _ _ st105=>?_)
 refine st105.segB 1 (sc rfl (Jq rfl cI (zQ (by decide)) (tp rfl))<|.nil) [59] [(0,0),(2,1)] (λ _ _ st108=>?_)
 refine st108.stA 2 1 FldS.id (tp rfl) [] [0] (λ _ _ st110=>wpList_nil (za (wp_ret ?_)))
 exact st110.rsC (s:=0) 0 rfl kT159 rfl rfl iI (bxr h107)
open Go.RowKit Tryz
set_option maxRecDepth 10000
set_option maxHeartbeats 1600000
theorem kN169:fnB prog 169=true:=by kernel_rfl
theorem kS129:slB prog 129 1=true:=by kernel_rfl
theorem kY129:zlB prog 129=true:=by kernel_rfl
instance iF72_1FdB:FldO prog 72 1 1:=⟨Jf⟩
def wG(v5:Reader×Int)(s14:Reader×(List Stmt)×Int):Option ((Reader×(List Stmt)×Int)⊕(Reader×(List Stmt))):=
if(cmpI .gtr s14.2.2 (0:Int))=true then((qX s14.1).bind λ v21=>
Option.bind (α:=Reader×Stmt) (if(cmpI .eql v5.2 (0:Int)&&((cmpI .eql v21.2.kind (1:Int)||cmpI .eql v21.2.kind (4:Int))||cmpI .eql v21.2.kind (5:Int)))=true then((zz v21.1 (100:Int)).bind λ v33=>
some (v33.1,(⟨(3:Int),⟨[]⟩,0,(⟨[121]⟩:Str),v33.2⟩:Stmt)))
else(some (v21.1,v21.2))) λ o27=>
(appO 56 s14.2.1 ([o27.2]:List Stmt)).bind λ v42=>
(i64 (s14.2.2 - (1:Int))).bind λ v45=>
some (.inl (o27.1,v42,v45)))
else(some (.inr (s14.1,s14.2.1)))
def qY(x0:Reader):Option (Reader×(List Stmt)):=
(zz x0 (2:Int)).bind λ v5=>
Option.bind (α:=Reader×(List Stmt)) ((yF v5.1 ([(2:Int),(1:Int),(3:Int),(0:Int),(4:Int)]:List Int)).bind λ v11=>
zS (λ s14=>wG v5 s14) (v11.1,[],v11.2)) λ o8=>
some (o8.1,o8.2)
theorem zbr{x0:Reader}{r:Reader×(List Stmt)}(h:qY x0=some r):FnS prog 169 (Ow.box (Ow.frz (α:=Reader))) ⟨x0⟩ [] ⟨r.1⟩ (.ow (Ow.row 159 (Ow.frz (α:=Stmt))) r.2):=by
 unfold qY at h
 refine fnSB (fn:=f169) 1 3 func169 rfl (oD rfl) rfl (λ M G w0 b0 _ st0=>?_)
 refine st0.sqB (sc rfl (oA rfl (Zl (α:=Stmt) (e:=159)))<|.nil) [] [(0,1)] (λ _ _ st1=>?_)
 refine st1.sqB (sc rfl (wT (α:=Stmt) (e:=159) rfl kS70)<|segC) [] [(0,1),(3,0)] (λ _ _ st2=>wp_seq (wp_region_list ?_))
 refine st2.segC 1 [8] [(0,1),(3,0)] (λ _ _ st3=>?_)
 obtain⟨v5,p5,h6⟩:=bs h
 refine st3.cNA 1 0 (zH p5) [] [3] (λ _ _ _ _ st4=>?_)
 refine st4.segA 2 [4] [(0,1),(3,0)] (λ _ _ st7=>wpList_nil (za ?_))
 obtain⟨o8,p8,k8⟩:=bs h6
 refine zm (λ a w=>∃ M1 q8_0 q8_1 q8_2,Sx (Frm.chg w0 G) 44 M M1 [oneB q8_0,q8_1,oneB q8_2] [] [(3,0,dtip q8_0 159 o8.2),(0,1,dnm (Ow.box (Ow.frz (α:=Reader))) q8_1 ⟨o8.1⟩ (.pointer (some ⟨b0,0,none⟩)) [])] a w) ?_ ?_
 ·
  refine wp_seq (wp_region_list ?_)
  refine st7.segB 2 (sP 1 (r:=by exact sc rfl (yG (opds:=[.const (.int .i64 2),.const (.int .i64 1),.const (.int .i64 3),.const (.int .i64 0),.const (.int .i64 4)]) rfl kS30 kY30 rfl rfl (by decide) (.cons cI (.cons cI (.cons cI (.cons cI (.cons cI .nil))))))<|.nil)) [4,11,12] [(0,1),(3,0)] (λ _ _ st9=>?_)
  obtain⟨v11,p11,h12⟩:=bs p8
  refine st9.cNA 1 0 (xX p11) [4] [3] (λ _ _ _ _ st10=>?_)
  refine st10.segA 1 [4,5] [(0,1),(3,0)] (λ _ _ st13=>wpList_nil (za (wp_block ?_)))
  refine zL h12 (λ s14 a w=>∃ M1 q14_0 q14_1 q14_2,Sx (Frm.chg w0 G) 44 M M1 [oneB q14_0,q14_1,oneB q14_2] [(4,dt (cmpI .eql v5.2 (0:Int))),(5,dt s14.2.2)] [(3,0,dtip q14_0 159 s14.2.1),(0,1,dnm (Ow.box (Ow.frz (α:=Reader))) q14_1 ⟨s14.1⟩ (.pointer (some ⟨b0,0,none⟩)) [])] a w) fx ?_
  rintro s14 z14 a14 w14 ⟨M14,q14_0,q14_1,q14_2,st14⟩ hs14 hx14
  have h15:wG v5 s14=some z14:=hs14
  unfold wG at h15
  refine wp_seq ?_
  refine st14.sqA [4,5,15] [(0,1),(3,0)] (λ _ _ st16=>?_)
  refine st16.cs rfl h15 (λ _ h17=>wp_skip (za (wp_seq (wp_block (wp_seq (wp_region_list ?_)))))) (λ _ h18=>wp_exit (zh (zh (zE ?_))))
  ·
   refine st16.segC 1 [4,5,18] [(0,1),(3,0)] (λ _ _ st19=>?_)
   obtain⟨v21,p21,h22⟩:=bs h17
   refine st19.cNA 1 0 (zbq p21) [4,5] [3] (λ _ _ _ _ st20=>?_)
   refine st20.alA 2 zrStmt [4,5,19] [0,3] (λ b24 _ _ _ st24=>?_)
   refine st24.stA 6 2 FldS.id (tp rfl) [4,5] [0,3] (λ _ _ st26=>wpList_nil (za ?_))
   obtain⟨o27,p27,k27⟩:=bs h22
   refine zm (λ a w=>∃ M1 q27_0 q27_1 q27_2,Sx (Frm.chg w0 G) 44 M M1 [oneB q27_0,q27_1,oneB q27_2] [(4,dt (cmpI .eql v5.2 (0:Int))),(5,dt s14.2.2)] [(3,0,dtip q27_0 159 s14.2.1),(6,2,dbox q27_2 0 o27.2),(0,1,dnm (Ow.box (Ow.frz (α:=Reader))) q27_1 ⟨o27.1⟩ (.pointer (some ⟨b0,0,none⟩)) [])] a w) ?_ ?_
   ·
    refine st26.sqB (sP 5 (r:=by exact sg rfl rfl (λ hg=>oM rfl (ze hg rfl))<|sgg rfl rfl (λ hg=>zB Stmt.fld0 rfl kF159_0 (tp rfl))<|sgg rfl rfl (λ hg=>zf rfl kT3 (ze hg rfl))<|sgg rfl rfl (λ hg=>oCI rfl (ze hg rfl) cI)<|sg rfl rfl (λ hg=>yU rfl (ze hg rfl) (zax hg rfl))<|sg rfl rfl (λ hg=>oM rfl (ze hg rfl))<|sgg rfl rfl (λ hg=>zB Stmt.fld0 rfl kF159_0 (tp rfl))<|sgg rfl rfl (λ hg=>zf rfl kT3 (ze hg rfl))<|sgg rfl rfl (λ hg=>oCI rfl (ze hg rfl) cI)<|sg rfl rfl (λ hg=>yU rfl (ze hg rfl) (zax hg rfl))<|segC)) [4,5,35] [(0,1),(3,0),(6,2)] (λ _ _ st28=>?_)
    refine st28.cs rfl p27 (λ _ h29=>wp_region_list ?_) (λ _ h30=>wp_skip (za ?_))
    ·
     refine st28.segC 1 [4,5,36] [(0,1),(3,0),(6,2)] (λ _ _ st31=>?_)
     obtain⟨v33,p33,h34⟩:=bs h29
     refine st31.cNA 1 0 (zH p33) [4,5] [3,6] (λ _ _ _ _ st32=>?_)
     refine st32.segB 1 (sc rfl (Jq rfl cI (zQ (by decide)) (tp rfl))<|.nil) [4,5,38] [(0,1),(3,0),(6,2)] (λ _ _ st35=>?_)
     refine st35.stA 6 2 FldS.id (tp rfl) [4,5] [0,3] (λ _ _ st37=>wpList_nil (za ?_))
     cases h34
     exact fx
    cases h30
    exact fx
   rintro a27 w27 ⟨M27,q27_0,q27_1,q27_2,st27⟩
   have h38:=k27
   refine wp_region_list ?_
   refine st27.segC 3 [4,5,41] [(0,1),(3,0),(39,0)] (λ _ _ st39=>?_)
   obtain⟨v42,p42,h43⟩:=bs h38
   refine st39.apA 0 wO p42 [4,5] [0] (λ g41 _ _ _ st41=>?_)
   refine st41.segA 1 [4,5] [(0,1),(3,0)] (λ _ _ st44=>wpList_nil (zg (za ?_)))
   obtain⟨v45,p45,h46⟩:=bs h43
   refine st44.rgA [4,5] [(0,1),(3,0)] (λ _ _ st47=>za ?_)
   exact fl h46
  refine za ?_
  have h48:=lo h18 hx14
  cases h48
  exact fx
 rintro a8 w8 ⟨M8,q8_0,q8_1,q8_2,st8⟩
 have h49:=k8
 refine st8.sqA [] [(0,1),(2,0)] (λ _ _ st50=>wp_ret ?_)
 have st51:=st50.tipW (s:=2) 0 rfl rfl iI [0] rfl
 exact st51.rsO (s:=0) 1 0 rfl rfl rfl iI iI (by decide) (bxr h49)
def wm(x0:Reader):Option (Reader×(List Int)):=
(zz x0 (8:Int)).bind λ v4=>
if(cmpI .eql v4.2 (0:Int))=true then(some (v4.1,([(1:Int),(0:Int)]:List Int)))
else(if(cmpI .eql v4.2 (1:Int))=true then(some (v4.1,([(2:Int),(1:Int),(0:Int)]:List Int)))
else(if(cmpI .eql v4.2 (2:Int))=true then(some (v4.1,([(0:Int)]:List Int)))
else(if(cmpI .eql v4.2 (3:Int))=true then(some (v4.1,([(1:Int)]:List Int)))
else(if(cmpI .eql v4.2 (4:Int))=true then(some (v4.1,([(0:Int),(1:Int)]:List Int)))
else(some (v4.1,([(0:Int),(1:Int),(2:Int)]:List Int)))))))
theorem qZ{x0:Reader}{r:Reader×(List Int)}(h:wm x0=some r):FnS prog 114 (Ow.box (Ow.frz (α:=Reader))) ⟨x0⟩ [] ⟨r.1⟩ (.frz (dt r.2)):=by
 unfold wm at h
 refine fnSB (fn:=f114) 0 1 func114 rfl (oD rfl) rfl (λ M G _ b0 _ st0=>?_)
 refine st0.sqB (sc rfl (oA rfl (jW (α:=Int)))<|.nil) [] [(0,0)] (λ _ _ st1=>wp_seq (wp_seq (wp_region_list ?_)))
 refine st1.segC 1 [3] [(0,0)] (λ _ _ st2=>?_)
 obtain⟨v4,p4,h5⟩:=bs h
 refine st2.cNA 0 0 (zH p4) [] [] (λ _ _ _ _ st3=>wpList_nil (za (wp_block ?_)))
 refine st3.sqA [4,5] [(0,0)] (λ _ _ st6=>?_)
 refine st6.cs rfl h5 (λ _ h7=>?_) (λ _ h8=>?_)
 ·
  refine st6.sqB (sc rfl (yG (opds:=[.const (.int .i64 1),.const (.int .i64 0)]) rfl kS30 kY30 rfl rfl (by decide) (.cons cI (.cons cI .nil)))<|segC) [2] [(0,0)] (λ _ _ st9=>wp_ret (zt (zd ?_)))
  exact st9.rsD (s:=0) 0 rfl rfl rfl iI (bxr h7)
 refine st6.sqA [4,8] [(0,0)] (λ _ _ st10=>?_)
 refine st10.cs rfl h8 (λ _ h11=>?_) (λ _ h12=>?_)
 ·
  refine st10.sqB (sc rfl (yG (opds:=[.const (.int .i64 2),.const (.int .i64 1),.const (.int .i64 0)]) rfl kS30 kY30 rfl rfl (by decide) (.cons cI (.cons cI (.cons cI .nil))))<|segC) [2] [(0,0)] (λ _ _ st13=>wp_ret (zt (zd ?_)))
  exact st13.rsD (s:=0) 0 rfl rfl rfl iI (bxr h11)
 refine st10.sqA [4,11] [(0,0)] (λ _ _ st14=>?_)
 refine st14.cs rfl h12 (λ _ h15=>?_) (λ _ h16=>?_)
 ·
  refine st14.sqB (sc rfl (yG (opds:=[.const (.int .i64 0)]) rfl kS30 kY30 rfl rfl (by decide) (.cons cI .nil))<|segC) [2] [(0,0)] (λ _ _ st17=>wp_ret (zt (zd ?_)))
  exact st17.rsD (s:=0) 0 rfl rfl rfl iI (bxr h15)
 refine st14.sqA [4,14] [(0,0)] (λ _ _ st18=>?_)
 refine st18.cs rfl h16 (λ _ h19=>?_) (λ _ h20=>?_)
 ·
  refine st18.sqB (sc rfl (yG (opds:=[.const (.int .i64 1)]) rfl kS30 kY30 rfl rfl (by decide) (.cons cI .nil))<|segC) [2] [(0,0)] (λ _ _ st21=>wp_ret (zt (zd ?_)))
  exact st21.rsD (s:=0) 0 rfl rfl rfl iI (bxr h19)
 refine st18.sqA [17] [(0,0)] (λ _ _ st22=>?_)
 refine st22.cs rfl h20 (λ _ h23=>?_) (λ _ h24=>wp_skip (zg (za ?_)))
 ·
  refine st22.sqB (sc rfl (yG (opds:=[.const (.int .i64 0),.const (.int .i64 1)]) rfl kS30 kY30 rfl rfl (by decide) (.cons cI (.cons cI .nil)))<|segC) [2] [(0,0)] (λ _ _ st25=>wp_ret (zt (zd ?_)))
  exact st25.rsD (s:=0) 0 rfl rfl rfl iI (bxr h23)
 refine st22.sqB (sc rfl (yG (opds:=[.const (.int .i64 0),.const (.int .i64 1),.const (.int .i64 2)]) rfl kS30 kY30 rfl rfl (by decide) (.cons cI (.cons cI (.cons cI .nil))))<|segC) [2] [(0,0)] (λ _ _ st26=>wp_ret ?_)
 exact st26.rsD (s:=0) 0 rfl rfl rfl iI (bxr h24)
def q5(x0:Reader):Option (Reader×File):=
(yF x0 ([(0:Int),(0:Int),(1:Int),(2:Int),(1:Int)]:List Int)).bind λ v5=>
(zz v5.1 (100:Int)).bind λ v10=>
(qY v10.1).bind λ v15=>
Option.bind (α:=Reader×File) ((zz v15.1 (6:Int)).bind λ v28=>
Option.bind (α:=Bool) (if(cmpI .eql v28.2 (0:Int))=true then(some (cmpI .eql v28.2 (0:Int)))
else(some (cmpI .eql v28.2 (1:Int)))) λ o31=>
if o31=true then((yJ v28.1).bind λ v45=>
some (v45.1,{ (⟨v5.2,⟨[]⟩,⟨[]⟩,false,v10.2,v15.2⟩:File) with name:=v45.2 }))
else(Option.bind (α:=Bool) (if(cmpI .eql v28.2 (2:Int))=true then(some (cmpI .eql v28.2 (2:Int)))
else(some (cmpI .eql v28.2 (3:Int)))) λ o52=>
if o52=true then((yJ v28.1).bind λ v62=>
(yJ v62.1).bind λ v70=>
some (v70.1,{ (⟨v5.2,⟨[]⟩,⟨[]⟩,false,v10.2,v15.2⟩:File) with pkg:=v62.2,name:=v70.2 }))
else(if(cmpI .eql v28.2 (4:Int))=true then((yJ v28.1).bind λ v81=>
some (v81.1,{ (⟨v5.2,⟨[]⟩,⟨[]⟩,false,v10.2,v15.2⟩:File) with pkg:=v81.2,init:=true }))
else((yJ v28.1).bind λ v92=>
(catO v92.2 (⟨[46]⟩:Str)).bind λ v95=>
(yJ v92.1).bind λ v99=>
(catO v95 v99.2).bind λ v102=>
(zz v99.1 (2:Int)).bind λ v109=>
if(cmpI .eql v109.2 (0:Int))=true then(some (v109.1,{ (⟨v5.2,⟨[]⟩,⟨[]⟩,false,v10.2,v15.2⟩:File) with pkg:=v102,init:=true }))
else((yJ v109.1).bind λ v120=>
some (v120.1,{ (⟨v5.2,⟨[]⟩,⟨[]⟩,false,v10.2,v15.2⟩:File) with pkg:=v102,name:=v120.2 })))))) λ o25=>
some (o25.1,o25.2)
theorem Z1{x0:Reader}{r:Reader×File}(h:q5 x0=some r):FnS prog 149 (Ow.box (Ow.frz (α:=Reader))) ⟨x0⟩ [] ⟨r.1⟩ (.ow (owFile (Ow.row 159 (Ow.frz (α:=Stmt)))) r.2):=by
 unfold q5 at h
 refine fnSB (fn:=f149) 2 5 func149 rfl (oD rfl) rfl (λ M G w0 b0 _ st0=>wp_seq (wp_region_list ?_))
 refine st0.alcW (ow:=(owFile (Ow.row 159 (Ow.frz (α:=Stmt))))) 3 rfl rfl kZ72 (owFile.z Ow.row_z) (by simp) [] rfl [0] rfl rfl (λ b1 M1 _ _ st1=>?_)
 have st2:=st1.gn
 refine wpList_nil (za (wp_seq (wp_region_list ?_)))
 refine st2.segB 2 (sP 1 (r:=by exact sc rfl (yG (opds:=[.const (.int .i64 0),.const (.int .i64 0),.const (.int .i64 1),.const (.int .i64 2),.const (.int .i64 1)]) rfl kS30 kY30 rfl rfl (by decide) (.cons cI (.cons cI (.cons cI (.cons cI (.cons cI .nil))))))<|.nil)) [4,5] [(0,2),(2,3)] (λ _ _ st3=>?_)
 obtain⟨v5,p5,h6⟩:=bs h
 refine st3.cNA 2 0 (xX p5) [] [2] (λ G4 _ _ _ st7=>?_)
 refine st7.segC 1 [6,7] [(0,2),(2,3)] (λ _ _ st8=>?_)
 obtain⟨v10,p10,h11⟩:=bs h6
 refine st8.cNA 2 0 (zH p10) [6] [2] (λ G9 _ _ _ st12=>?_)
 refine st12.segC 1 [6,8,9] [(0,2),(2,3)] (λ _ _ st13=>?_)
 obtain⟨v15,p15,h16⟩:=bs h11
 refine st13.cSO (l:=[]) 2 0 (st13.bkN (s:=0) rfl iI) rfl rfl kN169 (Eq.trans (st13.st.has 9 _ rfl) (st13.st.has 0 _ rfl).1.symm) (by simp) (by simp) (by decide) .nil (zbr p15) [6,8] rfl [2] rfl rfl rfl rfl (by decide) (λ G14 H14 _ _ _ st14=>?_)
 have st17:=st14.gn
 refine st17.bldW (ow:=(owFile (Ow.row 159 (Ow.frz (α:=Stmt))))) (parts:=[(0,.tmp 6),(4,.tmp 8),(5,.tmp 10)]) (ns:=[1,1,1,1,1,1]) (zs:=zaB) (x:=(⟨v5.2,⟨[]⟩,⟨[]⟩,false,v10.2,v15.2⟩:File)) 1 [0] rfl rfl rfl kB72 kC72 (by
 intro p hp;simp only[List.mem_cons,List.not_mem_nil,or_false] at hp
 rcases hp with rfl | rfl | rfl
 ·
  exact⟨by decide,Rep.len (α:=Int) (OpdR.cells (tp rfl) (λ s y hs=>st17.st.has s y hs))⟩
 ·
  exact⟨by decide,Rep.len (α:=Int) (OpdR.cells (tp rfl) (λ s y hs=>st17.st.has s y hs))⟩
 ·
  exact⟨by decide,Ow.len _ (jO (st17.st.has 10 _ rfl))⟩) (((owFile (Ow.row 159 (Ow.frz (α:=Stmt))))).more (owFile.mk (x:=(⟨v5.2,⟨[]⟩,⟨[]⟩,false,v10.2,v15.2⟩:File)) (OpdR.cells (tp rfl) (λ s y hs=>st17.st.has s y hs)) qn qn ⟨rfl,trivial⟩ (OpdR.cells (tp rfl) (λ s y hs=>st17.st.has s y hs)) (jO (st17.st.has 10 _ rfl))) (λ b=>(λ hb=>⟨0,by simp,hb⟩))) (by simp) [] rfl [0,2] rfl rfl rfl (λ G18 _ _ st18=>?_)
 have st19:=st18.gs (Gs':=[oneB none,G18,G14,(oneB (some b1)),oneB none]) rfl
 have st20:=st19.gn
 refine st20.alcW (ow:=(owFile (Ow.row 159 (Ow.frz (α:=Stmt))))) 4 rfl rfl kZ72 (owFile.z Ow.row_z) (by simp) [] rfl [0,2,11] rfl rfl (λ b21 _ _ _ st21=>?_)
 have st22:=st21.gn
 refine st22.stO (sb:=3) (tv:=11) 4 1 (PV.root.box rfl) rfl rfl rfl kT72 (by simp) (by simp) (by decide) (zG rfl) rfl rfl rfl iI iI [] rfl [0,2] rfl rfl rfl (λ G23 _ st23=>?_)
 have st24:=st23.gn
 refine wpList_nil (za ?_)
 obtain⟨o25,p25,k25⟩:=bs h16
 refine zm (λ a w=>∃ M1 q25_0 q25_1 q25_2 q25_3 q25_4,Sx (Frm.chg w0 G) 50 M M1 [q25_0,q25_1,q25_2,q25_3,q25_4] [] [(0,2,dnm (Ow.box (Ow.frz (α:=Reader))) q25_2 ⟨o25.1⟩ (.pointer (some ⟨b0,0,none⟩)) []),(2,3,dow (Ow.box (owFile (Ow.row 159 (Ow.frz (α:=Stmt))))) q25_3 ⟨zFile⟩),(3,4,dow (Ow.box (owFile (Ow.row 159 (Ow.frz (α:=Stmt))))) q25_4 ⟨o25.2⟩)] a w) ?_ ?_
 ·
  refine wp_seq (wp_region_list ?_)
  refine st24.segC 1 [12] [(0,2),(2,3),(3,4)] (λ _ _ st26=>?_)
  obtain⟨v28,p28,h29⟩:=bs p25
  refine st26.cNA 2 0 (zH p28) [] [2,3] (λ G27 _ _ _ st30=>wpList_nil (za (wp_block ?_)))
  obtain⟨o31,p31,k31⟩:=bs h29
  refine zm (λ a w=>∃ M1 q31_0 q31_1 q31_2 q31_3 q31_4,Sx (Frm.chg w0 G) 50 M M1 [q31_0,q31_1,q31_2,q31_3,q31_4] [(13,dt v28.2),(28,dt o31)] [(0,2,dnm (Ow.box (Ow.frz (α:=Reader))) q31_2 ⟨v28.1⟩ (.pointer (some ⟨b0,0,none⟩)) []),(2,3,dow (Ow.box (owFile (Ow.row 159 (Ow.frz (α:=Stmt))))) q31_3 ⟨zFile⟩),(3,4,dow (Ow.box (owFile (Ow.row 159 (Ow.frz (α:=Stmt))))) q31_4 ⟨(⟨v5.2,⟨[]⟩,⟨[]⟩,false,v10.2,v15.2⟩:File)⟩)] a w) ?_ ?_
  ·
   refine st30.sqA [13,28] [(0,2),(2,3),(3,4)] (λ _ _ st32=>?_)
   refine st32.cs rfl p31 (λ _ h33=>wp_skip ?_) (λ _ h34=>?_)
   ·
    have st35:=st32.unm (s:=2) 3 rfl rfl iI [0,3] rfl
    have st36:=st35.unm (s:=3) 4 rfl rfl iI [0,2] rfl
    refine za ?_
    cases h33
    exact fx
   refine st32.rgA [13,28] [(0,2),(2,3),(3,4)] (λ _ _ st37=>?_)
   have st38:=st37.unm (s:=2) 3 rfl rfl iI [0,3] rfl
   have st39:=st38.unm (s:=3) 4 rfl rfl iI [0,2] rfl
   refine za ?_
   cases h34
   exact fx
  rintro a31 w31 ⟨M31,q31_0,q31_1,q31_2,q31_3,q31_4,st31⟩
  have h40:=k31
  refine st31.cs rfl h40 (λ _ h41=>wp_region_list ?_) (λ _ h42=>?_)
  ·
   refine st31.segC 1 [31] [(0,2),(2,3),(3,4)] (λ _ _ st43=>?_)
   obtain⟨v45,p45,h46⟩:=bs h41
   refine st43.cNA 2 0 (wM p45) [] [2,3] (λ G44 _ _ _ st47=>?_)
   refine st47.nmB (s:=3) 4 rfl rfl iI [0,2] rfl (λ b48 st48=>?_)
   refine st48.segB 1 (sc rfl (xFa rfl kF72_2 (zG rfl))<|.nil) [32,33] [(0,2),(2,3),(3,4)] (λ _ _ st49=>?_)
   refine st49.sfA 3 4 ((PV.root.box rfl).fld owFile.f2) (tp rfl) (tp rfl) [] [0,2] (λ _ st50=>wpList_nil (zg ?_))
   have st51:=st50.unm (s:=3) 4 rfl rfl iI [0,2] rfl
   refine za ?_
   cases h46
   exact fx
  obtain⟨o52,p52,k52⟩:=bs h42
  refine zm (λ a w=>∃ M1 q52_0 q52_1 q52_2 q52_3 q52_4,Sx (Frm.chg w0 G) 50 M M1 [q52_0,q52_1,q52_2,q52_3,q52_4] [(13,dt v28.2),(34,dt o52)] [(0,2,dnm (Ow.box (Ow.frz (α:=Reader))) q52_2 ⟨v28.1⟩ (.pointer (some ⟨b0,0,none⟩)) []),(2,3,dow (Ow.box (owFile (Ow.row 159 (Ow.frz (α:=Stmt))))) q52_3 ⟨zFile⟩),(3,4,dow (Ow.box (owFile (Ow.row 159 (Ow.frz (α:=Stmt))))) q52_4 ⟨(⟨v5.2,⟨[]⟩,⟨[]⟩,false,v10.2,v15.2⟩:File)⟩)] a w) ?_ ?_
  ·
   refine st31.sqA [13,34] [(0,2),(2,3),(3,4)] (λ _ _ st53=>?_)
   refine st53.cs rfl p52 (λ _ h54=>wp_skip (za ?_)) (λ _ h55=>?_)
   ·
    cases h54
    exact fx
   refine st53.rgA [13,34] [(0,2),(2,3),(3,4)] (λ _ _ st56=>za ?_)
   cases h55
   exact fx
  rintro a52 w52 ⟨M52,q52_0,q52_1,q52_2,q52_3,q52_4,st52⟩
  have h57:=k52
  refine st52.cs rfl h57 (λ _ h58=>wp_seq (wp_region_list ?_)) (λ _ h59=>?_)
  ·
   refine st52.segC 1 [37] [(0,2),(2,3),(3,4)] (λ _ _ st60=>?_)
   obtain⟨v62,p62,h63⟩:=bs h58
   refine st60.cNA 2 0 (wM p62) [] [2,3] (λ G61 _ _ _ st64=>?_)
   refine st64.nmB (s:=3) 4 rfl rfl iI [0,2] rfl (λ b65 st65=>?_)
   refine st65.segB 1 (sc rfl (xFa rfl Jf (zG rfl))<|.nil) [38,39] [(0,2),(2,3),(3,4)] (λ _ _ st66=>?_)
   refine st66.sfA 3 4 ((PV.root.box rfl).fld owFile.f1) (tp rfl) (tp rfl) [] [0,2] (λ _ st67=>wpList_nil (za (wp_region_list ?_)))
   refine st67.segC 1 [40] [(0,2),(2,3),(3,4)] (λ _ _ st68=>?_)
   obtain⟨v70,p70,h71⟩:=bs h63
   refine st68.cNA 2 0 (wM p70) [] [2,3] (λ G69 _ _ _ st72=>?_)
   refine st72.segB 1 (sc rfl (xFa rfl kF72_2 (zG rfl))<|.nil) [41,42] [(0,2),(2,3),(3,4)] (λ _ _ st73=>?_)
   refine st73.sfA 3 4 ((PV.root.box rfl).fld owFile.f2) (tp rfl) (tp rfl) [] [0,2] (λ _ st74=>wpList_nil (zg ?_))
   have st75:=st74.unm (s:=3) 4 rfl rfl iI [0,2] rfl
   refine za ?_
   cases h71
   exact fx
  refine st52.sqA [43] [(0,2),(2,3),(3,4)] (λ _ _ st76=>?_)
  refine st76.cs rfl h59 (λ _ h77=>wp_seq (wp_region_list ?_)) (λ _ h78=>wp_seq (wp_region_list ?_))
  ·
   refine st76.segC 1 [45] [(0,2),(2,3),(3,4)] (λ _ _ st79=>?_)
   obtain⟨v81,p81,h82⟩:=bs h77
   refine st79.cNA 2 0 (wM p81) [] [2,3] (λ G80 _ _ _ st83=>?_)
   refine st83.nmB (s:=3) 4 rfl rfl iI [0,2] rfl (λ b84 st84=>?_)
   refine st84.segB 1 (sc rfl (xFa rfl Jf (zG rfl))<|.nil) [46,47] [(0,2),(2,3),(3,4)] (λ _ _ st85=>?_)
   refine st85.sfA 3 4 ((PV.root.box rfl).fld owFile.f1) (tp rfl) (tp rfl) [] [0,2] (λ _ st86=>wpList_nil (za (wp_region_list ?_)))
   refine st86.segB 1 (sc rfl (xFa rfl kF72_3 (zG rfl))<|.nil) [48] [(0,2),(2,3),(3,4)] (λ _ _ st87=>?_)
   refine st87.sfA 3 4 ((PV.root.box rfl).fld owFile.f3) (tp rfl) cB [] [0,2] (λ _ st88=>wpList_nil (zg ?_))
   have st89:=st88.unm (s:=3) 4 rfl rfl iI [0,2] rfl
   refine za ?_
   cases h82
   exact fx
  refine st76.segC 1 [14] [(0,2),(2,3),(3,4)] (λ _ _ st90=>?_)
  obtain⟨v92,p92,h93⟩:=bs h78
  refine st90.cNA 2 0 (wM p92) [] [2,3] (λ G91 _ _ _ st94=>?_)
  obtain⟨v95,p95,h96⟩:=bs h93
  refine st94.segB 2 (sc rfl (xCat rfl (tp rfl) (zQ (by decide)) p95)<|segC) [16,17] [(0,2),(2,3),(3,4)] (λ _ _ st97=>?_)
  obtain⟨v99,p99,h100⟩:=bs h96
  refine st97.cNA 2 0 (wM p99) [16] [2,3] (λ G98 _ _ _ st101=>?_)
  obtain⟨v102,p102,h104⟩:=bs h100
  refine st101.nmB (s:=3) 4 rfl rfl iI [0,2] rfl (λ b103 st103=>?_)
  refine st103.segB 2 (sP 1 (r:=by exact sc rfl (xFa rfl Jf (zG rfl))<|.nil)) [19,20] [(0,2),(2,3),(3,4)] (λ _ _ st105=>?_)
  refine st105.sfA 3 4 ((PV.root.box rfl).fld owFile.f1) (tp rfl) (tp rfl) [] [0,2] (λ _ st106=>wpList_nil (za (wp_seq (wp_region_list ?_))))
  refine st106.segC 1 [21] [(0,2),(2,3),(3,4)] (λ _ _ st107=>?_)
  obtain⟨v109,p109,h110⟩:=bs h104
  refine st107.cNA 2 0 (zH p109) [] [2,3] (λ G108 _ _ _ st111=>?_)
  refine st111.segA 1 [23] [(0,2),(2,3),(3,4)] (λ _ _ st112=>wpList_nil (za ?_))
  refine st112.cs rfl h110 (λ _ h113=>wp_region_list ?_) (λ _ h114=>wp_region_list ?_)
  ·
   refine st112.segB 1 (sc rfl (xFa rfl kF72_3 (zG rfl))<|.nil) [24] [(0,2),(2,3),(3,4)] (λ _ _ st115=>?_)
   refine st115.sfA 3 4 ((PV.root.box rfl).fld owFile.f3) (tp rfl) cB [] [0,2] (λ _ st116=>wpList_nil (zg ?_))
   have st117:=st116.unm (s:=3) 4 rfl rfl iI [0,2] rfl
   refine za ?_
   cases h113
   exact fx
  refine st112.segC 1 [25] [(0,2),(2,3),(3,4)] (λ _ _ st118=>?_)
  obtain⟨v120,p120,h121⟩:=bs h114
  refine st118.cNA 2 0 (wM p120) [] [2,3] (λ G119 _ _ _ st122=>?_)
  refine st122.segB 1 (sc rfl (xFa rfl kF72_2 (zG rfl))<|.nil) [26,27] [(0,2),(2,3),(3,4)] (λ _ _ st123=>?_)
  refine st123.sfA 3 4 ((PV.root.box rfl).fld owFile.f2) (tp rfl) (tp rfl) [] [0,2] (λ _ st124=>wpList_nil (zg ?_))
  have st125:=st124.unm (s:=3) 4 rfl rfl iI [0,2] rfl
  refine za ?_
  cases h121
  exact fx
 rintro a25 w25 ⟨M25,q25_0,q25_1,q25_2,q25_3,q25_4,st25⟩
 have h126:=k25
 refine wp_seq (wp_region_list ?_)
 refine st25.nmB (s:=3) 4 rfl rfl iI [0,2] rfl (λ b128 st128=>?_)
 refine st128.ldW (sb:=3) 4 rfl rfl kT72 rfl (by simp) iI [] rfl [0,2] rfl rfl (λ _ _ st127=>?_)
 refine st127.nmB (s:=2) 3 rfl rfl iI [0,49] rfl (λ b130 st130=>?_)
 refine st130.stO (sb:=2) (tv:=49) 3 4 (PV.root.box rfl) rfl rfl rfl kT72 (by simp) (by simp) (by decide) (zG rfl) rfl rfl rfl iI iI [] rfl [0] rfl rfl rfl (λ _ _ st129=>?_)
 have st131:=st129.gn
 refine wpList_nil (za (wp_ret ?_))
 exact st131.rsCO (s:=0) 2 3 rfl kT72 rfl rfl iI iI (by decide) (bxr h126)
def Zs(x0:Reader):Option (Reader×(List Int)):=
(zz x0 (20:Int)).bind λ v4=>
if(cmpI .eql v4.2 (0:Int))=true then((zz v4.1 (3:Int)).bind λ v11=>
(atI ([([]:List Int),([(0:Int),(0:Int)]:List Int),([(3:Int)]:List Int)]:List (List Int)) v11.2).bind λ v13=>
some (v11.1,v13))
else((wm v4.1).bind λ v18=>
some (v18.1,v18.2))
theorem zbJ{x0:Reader}{r:Reader×(List Int)}(h:Zs x0=some r):FnS prog 69 (Ow.box (Ow.frz (α:=Reader))) ⟨x0⟩ [] ⟨r.1⟩ (.frz (dt r.2)):=by
 unfold Zs at h
 refine fnSB (fn:=f69) 0 1 func69 rfl (oD rfl) rfl (λ M G _ b0 _ st0=>?_)
 refine st0.sqB (sc rfl (oA rfl (jW (α:=Int)))<|.nil) [] [(0,0)] (λ _ _ st1=>wp_seq (wp_seq (wp_region_list ?_)))
 refine st1.segC 1 [3] [(0,0)] (λ _ _ st2=>?_)
 obtain⟨v4,p4,h5⟩:=bs h
 refine st2.cNA 0 0 (zH p4) [] [] (λ _ _ _ _ st3=>?_)
 refine st3.segA 1 [5] [(0,0)] (λ _ _ st6=>wpList_nil (za ?_))
 refine st6.cs rfl h5 (λ _ h7=>wp_seq (wp_region_list ?_)) (λ _ h8=>wp_skip (za (wp_seq (wp_region_list ?_))))
 ·
  refine st6.segB 5 (sc rfl (yG (opds:=[]) (α:=Int) rfl kS30 kY30 rfl rfl (by decide) .nil)<|sc rfl (yG (opds:=[.const (.int .i64 0),.const (.int .i64 0)]) rfl kS30 kY30 rfl rfl (by decide) (.cons cI (.cons cI .nil)))<|sc rfl (yG (opds:=[.const (.int .i64 3)]) rfl kS30 kY30 rfl rfl (by decide) (.cons cI .nil))<|sc rfl (yG (opds:=[.tmp 6,.tmp 7,.tmp 8]) rfl kS129 kY129 rfl rfl (by decide) (.cons (tp rfl) (.cons (tp rfl) (.cons (tp rfl) .nil))))<|segC) [9,10] [(0,0)] (λ _ _ st9=>?_)
  obtain⟨v11,p11,h12⟩:=bs h7
  refine st9.cNA 0 0 (zH p11) [9] [] (λ _ _ _ _ st10=>?_)
  obtain⟨v13,p13,h14⟩:=bs h12
  refine st10.segA 3 [2] [(0,0)] (λ _ _ st15=>wpList_nil (za ?_))
  refine wp_ret (zd ?_)
  exact st15.rsD (s:=0) 0 rfl rfl rfl iI (bxr h14)
 refine st6.segC 1 [14] [(0,0)] (λ _ _ st16=>?_)
 obtain⟨v18,p18,h19⟩:=bs h8
 refine st16.cNA 0 0 (qZ p18) [] [] (λ _ _ _ _ st17=>?_)
 refine st17.segA 1 [2] [(0,0)] (λ _ _ st20=>wpList_nil (za (wp_ret ?_)))
 exact st20.rsD (s:=0) 0 rfl rfl rfl iI (bxr h19)
open Go.RowKit Tryz
set_option maxRecDepth 10000
set_option maxHeartbeats 1600000
theorem kB45:bldB prog 45 [1,1,1]=true:=by kernel_rfl
theorem kC45:Yz prog 45 [1,1,1]=some Wz:=by kernel_rfl
theorem kB43:bldB prog 43 [1]=true:=by kernel_rfl
theorem kC43:Yz prog 43 [1]=some zpTree:=by kernel_rfl
theorem kN183:fnB prog 183=true:=by kernel_rfl
theorem kY41:zlB prog 41=true:=by kernel_rfl
theorem kN182:fnB prog 182=true:=by kernel_rfl
theorem kI75:sliB prog 75 9 1=true:=by kernel_rfl
theorem kD77_0_1_2:∀ {M:Nat->Prop} {look:Nat->Option Dt} {o:Oper} {q0 q1 q2:Operand} {y0:Int} {y1:Str} {y2:Int},o.op=.build 77 #[(0,q0),(1,q1),(2,q2)]->OpdR M look q0 (dt y0)->OpdR M look q1 (dt y1)->OpdR M look q2 (dt y2)->OpRel prog M look o (dt (⟨y0,y1,y2,[]⟩:Dir)):=@λ _ _ _ q0 q1 q2 y0 y1 y2 ho h0 h1 h2=>yw (parts:=[(0,q0),(1,q1),(2,q2)]) (ns:=[1,1,1,1]) (zs:=zpDir) rfl ho kB77 kC77 (λ w a hl=>by
 intro p hp;simp only[List.mem_cons,List.not_mem_nil,or_false] at hp
 rcases hp with rfl | rfl | rfl
 ·
  exact⟨(by decide:0<4),Rep.len (α:=Int) (OpdR.cells h0 hl)⟩
 ·
  exact⟨(by decide:1<4),Rep.len (α:=Str) (OpdR.cells h1 hl)⟩
 ·
  exact⟨(by decide:2<4),Rep.len (α:=Int) (OpdR.cells h2 hl)⟩) (λ w a hl=>Dir.parts (x:=(⟨y0,y1,y2,[]⟩:Dir)) (OpdR.cells h0 hl) (OpdR.cells h1 hl) (OpdR.cells h2 hl) xI)
theorem kN184:fnB prog 184=true:=by kernel_rfl
theorem kN168:fnB prog 168=true:=by kernel_rfl
instance iF45_1FdC:FldO prog 45 1 1:=⟨zaM⟩
instance iF45_2FdC:FldO prog 45 2 2:=⟨Jn⟩
instance iF77_2FdC:FldO prog 77 2 2:=⟨Xb⟩
def XE:Option Disk:=
some (⟨Yu,0,[]⟩:Disk)
theorem zbK{r:Disk}(h:XE=some r):Fn prog 147 [] (dt r):=by
 unfold XE at h
 refine fnx (fn:=f147) 1 func147 rfl (oD rfl) rfl (λ M _ _ st0=>wp_seq (wp_region_list ?_))
 refine st0.alA 0 jh [] [] (λ b2 _ _ _ st2=>wpList_nil (za (wp_seq (wp_region_list ?_))))
 refine st2.segB 1 (sc rfl (yw (parts:=[]) (ns:=[1,1,1]) (zs:=Wz) rfl rfl kB45 kC45 (λ w a hl=>by simp) (λ w a hl=>Disk.parts (x:=(⟨Yu,0,[]⟩:Disk)) (Z4 _ _) ⟨rfl,trivial⟩ xI))<|.nil) [1] [(0,0)] (λ _ _ st3=>?_)
 refine st3.stA 0 0 FldS.id (tp rfl) [] [] (λ _ _ st5=>wpList_nil (za (wp_ret ?_)))
 exact st5.ret_box rfl kT45 rfl h
def jS(x0:File):Option File:=
(appO 56 [] x0.body).bind λ v7=>
some ({ x0 with body:=v7 })
theorem WX{x0:File}{r:File}(h:jS x0=some r):Fn prog 183 [dt x0] (dt r):=by
 unfold jS at h
 refine fnx (fn:=f183) 3 func183 rfl (oD rfl) rfl (λ M _ _ st0=>wp_seq (wp_region_list ?_))
 refine st0.boxD 1 rfl rfl (tp rfl) (by simp) [] rfl [] rfl rfl (λ b1 _ _ _ st1=>?_)
 refine st1.alA 2 Qj [] [1] (λ b3 _ _ _ st3=>wpList_nil (za (wp_seq (wp_region_list ?_))))
 refine st3.segB 3 (sc rfl (wT (α:=Stmt) (e:=159) rfl kS70)<|segC) [5] [(1,1),(2,2),(3,0)] (λ _ _ st4=>?_)
 obtain⟨v7,p7,h8⟩:=bs h
 refine st4.apA 0 wO p7 [] [1,2] (λ g6 _ _ _ st6=>?_)
 refine st6.segC 1 [] [(1,1),(2,2),(6,0),(7,1)] (λ _ _ st9=>?_)
 have st12:=st9.frz 0 (s:=6) rfl rfl [] rfl [1,2,7] rfl
 refine st12.stA 1 1 File.set5 (tp rfl) [] [2] (λ _ _ st11=>wpList_nil (za (wp_seq (wp_region_list ?_))))
 refine st11.segC 1 [8] [(2,2)] (λ _ _ st13=>?_)
 refine st13.stA 2 2 FldS.id (tp rfl) [] [] (λ _ _ st15=>wpList_nil (za (wp_ret ?_)))
 exact st15.ret_box rfl kT72 rfl h8
def wH(x0:Tree)(s15:Tree×Int):Option ((Tree×Int)⊕Tree):=
if(cmpI .lss s15.2 (x0.files.length:Int))=true then((atI x0.files s15.2).bind λ v22=>
(jS v22).bind λ v23=>
(appO 80 s15.1.files ([v23]:List File)).bind λ v32=>
(i64 (s15.2+(1:Int))).bind λ v39=>
some (.inl ((⟨v32⟩:Tree),v39)))
else(some (.inr s15.1))
def jT(x0:Tree):Option Tree:=
Option.bind (α:=Tree) (zS (λ s15=>wH x0 s15) ((⟨[]⟩:Tree),(0:Int))) λ o11=>
some o11
theorem WY{x0:Tree}{r:Tree}(h:jT x0=some r):FnN prog 182 [dt x0] (.ow (owTree (Ow.row 72 (Ow.frz (α:=File)))) r):=by
 unfold jT at h
 refine fnN (fn:=f182) 4 func182 rfl (oD rfl) rfl (λ M w0 _ st0=>wp_seq (wp_region_list ?_))
 refine st0.segA 1 [1] [] (λ _ _ st1=>?_)
 refine st1.alcW (ow:=(owTree (Ow.row 72 (Ow.frz (α:=File))))) 2 rfl rfl kZ43 (owTree.z Ow.row_z) (by simp) [1] rfl [] rfl rfl (λ b2 _ _ _ st2=>?_)
 have st3:=st2.gn
 refine wpList_nil (za (wp_seq (wp_region_list ?_)))
 refine st3.bldW (ow:=(owTree (Ow.row 72 (Ow.frz (α:=File))))) (parts:=[]) (ns:=[1]) (zs:=zpTree) (x:=(⟨[]⟩:Tree)) 0 [] rfl rfl rfl kB43 kC43 (by simp) (((owTree (Ow.row 72 (Ow.frz (α:=File))))).more (owTree.mk (x:=(⟨[]⟩:Tree)) (Ow.row_z _ _)) (λ b=>(λ hb=>hb.elim))) (by simp) [1] rfl [2] rfl rfl rfl (λ G4 _ _ st4=>?_)
 have st5:=st4.gs (Gs':=[G4,oneB none,(oneB (some b2)),oneB none]) rfl
 have st6:=st5.gs (Gs':=[G4,oneB none,(oneB (some b2)),oneB none]) rfl
 refine st6.alcW (ow:=(owTree (Ow.row 72 (Ow.frz (α:=File))))) 3 rfl rfl kZ43 (owTree.z Ow.row_z) (by simp) [1] rfl [2,5] rfl rfl (λ b7 _ _ _ st7=>?_)
 have st8:=st7.gn
 refine st8.stO (sb:=3) (tv:=5) 3 0 (PV.root.box rfl) rfl rfl rfl kT43 (by simp) (by simp) (by decide) (zG rfl) rfl rfl rfl iI iI [1] rfl [2] rfl rfl rfl (λ _ _ st9=>?_)
 have st10:=st9.gn
 refine wpList_nil (za ?_)
 obtain⟨o11,p11,k11⟩:=bs h
 refine zm (λ a w=>∃ M1 q11_0 q11_1 q11_2 q11_3,Sx (Frm.of w0) 25 M M1 [q11_0,q11_1,q11_2,q11_3] [] [(2,2,dow (Ow.box (owTree (Ow.row 72 (Ow.frz (α:=File))))) q11_2 ⟨Yu⟩),(3,3,dow (Ow.box (owTree (Ow.row 72 (Ow.frz (α:=File))))) q11_3 ⟨o11⟩)] a w) ?_ ?_
 ·
  refine st10.sqA [1,4] [(2,2),(3,3)] (λ _ _ st12=>wp_block ?_)
  have st13:=st12.unm (s:=2) 2 rfl rfl iI [3] rfl
  have st14:=st13.unm (s:=3) 3 rfl rfl iI [2] rfl
  refine zL p11 (λ s15 a w=>∃ M1 q15_0 q15_1 q15_2 q15_3,Sx (Frm.of w0) 25 M M1 [q15_0,q15_1,q15_2,q15_3] [(1,dptr x0),(4,dt s15.2)] [(2,2,dow (Ow.box (owTree (Ow.row 72 (Ow.frz (α:=File))))) q15_2 ⟨Yu⟩),(3,3,dow (Ow.box (owTree (Ow.row 72 (Ow.frz (α:=File))))) q15_3 ⟨s15.1⟩)] a w) fx ?_
  rintro s15 z15 a15 w15 ⟨M15,q15_0,q15_1,q15_2,q15_3,st15⟩ hs15 hx15
  have h16:wH x0 s15=some z15:=hs15
  unfold wH at h16
  refine wp_seq ?_
  refine st15.sqA [1,4,10] [(2,2),(3,3)] (λ _ _ st17=>?_)
  refine st17.cs rfl h16 (λ _ h18=>wp_skip (za (wp_seq (wp_block ?_)))) (λ _ h19=>wp_exit (zh (zh (zE ?_))))
  ·
   obtain⟨v22,p22,v23,p23,h25⟩:=bsB h18
   refine st17.nmB (s:=3) 3 rfl rfl iI [2] rfl (λ b20 st20=>?_)
   refine st20.hdA 3 3 ((PV.root.box rfl).fld owTree.f0) [2] (λ g21 A21 _ hA21 st21=>?_)
   refine st21.drnA (D:=[_,_,_,_,_,_,_,_,_]) zD 9 [[(3,nS)],[(13,0),(3,nS)],[(1,nS)],[(15,2)],[(4,nS)],[(16,3),(17,4)],[(18,5)],[(19,6)],[(20,7)],[(14,1),(21,8)],[(3,nS)],[(23,10),(22,9)]] [1,4,14,21] [(2,2),(3,3)] (λ _ _ st26=>?_) (hs:=rc rfl rfl (xFa rfl Yi (zG rfl))<|rc rfl rfl (xLc (sb:=3) (.head _) rfl rfl rfl kT41 (tp rfl) rfl)<|rc rfl rfl (zv Tree.fld0 rfl Yi (tp rfl))<|rc rfl rfl (zp rfl kT41 (tp rfl))<|rc rfl rfl (oM rfl (tp rfl))<|rc rfl rfl (xIdx rfl kS41 (tp rfl) (tp rfl) p22)<|rc rfl rfl (zp rfl kT72 (tp rfl))<|rc rfl rfl (zo (l:=[.tmp 19]) rfl kN183 (.cons (tp rfl) .nil) (WX p23))<|rc rfl rfl (yG (opds:=[.tmp 20]) rfl kS41 kY41 rfl rfl (by decide) (.cons (tp rfl) .nil))<|.nil)
   refine st26.mvG (s:=14) (sb:=3) 3 1 ((PV.root.box rfl).fld owTree.f0) (.head _) rfl (Yh rfl rfl) rfl (by simp) (by simp) (by decide) rfl iI [1,4,21] rfl [2] rfl rfl rfl rfl (λ _ H28 st28=>?_)
   have st29:=st28.gn
   refine st29.tipR (s:=14) 1 rfl rfl (by simp) iI [2,3] rfl rfl (λ g30 st30=>?_)
   obtain⟨v32,p32,h33⟩:=bs h25
   refine st30.apA 1 wO p32 [1,4] [2,3] (λ g31 _ _ _ st31=>?_)
   have st34:=st31.gn
   refine st34.segB 1 (sc rfl (xFa rfl Yi (opd_hl rfl))<|.nil) [1,4,23] [(2,2),(3,3),(22,1)] (λ _ _ st35=>?_)
   have st37:=st35.tipW (s:=22) 1 rfl rfl iI [2,3] rfl
   refine st37.shA 3 22 3 1 (tp rfl) [1,4] [2] (λ _ _ st36=>?_)
   have st38:=st36.gn
   refine wpList_nil (zg (za ?_))
   obtain⟨v39,p39,h40⟩:=bs h33
   refine st38.rgA [1,4] [(2,2),(3,3)] (λ _ _ st41=>?_)
   have st42:=st41.unm (s:=3) 3 rfl rfl iI [2] rfl
   refine za ?_
   exact fl h40
  refine za ?_
  have h43:=lo h19 hx15
  cases h43
  exact fx
 rintro a11 w11 ⟨M11,q11_0,q11_1,q11_2,q11_3,st11⟩
 have h44:=k11
 refine wp_seq (wp_region_list ?_)
 refine st11.nmB (s:=3) 3 rfl rfl iI [2] rfl (λ b46 st46=>?_)
 refine st46.ldW (sb:=3) 3 rfl rfl kT43 rfl (by simp) iI [] rfl [2] rfl rfl (λ _ _ st45=>?_)
 refine st45.nmB (s:=2) 2 rfl rfl iI [24] rfl (λ b48 st48=>?_)
 refine st48.stO (sb:=2) (tv:=24) 2 3 (PV.root.box rfl) rfl rfl rfl kT43 (by simp) (by simp) (by decide) (zG rfl) rfl rfl rfl iI iI [] rfl [] rfl rfl rfl (λ _ _ st47=>?_)
 have st49:=st47.gn
 refine wpList_nil (za (wp_ret ?_))
 exact st49.rnC 2 rfl kT43 rfl iI h44
def Zt(x0:Tree)(x1:File):Option (Tree×Bool):=
(jT x0).bind λ v8=>
(jS x1).bind λ v16=>
(appO 80 v8.files ([v16]:List File)).bind λ v24=>
(y7 x0).bind λ v33=>
(gO ((!v33) == false) (y7 (⟨v24⟩:Tree))).bind λ v34=>
if((!v33)||(!v34))=true then(some ((⟨[]⟩:Tree),false))
else(some ((⟨v24⟩:Tree),true))
theorem zbL{x0:Tree}{x1:File}{r:Tree×Bool}(h:Zt x0 x1=some r):Fn prog 167 [dt x0,dt x1] (dtup [dt r.1,dt r.2]):=by
 unfold Zt at h
 refine fnx (fn:=f167) 4 func167 rfl (oD rfl) rfl (λ M _ _ st0=>wp_seq (wp_region_list ?_))
 refine st0.segA 2 [2,3] [] (λ _ _ st1=>?_)
 refine st1.alA 2 Z4 [2,3] [] (λ b3 _ _ _ st3=>?_)
 have st4:=st3.gn
 refine st4.segA 1 [2,3] [(4,2)] (λ _ _ st5=>wpList_nil (za (wp_seq (wp_region_list ?_))))
 refine st5.segA 1 [2,3,7] [(4,2)] (λ _ _ st6=>?_)
 obtain⟨v8,p8,h9⟩:=bs h
 refine st6.cN (l:=[.tmp 7]) 0 rfl rfl kN182 (.cons (tp rfl) .nil) (WY p8) (by simp) [2,3] rfl [4] rfl rfl (λ _ _ _ _ st7=>?_)
 have st10:=st7.gn
 refine st10.alcW (ow:=(owTree (Ow.row 72 (Ow.frz (α:=File))))) 3 rfl rfl kZ43 (owTree.z Ow.row_z) (by simp) [2,3] rfl [4,8] rfl rfl (λ b11 _ _ _ st11=>?_)
 have st12:=st11.gn
 refine st12.stO (sb:=6) (tv:=8) 3 0 (PV.root.box rfl) rfl rfl rfl kT43 (by simp) (by simp) (by decide) (zG rfl) rfl rfl rfl iI iI [2,3] rfl [4] rfl rfl rfl (λ _ _ st13=>?_)
 have st14:=st13.gn
 refine wpList_nil (za (wp_seq ?_))
 obtain⟨v16,p16,h17⟩:=bs h9
 refine st14.hdA 6 3 ((PV.root.box rfl).fld owTree.f0) [4] (λ g15 A15 _ hA15 st15=>?_)
 refine st15.drnA (D:=[_,_,_,_,_]) zD 5 [[(6,nS)],[(9,0),(6,nS)],[(3,nS)],[(11,2)],[(12,3)],[(10,1),(13,4)],[(6,nS)],[(15,6),(14,5)]] [2,10,13] [(4,2),(6,3)] (λ _ _ st18=>?_) (hs:=rc rfl rfl (xFa rfl Yi (zG rfl))<|rc rfl rfl (xLc (sb:=6) (.head _) rfl rfl rfl kT41 (tp rfl) rfl)<|rc rfl rfl (zp rfl kT72 (tp rfl))<|rc rfl rfl (zo (l:=[.tmp 11]) rfl kN183 (.cons (tp rfl) .nil) (WX p16))<|rc rfl rfl (yG (opds:=[.tmp 12]) rfl kS41 kY41 rfl rfl (by decide) (.cons (tp rfl) .nil))<|.nil)
 refine st18.mvG (s:=10) (sb:=6) 3 1 ((PV.root.box rfl).fld owTree.f0) (.head _) rfl (Yh rfl rfl) rfl (by simp) (by simp) (by decide) rfl iI [2,13] rfl [4] rfl rfl rfl rfl (λ _ H20 st20=>?_)
 have st21:=st20.gn
 refine st21.tipR (s:=10) 1 rfl rfl (by simp) iI [4,6] rfl rfl (λ g22 st22=>?_)
 obtain⟨v24,p24,h25⟩:=bs h17
 refine st22.apA 1 wO p24 [2] [4,6] (λ g23 _ _ _ st23=>?_)
 have st26:=st23.gn
 refine st26.segB 1 (sc rfl (xFa rfl Yi (opd_hl rfl))<|.nil) [2,15] [(4,2),(6,3),(14,1)] (λ _ _ st27=>?_)
 have st29:=st27.tipW (s:=14) 1 rfl rfl iI [4,6] rfl
 refine st29.shA 6 14 3 1 (tp rfl) [2] [4] (λ _ _ st28=>?_)
 have st30:=st28.gn
 refine wpList_nil (za (wp_seq ?_))
 have st31:=st30.unm (s:=6) 3 rfl rfl iI [4] rfl
 have st32:=st31.frzB (s:=6) 3 rfl (by simp) iI [2] rfl [4] rfl rfl
 obtain⟨v33,p33,v34,p34,h36⟩:=bsB h25
 refine st32.sqB (sP 1 (r:=by exact sc rfl (oK (ZD p33))<|sP 3 (r:=by exact sg rfl rfl (λ hg=>oK (ZD (gh hg p34)))<|segC))) [6,23] [(4,2)] (λ _ _ st37=>?_)
 refine st37.cs rfl h36 (λ _ h38=>wp_seq (wp_region_list ?_)) (λ _ h39=>wp_skip (za (wp_seq (wp_region_list ?_))))
 ·
  refine st37.segB 1 (sc rfl (yw (parts:=[]) (ns:=[1]) (zs:=zpTree) rfl rfl kB43 kC43 (λ w a hl=>by simp) (λ w a hl=>Tree.parts (x:=(⟨[]⟩:Tree)) xI))<|.nil) [24] [(4,2)] (λ _ _ st40=>?_)
  refine st40.stA 4 2 FldS.id (tp rfl) [] [] (λ _ _ st42=>?_)
  refine st42.segA 1 [5] [(4,2)] (λ _ _ st43=>wpList_nil (za ?_))
  refine wp_ret (zd ?_)
  obtain rfl:=Option.some.inj h38
  exact st43.ret2c rfl kT43 rfl (st43.frozen (t:=5) rfl) rfl rfl
 refine st37.segA 1 [25] [(4,2)] (λ _ _ st44=>?_)
 refine st44.stA 4 2 FldS.id (tp rfl) [] [] (λ _ _ st46=>?_)
 refine st46.segA 1 [5] [(4,2)] (λ _ _ st47=>wpList_nil (za (wp_ret ?_)))
 obtain rfl:=Option.some.inj h39
 exact st47.ret2c rfl kT43 rfl (st47.frozen (t:=5) rfl) rfl rfl
def j8(x0:Tree)(x1:Int):Option (Tree×Bool):=
(y7 x0).bind λ v6=>
(gO ((!v6) == false) (i64 ((x0.files.length:Int) - (1:Int)))).bind λ v7=>
(gO ((!v6) == false) (xh x1 (0:Int) v7)).bind λ v8=>
if((!v6)||(!v8))=true then(some ((⟨[]⟩:Tree),false))
else((jT x0).bind λ v21=>
(ZQ v21.files x1).bind λ _v29=>
(i64 (x1+(1:Int))).bind λ v30=>
(sliLO v21.files v30).bind λ _v31=>
some ((⟨((cutL v21.files x1.toNat v30.toNat).take (x1.toNat+(v21.files.length - v30.toNat)))⟩:Tree),true))
theorem zaa{x0:Tree}{x1:Int}{r:Tree×Bool}(h:j8 x0 x1=some r):Fn prog 170 [dt x0,dt x1] (dtup [dt r.1,dt r.2]):=by
 unfold j8 at h
 refine fnx (fn:=f170) 5 func170 rfl (oD rfl) rfl (λ M _ _ st0=>wp_seq (wp_region_list ?_))
 refine st0.segA 1 [1,2] [] (λ _ _ st1=>?_)
 refine st1.alA 3 Z4 [1,2] [] (λ b3 _ _ _ st3=>?_)
 have st4:=st3.gn
 refine st4.segA 1 [1,2] [(4,3)] (λ _ _ st5=>wpList_nil (za (wp_seq ?_)))
 obtain⟨v6,p6,v7,p7,v8,p8,h11⟩:=bsC h
 refine st5.sqB (sP 1 (r:=by exact sc rfl (oK (ZD p6))<|sP 6 (r:=by exact sg rfl rfl (λ hg=>xAr rfl (ze hg rfl) cI (gh hg p7))<|sg rfl rfl (λ hg=>oK (wQ (gh hg p8)))<|segC))) [1,2,18] [(4,3)] (λ _ _ st12=>?_)
 refine st12.cs rfl h11 (λ _ h13=>wp_seq (wp_region_list ?_)) (λ _ h14=>wp_skip (za (wp_seq (wp_region_list ?_))))
 ·
  refine st12.segB 1 (sc rfl (yw (parts:=[]) (ns:=[1]) (zs:=zpTree) rfl rfl kB43 kC43 (λ w a hl=>by simp) (λ w a hl=>Tree.parts (x:=(⟨[]⟩:Tree)) xI))<|.nil) [19] [(4,3)] (λ _ _ st15=>?_)
  refine st15.stA 4 3 FldS.id (tp rfl) [] [] (λ _ _ st17=>?_)
  refine st17.segA 1 [5] [(4,3)] (λ _ _ st18=>wpList_nil (za ?_))
  refine wp_ret (zd ?_)
  obtain rfl:=Option.some.inj h13
  exact st18.ret2c rfl kT43 rfl (st18.frozen (t:=5) rfl) rfl rfl
 refine st12.segA 1 [1,20] [(4,3)] (λ _ _ st19=>?_)
 obtain⟨v21,p21,h22⟩:=bs h14
 refine st19.cN (l:=[.tmp 20]) 0 rfl rfl kN182 (.cons (tp rfl) .nil) (WY p21) (by simp) [1] rfl [4] rfl rfl (λ _ _ _ _ st20=>?_)
 have st23:=st20.gn
 refine st23.alcW (ow:=(owTree (Ow.row 72 (Ow.frz (α:=File))))) 4 rfl rfl kZ43 (owTree.z Ow.row_z) (by simp) [1] rfl [4,21] rfl rfl (λ b24 _ _ _ st24=>?_)
 have st25:=st24.gn
 refine st25.stO (sb:=6) (tv:=21) 4 0 (PV.root.box rfl) rfl rfl rfl kT43 (by simp) (by simp) (by decide) (zG rfl) rfl rfl rfl iI iI [1] rfl [4] rfl rfl rfl (λ _ _ st26=>?_)
 have st27:=st26.gn
 refine wpList_nil (za (wp_seq ?_))
 obtain⟨v29,p29,v30,p30,v31,p31,h34⟩:=bsC h22
 refine st27.hdA 6 4 ((PV.root.box rfl).fld owTree.f0) [4] (λ g28 A28 _ hA28 st28=>?_)
 refine st28.drnA (D:=[_,_,_,_,_,_,_,_,_]) zD 9 [[(6,nS)],[(22,0),(6,nS)],[(1,nS)],[(23,1),(24,2),(6,nS)],[(6,nS)],[(26,4),(6,nS)],[(1,nS)],[(28,6)],[(27,5),(29,7),(6,nS)],[(25,3),(30,8)],[(6,nS)],[(32,10),(31,9)]] [25,30] [(4,3),(6,4)] (λ _ _ st35=>?_) (hs:=rc rfl rfl (xFa rfl Yi (zG rfl))<|rc rfl rfl (xLc (sb:=6) (.head _) rfl rfl rfl kT41 (tp rfl) rfl)<|rc rfl rfl (oM rfl (tp rfl))<|rc rfl rfl (xSlH (sb:=6) ((PV.root.box rfl).fld owTree.f0) (.head _) rfl rfl rfl kS41 (tp rfl) (tp rfl) p29)<|rc rfl rfl (xFa rfl Yi (zG rfl))<|rc rfl rfl (xLc (sb:=6) (.head _) rfl rfl rfl kT41 (tp rfl) rfl)<|rc rfl rfl (oM rfl (tp rfl))<|rc rfl rfl (xAr rfl (tp rfl) cI p30)<|rc rfl rfl (xSlL (sb:=6) ((PV.root.box rfl).fld owTree.f0) (.head _) rfl rfl rfl kS41 (tp rfl) (tp rfl) p31)<|.nil)
 refine st35.apCut (sb:=6) (i:=x1) (j:=v30) 4 ((PV.root.box rfl).fld owTree.f0) (.head _) rfl rfl rfl kE41 rfl iI (by simp) (tp rfl) (tp rfl) p29 p31 (decide_eq_true (by first | omega | exact lt_i64 (by assumption))) [] rfl [4] rfl rfl (λ _ _ st36=>?_)
 refine st36.segB 1 (sc rfl (xFa rfl Yi (zG rfl))<|.nil) [31,32] [(4,3),(6,4)] (λ _ _ st37=>?_)
 refine st37.stSh (sb:=6) 4 ((PV.root.box rfl).fld owTree.f0) (.head _) rfl rfl rfl rfl kT41 rfl iI (by simp) (tp rfl) (tp rfl) (cut_le p29 p31 (decide_eq_true (by first | omega | exact lt_i64 (by assumption)))) [] rfl [4] rfl rfl (λ _ st38=>wpList_nil (za ?_))
 have st39:=st38.unm (s:=6) 4 rfl rfl iI [4] rfl
 have st40:=st39.frzB (s:=6) 4 rfl (by simp) iI [] rfl [4] rfl rfl
 refine wp_seq (wp_region_list ?_)
 refine st40.segA 1 [33] [(4,3)] (λ _ _ st41=>?_)
 refine st41.stA 4 3 FldS.id (tp rfl) [] [] (λ _ _ st43=>?_)
 refine st43.segA 1 [5] [(4,3)] (λ _ _ st44=>wpList_nil (za (wp_ret ?_)))
 obtain rfl:=Option.some.inj h34
 exact st44.ret2c rfl kT43 rfl (st44.frozen (t:=5) rfl) rfl rfl
def xx(x1:Int)(o9:(List Str))(s33:Disk×Int):Option ((Disk×Int)⊕Disk):=
if(cmpI .lss s33.2 (o9.length:Int))=true then(Option.bind (α:=Disk) ((atI o9 s33.2).bind λ v42=>
(j5 s33.1.dirs x1 v42).bind λ v43=>
if(cmpI .lss v43 (0:Int))=true then((atI o9 s33.2).bind λ v52=>
(appO 56 s33.1.dirs ([(⟨x1,v52,s33.1.clock,[]⟩:Dir)]:List Dir)).bind λ v60=>
some ({ s33.1 with dirs:=v60 }))
else((atI s33.1.dirs v43).bind λ v70=>
some ({ s33.1 with dirs:=(s33.1.dirs.set v43.toNat ({ v70 with stamp:=s33.1.clock })) }))) λ o39=>
(i64 (s33.2+(1:Int))).bind λ v77=>
some (.inl (o39,v77)))
else(some (.inr s33.1))
def Zu(x0:Disk)(x1:Int)(x2:Str):Option Disk:=
Option.bind (α:=(List Str)) (if(decide (x2≠(⟨[]⟩:Str)))=true then((Yj x2).bind λ v13=>
(appO 16 [(⟨[]⟩:Str)] v13).bind λ v20=>
some v20)
else(some [(⟨[]⟩:Str)])) λ o9=>
Option.bind (α:=Disk) (zS (λ s33=>xx x1 o9 s33) (x0,(0:Int))) λ o31=>
some o31
theorem zbM{x0:Disk}{x1:Int}{x2:Str}{r:Disk}(h:Zu x0 x1 x2=some r):FnT prog 184 (owDisk (Ow.frz (α:=Tree)) (Ow.row 77 (Ow.frz (α:=Dir)))) x0 [dt x1,dt x2] (.ow (owDisk (Ow.frz (α:=Tree)) (Ow.row 77 (Ow.frz (α:=Dir)))) r):=by
 unfold Zu at h
 refine fnT (fn:=f184) 0 6 func184 rfl (oD rfl) rfl (λ M G w0 _ st0=>wp_seq (wp_region_list ?_))
 refine st0.boxW 1 0 rfl rfl rfl (by simp) (by simp) (by decide) iI [1,2] rfl [] rfl rfl rfl (λ b1 G1 M1 _ _ st1=>?_)
 have st2:=st1.gs (Gs':=[oneB none,G1,oneB none,oneB none,oneB none,oneB none]) rfl
 refine st2.alcW (ow:=(owDisk (Ow.frz (α:=Tree)) (Ow.row 77 (Ow.frz (α:=Dir))))) 5 rfl rfl kZ45 (owDisk.z Z4 Ow.row_z) (by simp) [1,2] rfl [3] rfl rfl (λ b3 _ _ _ st3=>?_)
 have st4:=st3.gs (Gs':=[oneB none,G1,oneB none,oneB none,oneB none,(oneB (some b3))]) rfl
 refine wpList_nil (za (wp_seq (wp_region_list ?_)))
 refine st4.litW (oe:=(Ow.frz (α:=Str))) (opds:=[_]) (xs:=[(⟨[]⟩:Str)]) 2 [] rfl rfl kI75 kY75 rfl rfl (by decide) rfl (by decide) (rowW_lit (oe:=(Ow.frz (α:=Str))) (G1:=noB) (OpdR.cells (zQ (by decide)) (λ s y hs=>st4.st.has s y hs)) (λ _ h=>h.elim)) (λ q hq=>by
 simp only[List.mem_cons,List.not_mem_nil,or_false] at hq
 subst hq
 exact Rep.len (OpdR.cells (zQ (by decide)) (λ s y hs=>st4.st.has s y hs))) (by simp) [1,2] rfl [3,6] rfl rfl rfl (by decide) (λ G5 _ _ _ st5=>?_)
 have st6:=st5.gs (Gs':=[oneB none,G1,G5,oneB none,oneB none,(oneB (some b3))]) rfl
 refine st6.nmR (s:=10) 2 rfl rfl iI [3,6] rfl (λ g7 A7 _ hA7 st7=>?_)
 refine st7.segA 1 [1,2] [(3,1),(6,5),(7,2)] (λ _ _ st8=>wpList_nil (za ?_))
 obtain⟨o9,p9,k9⟩:=bs h
 refine zm (λ a w=>∃ M1 q9_0 q9_1 q9_2 q9_3 q9_4 q9_5,Sx (Frm.chg w0 G) 54 M M1 [q9_0,q9_1,q9_2,q9_3,q9_4,q9_5] [(1,dt x1)] [(3,1,dow (Ow.box (owDisk (Ow.frz (α:=Tree)) (Ow.row 77 (Ow.frz (α:=Dir))))) q9_1 ⟨x0⟩),(6,5,dow (Ow.box (owDisk (Ow.frz (α:=Tree)) (Ow.row 77 (Ow.frz (α:=Dir))))) q9_5 ⟨zX⟩),(7,2,dow (Ow.row 9 (Ow.frz (α:=Str))) q9_2 o9)] a w) ?_ ?_
 ·
  refine st8.sqA [1,2,12] [(3,1),(6,5),(7,2)] (λ _ _ st10=>?_)
  refine st10.cs rfl p9 (λ _ h11=>wp_region_list ?_) (λ _ h12=>wp_skip ?_)
  ·
   obtain⟨v13,p13,h14⟩:=bsW h11 spec_above_w
   refine st10.segA 3 [1,15] [(3,1),(6,5),(7,2),(13,2)] (λ _ _ st15=>?_)
   have st17:=st15.unm (s:=13) 2 rfl rfl iI [3,6] rfl
   refine st17.tipR (s:=13) 2 rfl rfl (by simp) iI [3,6] rfl rfl (λ g18 st18=>?_)
   obtain⟨v20,p20,h21⟩:=bs h14
   refine st18.apA 2 wO p20 [1] [3,6] (λ g19 _ _ _ st19=>?_)
   have st22:=st19.gn
   refine st22.segA 1 [1] [(3,1),(6,5),(7,2)] (λ _ _ st23=>wpList_nil ?_)
   have st24:=st23.unm (s:=3) 1 rfl rfl iI [6,7] rfl
   have st25:=st24.unm (s:=6) 5 rfl rfl iI [3,7] rfl
   have st26:=st25.tipW (s:=7) 2 rfl rfl iI [3,6] rfl
   refine za ?_
   cases h21
   exact fx
  have st27:=st10.unm (s:=3) 1 rfl rfl iI [6,7] rfl
  have st28:=st27.unm (s:=6) 5 rfl rfl iI [3,7] rfl
  have st29:=st28.unm (s:=7) 2 rfl rfl iI [3,6] rfl
  refine za ?_
  cases h12
  exact fx
 rintro a9 w9 ⟨M9,q9_0,q9_1,q9_2,q9_3,q9_4,q9_5,st9⟩
 have h30:=k9
 obtain⟨o31,p31,k31⟩:=bs h30
 refine zm (λ a w=>∃ M1 q31_0 q31_1 q31_2 q31_3 q31_4 q31_5,Sx (Frm.chg w0 G) 54 M M1 [q31_0,q31_1,q31_2,q31_3,q31_4,q31_5] [] [(3,1,dow (Ow.box (owDisk (Ow.frz (α:=Tree)) (Ow.row 77 (Ow.frz (α:=Dir))))) q31_1 ⟨o31⟩),(6,5,dow (Ow.box (owDisk (Ow.frz (α:=Tree)) (Ow.row 77 (Ow.frz (α:=Dir))))) q31_5 ⟨zX⟩)] a w) ?_ ?_
 ·
  refine st9.sqA [1,8] [(3,1),(6,5),(7,2)] (λ _ _ st32=>wp_block ?_)
  refine zL p31 (λ s33 a w=>∃ M1 q33_0 q33_1 q33_2 q33_3 q33_4 q33_5,Sx (Frm.chg w0 G) 54 M M1 [q33_0,q33_1,q33_2,q33_3,q33_4,q33_5] [(1,dt x1),(8,dt s33.2)] [(3,1,dow (Ow.box (owDisk (Ow.frz (α:=Tree)) (Ow.row 77 (Ow.frz (α:=Dir))))) q33_1 ⟨s33.1⟩),(6,5,dow (Ow.box (owDisk (Ow.frz (α:=Tree)) (Ow.row 77 (Ow.frz (α:=Dir))))) q33_5 ⟨zX⟩),(7,2,dow (Ow.row 9 (Ow.frz (α:=Str))) q33_2 o9)] a w) fx ?_
  rintro s33 z33 a33 w33 ⟨M33,q33_0,q33_1,q33_2,q33_3,q33_4,q33_5,st33⟩ hs33 hx33
  have h34:xx x1 o9 s33=some z33:=hs33
  unfold xx at h34
  refine wp_seq ?_
  refine st33.nmR (s:=7) 2 rfl rfl iI [3,6] rfl (λ g35 A35 _ hA35 st35=>?_)
  refine st35.sqB (sc rfl (oM rfl (tp rfl))<|sc rfl (oM rfl (tp rfl))<|sc rfl (xLeN rfl kL75 rfl)<|sc rfl (oCI rfl (tp rfl) (tp rfl))<|.nil) [1,8,20] [(3,1),(6,5),(7,2)] (λ _ _ st36=>?_)
  refine st36.cs rfl h34 (λ _ h37=>wp_skip (za ?_)) (λ _ h38=>wp_exit (zh (zh (zE ?_))))
  ·
   obtain⟨o39,p39,k39⟩:=bs h37
   refine zm (λ a w=>∃ M1 q39_0 q39_1 q39_2 q39_3 q39_4 q39_5,Sx (Frm.chg w0 G) 54 M M1 [q39_0,q39_1,q39_2,q39_3,q39_4,q39_5] [(1,dt x1),(8,dt s33.2)] [(3,1,dow (Ow.box (owDisk (Ow.frz (α:=Tree)) (Ow.row 77 (Ow.frz (α:=Dir))))) q39_1 ⟨o39⟩),(6,5,dow (Ow.box (owDisk (Ow.frz (α:=Tree)) (Ow.row 77 (Ow.frz (α:=Dir))))) q39_5 ⟨zX⟩),(7,2,dow (Ow.row 9 (Ow.frz (α:=Str))) q39_2 o9)] a w) ?_ ?_
   ·
    refine wp_block (wp_seq ?_)
    obtain⟨v42,p42,v43,p43,h45⟩:=bsB p39
    refine st36.nmB (s:=3) 1 rfl rfl iI [6,7] rfl (λ b40 st40=>?_)
    refine st40.hdA 3 1 ((PV.root.box rfl).fld owDisk.f2) [6,7] (λ g41 A41 _ hA41 st41=>?_)
    refine st41.drA (D:=[_,_,_,_,_,_,_,_,_]) zD [[(3,nS)],[(23,0),(3,nS)],[(1,nS)],[(7,nS)],[(8,nS)],[(26,3),(27,4)],[(28,5),(7,nS)],[(24,1),(25,2),(29,6),(3,nS)],[(30,7)]] [1,8,9] [(3,1),(6,5),(7,2)] (λ _ _ st46=>?_) (hs:=rc rfl rfl (xFa rfl Jn (zG rfl))<|rc rfl rfl (xLc (sb:=3) (.head _) rfl rfl rfl kT33 (tp rfl) rfl)<|rc rfl rfl (oM rfl (tp rfl))<|rc rfl rfl (oM rfl (tp rfl))<|rc rfl rfl (oM rfl (tp rfl))<|rc rfl rfl (xIaN rfl kS75 rfl (tp rfl) hA35 p42)<|rc rfl rfl (xLf (sb:=7) (PV.root.row rfl hA35 p42) rfl kT9 (tp rfl) rfl)<|rc rfl rfl (W8 (l:=[.tmp 24,.tmp 25,.tmp 29]) st41.ob.sub rfl kN125 (.cons (lendP (sb:=3) st41.ob 1 ((PV.root.box rfl).fld owDisk.f2) (.head _) rfl (Yh rfl rfl) (tp rfl) rfl iI) (.cons (Ww st41.ob.sub (tp rfl)) (.cons (Ww st41.ob.sub (tp rfl)) .nil))) (Xj p43) Xu)<|rc rfl rfl (oA rfl (tp rfl))<|.nil)
    have st47:=st46.ncf (s:=3) 1 rfl rfl iI [6,7] rfl
    refine za ?_
    refine st47.sqA [1,8,9,32] [(3,1),(6,5),(7,2)] (λ _ _ st48=>?_)
    refine st48.cs rfl h45 (λ _ h49=>?_) (λ _ h50=>wp_region_list ?_)
    ·
     obtain⟨v52,p52,h53⟩:=bs h49
     refine st48.hdA 3 1 ((PV.root.box rfl).fld owDisk.f2) [6,7] (λ g51 A51 _ hA51 st51=>?_)
     refine st51.drnA (D:=[_,_,_,_,_,_,_,_,_,_,_]) zD 11 [[(3,nS)],[(33,0),(3,nS)],[(1,nS)],[(7,nS)],[(8,nS)],[(36,3),(37,4)],[(38,5),(7,nS)],[(3,nS)],[(40,7),(3,nS)],[(35,2),(39,6),(41,8)],[(42,9)],[(34,1),(43,10)],[(3,nS)],[(45,12),(44,11)]] [1,8,34,43] [(3,1),(6,5),(7,2)] (λ _ _ st54=>?_) (hs:=rc rfl rfl (xFa rfl Jn (zG rfl))<|rc rfl rfl (xLc (sb:=3) (.head _) rfl rfl rfl kT33 (tp rfl) rfl)<|rc rfl rfl (oM rfl (tp rfl))<|rc rfl rfl (oM rfl (tp rfl))<|rc rfl rfl (oM rfl (tp rfl))<|rc rfl rfl (xIaN rfl kS75 rfl (tp rfl) hA35 p52)<|rc rfl rfl (xLf (sb:=7) (PV.root.row rfl hA35 p52) rfl kT9 (tp rfl) rfl)<|rc rfl rfl (xFa rfl zaM (zG rfl))<|rc rfl rfl (xLf (sb:=3) ((PV.root.box rfl).fld owDisk.f1) rfl kT3 (tp rfl) rfl)<|rc rfl rfl (kD77_0_1_2 rfl (tp rfl) (tp rfl) (tp rfl))<|rc rfl rfl (yG (opds:=[.tmp 42]) rfl kS33 kY33 rfl rfl (by decide) (.cons (tp rfl) .nil))<|.nil)
     refine st54.mvG (s:=34) (sb:=3) 1 3 ((PV.root.box rfl).fld owDisk.f2) (.head _) rfl (Yh rfl rfl) rfl (by simp) (by simp) (by decide) rfl iI [1,8,43] rfl [6,7] rfl rfl rfl rfl (λ _ H56 st56=>?_)
     have st57:=st56.gn
     refine st57.tipR (s:=34) 3 rfl rfl (by simp) iI [3,6,7] rfl rfl (λ g58 st58=>?_)
     obtain⟨v60,p60,h61⟩:=bs h53
     refine st58.apA 3 wO p60 [1,8] [3,6,7] (λ g59 _ _ _ st59=>?_)
     have st62:=st59.gn
     refine st62.segB 1 (sc rfl (xFa rfl Jn (opd_hl rfl))<|.nil) [1,8,45] [(3,1),(6,5),(7,2),(44,3)] (λ _ _ st63=>?_)
     have st65:=st63.tipW (s:=44) 3 rfl rfl iI [3,6,7] rfl
     refine st65.shA 3 44 1 3 (tp rfl) [1,8] [6,7] (λ _ _ st64=>?_)
     have st66:=st64.gn
     refine wpList_nil (zg ?_)
     have st67:=st66.unm (s:=3) 1 rfl rfl iI [6,7] rfl
     have st68:=st67.unm (s:=7) 2 rfl rfl iI [3,6] rfl
     refine za ?_
     cases h61
     exact fx
    obtain⟨v70,p70,h71⟩:=bs h50
    refine st48.hdA 3 1 ((PV.root.box rfl).fld owDisk.f2) [6,7] (λ g69 A69 _ hA69 st69=>?_)
    refine st69.segB 7 (sc rfl (xFa rfl Jn (zG rfl))<|sc rfl (xLc (sb:=3) (.head _) rfl rfl rfl kT33 (tp rfl) rfl)<|sP 1 (r:=by exact sc rfl (xFa rfl zaM (zG rfl))<|sc rfl (xLf (sb:=3) ((PV.root.box rfl).fld owDisk.f1) rfl kT3 (tp rfl) rfl)<|sc rfl (xIa (g:=g69) rfl kS33 (tp rfl) (tp rfl) rfl (λ h=>hA69 h rfl) p70)<|segC)) [1,8,50,52] [(3,1),(6,5),(7,2)] (λ _ _ st72=>?_)
    refine st72.sfA 3 1 ((((PV.root.box rfl).fld owDisk.f2).row (.head _) rfl (λ h=>hA69 h rfl) p70).fld Dir.z2) (tp rfl) (tp rfl) [1,8] [6,7] (λ _ st73=>wpList_nil (zg ?_))
    have st74:=st73.unm (s:=3) 1 rfl rfl iI [6,7] rfl
    have st75:=st74.unm (s:=7) 2 rfl rfl iI [3,6] rfl
    refine za ?_
    cases h71
    exact fx
   rintro a39 w39 ⟨M39,q39_0,q39_1,q39_2,q39_3,q39_4,q39_5,st39⟩
   have h76:=k39
   obtain⟨v77,p77,h78⟩:=bs h76
   refine st39.rgA [1,8] [(3,1),(6,5),(7,2)] (λ _ _ st79=>za ?_)
   exact fl h78
  refine za ?_
  have h80:=lo h38 hx33
  cases h80
  exact fx
 rintro a31 w31 ⟨M31,q31_0,q31_1,q31_2,q31_3,q31_4,q31_5,st31⟩
 have h81:=k31
 refine wp_seq (wp_region_list ?_)
 refine st31.nmB (s:=3) 1 rfl rfl iI [6] rfl (λ b83 st83=>?_)
 refine st83.ldW (sb:=3) 1 rfl rfl kT45 rfl (by simp) iI [] rfl [6] rfl rfl (λ _ _ st82=>?_)
 refine st82.nmB (s:=6) 5 rfl rfl iI [53] rfl (λ b85 st85=>?_)
 refine st85.stO (sb:=6) (tv:=53) 5 1 (PV.root.box rfl) rfl rfl rfl kT45 (by simp) (by simp) (by decide) (zG rfl) rfl rfl rfl iI iI [] rfl [] rfl rfl rfl (λ _ _ st84=>?_)
 have st86:=st84.gn
 refine wpList_nil (za (wp_ret ?_))
 exact st86.rtC 5 rfl kT45 rfl iI h81
def qC(x0:Disk)(x1:Tree)(x2:Int)(x3:Str)(x4:Int):Option (Disk×Bool):=
(i64 (x0.clock+x4)).bind λ v11=>
(jR x0.dirs).bind λ v17=>
(Zu (⟨x1,v11,v17⟩:Disk) x2 x3).bind λ v65=>
(xn v65).bind λ v72=>
if(!v72)=true then(some ((⟨Yu,0,[]⟩:Disk),false))
else(some (v65,true))
theorem Jr{x0:Disk}{x1:Tree}{x2:Int}{x3:Str}{x4:Int}{r:Disk×Bool}(h:qC x0 x1 x2 x3 x4=some r):Fn prog 168 [dt x0,dt x1,dt x2,dt x3,dt x4] (dtup [dt r.1,dt r.2]):=by
 unfold qC at h
 refine fnx (fn:=f168) 5 func168 rfl (oD rfl) rfl (λ M w0 _ st0=>wp_seq (wp_region_list ?_))
 refine st0.segA 2 [2,3,4,5,6] [] (λ _ _ st1=>?_)
 refine st1.alA 3 jh [2,3,4,5,6] [] (λ b3 _ _ _ st3=>?_)
 have st4:=st3.gn
 refine st4.segA 1 [2,3,4,5,6] [(10,3)] (λ _ _ st5=>wpList_nil (za (wp_seq ?_)))
 refine st5.heldF zD (λ c6 _ hz6 st6=>?_)
 refine st6.tkLp (i:=0) rfl rfl (by decide +kernel) (by decide +kernel) (by decide +kernel) (λ _ _ _ _ h=>h) (st6.fzS (g:=31) rfl) hz6 rfl kT43 (tp rfl) (λ _ st7=>?_)
 refine st7.tkFp (i:=1) rfl rfl (by decide +kernel) (by decide +kernel) (by decide +kernel) (λ _ _ _ _ h=>h) (st7.fzS (g:=31) rfl) Disk.fld1 rfl zaM (tp rfl) (next:=λ a8 st8=>?_)
 refine st8.tkLp (i:=2) rfl rfl (by decide +kernel) (by decide +kernel) (by decide +kernel) (λ _ _ _ _ h=>h) (st8.fzS (g:=31) rfl) hz6 rfl kT3 (tp rfl) (λ _ st9=>?_)
 refine st9.tM 3 4 (st9.fzS (g:=31) rfl) (λ _ st10=>?_)
 obtain⟨v11,p11,h13⟩:=bs h
 refine st10.tkAr (i:=4) rfl rfl (by decide +kernel) (by decide +kernel) (by decide +kernel) (λ _ _ _ _ h=>h) (st10.fzS (g:=31) rfl) rfl (tp rfl) (tp rfl) p11 (next:=λ a12 st12=>?_)
 refine st12.tkFp (i:=5) rfl rfl (by decide +kernel) (by decide +kernel) (by decide +kernel) (λ _ _ _ _ h=>h) (st12.fzS (g:=31) rfl) Disk.fld2 rfl Jn (tp rfl) (next:=λ a14 st14=>?_)
 refine st14.tkLp (i:=6) rfl rfl (by decide +kernel) (by decide +kernel) (by decide +kernel) (λ _ _ _ _ h=>h) (st14.fzS (g:=31) rfl) hz6 rfl kT33 (tp rfl) (λ _ st15=>?_)
 obtain⟨v17,p17,h27⟩:=bs h13
 refine zq 1 1023 (λ a w=>∃ M1 q48_1 q48_3 q48_4,Sx (Frm.of w0) 31 M M1 [oneB none,q48_1,oneB none,oneB q48_3,q48_4] [(2,dt x2),(3,dt x3),(31,dfz c6)] [(10,3,dbox q48_3 0 zX),(12,4,dow (Ow.box (owDisk (Ow.frz (α:=Tree)) (Ow.row 77 (Ow.frz (α:=Dir))))) q48_4 ⟨zX⟩),(21,1,dow (owDisk (Ow.frz (α:=Tree)) (Ow.row 77 (Ow.frz (α:=Dir)))) q48_1 (⟨x1,v11,v17⟩:Disk))] a w) ?_ (λ n48=>?_)
 ·
  rintro a48 w48 ⟨M48,q48_1,q48_3,q48_4,st48⟩
  refine aK1 10 ?_
  refine st48.nmB (s:=12) 4 rfl rfl iI [10,21] rfl (λ b57 st57=>?_)
  refine st57.stO (sb:=12) (tv:=21) 4 1 (PV.root.box rfl) rfl rfl rfl kT45 (by simp) (by simp) (by decide) (zG rfl) rfl rfl rfl iI iI [2,3,31] rfl [10] rfl rfl rfl (λ _ _ st56=>?_)
  have st58:=st56.gn
  have st59:=st58.unm (s:=12) 4 rfl rfl iI [10] rfl
  refine aHN (st59.fzS (g:=31) rfl) ?_
  refine aK0 (za (wp_seq (wp_region_list ?_)))
  refine st59.nmB (s:=12) 4 rfl rfl iI [10] rfl (λ b60 st60=>?_)
  refine st60.ldK (sb:=12) 4 2 rfl rfl kT45 rfl (by simp) (by simp) (by decide) iI [2,3] rfl [10] rfl rfl rfl rfl (λ _ H61 _ _ st61=>?_)
  have st62:=st61.gn
  refine st62.segA 2 [23,24] [(10,3),(12,4),(22,2)] (λ _ _ st63=>?_)
  obtain⟨v65,p65,h66⟩:=bs h27
  refine st63.cT (sb:=22) (l:=[.tmp 23,.tmp 24]) 2 rfl rfl kN184 rfl iI (by simp) (.cons (tp rfl) (.cons (tp rfl) .nil)) (zbM p65) [] rfl [10,12] rfl rfl (λ _ _ _ _ st64=>?_)
  have st67:=st64.gn
  refine st67.stRv (sb:=12) (tv:=25) 4 2 rfl rfl rfl kT45 (by simp) (by simp) (by decide) rfl rfl iI rfl iI [] rfl [10] rfl rfl rfl (λ _ _ st68=>?_)
  have st69:=st68.gn
  refine wpList_nil (za (wp_seq ?_))
  obtain⟨v72,p72,h73⟩:=bs h66
  refine st69.nmB (s:=12) 4 rfl rfl iI [10] rfl (λ b70 st70=>?_)
  refine st70.hdW (s:=12) 4 true (λ _=>(PV.root.box rfl)) rfl rfl iI [10] rfl (λ cs71 hS71 st71=>?_)
  refine st71.sqB (sc rfl (xLw (sb:=12) (.head _) rfl (hS71 rfl) rfl kT45 (zG rfl) rfl)<|sc rfl (W8 (l:=[.tmp 26]) st71.ob.sub rfl kN48 (.cons (lendP (sb:=12) st71.ob 4 (PV.root.box rfl) (.head _) rfl (QY rfl (hS71 rfl)) (tp rfl) rfl iI) .nil) (qz p72) flat_bool)<|segC) [28] [(10,3),(12,4)] (λ _ _ st74=>?_)
  have st75:=st74.ncf (s:=12) 4 rfl rfl iI [10] rfl
  refine st75.cs rfl h73 (λ _ h76=>wp_seq (wp_region_list ?_)) (λ _ h77=>wp_skip (za ?_))
  ·
   refine st75.segB 1 (sc rfl (yw (parts:=[]) (ns:=[1,1,1]) (zs:=Wz) rfl rfl kB45 kC45 (λ w a hl=>by simp) (λ w a hl=>Disk.parts (x:=(⟨Yu,0,[]⟩:Disk)) (Z4 _ _) ⟨rfl,trivial⟩ xI))<|.nil) [29] [(10,3)] (λ _ _ st78=>?_)
   refine st78.stA 10 3 FldS.id (tp rfl) [] [] (λ _ _ st80=>?_)
   refine st80.segA 1 [11] [(10,3)] (λ _ _ st81=>wpList_nil (za ?_))
   refine wp_ret (zd ?_)
   obtain rfl:=Option.some.inj h76
   exact st81.ret2c rfl kT45 rfl (st81.frozen (t:=11) rfl) rfl rfl
  have st82:=st75.unm (s:=12) 4 rfl rfl iI [10] rfl
  have st83:=st82.frzB (s:=12) 4 rfl (by simp) iI [28] rfl [10] rfl rfl
  refine wp_seq (wp_region_list ?_)
  refine st83.segA 1 [30] [(10,3)] (λ _ _ st84=>?_)
  refine st84.stA 10 3 FldS.id (tp rfl) [] [] (λ _ _ st86=>?_)
  refine st86.segA 1 [11] [(10,3)] (λ _ _ st87=>wpList_nil (za (wp_ret ?_)))
  obtain rfl:=Option.some.inj h77
  exact st87.ret2c rfl kT45 rfl (st87.frozen (t:=11) rfl) rfl rfl
 refine zq 2 511 (λ a w=>∃ M1 q38_1 q38_3,Sx (Frm.of w0) 31 M M1 [oneB none,q38_1,oneB none,oneB q38_3,oneB none] [(2,dt x2),(3,dt x3),(31,dfz c6)] [(10,3,dbox q38_3 0 zX),(21,1,dow (owDisk (Ow.frz (α:=Tree)) (Ow.row 77 (Ow.frz (α:=Dir)))) q38_1 (⟨x1,v11,v17⟩:Disk))] a w) ?_ (λ n38=>?_)
 ·
  rintro a38 w38 ⟨M38,q38_1,q38_3,st38⟩
  refine aK1 9 ?_
  refine st38.alcW (ow:=(owDisk (Ow.frz (α:=Tree)) (Ow.row 77 (Ow.frz (α:=Dir))))) 4 rfl rfl kZ45 (owDisk.z Z4 Ow.row_z) (by simp) [2,3,31] rfl [10,21] rfl rfl (λ b88 _ _ _ st88=>?_)
  have st89:=st88.gn
  have st90:=st89.unm (s:=12) 4 rfl rfl iI [10,21] rfl
  exact aHe n48 (st90.fzS (g:=31) rfl)
 refine zq 2 767 (λ a w=>∃ M1 q42_0 q42_3 q42_4,Sx (Frm.of w0) 31 M M1 [q42_0,oneB none,oneB none,oneB q42_3,q42_4] [(2,dt x2),(3,dt x3),(13,dt x1),(17,dt v11),(31,dfz c6)] [(10,3,dbox q42_3 0 zX),(12,4,dow (Ow.box (owDisk (Ow.frz (α:=Tree)) (Ow.row 77 (Ow.frz (α:=Dir))))) q42_4 ⟨zX⟩),(20,0,dow (Ow.row 77 (Ow.frz (α:=Dir))) q42_0 v17)] a w) ?_ (λ n42=>?_)
 ·
  rintro a42 w42 ⟨M42,q42_0,q42_3,q42_4,st42⟩
  refine aK1 8 ?_
  refine st42.bldW (ow:=(owDisk (Ow.frz (α:=Tree)) (Ow.row 77 (Ow.frz (α:=Dir))))) (parts:=[(0,.tmp 13),(1,.tmp 17),(2,.tmp 20)]) (ns:=[1,1,1]) (zs:=Wz) (x:=(⟨x1,v11,v17⟩:Disk)) 1 [0] rfl rfl rfl kB45 kC45 (by
 intro p hp;simp only[List.mem_cons,List.not_mem_nil,or_false] at hp
 rcases hp with rfl | rfl | rfl
 ·
  exact⟨by decide,Rep.len (α:=Tree) (OpdR.cells (tp rfl) (λ s y hs=>st42.st.has s y hs))⟩
 ·
  exact⟨by decide,Rep.len (α:=Int) (OpdR.cells (tp rfl) (λ s y hs=>st42.st.has s y hs))⟩
 ·
  exact⟨by decide,Ow.len _ (jO (st42.st.has 20 _ rfl))⟩) (((owDisk (Ow.frz (α:=Tree)) (Ow.row 77 (Ow.frz (α:=Dir))))).more (owDisk.mk (x:=(⟨x1,v11,v17⟩:Disk)) (g0:=noB) (OpdR.cells (tp rfl) (λ s y hs=>st42.st.has s y hs)) (OpdR.cells (tp rfl) (λ s y hs=>st42.st.has s y hs)) (jO (st42.st.has 20 _ rfl)) (λ b h1=>(λ h2=>h1.elim))) (λ b=>(λ hb=>hb.elim (λ hb=>hb.elim) (λ hb=>⟨0,by simp,hb⟩)))) (by simp) [2,3,31] rfl [10,12] rfl rfl rfl (λ G91 _ _ st91=>?_)
  have st92:=st91.gs (Gs':=[oneB none,G91,oneB none,oneB q42_3,q42_4]) rfl
  have st93:=st92.gs (Gs':=[oneB none,G91,oneB none,oneB q42_3,q42_4]) rfl
  exact aHe n48 (st93.fzS (g:=31) rfl)
 refine zq 3 255 (λ a w=>∃ M1 q30_0 q30_3,Sx (Frm.of w0) 31 M M1 [q30_0,oneB none,oneB none,oneB q30_3,oneB none] [(2,dt x2),(3,dt x3),(13,dt x1),(17,dt v11),(31,dfz c6)] [(10,3,dbox q30_3 0 zX),(20,0,dow (Ow.row 77 (Ow.frz (α:=Dir))) q30_0 v17)] a w) ?_ (λ n30=>?_)
 ·
  rintro a30 w30 ⟨M30,q30_0,q30_3,st30⟩
  refine aK2 8 9 ?_ ?_
  ·
   refine st30.bldW (ow:=(owDisk (Ow.frz (α:=Tree)) (Ow.row 77 (Ow.frz (α:=Dir))))) (parts:=[(0,.tmp 13),(1,.tmp 17),(2,.tmp 20)]) (ns:=[1,1,1]) (zs:=Wz) (x:=(⟨x1,v11,v17⟩:Disk)) 1 [0] rfl rfl rfl kB45 kC45 (by
 intro p hp;simp only[List.mem_cons,List.not_mem_nil,or_false] at hp
 rcases hp with rfl | rfl | rfl
 ·
  exact⟨by decide,Rep.len (α:=Tree) (OpdR.cells (tp rfl) (λ s y hs=>st30.st.has s y hs))⟩
 ·
  exact⟨by decide,Rep.len (α:=Int) (OpdR.cells (tp rfl) (λ s y hs=>st30.st.has s y hs))⟩
 ·
  exact⟨by decide,Ow.len _ (jO (st30.st.has 20 _ rfl))⟩) (((owDisk (Ow.frz (α:=Tree)) (Ow.row 77 (Ow.frz (α:=Dir))))).more (owDisk.mk (x:=(⟨x1,v11,v17⟩:Disk)) (g0:=noB) (OpdR.cells (tp rfl) (λ s y hs=>st30.st.has s y hs)) (OpdR.cells (tp rfl) (λ s y hs=>st30.st.has s y hs)) (jO (st30.st.has 20 _ rfl)) (λ b h1=>(λ h2=>h1.elim))) (λ b=>(λ hb=>hb.elim (λ hb=>hb.elim) (λ hb=>⟨0,by simp,hb⟩)))) (by simp) [2,3,31] rfl [10] rfl rfl rfl (λ G94 _ _ st94=>?_)
   have st95:=st94.gs (Gs':=[oneB none,G94,oneB none,oneB q30_3,oneB none]) rfl
   have st96:=st95.gs (Gs':=[oneB none,G94,oneB none,oneB q30_3,oneB none]) rfl
   exact aHe n38 (st96.fzS (g:=31) rfl)
  ·
   refine st30.alcW (ow:=(owDisk (Ow.frz (α:=Tree)) (Ow.row 77 (Ow.frz (α:=Dir))))) 4 rfl rfl kZ45 (owDisk.z Z4 Ow.row_z) (by simp) [2,3,13,17,31] rfl [10,20] rfl rfl (λ b97 _ _ _ st97=>?_)
   have st98:=st97.gn
   have st99:=st98.unm (s:=12) 4 rfl rfl iI [10,20] rfl
   exact aHe n42 (st99.fzS (g:=31) rfl)
 refine zq 3 639 (λ a w=>∃ M1 q34_3 q34_4,Sx (Frm.of w0) 31 M M1 [oneB none,oneB none,oneB none,oneB q34_3,q34_4] [(2,dt x2),(3,dt x3),(13,dt x1),(17,dt v11),(19,dt x0.dirs),(31,dfz c6)] [(10,3,dbox q34_3 0 zX),(12,4,dow (Ow.box (owDisk (Ow.frz (α:=Tree)) (Ow.row 77 (Ow.frz (α:=Dir))))) q34_4 ⟨zX⟩)] a w) ?_ (λ n34=>?_)
 ·
  rintro a34 w34 ⟨M34,q34_3,q34_4,st34⟩
  refine aK1 7 ?_
  refine st34.cN (l:=[.tmp 19]) 0 rfl rfl kN99 (.cons (tp rfl) .nil) (Xc p17).n (by simp) [2,3,13,17,31] rfl [10,12] rfl rfl (λ _ _ _ _ st100=>?_)
  have st101:=st100.gn
  exact aHe n42 (st101.fzS (g:=31) rfl)
 refine aK2 7 9 ?_ ?_
 ·
  refine st15.cN (l:=[.tmp 19]) 0 rfl rfl kN99 (.cons (tp rfl) .nil) (Xc p17).n (by simp) [2,3,13,17,31] rfl [10] rfl rfl (λ _ _ _ _ st102=>?_)
  have st103:=st102.gn
  exact aHe n30 (st103.fzS (g:=31) rfl)
 ·
  refine st15.alcW (ow:=(owDisk (Ow.frz (α:=Tree)) (Ow.row 77 (Ow.frz (α:=Dir))))) 4 rfl rfl kZ45 (owDisk.z Z4 Ow.row_z) (by simp) [2,3,13,17,19,31] rfl [10] rfl rfl (λ b104 _ _ _ st104=>?_)
  have st105:=st104.gn
  have st106:=st105.unm (s:=12) 4 rfl rfl iI [10] rfl
  exact aHe n34 (st106.fzS (g:=31) rfl)
def Zv(x0:Disk)(x1:File)(x2:Int):Option (Disk×Bool):=
(xn x0).bind λ v5=>
(gO ((!v5) == false) (xh x2 (0:Int) (200:Int))).bind λ v6=>
if((!v5)||(!v6))=true then(some ((⟨Yu,0,[]⟩:Disk),false))
else((Zt x0.tree x1).bind λ v16=>
if(!v16.2)=true then(some ((⟨Yu,0,[]⟩:Disk),false))
else((qC x0 v16.1 x1.root x1.pkg x2).bind λ v31=>
some (v31.1,v31.2)))
theorem Js{x0:Disk}{x1:File}{x2:Int}{r:Disk×Bool}(h:Zv x0 x1 x2=some r):Fn prog 148 [dt x0,dt x1,dt x2] (dtup [dt r.1,dt r.2]):=by
 unfold Zv at h
 refine fnx (fn:=f148) 2 func148 rfl (oD rfl) rfl (λ M _ _ st0=>wp_seq (wp_region_list ?_))
 refine st0.segA 2 [2,3,4] [] (λ _ _ st1=>?_)
 refine st1.alA 0 jh [2,3,4] [] (λ b3 _ _ _ st3=>?_)
 refine st3.segA 1 [2,3,4] [(6,0)] (λ _ _ st4=>wpList_nil (za (wp_seq ?_)))
 obtain⟨v5,p5,v6,p6,h8⟩:=bsB h
 refine st4.sqB (sP 1 (r:=by exact sc rfl (oK (qz p5))<|sP 3 (r:=by exact sg rfl rfl (λ hg=>oK (wQ (gh hg p6)))<|segC))) [2,3,4,17] [(6,0)] (λ _ _ st9=>?_)
 refine st9.cs rfl h8 (λ _ h10=>wp_seq (wp_region_list ?_)) (λ _ h11=>wp_skip (za (wp_seq (wp_region_list ?_))))
 ·
  refine st9.segB 1 (sc rfl (yw (parts:=[]) (ns:=[1,1,1]) (zs:=Wz) rfl rfl kB45 kC45 (λ w a hl=>by simp) (λ w a hl=>Disk.parts (x:=(⟨Yu,0,[]⟩:Disk)) (Z4 _ _) ⟨rfl,trivial⟩ xI))<|.nil) [18] [(6,0)] (λ _ _ st12=>?_)
  refine st12.stA 6 0 FldS.id (tp rfl) [] [] (λ _ _ st14=>?_)
  refine st14.segA 1 [7] [(6,0)] (λ _ _ st15=>wpList_nil (za ?_))
  refine wp_ret (zd ?_)
  obtain rfl:=Option.some.inj h10
  exact st15.ret2c rfl kT45 rfl (st15.frozen (t:=7) rfl) rfl rfl
 obtain⟨v16,p16,h17⟩:=bsW h11 zbL
 refine st9.segA 7 [2,3,4,24,25] [(6,0)] (λ _ _ st18=>?_)
 refine st18.alA 1 Z4 [2,3,4,24,25] [6] (λ b20 _ _ _ st20=>?_)
 refine st20.stA 8 1 FldS.id (tp rfl) [2,3,4,25] [6] (λ _ _ st22=>?_)
 refine st22.segA 1 [2,3,4,9] [(6,0),(8,1)] (λ _ _ st23=>wpList_nil (za (wp_seq ?_)))
 refine st23.sqA [2,3,4,27] [(6,0),(8,1)] (λ _ _ st24=>?_)
 refine st24.cs rfl h17 (λ _ h25=>wp_seq (wp_region_list ?_)) (λ _ h26=>wp_skip (za (wp_seq (wp_region_list ?_))))
 ·
  refine st24.segB 1 (sc rfl (yw (parts:=[]) (ns:=[1,1,1]) (zs:=Wz) rfl rfl kB45 kC45 (λ w a hl=>by simp) (λ w a hl=>Disk.parts (x:=(⟨Yu,0,[]⟩:Disk)) (Z4 _ _) ⟨rfl,trivial⟩ xI))<|.nil) [28] [(6,0)] (λ _ _ st27=>?_)
  refine st27.stA 6 0 FldS.id (tp rfl) [] [] (λ _ _ st29=>?_)
  refine st29.segA 1 [7] [(6,0)] (λ _ _ st30=>wpList_nil (za ?_))
  refine wp_ret (zd ?_)
  obtain rfl:=Option.some.inj h25
  exact st30.ret2c rfl kT45 rfl (st30.frozen (t:=7) rfl) rfl rfl
 obtain⟨v31,p31,h32⟩:=bsW h26 Jr
 refine st24.segC 10 [37,38] [(6,0)] (λ _ _ st33=>?_)
 refine st33.stA 6 0 FldS.id (tp rfl) [38] [] (λ _ _ st35=>?_)
 refine st35.segA 1 [7] [(6,0)] (λ _ _ st36=>wpList_nil (za (wp_ret ?_)))
 obtain rfl:=Option.some.inj h32
 exact st36.ret2c rfl kT45 rfl (st36.frozen (t:=7) rfl) rfl rfl
def j9(x0:Disk)(x1:Int)(x2:Int):Option (Disk×Bool):=
(xn x0).bind λ v5=>
(gO ((!v5) == false) (xh x2 (0:Int) (200:Int))).bind λ v6=>
if((!v5)||(!v6))=true then(some ((⟨Yu,0,[]⟩:Disk),false))
else((j8 x0.tree x1).bind λ v16=>
if(!v16.2)=true then(some ((⟨Yu,0,[]⟩:Disk),false))
else((atI x0.tree.files x1).bind λ v31=>
(atI x0.tree.files x1).bind λ v32=>
(qC x0 v16.1 v31.root v32.pkg x2).bind λ v33=>
some (v33.1,v33.2)))
theorem zab{x0:Disk}{x1:Int}{x2:Int}{r:Disk×Bool}(h:j9 x0 x1 x2=some r):Fn prog 150 [dt x0,dt x1,dt x2] (dtup [dt r.1,dt r.2]):=by
 unfold j9 at h
 refine fnx (fn:=f150) 2 func150 rfl (oD rfl) rfl (λ M _ _ st0=>wp_seq (wp_region_list ?_))
 refine st0.segA 1 [1,2,3] [] (λ _ _ st1=>?_)
 refine st1.alA 0 jh [1,2,3] [] (λ b3 _ _ _ st3=>?_)
 refine st3.segA 1 [1,2,3] [(6,0)] (λ _ _ st4=>wpList_nil (za (wp_seq ?_)))
 obtain⟨v5,p5,v6,p6,h8⟩:=bsB h
 refine st4.sqB (sP 1 (r:=by exact sc rfl (oK (qz p5))<|sP 3 (r:=by exact sg rfl rfl (λ hg=>oK (wQ (gh hg p6)))<|segC))) [1,2,3,17] [(6,0)] (λ _ _ st9=>?_)
 refine st9.cs rfl h8 (λ _ h10=>wp_seq (wp_region_list ?_)) (λ _ h11=>wp_skip (za (wp_seq (wp_region_list ?_))))
 ·
  refine st9.segB 1 (sc rfl (yw (parts:=[]) (ns:=[1,1,1]) (zs:=Wz) rfl rfl kB45 kC45 (λ w a hl=>by simp) (λ w a hl=>Disk.parts (x:=(⟨Yu,0,[]⟩:Disk)) (Z4 _ _) ⟨rfl,trivial⟩ xI))<|.nil) [18] [(6,0)] (λ _ _ st12=>?_)
  refine st12.stA 6 0 FldS.id (tp rfl) [] [] (λ _ _ st14=>?_)
  refine st14.segA 1 [7] [(6,0)] (λ _ _ st15=>wpList_nil (za ?_))
  refine wp_ret (zd ?_)
  obtain rfl:=Option.some.inj h10
  exact st15.ret2c rfl kT45 rfl (st15.frozen (t:=7) rfl) rfl rfl
 obtain⟨v16,p16,h17⟩:=bsW h11 zaa
 refine st9.segA 7 [1,2,3,24,25] [(6,0)] (λ _ _ st18=>?_)
 refine st18.alA 1 Z4 [1,2,3,24,25] [6] (λ b20 _ _ _ st20=>?_)
 refine st20.stA 8 1 FldS.id (tp rfl) [1,2,3,25] [6] (λ _ _ st22=>?_)
 refine st22.segA 1 [1,2,3,9] [(6,0),(8,1)] (λ _ _ st23=>wpList_nil (za (wp_seq ?_)))
 refine st23.sqA [1,2,3,27] [(6,0),(8,1)] (λ _ _ st24=>?_)
 refine st24.cs rfl h17 (λ _ h25=>wp_seq (wp_region_list ?_)) (λ _ h26=>wp_skip (za (wp_seq ?_)))
 ·
  refine st24.segB 1 (sc rfl (yw (parts:=[]) (ns:=[1,1,1]) (zs:=Wz) rfl rfl kB45 kC45 (λ w a hl=>by simp) (λ w a hl=>Disk.parts (x:=(⟨Yu,0,[]⟩:Disk)) (Z4 _ _) ⟨rfl,trivial⟩ xI))<|.nil) [28] [(6,0)] (λ _ _ st27=>?_)
  refine st27.stA 6 0 FldS.id (tp rfl) [] [] (λ _ _ st29=>?_)
  refine st29.segA 1 [7] [(6,0)] (λ _ _ st30=>wpList_nil (za ?_))
  refine wp_ret (zd ?_)
  obtain rfl:=Option.some.inj h25
  exact st30.ret2c rfl kT45 rfl (st30.frozen (t:=7) rfl) rfl rfl
 obtain⟨v31,p31,v32,p32,v33,p33,h36⟩:=bsC h26
 refine st24.drnA (D:=[_,_,_,_,_,_,_,_,_,_,_,_,_,_,_,_,_,_,_,_]) zD 20 [[(3,nS)],[(8,nS)],[(3,nS)],[(31,2)],[(32,3)],[(1,nS)],[(33,4),(34,5)],[(35,6)],[(36,7)],[(3,nS)],[(38,9)],[(39,10)],[(1,nS)],[(40,11),(41,12)],[(42,13)],[(43,14)],[(2,nS)],[(29,0),(30,1),(37,8),(44,15),(45,16)],[(46,17)],[(46,17)],[(6,nS),(47,18)],[(48,19)]] [47,48] [(6,0)] (λ _ _ st37=>?_) (hs:=rc rfl rfl (zp rfl kT45 (tp rfl))<|rc rfl rfl (zf rfl kT43 (tp rfl))<|rc rfl rfl (zv Disk.fld0 rfl Yl (tp rfl))<|rc rfl rfl (zv Tree.fld0 rfl Yi (tp rfl))<|rc rfl rfl (zp rfl kT41 (tp rfl))<|rc rfl rfl (oM rfl (tp rfl))<|rc rfl rfl (xIdx rfl kS41 (tp rfl) (tp rfl) p31)<|rc rfl rfl (zv File.fld0 rfl kF72_0 (tp rfl))<|rc rfl rfl (zp rfl kT3 (tp rfl))<|rc rfl rfl (zv Disk.fld0 rfl Yl (tp rfl))<|rc rfl rfl (zv Tree.fld0 rfl Yi (tp rfl))<|rc rfl rfl (zp rfl kT41 (tp rfl))<|rc rfl rfl (oM rfl (tp rfl))<|rc rfl rfl (xIdx rfl kS41 (tp rfl) (tp rfl) p32)<|rc rfl rfl (zv File.fld1 rfl Jf (tp rfl))<|rc rfl rfl (zp rfl kT9 (tp rfl))<|rc rfl rfl (oM rfl (tp rfl))<|rc rfl rfl (zo (l:=[.tmp 29,.tmp 30,.tmp 37,.tmp 44,.tmp 45]) rfl kN168 (.cons (tp rfl) (.cons (tp rfl) (.cons (tp rfl) (.cons (tp rfl) (.cons (tp rfl) .nil))))) (Jr p33))<|rc rfl rfl (xExt (i:=0) rfl (tp rfl) rfl)<|rc rfl rfl (xExt (i:=1) rfl (tp rfl) rfl)<|.nil)
 refine st37.store (sb:=6) 0 FldS.id rfl rfl rfl kT45 rfl rfl (tp rfl) rfl [48] rfl [] rfl rfl (λ _ _ st39=>?_)
 refine st39.segA 1 [7] [(6,0)] (λ _ _ st40=>wpList_nil (za (wp_ret ?_)))
 obtain rfl:=Option.some.inj h36
 exact st40.ret2c rfl kT45 rfl (st40.frozen (t:=7) rfl) rfl rfl
open Go.RowKit Tryz
set_option maxRecDepth 10000
set_option maxHeartbeats 1600000
theorem kN112:fnB prog 112=true:=by kernel_rfl
theorem kD77_0:∀ {M:Nat->Prop} {look:Nat->Option Dt} {o:Oper} {q0:Operand} {y0:Int},o.op=.build 77 #[(0,q0)]->OpdR M look q0 (dt y0)->OpRel prog M look o (dt (⟨y0,⟨[]⟩,0,[]⟩:Dir)):=@λ _ _ _ q0 y0 ho h0=>yw (parts:=[(0,q0)]) (ns:=[1,1,1,1]) (zs:=zpDir) rfl ho kB77 kC77 (λ w a hl=>by
 intro p hp;simp only[List.mem_cons,List.not_mem_nil,or_false] at hp
 rcases hp with rfl
 ·
  exact⟨(by decide:0<4),Rep.len (α:=Int) (OpdR.cells h0 hl)⟩) (λ w a hl=>Dir.parts (x:=(⟨y0,⟨[]⟩,0,[]⟩:Dir)) (OpdR.cells h0 hl) qn ⟨rfl,trivial⟩ xI)
theorem kN67:fnB prog 67=true:=by kernel_rfl
theorem kN68:fnB prog 68=true:=by kernel_rfl
theorem kN69:fnB prog 69=true:=by kernel_rfl
theorem kN72:fnB prog 72=true:=by kernel_rfl
theorem kD35_0_1_2:∀ {M:Nat->Prop} {look:Nat->Option Dt} {o:Oper} {q0 q1 q2:Operand} {y0:List Dir} {y1:Int} {y2:Int},o.op=.build 35 #[(0,q0),(1,q1),(2,q2)]->OpdR M look q0 (dt y0)->OpdR M look q1 (dt y1)->OpdR M look q2 (dt y2)->OpRel prog M look o (dt (⟨y0,y1,y2⟩:Finder)):=@λ _ _ _ q0 q1 q2 y0 y1 y2 ho h0 h1 h2=>yw (parts:=[(0,q0),(1,q1),(2,q2)]) (ns:=[1,1,1]) (zs:=Xw) rfl ho kB35 kC35 (λ w a hl=>by
 intro p hp;simp only[List.mem_cons,List.not_mem_nil,or_false] at hp
 rcases hp with rfl | rfl | rfl
 ·
  exact⟨(by decide:0<3),Rep.len (α:=List Dir) (OpdR.cells h0 hl)⟩
 ·
  exact⟨(by decide:1<3),Rep.len (α:=Int) (OpdR.cells h1 hl)⟩
 ·
  exact⟨(by decide:2<3),Rep.len (α:=Int) (OpdR.cells h2 hl)⟩) (λ w a hl=>Finder.parts (x:=(⟨y0,y1,y2⟩:Finder)) (OpdR.cells h0 hl) (OpdR.cells h1 hl) (OpdR.cells h2 hl))
theorem kN40:fnB prog 40=true:=by kernel_rfl
theorem kN34:fnB prog 34=true:=by kernel_rfl
theorem kN38:fnB prog 38=true:=by kernel_rfl
instance iF35_0FdD:FldO prog 35 0 0:=⟨jE⟩
def wI(s30:Reader×Finder×Disk×Int):Option ((Reader×Finder×Disk×Int)⊕(Reader×Finder×Disk)):=
if(cmpI .gtr s30.2.2.2 (0:Int))=true then(Option.bind (α:=Reader×Finder×Disk) ((yF s30.1 ([(1:Int),(1:Int),(1:Int),(0:Int)]:List Int)).bind λ v38=>
(zz v38.1 (2:Int)).bind λ v44=>
if(cmpI .eql v44.2 (0:Int))=true then((wm v44.1).bind λ v58=>
(xY v58.1).bind λ v62=>
(Ya s30.2.1 s30.2.2.1 v58.2 v62.2).bind λ v66=>
some (v62.1,v66.1,s30.2.2.1))
else((q5 v44.1).bind λ v203=>
(Zv s30.2.2.1 v203.2 v38.2).bind λ v206=>
Option.bind (α:=Reader×Disk×Bool) ((zz v203.1 (6:Int)).bind λ v299=>
if(cmpI .eql v299.2 (0:Int)&&cmpI .gtr (s30.2.2.1.tree.files.length:Int) (0:Int))=true then((zz v299.1 (s30.2.2.1.tree.files.length:Int)).bind λ v314=>
(j9 s30.2.2.1 v314.2 v38.2).bind λ v317=>
some (v314.1,v317.1,v317.2))
else(some (v299.1,v206.1,v206.2))) λ o296=>
if o296.2.2=true then(some (o296.1,s30.2.1,o296.2.1))
else(some (o296.1,s30.2.1,s30.2.2.1)))) λ o35=>
(i64 (s30.2.2.2 - (1:Int))).bind λ v469=>
some (.inl (o35.1,o35.2.1,o35.2.2,v469)))
else(some (.inr (s30.1,s30.2.1,s30.2.2.1)))
def q6(x0:Reader):Option (Reader×Finder×Disk):=
(XE).bind λ v13=>
Option.bind (α:=Reader×Finder×Disk) ((yF x0 ([(5:Int),(4:Int),(6:Int),(3:Int),(8:Int),(1:Int),(0:Int)]:List Int)).bind λ v24=>
zS (λ s30=>wI s30) (v24.1,(⟨[],0,0⟩:Finder),v13,v24.2)) λ o21=>
(wW o21.2.1).bind λ v477=>
some (o21.1,v477,o21.2.2)
theorem zbs{x0:Reader}{r:Reader×Finder×Disk}(h:q6 x0=some r):FnS prog 112 (Ow.box (Ow.frz (α:=Reader))) ⟨x0⟩ [] ⟨r.1⟩ (.t2o (owFinder (Ow.row 77 (Ow.frz (α:=Dir)))) r.2.1 (dt r.2.2)):=by
 unfold q6 at h
 refine fnSB (fn:=f112) 3 10 func112 rfl (oD rfl) rfl (λ M G w0 b0 _ st0=>wp_seq (wp_region_list ?_))
 refine st0.alcW (ow:=(owFinder (Ow.row 77 (Ow.frz (α:=Dir))))) 5 rfl rfl kZ35 (owFinder.z Ow.row_z) (by simp) [] rfl [0] rfl rfl (λ b1 M1 _ _ st1=>?_)
 have st2:=st1.gn
 refine st2.alA 6 jh [] [0,2] (λ b4 _ _ _ st4=>?_)
 have st5:=st4.gn
 refine wpList_nil (za (wp_seq (wp_region_list ?_)))
 refine st5.bldW (ow:=(owFinder (Ow.row 77 (Ow.frz (α:=Dir))))) (parts:=[]) (ns:=[1,1,1]) (zs:=Xw) (x:=(⟨[],0,0⟩:Finder)) 0 [] rfl rfl rfl kB35 kC35 (by simp) (((owFinder (Ow.row 77 (Ow.frz (α:=Dir))))).more (owFinder.mk (x:=(⟨[],0,0⟩:Finder)) (Ow.row_z _ _) ⟨rfl,trivial⟩ ⟨rfl,trivial⟩) (λ b=>(λ hb=>hb.elim))) (by simp) [] rfl [0,2,3] rfl rfl rfl (λ G6 _ _ st6=>?_)
 have st7:=st6.gs (Gs':=[G6,oneB none,oneB none,G,oneB none,(oneB (some b1)),oneB (some b4),oneB none,oneB none,oneB none]) rfl
 have st8:=st7.gs (Gs':=[G6,oneB none,oneB none,G,oneB none,(oneB (some b1)),oneB (some b4),oneB none,oneB none,oneB none]) rfl
 refine st8.alcW (ow:=(owFinder (Ow.row 77 (Ow.frz (α:=Dir))))) 7 rfl rfl kZ35 (owFinder.z Ow.row_z) (by simp) [] rfl [0,2,3,10] rfl rfl (λ b9 _ _ _ st9=>?_)
 have st10:=st9.gn
 refine st10.stO (sb:=4) (tv:=10) 7 0 (PV.root.box rfl) rfl rfl rfl kT35 (by simp) (by simp) (by decide) (zG rfl) rfl rfl rfl iI iI [] rfl [0,2,3] rfl rfl rfl (λ G11 _ st11=>?_)
 have st12:=st11.gn
 refine wpList_nil (za (wp_seq (wp_region_list ?_)))
 obtain⟨v13,p13,h14⟩:=bsW h zbK
 refine st12.segA 1 [11] [(0,3),(2,5),(3,6),(4,7)] (λ _ _ st15=>?_)
 refine st15.alA 8 jh [11] [0,2,3,4] (λ b17 _ _ _ st17=>?_)
 have st18:=st17.gn
 refine st18.stA 5 8 FldS.id (tp rfl) [] [0,2,3,4] (λ _ _ st20=>wpList_nil (za ?_))
 obtain⟨o21,p21,k21⟩:=bs h14
 refine zm (λ a w=>∃ M1 q21_0 q21_1 q21_2 q21_3 q21_4 q21_5 q21_6 q21_7 q21_8 q21_9,Sx (Frm.chg w0 G) 70 M M1 [q21_0,q21_1,q21_2,q21_3,q21_4,q21_5,oneB q21_6,q21_7,oneB q21_8,oneB q21_9] [] [(3,6,dbox q21_6 0 zX),(5,8,dbox q21_8 0 o21.2.2),(0,3,dnm (Ow.box (Ow.frz (α:=Reader))) q21_3 ⟨o21.1⟩ (.pointer (some ⟨b0,0,none⟩)) []),(2,5,dow (Ow.box (owFinder (Ow.row 77 (Ow.frz (α:=Dir))))) q21_5 ⟨zi⟩),(4,7,dow (Ow.box (owFinder (Ow.row 77 (Ow.frz (α:=Dir))))) q21_7 ⟨o21.2.1⟩)] a w) ?_ ?_
 ·
  refine wp_seq (wp_region_list ?_)
  refine st20.segB 2 (sP 1 (r:=by exact sc rfl (yG (opds:=[.const (.int .i64 5),.const (.int .i64 4),.const (.int .i64 6),.const (.int .i64 3),.const (.int .i64 8),.const (.int .i64 1),.const (.int .i64 0)]) rfl kS30 kY30 rfl rfl (by decide) (.cons cI (.cons cI (.cons cI (.cons cI (.cons cI (.cons cI (.cons cI .nil))))))))<|.nil)) [12,13] [(0,3),(2,5),(3,6),(4,7),(5,8)] (λ _ _ st22=>?_)
  obtain⟨v24,p24,h25⟩:=bs p21
  refine st22.cNA 3 0 (xX p24) [] [2,3,4,5] (λ G23 _ _ _ st26=>?_)
  refine st26.segA 1 [6] [(0,3),(2,5),(3,6),(4,7),(5,8)] (λ _ _ st27=>wpList_nil (za (wp_block ?_)))
  have st28:=st27.unm (s:=2) 5 rfl rfl iI [0,3,4,5] rfl
  have st29:=st28.unm (s:=4) 7 rfl rfl iI [0,2,3,5] rfl
  refine zL h25 (λ s30 a w=>∃ M1 q30_0 q30_1 q30_2 q30_3 q30_4 q30_5 q30_6 q30_7 q30_8 q30_9,Sx (Frm.chg w0 G) 70 M M1 [q30_0,q30_1,q30_2,q30_3,q30_4,q30_5,oneB q30_6,q30_7,oneB q30_8,oneB q30_9] [(6,dt s30.2.2.2)] [(3,6,dbox q30_6 0 zX),(5,8,dbox q30_8 0 s30.2.2.1),(0,3,dnm (Ow.box (Ow.frz (α:=Reader))) q30_3 ⟨s30.1⟩ (.pointer (some ⟨b0,0,none⟩)) []),(2,5,dow (Ow.box (owFinder (Ow.row 77 (Ow.frz (α:=Dir))))) q30_5 ⟨zi⟩),(4,7,dow (Ow.box (owFinder (Ow.row 77 (Ow.frz (α:=Dir))))) q30_7 ⟨s30.2.1⟩)] a w) fx ?_
  rintro s30 z30 a30 w30 ⟨M30,q30_0,q30_1,q30_2,q30_3,q30_4,q30_5,q30_6,q30_7,q30_8,q30_9,st30⟩ hs30 hx30
  have h31:wI s30=some z30:=hs30
  unfold wI at h31
  refine wp_seq ?_
  refine st30.sqA [6,16] [(0,3),(2,5),(3,6),(4,7),(5,8)] (λ _ _ st32=>?_)
  refine st32.cs rfl h31 (λ _ h33=>wp_skip (za ?_)) (λ _ h34=>wp_exit (zh (zh (zE ?_))))
  ·
   obtain⟨o35,p35,k35⟩:=bs h33
   refine zm (λ a w=>∃ M1 q35_0 q35_1 q35_2 q35_3 q35_4 q35_5 q35_6 q35_7 q35_8 q35_9,Sx (Frm.chg w0 G) 70 M M1 [q35_0,q35_1,q35_2,q35_3,q35_4,q35_5,oneB q35_6,q35_7,oneB q35_8,oneB q35_9] [(6,dt s30.2.2.2)] [(3,6,dbox q35_6 0 zX),(5,8,dbox q35_8 0 o35.2.2),(0,3,dnm (Ow.box (Ow.frz (α:=Reader))) q35_3 ⟨o35.1⟩ (.pointer (some ⟨b0,0,none⟩)) []),(2,5,dow (Ow.box (owFinder (Ow.row 77 (Ow.frz (α:=Dir))))) q35_5 ⟨zi⟩),(4,7,dow (Ow.box (owFinder (Ow.row 77 (Ow.frz (α:=Dir))))) q35_7 ⟨o35.2.1⟩)] a w) ?_ ?_
   ·
    refine wp_block (wp_seq (wp_region_list ?_))
    refine st32.segB 2 (sP 1 (r:=by exact sc rfl (yG (opds:=[.const (.int .i64 1),.const (.int .i64 1),.const (.int .i64 1),.const (.int .i64 0)]) rfl kS30 kY30 rfl rfl (by decide) (.cons cI (.cons cI (.cons cI (.cons cI .nil)))))<|.nil)) [6,19,20] [(0,3),(2,5),(3,6),(4,7),(5,8)] (λ _ _ st36=>?_)
    obtain⟨v38,p38,h39⟩:=bs p35
    refine st36.cNA 3 0 (xX p38) [6] [2,3,4,5] (λ G37 _ _ _ st40=>?_)
    refine st40.segA 1 [6,7] [(0,3),(2,5),(3,6),(4,7),(5,8)] (λ _ _ st41=>wpList_nil (za (wp_seq (wp_seq (wp_region_list ?_)))))
    refine st41.segC 1 [6,7,22] [(0,3),(2,5),(3,6),(4,7),(5,8)] (λ _ _ st42=>?_)
    obtain⟨v44,p44,h45⟩:=bs h39
    refine st42.cNA 3 0 (zH p44) [6,7] [2,3,4,5] (λ G43 _ _ _ st46=>?_)
    refine st46.segA 1 [6,7,24] [(0,3),(2,5),(3,6),(4,7),(5,8)] (λ _ _ st47=>wpList_nil (za ?_))
    refine st47.cs rfl h45 (λ _ h48=>wp_seq ?_) (λ _ h49=>wp_skip (za (wp_seq ?_)))
    ·
     refine st47.held (λ _=>True) zD (λ _ st50=>?_)
     refine st50.tN 2 0 trivial (λ _ st51=>?_)
     refine st51.tN 4 0 trivial (λ _ st52=>?_)
     obtain⟨v58,p58,v62,p62,v66,p66,h76⟩:=bsC h48
     refine zq 1 1023 (λ a w=>∃ M1 q138_0 q138_1 q138_2 q138_3 q138_4 q138_5 q138_6 q138_7 q138_8 q138_9,Sx (Frm.chg w0 G) 70 M M1 [q138_0,q138_1,q138_2,q138_3,q138_4,q138_5,oneB q138_6,q138_7,oneB q138_8,oneB q138_9] [(6,dt s30.2.2.2)] [(3,6,dbox q138_6 0 zX),(5,8,dbox q138_8 0 s30.2.2.1),(0,3,dnm (Ow.box (Ow.frz (α:=Reader))) q138_3 ⟨v62.1⟩ (.pointer (some ⟨b0,0,none⟩)) []),(2,5,dow (Ow.box (owFinder (Ow.row 77 (Ow.frz (α:=Dir))))) q138_5 ⟨zi⟩),(33,1,dow (owFinder (Ow.row 77 (Ow.frz (α:=Dir)))) q138_1 v66.1),(4,7,dbd q138_7 3)] a w) ?_ (λ n138=>?_)
     ·
      rintro a138 w138 ⟨M138,q138_0,q138_1,q138_2,q138_3,q138_4,q138_5,q138_6,q138_7,q138_8,q138_9,st138⟩
      refine aK1 10 ?_
      refine st138.stRv (sb:=4) (tv:=33) 7 1 rfl rfl rfl kT35 (by simp) (by simp) (by decide) rfl rfl iI rfl iI [6] rfl [0,2,3,5] rfl rfl rfl (λ _ _ st146=>?_)
      have st147:=st146.gn
      refine aHN trivial ?_
      refine aK0 (za ?_)
      refine wp_exit (zh (zE ?_))
      refine za ?_
      cases h76
      exact fx
     refine zq 1 1535 (λ a w=>∃ M1 q141_0 q141_2 q141_3 q141_4 q141_5 q141_6 q141_7 q141_8 q141_9,Sx (Frm.chg w0 G) 70 M M1 [q141_0,oneB none,q141_2,q141_3,q141_4,q141_5,oneB q141_6,q141_7,oneB q141_8,oneB q141_9] [(6,dt s30.2.2.2),(25,dex2 (dt v66.2))] [(3,6,dbox q141_6 0 zX),(5,8,dbox q141_8 0 s30.2.2.1),(0,3,dnm (Ow.box (Ow.frz (α:=Reader))) q141_3 ⟨v62.1⟩ (.pointer (some ⟨b0,0,none⟩)) []),(2,5,dow (Ow.box (owFinder (Ow.row 77 (Ow.frz (α:=Dir))))) q141_5 ⟨zi⟩),(4,7,dow (Ow.box (owFinder (Ow.row 77 (Ow.frz (α:=Dir))))) q141_7 ⟨v66.1⟩)] a w) ?_ (λ n141=>?_)
     ·
      rintro a141 w141 ⟨M141,q141_0,q141_2,q141_3,q141_4,q141_5,q141_6,q141_7,q141_8,q141_9,st141⟩
      refine aK1 9 ?_
      refine st141.segB 1 (sc rfl (Wi rfl (tp rfl))<|.nil) [6] [(0,3),(2,5),(3,6),(4,7),(5,8)] (λ _ _ st148=>aHN trivial ?_)
      refine aK0 (za ?_)
      refine wp_exit (zh (zE ?_))
      refine za ?_
      cases h76
      exact fx
     refine zq 2 511 (λ a w=>∃ M1 q134_0 q134_1 q134_2 q134_3 q134_4 q134_5 q134_6 q134_7 q134_8 q134_9,Sx (Frm.chg w0 G) 70 M M1 [q134_0,q134_1,q134_2,q134_3,q134_4,q134_5,oneB q134_6,q134_7,oneB q134_8,oneB q134_9] [(6,dt s30.2.2.2),(25,dex2 (dt v66.2))] [(3,6,dbox q134_6 0 zX),(5,8,dbox q134_8 0 s30.2.2.1),(0,3,dnm (Ow.box (Ow.frz (α:=Reader))) q134_3 ⟨v62.1⟩ (.pointer (some ⟨b0,0,none⟩)) []),(2,5,dow (Ow.box (owFinder (Ow.row 77 (Ow.frz (α:=Dir))))) q134_5 ⟨zi⟩),(33,1,dow (owFinder (Ow.row 77 (Ow.frz (α:=Dir)))) q134_1 v66.1),(4,7,dbd q134_7 3)] a w) ?_ (λ n134=>?_)
     ·
      rintro a134 w134 ⟨M134,q134_0,q134_1,q134_2,q134_3,q134_4,q134_5,q134_6,q134_7,q134_8,q134_9,st134⟩
      refine aK2 9 10 ?_ ?_
      ·
       refine st134.segB 1 (sc rfl (Wi rfl (tp rfl))<|.nil) [6] [(0,3),(2,5),(3,6),(4,7),(5,8),(33,1)] (λ _ _ st149=>?_)
       exact aHe n138 trivial
      ·
       refine st134.stRv (sb:=4) (tv:=33) 7 1 rfl rfl rfl kT35 (by simp) (by simp) (by decide) rfl rfl iI rfl iI [6,25] rfl [0,2,3,5] rfl rfl rfl (λ _ _ st150=>?_)
       have st151:=st150.gn
       exact aHe n141 trivial
     refine zq 2 767 (λ a w=>∃ M1 q136_0 q136_1 q136_2 q136_3 q136_4 q136_5 q136_6 q136_7 q136_8 q136_9,Sx (Frm.chg w0 G) 70 M M1 [q136_0,q136_1,q136_2,q136_3,q136_4,q136_5,oneB q136_6,q136_7,oneB q136_8,oneB q136_9] [(6,dt s30.2.2.2)] [(3,6,dbox q136_6 0 zX),(5,8,dbox q136_8 0 s30.2.2.1),(0,3,dnm (Ow.box (Ow.frz (α:=Reader))) q136_3 ⟨v62.1⟩ (.pointer (some ⟨b0,0,none⟩)) []),(2,5,dow (Ow.box (owFinder (Ow.row 77 (Ow.frz (α:=Dir))))) q136_5 ⟨zi⟩),(4,7,dbd q136_7 3),(25,1,drd (.t2o (owFinder (Ow.row 77 (Ow.frz (α:=Dir)))) v66.1 (dt v66.2)) q136_1)] a w) ?_ (λ n136=>?_)
     ·
      rintro a136 w136 ⟨M136,q136_0,q136_1,q136_2,q136_3,q136_4,q136_5,q136_6,q136_7,q136_8,q136_9,st136⟩
      refine aK1 8 ?_
      refine st136.ex2o (s:=25) 1 rfl rfl rfl rfl iI rfl [0,2,3,4,5] rfl (λ _ st152=>?_)
      exact aHe n138 trivial
     refine zq 3 255 (λ a w=>∃ M1 q132_0 q132_1 q132_2 q132_3 q132_4 q132_5 q132_6 q132_7 q132_8 q132_9,Sx (Frm.chg w0 G) 70 M M1 [q132_0,q132_1,q132_2,q132_3,q132_4,q132_5,oneB q132_6,q132_7,oneB q132_8,oneB q132_9] [(6,dt s30.2.2.2)] [(3,6,dbox q132_6 0 zX),(5,8,dbox q132_8 0 s30.2.2.1),(0,3,dnm (Ow.box (Ow.frz (α:=Reader))) q132_3 ⟨v62.1⟩ (.pointer (some ⟨b0,0,none⟩)) []),(2,5,dow (Ow.box (owFinder (Ow.row 77 (Ow.frz (α:=Dir))))) q132_5 ⟨zi⟩),(4,7,dbd q132_7 3),(25,1,drd (.t2o (owFinder (Ow.row 77 (Ow.frz (α:=Dir)))) v66.1 (dt v66.2)) q132_1)] a w) ?_ (λ n132=>?_)
     ·
      rintro a132 w132 ⟨M132,q132_0,q132_1,q132_2,q132_3,q132_4,q132_5,q132_6,q132_7,q132_8,q132_9,st132⟩
      refine aK2 8 9 ?_ ?_
      ·
       refine st132.ex2o (s:=25) 1 rfl rfl rfl rfl iI rfl [0,2,3,4,5] rfl (λ _ st153=>?_)
       exact aHe n134 trivial
      ·
       refine st132.segB 1 (sc rfl (xEx2p (s:=25) rfl rfl rfl)<|.nil) [6] [(0,3),(2,5),(3,6),(4,7),(5,8),(25,1)] (λ _ _ st154=>?_)
       exact aHe n136 trivial
     refine zq 4 127 (λ a w=>∃ M1 q130_0 q130_1 q130_2 q130_3 q130_4 q130_5 q130_6 q130_7 q130_8 q130_9,Sx (Frm.chg w0 G) 70 M M1 [q130_0,q130_1,q130_2,q130_3,q130_4,q130_5,oneB q130_6,q130_7,oneB q130_8,oneB q130_9] [(6,dt s30.2.2.2)] [(3,6,dbox q130_6 0 zX),(5,8,dbox q130_8 0 s30.2.2.1),(0,3,dnm (Ow.box (Ow.frz (α:=Reader))) q130_3 ⟨v62.1⟩ (.pointer (some ⟨b0,0,none⟩)) []),(2,5,dow (Ow.box (owFinder (Ow.row 77 (Ow.frz (α:=Dir))))) q130_5 ⟨zi⟩),(4,7,dbd q130_7 3),(32,1,drd (.t2o (owFinder (Ow.row 77 (Ow.frz (α:=Dir)))) v66.1 (dt v66.2)) q130_1)] a w) ?_ (λ n130=>?_)
     ·
      rintro a130 w130 ⟨M130,q130_0,q130_1,q130_2,q130_3,q130_4,q130_5,q130_6,q130_7,q130_8,q130_9,st130⟩
      refine aK1 7 ?_
      refine st130.mvD (s:=32) 1 rfl rfl rfl rfl iI rfl [0,2,3,4,5] rfl (λ _ st155=>?_)
      exact aHe n132 trivial
     refine zq 5 63 (λ a w=>∃ M1 q123_0 q123_1 q123_2 q123_3 q123_4 q123_5 q123_6 q123_7 q123_8 q123_9,Sx (Frm.chg w0 G) 70 M M1 [q123_0,q123_1,q123_2,q123_3,q123_4,q123_5,oneB q123_6,q123_7,oneB q123_8,oneB q123_9] [(6,dt s30.2.2.2),(27,dt s30.2.2.1),(29,dt v58.2),(31,dt v62.2)] [(3,6,dbox q123_6 0 zX),(5,8,dbox q123_8 0 s30.2.2.1),(0,3,dnm (Ow.box (Ow.frz (α:=Reader))) q123_3 ⟨v62.1⟩ (.pointer (some ⟨b0,0,none⟩)) []),(2,5,dow (Ow.box (owFinder (Ow.row 77 (Ow.frz (α:=Dir))))) q123_5 ⟨zi⟩),(26,1,dow (owFinder (Ow.row 77 (Ow.frz (α:=Dir)))) q123_1 s30.2.1),(4,7,dbd q123_7 3)] a w) ?_ (λ n123=>?_)
     ·
      rintro a123 w123 ⟨M123,q123_0,q123_1,q123_2,q123_3,q123_4,q123_5,q123_6,q123_7,q123_8,q123_9,st123⟩
      refine aK1 6 ?_
      refine st123.cT (sb:=26) (l:=[.tmp 27,.tmp 29,.tmp 31]) 1 rfl rfl kN52 rfl iI (by simp) (.cons (tp rfl) (.cons (tp rfl) (.cons (tp rfl) .nil))) (Y4 p66) [6] rfl [0,2,3,4,5] rfl rfl (λ _ _ _ _ st156=>?_)
      have st157:=st156.gn
      exact aHe n130 trivial
     refine zq 6 31 (λ a w=>∃ M1 q106_0 q106_1 q106_2 q106_3 q106_4 q106_5 q106_6 q106_7 q106_8 q106_9,Sx (Frm.chg w0 G) 70 M M1 [q106_0,q106_1,q106_2,q106_3,q106_4,q106_5,oneB q106_6,q106_7,oneB q106_8,oneB q106_9] [(6,dt s30.2.2.2),(27,dt s30.2.2.1),(29,dt v58.2),(30,dis (.pointer (some ⟨b0,0,none⟩)))] [(3,6,dbox q106_6 0 zX),(5,8,dbox q106_8 0 s30.2.2.1),(0,3,dnm (Ow.box (Ow.frz (α:=Reader))) q106_3 ⟨v58.1⟩ (.pointer (some ⟨b0,0,none⟩)) []),(2,5,dow (Ow.box (owFinder (Ow.row 77 (Ow.frz (α:=Dir))))) q106_5 ⟨zi⟩),(26,1,dow (owFinder (Ow.row 77 (Ow.frz (α:=Dir)))) q106_1 s30.2.1),(4,7,dbd q106_7 3)] a w) ?_ (λ n106=>?_)
     ·
      rintro a106 w106 ⟨M106,q106_0,q106_1,q106_2,q106_3,q106_4,q106_5,q106_6,q106_7,q106_8,q106_9,st106⟩
      refine aK1 5 ?_
      refine st106.cNA 3 0 (j7 p62) [6,27,29] [2,3,4,5,26] (λ G158 _ _ _ st159=>?_)
      exact aHe n123 trivial
     refine zq 6 61 (λ a w=>∃ M1 q110_0 q110_1 q110_2 q110_3 q110_4 q110_5 q110_6 q110_7 q110_8 q110_9,Sx (Frm.chg w0 G) 70 M M1 [q110_0,q110_1,q110_2,q110_3,q110_4,q110_5,oneB q110_6,q110_7,oneB q110_8,oneB q110_9] [(6,dt s30.2.2.2),(29,dt v58.2),(31,dt v62.2)] [(3,6,dbox q110_6 0 zX),(5,8,dbox q110_8 0 s30.2.2.1),(0,3,dnm (Ow.box (Ow.frz (α:=Reader))) q110_3 ⟨v62.1⟩ (.pointer (some ⟨b0,0,none⟩)) []),(2,5,dow (Ow.box (owFinder (Ow.row 77 (Ow.frz (α:=Dir))))) q110_5 ⟨zi⟩),(26,1,dow (owFinder (Ow.row 77 (Ow.frz (α:=Dir)))) q110_1 s30.2.1),(4,7,dbd q110_7 3)] a w) ?_ (λ n110=>?_)
     ·
      rintro a110 w110 ⟨M110,q110_0,q110_1,q110_2,q110_3,q110_4,q110_5,q110_6,q110_7,q110_8,q110_9,st110⟩
      refine aK1 1 ?_
      refine st110.segC 1 [6,27,29,31] [(0,3),(2,5),(3,6),(4,7),(5,8),(26,1)] (λ _ _ st160=>?_)
      exact aHe n123 trivial
     refine zq 6 62 (λ a w=>∃ M1 q116_0 q116_1 q116_2 q116_3 q116_4 q116_5 q116_6 q116_7 q116_8 q116_9,Sx (Frm.chg w0 G) 70 M M1 [q116_0,q116_1,q116_2,q116_3,q116_4,q116_5,oneB q116_6,q116_7,oneB q116_8,oneB q116_9] [(6,dt s30.2.2.2),(27,dt s30.2.2.1),(29,dt v58.2),(31,dt v62.2)] [(3,6,dbox q116_6 0 zX),(5,8,dbox q116_8 0 s30.2.2.1),(0,3,dnm (Ow.box (Ow.frz (α:=Reader))) q116_3 ⟨v62.1⟩ (.pointer (some ⟨b0,0,none⟩)) []),(2,5,dow (Ow.box (owFinder (Ow.row 77 (Ow.frz (α:=Dir))))) q116_5 ⟨zi⟩),(4,7,dow (Ow.box (owFinder (Ow.row 77 (Ow.frz (α:=Dir))))) q116_7 ⟨s30.2.1⟩)] a w) ?_ (λ n116=>?_)
     ·
      rintro a116 w116 ⟨M116,q116_0,q116_1,q116_2,q116_3,q116_4,q116_5,q116_6,q116_7,q116_8,q116_9,st116⟩
      refine aK1 0 ?_
      refine st116.nmB (s:=4) 7 rfl rfl iI [0,2,3,5] rfl (λ b161 st161=>?_)
      refine st161.ldK (sb:=4) 7 1 rfl rfl kT35 rfl (by simp) (by simp) (by decide) iI [6,27,29,31] rfl [0,2,3,5] rfl rfl rfl rfl (λ _ H162 _ _ st162=>?_)
      have st163:=st162.gn
      exact aHe n123 trivial
     refine zq 7 23 (λ a w=>∃ M1 q87_0 q87_1 q87_2 q87_3 q87_4 q87_5 q87_6 q87_7 q87_8 q87_9,Sx (Frm.chg w0 G) 70 M M1 [q87_0,q87_1,q87_2,q87_3,q87_4,q87_5,oneB q87_6,q87_7,oneB q87_8,oneB q87_9] [(6,dt s30.2.2.2),(27,dt s30.2.2.1),(28,dis (.pointer (some ⟨b0,0,none⟩))),(30,dis (.pointer (some ⟨b0,0,none⟩)))] [(3,6,dbox q87_6 0 zX),(5,8,dbox q87_8 0 s30.2.2.1),(0,3,dnm (Ow.box (Ow.frz (α:=Reader))) q87_3 ⟨v44.1⟩ (.pointer (some ⟨b0,0,none⟩)) []),(2,5,dow (Ow.box (owFinder (Ow.row 77 (Ow.frz (α:=Dir))))) q87_5 ⟨zi⟩),(26,1,dow (owFinder (Ow.row 77 (Ow.frz (α:=Dir)))) q87_1 s30.2.1),(4,7,dbd q87_7 3)] a w) ?_ (λ n87=>?_)
     ·
      rintro a87 w87 ⟨M87,q87_0,q87_1,q87_2,q87_3,q87_4,q87_5,q87_6,q87_7,q87_8,q87_9,st87⟩
      refine aK1 3 ?_
      refine st87.cNA 3 0 (qZ p58) [6,27,30] [2,3,4,5,26] (λ G164 _ _ _ st165=>?_)
      exact aHe n106 trivial
     refine zq 7 29 (λ a w=>∃ M1 q90_0 q90_1 q90_2 q90_3 q90_4 q90_5 q90_6 q90_7 q90_8 q90_9,Sx (Frm.chg w0 G) 70 M M1 [q90_0,q90_1,q90_2,q90_3,q90_4,q90_5,oneB q90_6,q90_7,oneB q90_8,oneB q90_9] [(6,dt s30.2.2.2),(29,dt v58.2),(30,dis (.pointer (some ⟨b0,0,none⟩)))] [(3,6,dbox q90_6 0 zX),(5,8,dbox q90_8 0 s30.2.2.1),(0,3,dnm (Ow.box (Ow.frz (α:=Reader))) q90_3 ⟨v58.1⟩ (.pointer (some ⟨b0,0,none⟩)) []),(2,5,dow (Ow.box (owFinder (Ow.row 77 (Ow.frz (α:=Dir))))) q90_5 ⟨zi⟩),(26,1,dow (owFinder (Ow.row 77 (Ow.frz (α:=Dir)))) q90_1 s30.2.1),(4,7,dbd q90_7 3)] a w) ?_ (λ n90=>?_)
     ·
      rintro a90 w90 ⟨M90,q90_0,q90_1,q90_2,q90_3,q90_4,q90_5,q90_6,q90_7,q90_8,q90_9,st90⟩
      refine aK2 1 5 ?_ ?_
      ·
       refine st90.segC 1 [6,27,29,30] [(0,3),(2,5),(3,6),(4,7),(5,8),(26,1)] (λ _ _ st166=>?_)
       exact aHe n106 trivial
      ·
       refine st90.cNA 3 0 (j7 p62) [6,29] [2,3,4,5,26] (λ G167 _ _ _ st168=>?_)
       exact aHe n110 trivial
     refine zq 7 30 (λ a w=>∃ M1 q96_0 q96_1 q96_2 q96_3 q96_4 q96_5 q96_6 q96_7 q96_8 q96_9,Sx (Frm.chg w0 G) 70 M M1 [q96_0,q96_1,q96_2,q96_3,q96_4,q96_5,oneB q96_6,q96_7,oneB q96_8,oneB q96_9] [(6,dt s30.2.2.2),(27,dt s30.2.2.1),(29,dt v58.2),(30,dis (.pointer (some ⟨b0,0,none⟩)))] [(3,6,dbox q96_6 0 zX),(5,8,dbox q96_8 0 s30.2.2.1),(0,3,dnm (Ow.box (Ow.frz (α:=Reader))) q96_3 ⟨v58.1⟩ (.pointer (some ⟨b0,0,none⟩)) []),(2,5,dow (Ow.box (owFinder (Ow.row 77 (Ow.frz (α:=Dir))))) q96_5 ⟨zi⟩),(4,7,dow (Ow.box (owFinder (Ow.row 77 (Ow.frz (α:=Dir))))) q96_7 ⟨s30.2.1⟩)] a w) ?_ (λ n96=>?_)
     ·
      rintro a96 w96 ⟨M96,q96_0,q96_1,q96_2,q96_3,q96_4,q96_5,q96_6,q96_7,q96_8,q96_9,st96⟩
      refine aK2 0 5 ?_ ?_
      ·
       refine st96.nmB (s:=4) 7 rfl rfl iI [0,2,3,5] rfl (λ b169 st169=>?_)
       refine st169.ldK (sb:=4) 7 1 rfl rfl kT35 rfl (by simp) (by simp) (by decide) iI [6,27,29,30] rfl [0,2,3,5] rfl rfl rfl rfl (λ _ H170 _ _ st170=>?_)
       have st171:=st170.gn
       exact aHe n106 trivial
      ·
       refine st96.cNA 3 0 (j7 p62) [6,27,29] [2,3,4,5] (λ G172 _ _ _ st173=>?_)
       exact aHe n116 trivial
     refine zq 7 60 (λ a w=>∃ M1 q103_0 q103_1 q103_2 q103_3 q103_4 q103_5 q103_6 q103_7 q103_8 q103_9,Sx (Frm.chg w0 G) 70 M M1 [q103_0,q103_1,q103_2,q103_3,q103_4,q103_5,oneB q103_6,q103_7,oneB q103_8,oneB q103_9] [(6,dt s30.2.2.2),(29,dt v58.2),(31,dt v62.2)] [(3,6,dbox q103_6 0 zX),(5,8,dbox q103_8 0 s30.2.2.1),(0,3,dnm (Ow.box (Ow.frz (α:=Reader))) q103_3 ⟨v62.1⟩ (.pointer (some ⟨b0,0,none⟩)) []),(2,5,dow (Ow.box (owFinder (Ow.row 77 (Ow.frz (α:=Dir))))) q103_5 ⟨zi⟩),(4,7,dow (Ow.box (owFinder (Ow.row 77 (Ow.frz (α:=Dir))))) q103_7 ⟨s30.2.1⟩)] a w) ?_ (λ n103=>?_)
     ·
      rintro a103 w103 ⟨M103,q103_0,q103_1,q103_2,q103_3,q103_4,q103_5,q103_6,q103_7,q103_8,q103_9,st103⟩
      refine aK2 0 1 ?_ ?_
      ·
       refine st103.nmB (s:=4) 7 rfl rfl iI [0,2,3,5] rfl (λ b174 st174=>?_)
       refine st174.ldK (sb:=4) 7 1 rfl rfl kT35 rfl (by simp) (by simp) (by decide) iI [6,29,31] rfl [0,2,3,5] rfl rfl rfl rfl (λ _ H175 _ _ st175=>?_)
       have st176:=st175.gn
       exact aHe n110 trivial
      ·
       refine st103.segC 1 [6,27,29,31] [(0,3),(2,5),(3,6),(4,7),(5,8)] (λ _ _ st177=>?_)
       exact aHe n116 trivial
     refine zq 8 21 (λ a w=>∃ M1 q80_0 q80_1 q80_2 q80_3 q80_4 q80_5 q80_6 q80_7 q80_8 q80_9,Sx (Frm.chg w0 G) 70 M M1 [q80_0,q80_1,q80_2,q80_3,q80_4,q80_5,oneB q80_6,q80_7,oneB q80_8,oneB q80_9] [(6,dt s30.2.2.2),(28,dis (.pointer (some ⟨b0,0,none⟩))),(30,dis (.pointer (some ⟨b0,0,none⟩)))] [(3,6,dbox q80_6 0 zX),(5,8,dbox q80_8 0 s30.2.2.1),(0,3,dnm (Ow.box (Ow.frz (α:=Reader))) q80_3 ⟨v44.1⟩ (.pointer (some ⟨b0,0,none⟩)) []),(2,5,dow (Ow.box (owFinder (Ow.row 77 (Ow.frz (α:=Dir))))) q80_5 ⟨zi⟩),(26,1,dow (owFinder (Ow.row 77 (Ow.frz (α:=Dir)))) q80_1 s30.2.1),(4,7,dbd q80_7 3)] a w) ?_ (λ n80=>?_)
     ·
      rintro a80 w80 ⟨M80,q80_0,q80_1,q80_2,q80_3,q80_4,q80_5,q80_6,q80_7,q80_8,q80_9,st80⟩
      refine aK2 1 3 ?_ ?_
      ·
       refine st80.segC 1 [6,27,28,30] [(0,3),(2,5),(3,6),(4,7),(5,8),(26,1)] (λ _ _ st178=>?_)
       exact aHe n87 trivial
      ·
       refine st80.cNA 3 0 (qZ p58) [6,30] [2,3,4,5,26] (λ G179 _ _ _ st180=>?_)
       exact aHe n90 trivial
     refine zq 8 22 (λ a w=>∃ M1 q82_0 q82_1 q82_2 q82_3 q82_4 q82_5 q82_6 q82_7 q82_8 q82_9,Sx (Frm.chg w0 G) 70 M M1 [q82_0,q82_1,q82_2,q82_3,q82_4,q82_5,oneB q82_6,q82_7,oneB q82_8,oneB q82_9] [(6,dt s30.2.2.2),(27,dt s30.2.2.1),(28,dis (.pointer (some ⟨b0,0,none⟩))),(30,dis (.pointer (some ⟨b0,0,none⟩)))] [(3,6,dbox q82_6 0 zX),(5,8,dbox q82_8 0 s30.2.2.1),(0,3,dnm (Ow.box (Ow.frz (α:=Reader))) q82_3 ⟨v44.1⟩ (.pointer (some ⟨b0,0,none⟩)) []),(2,5,dow (Ow.box (owFinder (Ow.row 77 (Ow.frz (α:=Dir))))) q82_5 ⟨zi⟩),(4,7,dow (Ow.box (owFinder (Ow.row 77 (Ow.frz (α:=Dir))))) q82_7 ⟨s30.2.1⟩)] a w) ?_ (λ n82=>?_)
     ·
      rintro a82 w82 ⟨M82,q82_0,q82_1,q82_2,q82_3,q82_4,q82_5,q82_6,q82_7,q82_8,q82_9,st82⟩
      refine aK2 0 3 ?_ ?_
      ·
       refine st82.nmB (s:=4) 7 rfl rfl iI [0,2,3,5] rfl (λ b181 st181=>?_)
       refine st181.ldK (sb:=4) 7 1 rfl rfl kT35 rfl (by simp) (by simp) (by decide) iI [6,27,28,30] rfl [0,2,3,5] rfl rfl rfl rfl (λ _ H182 _ _ st182=>?_)
       have st183:=st182.gn
       exact aHe n87 trivial
      ·
       refine st82.cNA 3 0 (qZ p58) [6,27,30] [2,3,4,5] (λ G184 _ _ _ st185=>?_)
       exact aHe n96 trivial
     refine zq 8 28 (λ a w=>∃ M1 q85_0 q85_1 q85_2 q85_3 q85_4 q85_5 q85_6 q85_7 q85_8 q85_9,Sx (Frm.chg w0 G) 70 M M1 [q85_0,q85_1,q85_2,q85_3,q85_4,q85_5,oneB q85_6,q85_7,oneB q85_8,oneB q85_9] [(6,dt s30.2.2.2),(29,dt v58.2),(30,dis (.pointer (some ⟨b0,0,none⟩)))] [(3,6,dbox q85_6 0 zX),(5,8,dbox q85_8 0 s30.2.2.1),(0,3,dnm (Ow.box (Ow.frz (α:=Reader))) q85_3 ⟨v58.1⟩ (.pointer (some ⟨b0,0,none⟩)) []),(2,5,dow (Ow.box (owFinder (Ow.row 77 (Ow.frz (α:=Dir))))) q85_5 ⟨zi⟩),(4,7,dow (Ow.box (owFinder (Ow.row 77 (Ow.frz (α:=Dir))))) q85_7 ⟨s30.2.1⟩)] a w) ?_ (λ n85=>?_)
     ·
      rintro a85 w85 ⟨M85,q85_0,q85_1,q85_2,q85_3,q85_4,q85_5,q85_6,q85_7,q85_8,q85_9,st85⟩
      refine aH3 (i:=0) (j:=1) (k:=5) (by decide +kernel) rfl rfl rfl ?_ ?_ ?_
      ·
       refine st85.nmB (s:=4) 7 rfl rfl iI [0,2,3,5] rfl (λ b186 st186=>?_)
       refine st186.ldK (sb:=4) 7 1 rfl rfl kT35 rfl (by simp) (by simp) (by decide) iI [6,29,30] rfl [0,2,3,5] rfl rfl rfl rfl (λ _ H187 _ _ st187=>?_)
       have st188:=st187.gn
       exact aHe n90 trivial
      ·
       refine st85.segC 1 [6,27,29,30] [(0,3),(2,5),(3,6),(4,7),(5,8)] (λ _ _ st189=>?_)
       exact aHe n96 trivial
      ·
       refine st85.cNA 3 0 (j7 p62) [6,29] [2,3,4,5] (λ G190 _ _ _ st191=>?_)
       exact aHe n103 trivial
     refine aH3 (i:=0) (j:=1) (k:=3) (by decide +kernel) rfl rfl rfl ?_ ?_ ?_
     ·
      refine st52.nmB (s:=4) 7 rfl rfl iI [0,2,3,5] rfl (λ b192 st192=>?_)
      refine st192.ldK (sb:=4) 7 1 rfl rfl kT35 rfl (by simp) (by simp) (by decide) iI [6,28,30] rfl [0,2,3,5] rfl rfl rfl rfl (λ _ H193 _ _ st193=>?_)
      have st194:=st193.gn
      exact aHe n80 trivial
     ·
      refine st52.segC 1 [6,27,28,30] [(0,3),(2,5),(3,6),(4,7),(5,8)] (λ _ _ st195=>?_)
      exact aHe n82 trivial
     ·
      refine st52.cNA 3 0 (qZ p58) [6,30] [2,3,4,5] (λ G196 _ _ _ st197=>?_)
      exact aHe n85 trivial
    refine st47.held (λ _=>True) zD (λ _ st198=>?_)
    refine st198.tN 1 0 trivial (λ _ st199=>?_)
    refine st199.tM 3 7 trivial (λ _ st200=>?_)
    obtain⟨v203,p203,v206,p206,h218⟩:=bsB h49
    refine zq 1 1023 (λ a w=>∃ M1 q292_0 q292_1 q292_2 q292_3 q292_4 q292_5 q292_6 q292_7 q292_8 q292_9,Sx (Frm.chg w0 G) 70 M M1 [q292_0,q292_1,q292_2,q292_3,q292_4,q292_5,oneB q292_6,q292_7,oneB q292_8,oneB q292_9] [(6,dt s30.2.2.2),(7,dt v38.2),(42,dt v206.2)] [(3,6,dbox q292_6 0 zX),(5,8,dbox q292_8 0 s30.2.2.1),(8,9,dbox q292_9 0 v206.1),(0,3,dnm (Ow.box (Ow.frz (α:=Reader))) q292_3 ⟨v203.1⟩ (.pointer (some ⟨b0,0,none⟩)) []),(2,5,dow (Ow.box (owFinder (Ow.row 77 (Ow.frz (α:=Dir))))) q292_5 ⟨zi⟩),(4,7,dow (Ow.box (owFinder (Ow.row 77 (Ow.frz (α:=Dir))))) q292_7 ⟨s30.2.1⟩)] a w) ?_ (λ n292=>?_)
    ·
     rintro a292 w292 ⟨M292,q292_0,q292_1,q292_2,q292_3,q292_4,q292_5,q292_6,q292_7,q292_8,q292_9,st292⟩
     refine aK1 10 ?_
     refine st292.segA 1 [6,7,9] [(0,3),(2,5),(3,6),(4,7),(5,8),(8,9)] (λ _ _ st295=>aHN trivial ?_)
     refine aK0 (za ?_)
     obtain⟨o296,p296,k296⟩:=bs h218
     refine zm (λ a w=>∃ M1 q296_0 q296_1 q296_2 q296_3 q296_4 q296_5 q296_6 q296_7 q296_8 q296_9,Sx (Frm.chg w0 G) 70 M M1 [q296_0,q296_1,q296_2,q296_3,q296_4,q296_5,oneB q296_6,q296_7,oneB q296_8,oneB q296_9] [(6,dt s30.2.2.2),(9,dt o296.2.2)] [(3,6,dbox q296_6 0 zX),(5,8,dbox q296_8 0 s30.2.2.1),(8,9,dbox q296_9 0 o296.2.1),(0,3,dnm (Ow.box (Ow.frz (α:=Reader))) q296_3 ⟨o296.1⟩ (.pointer (some ⟨b0,0,none⟩)) []),(2,5,dow (Ow.box (owFinder (Ow.row 77 (Ow.frz (α:=Dir))))) q296_5 ⟨zi⟩),(4,7,dow (Ow.box (owFinder (Ow.row 77 (Ow.frz (α:=Dir))))) q296_7 ⟨s30.2.1⟩)] a w) ?_ ?_
     ·
      refine wp_seq (wp_region_list ?_)
      refine st295.segC 1 [6,7,9,43] [(0,3),(2,5),(3,6),(4,7),(5,8),(8,9)] (λ _ _ st297=>?_)
      obtain⟨v299,p299,h300⟩:=bs p296
      refine st297.cNA 3 0 (zH p299) [6,7,9] [2,3,4,5,8] (λ G298 _ _ _ st301=>?_)
      refine st301.segC 8 [6,7,9,52] [(0,3),(2,5),(3,6),(4,7),(5,8),(8,9)] (λ _ _ st302=>wpList_nil (za ?_))
      refine st302.cs rfl h300 (λ _ h303=>?_) (λ _ h304=>wp_skip (za ?_))
      ·
       refine st302.held (λ _=>True) zD (λ _ st305=>?_)
       refine st305.tN 1 0 trivial (λ _ st306=>?_)
       refine st306.tM 7 7 trivial (λ _ st307=>?_)
       obtain⟨v314,p314,h325⟩:=bs h303
       obtain⟨v317,p317,h326⟩:=bsW h325 zab
       refine zq 1 8191 (λ a w=>∃ M1 q372_0 q372_1 q372_2 q372_3 q372_4 q372_5 q372_6 q372_7 q372_8 q372_9,Sx (Frm.chg w0 G) 70 M M1 [q372_0,q372_1,q372_2,q372_3,q372_4,q372_5,oneB q372_6,q372_7,oneB q372_8,oneB q372_9] [(6,dt s30.2.2.2),(9,dt v206.2),(64,dt v317.2)] [(3,6,dbox q372_6 0 zX),(5,8,dbox q372_8 0 s30.2.2.1),(8,9,dbox q372_9 0 v317.1),(0,3,dnm (Ow.box (Ow.frz (α:=Reader))) q372_3 ⟨v314.1⟩ (.pointer (some ⟨b0,0,none⟩)) []),(2,5,dow (Ow.box (owFinder (Ow.row 77 (Ow.frz (α:=Dir))))) q372_5 ⟨zi⟩),(4,7,dow (Ow.box (owFinder (Ow.row 77 (Ow.frz (α:=Dir))))) q372_7 ⟨s30.2.1⟩)] a w) ?_ (λ n372=>?_)
       ·
        rintro a372 w372 ⟨M372,q372_0,q372_1,q372_2,q372_3,q372_4,q372_5,q372_6,q372_7,q372_8,q372_9,st372⟩
        refine aK1 13 ?_
        refine st372.segA 1 [6,9] [(0,3),(2,5),(3,6),(4,7),(5,8),(8,9)] (λ _ _ st375=>aHN trivial ?_)
        refine aK0 (za ?_)
        cases h326
        exact fx
       refine zq 2 4095 (λ a w=>∃ M1 q365_0 q365_1 q365_2 q365_3 q365_4 q365_5 q365_6 q365_7 q365_8 q365_9,Sx (Frm.chg w0 G) 70 M M1 [q365_0,q365_1,q365_2,q365_3,q365_4,q365_5,oneB q365_6,q365_7,oneB q365_8,oneB q365_9] [(6,dt s30.2.2.2),(9,dt v206.2),(63,dt v317.1),(64,dt v317.2)] [(3,6,dbox q365_6 0 zX),(5,8,dbox q365_8 0 s30.2.2.1),(8,9,dbox q365_9 0 v206.1),(0,3,dnm (Ow.box (Ow.frz (α:=Reader))) q365_3 ⟨v314.1⟩ (.pointer (some ⟨b0,0,none⟩)) []),(2,5,dow (Ow.box (owFinder (Ow.row 77 (Ow.frz (α:=Dir))))) q365_5 ⟨zi⟩),(4,7,dow (Ow.box (owFinder (Ow.row 77 (Ow.frz (α:=Dir))))) q365_7 ⟨s30.2.1⟩)] a w) ?_ (λ n365=>?_)
       ·
        rintro a365 w365 ⟨M365,q365_0,q365_1,q365_2,q365_3,q365_4,q365_5,q365_6,q365_7,q365_8,q365_9,st365⟩
        refine aK1 12 ?_
        refine st365.stA 8 9 FldS.id (tp rfl) [6,9,64] [0,2,3,4,5] (λ _ _ st377=>?_)
        exact aHe n372 trivial
       refine zq 2 6143 (λ a w=>∃ M1 q368_0 q368_1 q368_2 q368_3 q368_4 q368_5 q368_6 q368_7 q368_8 q368_9,Sx (Frm.chg w0 G) 70 M M1 [q368_0,q368_1,q368_2,q368_3,q368_4,q368_5,oneB q368_6,q368_7,oneB q368_8,oneB q368_9] [(6,dt s30.2.2.2),(9,dt v206.2),(53,dtup [dt v317.1,dt v317.2])] [(3,6,dbox q368_6 0 zX),(5,8,dbox q368_8 0 s30.2.2.1),(8,9,dbox q368_9 0 v317.1),(0,3,dnm (Ow.box (Ow.frz (α:=Reader))) q368_3 ⟨v314.1⟩ (.pointer (some ⟨b0,0,none⟩)) []),(2,5,dow (Ow.box (owFinder (Ow.row 77 (Ow.frz (α:=Dir))))) q368_5 ⟨zi⟩),(4,7,dow (Ow.box (owFinder (Ow.row 77 (Ow.frz (α:=Dir))))) q368_7 ⟨s30.2.1⟩)] a w) ?_ (λ n368=>?_)
       ·
        rintro a368 w368 ⟨M368,q368_0,q368_1,q368_2,q368_3,q368_4,q368_5,q368_6,q368_7,q368_8,q368_9,st368⟩
        refine aK1 11 ?_
        refine st368.segA 1 [6,9,64] [(0,3),(2,5),(3,6),(4,7),(5,8),(8,9)] (λ _ _ st378=>?_)
        exact aHe n372 trivial
       refine zq 3 2047 (λ a w=>∃ M1 q361_0 q361_1 q361_2 q361_3 q361_4 q361_5 q361_6 q361_7 q361_8 q361_9,Sx (Frm.chg w0 G) 70 M M1 [q361_0,q361_1,q361_2,q361_3,q361_4,q361_5,oneB q361_6,q361_7,oneB q361_8,oneB q361_9] [(6,dt s30.2.2.2),(9,dt v206.2),(63,dt v317.1),(53,dtup [dt v317.1,dt v317.2])] [(3,6,dbox q361_6 0 zX),(5,8,dbox q361_8 0 s30.2.2.1),(8,9,dbox q361_9 0 v206.1),(0,3,dnm (Ow.box (Ow.frz (α:=Reader))) q361_3 ⟨v314.1⟩ (.pointer (some ⟨b0,0,none⟩)) []),(2,5,dow (Ow.box (owFinder (Ow.row 77 (Ow.frz (α:=Dir))))) q361_5 ⟨zi⟩),(4,7,dow (Ow.box (owFinder (Ow.row 77 (Ow.frz (α:=Dir))))) q361_7 ⟨s30.2.1⟩)] a w) ?_ (λ n361=>?_)
       ·
        rintro a361 w361 ⟨M361,q361_0,q361_1,q361_2,q361_3,q361_4,q361_5,q361_6,q361_7,q361_8,q361_9,st361⟩
        refine aK2 11 12 ?_ ?_
        ·
         refine st361.segA 1 [6,9,63,64] [(0,3),(2,5),(3,6),(4,7),(5,8),(8,9)] (λ _ _ st379=>?_)
         exact aHe n365 trivial
        ·
         refine st361.stA 8 9 FldS.id (tp rfl) [6,9,53] [0,2,3,4,5] (λ _ _ st381=>?_)
         exact aHe n368 trivial
       refine zq 3 3071 (λ a w=>∃ M1 q363_0 q363_1 q363_2 q363_3 q363_4 q363_5 q363_6 q363_7 q363_8 q363_9,Sx (Frm.chg w0 G) 70 M M1 [q363_0,q363_1,q363_2,q363_3,q363_4,q363_5,oneB q363_6,q363_7,oneB q363_8,oneB q363_9] [(6,dt s30.2.2.2),(9,dt v206.2),(64,dt v317.2),(53,dtup [dt v317.1,dt v317.2])] [(3,6,dbox q363_6 0 zX),(5,8,dbox q363_8 0 s30.2.2.1),(8,9,dbox q363_9 0 v206.1),(0,3,dnm (Ow.box (Ow.frz (α:=Reader))) q363_3 ⟨v314.1⟩ (.pointer (some ⟨b0,0,none⟩)) []),(2,5,dow (Ow.box (owFinder (Ow.row 77 (Ow.frz (α:=Dir))))) q363_5 ⟨zi⟩),(4,7,dow (Ow.box (owFinder (Ow.row 77 (Ow.frz (α:=Dir))))) q363_7 ⟨s30.2.1⟩)] a w) ?_ (λ n363=>?_)
       ·
        rintro a363 w363 ⟨M363,q363_0,q363_1,q363_2,q363_3,q363_4,q363_5,q363_6,q363_7,q363_8,q363_9,st363⟩
        refine aK1 10 ?_
        refine st363.segA 1 [6,9,63,64] [(0,3),(2,5),(3,6),(4,7),(5,8),(8,9)] (λ _ _ st382=>?_)
        exact aHe n365 trivial
       refine zq 4 1023 (λ a w=>∃ M1 q359_0 q359_1 q359_2 q359_3 q359_4 q359_5 q359_6 q359_7 q359_8 q359_9,Sx (Frm.chg w0 G) 70 M M1 [q359_0,q359_1,q359_2,q359_3,q359_4,q359_5,oneB q359_6,q359_7,oneB q359_8,oneB q359_9] [(6,dt s30.2.2.2),(9,dt v206.2),(53,dtup [dt v317.1,dt v317.2])] [(3,6,dbox q359_6 0 zX),(5,8,dbox q359_8 0 s30.2.2.1),(8,9,dbox q359_9 0 v206.1),(0,3,dnm (Ow.box (Ow.frz (α:=Reader))) q359_3 ⟨v314.1⟩ (.pointer (some ⟨b0,0,none⟩)) []),(2,5,dow (Ow.box (owFinder (Ow.row 77 (Ow.frz (α:=Dir))))) q359_5 ⟨zi⟩),(4,7,dow (Ow.box (owFinder (Ow.row 77 (Ow.frz (α:=Dir))))) q359_7 ⟨s30.2.1⟩)] a w) ?_ (λ n359=>?_)
       ·
        rintro a359 w359 ⟨M359,q359_0,q359_1,q359_2,q359_3,q359_4,q359_5,q359_6,q359_7,q359_8,q359_9,st359⟩
        refine aK2 10 11 ?_ ?_
        ·
         refine st359.segA 1 [6,9,53,63] [(0,3),(2,5),(3,6),(4,7),(5,8),(8,9)] (λ _ _ st383=>?_)
         exact aHe n361 trivial
        ·
         refine st359.segA 1 [6,9,53,64] [(0,3),(2,5),(3,6),(4,7),(5,8),(8,9)] (λ _ _ st384=>?_)
         exact aHe n363 trivial
       refine zq 5 511 (λ a w=>∃ M1 q357_0 q357_1 q357_2 q357_3 q357_4 q357_5 q357_6 q357_7 q357_8 q357_9,Sx (Frm.chg w0 G) 70 M M1 [q357_0,q357_1,q357_2,q357_3,q357_4,q357_5,oneB q357_6,q357_7,oneB q357_8,oneB q357_9] [(6,dt s30.2.2.2),(9,dt v206.2),(62,dtup [dt v317.1,dt v317.2])] [(3,6,dbox q357_6 0 zX),(5,8,dbox q357_8 0 s30.2.2.1),(8,9,dbox q357_9 0 v206.1),(0,3,dnm (Ow.box (Ow.frz (α:=Reader))) q357_3 ⟨v314.1⟩ (.pointer (some ⟨b0,0,none⟩)) []),(2,5,dow (Ow.box (owFinder (Ow.row 77 (Ow.frz (α:=Dir))))) q357_5 ⟨zi⟩),(4,7,dow (Ow.box (owFinder (Ow.row 77 (Ow.frz (α:=Dir))))) q357_7 ⟨s30.2.1⟩)] a w) ?_ (λ n357=>?_)
       ·
        rintro a357 w357 ⟨M357,q357_0,q357_1,q357_2,q357_3,q357_4,q357_5,q357_6,q357_7,q357_8,q357_9,st357⟩
        refine aK1 9 ?_
        refine st357.segA 1 [6,9,53] [(0,3),(2,5),(3,6),(4,7),(5,8),(8,9)] (λ _ _ st385=>?_)
        exact aHe n359 trivial
       refine zq 6 255 (λ a w=>∃ M1 q354_0 q354_1 q354_2 q354_3 q354_4 q354_5 q354_6 q354_7 q354_8 q354_9,Sx (Frm.chg w0 G) 70 M M1 [q354_0,q354_1,q354_2,q354_3,q354_4,q354_5,oneB q354_6,q354_7,oneB q354_8,oneB q354_9] [(6,dt s30.2.2.2),(9,dt v206.2),(54,dt s30.2.2.1),(60,dt v314.2),(61,dt v38.2)] [(3,6,dbox q354_6 0 zX),(5,8,dbox q354_8 0 s30.2.2.1),(8,9,dbox q354_9 0 v206.1),(0,3,dnm (Ow.box (Ow.frz (α:=Reader))) q354_3 ⟨v314.1⟩ (.pointer (some ⟨b0,0,none⟩)) []),(2,5,dow (Ow.box (owFinder (Ow.row 77 (Ow.frz (α:=Dir))))) q354_5 ⟨zi⟩),(4,7,dow (Ow.box (owFinder (Ow.row 77 (Ow.frz (α:=Dir))))) q354_7 ⟨s30.2.1⟩)] a w) ?_ (λ n354=>?_)
       ·
        rintro a354 w354 ⟨M354,q354_0,q354_1,q354_2,q354_3,q354_4,q354_5,q354_6,q354_7,q354_8,q354_9,st354⟩
        refine aK1 8 ?_
        refine st354.segA 1 [6,9,62] [(0,3),(2,5),(3,6),(4,7),(5,8),(8,9)] (λ _ _ st386=>?_)
        exact aHe n357 trivial
       refine zq 7 191 (λ a w=>∃ M1 q347_0 q347_1 q347_2 q347_3 q347_4 q347_5 q347_6 q347_7 q347_8 q347_9,Sx (Frm.chg w0 G) 70 M M1 [q347_0,q347_1,q347_2,q347_3,q347_4,q347_5,oneB q347_6,q347_7,oneB q347_8,oneB q347_9] [(6,dt s30.2.2.2),(9,dt v206.2),(54,dt s30.2.2.1),(59,dt (s30.2.2.1.tree.files.length:Int)),(61,dt v38.2),(55,dis (.pointer (some ⟨b0,0,none⟩)))] [(3,6,dbox q347_6 0 zX),(5,8,dbox q347_8 0 s30.2.2.1),(8,9,dbox q347_9 0 v206.1),(0,3,dnm (Ow.box (Ow.frz (α:=Reader))) q347_3 ⟨v299.1⟩ (.pointer (some ⟨b0,0,none⟩)) []),(2,5,dow (Ow.box (owFinder (Ow.row 77 (Ow.frz (α:=Dir))))) q347_5 ⟨zi⟩),(4,7,dow (Ow.box (owFinder (Ow.row 77 (Ow.frz (α:=Dir))))) q347_7 ⟨s30.2.1⟩)] a w) ?_ (λ n347=>?_)
       ·
        rintro a347 w347 ⟨M347,q347_0,q347_1,q347_2,q347_3,q347_4,q347_5,q347_6,q347_7,q347_8,q347_9,st347⟩
        refine aK1 6 ?_
        refine st347.cNA 3 0 (zH p314) [6,9,54,61] [2,3,4,5,8] (λ G387 _ _ _ st388=>?_)
        exact aHe n354 trivial
       refine zq 7 254 (λ a w=>∃ M1 q351_0 q351_1 q351_2 q351_3 q351_4 q351_5 q351_6 q351_7 q351_8 q351_9,Sx (Frm.chg w0 G) 70 M M1 [q351_0,q351_1,q351_2,q351_3,q351_4,q351_5,oneB q351_6,q351_7,oneB q351_8,oneB q351_9] [(6,dt s30.2.2.2),(9,dt v206.2),(60,dt v314.2),(61,dt v38.2)] [(3,6,dbox q351_6 0 zX),(5,8,dbox q351_8 0 s30.2.2.1),(8,9,dbox q351_9 0 v206.1),(0,3,dnm (Ow.box (Ow.frz (α:=Reader))) q351_3 ⟨v314.1⟩ (.pointer (some ⟨b0,0,none⟩)) []),(2,5,dow (Ow.box (owFinder (Ow.row 77 (Ow.frz (α:=Dir))))) q351_5 ⟨zi⟩),(4,7,dow (Ow.box (owFinder (Ow.row 77 (Ow.frz (α:=Dir))))) q351_7 ⟨s30.2.1⟩)] a w) ?_ (λ n351=>?_)
       ·
        rintro a351 w351 ⟨M351,q351_0,q351_1,q351_2,q351_3,q351_4,q351_5,q351_6,q351_7,q351_8,q351_9,st351⟩
        refine aK1 0 ?_
        refine st351.segC 1 [6,9,54,60,61] [(0,3),(2,5),(3,6),(4,7),(5,8),(8,9)] (λ _ _ st389=>?_)
        exact aHe n354 trivial
       refine zq 8 159 (λ a w=>∃ M1 q342_0 q342_1 q342_2 q342_3 q342_4 q342_5 q342_6 q342_7 q342_8 q342_9,Sx (Frm.chg w0 G) 70 M M1 [q342_0,q342_1,q342_2,q342_3,q342_4,q342_5,oneB q342_6,q342_7,oneB q342_8,oneB q342_9] [(6,dt s30.2.2.2),(9,dt v206.2),(54,dt s30.2.2.1),(58,dt s30.2.2.1.tree.files),(61,dt v38.2),(55,dis (.pointer (some ⟨b0,0,none⟩)))] [(3,6,dbox q342_6 0 zX),(5,8,dbox q342_8 0 s30.2.2.1),(8,9,dbox q342_9 0 v206.1),(0,3,dnm (Ow.box (Ow.frz (α:=Reader))) q342_3 ⟨v299.1⟩ (.pointer (some ⟨b0,0,none⟩)) []),(2,5,dow (Ow.box (owFinder (Ow.row 77 (Ow.frz (α:=Dir))))) q342_5 ⟨zi⟩),(4,7,dow (Ow.box (owFinder (Ow.row 77 (Ow.frz (α:=Dir))))) q342_7 ⟨s30.2.1⟩)] a w) ?_ (λ n342=>?_)
       ·
        rintro a342 w342 ⟨M342,q342_0,q342_1,q342_2,q342_3,q342_4,q342_5,q342_6,q342_7,q342_8,q342_9,st342⟩
        refine aK1 5 ?_
        refine st342.segA 1 [6,9,54,55,59,61] [(0,3),(2,5),(3,6),(4,7),(5,8),(8,9)] (λ _ _ st390=>?_)
        exact aHe n347 trivial
       refine zq 8 190 (λ a w=>∃ M1 q345_0 q345_1 q345_2 q345_3 q345_4 q345_5 q345_6 q345_7 q345_8 q345_9,Sx (Frm.chg w0 G) 70 M M1 [q345_0,q345_1,q345_2,q345_3,q345_4,q345_5,oneB q345_6,q345_7,oneB q345_8,oneB q345_9] [(6,dt s30.2.2.2),(9,dt v206.2),(59,dt (s30.2.2.1.tree.files.length:Int)),(61,dt v38.2),(55,dis (.pointer (some ⟨b0,0,none⟩)))] [(3,6,dbox q345_6 0 zX),(5,8,dbox q345_8 0 s30.2.2.1),(8,9,dbox q345_9 0 v206.1),(0,3,dnm (Ow.box (Ow.frz (α:=Reader))) q345_3 ⟨v299.1⟩ (.pointer (some ⟨b0,0,none⟩)) []),(2,5,dow (Ow.box (owFinder (Ow.row 77 (Ow.frz (α:=Dir))))) q345_5 ⟨zi⟩),(4,7,dow (Ow.box (owFinder (Ow.row 77 (Ow.frz (α:=Dir))))) q345_7 ⟨s30.2.1⟩)] a w) ?_ (λ n345=>?_)
       ·
        rintro a345 w345 ⟨M345,q345_0,q345_1,q345_2,q345_3,q345_4,q345_5,q345_6,q345_7,q345_8,q345_9,st345⟩
        refine aK2 0 6 ?_ ?_
        ·
         refine st345.segC 1 [6,9,54,55,59,61] [(0,3),(2,5),(3,6),(4,7),(5,8),(8,9)] (λ _ _ st391=>?_)
         exact aHe n347 trivial
        ·
         refine st345.cNA 3 0 (zH p314) [6,9,61] [2,3,4,5,8] (λ G392 _ _ _ st393=>?_)
         exact aHe n351 trivial
       refine zq 9 143 (λ a w=>∃ M1 q337_0 q337_1 q337_2 q337_3 q337_4 q337_5 q337_6 q337_7 q337_8 q337_9,Sx (Frm.chg w0 G) 70 M M1 [q337_0,q337_1,q337_2,q337_3,q337_4,q337_5,oneB q337_6,q337_7,oneB q337_8,oneB q337_9] [(6,dt s30.2.2.2),(9,dt v206.2),(54,dt s30.2.2.1),(61,dt v38.2),(55,dis (.pointer (some ⟨b0,0,none⟩)))] [(3,6,dbox q337_6 0 zX),(5,8,dbox q337_8 0 s30.2.2.1),(8,9,dbox q337_9 0 v206.1),(0,3,dnm (Ow.box (Ow.frz (α:=Reader))) q337_3 ⟨v299.1⟩ (.pointer (some ⟨b0,0,none⟩)) []),(2,5,dow (Ow.box (owFinder (Ow.row 77 (Ow.frz (α:=Dir))))) q337_5 ⟨zi⟩),(4,7,dow (Ow.box (owFinder (Ow.row 77 (Ow.frz (α:=Dir))))) q337_7 ⟨s30.2.1⟩),(57,8,dbox q337_8 ((0+0)+0) s30.2.2.1.tree.files)] a w) ?_ (λ n337=>?_)
       ·
        rintro a337 w337 ⟨M337,q337_0,q337_1,q337_2,q337_3,q337_4,q337_5,q337_6,q337_7,q337_8,q337_9,st337⟩
        refine aK1 4 ?_
        refine st337.segC 1 [6,9,54,55,58,61] [(0,3),(2,5),(3,6),(4,7),(5,8),(8,9)] (λ _ _ st394=>?_)
        exact aHe n342 trivial
       refine zq 9 158 (λ a w=>∃ M1 q340_0 q340_1 q340_2 q340_3 q340_4 q340_5 q340_6 q340_7 q340_8 q340_9,Sx (Frm.chg w0 G) 70 M M1 [q340_0,q340_1,q340_2,q340_3,q340_4,q340_5,oneB q340_6,q340_7,oneB q340_8,oneB q340_9] [(6,dt s30.2.2.2),(9,dt v206.2),(58,dt s30.2.2.1.tree.files),(61,dt v38.2),(55,dis (.pointer (some ⟨b0,0,none⟩)))] [(3,6,dbox q340_6 0 zX),(5,8,dbox q340_8 0 s30.2.2.1),(8,9,dbox q340_9 0 v206.1),(0,3,dnm (Ow.box (Ow.frz (α:=Reader))) q340_3 ⟨v299.1⟩ (.pointer (some ⟨b0,0,none⟩)) []),(2,5,dow (Ow.box (owFinder (Ow.row 77 (Ow.frz (α:=Dir))))) q340_5 ⟨zi⟩),(4,7,dow (Ow.box (owFinder (Ow.row 77 (Ow.frz (α:=Dir))))) q340_7 ⟨s30.2.1⟩)] a w) ?_ (λ n340=>?_)
       ·
        rintro a340 w340 ⟨M340,q340_0,q340_1,q340_2,q340_3,q340_4,q340_5,q340_6,q340_7,q340_8,q340_9,st340⟩
        refine aK2 0 5 ?_ ?_
        ·
         refine st340.segC 1 [6,9,54,55,58,61] [(0,3),(2,5),(3,6),(4,7),(5,8),(8,9)] (λ _ _ st395=>?_)
         exact aHe n342 trivial
        ·
         refine st340.segA 1 [6,9,55,59,61] [(0,3),(2,5),(3,6),(4,7),(5,8),(8,9)] (λ _ _ st396=>?_)
         exact aHe n345 trivial
       refine zq 10 135 (λ a w=>∃ M1 q332_0 q332_1 q332_2 q332_3 q332_4 q332_5 q332_6 q332_7 q332_8 q332_9,Sx (Frm.chg w0 G) 70 M M1 [q332_0,q332_1,q332_2,q332_3,q332_4,q332_5,oneB q332_6,q332_7,oneB q332_8,oneB q332_9] [(6,dt s30.2.2.2),(9,dt v206.2),(54,dt s30.2.2.1),(61,dt v38.2),(55,dis (.pointer (some ⟨b0,0,none⟩)))] [(3,6,dbox q332_6 0 zX),(5,8,dbox q332_8 0 s30.2.2.1),(8,9,dbox q332_9 0 v206.1),(0,3,dnm (Ow.box (Ow.frz (α:=Reader))) q332_3 ⟨v299.1⟩ (.pointer (some ⟨b0,0,none⟩)) []),(2,5,dow (Ow.box (owFinder (Ow.row 77 (Ow.frz (α:=Dir))))) q332_5 ⟨zi⟩),(4,7,dow (Ow.box (owFinder (Ow.row 77 (Ow.frz (α:=Dir))))) q332_7 ⟨s30.2.1⟩),(56,8,dbox q332_8 (0+0) s30.2.2.1.tree)] a w) ?_ (λ n332=>?_)
       ·
        rintro a332 w332 ⟨M332,q332_0,q332_1,q332_2,q332_3,q332_4,q332_5,q332_6,q332_7,q332_8,q332_9,st332⟩
        refine aK1 3 ?_
        refine st332.segC 1 [6,9,54,55,61] [(0,3),(2,5),(3,6),(4,7),(5,8),(8,9),(57,8)] (λ _ _ st397=>?_)
        exact aHe n337 trivial
       refine zq 10 142 (λ a w=>∃ M1 q335_0 q335_1 q335_2 q335_3 q335_4 q335_5 q335_6 q335_7 q335_8 q335_9,Sx (Frm.chg w0 G) 70 M M1 [q335_0,q335_1,q335_2,q335_3,q335_4,q335_5,oneB q335_6,q335_7,oneB q335_8,oneB q335_9] [(6,dt s30.2.2.2),(9,dt v206.2),(61,dt v38.2),(55,dis (.pointer (some ⟨b0,0,none⟩)))] [(3,6,dbox q335_6 0 zX),(5,8,dbox q335_8 0 s30.2.2.1),(8,9,dbox q335_9 0 v206.1),(0,3,dnm (Ow.box (Ow.frz (α:=Reader))) q335_3 ⟨v299.1⟩ (.pointer (some ⟨b0,0,none⟩)) []),(2,5,dow (Ow.box (owFinder (Ow.row 77 (Ow.frz (α:=Dir))))) q335_5 ⟨zi⟩),(4,7,dow (Ow.box (owFinder (Ow.row 77 (Ow.frz (α:=Dir))))) q335_7 ⟨s30.2.1⟩),(57,8,dbox q335_8 ((0+0)+0) s30.2.2.1.tree.files)] a w) ?_ (λ n335=>?_)
       ·
        rintro a335 w335 ⟨M335,q335_0,q335_1,q335_2,q335_3,q335_4,q335_5,q335_6,q335_7,q335_8,q335_9,st335⟩
        refine aK2 0 4 ?_ ?_
        ·
         refine st335.segC 1 [6,9,54,55,61] [(0,3),(2,5),(3,6),(4,7),(5,8),(8,9),(57,8)] (λ _ _ st398=>?_)
         exact aHe n337 trivial
        ·
         refine st335.segC 1 [6,9,55,58,61] [(0,3),(2,5),(3,6),(4,7),(5,8),(8,9)] (λ _ _ st399=>?_)
         exact aHe n340 trivial
       refine zq 11 131 (λ a w=>∃ M1 q328_0 q328_1 q328_2 q328_3 q328_4 q328_5 q328_6 q328_7 q328_8 q328_9,Sx (Frm.chg w0 G) 70 M M1 [q328_0,q328_1,q328_2,q328_3,q328_4,q328_5,oneB q328_6,q328_7,oneB q328_8,oneB q328_9] [(6,dt s30.2.2.2),(9,dt v206.2),(54,dt s30.2.2.1),(61,dt v38.2),(55,dis (.pointer (some ⟨b0,0,none⟩)))] [(3,6,dbox q328_6 0 zX),(5,8,dbox q328_8 0 s30.2.2.1),(8,9,dbox q328_9 0 v206.1),(0,3,dnm (Ow.box (Ow.frz (α:=Reader))) q328_3 ⟨v299.1⟩ (.pointer (some ⟨b0,0,none⟩)) []),(2,5,dow (Ow.box (owFinder (Ow.row 77 (Ow.frz (α:=Dir))))) q328_5 ⟨zi⟩),(4,7,dow (Ow.box (owFinder (Ow.row 77 (Ow.frz (α:=Dir))))) q328_7 ⟨s30.2.1⟩)] a w) ?_ (λ n328=>?_)
       ·
        rintro a328 w328 ⟨M328,q328_0,q328_1,q328_2,q328_3,q328_4,q328_5,q328_6,q328_7,q328_8,q328_9,st328⟩
        refine aK1 2 ?_
        refine st328.segC 1 [6,9,54,55,61] [(0,3),(2,5),(3,6),(4,7),(5,8),(8,9),(56,8)] (λ _ _ st400=>?_)
        exact aHe n332 trivial
       refine zq 11 134 (λ a w=>∃ M1 q330_0 q330_1 q330_2 q330_3 q330_4 q330_5 q330_6 q330_7 q330_8 q330_9,Sx (Frm.chg w0 G) 70 M M1 [q330_0,q330_1,q330_2,q330_3,q330_4,q330_5,oneB q330_6,q330_7,oneB q330_8,oneB q330_9] [(6,dt s30.2.2.2),(9,dt v206.2),(61,dt v38.2),(55,dis (.pointer (some ⟨b0,0,none⟩)))] [(3,6,dbox q330_6 0 zX),(5,8,dbox q330_8 0 s30.2.2.1),(8,9,dbox q330_9 0 v206.1),(0,3,dnm (Ow.box (Ow.frz (α:=Reader))) q330_3 ⟨v299.1⟩ (.pointer (some ⟨b0,0,none⟩)) []),(2,5,dow (Ow.box (owFinder (Ow.row 77 (Ow.frz (α:=Dir))))) q330_5 ⟨zi⟩),(4,7,dow (Ow.box (owFinder (Ow.row 77 (Ow.frz (α:=Dir))))) q330_7 ⟨s30.2.1⟩),(56,8,dbox q330_8 (0+0) s30.2.2.1.tree)] a w) ?_ (λ n330=>?_)
       ·
        rintro a330 w330 ⟨M330,q330_0,q330_1,q330_2,q330_3,q330_4,q330_5,q330_6,q330_7,q330_8,q330_9,st330⟩
        refine aK2 0 3 ?_ ?_
        ·
         refine st330.segC 1 [6,9,54,55,61] [(0,3),(2,5),(3,6),(4,7),(5,8),(8,9),(56,8)] (λ _ _ st401=>?_)
         exact aHe n332 trivial
        ·
         refine st330.segC 1 [6,9,55,61] [(0,3),(2,5),(3,6),(4,7),(5,8),(8,9),(57,8)] (λ _ _ st402=>?_)
         exact aHe n335 trivial
       refine aK2 0 2 ?_ ?_
       ·
        refine st307.segC 1 [6,9,54,55,61] [(0,3),(2,5),(3,6),(4,7),(5,8),(8,9)] (λ _ _ st403=>?_)
        exact aHe n328 trivial
       ·
        refine st307.segC 1 [6,9,55,61] [(0,3),(2,5),(3,6),(4,7),(5,8),(8,9),(56,8)] (λ _ _ st404=>?_)
        exact aHe n330 trivial
      cases h304
      exact fx
     rintro a296 w296 ⟨M296,q296_0,q296_1,q296_2,q296_3,q296_4,q296_5,q296_6,q296_7,q296_8,q296_9,st296⟩
     have h405:=k296
     refine st296.sqA [6,65] [(0,3),(2,5),(3,6),(4,7),(5,8),(8,9)] (λ _ _ st406=>?_)
     refine st406.cs rfl h405 (λ _ h407=>wp_region_list ?_) (λ _ h408=>wp_skip (zg (za ?_)))
     ·
      refine st406.segC 1 [6,66] [(0,3),(2,5),(3,6),(4,7),(5,8)] (λ _ _ st409=>?_)
      refine st409.stA 5 8 FldS.id (tp rfl) [6] [0,2,3,4] (λ _ _ st411=>wpList_nil (zg (za ?_)))
      cases h407
      exact fx
     cases h408
     exact fx
    refine zq 2 511 (λ a w=>∃ M1 q284_0 q284_1 q284_2 q284_3 q284_4 q284_5 q284_6 q284_7 q284_8 q284_9,Sx (Frm.chg w0 G) 70 M M1 [q284_0,q284_1,q284_2,q284_3,q284_4,q284_5,oneB q284_6,q284_7,oneB q284_8,oneB q284_9] [(6,dt s30.2.2.2),(7,dt v38.2),(41,dt v206.1),(42,dt v206.2)] [(3,6,dbox q284_6 0 zX),(5,8,dbox q284_8 0 s30.2.2.1),(8,9,dbox q284_9 0 zX),(0,3,dnm (Ow.box (Ow.frz (α:=Reader))) q284_3 ⟨v203.1⟩ (.pointer (some ⟨b0,0,none⟩)) []),(2,5,dow (Ow.box (owFinder (Ow.row 77 (Ow.frz (α:=Dir))))) q284_5 ⟨zi⟩),(4,7,dow (Ow.box (owFinder (Ow.row 77 (Ow.frz (α:=Dir))))) q284_7 ⟨s30.2.1⟩)] a w) ?_ (λ n284=>?_)
    ·
     rintro a284 w284 ⟨M284,q284_0,q284_1,q284_2,q284_3,q284_4,q284_5,q284_6,q284_7,q284_8,q284_9,st284⟩
     refine aK1 9 ?_
     refine st284.stA 8 9 FldS.id (tp rfl) [6,7,42] [0,2,3,4,5] (λ _ _ st413=>?_)
     exact aHe n292 trivial
    refine zq 2 895 (λ a w=>∃ M1 q288_0 q288_1 q288_2 q288_3 q288_4 q288_5 q288_6 q288_7 q288_8 q288_9,Sx (Frm.chg w0 G) 70 M M1 [q288_0,q288_1,q288_2,q288_3,q288_4,q288_5,oneB q288_6,q288_7,oneB q288_8,oneB q288_9] [(6,dt s30.2.2.2),(7,dt v38.2),(35,dtup [dt v206.1,dt v206.2])] [(3,6,dbox q288_6 0 zX),(5,8,dbox q288_8 0 s30.2.2.1),(8,9,dbox q288_9 0 v206.1),(0,3,dnm (Ow.box (Ow.frz (α:=Reader))) q288_3 ⟨v203.1⟩ (.pointer (some ⟨b0,0,none⟩)) []),(2,5,dow (Ow.box (owFinder (Ow.row 77 (Ow.frz (α:=Dir))))) q288_5 ⟨zi⟩),(4,7,dow (Ow.box (owFinder (Ow.row 77 (Ow.frz (α:=Dir))))) q288_7 ⟨s30.2.1⟩)] a w) ?_ (λ n288=>?_)
    ·
     rintro a288 w288 ⟨M288,q288_0,q288_1,q288_2,q288_3,q288_4,q288_5,q288_6,q288_7,q288_8,q288_9,st288⟩
     refine aK1 7 ?_
     refine st288.segA 1 [6,7,42] [(0,3),(2,5),(3,6),(4,7),(5,8),(8,9)] (λ _ _ st414=>?_)
     exact aHe n292 trivial
    refine zq 3 255 (λ a w=>∃ M1 q269_0 q269_1 q269_2 q269_3 q269_4 q269_5 q269_6 q269_7 q269_8 q269_9,Sx (Frm.chg w0 G) 70 M M1 [q269_0,q269_1,q269_2,q269_3,q269_4,q269_5,oneB q269_6,q269_7,oneB q269_8,oneB q269_9] [(6,dt s30.2.2.2),(7,dt v38.2),(41,dt v206.1),(42,dt v206.2)] [(3,6,dbox q269_6 0 zX),(5,8,dbox q269_8 0 s30.2.2.1),(0,3,dnm (Ow.box (Ow.frz (α:=Reader))) q269_3 ⟨v203.1⟩ (.pointer (some ⟨b0,0,none⟩)) []),(2,5,dow (Ow.box (owFinder (Ow.row 77 (Ow.frz (α:=Dir))))) q269_5 ⟨zi⟩),(4,7,dow (Ow.box (owFinder (Ow.row 77 (Ow.frz (α:=Dir))))) q269_7 ⟨s30.2.1⟩)] a w) ?_ (λ n269=>?_)
    ·
     rintro a269 w269 ⟨M269,q269_0,q269_1,q269_2,q269_3,q269_4,q269_5,q269_6,q269_7,q269_8,q269_9,st269⟩
     refine aK1 8 ?_
     refine st269.alA 9 jh [6,7,41,42] [0,2,3,4,5] (λ b416 _ _ _ st416=>?_)
     have st417:=st416.gn
     exact aHe n284 trivial
    refine zq 3 383 (λ a w=>∃ M1 q273_0 q273_1 q273_2 q273_3 q273_4 q273_5 q273_6 q273_7 q273_8 q273_9,Sx (Frm.chg w0 G) 70 M M1 [q273_0,q273_1,q273_2,q273_3,q273_4,q273_5,oneB q273_6,q273_7,oneB q273_8,oneB q273_9] [(6,dt s30.2.2.2),(7,dt v38.2),(41,dt v206.1),(35,dtup [dt v206.1,dt v206.2])] [(3,6,dbox q273_6 0 zX),(5,8,dbox q273_8 0 s30.2.2.1),(8,9,dbox q273_9 0 zX),(0,3,dnm (Ow.box (Ow.frz (α:=Reader))) q273_3 ⟨v203.1⟩ (.pointer (some ⟨b0,0,none⟩)) []),(2,5,dow (Ow.box (owFinder (Ow.row 77 (Ow.frz (α:=Dir))))) q273_5 ⟨zi⟩),(4,7,dow (Ow.box (owFinder (Ow.row 77 (Ow.frz (α:=Dir))))) q273_7 ⟨s30.2.1⟩)] a w) ?_ (λ n273=>?_)
    ·
     rintro a273 w273 ⟨M273,q273_0,q273_1,q273_2,q273_3,q273_4,q273_5,q273_6,q273_7,q273_8,q273_9,st273⟩
     refine aK2 7 9 ?_ ?_
     ·
      refine st273.segA 1 [6,7,41,42] [(0,3),(2,5),(3,6),(4,7),(5,8),(8,9)] (λ _ _ st418=>?_)
      exact aHe n284 trivial
     ·
      refine st273.stA 8 9 FldS.id (tp rfl) [6,7,35] [0,2,3,4,5] (λ _ _ st420=>?_)
      exact aHe n288 trivial
    refine zq 3 447 (λ a w=>∃ M1 q278_0 q278_1 q278_2 q278_3 q278_4 q278_5 q278_6 q278_7 q278_8 q278_9,Sx (Frm.chg w0 G) 70 M M1 [q278_0,q278_1,q278_2,q278_3,q278_4,q278_5,oneB q278_6,q278_7,oneB q278_8,oneB q278_9] [(6,dt s30.2.2.2),(7,dt v38.2),(42,dt v206.2),(35,dtup [dt v206.1,dt v206.2])] [(3,6,dbox q278_6 0 zX),(5,8,dbox q278_8 0 s30.2.2.1),(8,9,dbox q278_9 0 zX),(0,3,dnm (Ow.box (Ow.frz (α:=Reader))) q278_3 ⟨v203.1⟩ (.pointer (some ⟨b0,0,none⟩)) []),(2,5,dow (Ow.box (owFinder (Ow.row 77 (Ow.frz (α:=Dir))))) q278_5 ⟨zi⟩),(4,7,dow (Ow.box (owFinder (Ow.row 77 (Ow.frz (α:=Dir))))) q278_7 ⟨s30.2.1⟩)] a w) ?_ (λ n278=>?_)
    ·
     rintro a278 w278 ⟨M278,q278_0,q278_1,q278_2,q278_3,q278_4,q278_5,q278_6,q278_7,q278_8,q278_9,st278⟩
     refine aK1 6 ?_
     refine st278.segA 1 [6,7,41,42] [(0,3),(2,5),(3,6),(4,7),(5,8),(8,9)] (λ _ _ st421=>?_)
     exact aHe n284 trivial
    refine zq 4 127 (λ a w=>∃ M1 q260_0 q260_1 q260_2 q260_3 q260_4 q260_5 q260_6 q260_7 q260_8 q260_9,Sx (Frm.chg w0 G) 70 M M1 [q260_0,q260_1,q260_2,q260_3,q260_4,q260_5,oneB q260_6,q260_7,oneB q260_8,oneB q260_9] [(6,dt s30.2.2.2),(7,dt v38.2),(41,dt v206.1),(35,dtup [dt v206.1,dt v206.2])] [(3,6,dbox q260_6 0 zX),(5,8,dbox q260_8 0 s30.2.2.1),(0,3,dnm (Ow.box (Ow.frz (α:=Reader))) q260_3 ⟨v203.1⟩ (.pointer (some ⟨b0,0,none⟩)) []),(2,5,dow (Ow.box (owFinder (Ow.row 77 (Ow.frz (α:=Dir))))) q260_5 ⟨zi⟩),(4,7,dow (Ow.box (owFinder (Ow.row 77 (Ow.frz (α:=Dir))))) q260_7 ⟨s30.2.1⟩)] a w) ?_ (λ n260=>?_)
    ·
     rintro a260 w260 ⟨M260,q260_0,q260_1,q260_2,q260_3,q260_4,q260_5,q260_6,q260_7,q260_8,q260_9,st260⟩
     refine aK2 7 8 ?_ ?_
     ·
      refine st260.segA 1 [6,7,41,42] [(0,3),(2,5),(3,6),(4,7),(5,8)] (λ _ _ st422=>?_)
      exact aHe n269 trivial
     ·
      refine st260.alA 9 jh [6,7,35,41] [0,2,3,4,5] (λ b424 _ _ _ st424=>?_)
      have st425:=st424.gn
      exact aHe n273 trivial
    refine zq 4 191 (λ a w=>∃ M1 q262_0 q262_1 q262_2 q262_3 q262_4 q262_5 q262_6 q262_7 q262_8 q262_9,Sx (Frm.chg w0 G) 70 M M1 [q262_0,q262_1,q262_2,q262_3,q262_4,q262_5,oneB q262_6,q262_7,oneB q262_8,oneB q262_9] [(6,dt s30.2.2.2),(7,dt v38.2),(42,dt v206.2),(35,dtup [dt v206.1,dt v206.2])] [(3,6,dbox q262_6 0 zX),(5,8,dbox q262_8 0 s30.2.2.1),(0,3,dnm (Ow.box (Ow.frz (α:=Reader))) q262_3 ⟨v203.1⟩ (.pointer (some ⟨b0,0,none⟩)) []),(2,5,dow (Ow.box (owFinder (Ow.row 77 (Ow.frz (α:=Dir))))) q262_5 ⟨zi⟩),(4,7,dow (Ow.box (owFinder (Ow.row 77 (Ow.frz (α:=Dir))))) q262_7 ⟨s30.2.1⟩)] a w) ?_ (λ n262=>?_)
    ·
     rintro a262 w262 ⟨M262,q262_0,q262_1,q262_2,q262_3,q262_4,q262_5,q262_6,q262_7,q262_8,q262_9,st262⟩
     refine aK2 6 8 ?_ ?_
     ·
      refine st262.segA 1 [6,7,41,42] [(0,3),(2,5),(3,6),(4,7),(5,8)] (λ _ _ st426=>?_)
      exact aHe n269 trivial
     ·
      refine st262.alA 9 jh [6,7,35,42] [0,2,3,4,5] (λ b428 _ _ _ st428=>?_)
      have st429:=st428.gn
      exact aHe n278 trivial
    refine zq 4 319 (λ a w=>∃ M1 q266_0 q266_1 q266_2 q266_3 q266_4 q266_5 q266_6 q266_7 q266_8 q266_9,Sx (Frm.chg w0 G) 70 M M1 [q266_0,q266_1,q266_2,q266_3,q266_4,q266_5,oneB q266_6,q266_7,oneB q266_8,oneB q266_9] [(6,dt s30.2.2.2),(7,dt v38.2),(35,dtup [dt v206.1,dt v206.2])] [(3,6,dbox q266_6 0 zX),(5,8,dbox q266_8 0 s30.2.2.1),(8,9,dbox q266_9 0 zX),(0,3,dnm (Ow.box (Ow.frz (α:=Reader))) q266_3 ⟨v203.1⟩ (.pointer (some ⟨b0,0,none⟩)) []),(2,5,dow (Ow.box (owFinder (Ow.row 77 (Ow.frz (α:=Dir))))) q266_5 ⟨zi⟩),(4,7,dow (Ow.box (owFinder (Ow.row 77 (Ow.frz (α:=Dir))))) q266_7 ⟨s30.2.1⟩)] a w) ?_ (λ n266=>?_)
    ·
     rintro a266 w266 ⟨M266,q266_0,q266_1,q266_2,q266_3,q266_4,q266_5,q266_6,q266_7,q266_8,q266_9,st266⟩
     refine aK2 6 7 ?_ ?_
     ·
      refine st266.segA 1 [6,7,35,41] [(0,3),(2,5),(3,6),(4,7),(5,8),(8,9)] (λ _ _ st430=>?_)
      exact aHe n273 trivial
     ·
      refine st266.segA 1 [6,7,35,42] [(0,3),(2,5),(3,6),(4,7),(5,8),(8,9)] (λ _ _ st431=>?_)
      exact aHe n278 trivial
    refine zq 5 63 (λ a w=>∃ M1 q253_0 q253_1 q253_2 q253_3 q253_4 q253_5 q253_6 q253_7 q253_8 q253_9,Sx (Frm.chg w0 G) 70 M M1 [q253_0,q253_1,q253_2,q253_3,q253_4,q253_5,oneB q253_6,q253_7,oneB q253_8,oneB q253_9] [(6,dt s30.2.2.2),(7,dt v38.2),(35,dtup [dt v206.1,dt v206.2])] [(3,6,dbox q253_6 0 zX),(5,8,dbox q253_8 0 s30.2.2.1),(0,3,dnm (Ow.box (Ow.frz (α:=Reader))) q253_3 ⟨v203.1⟩ (.pointer (some ⟨b0,0,none⟩)) []),(2,5,dow (Ow.box (owFinder (Ow.row 77 (Ow.frz (α:=Dir))))) q253_5 ⟨zi⟩),(4,7,dow (Ow.box (owFinder (Ow.row 77 (Ow.frz (α:=Dir))))) q253_7 ⟨s30.2.1⟩)] a w) ?_ (λ n253=>?_)
    ·
     rintro a253 w253 ⟨M253,q253_0,q253_1,q253_2,q253_3,q253_4,q253_5,q253_6,q253_7,q253_8,q253_9,st253⟩
     refine aH3 (i:=6) (j:=7) (k:=8) (by decide +kernel) rfl rfl rfl ?_ ?_ ?_
     ·
      refine st253.segA 1 [6,7,35,41] [(0,3),(2,5),(3,6),(4,7),(5,8)] (λ _ _ st432=>?_)
      exact aHe n260 trivial
     ·
      refine st253.segA 1 [6,7,35,42] [(0,3),(2,5),(3,6),(4,7),(5,8)] (λ _ _ st433=>?_)
      exact aHe n262 trivial
     ·
      refine st253.alA 9 jh [6,7,35] [0,2,3,4,5] (λ b435 _ _ _ st435=>?_)
      have st436:=st435.gn
      exact aHe n266 trivial
    refine zq 5 287 (λ a w=>∃ M1 q257_0 q257_1 q257_2 q257_3 q257_4 q257_5 q257_6 q257_7 q257_8 q257_9,Sx (Frm.chg w0 G) 70 M M1 [q257_0,q257_1,q257_2,q257_3,q257_4,q257_5,oneB q257_6,q257_7,oneB q257_8,oneB q257_9] [(6,dt s30.2.2.2),(7,dt v38.2),(40,dtup [dt v206.1,dt v206.2])] [(3,6,dbox q257_6 0 zX),(5,8,dbox q257_8 0 s30.2.2.1),(8,9,dbox q257_9 0 zX),(0,3,dnm (Ow.box (Ow.frz (α:=Reader))) q257_3 ⟨v203.1⟩ (.pointer (some ⟨b0,0,none⟩)) []),(2,5,dow (Ow.box (owFinder (Ow.row 77 (Ow.frz (α:=Dir))))) q257_5 ⟨zi⟩),(4,7,dow (Ow.box (owFinder (Ow.row 77 (Ow.frz (α:=Dir))))) q257_7 ⟨s30.2.1⟩)] a w) ?_ (λ n257=>?_)
    ·
     rintro a257 w257 ⟨M257,q257_0,q257_1,q257_2,q257_3,q257_4,q257_5,q257_6,q257_7,q257_8,q257_9,st257⟩
     refine aK1 5 ?_
     refine st257.segA 1 [6,7,35] [(0,3),(2,5),(3,6),(4,7),(5,8),(8,9)] (λ _ _ st437=>?_)
     exact aHe n266 trivial
    refine zq 6 31 (λ a w=>∃ M1 q244_0 q244_1 q244_2 q244_3 q244_4 q244_5 q244_6 q244_7 q244_8 q244_9,Sx (Frm.chg w0 G) 70 M M1 [q244_0,q244_1,q244_2,q244_3,q244_4,q244_5,oneB q244_6,q244_7,oneB q244_8,oneB q244_9] [(6,dt s30.2.2.2),(7,dt v38.2),(40,dtup [dt v206.1,dt v206.2])] [(3,6,dbox q244_6 0 zX),(5,8,dbox q244_8 0 s30.2.2.1),(0,3,dnm (Ow.box (Ow.frz (α:=Reader))) q244_3 ⟨v203.1⟩ (.pointer (some ⟨b0,0,none⟩)) []),(2,5,dow (Ow.box (owFinder (Ow.row 77 (Ow.frz (α:=Dir))))) q244_5 ⟨zi⟩),(4,7,dow (Ow.box (owFinder (Ow.row 77 (Ow.frz (α:=Dir))))) q244_7 ⟨s30.2.1⟩)] a w) ?_ (λ n244=>?_)
    ·
     rintro a244 w244 ⟨M244,q244_0,q244_1,q244_2,q244_3,q244_4,q244_5,q244_6,q244_7,q244_8,q244_9,st244⟩
     refine aK2 5 8 ?_ ?_
     ·
      refine st244.segA 1 [6,7,35] [(0,3),(2,5),(3,6),(4,7),(5,8)] (λ _ _ st438=>?_)
      exact aHe n253 trivial
     ·
      refine st244.alA 9 jh [6,7,40] [0,2,3,4,5] (λ b440 _ _ _ st440=>?_)
      have st441:=st440.gn
      exact aHe n257 trivial
    refine zq 6 271 (λ a w=>∃ M1 q248_0 q248_1 q248_2 q248_3 q248_4 q248_5 q248_6 q248_7 q248_8 q248_9,Sx (Frm.chg w0 G) 70 M M1 [q248_0,q248_1,q248_2,q248_3,q248_4,q248_5,oneB q248_6,q248_7,oneB q248_8,oneB q248_9] [(6,dt s30.2.2.2),(7,dt v38.2),(36,dt s30.2.2.1),(38,dt v203.2),(39,dt v38.2)] [(3,6,dbox q248_6 0 zX),(5,8,dbox q248_8 0 s30.2.2.1),(8,9,dbox q248_9 0 zX),(0,3,dnm (Ow.box (Ow.frz (α:=Reader))) q248_3 ⟨v203.1⟩ (.pointer (some ⟨b0,0,none⟩)) []),(2,5,dow (Ow.box (owFinder (Ow.row 77 (Ow.frz (α:=Dir))))) q248_5 ⟨zi⟩),(4,7,dow (Ow.box (owFinder (Ow.row 77 (Ow.frz (α:=Dir))))) q248_7 ⟨s30.2.1⟩)] a w) ?_ (λ n248=>?_)
    ·
     rintro a248 w248 ⟨M248,q248_0,q248_1,q248_2,q248_3,q248_4,q248_5,q248_6,q248_7,q248_8,q248_9,st248⟩
     refine aK1 4 ?_
     refine st248.segB 1 (sc rfl (oK (Js p206))<|.nil) [6,7,40] [(0,3),(2,5),(3,6),(4,7),(5,8),(8,9)] (λ _ _ st442=>?_)
     exact aHe n257 trivial
    refine zq 7 15 (λ a w=>∃ M1 q230_0 q230_1 q230_2 q230_3 q230_4 q230_5 q230_6 q230_7 q230_8 q230_9,Sx (Frm.chg w0 G) 70 M M1 [q230_0,q230_1,q230_2,q230_3,q230_4,q230_5,oneB q230_6,q230_7,oneB q230_8,oneB q230_9] [(6,dt s30.2.2.2),(7,dt v38.2),(36,dt s30.2.2.1),(38,dt v203.2),(39,dt v38.2)] [(3,6,dbox q230_6 0 zX),(5,8,dbox q230_8 0 s30.2.2.1),(0,3,dnm (Ow.box (Ow.frz (α:=Reader))) q230_3 ⟨v203.1⟩ (.pointer (some ⟨b0,0,none⟩)) []),(2,5,dow (Ow.box (owFinder (Ow.row 77 (Ow.frz (α:=Dir))))) q230_5 ⟨zi⟩),(4,7,dow (Ow.box (owFinder (Ow.row 77 (Ow.frz (α:=Dir))))) q230_7 ⟨s30.2.1⟩)] a w) ?_ (λ n230=>?_)
    ·
     rintro a230 w230 ⟨M230,q230_0,q230_1,q230_2,q230_3,q230_4,q230_5,q230_6,q230_7,q230_8,q230_9,st230⟩
     refine aK2 4 8 ?_ ?_
     ·
      refine st230.segB 1 (sc rfl (oK (Js p206))<|.nil) [6,7,40] [(0,3),(2,5),(3,6),(4,7),(5,8)] (λ _ _ st443=>?_)
      exact aHe n244 trivial
     ·
      refine st230.alA 9 jh [6,7,36,38,39] [0,2,3,4,5] (λ b445 _ _ _ st445=>?_)
      have st446:=st445.gn
      exact aHe n248 trivial
    refine zq 7 267 (λ a w=>∃ M1 q234_0 q234_1 q234_2 q234_3 q234_4 q234_5 q234_6 q234_7 q234_8 q234_9,Sx (Frm.chg w0 G) 70 M M1 [q234_0,q234_1,q234_2,q234_3,q234_4,q234_5,oneB q234_6,q234_7,oneB q234_8,oneB q234_9] [(6,dt s30.2.2.2),(7,dt v38.2),(36,dt s30.2.2.1),(39,dt v38.2),(37,dis (.pointer (some ⟨b0,0,none⟩)))] [(3,6,dbox q234_6 0 zX),(5,8,dbox q234_8 0 s30.2.2.1),(8,9,dbox q234_9 0 zX),(0,3,dnm (Ow.box (Ow.frz (α:=Reader))) q234_3 ⟨v44.1⟩ (.pointer (some ⟨b0,0,none⟩)) []),(2,5,dow (Ow.box (owFinder (Ow.row 77 (Ow.frz (α:=Dir))))) q234_5 ⟨zi⟩),(4,7,dow (Ow.box (owFinder (Ow.row 77 (Ow.frz (α:=Dir))))) q234_7 ⟨s30.2.1⟩)] a w) ?_ (λ n234=>?_)
    ·
     rintro a234 w234 ⟨M234,q234_0,q234_1,q234_2,q234_3,q234_4,q234_5,q234_6,q234_7,q234_8,q234_9,st234⟩
     refine aK1 2 ?_
     refine st234.cNA 3 0 (FnS.frz (Z1 p203)) [6,7,36,39] [2,3,4,5,8] (λ G447 _ _ _ st448=>?_)
     exact aHe n248 trivial
    refine zq 7 270 (λ a w=>∃ M1 q239_0 q239_1 q239_2 q239_3 q239_4 q239_5 q239_6 q239_7 q239_8 q239_9,Sx (Frm.chg w0 G) 70 M M1 [q239_0,q239_1,q239_2,q239_3,q239_4,q239_5,oneB q239_6,q239_7,oneB q239_8,oneB q239_9] [(6,dt s30.2.2.2),(7,dt v38.2),(38,dt v203.2),(39,dt v38.2)] [(3,6,dbox q239_6 0 zX),(5,8,dbox q239_8 0 s30.2.2.1),(8,9,dbox q239_9 0 zX),(0,3,dnm (Ow.box (Ow.frz (α:=Reader))) q239_3 ⟨v203.1⟩ (.pointer (some ⟨b0,0,none⟩)) []),(2,5,dow (Ow.box (owFinder (Ow.row 77 (Ow.frz (α:=Dir))))) q239_5 ⟨zi⟩),(4,7,dow (Ow.box (owFinder (Ow.row 77 (Ow.frz (α:=Dir))))) q239_7 ⟨s30.2.1⟩)] a w) ?_ (λ n239=>?_)
    ·
     rintro a239 w239 ⟨M239,q239_0,q239_1,q239_2,q239_3,q239_4,q239_5,q239_6,q239_7,q239_8,q239_9,st239⟩
     refine aK1 0 ?_
     refine st239.segC 1 [6,7,36,38,39] [(0,3),(2,5),(3,6),(4,7),(5,8),(8,9)] (λ _ _ st449=>?_)
     exact aHe n248 trivial
    refine zq 8 11 (λ a w=>∃ M1 q220_0 q220_1 q220_2 q220_3 q220_4 q220_5 q220_6 q220_7 q220_8 q220_9,Sx (Frm.chg w0 G) 70 M M1 [q220_0,q220_1,q220_2,q220_3,q220_4,q220_5,oneB q220_6,q220_7,oneB q220_8,oneB q220_9] [(6,dt s30.2.2.2),(7,dt v38.2),(36,dt s30.2.2.1),(39,dt v38.2),(37,dis (.pointer (some ⟨b0,0,none⟩)))] [(3,6,dbox q220_6 0 zX),(5,8,dbox q220_8 0 s30.2.2.1),(0,3,dnm (Ow.box (Ow.frz (α:=Reader))) q220_3 ⟨v44.1⟩ (.pointer (some ⟨b0,0,none⟩)) []),(2,5,dow (Ow.box (owFinder (Ow.row 77 (Ow.frz (α:=Dir))))) q220_5 ⟨zi⟩),(4,7,dow (Ow.box (owFinder (Ow.row 77 (Ow.frz (α:=Dir))))) q220_7 ⟨s30.2.1⟩)] a w) ?_ (λ n220=>?_)
    ·
     rintro a220 w220 ⟨M220,q220_0,q220_1,q220_2,q220_3,q220_4,q220_5,q220_6,q220_7,q220_8,q220_9,st220⟩
     refine aK2 2 8 ?_ ?_
     ·
      refine st220.cNA 3 0 (FnS.frz (Z1 p203)) [6,7,36,39] [2,3,4,5] (λ G450 _ _ _ st451=>?_)
      exact aHe n230 trivial
     ·
      refine st220.alA 9 jh [6,7,36,37,39] [0,2,3,4,5] (λ b453 _ _ _ st453=>?_)
      have st454:=st453.gn
      exact aHe n234 trivial
    refine zq 8 14 (λ a w=>∃ M1 q223_0 q223_1 q223_2 q223_3 q223_4 q223_5 q223_6 q223_7 q223_8 q223_9,Sx (Frm.chg w0 G) 70 M M1 [q223_0,q223_1,q223_2,q223_3,q223_4,q223_5,oneB q223_6,q223_7,oneB q223_8,oneB q223_9] [(6,dt s30.2.2.2),(7,dt v38.2),(38,dt v203.2),(39,dt v38.2)] [(3,6,dbox q223_6 0 zX),(5,8,dbox q223_8 0 s30.2.2.1),(0,3,dnm (Ow.box (Ow.frz (α:=Reader))) q223_3 ⟨v203.1⟩ (.pointer (some ⟨b0,0,none⟩)) []),(2,5,dow (Ow.box (owFinder (Ow.row 77 (Ow.frz (α:=Dir))))) q223_5 ⟨zi⟩),(4,7,dow (Ow.box (owFinder (Ow.row 77 (Ow.frz (α:=Dir))))) q223_7 ⟨s30.2.1⟩)] a w) ?_ (λ n223=>?_)
    ·
     rintro a223 w223 ⟨M223,q223_0,q223_1,q223_2,q223_3,q223_4,q223_5,q223_6,q223_7,q223_8,q223_9,st223⟩
     refine aK2 0 8 ?_ ?_
     ·
      refine st223.segC 1 [6,7,36,38,39] [(0,3),(2,5),(3,6),(4,7),(5,8)] (λ _ _ st455=>?_)
      exact aHe n230 trivial
     ·
      refine st223.alA 9 jh [6,7,38,39] [0,2,3,4,5] (λ b457 _ _ _ st457=>?_)
      have st458:=st457.gn
      exact aHe n239 trivial
    refine zq 8 266 (λ a w=>∃ M1 q227_0 q227_1 q227_2 q227_3 q227_4 q227_5 q227_6 q227_7 q227_8 q227_9,Sx (Frm.chg w0 G) 70 M M1 [q227_0,q227_1,q227_2,q227_3,q227_4,q227_5,oneB q227_6,q227_7,oneB q227_8,oneB q227_9] [(6,dt s30.2.2.2),(7,dt v38.2),(39,dt v38.2),(37,dis (.pointer (some ⟨b0,0,none⟩)))] [(3,6,dbox q227_6 0 zX),(5,8,dbox q227_8 0 s30.2.2.1),(8,9,dbox q227_9 0 zX),(0,3,dnm (Ow.box (Ow.frz (α:=Reader))) q227_3 ⟨v44.1⟩ (.pointer (some ⟨b0,0,none⟩)) []),(2,5,dow (Ow.box (owFinder (Ow.row 77 (Ow.frz (α:=Dir))))) q227_5 ⟨zi⟩),(4,7,dow (Ow.box (owFinder (Ow.row 77 (Ow.frz (α:=Dir))))) q227_7 ⟨s30.2.1⟩)] a w) ?_ (λ n227=>?_)
    ·
     rintro a227 w227 ⟨M227,q227_0,q227_1,q227_2,q227_3,q227_4,q227_5,q227_6,q227_7,q227_8,q227_9,st227⟩
     refine aK2 0 2 ?_ ?_
     ·
      refine st227.segC 1 [6,7,36,37,39] [(0,3),(2,5),(3,6),(4,7),(5,8),(8,9)] (λ _ _ st459=>?_)
      exact aHe n234 trivial
     ·
      refine st227.cNA 3 0 (FnS.frz (Z1 p203)) [6,7,39] [2,3,4,5,8] (λ G460 _ _ _ st461=>?_)
      exact aHe n239 trivial
    refine aH3 (i:=0) (j:=2) (k:=8) (by decide +kernel) rfl rfl rfl ?_ ?_ ?_
    ·
     refine st200.segC 1 [6,7,36,37,39] [(0,3),(2,5),(3,6),(4,7),(5,8)] (λ _ _ st462=>?_)
     exact aHe n220 trivial
    ·
     refine st200.cNA 3 0 (FnS.frz (Z1 p203)) [6,7,39] [2,3,4,5] (λ G463 _ _ _ st464=>?_)
     exact aHe n223 trivial
    ·
     refine st200.alA 9 jh [6,7,37,39] [0,2,3,4,5] (λ b466 _ _ _ st466=>?_)
     have st467:=st466.gn
     exact aHe n227 trivial
   rintro a35 w35 ⟨M35,q35_0,q35_1,q35_2,q35_3,q35_4,q35_5,q35_6,q35_7,q35_8,q35_9,st35⟩
   have h468:=k35
   obtain⟨v469,p469,h470⟩:=bs h468
   refine st35.rgA [6] [(0,3),(2,5),(3,6),(4,7),(5,8)] (λ _ _ st471=>za ?_)
   exact fl h470
  refine za ?_
  have h472:=lo h34 hx30
  cases h472
  exact fx
 rintro a21 w21 ⟨M21,q21_0,q21_1,q21_2,q21_3,q21_4,q21_5,q21_6,q21_7,q21_8,q21_9,st21⟩
 have h473:=k21
 refine wp_seq ?_
 have st474:=st21.frzB (s:=4) 7 rfl (by simp) iI [] rfl [0,2,3,5] rfl rfl
 obtain⟨v477,p477,h486⟩:=bs h473
 refine st474.any zD (λ _ st487=>?_)
 refine an2 (i:=0) (j:=2) (by decide +kernel) rfl rfl ?_ ?_
 ·
  refine st487.segA 1 [67] [(0,3),(2,5),(3,6),(5,8)] (λ _ _ st488=>anN ?_)
  refine an2 (i:=1) (j:=2) (by decide +kernel) rfl rfl ?_ ?_
  ·
   refine st488.cN (l:=[.tmp 67]) 4 rfl rfl kN53 (.cons (tp rfl) .nil) (xW p477) (by simp) [] rfl [0,2,3,5] rfl rfl (λ _ _ _ _ st489=>?_)
   have st490:=st489.gn
   refine anN ?_
   refine an2 (i:=2) (j:=3) (by decide +kernel) rfl rfl ?_ ?_
   ·
    refine st490.segC 1 [69] [(0,3),(2,5),(3,6),(68,4)] (λ _ _ st491=>anN ?_)
    refine an1 (i:=3) (by decide +kernel) rfl ?_
    refine st491.nmB (s:=2) 5 rfl rfl iI [0,3,68] rfl (λ b493 st493=>?_)
    refine st493.stO (sb:=2) (tv:=68) 5 4 (PV.root.box rfl) rfl rfl rfl kT35 (by simp) (by simp) (by decide) (zG rfl) rfl rfl rfl iI iI [69] rfl [0,3] rfl rfl rfl (λ _ _ st492=>?_)
    have st494:=st492.gn
    refine anN ?_
    refine an1 (i:=4) (by decide +kernel) rfl ?_
    refine st494.stA 3 6 FldS.id (tp rfl) [] [0,2] (λ _ _ st496=>anN ?_)
    refine an0 (by decide +kernel) ?_
    refine za (wp_ret ?_)
    exact st496.rsOC (s:=0) 3 5 rfl kT35 kT45 rfl rfl rfl iI iI (by decide) (bxr h486)
   ·
    refine st490.nmB (s:=2) 5 rfl rfl iI [0,3,5,68] rfl (λ b498 st498=>?_)
    refine st498.stO (sb:=2) (tv:=68) 5 4 (PV.root.box rfl) rfl rfl rfl kT35 (by simp) (by simp) (by decide) (zG rfl) rfl rfl rfl iI iI [] rfl [0,3,5] rfl rfl rfl (λ _ _ st497=>?_)
    have st499:=st497.gn
    refine anN ?_
    refine an1 (i:=2) (by decide +kernel) rfl ?_
    refine st499.segC 1 [69] [(0,3),(2,5),(3,6)] (λ _ _ st500=>anN ?_)
    refine an1 (i:=4) (by decide +kernel) rfl ?_
    refine st500.stA 3 6 FldS.id (tp rfl) [] [0,2] (λ _ _ st502=>anN ?_)
    refine an0 (by decide +kernel) ?_
    refine za (wp_ret ?_)
    exact st502.rsOC (s:=0) 3 5 rfl kT35 kT45 rfl rfl rfl iI iI (by decide) (bxr h486)
  ·
   refine st488.segC 1 [67,69] [(0,3),(2,5),(3,6)] (λ _ _ st503=>anN ?_)
   refine an1 (i:=1) (by decide +kernel) rfl ?_
   refine st503.cN (l:=[.tmp 67]) 4 rfl rfl kN53 (.cons (tp rfl) .nil) (xW p477) (by simp) [69] rfl [0,2,3] rfl rfl (λ _ _ _ _ st504=>?_)
   have st505:=st504.gn
   refine anN ?_
   refine an1 (i:=3) (by decide +kernel) rfl ?_
   refine st505.nmB (s:=2) 5 rfl rfl iI [0,3,68] rfl (λ b507 st507=>?_)
   refine st507.stO (sb:=2) (tv:=68) 5 4 (PV.root.box rfl) rfl rfl rfl kT35 (by simp) (by simp) (by decide) (zG rfl) rfl rfl rfl iI iI [69] rfl [0,3] rfl rfl rfl (λ _ _ st506=>?_)
   have st508:=st506.gn
   refine anN ?_
   refine an1 (i:=4) (by decide +kernel) rfl ?_
   refine st508.stA 3 6 FldS.id (tp rfl) [] [0,2] (λ _ _ st510=>anN ?_)
   refine an0 (by decide +kernel) ?_
   refine za (wp_ret ?_)
   exact st510.rsOC (s:=0) 3 5 rfl kT35 kT45 rfl rfl rfl iI iI (by decide) (bxr h486)
 ·
  refine st487.segC 1 [4,69] [(0,3),(2,5),(3,6)] (λ _ _ st511=>anN ?_)
  refine an1 (i:=0) (by decide +kernel) rfl ?_
  refine st511.segA 1 [67,69] [(0,3),(2,5),(3,6)] (λ _ _ st512=>anN ?_)
  refine an1 (i:=1) (by decide +kernel) rfl ?_
  refine st512.cN (l:=[.tmp 67]) 4 rfl rfl kN53 (.cons (tp rfl) .nil) (xW p477) (by simp) [69] rfl [0,2,3] rfl rfl (λ _ _ _ _ st513=>?_)
  have st514:=st513.gn
  refine anN ?_
  refine an1 (i:=3) (by decide +kernel) rfl ?_
  refine st514.nmB (s:=2) 5 rfl rfl iI [0,3,68] rfl (λ b516 st516=>?_)
  refine st516.stO (sb:=2) (tv:=68) 5 4 (PV.root.box rfl) rfl rfl rfl kT35 (by simp) (by simp) (by decide) (zG rfl) rfl rfl rfl iI iI [69] rfl [0,3] rfl rfl rfl (λ _ _ st515=>?_)
  have st517:=st515.gn
  refine anN ?_
  refine an1 (i:=4) (by decide +kernel) rfl ?_
  refine st517.stA 3 6 FldS.id (tp rfl) [] [0,2] (λ _ _ st519=>anN ?_)
  refine an0 (by decide +kernel) ?_
  refine za (wp_ret ?_)
  exact st519.rsOC (s:=0) 3 5 rfl kT35 kT45 rfl rfl rfl iI iI (by decide) (bxr h486)
def jy(x0:Reader):Option (Reader×Finder×Disk):=
(q6 x0).bind λ v8=>
Option.bind (α:=Reader×Finder×Disk) ((zz v8.1 (20:Int)).bind λ v26=>
if(cmpI .eql v26.2 (0:Int))=true then((yF v26.1 ([(-1:Int),(1001:Int)]:List Int)).bind λ v34=>
some (v34.1,{ v8.2.1 with hits:=v34.2 },v8.2.2))
else(if(cmpI .eql v26.2 (1:Int))=true then((appO 56 v8.2.1.dirs ([(⟨(3:Int),⟨[]⟩,0,[]⟩:Dir)]:List Dir)).bind λ v51=>
some (v26.1,{ v8.2.1 with dirs:=v51 },v8.2.2))
else(if(cmpI .eql v26.2 (2:Int))=true then(some (v26.1,v8.2.1,{ v8.2.2 with clock:=(201:Int) }))
else(some (v26.1,v8.2.1,v8.2.2))))) λ o23=>
some (o23.1,o23.2.1,o23.2.2)
theorem Wm{x0:Reader}{r:Reader×Finder×Disk}(h:jy x0=some r):FnS prog 68 (Ow.box (Ow.frz (α:=Reader))) ⟨x0⟩ [] ⟨r.1⟩ (.t2o (owFinder (Ow.row 77 (Ow.frz (α:=Dir)))) r.2.1 (dt r.2.2)):=by
 unfold jy at h
 refine fnSB (fn:=f68) 2 9 func68 rfl (oD rfl) rfl (λ M G w0 b0 _ st0=>wp_seq (wp_region_list ?_))
 refine st0.alcW (ow:=(owFinder (Ow.row 77 (Ow.frz (α:=Dir))))) 5 rfl rfl kZ35 (owFinder.z Ow.row_z) (by simp) [] rfl [0] rfl rfl (λ b1 M1 _ _ st1=>?_)
 have st2:=st1.gn
 refine st2.alA 6 jh [] [0,2] (λ b4 _ _ _ st4=>?_)
 have st5:=st4.gn
 refine wpList_nil (za (wp_seq (wp_region_list ?_)))
 refine st5.segC 1 [7] [(0,2),(2,5),(3,6)] (λ _ _ st6=>?_)
 obtain⟨v8,p8,h9⟩:=bs h
 refine st6.cSO (l:=[]) 2 0 (st6.bkN (s:=0) rfl iI) rfl rfl kN112 (Eq.trans (st6.st.has 7 _ rfl) (st6.st.has 0 _ rfl).1.symm) (by simp) (by simp) (by decide) .nil (zbs p8) [] rfl [2,3] rfl rfl rfl rfl (by decide) (λ _ H7 _ _ _ st7=>?_)
 have st10:=st7.gn
 refine st10.mvD (s:=8) 0 rfl rfl rfl rfl iI rfl [0,2,3] rfl (λ _ st11=>?_)
 refine st11.ex2o (s:=6) 0 rfl rfl rfl rfl iI rfl [0,2,3] rfl (λ _ st12=>?_)
 refine st12.segB 1 (sc rfl (Wi rfl (tp rfl))<|.nil) [10] [(0,2),(2,5),(3,6),(9,0)] (λ _ _ st13=>?_)
 refine st13.alcW (ow:=(owFinder (Ow.row 77 (Ow.frz (α:=Dir))))) 7 rfl rfl kZ35 (owFinder.z Ow.row_z) (by simp) [10] rfl [0,2,3,9] rfl rfl (λ b14 _ _ _ st14=>?_)
 have st15:=st14.gn
 refine st15.alA 8 jh [10] [0,2,3,4,9] (λ b17 _ _ _ st17=>?_)
 have st18:=st17.gn
 refine st18.stO (sb:=4) (tv:=9) 7 0 (PV.root.box rfl) rfl rfl rfl kT35 (by simp) (by simp) (by decide) (zG rfl) rfl rfl rfl iI iI [10] rfl [0,2,3,5] rfl rfl rfl (λ G19 _ st19=>?_)
 have st20:=st19.gn
 refine st20.stA 5 8 FldS.id (tp rfl) [] [0,2,3,4] (λ _ _ st22=>wpList_nil (za ?_))
 obtain⟨o23,p23,k23⟩:=bs h9
 refine zm (λ a w=>∃ M1 q23_0 q23_1 q23_2 q23_3 q23_4 q23_5 q23_6 q23_7 q23_8,Sx (Frm.chg w0 G) 32 M M1 [q23_0,q23_1,q23_2,q23_3,q23_4,q23_5,oneB q23_6,q23_7,oneB q23_8] [] [(3,6,dbox q23_6 0 zX),(5,8,dbox q23_8 0 o23.2.2),(0,2,dnm (Ow.box (Ow.frz (α:=Reader))) q23_2 ⟨o23.1⟩ (.pointer (some ⟨b0,0,none⟩)) []),(2,5,dow (Ow.box (owFinder (Ow.row 77 (Ow.frz (α:=Dir))))) q23_5 ⟨zi⟩),(4,7,dow (Ow.box (owFinder (Ow.row 77 (Ow.frz (α:=Dir))))) q23_7 ⟨o23.2.1⟩)] a w) ?_ ?_
 ·
  refine wp_seq (wp_region_list ?_)
  refine st22.segC 1 [11] [(0,2),(2,5),(3,6),(4,7),(5,8)] (λ _ _ st24=>?_)
  obtain⟨v26,p26,h27⟩:=bs p23
  refine st24.cNA 2 0 (zH p26) [] [2,3,4,5] (λ G25 _ _ _ st28=>wpList_nil (za (wp_block ?_)))
  refine st28.sqA [12,13] [(0,2),(2,5),(3,6),(4,7),(5,8)] (λ _ _ st29=>?_)
  refine st29.cs rfl h27 (λ _ h30=>wp_region_list ?_) (λ _ h31=>?_)
  ·
   refine st29.segB 2 (sP 1 (r:=by exact sc rfl (yG (opds:=[.const (.int .i64 (-1)),.const (.int .i64 1001)]) rfl kS30 kY30 rfl rfl (by decide) (.cons cI (.cons cI .nil)))<|.nil)) [15,16] [(0,2),(2,5),(3,6),(4,7),(5,8)] (λ _ _ st32=>?_)
   obtain⟨v34,p34,h35⟩:=bs h30
   refine st32.cNA 2 0 (xX p34) [] [2,3,4,5] (λ G33 _ _ _ st36=>?_)
   refine st36.segB 1 (sc rfl (xFa rfl Qo (zG rfl))<|.nil) [17,18] [(0,2),(2,5),(3,6),(4,7),(5,8)] (λ _ _ st37=>?_)
   refine st37.sfA 4 7 ((PV.root.box rfl).fld owFinder.f2) (tp rfl) (tp rfl) [] [0,2,3,5] (λ _ st38=>wpList_nil (zg ?_))
   have st39:=st38.unm (s:=2) 5 rfl rfl iI [0,3,4,5] rfl
   have st40:=st39.unm (s:=4) 7 rfl rfl iI [0,2,3,5] rfl
   refine za ?_
   cases h35
   exact fx
  refine st29.sqA [12,19] [(0,2),(2,5),(3,6),(4,7),(5,8)] (λ _ _ st41=>?_)
  refine st41.cs rfl h31 (λ _ h42=>wp_region_list ?_) (λ _ h43=>?_)
  ·
   refine st41.hdA 4 7 ((PV.root.box rfl).fld owFinder.f0) [0,2,3,5] (λ g44 A44 _ hA44 st44=>?_)
   refine st44.segB 4 (sc rfl (xFa rfl jE (zG rfl))<|sc rfl (xLc (sb:=4) (.head _) rfl rfl rfl kT33 (tp rfl) rfl)<|sc rfl (kD77_0 rfl cI)<|segC) [22,24] [(0,2),(2,5),(3,6),(4,7),(5,8)] (λ _ _ st45=>?_)
   refine st45.mvG (s:=22) (sb:=4) 7 3 ((PV.root.box rfl).fld owFinder.f0) (.head _) rfl (Yh rfl rfl) rfl (by simp) (by simp) (by decide) rfl iI [24] rfl [0,2,3,5] rfl rfl rfl rfl (λ G47 H47 st47=>?_)
   have st48:=st47.gs (Gs':=[oneB none,oneB none,G25,H47,oneB none,(oneB (some b1)),oneB (some b4),G47,oneB (some b17)]) rfl
   refine st48.tipR (s:=22) 3 rfl rfl (by simp) iI [0,2,3,4,5] rfl rfl (λ g49 st49=>?_)
   obtain⟨v51,p51,h52⟩:=bs h42
   refine st49.apA 3 wO p51 [] [0,2,3,4,5] (λ g50 _ _ _ st50=>?_)
   have st53:=st50.gn
   refine st53.segB 1 (sc rfl (xFa rfl jE (opd_hl rfl))<|.nil) [26] [(0,2),(2,5),(3,6),(4,7),(5,8),(25,3)] (λ _ _ st54=>?_)
   have st56:=st54.tipW (s:=25) 3 rfl rfl iI [0,2,3,4,5] rfl
   refine st56.shA 4 25 7 3 (tp rfl) [] [0,2,3,5] (λ _ _ st55=>?_)
   have st57:=st55.gn
   refine wpList_nil (zg ?_)
   have st58:=st57.unm (s:=2) 5 rfl rfl iI [0,3,4,5] rfl
   have st59:=st58.unm (s:=4) 7 rfl rfl iI [0,2,3,5] rfl
   refine za ?_
   cases h52
   exact fx
  refine st41.sqA [27] [(0,2),(2,5),(3,6),(4,7),(5,8)] (λ _ _ st60=>?_)
  refine st60.cs rfl h43 (λ _ h61=>wp_region_list ?_) (λ _ h62=>wp_skip (zg ?_))
  ·
   refine st60.segC 1 [] [(0,2),(2,5),(3,6),(4,7),(5,8),(29,8)] (λ _ _ st63=>?_)
   refine st63.stA 5 8 Disk.set1 cI [] [0,2,3,4] (λ _ _ st65=>wpList_nil (zg ?_))
   have st66:=st65.unm (s:=2) 5 rfl rfl iI [0,3,4,5] rfl
   have st67:=st66.unm (s:=4) 7 rfl rfl iI [0,2,3,5] rfl
   refine za ?_
   cases h61
   exact fx
  have st68:=st60.unm (s:=2) 5 rfl rfl iI [0,3,4,5] rfl
  have st69:=st68.unm (s:=4) 7 rfl rfl iI [0,2,3,5] rfl
  refine za ?_
  cases h62
  exact fx
 rintro a23 w23 ⟨M23,q23_0,q23_1,q23_2,q23_3,q23_4,q23_5,q23_6,q23_7,q23_8,st23⟩
 have h70:=k23
 refine wp_seq ?_
 refine st23.nmB (s:=2) 5 rfl rfl iI [0,3,4,5] rfl (λ b71 st71=>?_)
 refine st71.nmB (s:=4) 7 rfl rfl iI [0,2,3,5] rfl (λ b72 st72=>?_)
 refine st72.hdW (s:=4) 7 true (λ _=>(PV.root.box rfl)) rfl rfl iI [0,2,3,5] rfl (λ cs73 hS73 st73=>?_)
 refine st73.lateO (D:=[_,_,Yv]) (sb:=2) (s4:=4) 5 7 zD 3 2 [[(4,nS)],[(5,nS)],[(2,nS),(30,0)],[(3,nS),(31,1)]] (by decide +kernel) (by decide) (by decide) rfl (
  lc rfl rfl rfl (xLw (sb:=4) (.head _) rfl (hS73 rfl) rfl kT35 (zG rfl) rfl)<|lc rfl rfl rfl (zf rfl kT45 (tp rfl))<|ll rfl<|.nil) ⟨.inl rfl,⟨.inl rfl,⟨.inl rfl,trivial⟩⟩⟩ rfl rfl rfl rfl kT35 rfl (by simp) (by simp) (by decide) (zG rfl) (tp rfl) (hS73 rfl) rfl iI rfl iI (.head _) rfl [31] rfl [0,3] rfl rfl rfl rfl (λ _ _ _ st74=>?_)
 have st75:=st74.gn
 refine st75.stA 3 6 FldS.id (tp rfl) [] [0,2] (λ _ _ st77=>wpList_nil (za (wp_ret ?_)))
 exact st77.rsOC (s:=0) 2 5 rfl kT35 kT45 rfl rfl rfl iI iI (by decide) (bxr h70)
def yH(x0:List UInt8):Option (Finder×Disk×(List Int)×Str):=
(jx x0).bind λ v10=>
(jy v10).bind λ v17=>
(Zs v17.1).bind λ v37=>
(gO (cmpI .gtr (v17.2.2.tree.files.length:Int) (0:Int) == true) (zz v37.1 (3:Int))).bind λ v43=>
if(cmpI .gtr (v17.2.2.tree.files.length:Int) (0:Int)&&cmpI .gtr v43.2 (0:Int))=true then((zz (if(cmpI .gtr (v17.2.2.tree.files.length:Int) (0:Int) == true)=true then v43.1 else v37.1) (v17.2.2.tree.files.length:Int)).bind λ v62=>
(atI v17.2.2.tree.files v62.2).bind λ v65=>
(jZ v65).bind λ v68=>
some (v17.2.1,v17.2.2,v37.2,v68))
else((jH (if(cmpI .gtr (v17.2.2.tree.files.length:Int) (0:Int) == true)=true then v43.1 else v37.1)).bind λ v111=>
some (v17.2.1,v17.2.2,v37.2,v111.2))
theorem Ze{x0:List UInt8}{r:Finder×Disk×(List Int)×Str}(h:yH x0=some r):Fn prog 25 [dt x0] (dtup [dt r.1,dt r.2.1,dt r.2.2.1,dt r.2.2.2]):=by
 unfold yH at h
 refine fnx (fn:=f25) 5 func25 rfl (oD rfl) rfl (λ M _ _ st0=>wp_seq (wp_region_list ?_))
 refine st0.alA 1 yB [0] [] (λ b2 _ _ _ st2=>?_)
 have st3:=st2.gn
 refine st3.alA 2 jh [0] [2] (λ b5 _ _ _ st5=>?_)
 have st6:=st5.gn
 refine st6.segB 2 (sc rfl (oA rfl (jW (α:=Int)))<|segC) [0] [(2,1),(3,2)] (λ _ _ st7=>wpList_nil (za (wp_seq (wp_region_list ?_))))
 refine st7.segA 1 [10] [(2,1),(3,2)] (λ _ _ st8=>?_)
 obtain⟨v10,p10,h11⟩:=bs h
 refine st8.cN (l:=[.tmp 10]) 0 rfl rfl kN67 (.cons (tp rfl) .nil) (Wl p10) (by simp) [] rfl [2,3] rfl rfl (λ _ _ _ _ st9=>?_)
 have st12:=st9.gn
 refine st12.nmB (s:=11) 0 rfl rfl iI [2,3] rfl (λ b13 st13=>?_)
 refine st13.segA 1 [] [(2,1),(3,2),(6,0)] (λ _ _ st14=>wpList_nil (za (wp_seq (wp_region_list ?_))))
 refine st14.segA 1 [] [(2,1),(3,2),(6,0),(13,0)] (λ _ _ st15=>?_)
 obtain⟨v17,p17,h18⟩:=bs h11
 refine st15.cSF (l:=[]) 0 (st15.bkN (s:=6) rfl iI) rfl rfl kN68 ((st15.st.has 13 _ rfl).1.trans (st15.st.has 6 _ rfl).1.symm) (by simp) .nil ((FnS.frz2o (Wm p17))) [] rfl [2,3] rfl rfl (by decide) (λ _ _ _ _ st16=>?_)
 have st19:=st16.gn
 refine st19.segA 3 [15,16] [(2,1),(3,2),(6,0)] (λ _ _ st20=>?_)
 refine st20.alA 3 yB [15,16] [2,3,6] (λ b22 _ _ _ st22=>?_)
 have st23:=st22.gn
 refine st23.alA 4 jh [15,16] [2,3,6,7] (λ b25 _ _ _ st25=>?_)
 have st26:=st25.gn
 refine st26.stA 7 3 FldS.id (tp rfl) [16] [2,3,6,8] (λ _ _ st28=>?_)
 have st29:=st28.frzX 3 (s:=7) rfl rfl [16] rfl [2,3,6,8] rfl
 have st30:=st29.gn
 refine st30.stA 8 4 FldS.id (tp rfl) [7] [2,3,6] (λ _ _ st32=>?_)
 have st33:=st32.frzX 4 (s:=8) rfl rfl [7] rfl [2,3,6] rfl
 have st34:=st33.gn
 refine wpList_nil (za (wp_seq (wp_region_list ?_)))
 refine st34.segA 1 [7,8] [(2,1),(3,2),(6,0),(17,0)] (λ _ _ st35=>?_)
 obtain⟨v37,p37,h38⟩:=bs h18
 refine st35.cSF (l:=[]) 0 (st35.bkN (s:=6) rfl iI) rfl rfl kN69 ((st35.st.has 17 _ rfl).1.trans (st35.st.has 6 _ rfl).1.symm) (by simp) .nil (zbJ p37) [7,8] rfl [2,3] rfl rfl (by decide) (λ _ _ _ _ st36=>?_)
 have st39:=st36.gn
 refine st39.segA 1 [7,8,9] [(2,1),(3,2),(6,0)] (λ _ _ st40=>wpList_nil (za (wp_seq (wp_seq (wp_region_list ?_)))))
 refine st40.segB 7 (sc rfl (zv Disk.fld0 rfl Yl (tp rfl))<|sc rfl (zv Tree.fld0 rfl Yi (tp rfl))<|sc rfl (zp rfl kT41 (tp rfl))<|sc rfl (jJ rfl kL41 (tp rfl))<|sc rfl (oCI rfl (tp rfl) cI)<|sc rfl (oM rfl (tp rfl))<|sg rfl rfl (λ hg=>oM rfl (zG rfl))<|.nil) [7,8,9,24,25] [(2,1),(3,2),(6,0)] (λ _ _ st41=>?_)
 obtain⟨v43,p43,h44⟩:=bs h38
 refine st41.cSFgB (sb:=6) (l:=[.const (.int .i64 3)]) 0 rfl iI rfl rfl rfl kN70 (λ hg=>(st41.st.has 25 _ rfl).1 hg) (by simp) (λ hg=>(.cons cI .nil)) (λ hg=>zH (gh hg p43)) [7,8,9,24] rfl [2,3] rfl rfl (by decide) (λ _ _ _ _ st42=>?_)
 have st45:=st42.gn
 refine st45.segC 2 [7,8,9,28] [(2,1),(3,2),(6,0)] (λ _ _ st46=>wpList_nil (za ?_))
 refine st46.cs rfl h44 (λ _ h47=>wp_seq ?_) (λ _ h48=>wp_skip (za (wp_seq ?_)))
 ·
  refine st46.heldF zD (λ _ _ hz49 st49=>?_)
  refine st49.tkLp (i:=0) rfl rfl (by decide +kernel) (by decide +kernel) (by decide +kernel) (λ _ _ _ _ h=>h) (st49.fzS (g:=49) rfl) hz49 rfl kT35 (tp rfl) (λ _ st50=>?_)
  refine st50.tkLp (i:=1) rfl rfl (by decide +kernel) (by decide +kernel) (by decide +kernel) (λ _ _ _ _ h=>h) (st50.fzS (g:=49) rfl) hz49 rfl kT45 (tp rfl) (λ _ st51=>?_)
  refine st51.tM 2 9 (st51.fzS (g:=49) rfl) (λ _ st52=>?_)
  refine st52.tkFp (i:=3) rfl rfl (by decide +kernel) (by decide +kernel) (by decide +kernel) (λ _ _ _ _ h=>h) (st52.fzS (g:=49) rfl) Disk.fld0 rfl Yl (tp rfl) (next:=λ a53 st53=>?_)
  refine st53.tkFp (i:=4) rfl rfl (by decide +kernel) (by decide +kernel) (by decide +kernel) (λ _ _ _ _ h=>h) (st53.fzS (g:=49) rfl) Tree.fld0 rfl Yi (tp rfl) (next:=λ a54 st54=>?_)
  refine st54.tkLp (i:=5) rfl rfl (by decide +kernel) (by decide +kernel) (by decide +kernel) (λ _ _ _ _ h=>h) (st54.fzS (g:=49) rfl) hz49 rfl kT41 (tp rfl) (λ _ st55=>?_)
  refine st55.tkFp (i:=7) rfl rfl (by decide +kernel) (by decide +kernel) (by decide +kernel) (λ _ _ _ _ h=>h) (st55.fzS (g:=49) rfl) Disk.fld0 rfl Yl (tp rfl) (next:=λ a56 st56=>?_)
  refine st56.tkFp (i:=8) rfl rfl (by decide +kernel) (by decide +kernel) (by decide +kernel) (λ _ _ _ _ h=>h) (st56.fzS (g:=49) rfl) Tree.fld0 rfl Yi (tp rfl) (next:=λ a57 st57=>?_)
  refine st57.tkLp (i:=9) rfl rfl (by decide +kernel) (by decide +kernel) (by decide +kernel) (λ _ _ _ _ h=>h) (st57.fzS (g:=49) rfl) hz49 rfl kT41 (tp rfl) (λ _ st58=>?_)
  obtain⟨v62,p62,v65,p65,v68,p68,h78⟩:=bsC h47
  refine aK2 6 10 ?_ ?_
  ·
   refine st58.segA 1 [29,30,31,34,38,49] [(2,1),(3,2),(35,0)] (λ _ _ st79=>?_)
   refine aHN (st79.fzS (g:=49) rfl) ?_
   refine aK1 10 ?_
   refine st79.segA 1 [29,30,31,34,39,49] [(2,1),(3,2),(35,0)] (λ _ _ st80=>?_)
   refine aHN (st80.fzS (g:=49) rfl) ?_
   refine aK1 11 ?_
   refine st80.cSF (l:=[.tmp 39]) 0 (st80.bkN (s:=35) rfl iI) rfl rfl kN70 rfl (by simp) (.cons (tp rfl) .nil) (zH p62) [29,30,31,34,49] rfl [2,3] rfl rfl (by decide) (λ _ _ _ _ st81=>?_)
   have st82:=st81.gn
   refine aHN (st82.fzS (g:=49) rfl) ?_
   refine aK1 12 ?_
   refine st82.segA 1 [29,30,31,41,49] [(2,1),(3,2)] (λ _ _ st83=>?_)
   refine aHN (st83.fzS (g:=49) rfl) ?_
   refine aK1 13 ?_
   refine st83.segA 1 [29,30,31,42,49] [(2,1),(3,2)] (λ _ _ st84=>?_)
   refine aHN (st84.fzS (g:=49) rfl) ?_
   refine aK1 14 ?_
   refine st84.segB 1 (sc rfl (oK (XM p68))<|.nil) [29,30,31,43,49] [(2,1),(3,2)] (λ _ _ st85=>?_)
   refine aHN (st85.fzS (g:=49) rfl) ?_
   refine aK1 15 ?_
   refine st85.stA 2 1 FldS.id (tp rfl) [30,31,43,49] [3] (λ _ _ st87=>?_)
   refine aHN (st87.fzS (g:=49) rfl) ?_
   refine aK1 16 ?_
   refine st87.stA 3 2 FldS.id (tp rfl) [31,43,49] [2] (λ _ _ st89=>?_)
   refine aHN (st89.fzS (g:=49) rfl) ?_
   refine aK1 17 ?_
   refine st89.segA 1 [4,43,49] [(2,1),(3,2)] (λ _ _ st90=>?_)
   refine aHN (st90.fzS (g:=49) rfl) ?_
   refine aK1 18 ?_
   refine st90.segA 1 [4,5,49] [(2,1),(3,2)] (λ _ _ st91=>?_)
   refine aHN (st91.fzS (g:=49) rfl) ?_
   refine aK0 (za ?_)
   refine wp_ret (zd ?_)
   obtain rfl:=Option.some.inj h78
   exact st91.ret4cc rfl kT35 kT45 rfl rfl (st91.frozen (t:=4) rfl) (st91.frozen (t:=5) rfl) ⟨rfl,rfl⟩ rfl
  ·
   refine st58.segA 1 [29,30,31,34,39,49] [(2,1),(3,2),(6,0)] (λ _ _ st92=>?_)
   refine aHN (st92.fzS (g:=49) rfl) ?_
   refine aK1 6 ?_
   refine st92.segA 1 [29,30,31,34,39,49] [(2,1),(3,2),(35,0)] (λ _ _ st93=>?_)
   refine aHN (st93.fzS (g:=49) rfl) ?_
   refine aK1 11 ?_
   refine st93.cSF (l:=[.tmp 39]) 0 (st93.bkN (s:=35) rfl iI) rfl rfl kN70 rfl (by simp) (.cons (tp rfl) .nil) (zH p62) [29,30,31,34,49] rfl [2,3] rfl rfl (by decide) (λ _ _ _ _ st94=>?_)
   have st95:=st94.gn
   refine aHN (st95.fzS (g:=49) rfl) ?_
   refine aK1 12 ?_
   refine st95.segA 1 [29,30,31,41,49] [(2,1),(3,2)] (λ _ _ st96=>?_)
   refine aHN (st96.fzS (g:=49) rfl) ?_
   refine aK1 13 ?_
   refine st96.segA 1 [29,30,31,42,49] [(2,1),(3,2)] (λ _ _ st97=>?_)
   refine aHN (st97.fzS (g:=49) rfl) ?_
   refine aK1 14 ?_
   refine st97.segB 1 (sc rfl (oK (XM p68))<|.nil) [29,30,31,43,49] [(2,1),(3,2)] (λ _ _ st98=>?_)
   refine aHN (st98.fzS (g:=49) rfl) ?_
   refine aK1 15 ?_
   refine st98.stA 2 1 FldS.id (tp rfl) [30,31,43,49] [3] (λ _ _ st100=>?_)
   refine aHN (st100.fzS (g:=49) rfl) ?_
   refine aK1 16 ?_
   refine st100.stA 3 2 FldS.id (tp rfl) [31,43,49] [2] (λ _ _ st102=>?_)
   refine aHN (st102.fzS (g:=49) rfl) ?_
   refine aK1 17 ?_
   refine st102.segA 1 [4,43,49] [(2,1),(3,2)] (λ _ _ st103=>?_)
   refine aHN (st103.fzS (g:=49) rfl) ?_
   refine aK1 18 ?_
   refine st103.segA 1 [4,5,49] [(2,1),(3,2)] (λ _ _ st104=>?_)
   refine aHN (st104.fzS (g:=49) rfl) ?_
   refine aK0 (za ?_)
   refine wp_ret (zd ?_)
   obtain rfl:=Option.some.inj h78
   exact st104.ret4cc rfl kT35 kT45 rfl rfl (st104.frozen (t:=4) rfl) (st104.frozen (t:=5) rfl) ⟨rfl,rfl⟩ rfl
 refine st46.heldF zD (λ _ _ hz105 st105=>?_)
 refine st105.tkLp (i:=0) rfl rfl (by decide +kernel) (by decide +kernel) (by decide +kernel) (λ _ _ _ _ h=>h) (st105.fzS (g:=49) rfl) hz105 rfl kT35 (tp rfl) (λ _ st106=>?_)
 refine st106.tkLp (i:=1) rfl rfl (by decide +kernel) (by decide +kernel) (by decide +kernel) (λ _ _ _ _ h=>h) (st106.fzS (g:=49) rfl) hz105 rfl kT45 (tp rfl) (λ _ st107=>?_)
 refine st107.tM 2 9 (st107.fzS (g:=49) rfl) (λ _ st108=>?_)
 obtain⟨v111,p111,h120⟩:=bs h48
 refine aK1 3 ?_
 refine st108.segA 1 [44,45,46,49] [(2,1),(3,2),(47,0)] (λ _ _ st121=>?_)
 refine aHN (st121.fzS (g:=49) rfl) ?_
 refine aK1 4 ?_
 refine st121.cSF (l:=[]) 0 (st121.bkN (s:=47) rfl iI) rfl rfl kN72 rfl (by simp) .nil (zbI p111) [44,45,46,49] rfl [2,3] rfl rfl (by decide) (λ _ _ _ _ st122=>?_)
 have st123:=st122.gn
 refine aHN (st123.fzS (g:=49) rfl) ?_
 refine aK1 5 ?_
 refine st123.stA 2 1 FldS.id (tp rfl) [45,46,48,49] [3] (λ _ _ st125=>?_)
 refine aHN (st125.fzS (g:=49) rfl) ?_
 refine aK1 6 ?_
 refine st125.stA 3 2 FldS.id (tp rfl) [46,48,49] [2] (λ _ _ st127=>?_)
 refine aHN (st127.fzS (g:=49) rfl) ?_
 refine aK1 7 ?_
 refine st127.segA 1 [4,48,49] [(2,1),(3,2)] (λ _ _ st128=>?_)
 refine aHN (st128.fzS (g:=49) rfl) ?_
 refine aK1 8 ?_
 refine st128.segA 1 [4,5,49] [(2,1),(3,2)] (λ _ _ st129=>?_)
 refine aHN (st129.fzS (g:=49) rfl) ?_
 refine aK0 (za (wp_ret ?_))
 obtain rfl:=Option.some.inj h120
 exact st129.ret4cc rfl kT35 kT45 rfl rfl (st129.frozen (t:=4) rfl) (st129.frozen (t:=5) rfl) ⟨rfl,rfl⟩ rfl
def wR(x0:List UInt8):Option (Finder×Disk):=
(jx x0).bind λ v7=>
(jy v7).bind λ v10=>
some (v10.2.1,v10.2.2)
theorem Jt{x0:List UInt8}{r:Finder×Disk}(h:wR x0=some r):Fn prog 37 [dt x0] (dtup [dt r.1,dt r.2]):=by
 unfold wR at h
 refine fnx (fn:=f37) 3 func37 rfl (oD rfl) rfl (λ M _ _ st0=>wp_seq (wp_region_list ?_))
 refine st0.alA 1 yB [0] [] (λ b2 _ _ _ st2=>?_)
 refine st2.alA 2 jh [0] [2] (λ b4 _ _ _ st4=>wpList_nil (za (wp_seq (wp_region_list ?_))))
 refine st4.segA 1 [4] [(2,1),(3,2)] (λ _ _ st5=>?_)
 obtain⟨v7,p7,h8⟩:=bs h
 refine st5.cN (l:=[.tmp 4]) 0 rfl rfl kN67 (.cons (tp rfl) .nil) (Wl p7) (by simp) [] rfl [2,3] rfl rfl (λ _ _ _ _ st6=>?_)
 obtain⟨v10,p10,h11⟩:=bs h8
 refine st6.cSF (l:=[]) 0 (st6.bkR (s:=5) rfl iI) rfl rfl kN68 rfl (by simp) .nil ((FnS.frz2o (Wm p10))) [] rfl [2,3] rfl rfl (by decide) (λ _ _ _ _ st9=>?_)
 refine st9.segA 2 [7,8] [(2,1),(3,2)] (λ _ _ st12=>?_)
 refine st12.stA 2 1 FldS.id (tp rfl) [8] [3] (λ _ _ st14=>?_)
 refine st14.stA 3 2 FldS.id (tp rfl) [] [2] (λ _ _ st16=>wpList_nil (za (wp_ret ?_)))
 obtain rfl:=Option.some.inj h11
 exact st16.ret2cc rfl kT35 kT45 rfl rfl   rfl
def qD(x0:Finder):Option Finder:=
(ya x0).bind λ v4=>
if(!v4)=true then(some (⟨[],0,0⟩:Finder))
else(some (⟨([]:List Dir),x0.fills,x0.hits⟩:Finder))
theorem ZH{x0:Finder}{r:Finder}(h:qD x0=some r):Fn prog 35 [dt x0] (dt r):=by
 unfold qD at h
 refine fnx (fn:=f35) 1 func35 rfl (oD rfl) rfl (λ M _ _ st0=>wp_seq (wp_region_list ?_))
 refine st0.segA 1 [1] [] (λ _ _ st1=>?_)
 refine st1.alA 0 yB [1] [] (λ b3 _ _ _ st3=>wpList_nil (za (wp_seq ?_)))
 obtain⟨v4,p4,h5⟩:=bsW h yT
 refine st3.sqA [1,5] [(2,0)] (λ _ _ st6=>?_)
 refine st6.cs rfl h5 (λ _ h7=>wp_seq (wp_region_list ?_)) (λ _ h8=>wp_skip (za (wp_seq (wp_region_list ?_))))
 ·
  refine st6.segB 1 (sc rfl (yw (parts:=[]) (ns:=[1,1,1]) (zs:=Xw) rfl rfl kB35 kC35 (λ w a hl=>by simp) (λ w a hl=>Finder.parts (x:=(⟨[],0,0⟩:Finder)) xI ⟨rfl,trivial⟩ ⟨rfl,trivial⟩))<|.nil) [6] [(2,0)] (λ _ _ st9=>?_)
  refine st9.stA 2 0 FldS.id (tp rfl) [] [] (λ _ _ st11=>wpList_nil (za ?_))
  refine wp_ret (zd ?_)
  exact st11.ret_box rfl kT35 rfl h7
 refine st6.segB 6 (sc rfl (yG (opds:=[]) (α:=Dir) rfl kS33 kY33 rfl rfl (by decide) .nil)<|sP 4 (r:=by exact sc rfl (kD35_0_1_2 rfl (tp rfl) (tp rfl) (tp rfl))<|.nil)) [12] [(2,0)] (λ _ _ st12=>?_)
 refine st12.stA 2 0 FldS.id (tp rfl) [] [] (λ _ _ st14=>wpList_nil (za (wp_ret ?_)))
 exact st14.ret_box rfl kT35 rfl h8
def Xk(x0:Tree)(x1:Int)(x2:Str):Option Bool:=
(wy x0).bind λ v2=>
(gO (v2 == true) (yx x1 (0:Int) (2:Int))).bind λ v3=>
(gO ((v2&&v3) == true) (yZ x2)).bind λ v4=>
some ((v2&&v3)&&v4)
theorem impl_dirOk_w{x0:Tree}{x1:Int}{x2:Str}{r:Bool}(h:Xk x0 x1 x2=some r):Fn prog 87 [dt x0,dt x1,dt x2] (dt r):=by
 unfold Xk at h
 refine fnx (fn:=f87) 0 func87 rfl (oD rfl) rfl (λ M _ _ st0=>?_)
 refine st0.sq1 [1,2,3] (λ _ _ st1=>?_)
 obtain⟨v2,p2,v3,p3,v4,p4,h7⟩:=bsC h
 refine st1.sq2 (sP 1 (r:=by exact sc rfl (oK (YE p2))<|sP 2 (r:=by exact sg rfl rfl (λ hg=>oK (yX (gh hg p3)))<|sP 3 (r:=by exact sg rfl rfl (λ hg=>oK (jr (gh hg p4)))<|segC)))) [6] (λ _ _ st8=>wp_ret ?_)
 exact st8.ret rfl rfl h7
def Zw(x0:Tree)(x1:Int)(x2:Str):Option (List Str):=
(Xk x0 x1 x2).bind λ v2=>
if(!v2)=true then(some ([]:List Str))
else((jF x0 x1 x2).bind λ v8=>
some v8)
theorem zbN{x0:Tree}{x1:Int}{x2:Str}{r:List Str}(h:Zw x0 x1 x2=some r):Fn prog 41 [dt x0,dt x1,dt x2] (dt r):=by
 unfold Zw at h
 refine fnx (fn:=f41) 0 func41 rfl (oD rfl) rfl (λ M _ _ st0=>?_)
 refine st0.sq2 (sP 1 (r:=by exact sc rfl (oA rfl (jW (α:=Str)))<|.nil)) [1,2,3] (λ _ _ st1=>wp_seq ?_)
 obtain⟨v2,p2,h3⟩:=bsW h impl_dirOk_w
 refine st1.sq1 [1,2,3,11] (λ _ _ st4=>?_)
 refine st4.cs rfl h3 (λ _ h5=>?_) (λ _ h6=>wp_skip (za ?_))
 ·
  refine st4.sq2 (sc rfl (yG (opds:=[]) (α:=Str) rfl kS75 kY75 rfl rfl (by decide) .nil)<|segC) [6] (λ _ _ st7=>wp_ret (zd ?_))
  exact st7.ret rfl rfl h5
 obtain⟨v8,p8,h9⟩:=bs h6
 refine st4.sq2 (sP 3 (r:=by exact sc rfl (zo (l:=[.tmp 13,.tmp 14,.tmp 15]) rfl kN81 (.cons (tp rfl) (.cons (tp rfl) (.cons (tp rfl) .nil))) ((XC p8)).fn)<|segC)) [6] (λ _ _ st10=>wp_ret ?_)
 exact st10.ret rfl rfl h9
def Zx(x0:Disk)(x1:Int)(x2:Str):Option Int:=
(yD x0).bind λ v2=>
(gO ((!v2) == false) (yx x1 (0:Int) (2:Int))).bind λ v3=>
(gO (((!v2)||(!v3)) == false) (yZ x2)).bind λ v4=>
if(((!v2)||(!v3))||(!v4))=true then(some (-1:Int))
else((xC x0 x1 x2).bind λ v12=>
some v12)
theorem zbO{x0:Disk}{x1:Int}{x2:Str}{r:Int}(h:Zx x0 x1 x2=some r):Fn prog 43 [dt x0,dt x1,dt x2] (dt r):=by
 unfold Zx at h
 refine fnx (fn:=f43) 0 func43 rfl (oD rfl) rfl (λ M _ _ st0=>?_)
 refine st0.sq1 [1,2,3] (λ _ _ st1=>wp_seq ?_)
 obtain⟨v2,p2,v3,p3,v4,p4,h7⟩:=bsC h
 refine st1.sq2 (sP 1 (r:=by exact sc rfl (oK (wz p2))<|sP 3 (r:=by exact sg rfl rfl (λ hg=>oK (yX (gh hg p3)))<|sP 4 (r:=by exact sg rfl rfl (λ hg=>oK (jr (gh hg p4)))<|segC)))) [1,2,3,19] (λ _ _ st8=>?_)
 refine st8.cs rfl h7 (λ _ h9=>?_) (λ _ h10=>wp_skip (za ?_))
 ·
  refine st8.sq1 [6] (λ _ _ st11=>wp_ret (zd ?_))
  exact st11.ret rfl rfl h9
 obtain⟨v12,p12,h13⟩:=bsW h10 XA
 refine st8.sq1 [6] (λ _ _ st14=>wp_ret ?_)
 exact st14.ret rfl rfl h13
def wS(x0:List Str)(x1:List Str)(s8:Int):Option (Int⊕(Unit⊕Bool)):=
if(cmpI .lss s8 (x0.length:Int))=true then((atI x0 s8).bind λ v13=>
(atI x1 s8).bind λ v14=>
if(decide (v13≠v14))=true then(some (.inr (.inr false)))
else((i64 (s8+(1:Int))).bind λ v23=>
some (.inl v23)))
else(some (.inr (.inl ())))
def wX(x0:List Str)(x1:List Str):Option Bool:=
if(cmpI .neq (x0.length:Int) (x1.length:Int))=true then(some false)
else(Option.bind (α:=Unit⊕Bool) (zS (λ s8=>wS x0 x1 s8) (0:Int)) (Sum.elim (λ _b6=>
some true) some))
theorem XN{x0:List Str}{x1:List Str}{r:Bool}(h:wX x0 x1=some r):Fn prog 40 [dt x0,dt x1] (dt r):=by
 unfold wX at h
 refine fnx (fn:=f40) 0 func40 rfl (oD rfl) rfl (λ M w0 _ st0=>?_)
 refine st0.sq1 [0,1] (λ _ _ st1=>wp_seq ?_)
 refine st1.sq1 [0,1,10] (λ _ _ st2=>?_)
 refine st2.cs rfl h (λ _ h3=>?_) (λ _ h4=>wp_skip (za ?_))
 ·
  refine st2.sq1 [4] (λ _ _ st5=>wp_ret (zd ?_))
  exact st5.ret rfl rfl h3
 obtain⟨o6,p6,k6⟩:=bs h4
 refine zm (λ a w=>∃ b6,o6=.inl b6/\Sx (Frm.of w0) 26 M M [] [] [] a w) ?_ ?_
 ·
  refine st2.sq1 [0,1,5] (λ _ _ st7=>wp_block ?_)
  refine zL p6 (λ s8 a w=>Sx (Frm.of w0) 26 M M [] [(0,dt x0),(1,dt x1),(5,dt s8)] [] a w) (st7.sel0 [0,1,5] rfl) ?_
  rintro s8 z8 a8 w8 st8 hs8 hx8
  have h9:wS x0 x1 s8=some z8:=hs8
  unfold wS at h9
  refine wp_seq ?_
  refine st8.sq1 [0,1,5,14] (λ _ _ st10=>?_)
  refine st10.cs rfl h9 (λ _ h11=>wp_skip (za (wp_seq (wp_block (wp_seq ?_))))) (λ _ h12=>wp_exit (zh (zh (zE ?_))))
  ·
   obtain⟨v13,p13,v14,p14,h16⟩:=bsB h11
   refine st10.drA (D:=[_,_,_,_,_,_,_,_,_]) zD [[(0,nS)],[(5,nS)],[(17,0),(18,1)],[(19,2)],[(1,nS)],[(5,nS)],[(21,4),(22,5)],[(23,6)],[(20,3),(24,7)]] [0,1,5,25] [] (λ _ _ st17=>za ?_)
   refine st17.cs rfl h16 (λ _ h18=>?_) (λ _ h19=>wp_skip (zg (za ?_)))
   ·
    refine st17.sq1 [4] (λ _ _ st20=>wp_ret (zt (zd (zd (zt (zd ?_))))))
    have h21:=lo h18 hx8
    have h22:=jo h21 k6
    exact st20.ret rfl rfl h22
   obtain⟨v23,p23,h24⟩:=bs h19
   refine st17.rg1 [0,1,5] (λ _ _ st25=>za ?_)
   exact⟨_,(Option.some.inj h24).symm,st25.sel0 [0,1,5] rfl⟩
  refine za ?_
  have h26:=lo h12 hx8
  exact⟨_,(Option.some.inj h26).symm,st10.sel0 [] rfl⟩
 rintro a6 w6 ⟨b6,rfl,st6⟩
 have h27:=jn k6
 refine st6.sq1 [4] (λ _ _ st28=>wp_ret ?_)
 exact st28.ret rfl rfl h27
def jf(x0:List Int)(x1:List Int)(s8:Int):Option (Int⊕(Unit⊕Bool)):=
if(cmpI .lss s8 (x0.length:Int))=true then((atI x0 s8).bind λ v13=>
(atI x1 s8).bind λ v14=>
if(cmpI .neq v13 v14)=true then(some (.inr (.inr false)))
else((i64 (s8+(1:Int))).bind λ v23=>
some (.inl v23)))
else(some (.inr (.inl ())))
def xL(x0:List Int)(x1:List Int):Option Bool:=
if(cmpI .neq (x0.length:Int) (x1.length:Int))=true then(some false)
else(Option.bind (α:=Unit⊕Bool) (zS (λ s8=>jf x0 x1 s8) (0:Int)) (Sum.elim (λ _b6=>
some true) some))
theorem YK{x0:List Int}{x1:List Int}{r:Bool}(h:xL x0 x1=some r):Fn prog 38 [dt x0,dt x1] (dt r):=by
 unfold xL at h
 refine fnx (fn:=f38) 0 func38 rfl (oD rfl) rfl (λ M w0 _ st0=>?_)
 refine st0.sq1 [0,1] (λ _ _ st1=>wp_seq ?_)
 refine st1.sq1 [0,1,10] (λ _ _ st2=>?_)
 refine st2.cs rfl h (λ _ h3=>?_) (λ _ h4=>wp_skip (za ?_))
 ·
  refine st2.sq1 [4] (λ _ _ st5=>wp_ret (zd ?_))
  exact st5.ret rfl rfl h3
 obtain⟨o6,p6,k6⟩:=bs h4
 refine zm (λ a w=>∃ b6,o6=.inl b6/\Sx (Frm.of w0) 26 M M [] [] [] a w) ?_ ?_
 ·
  refine st2.sq1 [0,1,5] (λ _ _ st7=>wp_block ?_)
  refine zL p6 (λ s8 a w=>Sx (Frm.of w0) 26 M M [] [(0,dt x0),(1,dt x1),(5,dt s8)] [] a w) (st7.sel0 [0,1,5] rfl) ?_
  rintro s8 z8 a8 w8 st8 hs8 hx8
  have h9:jf x0 x1 s8=some z8:=hs8
  unfold jf at h9
  refine wp_seq ?_
  refine st8.sq1 [0,1,5,14] (λ _ _ st10=>?_)
  refine st10.cs rfl h9 (λ _ h11=>wp_skip (za (wp_seq (wp_block (wp_seq ?_))))) (λ _ h12=>wp_exit (zh (zh (zE ?_))))
  ·
   obtain⟨v13,p13,v14,p14,h16⟩:=bsB h11
   refine st10.drA (D:=[_,_,_,_,_,_,_,_,_]) zD [[(0,nS)],[(5,nS)],[(17,0),(18,1)],[(19,2)],[(1,nS)],[(5,nS)],[(21,4),(22,5)],[(23,6)],[(20,3),(24,7)]] [0,1,5,25] [] (λ _ _ st17=>za ?_)
   refine st17.cs rfl h16 (λ _ h18=>?_) (λ _ h19=>wp_skip (zg (za ?_)))
   ·
    refine st17.sq1 [4] (λ _ _ st20=>wp_ret (zt (zd (zd (zt (zd ?_))))))
    have h21:=lo h18 hx8
    have h22:=jo h21 k6
    exact st20.ret rfl rfl h22
   obtain⟨v23,p23,h24⟩:=bs h19
   refine st17.rg1 [0,1,5] (λ _ _ st25=>za ?_)
   exact⟨_,(Option.some.inj h24).symm,st25.sel0 [0,1,5] rfl⟩
  refine za ?_
  have h26:=lo h12 hx8
  exact⟨_,(Option.some.inj h26).symm,st10.sel0 [] rfl⟩
 rintro a6 w6 ⟨b6,rfl,st6⟩
 have h27:=jn k6
 refine st6.sq1 [4] (λ _ _ st28=>wp_ret ?_)
 exact st28.ret rfl rfl h27
def jg(x0:List Dir)(x1:List Dir)(s8:Int):Option (Int⊕(Unit⊕Bool)):=
if(cmpI .lss s8 (x0.length:Int))=true then((atI x0 s8).bind λ v13=>
(atI x1 s8).bind λ v14=>
(gO (cmpI .neq v13.root v14.root == false) (atI x0 s8)).bind λ v15=>
(gO (cmpI .neq v13.root v14.root == false) (atI x1 s8)).bind λ v16=>
(gO ((cmpI .neq v13.root v14.root||decide (v15.pkg≠v16.pkg)) == false) (atI x0 s8)).bind λ v17=>
(gO ((cmpI .neq v13.root v14.root||decide (v15.pkg≠v16.pkg)) == false) (atI x1 s8)).bind λ v18=>
(gO (((cmpI .neq v13.root v14.root||decide (v15.pkg≠v16.pkg))||cmpI .neq v17.stamp v18.stamp) == false) (atI x0 s8)).bind λ v19=>
(gO (((cmpI .neq v13.root v14.root||decide (v15.pkg≠v16.pkg))||cmpI .neq v17.stamp v18.stamp) == false) (atI x1 s8)).bind λ v20=>
(gO (((cmpI .neq v13.root v14.root||decide (v15.pkg≠v16.pkg))||cmpI .neq v17.stamp v18.stamp) == false) (wX v19.names v20.names)).bind λ v21=>
if(((cmpI .neq v13.root v14.root||decide (v15.pkg≠v16.pkg))||cmpI .neq v17.stamp v18.stamp)||(!v21))=true then(some (.inr (.inr false)))
else((i64 (s8+(1:Int))).bind λ v37=>
some (.inl v37)))
else(some (.inr (.inl ())))
def jz(x0:List Dir)(x1:List Dir):Option Bool:=
if(cmpI .neq (x0.length:Int) (x1.length:Int))=true then(some false)
else(Option.bind (α:=Unit⊕Bool) (zS (λ s8=>jg x0 x1 s8) (0:Int)) (Sum.elim (λ _b6=>
some true) some))
theorem Wn{x0:List Dir}{x1:List Dir}{r:Bool}(h:jz x0 x1=some r):Fn prog 34 [dt x0,dt x1] (dt r):=by
 unfold jz at h
 refine fnx (fn:=f34) 0 func34 rfl (oD rfl) rfl (λ M w0 _ st0=>?_)
 refine st0.sq1 [0,1] (λ _ _ st1=>wp_seq ?_)
 refine st1.sq1 [0,1,10] (λ _ _ st2=>?_)
 refine st2.cs rfl h (λ _ h3=>?_) (λ _ h4=>wp_skip (za ?_))
 ·
  refine st2.sq1 [4] (λ _ _ st5=>wp_ret (zd ?_))
  exact st5.ret rfl rfl h3
 obtain⟨o6,p6,k6⟩:=bs h4
 refine zm (λ a w=>∃ b6,o6=.inl b6/\Sx (Frm.of w0) 68 M M [] [] [] a w) ?_ ?_
 ·
  refine st2.sq1 [0,1,5] (λ _ _ st7=>wp_block ?_)
  refine zL p6 (λ s8 a w=>Sx (Frm.of w0) 68 M M [] [(0,dt x0),(1,dt x1),(5,dt s8)] [] a w) (st7.sel0 [0,1,5] rfl) ?_
  rintro s8 z8 a8 w8 st8 hs8 hx8
  have h9:jg x0 x1 s8=some z8:=hs8
  unfold jg at h9
  refine wp_seq ?_
  refine st8.sq1 [0,1,5,14] (λ _ _ st10=>?_)
  refine st10.cs rfl h9 (λ _ h11=>wp_skip (za (wp_seq (wp_block (wp_seq ?_))))) (λ _ h12=>wp_exit (zh (zh (zE ?_))))
  ·
   obtain⟨v13,p13,v14,p14,v15,p15,v16,p16,h25⟩:=bsD h11
   obtain⟨v17,p17,v18,p18,v19,p19,v20,p20,h29⟩:=bsD h25
   obtain⟨v21,p21,h30⟩:=bs h29
   refine st10.drA (D:=[_,_,_,_,_,_,_,_,_,_,_,_,_,_,_,_,_,_,_,_,_,_,_,_,_,_,_,_,_,_,_,_,_,_,_,_,_,_,_,_,_,_,_,_,_,_,_,_,_,_,_]) zD [[(0,nS)],[(5,nS)],[(17,0),(18,1)],[(19,2)],[(20,3)],[(1,nS)],[(5,nS)],[(22,5),(23,6)],[(24,7)],[(25,8)],[(21,4),(26,9)],[(27,10)],[(0,nS),(28,11)],[(5,nS),(28,11)],[(29,12),(30,13),(28,11)],[(31,14),(28,11)],[(32,15),(28,11)],[(1,nS),(28,11)],[(5,nS),(28,11)],[(34,17),(35,18),(28,11)],[(36,19),(28,11)],[(37,20),(28,11)],[(33,16),(38,21),(28,11)],[(28,11),(39,22)],[(40,23)],[(0,nS),(41,24)],[(5,nS),(41,24)],[(42,25),(43,26),(41,24)],[(44,27),(41,24)],[(45,28),(41,24)],[(1,nS),(41,24)],[(5,nS),(41,24)],[(47,30),(48,31),(41,24)],[(49,32),(41,24)],[(50,33),(41,24)],[(46,29),(51,34),(41,24)],[(41,24),(52,35)],[(53,36)],[(0,nS),(54,37)],[(5,nS),(54,37)],[(55,38),(56,39),(54,37)],[(57,40),(54,37)],[(58,41),(54,37)],[(1,nS),(54,37)],[(5,nS),(54,37)],[(60,43),(61,44),(54,37)],[(62,45),(54,37)],[(63,46),(54,37)],[(59,42),(64,47),(54,37)],[(65,48),(54,37)],[(54,37),(66,49)]] [0,1,5,67] [] (λ _ _ st31=>?_) (hs:=rc rfl rfl (oM rfl (tp rfl))<|rc rfl rfl (oM rfl (tp rfl))<|rc rfl rfl (xIdx rfl kS33 (tp rfl) (tp rfl) p13)<|rc rfl rfl (zv Dir.fld0 rfl YF (tp rfl))<|rc rfl rfl (zp rfl kT3 (tp rfl))<|rc rfl rfl (oM rfl (tp rfl))<|rc rfl rfl (oM rfl (tp rfl))<|rc rfl rfl (xIdx rfl kS33 (tp rfl) (tp rfl) p14)<|rc rfl rfl (zv Dir.fld0 rfl YF (tp rfl))<|rc rfl rfl (zp rfl kT3 (tp rfl))<|rc rfl rfl (oCI rfl (tp rfl) (tp rfl))<|rc rfl rfl (oM rfl (tp rfl))<|rg rfl rfl rfl (λ hg=>oM rfl (tp rfl))<|rg rfl rfl rfl (λ hg=>oM rfl (tp rfl))<|rg rfl rfl rfl (λ hg=>xIdx rfl kS33 (ze hg rfl) (ze hg rfl) (gh hg p15))<|rg rfl rfl rfl (λ hg=>zv Dir.fld1 rfl YG (ze hg rfl))<|rg rfl rfl rfl (λ hg=>zp rfl kT9 (ze hg rfl))<|rg rfl rfl rfl (λ hg=>oM rfl (tp rfl))<|rg rfl rfl rfl (λ hg=>oM rfl (tp rfl))<|rg rfl rfl rfl (λ hg=>xIdx rfl kS33 (ze hg rfl) (ze hg rfl) (gh hg p16))<|rg rfl rfl rfl (λ hg=>zv Dir.fld1 rfl YG (ze hg rfl))<|rg rfl rfl rfl (λ hg=>zp rfl kT9 (ze hg rfl))<|rg rfl rfl rfl (λ hg=>Wv rfl (ze hg rfl) (ze hg rfl))<|rc rfl rfl (yU rfl (tp rfl) (zb rfl))<|rc rfl rfl (oM rfl (tp rfl))<|rg rfl rfl rfl (λ hg=>oM rfl (tp rfl))<|rg rfl rfl rfl (λ hg=>oM rfl (tp rfl))<|rg rfl rfl rfl (λ hg=>xIdx rfl kS33 (ze hg rfl) (ze hg rfl) (gh hg p17))<|rg rfl rfl rfl (λ hg=>zv Dir.fld2 rfl Xb (ze hg rfl))<|rg rfl rfl rfl (λ hg=>zp rfl kT3 (ze hg rfl))<|rg rfl rfl rfl (λ hg=>oM rfl (tp rfl))<|rg rfl rfl rfl (λ hg=>oM rfl (tp rfl))<|rg rfl rfl rfl (λ hg=>xIdx rfl kS33 (ze hg rfl) (ze hg rfl) (gh hg p18))<|rg rfl rfl rfl (λ hg=>zv Dir.fld2 rfl Xb (ze hg rfl))<|rg rfl rfl rfl (λ hg=>zp rfl kT3 (ze hg rfl))<|rg rfl rfl rfl (λ hg=>oCI rfl (ze hg rfl) (ze hg rfl))<|rc rfl rfl (yU rfl (tp rfl) (zb rfl))<|rc rfl rfl (oM rfl (tp rfl))<|rg rfl rfl rfl (λ hg=>oM rfl (tp rfl))<|rg rfl rfl rfl (λ hg=>oM rfl (tp rfl))<|rg rfl rfl rfl (λ hg=>xIdx rfl kS33 (ze hg rfl) (ze hg rfl) (gh hg p19))<|rg rfl rfl rfl (λ hg=>zv Dir.fld3 rfl YH (ze hg rfl))<|rg rfl rfl rfl (λ hg=>zp rfl kT75 (ze hg rfl))<|rg rfl rfl rfl (λ hg=>oM rfl (tp rfl))<|rg rfl rfl rfl (λ hg=>oM rfl (tp rfl))<|rg rfl rfl rfl (λ hg=>xIdx rfl kS33 (ze hg rfl) (ze hg rfl) (gh hg p20))<|rg rfl rfl rfl (λ hg=>zv Dir.fld3 rfl YH (ze hg rfl))<|rg rfl rfl rfl (λ hg=>zp rfl kT75 (ze hg rfl))<|rg rfl rfl rfl (λ hg=>zo (l:=[.tmp 59,.tmp 64]) rfl kN40 (.cons (ze hg rfl) (.cons (ze hg rfl) .nil)) (XN (gh hg p21)))<|rg rfl rfl rfl (λ hg=>yE rfl (ze hg rfl))<|rc rfl rfl (yU rfl (tp rfl) (zb rfl))<|.nil)
   refine za ?_
   refine st31.cs rfl h30 (λ _ h32=>?_) (λ _ h33=>wp_skip (zg (za ?_)))
   ·
    refine st31.sq1 [4] (λ _ _ st34=>wp_ret (zt (zd (zd (zt (zd ?_))))))
    have h35:=lo h32 hx8
    have h36:=jo h35 k6
    exact st34.ret rfl rfl h36
   obtain⟨v37,p37,h38⟩:=bs h33
   refine st31.rg1 [0,1,5] (λ _ _ st39=>za ?_)
   exact⟨_,(Option.some.inj h38).symm,st39.sel0 [0,1,5] rfl⟩
  refine za ?_
  have h40:=lo h12 hx8
  exact⟨_,(Option.some.inj h40).symm,st10.sel0 [] rfl⟩
 rintro a6 w6 ⟨b6,rfl,st6⟩
 have h41:=jn k6
 refine st6.sq1 [4] (λ _ _ st42=>wp_ret ?_)
 exact st42.ret rfl rfl h41
def yo(x0:Finder)(x1:Finder):Option Bool:=
(jz x0.dirs x1.dirs).bind λ v2=>
some ((v2&&cmpI .eql x0.fills x1.fills)&&cmpI .eql x0.hits x1.hits)
theorem wJ{x0:Finder}{x1:Finder}{r:Bool}(h:yo x0 x1=some r):Fn prog 26 [dt x0,dt x1] (dt r):=by
 unfold yo at h
 refine fnx (fn:=f26) 0 func26 rfl (oD rfl) rfl (λ M _ _ st0=>?_)
 refine st0.sq1 [2,3] (λ _ _ st1=>?_)
 obtain⟨v2,p2,h3⟩:=bsW h Wn
 refine st1.sq3 [4] (λ _ _ st4=>wp_ret ?_)
 exact st4.ret rfl rfl h3
def ye(x0:Spec)(x1:Spec):Option Bool:=
(gO ((cmpI .eql x0.kind x1.kind&&cmpI .eql x0.file x1.file) == true) (xL x0.roots x1.roots)).bind λ v2=>
some ((cmpI .eql x0.kind x1.kind&&cmpI .eql x0.file x1.file)&&v2)
theorem xo{x0:Spec}{x1:Spec}{r:Bool}(h:ye x0 x1=some r):Fn prog 27 [dt x0,dt x1] (dt r):=by
 unfold ye at h
 refine fnx (fn:=f27) 0 func27 rfl (oD rfl) rfl (λ M _ _ st0=>?_)
 refine st0.sq1 [2,3] (λ _ _ st1=>?_)
 obtain⟨v2,p2,h3⟩:=bs h
 refine st1.sq2 (sP 17 (r:=by exact sg rfl rfl (λ hg=>oK (YK (gh hg p2)))<|segC)) [4] (λ _ _ st4=>wp_ret ?_)
 exact st4.ret rfl rfl h3
def qE(x0:List Int)(x1:Int)(s4:Int):Option (Int⊕(Unit⊕Bool)):=
if(cmpI .lss s4 (x0.length:Int))=true then((atI x0 s4).bind λ v9=>
if(cmpI .eql v9 x1)=true then(some (.inr (.inr true)))
else((i64 (s4+(1:Int))).bind λ v17=>
some (.inl v17)))
else(some (.inr (.inl ())))
def Y5(x0:List Int)(x1:Int):Option Bool:=
Option.bind (α:=Unit⊕Bool) (zS (λ s4=>qE x0 x1 s4) (0:Int)) (Sum.elim (λ _b2=>
some false) some)
theorem laws_isIn_w{x0:List Int}{x1:Int}{r:Bool}(h:Y5 x0 x1=some r):Fn prog 42 [dt x0,dt x1] (dt r):=by
 unfold Y5 at h
 refine fnx (fn:=f42) 0 func42 rfl (oD rfl) rfl (λ M w0 _ st0=>?_)
 refine st0.sq1 [0,1] (λ _ _ st1=>?_)
 obtain⟨o2,p2,k2⟩:=bs h
 refine zm (λ a w=>∃ b2,o2=.inl b2/\Sx (Frm.of w0) 18 M M [] [] [] a w) ?_ ?_
 ·
  refine st1.sq1 [0,1,5] (λ _ _ st3=>wp_block ?_)
  refine zL p2 (λ s4 a w=>Sx (Frm.of w0) 18 M M [] [(0,dt x0),(1,dt x1),(5,dt s4)] [] a w) (st3.sel0 [0,1,5] rfl) ?_
  rintro s4 z4 a4 w4 st4 hs4 hx4
  have h5:qE x0 x1 s4=some z4:=hs4
  unfold qE at h5
  refine wp_seq ?_
  refine st4.sq1 [0,1,5,9] (λ _ _ st6=>?_)
  refine st6.cs rfl h5 (λ _ h7=>wp_skip (za (wp_seq (wp_block ?_)))) (λ _ h8=>wp_exit (zh (zh (zE ?_))))
  ·
   obtain⟨v9,p9,h10⟩:=bs h7
   refine st6.sq1 [0,1,5,17] (λ _ _ st11=>?_)
   refine st11.cs rfl h10 (λ _ h12=>?_) (λ _ h13=>wp_skip (zg (za ?_)))
   ·
    refine st11.sq1 [4] (λ _ _ st14=>wp_ret (zt (zd (zd (zt (zd ?_))))))
    have h15:=lo h12 hx4
    have h16:=jo h15 k2
    exact st14.ret rfl rfl h16
   obtain⟨v17,p17,h18⟩:=bs h13
   refine st11.rg1 [0,1,5] (λ _ _ st19=>za ?_)
   exact⟨_,(Option.some.inj h18).symm,st19.sel0 [0,1,5] rfl⟩
  refine za ?_
  have h20:=lo h8 hx4
  exact⟨_,(Option.some.inj h20).symm,st6.sel0 [] rfl⟩
 rintro a2 w2 ⟨b2,rfl,st2⟩
 have h21:=jn k2
 refine st2.sq1 [4] (λ _ _ st22=>wp_ret ?_)
 exact st22.ret rfl rfl h21
def xb(x0:List Int)(s4:Int):Option (Int⊕(Unit⊕Bool)):=
if(cmpI .lss s4 (x0.length:Int))=true then((atI x0 s4).bind λ v9=>
(i64 (s4 - (1:Int))).bind λ v10=>
(atI x0 v10).bind λ v11=>
if(cmpI .leq v9 v11)=true then(some (.inr (.inr false)))
else((i64 (s4+(1:Int))).bind λ v21=>
some (.inl v21)))
else(some (.inr (.inl ())))
def Zy(x0:List Int):Option Bool:=
Option.bind (α:=Unit⊕Bool) (zS (λ s4=>xb x0 s4) (1:Int)) (Sum.elim (λ _b2=>
some true) some)
theorem zbP{x0:List Int}{r:Bool}(h:Zy x0=some r):Fn prog 44 [dt x0] (dt r):=by
 unfold Zy at h
 refine fnx (fn:=f44) 0 func44 rfl (oD rfl) rfl (λ M w0 _ st0=>?_)
 refine st0.sq1 [0] (λ _ _ st1=>?_)
 obtain⟨o2,p2,k2⟩:=bs h
 refine zm (λ a w=>∃ b2,o2=.inl b2/\Sx (Frm.of w0) 20 M M [] [] [] a w) ?_ ?_
 ·
  refine st1.sq1 [0,3] (λ _ _ st3=>wp_block ?_)
  refine zL p2 (λ s4 a w=>Sx (Frm.of w0) 20 M M [] [(0,dt x0),(3,dt s4)] [] a w) (st3.sel0 [0,3] rfl) ?_
  rintro s4 z4 a4 w4 st4 hs4 hx4
  have h5:xb x0 s4=some z4:=hs4
  unfold xb at h5
  refine wp_seq ?_
  refine st4.sq1 [0,3,7] (λ _ _ st6=>?_)
  refine st6.cs rfl h5 (λ _ h7=>wp_skip (za (wp_seq (wp_block (wp_seq ?_))))) (λ _ h8=>wp_exit (zh (zh (zE ?_))))
  ·
   obtain⟨v9,p9,v10,p10,v11,p11,h14⟩:=bsC h7
   refine st6.drA (D:=[_,_,_,_,_,_,_,_,_,_]) zD [[(0,nS)],[(3,nS)],[(10,0),(11,1)],[(12,2)],[(0,nS)],[(3,nS)],[(15,5)],[(14,4),(16,6)],[(17,7)],[(13,3),(18,8)]] [0,3,19] [] (λ _ _ st15=>za ?_)
   refine st15.cs rfl h14 (λ _ h16=>?_) (λ _ h17=>wp_skip (zg (za ?_)))
   ·
    refine st15.sq1 [2] (λ _ _ st18=>wp_ret (zt (zd (zd (zt (zd ?_))))))
    have h19:=lo h16 hx4
    have h20:=jo h19 k2
    exact st18.ret rfl rfl h20
   obtain⟨v21,p21,h22⟩:=bs h17
   refine st15.rg1 [0,3] (λ _ _ st23=>za ?_)
   exact⟨_,(Option.some.inj h22).symm,st23.sel0 [0,3] rfl⟩
  refine za ?_
  have h24:=lo h8 hx4
  exact⟨_,(Option.some.inj h24).symm,st6.sel0 [] rfl⟩
 rintro a2 w2 ⟨b2,rfl,st2⟩
 have h25:=jn k2
 refine st2.sq1 [2] (λ _ _ st26=>wp_ret ?_)
 exact st26.ret rfl rfl h25
end Go.Proofs.YtdoidiipacdbpaaGreatDoor
