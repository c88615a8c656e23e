import Derived.Test.YtobplpdjkfbfoaaGreatDoorRKb
import Derived.Test.YtobplpdjkfbfoaaGreatDoorRC
import Derived.Test.YtobplpdjkfbfoaaGreatDoorRG
import Derived.Test.YtobplpdjkfbfoaaGreatDoorRO
namespace Go.Proofs.YtobplpdjkfbfoaaGreatDoor
open Go.RowKit Tryz
set_option maxRecDepth 10000
set_option maxHeartbeats 1600000
theorem kL22:isSl prog 22=true:=by kernel_rfl
theorem kB89:bldB prog 89 [1,1]=true:=by kernel_rfl
theorem kC89:YI prog 89 [1,1]=some zpReader:=by kernel_rfl
theorem kD89_0:∀ {M:Nat->Prop} {look:Nat->Option Dt} {o:Oper} {q0:Operand} {y0:List UInt8},o.op=.build 89 #[(0,q0)]->OpdR M look q0 (dt y0)->OpRel prog M look o (dt (⟨y0,0⟩:Reader)):=@λ _ _ _ q0 y0 ho h0=>xe (parts:=[(0,q0)]) (ns:=[1,1]) (zs:=zpReader) rfl ho kB89 kC89 (λ w a hl=>by
 intro p hp;simp only[List.mem_cons,List.not_mem_nil,or_false] at hp
 rcases hp with rfl
 ·
  exact⟨(by decide:0<2),Rep.len (α:=List UInt8) (OpdR.cells h0 hl)⟩) (λ w a hl=>Reader.parts (x:=(⟨y0,0⟩:Reader)) (OpdR.cells h0 hl) ⟨rfl,trivial⟩)
theorem kF89_1:fldB prog 89 1 1=true:=by kernel_rfl
theorem Jf:fldB prog 89 0 0=true:=by kernel_rfl
theorem kT22:tyB prog 22 false 1=true:=by kernel_rfl
theorem kT5:tyB prog 5 false 1=true:=by kernel_rfl
theorem kCv5_3:cvI prog 5 3=true:=by kernel_rfl
theorem kN70:fnB prog 70=true:=by kernel_rfl
theorem kN136:fnB prog 136=true:=by kernel_rfl
theorem JQ:fnB prog 164=true:=by kernel_rfl
theorem kN73:fnB prog 73=true:=by kernel_rfl
theorem kN135:fnB prog 135=true:=by kernel_rfl
theorem kD82_0_1:∀ {M:Nat->Prop} {look:Nat->Option Dt} {o:Oper} {q0 q1:Operand} {y0:Int} {y1:Str},o.op=.build 82 #[(0,q0),(1,q1)]->OpdR M look q0 (dt y0)->OpdR M look q1 (dt y1)->OpRel prog M look o (dt (⟨y0,y1,0,⟨[]⟩,0⟩:Stmt)):=@λ _ _ _ q0 q1 y0 y1 ho h0 h1=>xe (parts:=[(0,q0),(1,q1)]) (ns:=[1,1,1,1,1]) (zs:=J9) rfl ho kB82 kC82 (λ w a hl=>by
 intro p hp;simp only[List.mem_cons,List.not_mem_nil,or_false] at hp
 rcases hp with rfl | rfl
 ·
  exact⟨(by decide:0<5),Rep.len (α:=Int) (OpdR.cells h0 hl)⟩
 ·
  exact⟨(by decide:1<5),Rep.len (α:=Str) (OpdR.cells h1 hl)⟩) (λ w a hl=>Stmt.parts (x:=(⟨y0,y1,0,⟨[]⟩,0⟩:Stmt)) (OpdR.cells h0 hl) (OpdR.cells h1 hl) ⟨rfl,trivial⟩ jB ⟨rfl,trivial⟩)
theorem kD82_0_1_2_3:∀ {M:Nat->Prop} {look:Nat->Option Dt} {o:Oper} {q0 q1 q2 q3:Operand} {y0:Int} {y1:Str} {y2:Int} {y3:Str},o.op=.build 82 #[(0,q0),(1,q1),(2,q2),(3,q3)]->OpdR M look q0 (dt y0)->OpdR M look q1 (dt y1)->OpdR M look q2 (dt y2)->OpdR M look q3 (dt y3)->OpRel prog M look o (dt (⟨y0,y1,y2,y3,0⟩:Stmt)):=@λ _ _ _ q0 q1 q2 q3 y0 y1 y2 y3 ho h0 h1 h2 h3=>xe (parts:=[(0,q0),(1,q1),(2,q2),(3,q3)]) (ns:=[1,1,1,1,1]) (zs:=J9) rfl ho kB82 kC82 (λ w a hl=>by
 intro p hp;simp only[List.mem_cons,List.not_mem_nil,or_false] at hp
 rcases hp with rfl | rfl | rfl | rfl
 ·
  exact⟨(by decide:0<5),Rep.len (α:=Int) (OpdR.cells h0 hl)⟩
 ·
  exact⟨(by decide:1<5),Rep.len (α:=Str) (OpdR.cells h1 hl)⟩
 ·
  exact⟨(by decide:2<5),Rep.len (α:=Int) (OpdR.cells h2 hl)⟩
 ·
  exact⟨(by decide:3<5),Rep.len (α:=Str) (OpdR.cells h3 hl)⟩) (λ w a hl=>Stmt.parts (x:=(⟨y0,y1,y2,y3,0⟩:Stmt)) (OpdR.cells h0 hl) (OpdR.cells h1 hl) (OpdR.cells h2 hl) (OpdR.cells h3 hl) ⟨rfl,trivial⟩)
theorem Wz:∀ {M:Nat->Prop} {look:Nat->Option Dt} {o:Oper} {q0 q3 q4:Operand} {y0:Int} {y3:Str} {y4:Int},o.op=.build 82 #[(0,q0),(3,q3),(4,q4)]->OpdR M look q0 (dt y0)->OpdR M look q3 (dt y3)->OpdR M look q4 (dt y4)->OpRel prog M look o (dt (⟨y0,⟨[]⟩,0,y3,y4⟩:Stmt)):=@λ _ _ _ q0 q3 q4 y0 y3 y4 ho h0 h3 h4=>xe (parts:=[(0,q0),(3,q3),(4,q4)]) (ns:=[1,1,1,1,1]) (zs:=J9) rfl ho kB82 kC82 (λ w a hl=>by
 intro p hp;simp only[List.mem_cons,List.not_mem_nil,or_false] at hp
 rcases hp with rfl | rfl | rfl
 ·
  exact⟨(by decide:0<5),Rep.len (α:=Int) (OpdR.cells h0 hl)⟩
 ·
  exact⟨(by decide:3<5),Rep.len (α:=Str) (OpdR.cells h3 hl)⟩
 ·
  exact⟨(by decide:4<5),Rep.len (α:=Int) (OpdR.cells h4 hl)⟩) (λ w a hl=>Stmt.parts (x:=(⟨y0,⟨[]⟩,0,y3,y4⟩:Stmt)) (OpdR.cells h0 hl) jB ⟨rfl,trivial⟩ (OpdR.cells h3 hl) (OpdR.cells h4 hl))
theorem kD82_0_3:∀ {M:Nat->Prop} {look:Nat->Option Dt} {o:Oper} {q0 q3:Operand} {y0:Int} {y3:Str},o.op=.build 82 #[(0,q0),(3,q3)]->OpdR M look q0 (dt y0)->OpdR M look q3 (dt y3)->OpRel prog M look o (dt (⟨y0,⟨[]⟩,0,y3,0⟩:Stmt)):=@λ _ _ _ q0 q3 y0 y3 ho h0 h3=>xe (parts:=[(0,q0),(3,q3)]) (ns:=[1,1,1,1,1]) (zs:=J9) rfl ho kB82 kC82 (λ w a hl=>by
 intro p hp;simp only[List.mem_cons,List.not_mem_nil,or_false] at hp
 rcases hp with rfl | rfl
 ·
  exact⟨(by decide:0<5),Rep.len (α:=Int) (OpdR.cells h0 hl)⟩
 ·
  exact⟨(by decide:3<5),Rep.len (α:=Str) (OpdR.cells h3 hl)⟩) (λ w a hl=>Stmt.parts (x:=(⟨y0,⟨[]⟩,0,y3,0⟩:Stmt)) (OpdR.cells h0 hl) jB ⟨rfl,trivial⟩ (OpdR.cells h3 hl) ⟨rfl,trivial⟩)
def jd(x0:List UInt8):Option Reader:=
Option.bind (α:=(List UInt8)) (if(cmpI .gtr (x0.length:Int) (2000:Int))=true then((WY x0 (2000:Int)).bind λ v6=>
some v6)
else(some x0)) λ o2=>
some (⟨o2,0⟩:Reader)
theorem We{x0:List UInt8}{r:Reader}(h:jd x0=some r):FnN prog 38 [dt x0] (.ow (Ow.box (Ow.frz (α:=Reader))) ⟨r⟩):=by
 unfold jd at h
 refine fnN (fn:=f38) 2 func38 rfl (oD rfl) rfl (λ M w0 a0 st0=>?_)
 refine st0.sq0 (sc rfl (oA rfl opd_nilp)<|.nil) [0] rfl (λ a1 w1 st1=>?_)
 obtain⟨o2,p2,k2⟩:=bs h
 refine zj (λ a w=>∃ M1 q2_0 q2_1,Sx (Frm.of w0) 11 M M1 [q2_0,q2_1] [(0,dt o2)] [] a w) ?_ ?_
 ·
  refine st1.sq0 (sc rfl (oM rfl (tp rfl))<|sc rfl (z6 rfl kL22 (tp rfl))<|sc rfl (oCI rfl (tp rfl) cI)<|.nil) [0,5] rfl (λ a3 w3 st3=>?_)
  refine st3.cs (c:=5) rfl p2 (λ c4 h4=>?_) (λ c5 h5=>?_)
  ·
   obtain⟨v6,p6,h7⟩:=bs h4
   refine st3.rg0 (sc rfl (oM rfl (tp rfl))<|sc rfl (xSliH rfl kS22 (tp rfl) cI p6)<|sc rfl (oA rfl (tp rfl))<|.nil) [0] rfl (λ a8 w8 st8=>za ?_)
   obtain rfl:=Option.some.inj h7
   exact⟨_,_,_,st8.sel [0] rfl [] rfl trivial⟩
  refine wp_skip (za ?_)
  obtain rfl:=Option.some.inj h5
  exact⟨_,_,_,st3.sel [0] rfl [] rfl trivial⟩
 rintro a2 w2 ⟨M2,q2_0,q2_1,st2⟩
 have h9:=k2
 refine wp_seq (wp_region_list ?_)
 refine st2.seg 2 (
  sc rfl (oM rfl (tp rfl))<|sc rfl (kD89_0 rfl (tp rfl))<|.nil) [9] rfl [] rfl trivial (λ a10 w10 st10=>?_)
 refine st10.boxZ 0 rfl rfl (tp rfl) (by simp) [] rfl [] rfl rfl (λ b11 M11 a11 w11 st11=>?_)
 refine st11.seg 1 (
  sc rfl (oA rfl (tp rfl))<|.nil) [] rfl [(2,0)] rfl iT (λ a12 w12 st12=>?_)
 refine wpList_nil (za (wp_ret ?_))
 have st13:=st12.unm (s:=2) 0 rfl rfl iI [] rfl
 exact st13.rnO 0 rfl rfl iI (bx1 h9)
def zA(x0:Reader)(x1:Int):Option (Reader×Int):=
(i64 (x0.p+(1:Int))).bind λ v2=>
if(cmpI .lss x1 (1:Int)||cmpI .eql (x0.b.length:Int) (0:Int))=true then(some ({ x0 with p:=v2 },(0:Int)))
else((i64 (v2 - (1:Int))).bind λ v10=>
if(cmpI .lss v10 (x0.b.length:Int))=true then((atI x0.b v10).bind λ v16=>
(modO (v16.toNat:Int) x1).bind λ v17=>
some ({ x0 with p:=v2 },v17))
else((modO v10 (x0.b.length:Int)).bind λ v21=>
(atI x0.b v21).bind λ v22=>
(i64 ((v22.toNat:Int)*(131:Int))).bind λ v23=>
(i64 (v10*(7:Int))).bind λ v24=>
(i64 (v24+(3:Int))).bind λ v25=>
(modO v25 (x0.b.length:Int)).bind λ v26=>
(atI x0.b v26).bind λ v27=>
(i64 ((v27.toNat:Int)*(1117:Int))).bind λ v28=>
(i64 (v23+v28)).bind λ v29=>
(i64 (v10*(29:Int))).bind λ v30=>
(i64 (v29+v30)).bind λ v31=>
(divO v10 (x0.b.length:Int)).bind λ v32=>
(i64 (v32*(53:Int))).bind λ v33=>
(i64 (v31+v33)).bind λ v34=>
(divO v34 (64:Int)).bind λ v50=>
(modO (xorI v34 v50) x1).bind λ v53=>
some ({ x0 with p:=v2 },v53)))
theorem zE{x0:Reader}{x1:Int}{r:Reader×Int}(h:zA x0 x1=some r):FnS prog 70 (Ow.box (Ow.frz (α:=Reader))) ⟨x0⟩ [dt x1] ⟨r.1⟩ (.frz (dt r.2)):=by
 unfold zA at h
 refine fnSB (fn:=f70) 0 1 func70 rfl (oD rfl) rfl (λ M G w0 b0 a0 st0=>?_)
 refine st0.sq (sc rfl (oA rfl cI)<|.nil) [1] rfl [(0,0)] rfl iT (λ a1 w1 st1=>wp_seq (wp_region_list ?_))
 obtain⟨v2,p2,h3⟩:=bs h
 refine st1.seg 8 (
  sc rfl (oM rfl (zD rfl))<|sc rfl (oM rfl (zD rfl))<|sc rfl (xNc rfl (tp rfl))<|sc rfl (xFa rfl kF89_1 (tp rfl))<|sc rfl (xLf (sb:=0) ((PV.root.box rfl).fld Reader.z1) rfl kT3 (tp rfl) rfl)<|sc rfl (xAr rfl (tp rfl) cI p2)<|sc rfl (xNc rfl (tp rfl))<|sc rfl (xFa rfl kF89_1 (tp rfl))<|.nil) [1,12,14] rfl [(0,0)] rfl iT (λ a4 w4 st4=>?_)
 refine st4.stF (sb:=0) 0 ((PV.root.box rfl).fld Reader.z1) rfl rfl rfl kT3 (by simp) (tp rfl) (tp rfl) rfl rfl iI [1] rfl [] rfl rfl (λ w5 st5=>wpList_nil (za (wp_seq ?_)))
 refine st5.sq (sc rfl (oM rfl (tp rfl))<|sc rfl (oCI rfl (tp rfl) cI)<|sc rfl (oM rfl (tp rfl))<|sg rfl rfl (λ hg=>oM rfl (zD rfl))<|sg rfl rfl (λ hg=>xNc rfl (zi hg rfl))<|sg rfl rfl (λ hg=>xFa rfl Jf (zi hg rfl))<|sg rfl rfl (λ hg=>xLf (sb:=0) ((PV.root.box rfl).fld Reader.z0) rfl kT22 (zi hg rfl) rfl)<|sg rfl rfl (λ hg=>z6 rfl kL22 (zi hg rfl))<|sg rfl rfl (λ hg=>oCI rfl (zi hg rfl) cI)<|sc rfl (wj rfl (tp rfl) (zb rfl))<|.nil) [1,24] rfl [(0,0)] rfl iT (λ a6 w6 st6=>?_)
 refine st6.cs (c:=24) rfl h3 (λ c7 h7=>?_) (λ c8 h8=>?_)
 ·
  refine st6.sq (sc rfl (oA rfl cI)<|.nil) [4] rfl [(0,0)] rfl iT (λ a9 w9 st9=>wp_ret (zd ?_))
  exact st9.rsF (s:=0) 0 rfl rfl rfl iI (bxr h7) WX
 refine wp_skip (za ?_)
 obtain⟨v10,p10,h11⟩:=bs h8
 refine st6.sq (sc rfl (oM rfl (zD rfl))<|sc rfl (xNc rfl (tp rfl))<|sc rfl (xFa rfl kF89_1 (tp rfl))<|sc rfl (xLf (sb:=0) ((PV.root.box rfl).fld Reader.z1) rfl kT3 (tp rfl) rfl)<|sc rfl (xAr rfl (tp rfl) cI p10)<|sc rfl (oA rfl (tp rfl))<|.nil) [1,5] rfl [(0,0)] rfl iT (λ a12 w12 st12=>wp_seq ?_)
 refine st12.sq (sc rfl (oM rfl (tp rfl))<|sc rfl (oM rfl (zD rfl))<|sc rfl (xNc rfl (tp rfl))<|sc rfl (xFa rfl Jf (tp rfl))<|sc rfl (xLf (sb:=0) ((PV.root.box rfl).fld Reader.z0) rfl kT22 (tp rfl) rfl)<|sc rfl (z6 rfl kL22 (tp rfl))<|sc rfl (oCI rfl (tp rfl) (tp rfl))<|.nil) [1,5,36] rfl [(0,0)] rfl iT (λ a13 w13 st13=>?_)
 refine st13.cs (c:=36) rfl h11 (λ c14 h14=>?_) (λ c15 h15=>?_)
 ·
  obtain⟨v16,p16,v17,p17,h19⟩:=bsB h14
  refine st13.sq (sc rfl (oM rfl (zD rfl))<|sc rfl (xNc rfl (tp rfl))<|sc rfl (xFa rfl Jf (tp rfl))<|sc rfl (xLf (sb:=0) ((PV.root.box rfl).fld Reader.z0) rfl kT22 (tp rfl) rfl)<|sc rfl (oM rfl (tp rfl))<|sc rfl (xIdx rfl kS22 (tp rfl) (tp rfl) p16)<|sc rfl (zk rfl kT5 (tp rfl))<|sc rfl (xCvI rfl kCv5_3 (tp rfl))<|sc rfl (oM rfl (tp rfl))<|sc rfl (xMod rfl (tp rfl) (tp rfl) p17)<|sc rfl (oA rfl (tp rfl))<|.nil) [4] rfl [(0,0)] rfl iT (λ a20 w20 st20=>wp_ret (zd ?_))
  exact st20.rsF (s:=0) 0 rfl rfl rfl iI (bxr h19) WX
 refine wp_skip (za (wp_seq ?_))
 obtain⟨v21,p21,v22,p22,v23,p23,v24,p24,h38⟩:=bsD h15
 obtain⟨v25,p25,v26,p26,v27,p27,v28,p28,h42⟩:=bsD h38
 obtain⟨v29,p29,v30,p30,v31,p31,v32,p32,h46⟩:=bsD h42
 obtain⟨v33,p33,v34,p34,h48⟩:=bsB h46
 refine st13.dr (D:=[_,_,_,_,_,_,_,_,_,_,_,_,_,_,_,_,_,_,_,_,_,_,_,_,_,_,_,_,_,_,_,_,_,_,_,_,_,_,_,_,_,_,_,_,_,_]) zO [[(0,nS)],[(47,0)],[(48,1)],[(49,2),(0,nS)],[(5,nS)],[(0,nS)],[(52,5)],[(53,6)],[(54,7),(0,nS)],[(55,8)],[(51,4),(56,9)],[(50,3),(57,10)],[(58,11)],[(59,12)],[(60,13)],[(0,nS)],[(62,15)],[(63,16)],[(64,17),(0,nS)],[(5,nS)],[(66,19)],[(67,20)],[(0,nS)],[(69,22)],[(70,23)],[(71,24),(0,nS)],[(72,25)],[(68,21),(73,26)],[(65,18),(74,27)],[(75,28)],[(76,29)],[(77,30)],[(61,14),(78,31)],[(5,nS)],[(80,33)],[(79,32),(81,34)],[(5,nS)],[(0,nS)],[(84,37)],[(85,38)],[(86,39),(0,nS)],[(87,40)],[(83,36),(88,41)],[(89,42)],[(82,35),(90,43)],[(91,44)]] (by decide +kernel) (
  rc rfl rfl (oM rfl (zD rfl))<|rc rfl rfl (xNc rfl (tp rfl))<|rc rfl rfl (xFa rfl Jf (tp rfl))<|rc rfl rfl (xLf (sb:=0) ((PV.root.box rfl).fld Reader.z0) rfl kT22 (tp rfl) rfl)<|rc rfl rfl (oM rfl (tp rfl))<|rc rfl rfl (oM rfl (zD rfl))<|rc rfl rfl (xNc rfl (tp rfl))<|rc rfl rfl (xFa rfl Jf (tp rfl))<|rc rfl rfl (xLf (sb:=0) ((PV.root.box rfl).fld Reader.z0) rfl kT22 (tp rfl) rfl)<|rc rfl rfl (z6 rfl kL22 (tp rfl))<|rc rfl rfl (xMod rfl (tp rfl) (tp rfl) p21)<|rc rfl rfl (xIdx rfl kS22 (tp rfl) (tp rfl) p22)<|rc rfl rfl (zk rfl kT5 (tp rfl))<|rc rfl rfl (xCvI rfl kCv5_3 (tp rfl))<|rc rfl rfl (xAr rfl (tp rfl) cI p23)<|rc rfl rfl (oM rfl (zD rfl))<|rc rfl rfl (xNc rfl (tp rfl))<|rc rfl rfl (xFa rfl Jf (tp rfl))<|rc rfl rfl (xLf (sb:=0) ((PV.root.box rfl).fld Reader.z0) rfl kT22 (tp rfl) rfl)<|rc rfl rfl (oM rfl (tp rfl))<|rc rfl rfl (xAr rfl (tp rfl) cI p24)<|rc rfl rfl (xAr rfl (tp rfl) cI p25)<|rc rfl rfl (oM rfl (zD rfl))<|rc rfl rfl (xNc rfl (tp rfl))<|rc rfl rfl (xFa rfl Jf (tp rfl))<|rc rfl rfl (xLf (sb:=0) ((PV.root.box rfl).fld Reader.z0) rfl kT22 (tp rfl) rfl)<|rc rfl rfl (z6 rfl kL22 (tp rfl))<|rc rfl rfl (xMod rfl (tp rfl) (tp rfl) p26)<|rc rfl rfl (xIdx rfl kS22 (tp rfl) (tp rfl) p27)<|rc rfl rfl (zk rfl kT5 (tp rfl))<|rc rfl rfl (xCvI rfl kCv5_3 (tp rfl))<|rc rfl rfl (xAr rfl (tp rfl) cI p28)<|rc rfl rfl (xAr rfl (tp rfl) (tp rfl) p29)<|rc rfl rfl (oM rfl (tp rfl))<|rc rfl rfl (xAr rfl (tp rfl) cI p30)<|rc rfl rfl (xAr rfl (tp rfl) (tp rfl) p31)<|rc rfl rfl (oM rfl (tp rfl))<|rc rfl rfl (oM rfl (zD rfl))<|rc rfl rfl (xNc rfl (tp rfl))<|rc rfl rfl (xFa rfl Jf (tp rfl))<|rc rfl rfl (xLf (sb:=0) ((PV.root.box rfl).fld Reader.z0) rfl kT22 (tp rfl) rfl)<|rc rfl rfl (z6 rfl kL22 (tp rfl))<|rc rfl rfl (xDiv rfl (tp rfl) (tp rfl) p32)<|rc rfl rfl (xAr rfl (tp rfl) cI p33)<|rc rfl rfl (xAr rfl (tp rfl) (tp rfl) p34)<|rc rfl rfl (oA rfl (tp rfl))<|.nil) [1,6] rfl [(0,0)] rfl iT (λ a49 w49 st49=>?_)
 refine za ?_
 obtain⟨v50,p50,h51⟩:=bs h48
 refine st49.sq (sc rfl (oM rfl (tp rfl))<|sc rfl (oM rfl (tp rfl))<|sc rfl (xDiv rfl (tp rfl) cI p50)<|sc rfl (xXor rfl (tp rfl) (tp rfl))<|sc rfl (oA rfl (tp rfl))<|.nil) [1,6] rfl [(0,0)] rfl iT (λ a52 w52 st52=>?_)
 obtain⟨v53,p53,h54⟩:=bs h51
 refine st52.sq (sc rfl (oM rfl (tp rfl))<|sc rfl (oM rfl (tp rfl))<|sc rfl (xMod rfl (tp rfl) (tp rfl) p53)<|sc rfl (oA rfl (tp rfl))<|.nil) [4] rfl [(0,0)] rfl iT (λ a55 w55 st55=>wp_ret ?_)
 exact st55.rsF (s:=0) 0 rfl rfl rfl iI (bxr h54) WX
def ya(x0:Reader)(x1:List Int):Option (Reader×Int):=
(zA x0 (x1.length:Int)).bind λ v4=>
(atI x1 v4.2).bind λ v6=>
some (v4.1,v6)
theorem xk{x0:Reader}{x1:List Int}{r:Reader×Int}(h:ya x0 x1=some r):FnS prog 73 (Ow.box (Ow.frz (α:=Reader))) ⟨x0⟩ [dt x1] ⟨r.1⟩ (.frz (dt r.2)):=by
 unfold ya at h
 refine fnSB (fn:=f73) 0 1 func73 rfl (oD rfl) rfl (λ M G w0 b0 a0 st0=>?_)
 refine st0.sq (sc rfl (oA rfl cI)<|.nil) [1] rfl [(0,0)] rfl iT (λ a1 w1 st1=>wp_seq (wp_region_list ?_))
 refine st1.seg 4 (
  sc rfl (oM rfl (tp rfl))<|sc rfl (oM rfl (zD rfl))<|sc rfl (oM rfl (tp rfl))<|sc rfl (z6 rfl kL26 (tp rfl))<|.nil) [5,6,8] rfl [(0,0)] rfl iT (λ a2 w2 st2=>?_)
 obtain⟨v4,p4,h5⟩:=bs h
 refine st2.cSF (l:=[.tmp 8]) 0 (st2.bkN (s:=0) rfl iI) rfl rfl kN70 (Eq.trans (st2.st.has 6 _ rfl) (st2.st.has 0 _ rfl).1.symm) (by simp) (.cons (tp rfl) .nil) (zE p4) [5] rfl [] rfl rfl (by decide) (λ G3 M3 a3 w3 st3=>?_)
 obtain⟨v6,p6,h7⟩:=bs h5
 refine st3.seg 3 (
  sc rfl (xIdx rfl kS26 (tp rfl) (tp rfl) p6)<|sc rfl (zk rfl kT3 (tp rfl))<|sc rfl (oA rfl (tp rfl))<|.nil) [4] rfl [(0,0)] rfl iT (λ a8 w8 st8=>?_)
 refine wpList_nil (za (wp_ret ?_))
 exact st8.rsF (s:=0) 0 rfl rfl rfl iI (bxr h7) WX
def xF(x0:Reader)(x1:List Str):Option (Reader×Str):=
(zA x0 (x1.length:Int)).bind λ v4=>
(atI x1 v4.2).bind λ v6=>
some (v4.1,v6)
theorem Zc{x0:Reader}{x1:List Str}{r:Reader×Str}(h:xF x0 x1=some r):FnS prog 136 (Ow.box (Ow.frz (α:=Reader))) ⟨x0⟩ [dt x1] ⟨r.1⟩ (.frz (dt r.2)):=by
 unfold xF at h
 refine fnSB (fn:=f136) 0 1 func136 rfl (oD rfl) rfl (λ M G w0 b0 a0 st0=>?_)
 refine st0.sq (sc rfl (oA rfl (zH (by decide)))<|.nil) [1] rfl [(0,0)] rfl iT (λ a1 w1 st1=>wp_seq (wp_region_list ?_))
 refine st1.seg 4 (
  sc rfl (oM rfl (tp rfl))<|sc rfl (oM rfl (zD rfl))<|sc rfl (oM rfl (tp rfl))<|sc rfl (z6 rfl kL32 (tp rfl))<|.nil) [5,6,8] rfl [(0,0)] rfl iT (λ a2 w2 st2=>?_)
 obtain⟨v4,p4,h5⟩:=bs h
 refine st2.cSF (l:=[.tmp 8]) 0 (st2.bkN (s:=0) rfl iI) rfl rfl kN70 (Eq.trans (st2.st.has 6 _ rfl) (st2.st.has 0 _ rfl).1.symm) (by simp) (.cons (tp rfl) .nil) (zE p4) [5] rfl [] rfl rfl (by decide) (λ G3 M3 a3 w3 st3=>?_)
 obtain⟨v6,p6,h7⟩:=bs h5
 refine st3.seg 3 (
  sc rfl (xIdx rfl kS32 (tp rfl) (tp rfl) p6)<|sc rfl (zk rfl kT9 (tp rfl))<|sc rfl (oA rfl (tp rfl))<|.nil) [4] rfl [(0,0)] rfl iT (λ a8 w8 st8=>?_)
 refine wpList_nil (za (wp_ret ?_))
 exact st8.rsF (s:=0) 0 rfl rfl rfl iI (bxr h7) X5
def yN(x0:Reader):Option (Reader×Str):=
(xF x0 ([(⟨[97]⟩:Str),(⟨[98]⟩:Str),(⟨[99]⟩:Str),(⟨[97]⟩:Str),(⟨[98]⟩:Str)]:List Str)).bind λ v4=>
some (v4.1,v4.2)
theorem ww{x0:Reader}{r:Reader×Str}(h:yN x0=some r):FnS prog 164 (Ow.box (Ow.frz (α:=Reader))) ⟨x0⟩ [] ⟨r.1⟩ (.frz (dt r.2)):=by
 unfold yN at h
 refine fnSB (fn:=f164) 0 1 func164 rfl (oD rfl) rfl (λ M G w0 b0 a0 st0=>?_)
 refine st0.sq (sc rfl (oA rfl (zH (by decide)))<|.nil) [] rfl [(0,0)] rfl iT (λ a1 w1 st1=>wp_seq (wp_region_list ?_))
 refine st1.seg 2 (
  sc rfl (oM rfl (zD rfl))<|sc rfl (yf (opds:=[_,_,_,_,_]) rfl kS32 kY32 rfl rfl (by decide) (.cons (zH (by decide)) (.cons (zH (by decide)) (.cons (zH (by decide)) (.cons (zH (by decide)) (.cons (zH (by decide)) .nil))))))<|.nil) [3,4] rfl [(0,0)] rfl iT (λ a2 w2 st2=>?_)
 obtain⟨v4,p4,h5⟩:=bs h
 refine st2.cSF (l:=[.tmp 4]) 0 (st2.bkN (s:=0) rfl iI) rfl rfl kN136 (Eq.trans (st2.st.has 3 _ rfl) (st2.st.has 0 _ rfl).1.symm) (by simp) (.cons (tp rfl) .nil) (Zc p4) [] rfl [] rfl rfl (by decide) (λ G3 M3 a3 w3 st3=>?_)
 refine st3.seg 1 (
  sc rfl (oA rfl (tp rfl))<|.nil) [2] rfl [(0,0)] rfl iT (λ a6 w6 st6=>?_)
 refine wpList_nil (za (wp_ret ?_))
 exact st6.rsF (s:=0) 0 rfl rfl rfl iI (bxr h5) X5
def qy(s13:Reader×Str×Int):Option ((Reader×Str×Int)⊕(Reader×Str)):=
if(cmpI .gtr s13.2.2 (0:Int))=true then((catO s13.2.1 (⟨[46]⟩:Str)).bind λ v18=>
(yN s13.1).bind λ v22=>
(catO v18 v22.2).bind λ v24=>
(i64 (s13.2.2 - (1:Int))).bind λ v27=>
some (.inl (v22.1,v24,v27)))
else(some (.inr (s13.1,s13.2.1)))
def jJ(x0:Reader):Option (Reader×Str):=
(yN x0).bind λ v4=>
Option.bind (α:=Reader×Str) ((ya v4.1 ([(0:Int),(1:Int),(0:Int),(1:Int),(2:Int)]:List Int)).bind λ v10=>
zF (λ s13=>qy s13) (v10.1,v4.2,v10.2)) λ o7=>
some (o7.1,o7.2)
theorem YX{x0:Reader}{r:Reader×Str}(h:jJ x0=some r):FnS prog 135 (Ow.box (Ow.frz (α:=Reader))) ⟨x0⟩ [] ⟨r.1⟩ (.frz (dt r.2)):=by
 unfold jJ at h
 refine fnSB (fn:=f135) 0 1 func135 rfl (oD rfl) rfl (λ M G w0 b0 a0 st0=>?_)
 refine st0.sq (sc rfl (oA rfl (zH (by decide)))<|.nil) [] rfl [(0,0)] rfl iT (λ a1 w1 st1=>wp_seq (wp_region_list ?_))
 refine st1.seg 1 (
  sc rfl (oM rfl (zD rfl))<|.nil) [5] rfl [(0,0)] rfl iT (λ a2 w2 st2=>?_)
 obtain⟨v4,p4,h5⟩:=bs h
 refine st2.cSF (l:=[]) 0 (st2.bkN (s:=0) rfl iI) rfl rfl JQ (Eq.trans (st2.st.has 5 _ rfl) (st2.st.has 0 _ rfl).1.symm) (by simp) .nil (ww p4) [] rfl [] rfl rfl (by decide) (λ G3 M3 a3 w3 st3=>?_)
 refine st3.seg 1 (
  sc rfl (oA rfl (tp rfl))<|.nil) [3] rfl [(0,0)] rfl iT (λ a6 w6 st6=>?_)
 refine wpList_nil (za ?_)
 obtain⟨o7,p7,k7⟩:=bs h5
 refine zj (λ a w=>∃ M1 q7_0,Sx (Frm.chg w0 G) 20 M M1 [q7_0] [(3,dt o7.2)] [(0,0,dnm (Ow.box (Ow.frz (α:=Reader))) q7_0 ⟨o7.1⟩ (.pointer (some ⟨b0,0,none⟩)) [])] a w) ?_ ?_
 ·
  refine wp_seq (wp_region_list ?_)
  refine st6.seg 2 (
   sc rfl (oM rfl (zD rfl))<|sc rfl (yf (opds:=[.const (.int .i64 0),.const (.int .i64 1),.const (.int .i64 0),.const (.int .i64 1),.const (.int .i64 2)]) rfl kS26 kY26 rfl rfl (by decide) (.cons cI (.cons cI (.cons cI (.cons cI (.cons cI .nil))))))<|.nil) [3,7,8] rfl [(0,0)] rfl iT (λ a8 w8 st8=>?_)
  obtain⟨v10,p10,h11⟩:=bs p7
  refine st8.cSF (l:=[.tmp 8]) 0 (st8.bkN (s:=0) rfl iI) rfl rfl kN73 (Eq.trans (st8.st.has 7 _ rfl) (st8.st.has 0 _ rfl).1.symm) (by simp) (.cons (tp rfl) .nil) (xk p10) [3] rfl [] rfl rfl (by decide) (λ G9 M9 a9 w9 st9=>?_)
  refine st9.seg 1 (
   sc rfl (oA rfl (tp rfl))<|.nil) [3,4] rfl [(0,0)] rfl iT (λ a12 w12 st12=>?_)
  refine wpList_nil (za (wp_block ?_))
  refine zB h11 (λ s13 a w=>∃ M1 q13_0,Sx (Frm.chg w0 G) 20 M M1 [q13_0] [(3,dt s13.2.1),(4,dt s13.2.2)] [(0,0,dnm (Ow.box (Ow.frz (α:=Reader))) q13_0 ⟨s13.1⟩ (.pointer (some ⟨b0,0,none⟩)) [])] a w) ⟨_,_,st12.sel [3,4] rfl [(0,0)] rfl iT⟩ ?_
  rintro s13 z13 a13 w13 ⟨M13,q13_0,st13⟩ hs13 hx13
  have h14:qy s13=some z13:=hs13
  unfold qy at h14
  refine wp_seq ?_
  refine st13.sq (sc rfl (oM rfl (tp rfl))<|sc rfl (oCI rfl (tp rfl) cI)<|.nil) [3,4,11] rfl [(0,0)] rfl iT (λ a15 w15 st15=>?_)
  refine st15.cs (c:=11) rfl h14 (λ c16 h16=>?_) (λ c17 h17=>?_)
  ·
   refine wp_skip (za (wp_seq (wp_block (wp_region_list ?_))))
   obtain⟨v18,p18,h19⟩:=bs h16
   refine st15.seg 3 (
     sc rfl (oM rfl (tp rfl))<|sc rfl (xCat rfl (tp rfl) (zH (by decide)) p18)<|sc rfl (oM rfl (zD rfl))<|.nil) [3,4,15,16] rfl [(0,0)] rfl iT (λ a20 w20 st20=>?_)
   obtain⟨v22,p22,h23⟩:=bs h19
   refine st20.cSF (l:=[]) 0 (st20.bkN (s:=0) rfl iI) rfl rfl JQ (Eq.trans (st20.st.has 16 _ rfl) (st20.st.has 0 _ rfl).1.symm) (by simp) .nil (ww p22) [3,4,15] rfl [] rfl rfl (by decide) (λ G21 M21 a21 w21 st21=>?_)
   obtain⟨v24,p24,h25⟩:=bs h23
   refine st21.seg 2 (
     sc rfl (xCat rfl (tp rfl) (tp rfl) p24)<|sc rfl (oA rfl (tp rfl))<|.nil) [3,4] rfl [(0,0)] rfl iT (λ a26 w26 st26=>?_)
   refine wpList_nil (ze (za ?_))
   obtain⟨v27,p27,h28⟩:=bs h25
   refine st26.rg (sc rfl (oM rfl (tp rfl))<|sc rfl (xAr rfl (tp rfl) cI p27)<|sc rfl (oA rfl (tp rfl))<|.nil) [3,4] rfl [(0,0)] rfl iT (λ a29 w29 st29=>za ?_)
   exact⟨_,(Option.some.inj h28).symm,⟨_,_,st29.sel [3,4] rfl [(0,0)] rfl iT⟩⟩
  refine wp_exit (zh (zh (zv ?_)))
  refine za ?_
  have h30:=lo h17 hx13
  obtain rfl:=Option.some.inj h30
  exact⟨_,_,st15.sel [3] rfl [(0,0)] rfl iT⟩
 rintro a7 w7 ⟨M7,q7_0,st7⟩
 have h31:=k7
 refine st7.sq (sc rfl (oM rfl (tp rfl))<|sc rfl (oA rfl (tp rfl))<|.nil) [2] rfl [(0,0)] rfl iT (λ a32 w32 st32=>wp_ret ?_)
 exact st32.rsF (s:=0) 0 rfl rfl rfl iI (bxr h31) X5
def qV(x0:Reader):Option (Reader×Str):=
(jJ x0).bind λ v4=>
(zA v4.1 (20:Int)).bind λ v9=>
if(cmpI .eql v9.2 (0:Int))=true then((catO v4.2 (⟨[46]⟩:Str)).bind λ v14=>
some (v9.1,v14))
else(if(cmpI .eql v9.2 (1:Int))=true then((xF v9.1 ([(⟨[]⟩:Str),(⟨[97,46,46,98]⟩:Str),(⟨[97,46,98,46,99,46,100]⟩:Str),(⟨[65]⟩:Str),(⟨[97,98,99,100]⟩:Str)]:List Str)).bind λ v22=>
some (v22.1,v22.2))
else(some (v9.1,v4.2)))
theorem zbx{x0:Reader}{r:Reader×Str}(h:qV x0=some r):FnS prog 107 (Ow.box (Ow.frz (α:=Reader))) ⟨x0⟩ [] ⟨r.1⟩ (.frz (dt r.2)):=by
 unfold qV at h
 refine fnSB (fn:=f107) 0 1 func107 rfl (oD rfl) rfl (λ M G w0 b0 a0 st0=>?_)
 refine st0.sq (sc rfl (oA rfl (zH (by decide)))<|.nil) [] rfl [(0,0)] rfl iT (λ a1 w1 st1=>wp_seq (wp_region_list ?_))
 refine st1.seg 1 (
  sc rfl (oM rfl (zD rfl))<|.nil) [4] rfl [(0,0)] rfl iT (λ a2 w2 st2=>?_)
 obtain⟨v4,p4,h5⟩:=bs h
 refine st2.cSF (l:=[]) 0 (st2.bkN (s:=0) rfl iI) rfl rfl kN135 (Eq.trans (st2.st.has 4 _ rfl) (st2.st.has 0 _ rfl).1.symm) (by simp) .nil (YX p4) [] rfl [] rfl rfl (by decide) (λ G3 M3 a3 w3 st3=>?_)
 refine st3.seg 1 (
  sc rfl (oA rfl (tp rfl))<|.nil) [3] rfl [(0,0)] rfl iT (λ a6 w6 st6=>?_)
 refine wpList_nil (za (wp_seq (wp_seq (wp_region_list ?_))))
 refine st6.seg 1 (
  sc rfl (oM rfl (zD rfl))<|.nil) [3,6] rfl [(0,0)] rfl iT (λ a7 w7 st7=>?_)
 obtain⟨v9,p9,h10⟩:=bs h5
 refine st7.cSF (l:=[.const (.int .i64 20)]) 0 (st7.bkN (s:=0) rfl iI) rfl rfl kN70 (Eq.trans (st7.st.has 6 _ rfl) (st7.st.has 0 _ rfl).1.symm) (by simp) (.cons cI .nil) (zE p9) [3] rfl [] rfl rfl (by decide) (λ G8 M8 a8 w8 st8=>wpList_nil (za (wp_block ?_)))
 refine st8.sq (sc rfl (oCI rfl (tp rfl) cI)<|sc rfl (oA rfl (tp rfl))<|.nil) [3,7,8] rfl [(0,0)] rfl iT (λ a11 w11 st11=>?_)
 refine st11.cs (c:=8) rfl h10 (λ c12 h12=>?_) (λ c13 h13=>?_)
 ·
  obtain⟨v14,p14,h15⟩:=bs h12
  refine st11.sq (sc rfl (oM rfl (tp rfl))<|sc rfl (xCat rfl (tp rfl) (zH (by decide)) p14)<|sc rfl (oA rfl (tp rfl))<|.nil) [2] rfl [(0,0)] rfl iT (λ a16 w16 st16=>wp_ret (zt (zd ?_)))
  exact st16.rsF (s:=0) 0 rfl rfl rfl iI (bxr h15) X5
 refine st11.sq (sc rfl (oCI rfl (tp rfl) cI)<|sc rfl (oA rfl (tp rfl))<|.nil) [3,12] rfl [(0,0)] rfl iT (λ a17 w17 st17=>?_)
 refine st17.cs (c:=12) rfl h13 (λ c18 h18=>?_) (λ c19 h19=>?_)
 ·
  refine wp_seq (wp_region_list ?_)
  refine st17.seg 2 (
   sc rfl (oM rfl (zD rfl))<|sc rfl (yf (opds:=[_,_,_,_,_]) rfl kS32 kY32 rfl rfl (by decide) (.cons (zH (by decide)) (.cons (zH (by decide)) (.cons (zH (by decide)) (.cons (zH (by decide)) (.cons (zH (by decide)) .nil))))))<|.nil) [14,15] rfl [(0,0)] rfl iT (λ a20 w20 st20=>?_)
  obtain⟨v22,p22,h23⟩:=bs h18
  refine st20.cSF (l:=[.tmp 15]) 0 (st20.bkN (s:=0) rfl iI) rfl rfl kN136 (Eq.trans (st20.st.has 14 _ rfl) (st20.st.has 0 _ rfl).1.symm) (by simp) (.cons (tp rfl) .nil) (Zc p22) [] rfl [] rfl rfl (by decide) (λ G21 M21 a21 w21 st21=>?_)
  refine st21.seg 1 (
   sc rfl (oA rfl (tp rfl))<|.nil) [2] rfl [(0,0)] rfl iT (λ a24 w24 st24=>?_)
  refine wpList_nil (za ?_)
  refine wp_ret (zt (zd ?_))
  exact st24.rsF (s:=0) 0 rfl rfl rfl iI (bxr h23) X5
 refine wp_skip (ze (za ?_))
 refine st17.sq (sc rfl (oM rfl (tp rfl))<|sc rfl (oA rfl (tp rfl))<|.nil) [2] rfl [(0,0)] rfl iT (λ a25 w25 st25=>wp_ret ?_)
 exact st25.rsF (s:=0) 0 rfl rfl rfl iI (bxr h19) X5
def qz(x0:Reader):Option (Reader×Stmt):=
(zA x0 (9:Int)).bind λ v5=>
Option.bind (α:=Bool) (if(cmpI .eql v5.2 (0:Int))=true then(some (cmpI .eql v5.2 (0:Int)))
else(some (cmpI .eql v5.2 (1:Int)))) λ o7=>
if o7=true then((jJ v5.1).bind λ v17=>
some (v17.1,(⟨(0:Int),v17.2,0,⟨[]⟩,0⟩:Stmt)))
else(if(cmpI .eql v5.2 (2:Int))=true then((ya v5.1 ([(0:Int),(1:Int),(2:Int),(1:Int)]:List Int)).bind λ v27=>
(jJ v27.1).bind λ v32=>
Option.bind (α:=Reader×Str) ((gO (cmpI .gtr v27.2 (0:Int) == true) (zA v32.1 (2:Int))).bind λ v38=>
if(cmpI .gtr v27.2 (0:Int)&&cmpI .eql v38.2 (0:Int))=true then(some ((if(cmpI .gtr v27.2 (0:Int) == true)=true then v38.1 else v32.1),(⟨[]⟩:Str)))
else(some ((if(cmpI .gtr v27.2 (0:Int) == true)=true then v38.1 else v32.1),v32.2))) λ o35=>
(yN o35.1).bind λ v47=>
some (v47.1,(⟨(1:Int),o35.2,v27.2,v47.2,0⟩:Stmt)))
else(if(cmpI .eql v5.2 (3:Int))=true then((jJ v5.1).bind λ v57=>
some (v57.1,(⟨(2:Int),v57.2,0,⟨[]⟩,0⟩:Stmt)))
else(Option.bind (α:=Bool) (if(cmpI .eql v5.2 (4:Int))=true then(some (cmpI .eql v5.2 (4:Int)))
else(if(cmpI .eql v5.2 (5:Int))=true then(some (cmpI .eql v5.2 (5:Int)))
else(some (cmpI .eql v5.2 (6:Int))))) λ o62=>
if o62=true then((xF v5.1 ([(⟨[120]⟩:Str),(⟨[121]⟩:Str),(⟨[122]⟩:Str),(⟨[97]⟩:Str)]:List Str)).bind λ v75=>
(zA v75.1 (100:Int)).bind λ v79=>
some (v79.1,(⟨(3:Int),⟨[]⟩,0,v75.2,v79.2⟩:Stmt)))
else(if(cmpI .eql v5.2 (7:Int))=true then((xF v5.1 ([(⟨[120]⟩:Str),(⟨[121]⟩:Str),(⟨[97]⟩:Str),(⟨[98]⟩:Str),(⟨[120]⟩:Str)]:List Str)).bind λ v89=>
some (v89.1,(⟨(4:Int),⟨[]⟩,0,v89.2,0⟩:Stmt)))
else((zA v5.1 (3:Int)).bind λ v96=>
if(cmpI .eql v96.2 (0:Int))=true then(some (v96.1,(⟨(5:Int),⟨[]⟩,0,⟨[]⟩,0⟩:Stmt)))
else((zA v96.1 (100:Int)).bind λ v106=>
some (v106.1,(⟨(3:Int),⟨[]⟩,0,(⟨[120]⟩:Str),v106.2⟩:Stmt))))))))
theorem za8{x0:Reader}{r:Reader×Stmt}(h:qz x0=some r):FnS prog 187 (Ow.box (Ow.frz (α:=Reader))) ⟨x0⟩ [] ⟨r.1⟩ (.frz (dt r.2)):=by
 unfold qz at h
 refine fnSB (fn:=f187) 0 2 func187 rfl (oD rfl) rfl (λ M G w0 b0 a0 st0=>wp_seq (wp_region_list ?_))
 refine st0.alloc 1 rfl rfl kZ82 zrStmt (by simp) [] rfl [0] rfl rfl (λ b2 M2 a2 w2 st2=>wpList_nil (za (wp_seq (wp_seq (wp_region_list ?_)))))
 refine st2.seg 1 (
  sc rfl (oM rfl (zD rfl))<|.nil) [5] rfl [(0,0),(2,1)] rfl ⟨iI,iT⟩ (λ a3 w3 st3=>?_)
 obtain⟨v5,p5,h6⟩:=bs h
 refine st3.cSF (l:=[.const (.int .i64 9)]) 0 (st3.bkN (s:=0) rfl iI) rfl rfl kN70 (Eq.trans (st3.st.has 5 _ rfl) (st3.st.has 0 _ rfl).1.symm) (by simp) (.cons cI .nil) (zE p5) [] rfl [2] rfl rfl (by decide) (λ G4 M4 a4 w4 st4=>wpList_nil (za (wp_block ?_)))
 obtain⟨o7,p7,k7⟩:=bs h6
 refine zj (λ a w=>∃ M1 q7_0 q7_1,Sx (Frm.chg w0 G) 60 M M1 [q7_0,oneB q7_1] [(6,dt v5.2),(7,dt o7)] [(2,1,dbox q7_1 0 zStmt),(0,0,dnm (Ow.box (Ow.frz (α:=Reader))) q7_0 ⟨v5.1⟩ (.pointer (some ⟨b0,0,none⟩)) [])] a w) ?_ ?_
 ·
  refine st4.sq (sc rfl (oCI rfl (tp rfl) cI)<|sc rfl (oA rfl (tp rfl))<|.nil) [6,7] rfl [(0,0),(2,1)] rfl ⟨iI,iT⟩ (λ a8 w8 st8=>?_)
  refine st8.cs (c:=7) rfl p7 (λ c9 h9=>?_) (λ c10 h10=>?_)
  ·
   refine wp_skip (za ?_)
   obtain rfl:=Option.some.inj h9
   exact⟨_,_,_,st8.sel [6,7] rfl [(2,1),(0,0)] rfl ⟨iI,iT⟩⟩
  refine st8.rg (sc rfl (oCI rfl (tp rfl) cI)<|sc rfl (oA rfl (tp rfl))<|.nil) [6,7] rfl [(0,0),(2,1)] rfl ⟨iI,iT⟩ (λ a11 w11 st11=>za ?_)
  obtain rfl:=Option.some.inj h10
  exact⟨_,_,_,st11.sel [6,7] rfl [(2,1),(0,0)] rfl ⟨iI,iT⟩⟩
 rintro a7 w7 ⟨M7,q7_0,q7_1,st7⟩
 have h12:=k7
 refine st7.cs (c:=7) rfl h12 (λ c13 h13=>?_) (λ c14 h14=>?_)
 ·
  refine wp_seq (wp_region_list ?_)
  refine st7.seg 1 (
   sc rfl (oM rfl (zD rfl))<|.nil) [10] rfl [(0,0),(2,1)] rfl ⟨iI,iT⟩ (λ a15 w15 st15=>?_)
  obtain⟨v17,p17,h18⟩:=bs h13
  refine st15.cSF (l:=[]) 0 (st15.bkN (s:=0) rfl iI) rfl rfl kN135 (Eq.trans (st15.st.has 10 _ rfl) (st15.st.has 0 _ rfl).1.symm) (by simp) .nil (YX p17) [] rfl [2] rfl rfl (by decide) (λ G16 M16 a16 w16 st16=>?_)
  refine st16.seg 1 (
   sc rfl (kD82_0_1 rfl cI (tp rfl))<|.nil) [12] rfl [(0,0),(2,1)] rfl ⟨iI,iT⟩ (λ a19 w19 st19=>?_)
  refine st19.store (sb:=2) 1 FldS.id rfl rfl rfl kT82 rfl rfl (tp rfl) rfl [] rfl [0] rfl rfl (λ M21 w21 st21=>wpList_nil (za ?_))
  refine wp_ret (zt (zd ?_))
  exact st21.rsC (s:=0) 0 rfl kT82 rfl rfl iI (bxr h18)
 refine st7.sq (sc rfl (oCI rfl (tp rfl) cI)<|sc rfl (oA rfl (tp rfl))<|.nil) [6,13] rfl [(0,0),(2,1)] rfl ⟨iI,iT⟩ (λ a22 w22 st22=>?_)
 refine st22.cs (c:=13) rfl h14 (λ c23 h23=>?_) (λ c24 h24=>?_)
 ·
  refine wp_seq (wp_region_list ?_)
  refine st22.seg 2 (
   sc rfl (oM rfl (zD rfl))<|sc rfl (yf (opds:=[.const (.int .i64 0),.const (.int .i64 1),.const (.int .i64 2),.const (.int .i64 1)]) rfl kS26 kY26 rfl rfl (by decide) (.cons cI (.cons cI (.cons cI (.cons cI .nil)))))<|.nil) [15,16] rfl [(0,0),(2,1)] rfl ⟨iI,iT⟩ (λ a25 w25 st25=>?_)
  obtain⟨v27,p27,h28⟩:=bs h23
  refine st25.cSF (l:=[.tmp 16]) 0 (st25.bkN (s:=0) rfl iI) rfl rfl kN73 (Eq.trans (st25.st.has 15 _ rfl) (st25.st.has 0 _ rfl).1.symm) (by simp) (.cons (tp rfl) .nil) (xk p27) [] rfl [2] rfl rfl (by decide) (λ G26 M26 a26 w26 st26=>?_)
  refine st26.seg 1 (
   sc rfl (oA rfl (tp rfl))<|.nil) [3] rfl [(0,0),(2,1)] rfl ⟨iI,iT⟩ (λ a29 w29 st29=>?_)
  refine wpList_nil (za (wp_seq (wp_region_list ?_)))
  refine st29.seg 1 (
   sc rfl (oM rfl (zD rfl))<|.nil) [3,18] rfl [(0,0),(2,1)] rfl ⟨iI,iT⟩ (λ a30 w30 st30=>?_)
  obtain⟨v32,p32,h33⟩:=bs h28
  refine st30.cSF (l:=[]) 0 (st30.bkN (s:=0) rfl iI) rfl rfl kN135 (Eq.trans (st30.st.has 18 _ rfl) (st30.st.has 0 _ rfl).1.symm) (by simp) .nil (YX p32) [3] rfl [2] rfl rfl (by decide) (λ G31 M31 a31 w31 st31=>?_)
  refine st31.seg 1 (
   sc rfl (oA rfl (tp rfl))<|.nil) [3,4] rfl [(0,0),(2,1)] rfl ⟨iI,iT⟩ (λ a34 w34 st34=>?_)
  refine wpList_nil (za ?_)
  obtain⟨o35,p35,k35⟩:=bs h33
  refine zj (λ a w=>∃ M1 q35_0 q35_1,Sx (Frm.chg w0 G) 60 M M1 [q35_0,oneB q35_1] [(3,dt v27.2),(4,dt o35.2)] [(2,1,dbox q35_1 0 zStmt),(0,0,dnm (Ow.box (Ow.frz (α:=Reader))) q35_0 ⟨o35.1⟩ (.pointer (some ⟨b0,0,none⟩)) [])] a w) ?_ ?_
  ·
   refine wp_seq (wp_region_list ?_)
   refine st34.seg 4 (
    sc rfl (oM rfl (tp rfl))<|sc rfl (oCI rfl (tp rfl) cI)<|sc rfl (oM rfl (tp rfl))<|sg rfl rfl (λ hg=>oM rfl (zD rfl))<|.nil) [3,4,22,23] rfl [(0,0),(2,1)] rfl ⟨iI,iT⟩ (λ a36 w36 st36=>?_)
   obtain⟨v38,p38,h39⟩:=bs p35
   refine st36.cSFgB (sb:=0) (l:=[.const (.int .i64 2)]) 0 rfl iI rfl rfl rfl kN70 (λ hg=>(st36.st.has 23 _ rfl).1 hg) (by simp) (λ hg=>(.cons cI .nil)) (λ hg=>zE (gh hg p38)) [3,4,22] rfl [2] rfl rfl (by decide) (λ G37 M37 a37 w37 st37=>?_)
   refine st37.seg 2 (
    sg rfl rfl (λ hg=>oCI rfl (zi hg rfl) cI)<|sc rfl (ym rfl (tp rfl) (zb rfl))<|.nil) [3,4,26] rfl [(0,0),(2,1)] rfl ⟨iI,iT⟩ (λ a40 w40 st40=>?_)
   refine wpList_nil (za ?_)
   refine st40.cs (c:=26) rfl h39 (λ c41 h41=>?_) (λ c42 h42=>?_)
   ·
    refine st40.rg (sc rfl (oA rfl (zH (by decide)))<|.nil) [3,4] rfl [(0,0),(2,1)] rfl ⟨iI,iT⟩ (λ a43 w43 st43=>za ?_)
    obtain rfl:=Option.some.inj h41
    exact⟨_,_,_,st43.sel [3,4] rfl [(2,1),(0,0)] rfl ⟨iI,iT⟩⟩
   refine wp_skip (za ?_)
   obtain rfl:=Option.some.inj h42
   exact⟨_,_,_,st40.sel [3,4] rfl [(2,1),(0,0)] rfl ⟨iI,iT⟩⟩
  rintro a35 w35 ⟨M35,q35_0,q35_1,st35⟩
  have h44:=k35
  refine wp_seq (wp_region_list ?_)
  refine st35.seg 3 (
   sc rfl (oM rfl (tp rfl))<|sc rfl (oM rfl (tp rfl))<|sc rfl (oM rfl (zD rfl))<|.nil) [27,28,29] rfl [(0,0),(2,1)] rfl ⟨iI,iT⟩ (λ a45 w45 st45=>?_)
  obtain⟨v47,p47,h48⟩:=bs h44
  refine st45.cSF (l:=[]) 0 (st45.bkN (s:=0) rfl iI) rfl rfl JQ (Eq.trans (st45.st.has 29 _ rfl) (st45.st.has 0 _ rfl).1.symm) (by simp) .nil (ww p47) [27,28] rfl [2] rfl rfl (by decide) (λ G46 M46 a46 w46 st46=>?_)
  refine st46.seg 1 (
   sc rfl (kD82_0_1_2_3 rfl cI (tp rfl) (tp rfl) (tp rfl))<|.nil) [31] rfl [(0,0),(2,1)] rfl ⟨iI,iT⟩ (λ a49 w49 st49=>?_)
  refine st49.store (sb:=2) 1 FldS.id rfl rfl rfl kT82 rfl rfl (tp rfl) rfl [] rfl [0] rfl rfl (λ M51 w51 st51=>wpList_nil (za ?_))
  refine wp_ret (zt (zd ?_))
  exact st51.rsC (s:=0) 0 rfl kT82 rfl rfl iI (bxr h48)
 refine st22.sq (sc rfl (oCI rfl (tp rfl) cI)<|sc rfl (oA rfl (tp rfl))<|.nil) [6,32] rfl [(0,0),(2,1)] rfl ⟨iI,iT⟩ (λ a52 w52 st52=>?_)
 refine st52.cs (c:=32) rfl h24 (λ c53 h53=>?_) (λ c54 h54=>?_)
 ·
  refine wp_seq (wp_region_list ?_)
  refine st52.seg 1 (
   sc rfl (oM rfl (zD rfl))<|.nil) [34] rfl [(0,0),(2,1)] rfl ⟨iI,iT⟩ (λ a55 w55 st55=>?_)
  obtain⟨v57,p57,h58⟩:=bs h53
  refine st55.cSF (l:=[]) 0 (st55.bkN (s:=0) rfl iI) rfl rfl kN135 (Eq.trans (st55.st.has 34 _ rfl) (st55.st.has 0 _ rfl).1.symm) (by simp) .nil (YX p57) [] rfl [2] rfl rfl (by decide) (λ G56 M56 a56 w56 st56=>?_)
  refine st56.seg 1 (
   sc rfl (kD82_0_1 rfl cI (tp rfl))<|.nil) [36] rfl [(0,0),(2,1)] rfl ⟨iI,iT⟩ (λ a59 w59 st59=>?_)
  refine st59.store (sb:=2) 1 FldS.id rfl rfl rfl kT82 rfl rfl (tp rfl) rfl [] rfl [0] rfl rfl (λ M61 w61 st61=>wpList_nil (za ?_))
  refine wp_ret (zt (zd ?_))
  exact st61.rsC (s:=0) 0 rfl kT82 rfl rfl iI (bxr h58)
 obtain⟨o62,p62,k62⟩:=bs h54
 refine zj (λ a w=>∃ M1 q62_0 q62_1,Sx (Frm.chg w0 G) 60 M M1 [q62_0,oneB q62_1] [(6,dt v5.2),(37,dt o62)] [(2,1,dbox q62_1 0 zStmt),(0,0,dnm (Ow.box (Ow.frz (α:=Reader))) q62_0 ⟨v5.1⟩ (.pointer (some ⟨b0,0,none⟩)) [])] a w) ?_ ?_
 ·
  refine st52.sq (sc rfl (oCI rfl (tp rfl) cI)<|sc rfl (oA rfl (tp rfl))<|.nil) [6,37] rfl [(0,0),(2,1)] rfl ⟨iI,iT⟩ (λ a63 w63 st63=>?_)
  refine st63.cs (c:=37) rfl p62 (λ c64 h64=>?_) (λ c65 h65=>?_)
  ·
   refine wp_skip (za ?_)
   obtain rfl:=Option.some.inj h64
   exact⟨_,_,_,st63.sel [6,37] rfl [(2,1),(0,0)] rfl ⟨iI,iT⟩⟩
  refine st63.sq (sc rfl (oCI rfl (tp rfl) cI)<|sc rfl (oA rfl (tp rfl))<|.nil) [6,37] rfl [(0,0),(2,1)] rfl ⟨iI,iT⟩ (λ a66 w66 st66=>?_)
  refine st66.cs (c:=37) rfl h65 (λ c67 h67=>?_) (λ c68 h68=>?_)
  ·
   refine wp_skip (za ?_)
   obtain rfl:=Option.some.inj h67
   exact⟨_,_,_,st66.sel [6,37] rfl [(2,1),(0,0)] rfl ⟨iI,iT⟩⟩
  refine st66.rg (sc rfl (oCI rfl (tp rfl) cI)<|sc rfl (oA rfl (tp rfl))<|.nil) [6,37] rfl [(0,0),(2,1)] rfl ⟨iI,iT⟩ (λ a69 w69 st69=>za ?_)
  obtain rfl:=Option.some.inj h68
  exact⟨_,_,_,st69.sel [6,37] rfl [(2,1),(0,0)] rfl ⟨iI,iT⟩⟩
 rintro a62 w62 ⟨M62,q62_0,q62_1,st62⟩
 have h70:=k62
 refine st62.cs (c:=37) rfl h70 (λ c71 h71=>?_) (λ c72 h72=>?_)
 ·
  refine wp_seq (wp_region_list ?_)
  refine st62.seg 2 (
   sc rfl (oM rfl (zD rfl))<|sc rfl (yf (opds:=[_,_,_,_]) rfl kS32 kY32 rfl rfl (by decide) (.cons (zH (by decide)) (.cons (zH (by decide)) (.cons (zH (by decide)) (.cons (zH (by decide)) .nil)))))<|.nil) [41,42] rfl [(0,0),(2,1)] rfl ⟨iI,iT⟩ (λ a73 w73 st73=>?_)
  obtain⟨v75,p75,h76⟩:=bs h71
  refine st73.cSF (l:=[.tmp 42]) 0 (st73.bkN (s:=0) rfl iI) rfl rfl kN136 (Eq.trans (st73.st.has 41 _ rfl) (st73.st.has 0 _ rfl).1.symm) (by simp) (.cons (tp rfl) .nil) (Zc p75) [] rfl [2] rfl rfl (by decide) (λ G74 M74 a74 w74 st74=>?_)
  refine st74.seg 1 (
   sc rfl (oM rfl (zD rfl))<|.nil) [43,44] rfl [(0,0),(2,1)] rfl ⟨iI,iT⟩ (λ a77 w77 st77=>?_)
  obtain⟨v79,p79,h80⟩:=bs h76
  refine st77.cSF (l:=[.const (.int .i64 100)]) 0 (st77.bkN (s:=0) rfl iI) rfl rfl kN70 (Eq.trans (st77.st.has 44 _ rfl) (st77.st.has 0 _ rfl).1.symm) (by simp) (.cons cI .nil) (zE p79) [43] rfl [2] rfl rfl (by decide) (λ G78 M78 a78 w78 st78=>?_)
  refine st78.seg 1 (
   sc rfl (Wz rfl cI (tp rfl) (tp rfl))<|.nil) [46] rfl [(0,0),(2,1)] rfl ⟨iI,iT⟩ (λ a81 w81 st81=>?_)
  refine st81.store (sb:=2) 1 FldS.id rfl rfl rfl kT82 rfl rfl (tp rfl) rfl [] rfl [0] rfl rfl (λ M83 w83 st83=>wpList_nil (za ?_))
  refine wp_ret (zt (zd ?_))
  exact st83.rsC (s:=0) 0 rfl kT82 rfl rfl iI (bxr h80)
 refine st62.sq (sc rfl (oCI rfl (tp rfl) cI)<|sc rfl (oA rfl (tp rfl))<|.nil) [47] rfl [(0,0),(2,1)] rfl ⟨iI,iT⟩ (λ a84 w84 st84=>?_)
 refine st84.cs (c:=47) rfl h72 (λ c85 h85=>?_) (λ c86 h86=>?_)
 ·
  refine wp_seq (wp_region_list ?_)
  refine st84.seg 2 (
   sc rfl (oM rfl (zD rfl))<|sc rfl (yf (opds:=[_,_,_,_,_]) rfl kS32 kY32 rfl rfl (by decide) (.cons (zH (by decide)) (.cons (zH (by decide)) (.cons (zH (by decide)) (.cons (zH (by decide)) (.cons (zH (by decide)) .nil))))))<|.nil) [49,50] rfl [(0,0),(2,1)] rfl ⟨iI,iT⟩ (λ a87 w87 st87=>?_)
  obtain⟨v89,p89,h90⟩:=bs h85
  refine st87.cSF (l:=[.tmp 50]) 0 (st87.bkN (s:=0) rfl iI) rfl rfl kN136 (Eq.trans (st87.st.has 49 _ rfl) (st87.st.has 0 _ rfl).1.symm) (by simp) (.cons (tp rfl) .nil) (Zc p89) [] rfl [2] rfl rfl (by decide) (λ G88 M88 a88 w88 st88=>?_)
  refine st88.seg 1 (
   sc rfl (kD82_0_3 rfl cI (tp rfl))<|.nil) [52] rfl [(0,0),(2,1)] rfl ⟨iI,iT⟩ (λ a91 w91 st91=>?_)
  refine st91.store (sb:=2) 1 FldS.id rfl rfl rfl kT82 rfl rfl (tp rfl) rfl [] rfl [0] rfl rfl (λ M93 w93 st93=>wpList_nil (za ?_))
  refine wp_ret (zt (zd ?_))
  exact st93.rsC (s:=0) 0 rfl kT82 rfl rfl iI (bxr h90)
 refine wp_skip (ze (za (wp_seq (wp_seq (wp_region_list ?_)))))
 refine st84.seg 1 (
  sc rfl (oM rfl (zD rfl))<|.nil) [53] rfl [(0,0),(2,1)] rfl ⟨iI,iT⟩ (λ a94 w94 st94=>?_)
 obtain⟨v96,p96,h97⟩:=bs h86
 refine st94.cSF (l:=[.const (.int .i64 3)]) 0 (st94.bkN (s:=0) rfl iI) rfl rfl kN70 (Eq.trans (st94.st.has 53 _ rfl) (st94.st.has 0 _ rfl).1.symm) (by simp) (.cons cI .nil) (zE p96) [] rfl [2] rfl rfl (by decide) (λ G95 M95 a95 w95 st95=>?_)
 refine st95.seg 1 (
  sc rfl (oCI rfl (tp rfl) cI)<|.nil) [55] rfl [(0,0),(2,1)] rfl ⟨iI,iT⟩ (λ a98 w98 st98=>?_)
 refine wpList_nil (za ?_)
 refine st98.cs (c:=55) rfl h97 (λ c99 h99=>?_) (λ c100 h100=>?_)
 ·
  refine wp_seq (wp_region_list ?_)
  refine st98.seg 1 (
   sc rfl (kD82_0 rfl cI)<|.nil) [56] rfl [(0,0),(2,1)] rfl ⟨iI,iT⟩ (λ a101 w101 st101=>?_)
  refine st101.store (sb:=2) 1 FldS.id rfl rfl rfl kT82 rfl rfl (tp rfl) rfl [] rfl [0] rfl rfl (λ M103 w103 st103=>wpList_nil (za ?_))
  refine wp_ret (zd ?_)
  exact st103.rsC (s:=0) 0 rfl kT82 rfl rfl iI (bxr h99)
 refine wp_skip (za (wp_seq (wp_region_list ?_)))
 refine st98.seg 1 (
  sc rfl (oM rfl (zD rfl))<|.nil) [57] rfl [(0,0),(2,1)] rfl ⟨iI,iT⟩ (λ a104 w104 st104=>?_)
 obtain⟨v106,p106,h107⟩:=bs h100
 refine st104.cSF (l:=[.const (.int .i64 100)]) 0 (st104.bkN (s:=0) rfl iI) rfl rfl kN70 (Eq.trans (st104.st.has 57 _ rfl) (st104.st.has 0 _ rfl).1.symm) (by simp) (.cons cI .nil) (zE p106) [] rfl [2] rfl rfl (by decide) (λ G105 M105 a105 w105 st105=>?_)
 refine st105.seg 1 (
  sc rfl (Wz rfl cI (zH (by decide)) (tp rfl))<|.nil) [59] rfl [(0,0),(2,1)] rfl ⟨iI,iT⟩ (λ a108 w108 st108=>?_)
 refine st108.store (sb:=2) 1 FldS.id rfl rfl rfl kT82 rfl rfl (tp rfl) rfl [] rfl [0] rfl rfl (λ M110 w110 st110=>wpList_nil (za (wp_ret ?_)))
 exact st110.rsC (s:=0) 0 rfl kT82 rfl rfl iI (bxr h107)
open Go.RowKit Tryz
set_option maxRecDepth 10000
set_option maxHeartbeats 1600000
theorem kN187:fnB prog 187=true:=by kernel_rfl
theorem kY83:zlB prog 83=true:=by kernel_rfl
theorem kN179:fnB prog 179=true:=by kernel_rfl
theorem kB25:bldB prog 25 [1]=true:=by kernel_rfl
theorem kC25:YI prog 25 [1]=some zpTree:=by kernel_rfl
theorem kN163:fnB prog 163=true:=by kernel_rfl
theorem kN77:fnB prog 77=true:=by kernel_rfl
theorem kI23:sliB prog 23 86 6=true:=by kernel_rfl
theorem kY23:zlB prog 23=true:=by kernel_rfl
def wt(v5:Reader×Int)(s14:Reader×(List Stmt)×Int):Option ((Reader×(List Stmt)×Int)⊕(Reader×(List Stmt))):=
if(cmpI .gtr s14.2.2 (0:Int))=true then((qz s14.1).bind λ v21=>
Option.bind (α:=Reader×Stmt) (if(cmpI .eql v5.2 (0:Int)&&((cmpI .eql v21.2.kind (1:Int)||cmpI .eql v21.2.kind (4:Int))||cmpI .eql v21.2.kind (5:Int)))=true then((zA v21.1 (100:Int)).bind λ v33=>
some (v33.1,(⟨(3:Int),⟨[]⟩,0,(⟨[121]⟩:Str),v33.2⟩:Stmt)))
else(some (v21.1,v21.2))) λ o27=>
(appO 56 s14.2.1 ([o27.2]:List Stmt)).bind λ v42=>
(i64 (s14.2.2 - (1:Int))).bind λ v45=>
some (.inl (o27.1,v42,v45)))
else(some (.inr (s14.1,s14.2.1)))
def qA(x0:Reader):Option (Reader×(List Stmt)):=
(zA x0 (2:Int)).bind λ v5=>
Option.bind (α:=Reader×(List Stmt)) ((ya v5.1 ([(2:Int),(1:Int),(3:Int),(0:Int),(4:Int)]:List Int)).bind λ v11=>
zF (λ s14=>wt v5 s14) (v11.1,[],v11.2)) λ o8=>
some (o8.1,o8.2)
theorem za9{x0:Reader}{r:Reader×(List Stmt)}(h:qA x0=some r):FnS prog 179 (Ow.box (Ow.frz (α:=Reader))) ⟨x0⟩ [] ⟨r.1⟩ (.ow (Ow.row 82 (Ow.frz (α:=Stmt))) r.2):=by
 unfold qA at h
 refine fnSB (fn:=f179) 1 3 func179 rfl (oD rfl) rfl (λ M G w0 b0 a0 st0=>?_)
 refine st0.sq (sc rfl (oA rfl (yq (α:=Stmt) (e:=82)))<|.nil) [] rfl [(0,1)] rfl iT (λ a1 w1 st1=>?_)
 refine st1.sq (sc rfl (yL (α:=Stmt) (e:=82) rfl kS83)<|sc rfl (oA rfl (tp rfl))<|.nil) [] rfl [(0,1),(3,0)] rfl ⟨iI,⟨iE,trivial⟩⟩ (λ a2 w2 st2=>wp_seq (wp_region_list ?_))
 refine st2.seg 1 (
  sc rfl (oM rfl (zD rfl))<|.nil) [8] rfl [(0,1),(3,0)] rfl ⟨iI,⟨iE,trivial⟩⟩ (λ a3 w3 st3=>?_)
 obtain⟨v5,p5,h6⟩:=bs h
 refine st3.cSF (l:=[.const (.int .i64 2)]) 1 (st3.bkN (s:=0) rfl iI) rfl rfl kN70 (Eq.trans (st3.st.has 8 _ rfl) (st3.st.has 0 _ rfl).1.symm) (by simp) (.cons cI .nil) (zE p5) [] rfl [3] rfl rfl (by decide) (λ G4 M4 a4 w4 st4=>?_)
 refine st4.seg 2 (
  sc rfl (oCI rfl (tp rfl) cI)<|sc rfl (oA rfl (tp rfl))<|.nil) [4] rfl [(0,1),(3,0)] rfl ⟨iI,⟨iE,trivial⟩⟩ (λ a7 w7 st7=>?_)
 refine wpList_nil (za ?_)
 obtain⟨o8,p8,k8⟩:=bs h6
 refine zj (λ a w=>∃ M1 q8_0 q8_1 q8_2,Sx (Frm.chg w0 G) 44 M M1 [oneB q8_0,q8_1,oneB q8_2] [] [(3,0,dtip q8_0 82 o8.2),(0,1,dnm (Ow.box (Ow.frz (α:=Reader))) q8_1 ⟨o8.1⟩ (.pointer (some ⟨b0,0,none⟩)) [])] a w) ?_ ?_
 ·
  refine wp_seq (wp_region_list ?_)
  refine st7.seg 2 (
   sc rfl (oM rfl (zD rfl))<|sc rfl (yf (opds:=[.const (.int .i64 2),.const (.int .i64 1),.const (.int .i64 3),.const (.int .i64 0),.const (.int .i64 4)]) rfl kS26 kY26 rfl rfl (by decide) (.cons cI (.cons cI (.cons cI (.cons cI (.cons cI .nil))))))<|.nil) [4,11,12] rfl [(0,1),(3,0)] rfl ⟨iI,⟨iE,trivial⟩⟩ (λ a9 w9 st9=>?_)
  obtain⟨v11,p11,h12⟩:=bs p8
  refine st9.cSF (l:=[.tmp 12]) 1 (st9.bkN (s:=0) rfl iI) rfl rfl kN73 (Eq.trans (st9.st.has 11 _ rfl) (st9.st.has 0 _ rfl).1.symm) (by simp) (.cons (tp rfl) .nil) (xk p11) [4] rfl [3] rfl rfl (by decide) (λ G10 M10 a10 w10 st10=>?_)
  refine st10.seg 1 (
   sc rfl (oA rfl (tp rfl))<|.nil) [4,5] rfl [(0,1),(3,0)] rfl ⟨iI,⟨iE,trivial⟩⟩ (λ a13 w13 st13=>?_)
  refine wpList_nil (za (wp_block ?_))
  refine zB h12 (λ s14 a w=>∃ M1 q14_0 q14_1 q14_2,Sx (Frm.chg w0 G) 44 M M1 [oneB q14_0,q14_1,oneB q14_2] [(4,dt (cmpI .eql v5.2 (0:Int))),(5,dt s14.2.2)] [(3,0,dtip q14_0 82 s14.2.1),(0,1,dnm (Ow.box (Ow.frz (α:=Reader))) q14_1 ⟨s14.1⟩ (.pointer (some ⟨b0,0,none⟩)) [])] a w) ⟨_,_,_,_,st13.sel [4,5] rfl [(3,0),(0,1)] rfl ⟨iE,iT⟩⟩ ?_
  rintro s14 z14 a14 w14 ⟨M14,q14_0,q14_1,q14_2,st14⟩ hs14 hx14
  have h15:wt v5 s14=some z14:=hs14
  unfold wt at h15
  refine wp_seq ?_
  refine st14.sq (sc rfl (oM rfl (tp rfl))<|sc rfl (oCI rfl (tp rfl) cI)<|.nil) [4,5,15] rfl [(0,1),(3,0)] rfl ⟨iI,iT⟩ (λ a16 w16 st16=>?_)
  refine st16.cs (c:=15) rfl h15 (λ c17 h17=>?_) (λ c18 h18=>?_)
  ·
   refine wp_skip (za (wp_seq (wp_block (wp_seq (wp_region_list ?_)))))
   refine st16.seg 1 (
     sc rfl (oM rfl (zD rfl))<|.nil) [4,5,18] rfl [(0,1),(3,0)] rfl ⟨iI,iT⟩ (λ a19 w19 st19=>?_)
   obtain⟨v21,p21,h22⟩:=bs h17
   refine st19.cSF (l:=[]) 1 (st19.bkN (s:=0) rfl iI) rfl rfl kN187 (Eq.trans (st19.st.has 18 _ rfl) (st19.st.has 0 _ rfl).1.symm) (by simp) .nil (za8 p21) [4,5] rfl [3] rfl rfl (by decide) (λ G20 M20 a20 w20 st20=>?_)
   refine st20.alloc 2 rfl rfl kZ82 zrStmt (by simp) [4,5,19] rfl [0,3] rfl rfl (λ b24 M24 a24 w24 st24=>?_)
   refine st24.store (sb:=6) 2 FldS.id rfl rfl rfl kT82 rfl rfl (tp rfl) rfl [4,5] rfl [0,3] rfl rfl (λ M26 w26 st26=>wpList_nil (za ?_))
   obtain⟨o27,p27,k27⟩:=bs h22
   refine zj (λ a w=>∃ M1 q27_0 q27_1 q27_2,Sx (Frm.chg w0 G) 44 M M1 [oneB q27_0,q27_1,oneB q27_2] [(4,dt (cmpI .eql v5.2 (0:Int))),(5,dt s14.2.2)] [(3,0,dtip q27_0 82 s14.2.1),(6,2,dbox q27_2 0 o27.2),(0,1,dnm (Ow.box (Ow.frz (α:=Reader))) q27_1 ⟨o27.1⟩ (.pointer (some ⟨b0,0,none⟩)) [])] a w) ?_ ?_
   ·
    refine st26.sq (sc rfl (oM rfl (tp rfl))<|sc rfl (oM rfl (tp rfl))<|sg rfl rfl (λ hg=>xi Stmt.fld0 rfl kF82_0 (tp rfl))<|sg rfl rfl (λ hg=>zN rfl kT3 (zi hg rfl))<|sg rfl rfl (λ hg=>oCI rfl (zi hg rfl) cI)<|sg rfl rfl (λ hg=>oM rfl (zi hg rfl))<|sgg rfl rfl (λ hg=>xi Stmt.fld0 rfl kF82_0 (tp rfl))<|sgg rfl rfl (λ hg=>zN rfl kT3 (zi hg rfl))<|sgg rfl rfl (λ hg=>oCI rfl (zi hg rfl) cI)<|sg rfl rfl (λ hg=>wj rfl (zi hg rfl) (WU hg rfl))<|sg rfl rfl (λ hg=>oM rfl (zi hg rfl))<|sgg rfl rfl (λ hg=>xi Stmt.fld0 rfl kF82_0 (tp rfl))<|sgg rfl rfl (λ hg=>zN rfl kT3 (zi hg rfl))<|sgg rfl rfl (λ hg=>oCI rfl (zi hg rfl) cI)<|sg rfl rfl (λ hg=>wj rfl (zi hg rfl) (WU hg rfl))<|sc rfl (ym rfl (tp rfl) (zb rfl))<|.nil) [4,5,35] rfl [(0,1),(3,0),(6,2)] rfl ⟨iI,⟨iI,iT⟩⟩ (λ a28 w28 st28=>?_)
    refine st28.cs (c:=35) rfl p27 (λ c29 h29=>?_) (λ c30 h30=>?_)
    ·
     refine wp_region_list ?_
     refine st28.seg 1 (
       sc rfl (oM rfl (zD rfl))<|.nil) [4,5,36] rfl [(0,1),(3,0),(6,2)] rfl ⟨iI,⟨iI,iT⟩⟩ (λ a31 w31 st31=>?_)
     obtain⟨v33,p33,h34⟩:=bs h29
     refine st31.cSF (l:=[.const (.int .i64 100)]) 1 (st31.bkN (s:=0) rfl iI) rfl rfl kN70 (Eq.trans (st31.st.has 36 _ rfl) (st31.st.has 0 _ rfl).1.symm) (by simp) (.cons cI .nil) (zE p33) [4,5] rfl [3,6] rfl rfl (by decide) (λ G32 M32 a32 w32 st32=>?_)
     refine st32.seg 1 (
       sc rfl (Wz rfl cI (zH (by decide)) (tp rfl))<|.nil) [4,5,38] rfl [(0,1),(3,0),(6,2)] rfl ⟨iI,⟨iI,iT⟩⟩ (λ a35 w35 st35=>?_)
     refine st35.store (sb:=6) 2 FldS.id rfl rfl rfl kT82 rfl rfl (tp rfl) rfl [4,5] rfl [0,3] rfl rfl (λ M37 w37 st37=>wpList_nil (za ?_))
     obtain rfl:=Option.some.inj h34
     exact⟨_,_,_,_,st37.sel [4,5] rfl [(3,0),(6,2),(0,1)] rfl ⟨iI,⟨iI,iT⟩⟩⟩
    refine wp_skip (za ?_)
    obtain rfl:=Option.some.inj h30
    exact⟨_,_,_,_,st28.sel [4,5] rfl [(3,0),(6,2),(0,1)] rfl ⟨iI,⟨iI,iT⟩⟩⟩
   rintro a27 w27 ⟨M27,q27_0,q27_1,q27_2,st27⟩
   have h38:=k27
   refine wp_region_list ?_
   refine st27.seg 3 (
     sc rfl (oM rfl (tp rfl))<|sc rfl (zN rfl kT82 (tp rfl))<|sc rfl (yf (opds:=[.tmp 40]) rfl kS83 kY83 rfl rfl (by decide) (.cons (tp rfl) .nil))<|.nil) [4,5,41] rfl [(0,1),(3,0),(39,0)] rfl ⟨iI,⟨iI,iT⟩⟩ (λ a39 w39 st39=>?_)
   obtain⟨v42,p42,h43⟩:=bs h38
   refine st39.app 0 rfl rfl kE83 rfl rfl rfl yS p42 [4,5] rfl [0] rfl rfl (λ g41 M41 a41 w41 st41=>?_)
   refine st41.seg 1 (
     sc rfl (oA rfl (tp rfl))<|.nil) [4,5] rfl [(0,1),(3,0)] rfl ⟨iI,iT⟩ (λ a44 w44 st44=>?_)
   refine wpList_nil (ze (za ?_))
   obtain⟨v45,p45,h46⟩:=bs h43
   refine st44.rg (sc rfl (oM rfl (tp rfl))<|sc rfl (xAr rfl (tp rfl) cI p45)<|sc rfl (oA rfl (tp rfl))<|.nil) [4,5] rfl [(0,1),(3,0)] rfl ⟨iI,iT⟩ (λ a47 w47 st47=>za ?_)
   exact⟨_,(Option.some.inj h46).symm,⟨_,_,_,_,st47.sel [4,5] rfl [(3,0),(0,1)] rfl ⟨iI,iT⟩⟩⟩
  refine wp_exit (zh (zh (zv ?_)))
  refine za ?_
  have h48:=lo h18 hx14
  obtain rfl:=Option.some.inj h48
  exact⟨_,_,_,_,st16.sel [] rfl [(3,0),(0,1)] rfl ⟨iI,iT⟩⟩
 rintro a8 w8 ⟨M8,q8_0,q8_1,q8_2,st8⟩
 have h49:=k8
 refine st8.sq (sc rfl (oM rfl (tp rfl))<|sc rfl (oA rfl (tp rfl))<|.nil) [] rfl [(0,1),(2,0)] rfl ⟨iI,iT⟩ (λ a50 w50 st50=>wp_ret ?_)
 have st51:=st50.tipW (s:=2) 0 rfl rfl iI [0] rfl
 exact st51.rsO (s:=0) 1 0 rfl rfl rfl iI iI (by decide) (bxr h49)
def qB(x0:Reader):Option (Reader×(List Int)):=
(zA x0 (8:Int)).bind λ v4=>
if(cmpI .eql v4.2 (0:Int))=true then(some (v4.1,([(1:Int),(0:Int)]:List Int)))
else(if(cmpI .eql v4.2 (1:Int))=true then(some (v4.1,([(2:Int),(1:Int),(0:Int)]:List Int)))
else(if(cmpI .eql v4.2 (2:Int))=true then(some (v4.1,([(0:Int)]:List Int)))
else(if(cmpI .eql v4.2 (3:Int))=true then(some (v4.1,([(1:Int)]:List Int)))
else(if(cmpI .eql v4.2 (4:Int))=true then(some (v4.1,([(0:Int),(1:Int)]:List Int)))
else(some (v4.1,([(0:Int),(1:Int),(2:Int)]:List Int)))))))
theorem zba{x0:Reader}{r:Reader×(List Int)}(h:qB x0=some r):FnS prog 134 (Ow.box (Ow.frz (α:=Reader))) ⟨x0⟩ [] ⟨r.1⟩ (.frz (dt r.2)):=by
 unfold qB at h
 refine fnSB (fn:=f134) 0 1 func134 rfl (oD rfl) rfl (λ M G w0 b0 a0 st0=>?_)
 refine st0.sq (sc rfl (oA rfl (xN (α:=Int)))<|.nil) [] rfl [(0,0)] rfl iT (λ a1 w1 st1=>wp_seq (wp_seq (wp_region_list ?_)))
 refine st1.seg 1 (
  sc rfl (oM rfl (zD rfl))<|.nil) [3] rfl [(0,0)] rfl iT (λ a2 w2 st2=>?_)
 obtain⟨v4,p4,h5⟩:=bs h
 refine st2.cSF (l:=[.const (.int .i64 8)]) 0 (st2.bkN (s:=0) rfl iI) rfl rfl kN70 (Eq.trans (st2.st.has 3 _ rfl) (st2.st.has 0 _ rfl).1.symm) (by simp) (.cons cI .nil) (zE p4) [] rfl [] rfl rfl (by decide) (λ G3 M3 a3 w3 st3=>wpList_nil (za (wp_block ?_)))
 refine st3.sq (sc rfl (oCI rfl (tp rfl) cI)<|sc rfl (oA rfl (tp rfl))<|.nil) [4,5] rfl [(0,0)] rfl iT (λ a6 w6 st6=>?_)
 refine st6.cs (c:=5) rfl h5 (λ c7 h7=>?_) (λ c8 h8=>?_)
 ·
  refine st6.sq (sc rfl (yf (opds:=[.const (.int .i64 1),.const (.int .i64 0)]) rfl kS26 kY26 rfl rfl (by decide) (.cons cI (.cons cI .nil)))<|sc rfl (oA rfl (tp rfl))<|.nil) [2] rfl [(0,0)] rfl iT (λ a9 w9 st9=>wp_ret (zt (zd ?_)))
  exact st9.rsD (s:=0) 0 rfl rfl rfl iI (bxr h7)
 refine st6.sq (sc rfl (oCI rfl (tp rfl) cI)<|sc rfl (oA rfl (tp rfl))<|.nil) [4,8] rfl [(0,0)] rfl iT (λ a10 w10 st10=>?_)
 refine st10.cs (c:=8) rfl h8 (λ c11 h11=>?_) (λ c12 h12=>?_)
 ·
  refine st10.sq (sc rfl (yf (opds:=[.const (.int .i64 2),.const (.int .i64 1),.const (.int .i64 0)]) rfl kS26 kY26 rfl rfl (by decide) (.cons cI (.cons cI (.cons cI .nil))))<|sc rfl (oA rfl (tp rfl))<|.nil) [2] rfl [(0,0)] rfl iT (λ a13 w13 st13=>wp_ret (zt (zd ?_)))
  exact st13.rsD (s:=0) 0 rfl rfl rfl iI (bxr h11)
 refine st10.sq (sc rfl (oCI rfl (tp rfl) cI)<|sc rfl (oA rfl (tp rfl))<|.nil) [4,11] rfl [(0,0)] rfl iT (λ a14 w14 st14=>?_)
 refine st14.cs (c:=11) rfl h12 (λ c15 h15=>?_) (λ c16 h16=>?_)
 ·
  refine st14.sq (sc rfl (yf (opds:=[.const (.int .i64 0)]) rfl kS26 kY26 rfl rfl (by decide) (.cons cI .nil))<|sc rfl (oA rfl (tp rfl))<|.nil) [2] rfl [(0,0)] rfl iT (λ a17 w17 st17=>wp_ret (zt (zd ?_)))
  exact st17.rsD (s:=0) 0 rfl rfl rfl iI (bxr h15)
 refine st14.sq (sc rfl (oCI rfl (tp rfl) cI)<|sc rfl (oA rfl (tp rfl))<|.nil) [4,14] rfl [(0,0)] rfl iT (λ a18 w18 st18=>?_)
 refine st18.cs (c:=14) rfl h16 (λ c19 h19=>?_) (λ c20 h20=>?_)
 ·
  refine st18.sq (sc rfl (yf (opds:=[.const (.int .i64 1)]) rfl kS26 kY26 rfl rfl (by decide) (.cons cI .nil))<|sc rfl (oA rfl (tp rfl))<|.nil) [2] rfl [(0,0)] rfl iT (λ a21 w21 st21=>wp_ret (zt (zd ?_)))
  exact st21.rsD (s:=0) 0 rfl rfl rfl iI (bxr h19)
 refine st18.sq (sc rfl (oCI rfl (tp rfl) cI)<|sc rfl (oA rfl (tp rfl))<|.nil) [17] rfl [(0,0)] rfl iT (λ a22 w22 st22=>?_)
 refine st22.cs (c:=17) rfl h20 (λ c23 h23=>?_) (λ c24 h24=>?_)
 ·
  refine st22.sq (sc rfl (yf (opds:=[.const (.int .i64 0),.const (.int .i64 1)]) rfl kS26 kY26 rfl rfl (by decide) (.cons cI (.cons cI .nil)))<|sc rfl (oA rfl (tp rfl))<|.nil) [2] rfl [(0,0)] rfl iT (λ a25 w25 st25=>wp_ret (zt (zd ?_)))
  exact st25.rsD (s:=0) 0 rfl rfl rfl iI (bxr h23)
 refine wp_skip (ze (za ?_))
 refine st22.sq (sc rfl (yf (opds:=[.const (.int .i64 0),.const (.int .i64 1),.const (.int .i64 2)]) rfl kS26 kY26 rfl rfl (by decide) (.cons cI (.cons cI (.cons cI .nil))))<|sc rfl (oA rfl (tp rfl))<|.nil) [2] rfl [(0,0)] rfl iT (λ a26 w26 st26=>wp_ret ?_)
 exact st26.rsD (s:=0) 0 rfl rfl rfl iI (bxr h24)
def qC(x0:Reader):Option (Reader×File):=
(ya x0 ([(0:Int),(0:Int),(1:Int),(2:Int),(1:Int)]:List Int)).bind λ v5=>
(zA v5.1 (100:Int)).bind λ v10=>
(qA v10.1).bind λ v15=>
Option.bind (α:=Reader×File) ((zA v15.1 (6:Int)).bind λ v27=>
Option.bind (α:=Bool) (if(cmpI .eql v27.2 (0:Int))=true then(some (cmpI .eql v27.2 (0:Int)))
else(some (cmpI .eql v27.2 (1:Int)))) λ o30=>
if o30=true then((yN v27.1).bind λ v44=>
some (v44.1,{ (⟨v5.2,⟨[]⟩,⟨[]⟩,false,v10.2,v15.2⟩:File) with name:=v44.2 }))
else(Option.bind (α:=Bool) (if(cmpI .eql v27.2 (2:Int))=true then(some (cmpI .eql v27.2 (2:Int)))
else(some (cmpI .eql v27.2 (3:Int)))) λ o51=>
if o51=true then((yN v27.1).bind λ v61=>
(yN v61.1).bind λ v69=>
some (v69.1,{ (⟨v5.2,⟨[]⟩,⟨[]⟩,false,v10.2,v15.2⟩:File) with pkg:=v61.2,name:=v69.2 }))
else(if(cmpI .eql v27.2 (4:Int))=true then((yN v27.1).bind λ v80=>
some (v80.1,{ (⟨v5.2,⟨[]⟩,⟨[]⟩,false,v10.2,v15.2⟩:File) with pkg:=v80.2,init:=true }))
else((yN v27.1).bind λ v91=>
(catO v91.2 (⟨[46]⟩:Str)).bind λ v94=>
(yN v91.1).bind λ v98=>
(catO v94 v98.2).bind λ v101=>
(zA v98.1 (2:Int)).bind λ v108=>
if(cmpI .eql v108.2 (0:Int))=true then(some (v108.1,{ (⟨v5.2,⟨[]⟩,⟨[]⟩,false,v10.2,v15.2⟩:File) with pkg:=v101,init:=true }))
else((yN v108.1).bind λ v119=>
some (v119.1,{ (⟨v5.2,⟨[]⟩,⟨[]⟩,false,v10.2,v15.2⟩:File) with pkg:=v101,name:=v119.2 })))))) λ o24=>
some (o24.1,o24.2)
theorem zbb{x0:Reader}{r:Reader×File}(h:qC x0=some r):FnS prog 163 (Ow.box (Ow.frz (α:=Reader))) ⟨x0⟩ [] ⟨r.1⟩ (.ow (owFile (Ow.row 82 (Ow.frz (α:=Stmt)))) r.2):=by
 unfold qC at h
 refine fnSB (fn:=f163) 2 5 func163 rfl (oD rfl) rfl (λ M G w0 b0 a0 st0=>wp_seq (wp_region_list ?_))
 refine st0.alcW (ow:=(owFile (Ow.row 82 (Ow.frz (α:=Stmt))))) 3 rfl rfl kZ86 (owFile.z Ow.row_z) (by simp) [] rfl [0] rfl rfl (λ b1 M1 a1 w1 st1=>?_)
 have st2:=st1.gs (Gs':=[oneB none,oneB none,G,(oneB (some b1)),oneB none]) rfl
 refine wpList_nil (za (wp_seq (wp_region_list ?_)))
 refine st2.seg 2 (
  sc rfl (oM rfl (zD rfl))<|sc rfl (yf (opds:=[.const (.int .i64 0),.const (.int .i64 0),.const (.int .i64 1),.const (.int .i64 2),.const (.int .i64 1)]) rfl kS26 kY26 rfl rfl (by decide) (.cons cI (.cons cI (.cons cI (.cons cI (.cons cI .nil))))))<|.nil) [4,5] rfl [(0,2),(2,3)] rfl ⟨iI,iT⟩ (λ a3 w3 st3=>?_)
 obtain⟨v5,p5,h6⟩:=bs h
 refine st3.cSF (l:=[.tmp 5]) 2 (st3.bkN (s:=0) rfl iI) rfl rfl kN73 (Eq.trans (st3.st.has 4 _ rfl) (st3.st.has 0 _ rfl).1.symm) (by simp) (.cons (tp rfl) .nil) (xk p5) [] rfl [2] rfl rfl (by decide) (λ G4 M4 a4 w4 st4=>?_)
 have st7:=st4.gs (Gs':=[oneB none,oneB none,G4,(oneB (some b1)),oneB none]) rfl
 refine st7.seg 1 (
  sc rfl (oM rfl (zD rfl))<|.nil) [6,7] rfl [(0,2),(2,3)] rfl ⟨iI,iT⟩ (λ a8 w8 st8=>?_)
 obtain⟨v10,p10,h11⟩:=bs h6
 refine st8.cSF (l:=[.const (.int .i64 100)]) 2 (st8.bkN (s:=0) rfl iI) rfl rfl kN70 (Eq.trans (st8.st.has 7 _ rfl) (st8.st.has 0 _ rfl).1.symm) (by simp) (.cons cI .nil) (zE p10) [6] rfl [2] rfl rfl (by decide) (λ G9 M9 a9 w9 st9=>?_)
 have st12:=st9.gs (Gs':=[oneB none,oneB none,G9,(oneB (some b1)),oneB none]) rfl
 refine st12.seg 1 (
  sc rfl (oM rfl (zD rfl))<|.nil) [6,8,9] rfl [(0,2),(2,3)] rfl ⟨iI,iT⟩ (λ a13 w13 st13=>?_)
 obtain⟨v15,p15,h16⟩:=bs h11
 refine st13.cSO (l:=[]) 2 0 (st13.bkN (s:=0) rfl iI) rfl rfl kN179 (Eq.trans (st13.st.has 9 _ rfl) (st13.st.has 0 _ rfl).1.symm) (by simp) (by simp) (by decide) .nil (za9 p15) [6,8] rfl [2] rfl rfl rfl rfl (by decide) (λ G14 H14 M14 a14 w14 st14=>?_)
 have st17:=st14.gs (Gs':=[H14,oneB none,G14,(oneB (some b1)),oneB none]) rfl
 refine st17.bldW (ow:=(owFile (Ow.row 82 (Ow.frz (α:=Stmt))))) (parts:=[(0,.tmp 6),(4,.tmp 8),(5,.tmp 10)]) (ns:=[1,1,1,1,1,1]) (zs:=zpFile) (x:=(⟨v5.2,⟨[]⟩,⟨[]⟩,false,v10.2,v15.2⟩:File)) 1 [0] rfl rfl rfl kB86 kC86 (by
 intro p hp;simp only[List.mem_cons,List.not_mem_nil,or_false] at hp
 rcases hp with rfl | rfl | rfl
 ·
  exact⟨by decide,Rep.len (α:=Int) (OpdR.cells (tp rfl) (λ s y hs=>st17.st.has s y hs))⟩
 ·
  exact⟨by decide,Rep.len (α:=Int) (OpdR.cells (tp rfl) (λ s y hs=>st17.st.has s y hs))⟩
 ·
  exact⟨by decide,Ow.len _ (Y2 (st17.st.has 10 _ rfl))⟩) (((owFile (Ow.row 82 (Ow.frz (α:=Stmt))))).more (owFile.mk (x:=(⟨v5.2,⟨[]⟩,⟨[]⟩,false,v10.2,v15.2⟩:File)) (OpdR.cells (tp rfl) (λ s y hs=>st17.st.has s y hs)) jB jB ⟨rfl,trivial⟩ (OpdR.cells (tp rfl) (λ s y hs=>st17.st.has s y hs)) (Y2 (st17.st.has 10 _ rfl))) (λ b=>(λ hb=>⟨0,by simp,hb⟩))) (by simp) [] rfl [0,2] rfl rfl rfl (λ G18 a18 w18 st18=>?_)
 have st19:=st18.gs (Gs':=[oneB none,G18,G14,(oneB (some b1)),oneB none]) rfl
 refine st19.alcW (ow:=(owFile (Ow.row 82 (Ow.frz (α:=Stmt))))) 4 rfl rfl kZ86 (owFile.z Ow.row_z) (by simp) [] rfl [0,2,11] rfl rfl (λ b20 M20 a20 w20 st20=>?_)
 have st21:=st20.gs (Gs':=[oneB none,G18,G14,(oneB (some b1)),(oneB (some b20))]) rfl
 refine st21.stO (sb:=3) (tv:=11) 4 1 (PV.root.box rfl) rfl rfl rfl kT86 (by simp) (by simp) (by decide) (zD rfl) rfl rfl rfl iI iI [] rfl [0,2] rfl rfl rfl (λ G22 w22 st22=>?_)
 have st23:=st22.gs (Gs':=[oneB none,oneB none,G14,(oneB (some b1)),G22]) rfl
 refine wpList_nil (za ?_)
 obtain⟨o24,p24,k24⟩:=bs h16
 refine zj (λ a w=>∃ M1 q24_0 q24_1 q24_2 q24_3 q24_4,Sx (Frm.chg w0 G) 50 M M1 [q24_0,q24_1,q24_2,q24_3,q24_4] [] [(0,2,dnm (Ow.box (Ow.frz (α:=Reader))) q24_2 ⟨o24.1⟩ (.pointer (some ⟨b0,0,none⟩)) []),(2,3,dow (Ow.box (owFile (Ow.row 82 (Ow.frz (α:=Stmt))))) q24_3 ⟨zFile⟩),(3,4,dow (Ow.box (owFile (Ow.row 82 (Ow.frz (α:=Stmt))))) q24_4 ⟨o24.2⟩)] a w) ?_ ?_
 ·
  refine wp_seq (wp_region_list ?_)
  refine st23.seg 1 (
   sc rfl (oM rfl (zD rfl))<|.nil) [12] rfl [(0,2),(2,3),(3,4)] rfl ⟨iI,⟨iI,iT⟩⟩ (λ a25 w25 st25=>?_)
  obtain⟨v27,p27,h28⟩:=bs p24
  refine st25.cSF (l:=[.const (.int .i64 6)]) 2 (st25.bkN (s:=0) rfl iI) rfl rfl kN70 (Eq.trans (st25.st.has 12 _ rfl) (st25.st.has 0 _ rfl).1.symm) (by simp) (.cons cI .nil) (zE p27) [] rfl [2,3] rfl rfl (by decide) (λ G26 M26 a26 w26 st26=>?_)
  have st29:=st26.gs (Gs':=[oneB none,oneB none,G26,(oneB (some b1)),G22]) rfl
  refine wpList_nil (za (wp_block ?_))
  obtain⟨o30,p30,k30⟩:=bs h28
  refine zj (λ a w=>∃ M1 q30_0 q30_1 q30_2 q30_3 q30_4,Sx (Frm.chg w0 G) 50 M M1 [q30_0,q30_1,q30_2,q30_3,q30_4] [(13,dt v27.2),(28,dt o30)] [(0,2,dnm (Ow.box (Ow.frz (α:=Reader))) q30_2 ⟨v27.1⟩ (.pointer (some ⟨b0,0,none⟩)) []),(2,3,dow (Ow.box (owFile (Ow.row 82 (Ow.frz (α:=Stmt))))) q30_3 ⟨zFile⟩),(3,4,dow (Ow.box (owFile (Ow.row 82 (Ow.frz (α:=Stmt))))) q30_4 ⟨(⟨v5.2,⟨[]⟩,⟨[]⟩,false,v10.2,v15.2⟩:File)⟩)] a w) ?_ ?_
  ·
   refine st29.sq (sc rfl (oCI rfl (tp rfl) cI)<|sc rfl (oA rfl (tp rfl))<|.nil) [13,28] rfl [(0,2),(2,3),(3,4)] rfl ⟨iI,⟨iI,iT⟩⟩ (λ a31 w31 st31=>?_)
   refine st31.cs (c:=28) rfl p30 (λ c32 h32=>?_) (λ c33 h33=>?_)
   ·
    refine wp_skip ?_
    have st34:=st31.unm (s:=2) 3 rfl rfl iI [0,3] rfl
    have st35:=st34.unm (s:=3) 4 rfl rfl iI [0,2] rfl
    refine za ?_
    obtain rfl:=Option.some.inj h32
    exact⟨_,_,_,_,_,_,st35.sel [13,28] rfl [(0,2),(2,3),(3,4)] rfl ⟨iI,⟨iI,iT⟩⟩⟩
   refine st31.rg (sc rfl (oCI rfl (tp rfl) cI)<|sc rfl (oA rfl (tp rfl))<|.nil) [13,28] rfl [(0,2),(2,3),(3,4)] rfl ⟨iI,⟨iI,iT⟩⟩ (λ a36 w36 st36=>?_)
   have st37:=st36.unm (s:=2) 3 rfl rfl iI [0,3] rfl
   have st38:=st37.unm (s:=3) 4 rfl rfl iI [0,2] rfl
   refine za ?_
   obtain rfl:=Option.some.inj h33
   exact⟨_,_,_,_,_,_,st38.sel [13,28] rfl [(0,2),(2,3),(3,4)] rfl ⟨iI,⟨iI,iT⟩⟩⟩
  rintro a30 w30 ⟨M30,q30_0,q30_1,q30_2,q30_3,q30_4,st30⟩
  have h39:=k30
  refine st30.cs (c:=28) rfl h39 (λ c40 h40=>?_) (λ c41 h41=>?_)
  ·
   refine wp_region_list ?_
   refine st30.seg 1 (
    sc rfl (oM rfl (zD rfl))<|.nil) [31] rfl [(0,2),(2,3),(3,4)] rfl ⟨iI,⟨iI,iT⟩⟩ (λ a42 w42 st42=>?_)
   obtain⟨v44,p44,h45⟩:=bs h40
   refine st42.cSF (l:=[]) 2 (st42.bkN (s:=0) rfl iI) rfl rfl JQ (Eq.trans (st42.st.has 31 _ rfl) (st42.st.has 0 _ rfl).1.symm) (by simp) .nil (ww p44) [] rfl [2,3] rfl rfl (by decide) (λ G43 M43 a43 w43 st43=>?_)
   have st46:=st43.gs (Gs':=[q30_0,q30_1,G43,q30_3,q30_4]) rfl
   refine st46.nmB (s:=3) 4 rfl rfl iI [0,2] rfl (λ b47 st47=>?_)
   refine st47.seg 1 (
    sc rfl (xFa rfl kF86_2 (zD rfl))<|.nil) [32,33] rfl [(0,2),(2,3),(3,4)] rfl ⟨iI,⟨iI,iT⟩⟩ (λ a48 w48 st48=>?_)
   refine st48.stF (sb:=3) 4 ((PV.root.box rfl).fld owFile.f2) rfl rfl rfl kT9 (by simp) (tp rfl) (tp rfl) rfl rfl iI [] rfl [0,2] rfl rfl (λ w49 st49=>wpList_nil (ze ?_))
   have st50:=st49.unm (s:=3) 4 rfl rfl iI [0,2] rfl
   refine za ?_
   obtain rfl:=Option.some.inj h45
   exact⟨_,_,_,_,_,_,st50.sel [] rfl [(0,2),(2,3),(3,4)] rfl ⟨iI,⟨iI,iT⟩⟩⟩
  obtain⟨o51,p51,k51⟩:=bs h41
  refine zj (λ a w=>∃ M1 q51_0 q51_1 q51_2 q51_3 q51_4,Sx (Frm.chg w0 G) 50 M M1 [q51_0,q51_1,q51_2,q51_3,q51_4] [(13,dt v27.2),(34,dt o51)] [(0,2,dnm (Ow.box (Ow.frz (α:=Reader))) q51_2 ⟨v27.1⟩ (.pointer (some ⟨b0,0,none⟩)) []),(2,3,dow (Ow.box (owFile (Ow.row 82 (Ow.frz (α:=Stmt))))) q51_3 ⟨zFile⟩),(3,4,dow (Ow.box (owFile (Ow.row 82 (Ow.frz (α:=Stmt))))) q51_4 ⟨(⟨v5.2,⟨[]⟩,⟨[]⟩,false,v10.2,v15.2⟩:File)⟩)] a w) ?_ ?_
  ·
   refine st30.sq (sc rfl (oCI rfl (tp rfl) cI)<|sc rfl (oA rfl (tp rfl))<|.nil) [13,34] rfl [(0,2),(2,3),(3,4)] rfl ⟨iI,⟨iI,iT⟩⟩ (λ a52 w52 st52=>?_)
   refine st52.cs (c:=34) rfl p51 (λ c53 h53=>?_) (λ c54 h54=>?_)
   ·
    refine wp_skip (za ?_)
    obtain rfl:=Option.some.inj h53
    exact⟨_,_,_,_,_,_,st52.sel [13,34] rfl [(0,2),(2,3),(3,4)] rfl ⟨iI,⟨iI,iT⟩⟩⟩
   refine st52.rg (sc rfl (oCI rfl (tp rfl) cI)<|sc rfl (oA rfl (tp rfl))<|.nil) [13,34] rfl [(0,2),(2,3),(3,4)] rfl ⟨iI,⟨iI,iT⟩⟩ (λ a55 w55 st55=>za ?_)
   obtain rfl:=Option.some.inj h54
   exact⟨_,_,_,_,_,_,st55.sel [13,34] rfl [(0,2),(2,3),(3,4)] rfl ⟨iI,⟨iI,iT⟩⟩⟩
  rintro a51 w51 ⟨M51,q51_0,q51_1,q51_2,q51_3,q51_4,st51⟩
  have h56:=k51
  refine st51.cs (c:=34) rfl h56 (λ c57 h57=>?_) (λ c58 h58=>?_)
  ·
   refine wp_seq (wp_region_list ?_)
   refine st51.seg 1 (
    sc rfl (oM rfl (zD rfl))<|.nil) [37] rfl [(0,2),(2,3),(3,4)] rfl ⟨iI,⟨iI,iT⟩⟩ (λ a59 w59 st59=>?_)
   obtain⟨v61,p61,h62⟩:=bs h57
   refine st59.cSF (l:=[]) 2 (st59.bkN (s:=0) rfl iI) rfl rfl JQ (Eq.trans (st59.st.has 37 _ rfl) (st59.st.has 0 _ rfl).1.symm) (by simp) .nil (ww p61) [] rfl [2,3] rfl rfl (by decide) (λ G60 M60 a60 w60 st60=>?_)
   have st63:=st60.gs (Gs':=[q51_0,q51_1,G60,q51_3,q51_4]) rfl
   refine st63.nmB (s:=3) 4 rfl rfl iI [0,2] rfl (λ b64 st64=>?_)
   refine st64.seg 1 (
    sc rfl (xFa rfl kF86_1 (zD rfl))<|.nil) [38,39] rfl [(0,2),(2,3),(3,4)] rfl ⟨iI,⟨iI,iT⟩⟩ (λ a65 w65 st65=>?_)
   refine st65.stF (sb:=3) 4 ((PV.root.box rfl).fld owFile.f1) rfl rfl rfl kT9 (by simp) (tp rfl) (tp rfl) rfl rfl iI [] rfl [0,2] rfl rfl (λ w66 st66=>wpList_nil (za (wp_region_list ?_)))
   refine st66.seg 1 (
    sc rfl (oM rfl (zD rfl))<|.nil) [40] rfl [(0,2),(2,3),(3,4)] rfl ⟨iI,⟨iI,iT⟩⟩ (λ a67 w67 st67=>?_)
   obtain⟨v69,p69,h70⟩:=bs h62
   refine st67.cSF (l:=[]) 2 (st67.bkN (s:=0) rfl iI) rfl rfl JQ (Eq.trans (st67.st.has 40 _ rfl) (st67.st.has 0 _ rfl).1.symm) (by simp) .nil (ww p69) [] rfl [2,3] rfl rfl (by decide) (λ G68 M68 a68 w68 st68=>?_)
   have st71:=st68.gs (Gs':=[q51_0,q51_1,G68,q51_3,q51_4]) rfl
   refine st71.seg 1 (
    sc rfl (xFa rfl kF86_2 (zD rfl))<|.nil) [41,42] rfl [(0,2),(2,3),(3,4)] rfl ⟨iI,⟨iI,iT⟩⟩ (λ a72 w72 st72=>?_)
   refine st72.stF (sb:=3) 4 ((PV.root.box rfl).fld owFile.f2) rfl rfl rfl kT9 (by simp) (tp rfl) (tp rfl) rfl rfl iI [] rfl [0,2] rfl rfl (λ w73 st73=>wpList_nil (ze ?_))
   have st74:=st73.unm (s:=3) 4 rfl rfl iI [0,2] rfl
   refine za ?_
   obtain rfl:=Option.some.inj h70
   exact⟨_,_,_,_,_,_,st74.sel [] rfl [(0,2),(2,3),(3,4)] rfl ⟨iI,⟨iI,iT⟩⟩⟩
  refine st51.sq (sc rfl (oCI rfl (tp rfl) cI)<|sc rfl (oA rfl (tp rfl))<|.nil) [43] rfl [(0,2),(2,3),(3,4)] rfl ⟨iI,⟨iI,iT⟩⟩ (λ a75 w75 st75=>?_)
  refine st75.cs (c:=43) rfl h58 (λ c76 h76=>?_) (λ c77 h77=>?_)
  ·
   refine wp_seq (wp_region_list ?_)
   refine st75.seg 1 (
    sc rfl (oM rfl (zD rfl))<|.nil) [45] rfl [(0,2),(2,3),(3,4)] rfl ⟨iI,⟨iI,iT⟩⟩ (λ a78 w78 st78=>?_)
   obtain⟨v80,p80,h81⟩:=bs h76
   refine st78.cSF (l:=[]) 2 (st78.bkN (s:=0) rfl iI) rfl rfl JQ (Eq.trans (st78.st.has 45 _ rfl) (st78.st.has 0 _ rfl).1.symm) (by simp) .nil (ww p80) [] rfl [2,3] rfl rfl (by decide) (λ G79 M79 a79 w79 st79=>?_)
   have st82:=st79.gs (Gs':=[q51_0,q51_1,G79,q51_3,q51_4]) rfl
   refine st82.nmB (s:=3) 4 rfl rfl iI [0,2] rfl (λ b83 st83=>?_)
   refine st83.seg 1 (
    sc rfl (xFa rfl kF86_1 (zD rfl))<|.nil) [46,47] rfl [(0,2),(2,3),(3,4)] rfl ⟨iI,⟨iI,iT⟩⟩ (λ a84 w84 st84=>?_)
   refine st84.stF (sb:=3) 4 ((PV.root.box rfl).fld owFile.f1) rfl rfl rfl kT9 (by simp) (tp rfl) (tp rfl) rfl rfl iI [] rfl [0,2] rfl rfl (λ w85 st85=>wpList_nil (za (wp_region_list ?_)))
   refine st85.seg 1 (
    sc rfl (xFa rfl kF86_3 (zD rfl))<|.nil) [48] rfl [(0,2),(2,3),(3,4)] rfl ⟨iI,⟨iI,iT⟩⟩ (λ a86 w86 st86=>?_)
   refine st86.stF (sb:=3) 4 ((PV.root.box rfl).fld owFile.f3) rfl rfl rfl kT4 (by simp) (tp rfl) cB rfl rfl iI [] rfl [0,2] rfl rfl (λ w87 st87=>wpList_nil (ze ?_))
   have st88:=st87.unm (s:=3) 4 rfl rfl iI [0,2] rfl
   refine za ?_
   obtain rfl:=Option.some.inj h81
   exact⟨_,_,_,_,_,_,st88.sel [] rfl [(0,2),(2,3),(3,4)] rfl ⟨iI,⟨iI,iT⟩⟩⟩
  refine wp_seq (wp_region_list ?_)
  refine st75.seg 1 (
   sc rfl (oM rfl (zD rfl))<|.nil) [14] rfl [(0,2),(2,3),(3,4)] rfl ⟨iI,⟨iI,iT⟩⟩ (λ a89 w89 st89=>?_)
  obtain⟨v91,p91,h92⟩:=bs h77
  refine st89.cSF (l:=[]) 2 (st89.bkN (s:=0) rfl iI) rfl rfl JQ (Eq.trans (st89.st.has 14 _ rfl) (st89.st.has 0 _ rfl).1.symm) (by simp) .nil (ww p91) [] rfl [2,3] rfl rfl (by decide) (λ G90 M90 a90 w90 st90=>?_)
  have st93:=st90.gs (Gs':=[q51_0,q51_1,G90,q51_3,q51_4]) rfl
  obtain⟨v94,p94,h95⟩:=bs h92
  refine st93.seg 2 (
   sc rfl (xCat rfl (tp rfl) (zH (by decide)) p94)<|sc rfl (oM rfl (zD rfl))<|.nil) [16,17] rfl [(0,2),(2,3),(3,4)] rfl ⟨iI,⟨iI,iT⟩⟩ (λ a96 w96 st96=>?_)
  obtain⟨v98,p98,h99⟩:=bs h95
  refine st96.cSF (l:=[]) 2 (st96.bkN (s:=0) rfl iI) rfl rfl JQ (Eq.trans (st96.st.has 17 _ rfl) (st96.st.has 0 _ rfl).1.symm) (by simp) .nil (ww p98) [16] rfl [2,3] rfl rfl (by decide) (λ G97 M97 a97 w97 st97=>?_)
  have st100:=st97.gs (Gs':=[q51_0,q51_1,G97,q51_3,q51_4]) rfl
  obtain⟨v101,p101,h103⟩:=bs h99
  refine st100.nmB (s:=3) 4 rfl rfl iI [0,2] rfl (λ b102 st102=>?_)
  refine st102.seg 2 (
   sc rfl (xCat rfl (tp rfl) (tp rfl) p101)<|sc rfl (xFa rfl kF86_1 (zD rfl))<|.nil) [19,20] rfl [(0,2),(2,3),(3,4)] rfl ⟨iI,⟨iI,iT⟩⟩ (λ a104 w104 st104=>?_)
  refine st104.stF (sb:=3) 4 ((PV.root.box rfl).fld owFile.f1) rfl rfl rfl kT9 (by simp) (tp rfl) (tp rfl) rfl rfl iI [] rfl [0,2] rfl rfl (λ w105 st105=>wpList_nil (za (wp_seq (wp_region_list ?_))))
  refine st105.seg 1 (
   sc rfl (oM rfl (zD rfl))<|.nil) [21] rfl [(0,2),(2,3),(3,4)] rfl ⟨iI,⟨iI,iT⟩⟩ (λ a106 w106 st106=>?_)
  obtain⟨v108,p108,h109⟩:=bs h103
  refine st106.cSF (l:=[.const (.int .i64 2)]) 2 (st106.bkN (s:=0) rfl iI) rfl rfl kN70 (Eq.trans (st106.st.has 21 _ rfl) (st106.st.has 0 _ rfl).1.symm) (by simp) (.cons cI .nil) (zE p108) [] rfl [2,3] rfl rfl (by decide) (λ G107 M107 a107 w107 st107=>?_)
  have st110:=st107.gs (Gs':=[q51_0,q51_1,G107,q51_3,q51_4]) rfl
  refine st110.seg 1 (
   sc rfl (oCI rfl (tp rfl) cI)<|.nil) [23] rfl [(0,2),(2,3),(3,4)] rfl ⟨iI,⟨iI,iT⟩⟩ (λ a111 w111 st111=>?_)
  refine wpList_nil (za ?_)
  refine st111.cs (c:=23) rfl h109 (λ c112 h112=>?_) (λ c113 h113=>?_)
  ·
   refine wp_region_list ?_
   refine st111.seg 1 (
    sc rfl (xFa rfl kF86_3 (zD rfl))<|.nil) [24] rfl [(0,2),(2,3),(3,4)] rfl ⟨iI,⟨iI,iT⟩⟩ (λ a114 w114 st114=>?_)
   refine st114.stF (sb:=3) 4 ((PV.root.box rfl).fld owFile.f3) rfl rfl rfl kT4 (by simp) (tp rfl) cB rfl rfl iI [] rfl [0,2] rfl rfl (λ w115 st115=>wpList_nil (ze ?_))
   have st116:=st115.unm (s:=3) 4 rfl rfl iI [0,2] rfl
   refine za ?_
   obtain rfl:=Option.some.inj h112
   exact⟨_,_,_,_,_,_,st116.sel [] rfl [(0,2),(2,3),(3,4)] rfl ⟨iI,⟨iI,iT⟩⟩⟩
  refine wp_region_list ?_
  refine st111.seg 1 (
   sc rfl (oM rfl (zD rfl))<|.nil) [25] rfl [(0,2),(2,3),(3,4)] rfl ⟨iI,⟨iI,iT⟩⟩ (λ a117 w117 st117=>?_)
  obtain⟨v119,p119,h120⟩:=bs h113
  refine st117.cSF (l:=[]) 2 (st117.bkN (s:=0) rfl iI) rfl rfl JQ (Eq.trans (st117.st.has 25 _ rfl) (st117.st.has 0 _ rfl).1.symm) (by simp) .nil (ww p119) [] rfl [2,3] rfl rfl (by decide) (λ G118 M118 a118 w118 st118=>?_)
  have st121:=st118.gs (Gs':=[q51_0,q51_1,G118,q51_3,q51_4]) rfl
  refine st121.seg 1 (
   sc rfl (xFa rfl kF86_2 (zD rfl))<|.nil) [26,27] rfl [(0,2),(2,3),(3,4)] rfl ⟨iI,⟨iI,iT⟩⟩ (λ a122 w122 st122=>?_)
  refine st122.stF (sb:=3) 4 ((PV.root.box rfl).fld owFile.f2) rfl rfl rfl kT9 (by simp) (tp rfl) (tp rfl) rfl rfl iI [] rfl [0,2] rfl rfl (λ w123 st123=>wpList_nil (ze ?_))
  have st124:=st123.unm (s:=3) 4 rfl rfl iI [0,2] rfl
  refine za ?_
  obtain rfl:=Option.some.inj h120
  exact⟨_,_,_,_,_,_,st124.sel [] rfl [(0,2),(2,3),(3,4)] rfl ⟨iI,⟨iI,iT⟩⟩⟩
 rintro a24 w24 ⟨M24,q24_0,q24_1,q24_2,q24_3,q24_4,st24⟩
 have h125:=k24
 refine wp_seq (wp_region_list ?_)
 refine st24.nmB (s:=3) 4 rfl rfl iI [0,2] rfl (λ b127 st127=>?_)
 refine st127.ldW (sb:=3) 4 rfl rfl kT86 rfl (by simp) iI [] rfl [0,2] rfl rfl (λ a126 w126 st126=>?_)
 refine st126.nmB (s:=2) 3 rfl rfl iI [0,49] rfl (λ b129 st129=>?_)
 refine st129.stO (sb:=2) (tv:=49) 3 4 (PV.root.box rfl) rfl rfl rfl kT86 (by simp) (by simp) (by decide) (zD rfl) rfl rfl rfl iI iI [] rfl [0] rfl rfl rfl (λ G128 w128 st128=>?_)
 have st130:=st128.gs (Gs':=[q24_0,q24_1,q24_2,G128,oneB none]) rfl
 refine wpList_nil (za (wp_ret ?_))
 exact st130.rsCO (s:=0) 2 3 rfl kT86 rfl rfl iI iI (by decide) (bxr h125)
def wu(s18:Reader×Tree×Int):Option ((Reader×Tree×Int)⊕(Reader×Tree)):=
if(cmpI .gtr s18.2.2 (0:Int))=true then(Option.bind (α:=Reader×Tree) ((qC s18.1).bind λ v26=>
(XR s18.2.1 v26.2).bind λ v36=>
if(cmpI .lss v36 (0:Int))=true then((appO 80 s18.2.1.files [v26.2]).bind λ v51=>
some (v26.1,(⟨v51⟩:Tree)))
else(some (v26.1,s18.2.1))) λ o23=>
(i64 (s18.2.2 - (1:Int))).bind λ v60=>
some (.inl (o23.1,o23.2,v60)))
else(some (.inr (s18.1,s18.2.1)))
def qD(x0:Reader):Option (Reader×Tree):=
Option.bind (α:=Reader×Tree) ((ya x0 ([(5:Int),(4:Int),(6:Int),(3:Int),(8:Int),(1:Int),(0:Int),(10:Int)]:List Int)).bind λ v12=>
zF (λ s18=>wu s18) (v12.1,(⟨[]⟩:Tree),v12.2)) λ o9=>
some (o9.1,o9.2)
theorem zbc{x0:Reader}{r:Reader×Tree}(h:qD x0=some r):FnS prog 133 (Ow.box (Ow.frz (α:=Reader))) ⟨x0⟩ [] ⟨r.1⟩ (.ow (owTree (Ow.row 86 (owFile (Ow.row 82 (Ow.frz (α:=Stmt)))))) r.2):=by
 unfold qD at h
 refine fnSB (fn:=f133) 1 9 func133 rfl (oD rfl) rfl (λ M G w0 b0 a0 st0=>wp_seq (wp_region_list ?_))
 refine st0.alcW (ow:=(owTree (Ow.row 86 (owFile (Ow.row 82 (Ow.frz (α:=Stmt))))))) 6 rfl rfl kZ25 (owTree.z Ow.row_z) (by simp) [] rfl [0] rfl rfl (λ b1 M1 a1 w1 st1=>?_)
 have st2:=st1.gs (Gs':=[oneB none,G,oneB none,oneB none,oneB none,oneB none,(oneB (some b1)),oneB none,oneB none]) rfl
 refine wpList_nil (za (wp_seq (wp_region_list ?_)))
 refine st2.bldW (ow:=(owTree (Ow.row 86 (owFile (Ow.row 82 (Ow.frz (α:=Stmt))))))) (parts:=[]) (ns:=[1]) (zs:=zpTree) (x:=(⟨[]⟩:Tree)) 0 [] rfl rfl rfl kB25 kC25 (by simp) (((owTree (Ow.row 86 (owFile (Ow.row 82 (Ow.frz (α:=Stmt))))))).more (owTree.mk (x:=(⟨[]⟩:Tree)) (Ow.row_z _ _)) (λ b=>(λ hb=>hb.elim))) (by simp) [] rfl [0,2] rfl rfl rfl (λ G3 a3 w3 st3=>?_)
 have st4:=st3.gs (Gs':=[G3,G,oneB none,oneB none,oneB none,oneB none,(oneB (some b1)),oneB none,oneB none]) rfl
 refine st4.alcW (ow:=(owTree (Ow.row 86 (owFile (Ow.row 82 (Ow.frz (α:=Stmt))))))) 7 rfl rfl kZ25 (owTree.z Ow.row_z) (by simp) [] rfl [0,2,6] rfl rfl (λ b5 M5 a5 w5 st5=>?_)
 have st6:=st5.gs (Gs':=[G3,G,oneB none,oneB none,oneB none,oneB none,(oneB (some b1)),(oneB (some b5)),oneB none]) rfl
 refine st6.stO (sb:=3) (tv:=6) 7 0 (PV.root.box rfl) rfl rfl rfl kT25 (by simp) (by simp) (by decide) (zD rfl) rfl rfl rfl iI iI [] rfl [0,2] rfl rfl rfl (λ G7 w7 st7=>?_)
 have st8:=st7.gs (Gs':=[oneB none,G,oneB none,oneB none,oneB none,oneB none,(oneB (some b1)),G7,oneB none]) rfl
 refine wpList_nil (za ?_)
 obtain⟨o9,p9,k9⟩:=bs h
 refine zj (λ a w=>∃ M1 q9_0 q9_1 q9_2 q9_3 q9_4 q9_5 q9_6 q9_7 q9_8,Sx (Frm.chg w0 G) 27 M M1 [q9_0,q9_1,q9_2,q9_3,q9_4,q9_5,q9_6,q9_7,q9_8] [] [(0,1,dnm (Ow.box (Ow.frz (α:=Reader))) q9_1 ⟨o9.1⟩ (.pointer (some ⟨b0,0,none⟩)) []),(2,6,dow (Ow.box (owTree (Ow.row 86 (owFile (Ow.row 82 (Ow.frz (α:=Stmt))))))) q9_6 ⟨WM⟩),(3,7,dow (Ow.box (owTree (Ow.row 86 (owFile (Ow.row 82 (Ow.frz (α:=Stmt))))))) q9_7 ⟨o9.2⟩)] a w) ?_ ?_
 ·
  refine wp_seq (wp_region_list ?_)
  refine st8.seg 2 (
   sc rfl (oM rfl (zD rfl))<|sc rfl (yf (opds:=[.const (.int .i64 5),.const (.int .i64 4),.const (.int .i64 6),.const (.int .i64 3),.const (.int .i64 8),.const (.int .i64 1),.const (.int .i64 0),.const (.int .i64 10)]) rfl kS26 kY26 rfl rfl (by decide) (.cons cI (.cons cI (.cons cI (.cons cI (.cons cI (.cons cI (.cons cI (.cons cI .nil)))))))))<|.nil) [7,8] rfl [(0,1),(2,6),(3,7)] rfl ⟨iI,⟨iI,iT⟩⟩ (λ a10 w10 st10=>?_)
  obtain⟨v12,p12,h13⟩:=bs p9
  refine st10.cSF (l:=[.tmp 8]) 1 (st10.bkN (s:=0) rfl iI) rfl rfl kN73 (Eq.trans (st10.st.has 7 _ rfl) (st10.st.has 0 _ rfl).1.symm) (by simp) (.cons (tp rfl) .nil) (xk p12) [] rfl [2,3] rfl rfl (by decide) (λ G11 M11 a11 w11 st11=>?_)
  have st14:=st11.gs (Gs':=[oneB none,G11,oneB none,oneB none,oneB none,oneB none,(oneB (some b1)),G7,oneB none]) rfl
  refine st14.seg 1 (
   sc rfl (oA rfl (tp rfl))<|.nil) [4] rfl [(0,1),(2,6),(3,7)] rfl ⟨iI,⟨iI,iT⟩⟩ (λ a15 w15 st15=>?_)
  refine wpList_nil (za (wp_block ?_))
  have st16:=st15.unm (s:=2) 6 rfl rfl iI [0,3] rfl
  have st17:=st16.unm (s:=3) 7 rfl rfl iI [0,2] rfl
  refine zB h13 (λ s18 a w=>∃ M1 q18_0 q18_1 q18_2 q18_3 q18_4 q18_5 q18_6 q18_7 q18_8,Sx (Frm.chg w0 G) 27 M M1 [q18_0,q18_1,q18_2,q18_3,q18_4,q18_5,q18_6,q18_7,q18_8] [(4,dt s18.2.2)] [(0,1,dnm (Ow.box (Ow.frz (α:=Reader))) q18_1 ⟨s18.1⟩ (.pointer (some ⟨b0,0,none⟩)) []),(2,6,dow (Ow.box (owTree (Ow.row 86 (owFile (Ow.row 82 (Ow.frz (α:=Stmt))))))) q18_6 ⟨WM⟩),(3,7,dow (Ow.box (owTree (Ow.row 86 (owFile (Ow.row 82 (Ow.frz (α:=Stmt))))))) q18_7 ⟨s18.2.1⟩)] a w) ⟨_,_,_,_,_,_,_,_,_,_,st17.sel [4] rfl [(0,1),(2,6),(3,7)] rfl ⟨iI,⟨iI,iT⟩⟩⟩ ?_
  rintro s18 z18 a18 w18 ⟨M18,q18_0,q18_1,q18_2,q18_3,q18_4,q18_5,q18_6,q18_7,q18_8,st18⟩ hs18 hx18
  have h19:wu s18=some z18:=hs18
  unfold wu at h19
  refine wp_seq ?_
  refine st18.sq (sc rfl (oM rfl (tp rfl))<|sc rfl (oCI rfl (tp rfl) cI)<|.nil) [4,11] rfl [(0,1),(2,6),(3,7)] rfl ⟨iI,⟨iI,iT⟩⟩ (λ a20 w20 st20=>?_)
  refine st20.cs (c:=11) rfl h19 (λ c21 h21=>?_) (λ c22 h22=>?_)
  ·
   refine wp_skip (za ?_)
   obtain⟨o23,p23,k23⟩:=bs h21
   refine zj (λ a w=>∃ M1 q23_0 q23_1 q23_2 q23_3 q23_4 q23_5 q23_6 q23_7 q23_8,Sx (Frm.chg w0 G) 27 M M1 [q23_0,q23_1,q23_2,q23_3,q23_4,q23_5,q23_6,q23_7,q23_8] [(4,dt s18.2.2)] [(0,1,dnm (Ow.box (Ow.frz (α:=Reader))) q23_1 ⟨o23.1⟩ (.pointer (some ⟨b0,0,none⟩)) []),(2,6,dow (Ow.box (owTree (Ow.row 86 (owFile (Ow.row 82 (Ow.frz (α:=Stmt))))))) q23_6 ⟨WM⟩),(3,7,dow (Ow.box (owTree (Ow.row 86 (owFile (Ow.row 82 (Ow.frz (α:=Stmt))))))) q23_7 ⟨o23.2⟩)] a w) ?_ ?_
   ·
    refine wp_block (wp_seq (wp_region_list ?_))
    refine st20.seg 1 (
      sc rfl (oM rfl (zD rfl))<|.nil) [4,14] rfl [(0,1),(2,6),(3,7)] rfl ⟨iI,⟨iI,iT⟩⟩ (λ a24 w24 st24=>?_)
    obtain⟨v26,p26,h27⟩:=bs p23
    refine st24.cSO (l:=[]) 1 2 (st24.bkN (s:=0) rfl iI) rfl rfl kN163 (Eq.trans (st24.st.has 14 _ rfl) (st24.st.has 0 _ rfl).1.symm) (by simp) (by simp) (by decide) .nil (zbb p26) [4] rfl [2,3] rfl rfl rfl rfl (by decide) (λ G25 H25 M25 a25 w25 st25=>?_)
    have st28:=st25.gs (Gs':=[q18_0,G25,H25,q18_3,q18_4,q18_5,q18_6,q18_7,q18_8]) rfl
    refine st28.alcW (ow:=(owFile (Ow.row 82 (Ow.frz (α:=Stmt))))) 8 rfl rfl kZ86 (owFile.z Ow.row_z) (by simp) [4] rfl [0,2,3,15] rfl rfl (λ b29 M29 a29 w29 st29=>?_)
    have st30:=st29.gs (Gs':=[q18_0,G25,H25,q18_3,q18_4,q18_5,q18_6,q18_7,(oneB (some b29))]) rfl
    refine st30.stO (sb:=5) (tv:=15) 8 2 (PV.root.box rfl) rfl rfl rfl kT86 (by simp) (by simp) (by decide) (zD rfl) rfl rfl rfl iI iI [4] rfl [0,2,3] rfl rfl rfl (λ G31 w31 st31=>?_)
    have st32:=st31.gs (Gs':=[q18_0,G25,oneB none,q18_3,q18_4,q18_5,q18_6,q18_7,G31]) rfl
    refine wpList_nil (za ?_)
    obtain⟨v36,p36,h37⟩:=bs h27
    refine st32.nmB (s:=3) 7 rfl rfl iI [0,2,5] rfl (λ b33 st33=>?_)
    refine st33.hdW (s:=3) 7 true (λ _=>(PV.root.box rfl)) rfl rfl iI [0,2,5] rfl (λ cs34 hS34 st34=>?_)
    refine st34.hdW (s:=5) 8 true (λ _=>(PV.root.box rfl)) rfl rfl iI [0,2,3] rfl (λ cs35 hS35 st35=>?_)
    refine st35.sq (sc rfl (xLw (sb:=3) (.head _) rfl (hS34 rfl) rfl kT25 (zD rfl) rfl)<|sc rfl (xLw (sb:=5) (.head _) rfl (hS35 rfl) rfl kT86 (zD rfl) rfl)<|sc rfl (qN (l:=[.tmp 16,.tmp 17]) st35.ob.sub rfl kN77 (.cons (lendP (sb:=3) st35.ob 7 (PV.root.box rfl) (.head _) rfl (fits_all rfl (hS34 rfl)) (tp rfl) rfl iI) (.cons (lendP (sb:=5) st35.ob 8 (PV.root.box rfl) (.head _) rfl (fits_all rfl (hS35 rfl)) (tp rfl) rfl iI) .nil)) (spec_fileAt_w p36) WX)<|sc rfl (oCI rfl (tp rfl) cI)<|.nil) [4,19] rfl [(0,1),(2,6),(3,7),(5,8)] rfl ⟨iI,⟨iI,⟨iI,iT⟩⟩⟩ (λ a38 w38 st38=>?_)
    have st39:=st38.ncf (s:=3) 7 rfl rfl iI [0,2,5] rfl
    have st40:=st39.ncf (s:=5) 8 rfl rfl iI [0,2,3] rfl
    refine st40.cs (c:=19) rfl h37 (λ c41 h41=>?_) (λ c42 h42=>?_)
    ·
     refine wp_region_list ?_
     refine st40.hdR (s:=3) 7 true (λ _=>((PV.root.box rfl).fld owTree.f0)) rfl rfl iI [0,2,5] rfl (λ g43 A43 c43 hA43 st43=>?_)
     refine st43.seg 2 (
       sc rfl (xFa rfl Zf (zD rfl))<|sc rfl (xLc (sb:=3) (.head _) rfl rfl rfl kT23 (tp rfl) rfl)<|.nil) [4,21] rfl [(0,1),(2,6),(3,7),(5,8)] rfl ⟨iI,⟨iI,⟨iI,iT⟩⟩⟩ (λ a44 w44 st44=>?_)
     refine st44.ldW (sb:=5) 8 rfl rfl kT86 rfl (by simp) iI [4,21] rfl [0,2,3] rfl rfl (λ a45 w45 st45=>?_)
     refine st45.litW (oe:=(owFile (Ow.row 82 (Ow.frz (α:=Stmt))))) (opds:=[.tmp 22]) (xs:=[v26.2]) 4 [8] rfl rfl kI23 kY23 rfl rfl (by decide) rfl (by decide) (rowW_lit (Y2 (st45.st.has 22 _ rfl)) (λ b hb=>⟨8,by simp,hb⟩)) (λ q hq=>by
 simp only[List.mem_cons,List.not_mem_nil,or_false] at hq
 subst hq
 exact Ow.len _ (Y2 (st45.st.has 22 _ rfl))) (by simp) [4,21] rfl [0,2,3] rfl rfl rfl (by decide) (λ G46 M46 a46 w46 st46=>?_)
     have st47:=st46.gs (Gs':=[q18_0,G25,oneB none,q18_3,G46,q18_5,q18_6,q18_7,oneB none]) rfl
     refine st47.mvG (s:=21) (sb:=3) 7 5 ((PV.root.box rfl).fld owTree.f0) (.head _) rfl (qT rfl rfl) rfl (by simp) (by simp) (by decide) rfl iI [4] rfl [0,2,23] rfl rfl rfl rfl (λ G49 H49 st49=>?_)
     have st50:=st49.gs (Gs':=[q18_0,G25,oneB none,q18_3,G46,H49,q18_6,G49,oneB none]) rfl
     obtain⟨v51,p51,h52⟩:=bs h41
     refine st50.appW 5 4 rfl rfl kE23 rfl rfl (by simp) (by simp) (by decide) iI iI p51 [4] rfl [0,2,3] rfl rfl rfl (λ G48 M48 a48 w48 st48=>?_)
     have st53:=st48.gs (Gs':=[q18_0,G25,oneB none,q18_3,oneB none,G48,q18_6,G49,oneB none]) rfl
     refine st53.seg 1 (
       sc rfl (xFa rfl Zf (opd_hl rfl))<|.nil) [4,25] rfl [(0,1),(2,6),(3,7),(24,5)] rfl ⟨iI,⟨iI,⟨iI,iT⟩⟩⟩ (λ a54 w54 st54=>?_)
     refine st54.stH (sb:=3) (tv:=24) 7 5 rfl rfl rfl kT23 (by simp) (by simp) (by decide) (tp rfl) rfl rfl iI iI [4] rfl [0,2] rfl rfl rfl (λ G55 w55 st55=>?_)
     have st56:=st55.gs (Gs':=[q18_0,G25,oneB none,q18_3,oneB none,oneB none,q18_6,G55,oneB none]) rfl
     refine wpList_nil (ze ?_)
     have st57:=st56.unm (s:=3) 7 rfl rfl iI [0,2] rfl
     refine za ?_
     obtain rfl:=Option.some.inj h52
     exact⟨_,_,_,_,_,_,_,_,_,_,st57.sel [4] rfl [(0,1),(2,6),(3,7)] rfl ⟨iI,⟨iI,iT⟩⟩⟩
    refine wp_skip (ze ?_)
    have st58:=st40.unm (s:=3) 7 rfl rfl iI [0,2,5] rfl
    refine za ?_
    obtain rfl:=Option.some.inj h42
    exact⟨_,_,_,_,_,_,_,_,_,_,st58.sel [4] rfl [(0,1),(2,6),(3,7)] rfl ⟨iI,⟨iI,iT⟩⟩⟩
   rintro a23 w23 ⟨M23,q23_0,q23_1,q23_2,q23_3,q23_4,q23_5,q23_6,q23_7,q23_8,st23⟩
   have h59:=k23
   obtain⟨v60,p60,h61⟩:=bs h59
   refine st23.rg (sc rfl (oM rfl (tp rfl))<|sc rfl (xAr rfl (tp rfl) cI p60)<|sc rfl (oA rfl (tp rfl))<|.nil) [4] rfl [(0,1),(2,6),(3,7)] rfl ⟨iI,⟨iI,iT⟩⟩ (λ a62 w62 st62=>za ?_)
   exact⟨_,(Option.some.inj h61).symm,⟨_,_,_,_,_,_,_,_,_,_,st62.sel [4] rfl [(0,1),(2,6),(3,7)] rfl ⟨iI,⟨iI,iT⟩⟩⟩⟩
  refine wp_exit (zh (zh (zv ?_)))
  refine za ?_
  have h63:=lo h22 hx18
  obtain rfl:=Option.some.inj h63
  exact⟨_,_,_,_,_,_,_,_,_,_,st20.sel [] rfl [(0,1),(2,6),(3,7)] rfl ⟨iI,⟨iI,iT⟩⟩⟩
 rintro a9 w9 ⟨M9,q9_0,q9_1,q9_2,q9_3,q9_4,q9_5,q9_6,q9_7,q9_8,st9⟩
 have h64:=k9
 refine wp_seq (wp_region_list ?_)
 refine st9.nmB (s:=3) 7 rfl rfl iI [0,2] rfl (λ b66 st66=>?_)
 refine st66.ldW (sb:=3) 7 rfl rfl kT25 rfl (by simp) iI [] rfl [0,2] rfl rfl (λ a65 w65 st65=>?_)
 refine st65.nmB (s:=2) 6 rfl rfl iI [0,26] rfl (λ b68 st68=>?_)
 refine st68.stO (sb:=2) (tv:=26) 6 7 (PV.root.box rfl) rfl rfl rfl kT25 (by simp) (by simp) (by decide) (zD rfl) rfl rfl rfl iI iI [] rfl [0] rfl rfl rfl (λ G67 w67 st67=>?_)
 have st69:=st67.gs (Gs':=[q9_0,q9_1,q9_2,q9_3,q9_4,q9_5,G67,oneB none,q9_8]) rfl
 refine wpList_nil (za (wp_ret ?_))
 exact st69.rsCO (s:=0) 1 6 rfl kT25 rfl rfl iI iI (by decide) (bxr h64)
open Go.RowKit Tryz
set_option maxRecDepth 10000
set_option maxHeartbeats 1600000
theorem kS140:slB prog 140 1=true:=by kernel_rfl
theorem kY140:zlB prog 140=true:=by kernel_rfl
theorem kN134:fnB prog 134=true:=by kernel_rfl
theorem kN33:fnB prog 33=true:=by kernel_rfl
theorem kN11:fnB prog 11=true:=by kernel_rfl
theorem kN31:fnB prog 31=true:=by kernel_rfl
def qW(x0:Reader):Option (Reader×(List Int)):=
(zA x0 (20:Int)).bind λ v4=>
if(cmpI .eql v4.2 (0:Int))=true then((zA v4.1 (3:Int)).bind λ v11=>
(atI ([([]:List Int),([(0:Int),(0:Int)]:List Int),([(3:Int)]:List Int)]:List (List Int)) v11.2).bind λ v13=>
some (v11.1,v13))
else((qB v4.1).bind λ v18=>
some (v18.1,v18.2))
theorem zby{x0:Reader}{r:Reader×(List Int)}(h:qW x0=some r):FnS prog 106 (Ow.box (Ow.frz (α:=Reader))) ⟨x0⟩ [] ⟨r.1⟩ (.frz (dt r.2)):=by
 unfold qW at h
 refine fnSB (fn:=f106) 0 1 func106 rfl (oD rfl) rfl (λ M G w0 b0 a0 st0=>?_)
 refine st0.sq (sc rfl (oA rfl (xN (α:=Int)))<|.nil) [] rfl [(0,0)] rfl iT (λ a1 w1 st1=>wp_seq (wp_seq (wp_region_list ?_)))
 refine st1.seg 1 (
  sc rfl (oM rfl (zD rfl))<|.nil) [3] rfl [(0,0)] rfl iT (λ a2 w2 st2=>?_)
 obtain⟨v4,p4,h5⟩:=bs h
 refine st2.cSF (l:=[.const (.int .i64 20)]) 0 (st2.bkN (s:=0) rfl iI) rfl rfl kN70 (Eq.trans (st2.st.has 3 _ rfl) (st2.st.has 0 _ rfl).1.symm) (by simp) (.cons cI .nil) (zE p4) [] rfl [] rfl rfl (by decide) (λ G3 M3 a3 w3 st3=>?_)
 refine st3.seg 1 (
  sc rfl (oCI rfl (tp rfl) cI)<|.nil) [5] rfl [(0,0)] rfl iT (λ a6 w6 st6=>?_)
 refine wpList_nil (za ?_)
 refine st6.cs (c:=5) rfl h5 (λ c7 h7=>?_) (λ c8 h8=>?_)
 ·
  refine wp_seq (wp_region_list ?_)
  refine st6.seg 5 (
   sc rfl (yf (opds:=[]) (α:=Int) rfl kS26 kY26 rfl rfl (by decide) .nil)<|sc rfl (yf (opds:=[.const (.int .i64 0),.const (.int .i64 0)]) rfl kS26 kY26 rfl rfl (by decide) (.cons cI (.cons cI .nil)))<|sc rfl (yf (opds:=[.const (.int .i64 3)]) rfl kS26 kY26 rfl rfl (by decide) (.cons cI .nil))<|sc rfl (yf (opds:=[.tmp 6,.tmp 7,.tmp 8]) rfl kS140 kY140 rfl rfl (by decide) (.cons (tp rfl) (.cons (tp rfl) (.cons (tp rfl) .nil))))<|sc rfl (oM rfl (zD rfl))<|.nil) [9,10] rfl [(0,0)] rfl iT (λ a9 w9 st9=>?_)
  obtain⟨v11,p11,h12⟩:=bs h7
  refine st9.cSF (l:=[.const (.int .i64 3)]) 0 (st9.bkN (s:=0) rfl iI) rfl rfl kN70 (Eq.trans (st9.st.has 10 _ rfl) (st9.st.has 0 _ rfl).1.symm) (by simp) (.cons cI .nil) (zE p11) [9] rfl [] rfl rfl (by decide) (λ G10 M10 a10 w10 st10=>?_)
  obtain⟨v13,p13,h14⟩:=bs h12
  refine st10.seg 3 (
   sc rfl (xIdx rfl kS140 (tp rfl) (tp rfl) p13)<|sc rfl (zk rfl kT26 (tp rfl))<|sc rfl (oA rfl (tp rfl))<|.nil) [2] rfl [(0,0)] rfl iT (λ a15 w15 st15=>?_)
  refine wpList_nil (za ?_)
  refine wp_ret (zd ?_)
  exact st15.rsD (s:=0) 0 rfl rfl rfl iI (bxr h14)
 refine wp_skip (za (wp_seq (wp_region_list ?_)))
 refine st6.seg 1 (
  sc rfl (oM rfl (zD rfl))<|.nil) [14] rfl [(0,0)] rfl iT (λ a16 w16 st16=>?_)
 obtain⟨v18,p18,h19⟩:=bs h8
 refine st16.cSF (l:=[]) 0 (st16.bkN (s:=0) rfl iI) rfl rfl kN134 (Eq.trans (st16.st.has 14 _ rfl) (st16.st.has 0 _ rfl).1.symm) (by simp) .nil (zba p18) [] rfl [] rfl rfl (by decide) (λ G17 M17 a17 w17 st17=>?_)
 refine st17.seg 1 (
  sc rfl (oA rfl (tp rfl))<|.nil) [2] rfl [(0,0)] rfl iT (λ a20 w20 st20=>?_)
 refine wpList_nil (za (wp_ret ?_))
 exact st20.rsD (s:=0) 0 rfl rfl rfl iI (bxr h19)
def wz(x0:List Str)(x1:List Str)(s8:Int):Option (Int⊕(Unit⊕Bool)):=
if(cmpI .lss s8 (x0.length:Int))=true then((atI x0 s8).bind λ v13=>
(atI x1 s8).bind λ v14=>
if(decide (v13≠v14))=true then(some (.inr (.inr false)))
else((i64 (s8+(1:Int))).bind λ v23=>
some (.inl v23)))
else(some (.inr (.inl ())))
def xl(x0:List Str)(x1:List Str):Option Bool:=
if(cmpI .neq (x0.length:Int) (x1.length:Int))=true then(some false)
else(Option.bind (α:=Unit⊕Bool) (zF (λ s8=>wz x0 x1 s8) (0:Int)) (Sum.elim (λ _b6=>
some true) some))
theorem Z0{x0:List Str}{x1:List Str}{r:Bool}(h:xl x0 x1=some r):Fn prog 31 [dt x0,dt x1] (dt r):=by
 unfold xl at h
 refine fnx (fn:=f31) 0 func31 rfl (oD rfl) rfl (λ M w0 a0 st0=>?_)
 refine st0.sq0 (sc rfl (oA rfl cB)<|.nil) [0,1] rfl (λ a1 w1 st1=>wp_seq ?_)
 refine st1.sq0 (sc rfl (oM rfl (tp rfl))<|sc rfl (z6 rfl kL32 (tp rfl))<|sc rfl (oM rfl (tp rfl))<|sc rfl (z6 rfl kL32 (tp rfl))<|sc rfl (oCI rfl (tp rfl) (tp rfl))<|.nil) [0,1,10] rfl (λ a2 w2 st2=>?_)
 refine st2.cs (c:=10) rfl h (λ c3 h3=>?_) (λ c4 h4=>?_)
 ·
  refine st2.sq0 (sc rfl (oA rfl cB)<|.nil) [4] rfl (λ a5 w5 st5=>wp_ret (zd ?_))
  exact st5.ret rfl rfl h3
 refine wp_skip (za ?_)
 obtain⟨o6,p6,k6⟩:=bs h4
 refine zj (λ a w=>∃ b6,o6=.inl b6/\Sx (Frm.of w0) 26 M M [] [] [] a w) ?_ ?_
 ·
  refine st2.sq0 (sc rfl (oA rfl cI)<|.nil) [0,1,5] rfl (λ a7 w7 st7=>wp_block ?_)
  refine zB p6 (λ s8 a w=>Sx (Frm.of w0) 26 M M [] [(0,dt x0),(1,dt x1),(5,dt s8)] [] a w) (st7.sel0 [0,1,5] rfl) ?_
  rintro s8 z8 a8 w8 st8 hs8 hx8
  have h9:wz x0 x1 s8=some z8:=hs8
  unfold wz at h9
  refine wp_seq ?_
  refine st8.sq0 (sc rfl (oM rfl (tp rfl))<|sc rfl (oM rfl (tp rfl))<|sc rfl (z6 rfl kL32 (tp rfl))<|sc rfl (oCI rfl (tp rfl) (tp rfl))<|.nil) [0,1,5,14] rfl (λ a10 w10 st10=>?_)
  refine st10.cs (c:=14) rfl h9 (λ c11 h11=>?_) (λ c12 h12=>?_)
  ·
   refine wp_skip (za (wp_seq (wp_block (wp_seq ?_))))
   obtain⟨v13,p13,v14,p14,h16⟩:=bsB h11
   refine st10.dr (D:=[_,_,_,_,_,_,_,_,_]) zO [[(0,nS)],[(5,nS)],[(17,0),(18,1)],[(19,2)],[(1,nS)],[(5,nS)],[(21,4),(22,5)],[(23,6)],[(20,3),(24,7)]] (by decide +kernel) (
    rc rfl rfl (oM rfl (tp rfl))<|rc rfl rfl (oM rfl (tp rfl))<|rc rfl rfl (xIdx rfl kS32 (tp rfl) (tp rfl) p13)<|rc rfl rfl (zk rfl kT9 (tp rfl))<|rc rfl rfl (oM rfl (tp rfl))<|rc rfl rfl (oM rfl (tp rfl))<|rc rfl rfl (xIdx rfl kS32 (tp rfl) (tp rfl) p14)<|rc rfl rfl (zk rfl kT9 (tp rfl))<|rc rfl rfl (Xa rfl (tp rfl) (tp rfl))<|.nil) [0,1,5,25] rfl [] rfl trivial (λ a17 w17 st17=>?_)
   refine za ?_
   refine st17.cs (c:=25) rfl h16 (λ c18 h18=>?_) (λ c19 h19=>?_)
   ·
    refine st17.sq0 (sc rfl (oA rfl cB)<|.nil) [4] rfl (λ a20 w20 st20=>wp_ret (zt (zd (zd (zt (zd ?_))))))
    have h21:=lo h18 hx8
    have h22:=jo h21 k6
    exact st20.ret rfl rfl h22
   refine wp_skip (ze (za ?_))
   obtain⟨v23,p23,h24⟩:=bs h19
   refine st17.rg0 (sc rfl (oM rfl (tp rfl))<|sc rfl (xAr rfl (tp rfl) cI p23)<|sc rfl (oA rfl (tp rfl))<|.nil) [0,1,5] rfl (λ a25 w25 st25=>za ?_)
   exact⟨_,(Option.some.inj h24).symm,st25.sel0 [0,1,5] rfl⟩
  refine wp_exit (zh (zh (zv ?_)))
  refine za ?_
  have h26:=lo h12 hx8
  exact⟨_,(Option.some.inj h26).symm,st10.sel0 [] rfl⟩
 rintro a6 w6 ⟨b6,rfl,st6⟩
 have h27:=jn k6
 refine st6.sq0 (sc rfl (oA rfl cB)<|.nil) [4] rfl (λ a28 w28 st28=>wp_ret ?_)
 exact st28.ret rfl rfl h27
def yF(x0:List Str)(x1:Str)(s4:Int):Option (Int⊕(Unit⊕Int)):=
if(cmpI .lss s4 (x0.length:Int))=true then((atI x0 s4).bind λ v9=>
if(decide (v9=x1))=true then(some (.inr (.inr s4)))
else((i64 (s4+(1:Int))).bind λ v17=>
some (.inl v17)))
else(some (.inr (.inl ())))
def wU(x0:List Str)(x1:Str):Option Int:=
Option.bind (α:=Unit⊕Int) (zF (λ s4=>yF x0 x1 s4) (0:Int)) (Sum.elim (λ _b2=>
some (-1:Int)) some)
theorem XS{x0:List Str}{x1:Str}{r:Int}(h:wU x0 x1=some r):Fn prog 33 [dt x0,dt x1] (dt r):=by
 unfold wU at h
 refine fnx (fn:=f33) 0 func33 rfl (oD rfl) rfl (λ M w0 a0 st0=>?_)
 refine st0.sq0 (sc rfl (oA rfl cI)<|.nil) [0,1] rfl (λ a1 w1 st1=>?_)
 obtain⟨o2,p2,k2⟩:=bs h
 refine zj (λ a w=>∃ b2,o2=.inl b2/\Sx (Frm.of w0) 19 M M [] [] [] a w) ?_ ?_
 ·
  refine st1.sq0 (sc rfl (oA rfl cI)<|.nil) [0,1,5] rfl (λ a3 w3 st3=>wp_block ?_)
  refine zB p2 (λ s4 a w=>Sx (Frm.of w0) 19 M M [] [(0,dt x0),(1,dt x1),(5,dt s4)] [] a w) (st3.sel0 [0,1,5] rfl) ?_
  rintro s4 z4 a4 w4 st4 hs4 hx4
  have h5:yF x0 x1 s4=some z4:=hs4
  unfold yF at h5
  refine wp_seq ?_
  refine st4.sq0 (sc rfl (oM rfl (tp rfl))<|sc rfl (oM rfl (tp rfl))<|sc rfl (z6 rfl kL32 (tp rfl))<|sc rfl (oCI rfl (tp rfl) (tp rfl))<|.nil) [0,1,5,9] rfl (λ a6 w6 st6=>?_)
  refine st6.cs (c:=9) rfl h5 (λ c7 h7=>?_) (λ c8 h8=>?_)
  ·
   refine wp_skip (za (wp_seq (wp_block ?_)))
   obtain⟨v9,p9,h10⟩:=bs h7
   refine st6.sq0 (sc rfl (oM rfl (tp rfl))<|sc rfl (oM rfl (tp rfl))<|sc rfl (xIdx rfl kS32 (tp rfl) (tp rfl) p9)<|sc rfl (zk rfl kT9 (tp rfl))<|sc rfl (oM rfl (tp rfl))<|sc rfl (jP rfl (tp rfl) (tp rfl))<|.nil) [0,1,5,17] rfl (λ a11 w11 st11=>?_)
   refine st11.cs (c:=17) rfl h10 (λ c12 h12=>?_) (λ c13 h13=>?_)
   ·
    refine st11.sq0 (sc rfl (oM rfl (tp rfl))<|sc rfl (oA rfl (tp rfl))<|.nil) [4] rfl (λ a14 w14 st14=>wp_ret (zt (zd (zd (zt (zd ?_))))))
    have h15:=lo h12 hx4
    have h16:=jo h15 k2
    exact st14.ret rfl rfl h16
   refine wp_skip (ze (za ?_))
   obtain⟨v17,p17,h18⟩:=bs h13
   refine st11.rg0 (sc rfl (oM rfl (tp rfl))<|sc rfl (xAr rfl (tp rfl) cI p17)<|sc rfl (oA rfl (tp rfl))<|.nil) [0,1,5] rfl (λ a19 w19 st19=>za ?_)
   exact⟨_,(Option.some.inj h18).symm,st19.sel0 [0,1,5] rfl⟩
  refine wp_exit (zh (zh (zv ?_)))
  refine za ?_
  have h20:=lo h8 hx4
  exact⟨_,(Option.some.inj h20).symm,st6.sel0 [] rfl⟩
 rintro a2 w2 ⟨b2,rfl,st2⟩
 have h21:=jn k2
 refine st2.sq0 (sc rfl (oA rfl cI)<|.nil) [4] rfl (λ a22 w22 st22=>wp_ret ?_)
 exact st22.ret rfl rfl h21
def jq(x0:List Str)(x1:Str):Option Bool:=
(wU x0 x1).bind λ v2=>
some (cmpI .geq v2 (0:Int))
theorem Jg{x0:List Str}{x1:Str}{r:Bool}(h:jq x0 x1=some r):Fn prog 11 [dt x0,dt x1] (dt r):=by
 unfold jq at h
 refine fnx (fn:=f11) 0 func11 rfl (oD rfl) rfl (λ M w0 a0 st0=>?_)
 refine st0.sq0 (sc rfl (oA rfl cB)<|.nil) [0,1] rfl (λ a1 w1 st1=>?_)
 obtain⟨v2,p2,h3⟩:=bs h
 refine st1.sq0 (sc rfl (oM rfl (tp rfl))<|sc rfl (oM rfl (tp rfl))<|sc rfl (zn (l:=[.tmp 5,.tmp 6]) rfl kN33 (.cons (tp rfl) (.cons (tp rfl) .nil)) (XS p2))<|sc rfl (oCI rfl (tp rfl) cI)<|sc rfl (oA rfl (tp rfl))<|.nil) [4] rfl (λ a4 w4 st4=>wp_ret ?_)
 exact st4.ret rfl rfl h3
def xn(x0:List Str)(x1:List Str)(s4:Int):Option (Int⊕(Unit⊕Bool)):=
if(cmpI .lss s4 (x0.length:Int))=true then((atI x0 s4).bind λ v9=>
(jq x1 v9).bind λ v10=>
if(!v10)=true then(some (.inr (.inr false)))
else((i64 (s4+(1:Int))).bind λ v19=>
some (.inl v19)))
else(some (.inr (.inl ())))
def zW(x0:List Str)(x1:List Str):Option Bool:=
Option.bind (α:=Unit⊕Bool) (zF (λ s4=>xn x0 x1 s4) (0:Int)) (Sum.elim (λ _b2=>
some true) some)
theorem qq{x0:List Str}{x1:List Str}{r:Bool}(h:zW x0 x1=some r):Fn prog 13 [dt x0,dt x1] (dt r):=by
 unfold zW at h
 refine fnx (fn:=f13) 0 func13 rfl (oD rfl) rfl (λ M w0 a0 st0=>?_)
 refine st0.sq0 (sc rfl (oA rfl cB)<|.nil) [0,1] rfl (λ a1 w1 st1=>?_)
 obtain⟨o2,p2,k2⟩:=bs h
 refine zj (λ a w=>∃ b2,o2=.inl b2/\Sx (Frm.of w0) 19 M M [] [] [] a w) ?_ ?_
 ·
  refine st1.sq0 (sc rfl (oA rfl cI)<|.nil) [0,1,5] rfl (λ a3 w3 st3=>wp_block ?_)
  refine zB p2 (λ s4 a w=>Sx (Frm.of w0) 19 M M [] [(0,dt x0),(1,dt x1),(5,dt s4)] [] a w) (st3.sel0 [0,1,5] rfl) ?_
  rintro s4 z4 a4 w4 st4 hs4 hx4
  have h5:xn x0 x1 s4=some z4:=hs4
  unfold xn at h5
  refine wp_seq ?_
  refine st4.sq0 (sc rfl (oM rfl (tp rfl))<|sc rfl (oM rfl (tp rfl))<|sc rfl (z6 rfl kL32 (tp rfl))<|sc rfl (oCI rfl (tp rfl) (tp rfl))<|.nil) [0,1,5,9] rfl (λ a6 w6 st6=>?_)
  refine st6.cs (c:=9) rfl h5 (λ c7 h7=>?_) (λ c8 h8=>?_)
  ·
   refine wp_skip (za (wp_seq (wp_block ?_)))
   obtain⟨v9,p9,v10,p10,h12⟩:=bsB h7
   refine st6.sq0 (sc rfl (oM rfl (tp rfl))<|sc rfl (oM rfl (tp rfl))<|sc rfl (oM rfl (tp rfl))<|sc rfl (xIdx rfl kS32 (tp rfl) (tp rfl) p9)<|sc rfl (zk rfl kT9 (tp rfl))<|sc rfl (zn (l:=[.tmp 12,.tmp 16]) rfl kN11 (.cons (tp rfl) (.cons (tp rfl) .nil)) (Jg p10))<|sc rfl (xo rfl (tp rfl))<|.nil) [0,1,5,18] rfl (λ a13 w13 st13=>?_)
   refine st13.cs (c:=18) rfl h12 (λ c14 h14=>?_) (λ c15 h15=>?_)
   ·
    refine st13.sq0 (sc rfl (oA rfl cB)<|.nil) [4] rfl (λ a16 w16 st16=>wp_ret (zt (zd (zd (zt (zd ?_))))))
    have h17:=lo h14 hx4
    have h18:=jo h17 k2
    exact st16.ret rfl rfl h18
   refine wp_skip (ze (za ?_))
   obtain⟨v19,p19,h20⟩:=bs h15
   refine st13.rg0 (sc rfl (oM rfl (tp rfl))<|sc rfl (xAr rfl (tp rfl) cI p19)<|sc rfl (oA rfl (tp rfl))<|.nil) [0,1,5] rfl (λ a21 w21 st21=>za ?_)
   exact⟨_,(Option.some.inj h20).symm,st21.sel0 [0,1,5] rfl⟩
  refine wp_exit (zh (zh (zv ?_)))
  refine za ?_
  have h22:=lo h8 hx4
  exact⟨_,(Option.some.inj h22).symm,st6.sel0 [] rfl⟩
 rintro a2 w2 ⟨b2,rfl,st2⟩
 have h23:=jn k2
 refine st2.sq0 (sc rfl (oA rfl cB)<|.nil) [4] rfl (λ a24 w24 st24=>wp_ret ?_)
 exact st24.ret rfl rfl h23
def wk(x0:List (List Str))(x1:List (List Str))(s8:Int):Option (Int⊕(Unit⊕Bool)):=
if(cmpI .lss s8 (x0.length:Int))=true then((atI x0 s8).bind λ v13=>
(atI x1 s8).bind λ v14=>
(xl v13 v14).bind λ v15=>
if(!v15)=true then(some (.inr (.inr false)))
else((i64 (s8+(1:Int))).bind λ v25=>
some (.inl v25)))
else(some (.inr (.inl ())))
def xA(x0:List (List Str))(x1:List (List Str)):Option Bool:=
if(cmpI .neq (x0.length:Int) (x1.length:Int))=true then(some false)
else(Option.bind (α:=Unit⊕Bool) (zF (λ s8=>wk x0 x1 s8) (0:Int)) (Sum.elim (λ _b6=>
some true) some))
theorem Xq{x0:List (List Str)}{x1:List (List Str)}{r:Bool}(h:xA x0 x1=some r):Fn prog 9 [dt x0,dt x1] (dt r):=by
 unfold xA at h
 refine fnx (fn:=f9) 0 func9 rfl (oD rfl) rfl (λ M w0 a0 st0=>?_)
 refine st0.sq0 (sc rfl (oA rfl cB)<|.nil) [0,1] rfl (λ a1 w1 st1=>wp_seq ?_)
 refine st1.sq0 (sc rfl (oM rfl (tp rfl))<|sc rfl (z6 rfl kL29 (tp rfl))<|sc rfl (oM rfl (tp rfl))<|sc rfl (z6 rfl kL29 (tp rfl))<|sc rfl (oCI rfl (tp rfl) (tp rfl))<|.nil) [0,1,10] rfl (λ a2 w2 st2=>?_)
 refine st2.cs (c:=10) rfl h (λ c3 h3=>?_) (λ c4 h4=>?_)
 ·
  refine st2.sq0 (sc rfl (oA rfl cB)<|.nil) [4] rfl (λ a5 w5 st5=>wp_ret (zd ?_))
  exact st5.ret rfl rfl h3
 refine wp_skip (za ?_)
 obtain⟨o6,p6,k6⟩:=bs h4
 refine zj (λ a w=>∃ b6,o6=.inl b6/\Sx (Frm.of w0) 27 M M [] [] [] a w) ?_ ?_
 ·
  refine st2.sq0 (sc rfl (oA rfl cI)<|.nil) [0,1,5] rfl (λ a7 w7 st7=>wp_block ?_)
  refine zB p6 (λ s8 a w=>Sx (Frm.of w0) 27 M M [] [(0,dt x0),(1,dt x1),(5,dt s8)] [] a w) (st7.sel0 [0,1,5] rfl) ?_
  rintro s8 z8 a8 w8 st8 hs8 hx8
  have h9:wk x0 x1 s8=some z8:=hs8
  unfold wk at h9
  refine wp_seq ?_
  refine st8.sq0 (sc rfl (oM rfl (tp rfl))<|sc rfl (oM rfl (tp rfl))<|sc rfl (z6 rfl kL29 (tp rfl))<|sc rfl (oCI rfl (tp rfl) (tp rfl))<|.nil) [0,1,5,14] rfl (λ a10 w10 st10=>?_)
  refine st10.cs (c:=14) rfl h9 (λ c11 h11=>?_) (λ c12 h12=>?_)
  ·
   refine wp_skip (za (wp_seq (wp_block (wp_seq ?_))))
   obtain⟨v13,p13,v14,p14,v15,p15,h18⟩:=bsC h11
   refine st10.dr (D:=[_,_,_,_,_,_,_,_,_,_]) zO [[(0,nS)],[(5,nS)],[(17,0),(18,1)],[(19,2)],[(1,nS)],[(5,nS)],[(21,4),(22,5)],[(23,6)],[(20,3),(24,7)],[(25,8)]] (by decide +kernel) (
    rc rfl rfl (oM rfl (tp rfl))<|rc rfl rfl (oM rfl (tp rfl))<|rc rfl rfl (xIdx rfl kS29 (tp rfl) (tp rfl) p13)<|rc rfl rfl (zk rfl kT32 (tp rfl))<|rc rfl rfl (oM rfl (tp rfl))<|rc rfl rfl (oM rfl (tp rfl))<|rc rfl rfl (xIdx rfl kS29 (tp rfl) (tp rfl) p14)<|rc rfl rfl (zk rfl kT32 (tp rfl))<|rc rfl rfl (zn (l:=[.tmp 20,.tmp 24]) rfl kN31 (.cons (tp rfl) (.cons (tp rfl) .nil)) (Z0 p15))<|rc rfl rfl (xo rfl (tp rfl))<|.nil) [0,1,5,26] rfl [] rfl trivial (λ a19 w19 st19=>?_)
   refine za ?_
   refine st19.cs (c:=26) rfl h18 (λ c20 h20=>?_) (λ c21 h21=>?_)
   ·
    refine st19.sq0 (sc rfl (oA rfl cB)<|.nil) [4] rfl (λ a22 w22 st22=>wp_ret (zt (zd (zd (zt (zd ?_))))))
    have h23:=lo h20 hx8
    have h24:=jo h23 k6
    exact st22.ret rfl rfl h24
   refine wp_skip (ze (za ?_))
   obtain⟨v25,p25,h26⟩:=bs h21
   refine st19.rg0 (sc rfl (oM rfl (tp rfl))<|sc rfl (xAr rfl (tp rfl) cI p25)<|sc rfl (oA rfl (tp rfl))<|.nil) [0,1,5] rfl (λ a27 w27 st27=>za ?_)
   exact⟨_,(Option.some.inj h26).symm,st27.sel0 [0,1,5] rfl⟩
  refine wp_exit (zh (zh (zv ?_)))
  refine za ?_
  have h28:=lo h12 hx8
  exact⟨_,(Option.some.inj h28).symm,st10.sel0 [] rfl⟩
 rintro a6 w6 ⟨b6,rfl,st6⟩
 have h29:=jn k6
 refine st6.sq0 (sc rfl (oA rfl cB)<|.nil) [4] rfl (λ a30 w30 st30=>wp_ret ?_)
 exact st30.ret rfl rfl h29
def jA(x0:List Str)(s4:Int):Option (Int⊕(Unit⊕Bool)):=
if(cmpI .lss s4 (x0.length:Int))=true then((atI x0 s4).bind λ v9=>
(i64 (s4 - (1:Int))).bind λ v10=>
(atI x0 v10).bind λ v11=>
if(cmpS .leq v9 v11)=true then(some (.inr (.inr false)))
else((i64 (s4+(1:Int))).bind λ v21=>
some (.inl v21)))
else(some (.inr (.inl ())))
def Z1(x0:List Str):Option Bool:=
Option.bind (α:=Unit⊕Bool) (zF (λ s4=>jA x0 s4) (1:Int)) (Sum.elim (λ _b2=>
some true) some)
theorem laws_rises_w{x0:List Str}{r:Bool}(h:Z1 x0=some r):Fn prog 15 [dt x0] (dt r):=by
 unfold Z1 at h
 refine fnx (fn:=f15) 0 func15 rfl (oD rfl) rfl (λ M w0 a0 st0=>?_)
 refine st0.sq0 (sc rfl (oA rfl cB)<|.nil) [0] rfl (λ a1 w1 st1=>?_)
 obtain⟨o2,p2,k2⟩:=bs h
 refine zj (λ a w=>∃ b2,o2=.inl b2/\Sx (Frm.of w0) 20 M M [] [] [] a w) ?_ ?_
 ·
  refine st1.sq0 (sc rfl (oA rfl cI)<|.nil) [0,3] rfl (λ a3 w3 st3=>wp_block ?_)
  refine zB p2 (λ s4 a w=>Sx (Frm.of w0) 20 M M [] [(0,dt x0),(3,dt s4)] [] a w) (st3.sel0 [0,3] rfl) ?_
  rintro s4 z4 a4 w4 st4 hs4 hx4
  have h5:jA x0 s4=some z4:=hs4
  unfold jA at h5
  refine wp_seq ?_
  refine st4.sq0 (sc rfl (oM rfl (tp rfl))<|sc rfl (oM rfl (tp rfl))<|sc rfl (z6 rfl kL32 (tp rfl))<|sc rfl (oCI rfl (tp rfl) (tp rfl))<|.nil) [0,3,7] rfl (λ a6 w6 st6=>?_)
  refine st6.cs (c:=7) rfl h5 (λ c7 h7=>?_) (λ c8 h8=>?_)
  ·
   refine wp_skip (za (wp_seq (wp_block (wp_seq ?_))))
   obtain⟨v9,p9,v10,p10,v11,p11,h14⟩:=bsC h7
   refine st6.dr (D:=[_,_,_,_,_,_,_,_,_,_]) zO [[(0,nS)],[(3,nS)],[(10,0),(11,1)],[(12,2)],[(0,nS)],[(3,nS)],[(15,5)],[(14,4),(16,6)],[(17,7)],[(13,3),(18,8)]] (by decide +kernel) (
    rc rfl rfl (oM rfl (tp rfl))<|rc rfl rfl (oM rfl (tp rfl))<|rc rfl rfl (xIdx rfl kS32 (tp rfl) (tp rfl) p9)<|rc rfl rfl (zk rfl kT9 (tp rfl))<|rc rfl rfl (oM rfl (tp rfl))<|rc rfl rfl (oM rfl (tp rfl))<|rc rfl rfl (xAr rfl (tp rfl) cI p10)<|rc rfl rfl (xIdx rfl kS32 (tp rfl) (tp rfl) p11)<|rc rfl rfl (zk rfl kT9 (tp rfl))<|rc rfl rfl (oCS rfl (tp rfl) (tp rfl))<|.nil) [0,3,19] rfl [] rfl trivial (λ a15 w15 st15=>?_)
   refine za ?_
   refine st15.cs (c:=19) rfl h14 (λ c16 h16=>?_) (λ c17 h17=>?_)
   ·
    refine st15.sq0 (sc rfl (oA rfl cB)<|.nil) [2] rfl (λ a18 w18 st18=>wp_ret (zt (zd (zd (zt (zd ?_))))))
    have h19:=lo h16 hx4
    have h20:=jo h19 k2
    exact st18.ret rfl rfl h20
   refine wp_skip (ze (za ?_))
   obtain⟨v21,p21,h22⟩:=bs h17
   refine st15.rg0 (sc rfl (oM rfl (tp rfl))<|sc rfl (xAr rfl (tp rfl) cI p21)<|sc rfl (oA rfl (tp rfl))<|.nil) [0,3] rfl (λ a23 w23 st23=>za ?_)
   exact⟨_,(Option.some.inj h22).symm,st23.sel0 [0,3] rfl⟩
  refine wp_exit (zh (zh (zv ?_)))
  refine za ?_
  have h24:=lo h8 hx4
  exact⟨_,(Option.some.inj h24).symm,st6.sel0 [] rfl⟩
 rintro a2 w2 ⟨b2,rfl,st2⟩
 have h25:=jn k2
 refine st2.sq0 (sc rfl (oA rfl cB)<|.nil) [2] rfl (λ a26 w26 st26=>wp_ret ?_)
 exact st26.ret rfl rfl h25
open Go.RowKit Tryz
set_option maxRecDepth 10000
set_option maxHeartbeats 1600000
theorem kN133:fnB prog 133=true:=by kernel_rfl
def qX(x0:Reader):Option (Reader×Tree):=
(qD x0).bind λ v5=>
Option.bind (α:=Reader×Tree) (if(cmpI .gtr (v5.2.files.length:Int) (0:Int))=true then((zA v5.1 (24:Int)).bind λ v20=>
if(cmpI .eql v20.2 (0:Int))=true then((atI v5.2.files (0:Int)).bind λ v30=>
(appO 80 v5.2.files ([v30]:List File)).bind λ v38=>
some (v20.1,(⟨v38⟩:Tree)))
else(if(cmpI .eql v20.2 (1:Int))=true then((ya v20.1 ([(-1:Int),(3:Int)]:List Int)).bind λ v59=>
(atI v5.2.files (0:Int)).bind λ v62=>
some (v59.1,(⟨(v5.2.files.set (0:Int).toNat ({ v62 with root:=v59.2 }))⟩:Tree)))
else(if(cmpI .eql v20.2 (2:Int))=true then((ya v20.1 ([(-1:Int),(100:Int)]:List Int)).bind λ v90=>
(atI v5.2.files (0:Int)).bind λ v93=>
some (v90.1,(⟨(v5.2.files.set (0:Int).toNat ({ v93 with stamp:=v90.2 }))⟩:Tree)))
else(if(cmpI .eql v20.2 (3:Int))=true then((atI v5.2.files (0:Int)).bind λ v121=>
(appO 56 v121.body ([(⟨(9:Int),⟨[]⟩,0,⟨[]⟩,0⟩:Stmt)]:List Stmt)).bind λ v132=>
(atI v5.2.files (0:Int)).bind λ _v135=>
some (v20.1,(⟨(v5.2.files.set (0:Int).toNat ({ v121 with body:=v132 }))⟩:Tree)))
else(some (v20.1,v5.2))))))
else(some (v5.1,v5.2))) λ o12=>
some (o12.1,o12.2)
theorem zbz{x0:Reader}{r:Reader×Tree}(h:qX x0=some r):FnS prog 105 (Ow.box (Ow.frz (α:=Reader))) ⟨x0⟩ [] ⟨r.1⟩ (.ow (owTree (Ow.row 86 (Ow.frz (α:=File)))) r.2):=by
 unfold qX at h
 refine fnSB (fn:=f105) 4 9 func105 rfl (oD rfl) rfl (λ M G w0 b0 a0 st0=>wp_seq (wp_region_list ?_))
 refine st0.alcW (ow:=(owTree (Ow.row 86 (Ow.frz (α:=File))))) 7 rfl rfl kZ25 (owTree.z Ow.row_z) (by simp) [] rfl [0] rfl rfl (λ b1 M1 a1 w1 st1=>?_)
 have st2:=st1.gs (Gs':=[oneB none,oneB none,oneB none,oneB none,G,oneB none,oneB none,(oneB (some b1)),oneB none]) rfl
 refine wpList_nil (za (wp_seq (wp_region_list ?_)))
 refine st2.seg 1 (
  sc rfl (oM rfl (zD rfl))<|.nil) [4] rfl [(0,4),(2,7)] rfl ⟨iI,iT⟩ (λ a3 w3 st3=>?_)
 obtain⟨v5,p5,h6⟩:=bs h
 refine st3.cSO (l:=[]) 4 0 (st3.bkN (s:=0) rfl iI) rfl rfl kN133 (Eq.trans (st3.st.has 4 _ rfl) (st3.st.has 0 _ rfl).1.symm) (by simp) (by simp) (by decide) .nil (zbc p5) [] rfl [2] rfl rfl rfl rfl (by decide) (λ G4 H4 M4 a4 w4 st4=>?_)
 have st7:=st4.gs (Gs':=[H4,oneB none,oneB none,oneB none,G4,oneB none,oneB none,(oneB (some b1)),oneB none]) rfl
 refine st7.alcW (ow:=(owTree (Ow.row 86 (owFile (Ow.row 82 (Ow.frz (α:=Stmt))))))) 8 rfl rfl kZ25 (owTree.z Ow.row_z) (by simp) [] rfl [0,2,5] rfl rfl (λ b8 M8 a8 w8 st8=>?_)
 have st9:=st8.gs (Gs':=[H4,oneB none,oneB none,oneB none,G4,oneB none,oneB none,(oneB (some b1)),(oneB (some b8))]) rfl
 refine st9.stO (sb:=3) (tv:=5) 8 0 (PV.root.box rfl) rfl rfl rfl kT25 (by simp) (by simp) (by decide) (zD rfl) rfl rfl rfl iI iI [] rfl [0,2] rfl rfl rfl (λ G10 w10 st10=>?_)
 have st11:=st10.gs (Gs':=[oneB none,oneB none,oneB none,oneB none,G4,oneB none,oneB none,(oneB (some b1)),G10]) rfl
 refine wpList_nil (za ?_)
 obtain⟨o12,p12,k12⟩:=bs h6
 refine zj (λ a w=>∃ M1 q12_0 q12_1 q12_2 q12_3 q12_4 q12_5 q12_6 q12_7 q12_8,Sx (Frm.chg w0 G) 56 M M1 [q12_0,q12_1,q12_2,q12_3,q12_4,q12_5,q12_6,q12_7,q12_8] [] [(0,4,dnm (Ow.box (Ow.frz (α:=Reader))) q12_4 ⟨o12.1⟩ (.pointer (some ⟨b0,0,none⟩)) []),(2,7,dow (Ow.box (owTree (Ow.row 86 (Ow.frz (α:=File))))) q12_7 ⟨WM⟩),(3,8,dow (Ow.box (owTree (Ow.row 86 (Ow.frz (α:=File))))) q12_8 ⟨o12.2⟩)] a w) ?_ ?_
 ·
  refine st11.hdR (s:=3) 8 true (λ _=>((PV.root.box rfl).fld owTree.f0)) rfl rfl iI [0,2] rfl (λ g13 A13 c13 hA13 st13=>?_)
  refine st13.sq (sc rfl (xFa rfl Zf (zD rfl))<|sc rfl (xLc (sb:=3) (.head _) rfl rfl rfl kT23 (tp rfl) rfl)<|sc rfl (xLe rfl kL23 (tp rfl))<|sc rfl (oCI rfl (tp rfl) cI)<|.nil) [9] rfl [(0,4),(2,7),(3,8)] rfl ⟨iI,⟨iI,iT⟩⟩ (λ a14 w14 st14=>?_)
  have st15:=st14.ncf (s:=3) 8 rfl rfl iI [0,2] rfl
  refine st15.cs (c:=9) rfl p12 (λ c16 h16=>?_) (λ c17 h17=>?_)
  ·
   refine wp_seq (wp_region_list ?_)
   refine st15.seg 1 (
    sc rfl (oM rfl (zD rfl))<|.nil) [10] rfl [(0,4),(2,7),(3,8)] rfl ⟨iI,⟨iI,iT⟩⟩ (λ a18 w18 st18=>?_)
   obtain⟨v20,p20,h21⟩:=bs h16
   refine st18.cSF (l:=[.const (.int .i64 24)]) 4 (st18.bkN (s:=0) rfl iI) rfl rfl kN70 (Eq.trans (st18.st.has 10 _ rfl) (st18.st.has 0 _ rfl).1.symm) (by simp) (.cons cI .nil) (zE p20) [] rfl [2,3] rfl rfl (by decide) (λ G19 M19 a19 w19 st19=>?_)
   have st22:=st19.gs (Gs':=[oneB none,oneB none,oneB none,oneB none,G19,oneB none,oneB none,(oneB (some b1)),G10]) rfl
   refine wpList_nil (za (wp_block ?_))
   refine st22.sq (sc rfl (oCI rfl (tp rfl) cI)<|sc rfl (oA rfl (tp rfl))<|.nil) [11,12] rfl [(0,4),(2,7),(3,8)] rfl ⟨iI,⟨iI,iT⟩⟩ (λ a23 w23 st23=>?_)
   refine st23.cs (c:=12) rfl h21 (λ c24 h24=>?_) (λ c25 h25=>?_)
   ·
    have st26:=st23.unm (s:=3) 8 rfl rfl iI [0,2] rfl
    refine st26.thin (s:=3) (o2:=(Ow.box (owTree (Ow.row 86 (Ow.frz (α:=File)))))) 8 (ZV (ZU ZT)) rfl rfl (by simp) iI [11,12] rfl [0,2] rfl rfl (λ G27 M27 st27=>?_)
    obtain⟨v30,p30,h31⟩:=bs h24
    refine st27.nmB (s:=3) 8 rfl rfl iI [0,2] rfl (λ b28 st28=>?_)
    refine st28.hdR (s:=3) 8 true (λ _=>((PV.root.box rfl).fld owTree.f0)) rfl rfl iI [0,2] rfl (λ g29 A29 c29 hA29 st29=>?_)
    refine st29.drn (D:=[_,_,_,_,_,_,_]) zO 7 [[(3,nS)],[(14,0),(3,nS)],[(3,nS)],[(16,2),(3,nS)],[(17,3)],[(18,4),(3,nS)],[(19,5)],[(15,1),(20,6)],[(3,nS)],[(22,8),(21,7)]] (by decide +kernel) (by decide) (
     rc rfl rfl (xFa rfl Zf (zD rfl))<|rc rfl rfl (xLc (sb:=3) (.head _) rfl rfl rfl kT23 (tp rfl) rfl)<|rc rfl rfl (xFa rfl Zf (zD rfl))<|rc rfl rfl (xLc (sb:=3) (.head _) rfl rfl rfl kT23 (tp rfl) rfl)<|rc rfl rfl (xIa (g:=g29) rfl kS23 (tp rfl) cI rfl (λ h=>hA29 h rfl) p30)<|rc rfl rfl (xLf (sb:=3) (((PV.root.box rfl).fld owTree.f0).row (.head _) rfl (λ h=>hA29 h rfl) p30) rfl kT86 (tp rfl) rfl)<|rc rfl rfl (yf (opds:=[.tmp 19]) rfl kS23 kY23 rfl rfl (by decide) (.cons (tp rfl) .nil))<|.nil) [15,20] rfl [(0,4),(2,7),(3,8)] rfl ⟨iI,⟨iI,iT⟩⟩ (λ a32 w32 st32=>?_)
    refine st32.mvG (s:=15) (sb:=3) 8 1 ((PV.root.box rfl).fld owTree.f0) (.head _) rfl (qT rfl rfl) rfl (by simp) (by simp) (by decide) rfl iI [20] rfl [0,2] rfl rfl rfl rfl (λ G34 H34 st34=>?_)
    have st35:=st34.gs (Gs':=[oneB none,H34,oneB none,oneB none,G19,oneB none,oneB none,(oneB (some b1)),G34]) rfl
    refine st35.tipR (s:=15) 1 rfl rfl (by simp) iI [0,2,3] rfl rfl (λ g36 st36=>?_)
    obtain⟨v38,p38,h39⟩:=bs h31
    refine st36.app 1 rfl rfl kE23 rfl rfl rfl yS p38 [] rfl [0,2,3] rfl rfl (λ g37 M37 a37 w37 st37=>?_)
    have st40:=st37.gs (Gs':=[oneB none,oneB g37,oneB none,oneB none,G19,oneB none,oneB none,(oneB (some b1)),G34]) rfl
    refine st40.seg 1 (
     sc rfl (xFa rfl Zf (opd_hl rfl))<|.nil) [22] rfl [(0,4),(2,7),(3,8),(21,1)] rfl ⟨iI,⟨iI,⟨iI,iT⟩⟩⟩ (λ a41 w41 st41=>?_)
    have st43:=st41.tipW (s:=21) 1 rfl rfl iI [0,2,3] rfl
    refine st43.stH (sb:=3) (tv:=21) 8 1 rfl rfl rfl kT23 (by simp) (by simp) (by decide) (tp rfl) rfl rfl iI iI [] rfl [0,2] rfl rfl rfl (λ G42 w42 st42=>?_)
    have st44:=st42.gs (Gs':=[oneB none,oneB none,oneB none,oneB none,G19,oneB none,oneB none,(oneB (some b1)),G42]) rfl
    refine wpList_nil (ze ?_)
    have st45:=st44.unm (s:=2) 7 rfl rfl iI [0,3] rfl
    have st46:=st45.unm (s:=3) 8 rfl rfl iI [0,2] rfl
    refine za ?_
    obtain rfl:=Option.some.inj h39
    exact⟨_,_,_,_,_,_,_,_,_,_,st46.sel [] rfl [(0,4),(2,7),(3,8)] rfl ⟨iI,⟨iI,iT⟩⟩⟩
   refine st23.sq (sc rfl (oCI rfl (tp rfl) cI)<|sc rfl (oA rfl (tp rfl))<|.nil) [11,23] rfl [(0,4),(2,7),(3,8)] rfl ⟨iI,⟨iI,iT⟩⟩ (λ a48 w48 st48=>?_)
   refine st48.cs (c:=23) rfl h25 (λ c49 h49=>?_) (λ c50 h50=>?_)
   ·
    refine st48.hdR (s:=3) 8 true (λ _=>((PV.root.box rfl).fld owTree.f0)) rfl rfl iI [0,2] rfl (λ g51 A51 c51 hA51 st51=>?_)
    refine st51.held (λ w=>w.cell? ⟨b8,0,none⟩=some (.slice A51 (v5.2.files.length) c51)) zO (λ w52 st52=>?_)
    refine st52.tk (i:=0) rfl rfl (by decide +kernel) (by decide +kernel) (by decide +kernel) (λ _ _ _ h=>h) (st52.cellS (sb:=3) rfl (.head _) rfl rfl) (yFa rfl Zf (st52.st.has 3 _ rfl).1) (λ a53 st53=>?_)
    refine st53.tk (i:=1) rfl rfl (by decide +kernel) (by decide +kernel) (by decide +kernel) (λ _ _ _ h=>h) (st53.cellS (sb:=3) rfl (.head _) rfl rfl) (yLd rfl kT23 (st53.st.has 25 _ rfl) (λ _ h=>h)) (λ a54 st54=>?_)
    refine st54.tkN (i:=2) (sb:=0) rfl rfl (by decide +kernel) (by decide +kernel) (by decide +kernel) (λ _ _ _ _ h=>h) (st54.cellS (sb:=3) rfl (.head _) rfl rfl) rfl rfl rfl (λ a55 st55=>?_)
    refine st55.mvN (s:=26) (sb:=3) 8 2 ((PV.root.box rfl).fld owTree.f0) (.head _) rfl (qT rfl rfl) rfl rfl (by simp) (by simp) (by decide) rfl iI [11,23,25,27] rfl [0,2] rfl rfl rfl rfl (by decide) (λ G56 H56 st56=>?_)
    obtain⟨v59,p59,v62,p62,h67⟩:=bsB h49
    refine aH1 (i:=3) (by decide +kernel) rfl ?_
    refine st56.seg 1 (sc rfl (yf (opds:=[.const (.int .i64 (-1)),.const (.int .i64 3)]) rfl kS26 kY26 rfl rfl (by decide) (.cons cI (.cons cI .nil)))<|.nil) [27,28] rfl [(0,4),(2,7),(3,8),(26,2)] rfl ⟨iI,⟨iI,⟨iI,iT⟩⟩⟩ (λ a68 w68 st68=>?_)
    refine aHN (st68.hkS (sb:=3) rfl) ?_
    refine aH1 (i:=4) (by decide +kernel) rfl ?_
    refine st68.cSF (l:=[.tmp 28]) 4 (st68.bkN (s:=0) rfl iI) rfl rfl kN73 (Eq.trans (st68.st.has 27 _ rfl) (st68.st.has 0 _ rfl).1.symm) (by simp) (.cons (tp rfl) .nil) (xk p59) [] rfl [2,3,26] rfl rfl (by decide) (λ G69 M69 a69 w69 st69=>?_)
    have st70:=st69.gs (Gs':=[oneB none,oneB none,H56,oneB none,G69,oneB none,oneB none,(oneB (some b1)),G56]) rfl
    refine aHN (st70.hkS (sb:=3) rfl) ?_
    refine aH1 (i:=5) (by decide +kernel) rfl ?_
    refine st70.seg 1 (sc rfl (xIaN rfl kS23 rfl cI (λ h=>hA51 h rfl) p62)<|.nil) [29,30] rfl [(0,4),(2,7),(3,8),(26,2)] rfl ⟨iI,⟨iI,⟨iI,iT⟩⟩⟩ (λ a71 w71 st71=>?_)
    refine aHN (st71.hkS (sb:=3) rfl) ?_
    refine aH1 (i:=6) (by decide +kernel) rfl ?_
    refine st71.seg 1 (sc rfl (xFa rfl kF86_0 (tp rfl))<|.nil) [29,31] rfl [(0,4),(2,7),(3,8),(26,2)] rfl ⟨iI,⟨iI,⟨iI,iT⟩⟩⟩ (λ a72 w72 st72=>?_)
    refine aHN (st72.hkS (sb:=3) rfl) ?_
    refine aH1 (i:=7) (by decide +kernel) rfl ?_
    refine st72.stF (sb:=26) 2 ((PV.root.row rfl (λ h=>hA51 h rfl) p62).fld owFile.f0) rfl rfl rfl kT3 (by simp) (tp rfl) (tp rfl) rfl rfl iI [] rfl [0,2,3] rfl rfl (λ w73 st73=>?_)
    refine aHN (st73.hkS (sb:=3) rfl) ?_
    refine aH0 (by decide +kernel) ?_
    refine st73.stG (s:=26) (sb:=3) 8 2 rfl (by simp) (by simp) (by decide) rfl rfl iI iI [] rfl [0,2] rfl rfl rfl (λ G74 st74=>?_)
    have st75:=st74.gs (Gs':=[oneB none,oneB none,oneB none,oneB none,G69,oneB none,oneB none,(oneB (some b1)),G74]) rfl
    refine ze ?_
    have st76:=st75.unm (s:=2) 7 rfl rfl iI [0,3] rfl
    have st77:=st76.unm (s:=3) 8 rfl rfl iI [0,2] rfl
    refine st77.thin (s:=3) (o2:=(Ow.box (owTree (Ow.row 86 (Ow.frz (α:=File)))))) 8 (ZV (ZU ZT)) rfl rfl (by simp) iI [] rfl [0,2] rfl rfl (λ G78 M78 st78=>za ?_)
    obtain rfl:=Option.some.inj h67
    exact⟨_,_,_,_,_,_,_,_,_,_,st78.sel [] rfl [(0,4),(2,7),(3,8)] rfl ⟨iI,⟨iI,iT⟩⟩⟩
   refine st48.sq (sc rfl (oCI rfl (tp rfl) cI)<|sc rfl (oA rfl (tp rfl))<|.nil) [11,32] rfl [(0,4),(2,7),(3,8)] rfl ⟨iI,⟨iI,iT⟩⟩ (λ a79 w79 st79=>?_)
   refine st79.cs (c:=32) rfl h50 (λ c80 h80=>?_) (λ c81 h81=>?_)
   ·
    refine st79.hdR (s:=3) 8 true (λ _=>((PV.root.box rfl).fld owTree.f0)) rfl rfl iI [0,2] rfl (λ g82 A82 c82 hA82 st82=>?_)
    refine st82.held (λ w=>w.cell? ⟨b8,0,none⟩=some (.slice A82 (v5.2.files.length) c82)) zO (λ w83 st83=>?_)
    refine st83.tk (i:=0) rfl rfl (by decide +kernel) (by decide +kernel) (by decide +kernel) (λ _ _ _ h=>h) (st83.cellS (sb:=3) rfl (.head _) rfl rfl) (yFa rfl Zf (st83.st.has 3 _ rfl).1) (λ a84 st84=>?_)
    refine st84.tk (i:=1) rfl rfl (by decide +kernel) (by decide +kernel) (by decide +kernel) (λ _ _ _ h=>h) (st84.cellS (sb:=3) rfl (.head _) rfl rfl) (yLd rfl kT23 (st84.st.has 34 _ rfl) (λ _ h=>h)) (λ a85 st85=>?_)
    refine st85.tkN (i:=2) (sb:=0) rfl rfl (by decide +kernel) (by decide +kernel) (by decide +kernel) (λ _ _ _ _ h=>h) (st85.cellS (sb:=3) rfl (.head _) rfl rfl) rfl rfl rfl (λ a86 st86=>?_)
    refine st86.mvN (s:=35) (sb:=3) 8 3 ((PV.root.box rfl).fld owTree.f0) (.head _) rfl (qT rfl rfl) rfl rfl (by simp) (by simp) (by decide) rfl iI [11,32,34,36] rfl [0,2] rfl rfl rfl rfl (by decide) (λ G87 H87 st87=>?_)
    obtain⟨v90,p90,v93,p93,h98⟩:=bsB h80
    refine aH1 (i:=3) (by decide +kernel) rfl ?_
    refine st87.seg 1 (sc rfl (yf (opds:=[.const (.int .i64 (-1)),.const (.int .i64 100)]) rfl kS26 kY26 rfl rfl (by decide) (.cons cI (.cons cI .nil)))<|.nil) [36,37] rfl [(0,4),(2,7),(3,8),(35,3)] rfl ⟨iI,⟨iI,⟨iI,iT⟩⟩⟩ (λ a99 w99 st99=>?_)
    refine aHN (st99.hkS (sb:=3) rfl) ?_
    refine aH1 (i:=4) (by decide +kernel) rfl ?_
    refine st99.cSF (l:=[.tmp 37]) 4 (st99.bkN (s:=0) rfl iI) rfl rfl kN73 (Eq.trans (st99.st.has 36 _ rfl) (st99.st.has 0 _ rfl).1.symm) (by simp) (.cons (tp rfl) .nil) (xk p90) [] rfl [2,3,35] rfl rfl (by decide) (λ G100 M100 a100 w100 st100=>?_)
    have st101:=st100.gs (Gs':=[oneB none,oneB none,oneB none,H87,G100,oneB none,oneB none,(oneB (some b1)),G87]) rfl
    refine aHN (st101.hkS (sb:=3) rfl) ?_
    refine aH1 (i:=5) (by decide +kernel) rfl ?_
    refine st101.seg 1 (sc rfl (xIaN rfl kS23 rfl cI (λ h=>hA82 h rfl) p93)<|.nil) [38,39] rfl [(0,4),(2,7),(3,8),(35,3)] rfl ⟨iI,⟨iI,⟨iI,iT⟩⟩⟩ (λ a102 w102 st102=>?_)
    refine aHN (st102.hkS (sb:=3) rfl) ?_
    refine aH1 (i:=6) (by decide +kernel) rfl ?_
    refine st102.seg 1 (sc rfl (xFa rfl kF86_4 (tp rfl))<|.nil) [38,40] rfl [(0,4),(2,7),(3,8),(35,3)] rfl ⟨iI,⟨iI,⟨iI,iT⟩⟩⟩ (λ a103 w103 st103=>?_)
    refine aHN (st103.hkS (sb:=3) rfl) ?_
    refine aH1 (i:=7) (by decide +kernel) rfl ?_
    refine st103.stF (sb:=35) 3 ((PV.root.row rfl (λ h=>hA82 h rfl) p93).fld owFile.f4) rfl rfl rfl kT3 (by simp) (tp rfl) (tp rfl) rfl rfl iI [] rfl [0,2,3] rfl rfl (λ w104 st104=>?_)
    refine aHN (st104.hkS (sb:=3) rfl) ?_
    refine aH0 (by decide +kernel) ?_
    refine st104.stG (s:=35) (sb:=3) 8 3 rfl (by simp) (by simp) (by decide) rfl rfl iI iI [] rfl [0,2] rfl rfl rfl (λ G105 st105=>?_)
    have st106:=st105.gs (Gs':=[oneB none,oneB none,oneB none,oneB none,G100,oneB none,oneB none,(oneB (some b1)),G105]) rfl
    refine ze ?_
    have st107:=st106.unm (s:=2) 7 rfl rfl iI [0,3] rfl
    have st108:=st107.unm (s:=3) 8 rfl rfl iI [0,2] rfl
    refine st108.thin (s:=3) (o2:=(Ow.box (owTree (Ow.row 86 (Ow.frz (α:=File)))))) 8 (ZV (ZU ZT)) rfl rfl (by simp) iI [] rfl [0,2] rfl rfl (λ G109 M109 st109=>za ?_)
    obtain rfl:=Option.some.inj h98
    exact⟨_,_,_,_,_,_,_,_,_,_,st109.sel [] rfl [(0,4),(2,7),(3,8)] rfl ⟨iI,⟨iI,iT⟩⟩⟩
   refine st79.sq (sc rfl (oCI rfl (tp rfl) cI)<|sc rfl (oA rfl (tp rfl))<|.nil) [41] rfl [(0,4),(2,7),(3,8)] rfl ⟨iI,⟨iI,iT⟩⟩ (λ a110 w110 st110=>?_)
   refine st110.cs (c:=41) rfl h81 (λ c111 h111=>?_) (λ c112 h112=>?_)
   ·
    refine st110.hdR (s:=3) 8 true (λ _=>((PV.root.box rfl).fld owTree.f0)) rfl rfl iI [0,2] rfl (λ g113 A113 c113 hA113 st113=>?_)
    refine st113.held (λ w=>w.cell? ⟨b8,0,none⟩=some (.slice A113 (v5.2.files.length) c113)) zO (λ w114 st114=>?_)
    refine st114.tk (i:=0) rfl rfl (by decide +kernel) (by decide +kernel) (by decide +kernel) (λ _ _ _ h=>h) (st114.cellS (sb:=3) rfl (.head _) rfl rfl) (yFa rfl Zf (st114.st.has 3 _ rfl).1) (λ a115 st115=>?_)
    refine st115.tk (i:=1) rfl rfl (by decide +kernel) (by decide +kernel) (by decide +kernel) (λ _ _ _ h=>h) (st115.cellS (sb:=3) rfl (.head _) rfl rfl) (yLd rfl kT23 (st115.st.has 43 _ rfl) (λ _ h=>h)) (λ a116 st116=>?_)
    refine st116.tk (i:=2) rfl rfl (by decide +kernel) (by decide +kernel) (by decide +kernel) (λ _ _ _ h=>h) (st116.cellS (sb:=3) rfl (.head _) rfl rfl) (yFa rfl Zf (st116.st.has 3 _ rfl).1) (λ a117 st117=>?_)
    refine st117.tk (i:=3) rfl rfl (by decide +kernel) (by decide +kernel) (by decide +kernel) (λ _ _ _ h=>h) (st117.cellS (sb:=3) rfl (.head _) rfl rfl) (yLd rfl kT23 (st117.st.has 45 _ rfl) (λ _ h=>h)) (λ a118 st118=>?_)
    refine st118.tkB (i:=7) (parts:=[(0,.const (.int .i64 9))]) (ns:=[1,1,1,1,1]) (zs:=J9) rfl rfl (by decide +kernel) (by decide +kernel) (by decide +kernel) (λ _ _ _ _ h=>h) (st118.cellS (sb:=3) rfl (.head _) rfl rfl) rfl rfl kB82 kC82 (λ w a hl=>by
 intro p hp;simp only[List.mem_cons,List.not_mem_nil,or_false] at hp
 rcases hp with rfl
 ·
  exact⟨by decide,rfl⟩) (λ w a hl=>Stmt.parts (x:=(⟨(9:Int),⟨[]⟩,0,⟨[]⟩,0⟩:Stmt)) (OpdR.cells cI hl) jB ⟨rfl,trivial⟩ jB ⟨rfl,trivial⟩) (λ a119 st119=>?_)
    refine st119.mvN (s:=46) (sb:=3) 8 5 ((PV.root.box rfl).fld owTree.f0) (.head _) rfl (qT rfl rfl) rfl rfl (by simp) (by simp) (by decide) rfl iI [41,43,44,45,50] rfl [0,2] rfl rfl rfl rfl (by decide) (λ G120 H120 st120=>?_)
    obtain⟨v121,p121,v132,p132,v135,p135,h143⟩:=bsC h111
    refine aH2 (i:=4) (j:=8) (by decide +kernel) rfl rfl ?_ ?_
    ·
     refine st120.seg 1 (sc rfl (xIaN rfl kS23 rfl cI (λ h=>hA113 h rfl) p121)<|.nil) [44,47,50] rfl [(0,4),(2,7),(3,8),(46,5)] rfl ⟨iI,⟨iI,⟨iI,iT⟩⟩⟩ (λ a144 w144 st144=>?_)
     refine aHN (st144.hkS (sb:=3) rfl) ?_
     refine aH2 (i:=5) (j:=8) (by decide +kernel) rfl rfl ?_ ?_
     ·
      refine st144.seg 1 (sc rfl (xFa rfl Ja (tp rfl))<|.nil) [44,48,50] rfl [(0,4),(2,7),(3,8),(46,5)] rfl ⟨iI,⟨iI,⟨iI,iT⟩⟩⟩ (λ a145 w145 st145=>?_)
      refine aHN (st145.hkS (sb:=3) rfl) ?_
      refine aH2 (i:=6) (j:=8) (by decide +kernel) rfl rfl ?_ ?_
      ·
       refine st145.hdR (s:=46) 5 true (λ _=>((PV.root.row rfl (λ h=>hA113 h rfl) p121).fld owFile.f5)) rfl rfl iI [0,2,3] rfl (λ g146 A146 c146 hA146 st146=>?_)
       refine st146.seg 1 (sc rfl (xLc (sb:=46) (.head _) rfl rfl rfl kT83 (tp rfl) rfl)<|.nil) [44,49,50] rfl [(0,4),(2,7),(3,8),(46,5)] rfl ⟨iI,⟨iI,⟨iI,iT⟩⟩⟩ (λ a147 w147 st147=>?_)
       refine aHN (st147.hkS (sb:=3) rfl) ?_
       refine aH1 (i:=8) (by decide +kernel) rfl ?_
       refine st147.seg 1 (sc rfl (yf (opds:=[.tmp 50]) rfl kS83 kY83 rfl rfl (by decide) (.cons (tp rfl) .nil))<|.nil) [44,49,51] rfl [(0,4),(2,7),(3,8),(46,5)] rfl ⟨iI,⟨iI,⟨iI,iT⟩⟩⟩ (λ a148 w148 st148=>?_)
       refine aHN (st148.hkS (sb:=3) rfl) ?_
       refine aH1 (i:=9) (by decide +kernel) rfl ?_
       refine st148.mvG (s:=49) (sb:=46) 5 6 ((PV.root.row rfl (λ h=>hA113 h rfl) p121).fld owFile.f5) (.head _) rfl (qT rfl rfl) rfl (by simp) (by simp) (by decide) rfl iI [44,51] rfl [0,2,3] rfl rfl rfl rfl (λ G150 H150 st150=>?_)
       have st151:=st150.gs (Gs':=[oneB none,oneB none,oneB none,oneB none,G19,G150,H150,(oneB (some b1)),G120]) rfl
       refine st151.tipR (s:=49) 6 rfl rfl (by simp) iI [0,2,3,46] rfl rfl (λ g152 st152=>?_)
       refine st152.app 6 rfl rfl kE83 rfl rfl rfl yS p132 [44] rfl [0,2,3,46] rfl rfl (λ g153 M153 a153 w153 st153=>?_)
       have st154:=st153.gs (Gs':=[oneB none,oneB none,oneB none,oneB none,G19,G150,oneB g153,(oneB (some b1)),G120]) rfl
       refine aHN (st154.hkS (sb:=3) rfl) ?_
       refine aH1 (i:=10) (by decide +kernel) rfl ?_
       refine st154.seg 1 (sc rfl (xIa (g:=g113) rfl kS23 (tp rfl) cI rfl (λ h=>hA113 h rfl) p135)<|.nil) [53] rfl [(0,4),(2,7),(3,8),(46,5),(52,6)] rfl ⟨iI,⟨iI,⟨iI,⟨iI,iT⟩⟩⟩⟩ (λ a155 w155 st155=>?_)
       refine aHN (st155.hkS (sb:=3) rfl) ?_
       refine aH1 (i:=11) (by decide +kernel) rfl ?_
       refine st155.seg 1 (sc rfl (xFa rfl Ja (tp rfl))<|.nil) [54] rfl [(0,4),(2,7),(3,8),(46,5),(52,6)] rfl ⟨iI,⟨iI,⟨iI,⟨iI,iT⟩⟩⟩⟩ (λ a156 w156 st156=>?_)
       refine aHN (st156.hkS (sb:=3) rfl) ?_
       refine aH1 (i:=12) (by decide +kernel) rfl ?_
       have st158:=st156.tipW (s:=52) 6 rfl rfl iI [0,2,3,46] rfl
       refine st158.stH (sb:=46) (tv:=52) 5 6 rfl rfl rfl kT83 (by simp) (by simp) (by decide) (tp rfl) rfl rfl iI iI [] rfl [0,2,3] rfl rfl rfl (λ G157 w157 st157=>?_)
       have st159:=st157.gs (Gs':=[oneB none,oneB none,oneB none,oneB none,G19,G157,oneB none,(oneB (some b1)),G120]) rfl
       refine aHN (st159.hkS (sb:=3) rfl) ?_
       refine aH0 (by decide +kernel) ?_
       refine st159.stG (s:=46) (sb:=3) 8 5 rfl (by simp) (by simp) (by decide) rfl rfl iI iI [] rfl [0,2] rfl rfl rfl (λ G160 st160=>?_)
       have st161:=st160.gs (Gs':=[oneB none,oneB none,oneB none,oneB none,G19,oneB none,oneB none,(oneB (some b1)),G160]) rfl
       refine ze ?_
       have st162:=st161.unm (s:=2) 7 rfl rfl iI [0,3] rfl
       have st163:=st162.unm (s:=3) 8 rfl rfl iI [0,2] rfl
       refine st163.thin (s:=3) (o2:=(Ow.box (owTree (Ow.row 86 (Ow.frz (α:=File)))))) 8 (ZV (ZU ZT)) rfl rfl (by simp) iI [] rfl [0,2] rfl rfl (λ G164 M164 st164=>za ?_)
       obtain rfl:=Option.some.inj h143
       exact⟨_,_,_,_,_,_,_,_,_,_,st164.sel [] rfl [(0,4),(2,7),(3,8)] rfl ⟨iI,⟨iI,iT⟩⟩⟩
      ·
       refine st145.seg 1 (sc rfl (yf (opds:=[.tmp 50]) rfl kS83 kY83 rfl rfl (by decide) (.cons (tp rfl) .nil))<|.nil) [44,48,51] rfl [(0,4),(2,7),(3,8),(46,5)] rfl ⟨iI,⟨iI,⟨iI,iT⟩⟩⟩ (λ a165 w165 st165=>?_)
       refine aHN (st165.hkS (sb:=3) rfl) ?_
       refine aH1 (i:=6) (by decide +kernel) rfl ?_
       refine st165.hdR (s:=46) 5 true (λ _=>((PV.root.row rfl (λ h=>hA113 h rfl) p121).fld owFile.f5)) rfl rfl iI [0,2,3] rfl (λ g166 A166 c166 hA166 st166=>?_)
       refine st166.seg 1 (sc rfl (xLc (sb:=46) (.head _) rfl rfl rfl kT83 (tp rfl) rfl)<|.nil) [44,49,51] rfl [(0,4),(2,7),(3,8),(46,5)] rfl ⟨iI,⟨iI,⟨iI,iT⟩⟩⟩ (λ a167 w167 st167=>?_)
       refine aHN (st167.hkS (sb:=3) rfl) ?_
       refine aH1 (i:=9) (by decide +kernel) rfl ?_
       refine st167.mvG (s:=49) (sb:=46) 5 6 ((PV.root.row rfl (λ h=>hA113 h rfl) p121).fld owFile.f5) (.head _) rfl (qT rfl rfl) rfl (by simp) (by simp) (by decide) rfl iI [44,51] rfl [0,2,3] rfl rfl rfl rfl (λ G169 H169 st169=>?_)
       have st170:=st169.gs (Gs':=[oneB none,oneB none,oneB none,oneB none,G19,G169,H169,(oneB (some b1)),G120]) rfl
       refine st170.tipR (s:=49) 6 rfl rfl (by simp) iI [0,2,3,46] rfl rfl (λ g171 st171=>?_)
       refine st171.app 6 rfl rfl kE83 rfl rfl rfl yS p132 [44] rfl [0,2,3,46] rfl rfl (λ g172 M172 a172 w172 st172=>?_)
       have st173:=st172.gs (Gs':=[oneB none,oneB none,oneB none,oneB none,G19,G169,oneB g172,(oneB (some b1)),G120]) rfl
       refine aHN (st173.hkS (sb:=3) rfl) ?_
       refine aH1 (i:=10) (by decide +kernel) rfl ?_
       refine st173.seg 1 (sc rfl (xIa (g:=g113) rfl kS23 (tp rfl) cI rfl (λ h=>hA113 h rfl) p135)<|.nil) [53] rfl [(0,4),(2,7),(3,8),(46,5),(52,6)] rfl ⟨iI,⟨iI,⟨iI,⟨iI,iT⟩⟩⟩⟩ (λ a174 w174 st174=>?_)
       refine aHN (st174.hkS (sb:=3) rfl) ?_
       refine aH1 (i:=11) (by decide +kernel) rfl ?_
       refine st174.seg 1 (sc rfl (xFa rfl Ja (tp rfl))<|.nil) [54] rfl [(0,4),(2,7),(3,8),(46,5),(52,6)] rfl ⟨iI,⟨iI,⟨iI,⟨iI,iT⟩⟩⟩⟩ (λ a175 w175 st175=>?_)
       refine aHN (st175.hkS (sb:=3) rfl) ?_
       refine aH1 (i:=12) (by decide +kernel) rfl ?_
       have st177:=st175.tipW (s:=52) 6 rfl rfl iI [0,2,3,46] rfl
       refine st177.stH (sb:=46) (tv:=52) 5 6 rfl rfl rfl kT83 (by simp) (by simp) (by decide) (tp rfl) rfl rfl iI iI [] rfl [0,2,3] rfl rfl rfl (λ G176 w176 st176=>?_)
       have st178:=st176.gs (Gs':=[oneB none,oneB none,oneB none,oneB none,G19,G176,oneB none,(oneB (some b1)),G120]) rfl
       refine aHN (st178.hkS (sb:=3) rfl) ?_
       refine aH0 (by decide +kernel) ?_
       refine st178.stG (s:=46) (sb:=3) 8 5 rfl (by simp) (by simp) (by decide) rfl rfl iI iI [] rfl [0,2] rfl rfl rfl (λ G179 st179=>?_)
       have st180:=st179.gs (Gs':=[oneB none,oneB none,oneB none,oneB none,G19,oneB none,oneB none,(oneB (some b1)),G179]) rfl
       refine ze ?_
       have st181:=st180.unm (s:=2) 7 rfl rfl iI [0,3] rfl
       have st182:=st181.unm (s:=3) 8 rfl rfl iI [0,2] rfl
       refine st182.thin (s:=3) (o2:=(Ow.box (owTree (Ow.row 86 (Ow.frz (α:=File)))))) 8 (ZV (ZU ZT)) rfl rfl (by simp) iI [] rfl [0,2] rfl rfl (λ G183 M183 st183=>za ?_)
       obtain rfl:=Option.some.inj h143
       exact⟨_,_,_,_,_,_,_,_,_,_,st183.sel [] rfl [(0,4),(2,7),(3,8)] rfl ⟨iI,⟨iI,iT⟩⟩⟩
     ·
      refine st144.seg 1 (sc rfl (yf (opds:=[.tmp 50]) rfl kS83 kY83 rfl rfl (by decide) (.cons (tp rfl) .nil))<|.nil) [44,47,51] rfl [(0,4),(2,7),(3,8),(46,5)] rfl ⟨iI,⟨iI,⟨iI,iT⟩⟩⟩ (λ a184 w184 st184=>?_)
      refine aHN (st184.hkS (sb:=3) rfl) ?_
      refine aH1 (i:=5) (by decide +kernel) rfl ?_
      refine st184.seg 1 (sc rfl (xFa rfl Ja (tp rfl))<|.nil) [44,48,51] rfl [(0,4),(2,7),(3,8),(46,5)] rfl ⟨iI,⟨iI,⟨iI,iT⟩⟩⟩ (λ a185 w185 st185=>?_)
      refine aHN (st185.hkS (sb:=3) rfl) ?_
      refine aH1 (i:=6) (by decide +kernel) rfl ?_
      refine st185.hdR (s:=46) 5 true (λ _=>((PV.root.row rfl (λ h=>hA113 h rfl) p121).fld owFile.f5)) rfl rfl iI [0,2,3] rfl (λ g186 A186 c186 hA186 st186=>?_)
      refine st186.seg 1 (sc rfl (xLc (sb:=46) (.head _) rfl rfl rfl kT83 (tp rfl) rfl)<|.nil) [44,49,51] rfl [(0,4),(2,7),(3,8),(46,5)] rfl ⟨iI,⟨iI,⟨iI,iT⟩⟩⟩ (λ a187 w187 st187=>?_)
      refine aHN (st187.hkS (sb:=3) rfl) ?_
      refine aH1 (i:=9) (by decide +kernel) rfl ?_
      refine st187.mvG (s:=49) (sb:=46) 5 6 ((PV.root.row rfl (λ h=>hA113 h rfl) p121).fld owFile.f5) (.head _) rfl (qT rfl rfl) rfl (by simp) (by simp) (by decide) rfl iI [44,51] rfl [0,2,3] rfl rfl rfl rfl (λ G189 H189 st189=>?_)
      have st190:=st189.gs (Gs':=[oneB none,oneB none,oneB none,oneB none,G19,G189,H189,(oneB (some b1)),G120]) rfl
      refine st190.tipR (s:=49) 6 rfl rfl (by simp) iI [0,2,3,46] rfl rfl (λ g191 st191=>?_)
      refine st191.app 6 rfl rfl kE83 rfl rfl rfl yS p132 [44] rfl [0,2,3,46] rfl rfl (λ g192 M192 a192 w192 st192=>?_)
      have st193:=st192.gs (Gs':=[oneB none,oneB none,oneB none,oneB none,G19,G189,oneB g192,(oneB (some b1)),G120]) rfl
      refine aHN (st193.hkS (sb:=3) rfl) ?_
      refine aH1 (i:=10) (by decide +kernel) rfl ?_
      refine st193.seg 1 (sc rfl (xIa (g:=g113) rfl kS23 (tp rfl) cI rfl (λ h=>hA113 h rfl) p135)<|.nil) [53] rfl [(0,4),(2,7),(3,8),(46,5),(52,6)] rfl ⟨iI,⟨iI,⟨iI,⟨iI,iT⟩⟩⟩⟩ (λ a194 w194 st194=>?_)
      refine aHN (st194.hkS (sb:=3) rfl) ?_
      refine aH1 (i:=11) (by decide +kernel) rfl ?_
      refine st194.seg 1 (sc rfl (xFa rfl Ja (tp rfl))<|.nil) [54] rfl [(0,4),(2,7),(3,8),(46,5),(52,6)] rfl ⟨iI,⟨iI,⟨iI,⟨iI,iT⟩⟩⟩⟩ (λ a195 w195 st195=>?_)
      refine aHN (st195.hkS (sb:=3) rfl) ?_
      refine aH1 (i:=12) (by decide +kernel) rfl ?_
      have st197:=st195.tipW (s:=52) 6 rfl rfl iI [0,2,3,46] rfl
      refine st197.stH (sb:=46) (tv:=52) 5 6 rfl rfl rfl kT83 (by simp) (by simp) (by decide) (tp rfl) rfl rfl iI iI [] rfl [0,2,3] rfl rfl rfl (λ G196 w196 st196=>?_)
      have st198:=st196.gs (Gs':=[oneB none,oneB none,oneB none,oneB none,G19,G196,oneB none,(oneB (some b1)),G120]) rfl
      refine aHN (st198.hkS (sb:=3) rfl) ?_
      refine aH0 (by decide +kernel) ?_
      refine st198.stG (s:=46) (sb:=3) 8 5 rfl (by simp) (by simp) (by decide) rfl rfl iI iI [] rfl [0,2] rfl rfl rfl (λ G199 st199=>?_)
      have st200:=st199.gs (Gs':=[oneB none,oneB none,oneB none,oneB none,G19,oneB none,oneB none,(oneB (some b1)),G199]) rfl
      refine ze ?_
      have st201:=st200.unm (s:=2) 7 rfl rfl iI [0,3] rfl
      have st202:=st201.unm (s:=3) 8 rfl rfl iI [0,2] rfl
      refine st202.thin (s:=3) (o2:=(Ow.box (owTree (Ow.row 86 (Ow.frz (α:=File)))))) 8 (ZV (ZU ZT)) rfl rfl (by simp) iI [] rfl [0,2] rfl rfl (λ G203 M203 st203=>za ?_)
      obtain rfl:=Option.some.inj h143
      exact⟨_,_,_,_,_,_,_,_,_,_,st203.sel [] rfl [(0,4),(2,7),(3,8)] rfl ⟨iI,⟨iI,iT⟩⟩⟩
    ·
     refine st120.seg 1 (sc rfl (yf (opds:=[.tmp 50]) rfl kS83 kY83 rfl rfl (by decide) (.cons (tp rfl) .nil))<|.nil) [44,51] rfl [(0,4),(2,7),(3,8),(46,5)] rfl ⟨iI,⟨iI,⟨iI,iT⟩⟩⟩ (λ a204 w204 st204=>?_)
     refine aHN (st204.hkS (sb:=3) rfl) ?_
     refine aH1 (i:=4) (by decide +kernel) rfl ?_
     refine st204.seg 1 (sc rfl (xIaN rfl kS23 rfl cI (λ h=>hA113 h rfl) p121)<|.nil) [44,47,51] rfl [(0,4),(2,7),(3,8),(46,5)] rfl ⟨iI,⟨iI,⟨iI,iT⟩⟩⟩ (λ a205 w205 st205=>?_)
     refine aHN (st205.hkS (sb:=3) rfl) ?_
     refine aH1 (i:=5) (by decide +kernel) rfl ?_
     refine st205.seg 1 (sc rfl (xFa rfl Ja (tp rfl))<|.nil) [44,48,51] rfl [(0,4),(2,7),(3,8),(46,5)] rfl ⟨iI,⟨iI,⟨iI,iT⟩⟩⟩ (λ a206 w206 st206=>?_)
     refine aHN (st206.hkS (sb:=3) rfl) ?_
     refine aH1 (i:=6) (by decide +kernel) rfl ?_
     refine st206.hdR (s:=46) 5 true (λ _=>((PV.root.row rfl (λ h=>hA113 h rfl) p121).fld owFile.f5)) rfl rfl iI [0,2,3] rfl (λ g207 A207 c207 hA207 st207=>?_)
     refine st207.seg 1 (sc rfl (xLc (sb:=46) (.head _) rfl rfl rfl kT83 (tp rfl) rfl)<|.nil) [44,49,51] rfl [(0,4),(2,7),(3,8),(46,5)] rfl ⟨iI,⟨iI,⟨iI,iT⟩⟩⟩ (λ a208 w208 st208=>?_)
     refine aHN (st208.hkS (sb:=3) rfl) ?_
     refine aH1 (i:=9) (by decide +kernel) rfl ?_
     refine st208.mvG (s:=49) (sb:=46) 5 6 ((PV.root.row rfl (λ h=>hA113 h rfl) p121).fld owFile.f5) (.head _) rfl (qT rfl rfl) rfl (by simp) (by simp) (by decide) rfl iI [44,51] rfl [0,2,3] rfl rfl rfl rfl (λ G210 H210 st210=>?_)
     have st211:=st210.gs (Gs':=[oneB none,oneB none,oneB none,oneB none,G19,G210,H210,(oneB (some b1)),G120]) rfl
     refine st211.tipR (s:=49) 6 rfl rfl (by simp) iI [0,2,3,46] rfl rfl (λ g212 st212=>?_)
     refine st212.app 6 rfl rfl kE83 rfl rfl rfl yS p132 [44] rfl [0,2,3,46] rfl rfl (λ g213 M213 a213 w213 st213=>?_)
     have st214:=st213.gs (Gs':=[oneB none,oneB none,oneB none,oneB none,G19,G210,oneB g213,(oneB (some b1)),G120]) rfl
     refine aHN (st214.hkS (sb:=3) rfl) ?_
     refine aH1 (i:=10) (by decide +kernel) rfl ?_
     refine st214.seg 1 (sc rfl (xIa (g:=g113) rfl kS23 (tp rfl) cI rfl (λ h=>hA113 h rfl) p135)<|.nil) [53] rfl [(0,4),(2,7),(3,8),(46,5),(52,6)] rfl ⟨iI,⟨iI,⟨iI,⟨iI,iT⟩⟩⟩⟩ (λ a215 w215 st215=>?_)
     refine aHN (st215.hkS (sb:=3) rfl) ?_
     refine aH1 (i:=11) (by decide +kernel) rfl ?_
     refine st215.seg 1 (sc rfl (xFa rfl Ja (tp rfl))<|.nil) [54] rfl [(0,4),(2,7),(3,8),(46,5),(52,6)] rfl ⟨iI,⟨iI,⟨iI,⟨iI,iT⟩⟩⟩⟩ (λ a216 w216 st216=>?_)
     refine aHN (st216.hkS (sb:=3) rfl) ?_
     refine aH1 (i:=12) (by decide +kernel) rfl ?_
     have st218:=st216.tipW (s:=52) 6 rfl rfl iI [0,2,3,46] rfl
     refine st218.stH (sb:=46) (tv:=52) 5 6 rfl rfl rfl kT83 (by simp) (by simp) (by decide) (tp rfl) rfl rfl iI iI [] rfl [0,2,3] rfl rfl rfl (λ G217 w217 st217=>?_)
     have st219:=st217.gs (Gs':=[oneB none,oneB none,oneB none,oneB none,G19,G217,oneB none,(oneB (some b1)),G120]) rfl
     refine aHN (st219.hkS (sb:=3) rfl) ?_
     refine aH0 (by decide +kernel) ?_
     refine st219.stG (s:=46) (sb:=3) 8 5 rfl (by simp) (by simp) (by decide) rfl rfl iI iI [] rfl [0,2] rfl rfl rfl (λ G220 st220=>?_)
     have st221:=st220.gs (Gs':=[oneB none,oneB none,oneB none,oneB none,G19,oneB none,oneB none,(oneB (some b1)),G220]) rfl
     refine ze ?_
     have st222:=st221.unm (s:=2) 7 rfl rfl iI [0,3] rfl
     have st223:=st222.unm (s:=3) 8 rfl rfl iI [0,2] rfl
     refine st223.thin (s:=3) (o2:=(Ow.box (owTree (Ow.row 86 (Ow.frz (α:=File)))))) 8 (ZV (ZU ZT)) rfl rfl (by simp) iI [] rfl [0,2] rfl rfl (λ G224 M224 st224=>za ?_)
     obtain rfl:=Option.some.inj h143
     exact⟨_,_,_,_,_,_,_,_,_,_,st224.sel [] rfl [(0,4),(2,7),(3,8)] rfl ⟨iI,⟨iI,iT⟩⟩⟩
   refine wp_skip (ze ?_)
   have st225:=st110.unm (s:=2) 7 rfl rfl iI [0,3] rfl
   have st226:=st225.unm (s:=3) 8 rfl rfl iI [0,2] rfl
   refine st226.thin (s:=3) (o2:=(Ow.box (owTree (Ow.row 86 (Ow.frz (α:=File)))))) 8 (ZV (ZU ZT)) rfl rfl (by simp) iI [41] rfl [0,2] rfl rfl (λ G227 M227 st227=>za ?_)
   obtain rfl:=Option.some.inj h112
   exact⟨_,_,_,_,_,_,_,_,_,_,st227.sel [] rfl [(0,4),(2,7),(3,8)] rfl ⟨iI,⟨iI,iT⟩⟩⟩
  refine wp_skip ?_
  have st228:=st15.unm (s:=2) 7 rfl rfl iI [0,3] rfl
  have st229:=st228.unm (s:=3) 8 rfl rfl iI [0,2] rfl
  refine st229.thin (s:=3) (o2:=(Ow.box (owTree (Ow.row 86 (Ow.frz (α:=File)))))) 8 (ZV (ZU ZT)) rfl rfl (by simp) iI [9] rfl [0,2] rfl rfl (λ G230 M230 st230=>za ?_)
  obtain rfl:=Option.some.inj h17
  exact⟨_,_,_,_,_,_,_,_,_,_,st230.sel [] rfl [(0,4),(2,7),(3,8)] rfl ⟨iI,⟨iI,iT⟩⟩⟩
 rintro a12 w12 ⟨M12,q12_0,q12_1,q12_2,q12_3,q12_4,q12_5,q12_6,q12_7,q12_8,st12⟩
 have h231:=k12
 refine wp_seq (wp_region_list ?_)
 refine st12.nmB (s:=3) 8 rfl rfl iI [0,2] rfl (λ b233 st233=>?_)
 refine st233.ldW (sb:=3) 8 rfl rfl kT25 rfl (by simp) iI [] rfl [0,2] rfl rfl (λ a232 w232 st232=>?_)
 refine st232.nmB (s:=2) 7 rfl rfl iI [0,55] rfl (λ b235 st235=>?_)
 refine st235.stO (sb:=2) (tv:=55) 7 8 (PV.root.box rfl) rfl rfl rfl kT25 (by simp) (by simp) (by decide) (zD rfl) rfl rfl rfl iI iI [] rfl [0] rfl rfl rfl (λ G234 w234 st234=>?_)
 have st236:=st234.gs (Gs':=[q12_0,q12_1,q12_2,q12_3,q12_4,q12_5,q12_6,G234,oneB none]) rfl
 refine wpList_nil (za (wp_ret ?_))
 exact st236.rsCO (s:=0) 4 7 rfl kT25 rfl rfl iI iI (by decide) (bxr h231)
open Go.RowKit Tryz
set_option maxRecDepth 10000
set_option maxHeartbeats 1600000
theorem kN105:fnB prog 105=true:=by kernel_rfl
theorem kN106:fnB prog 106=true:=by kernel_rfl
theorem kN71:fnB prog 71=true:=by kernel_rfl
theorem kN107:fnB prog 107=true:=by kernel_rfl
def Zp(x0:Reader):Option (Reader×Tree×(List Int)×Str):=
(qX x0).bind λ v6=>
(qW v6.1).bind λ v15=>
(gO (cmpI .gtr (v6.2.files.length:Int) (0:Int) == true) (zA v15.1 (4:Int))).bind λ v22=>
if(cmpI .gtr (v6.2.files.length:Int) (0:Int)&&cmpI .gtr v22.2 (0:Int))=true then((zA (if(cmpI .gtr (v6.2.files.length:Int) (0:Int) == true)=true then v22.1 else v15.1) (v6.2.files.length:Int)).bind λ v41=>
(atI v6.2.files v41.2).bind λ v44=>
(qJ v44).bind λ v47=>
some (v41.1,v6.2,v15.2,v47))
else((qV (if(cmpI .gtr (v6.2.files.length:Int) (0:Int) == true)=true then v22.1 else v15.1)).bind λ v90=>
some (v90.1,v6.2,v15.2,v90.2))
theorem spec_nameOf_w{x0:Reader}{r:Reader×Tree×(List Int)×Str}(h:Zp x0=some r):FnS prog 69 (Ow.box (Ow.frz (α:=Reader))) ⟨x0⟩ [] ⟨r.1⟩ (.t3 (owTree (Ow.row 86 (Ow.frz (α:=File)))) r.2.1 (dt r.2.2.1) (dt r.2.2.2)):=by
 unfold Zp at h
 refine fnSB (fn:=f69) 3 6 func69 rfl (oD rfl) rfl (λ M G w0 b0 a0 st0=>wp_seq (wp_region_list ?_))
 refine st0.alcW (ow:=(owTree (Ow.row 86 (Ow.frz (α:=File))))) 4 rfl rfl kZ25 (owTree.z Ow.row_z) (by simp) [] rfl [0] rfl rfl (λ b1 M1 a1 w1 st1=>?_)
 have st2:=st1.gs (Gs':=[oneB none,oneB none,oneB none,G,(oneB (some b1)),oneB none]) rfl
 refine st2.seg 2 (
  sc rfl (oA rfl (xN (α:=Int)))<|sc rfl (oA rfl (zH (by decide)))<|.nil) [] rfl [(0,3),(2,4)] rfl ⟨iI,iT⟩ (λ a3 w3 st3=>?_)
 refine wpList_nil (za (wp_seq (wp_region_list ?_)))
 refine st3.seg 1 (
  sc rfl (oM rfl (zD rfl))<|.nil) [7] rfl [(0,3),(2,4)] rfl ⟨iI,iT⟩ (λ a4 w4 st4=>?_)
 obtain⟨v6,p6,h7⟩:=bs h
 refine st4.cSO (l:=[]) 3 0 (st4.bkN (s:=0) rfl iI) rfl rfl kN105 (Eq.trans (st4.st.has 7 _ rfl) (st4.st.has 0 _ rfl).1.symm) (by simp) (by simp) (by decide) .nil (zbz p6) [] rfl [2] rfl rfl rfl rfl (by decide) (λ G5 H5 M5 a5 w5 st5=>?_)
 have st8:=st5.gs (Gs':=[H5,oneB none,oneB none,G5,(oneB (some b1)),oneB none]) rfl
 refine st8.alcW (ow:=(owTree (Ow.row 86 (Ow.frz (α:=File))))) 5 rfl rfl kZ25 (owTree.z Ow.row_z) (by simp) [] rfl [0,2,8] rfl rfl (λ b9 M9 a9 w9 st9=>?_)
 have st10:=st9.gs (Gs':=[H5,oneB none,oneB none,G5,(oneB (some b1)),(oneB (some b9))]) rfl
 refine st10.stO (sb:=5) (tv:=8) 5 0 (PV.root.box rfl) rfl rfl rfl kT25 (by simp) (by simp) (by decide) (zD rfl) rfl rfl rfl iI iI [] rfl [0,2] rfl rfl rfl (λ G11 w11 st11=>?_)
 have st12:=st11.gs (Gs':=[oneB none,oneB none,oneB none,G5,(oneB (some b1)),G11]) rfl
 refine wpList_nil (za (wp_seq (wp_region_list ?_)))
 refine st12.seg 1 (
  sc rfl (oM rfl (zD rfl))<|.nil) [9] rfl [(0,3),(2,4),(5,5)] rfl ⟨iI,⟨iI,iT⟩⟩ (λ a13 w13 st13=>?_)
 obtain⟨v15,p15,h16⟩:=bs h7
 refine st13.cSF (l:=[]) 3 (st13.bkN (s:=0) rfl iI) rfl rfl kN106 (Eq.trans (st13.st.has 9 _ rfl) (st13.st.has 0 _ rfl).1.symm) (by simp) .nil (zby p15) [] rfl [2,5] rfl rfl (by decide) (λ G14 M14 a14 w14 st14=>?_)
 have st17:=st14.gs (Gs':=[oneB none,oneB none,oneB none,G14,(oneB (some b1)),G11]) rfl
 refine st17.seg 1 (
  sc rfl (oA rfl (tp rfl))<|.nil) [6] rfl [(0,3),(2,4),(5,5)] rfl ⟨iI,⟨iI,iT⟩⟩ (λ a18 w18 st18=>?_)
 refine wpList_nil (za (wp_seq (wp_seq (wp_region_list ?_))))
 refine st18.hdR (s:=5) 5 true (λ _=>((PV.root.box rfl).fld owTree.f0)) rfl rfl iI [0,2] rfl (λ g19 A19 c19 hA19 st19=>?_)
 refine st19.seg 6 (
  sc rfl (xFa rfl Zf (zD rfl))<|sc rfl (xLc (sb:=5) (.head _) rfl rfl rfl kT23 (tp rfl) rfl)<|sc rfl (xLe rfl kL23 (tp rfl))<|sc rfl (oCI rfl (tp rfl) cI)<|sc rfl (oM rfl (tp rfl))<|sg rfl rfl (λ hg=>oM rfl (zD rfl))<|.nil) [6,15,16] rfl [(0,3),(2,4),(5,5)] rfl ⟨iI,⟨iI,iT⟩⟩ (λ a20 w20 st20=>?_)
 obtain⟨v22,p22,h23⟩:=bs h16
 refine st20.cSFgB (sb:=0) (l:=[.const (.int .i64 4)]) 3 rfl iI rfl rfl rfl kN70 (λ hg=>(st20.st.has 16 _ rfl).1 hg) (by simp) (λ hg=>(.cons cI .nil)) (λ hg=>zE (gh hg p22)) [6,15] rfl [2,5] rfl rfl (by decide) (λ G21 M21 a21 w21 st21=>?_)
 have st24:=st21.gs (Gs':=[oneB none,oneB none,oneB none,G21,(oneB (some b1)),G11]) rfl
 refine st24.seg 2 (
  sg rfl rfl (λ hg=>oCI rfl (zi hg rfl) cI)<|sc rfl (ym rfl (tp rfl) (zb rfl))<|.nil) [6,19] rfl [(0,3),(2,4),(5,5)] rfl ⟨iI,⟨iI,iT⟩⟩ (λ a25 w25 st25=>?_)
 refine wpList_nil ?_
 have st26:=st25.ncf (s:=5) 5 rfl rfl iI [0,2] rfl
 refine za ?_
 refine st26.cs (c:=19) rfl h23 (λ c27 h27=>?_) (λ c28 h28=>?_)
 ·
  refine wp_seq ?_
  have st29:=st26.unm (s:=5) 5 rfl rfl iI [0,2] rfl
  refine st29.opB (s:=5) 5 rfl rfl iI [0,2] rfl (λ b30 C30 e30 st30=>?_)
  refine st30.held (λ w=>w.heap[b30]?=some (.cells C30 e30 (0,0))) zO (λ w31 st31=>?_)
  refine st31.tkO (i:=0) (s:=5) 5 1 rfl rfl (by decide +kernel) (by decide +kernel) (by decide +kernel) (λ _ _ _ _ h=>h) rfl iI rfl rfl kT25 rfl (by simp) (by simp) (by decide) [6,19] rfl [0,2] rfl rfl rfl rfl (by decide) (λ a32 G32 hz32 st32=>?_)
  refine st32.tkM (i:=1) (sb:=6) rfl rfl (by decide +kernel) (by decide +kernel) (by decide +kernel) (λ _ _ _ _ h=>h) (st32.bcS (s:=5) rfl) rfl rfl rfl rfl (λ a33 st33=>?_)
  refine st33.tkP (i:=2) (s:=5) rfl rfl (by decide +kernel) (by decide +kernel) (by decide +kernel) (λ _ _ _ _ h=>h) rfl rfl Zf rfl (λ a34 st34=>?_)
  refine st34.tkC (i:=3) (s:=5) (s2:=22) rfl rfl (by decide +kernel) (by decide +kernel) (by decide +kernel) (λ _ _ _ _ h=>h) rfl rfl rfl kT23 rfl hz32 (by decide) (λ a35 st35=>?_)
  obtain⟨g35,A35,c35,hb35,hA35⟩:=st35.hdV (s:=20) (PV.root.fld owTree.f0) rfl
  refine st35.tkP (i:=5) (s:=5) rfl rfl (by decide +kernel) (by decide +kernel) (by decide +kernel) (λ _ _ _ _ h=>h) rfl rfl Zf rfl (λ a36 st36=>?_)
  refine st36.tkC (i:=6) (s:=5) (s2:=25) rfl rfl (by decide +kernel) (by decide +kernel) (by decide +kernel) (λ _ _ _ _ h=>h) rfl rfl rfl kT23 rfl hz32 (by decide) (λ a37 st37=>?_)
  obtain⟨g37,A37,c37,hb37,hA37⟩:=st37.hdV (s:=20) (PV.root.fld owTree.f0) rfl
  obtain⟨v41,p41,v44,p44,v47,p47,h56⟩:=bsC h27
  refine aH2 (i:=4) (j:=7) (by decide +kernel) rfl rfl ?_ ?_
  ·
   refine st37.seg 1 (sc rfl (oM rfl (zD rfl))<|.nil) [21,23,24,26] rfl [(0,3),(2,4),(5,5),(20,1)] rfl ⟨iI,⟨iI,⟨iI,iT⟩⟩⟩ (λ a57 w57 st57=>?_)
   refine aHN (st57.bcS (s:=5) rfl) ?_
   refine aH1 (i:=7) (by decide +kernel) rfl ?_
   refine st57.seg 1 (sc rfl (xLe rfl kL23 (opd_eq hb37 (tp rfl)))<|.nil) [21,23,24,27] rfl [(0,3),(2,4),(5,5),(20,1)] rfl ⟨iI,⟨iI,⟨iI,iT⟩⟩⟩ (λ a58 w58 st58=>?_)
   refine aHN (st58.bcS (s:=5) rfl) ?_
   refine aH1 (i:=8) (by decide +kernel) rfl ?_
   refine st58.cSF (l:=[.tmp 27]) 3 (st58.bkN (s:=0) rfl iI) rfl rfl kN70 (Eq.trans (st58.st.has 24 _ rfl) (st58.st.has 0 _ rfl).1.symm) (by simp) (.cons (tp rfl) .nil) (zE p41) [21,23] rfl [2,5,20] rfl rfl (by decide) (λ G59 M59 a59 w59 st59=>?_)
   have st60:=st59.gs (Gs':=[oneB none,G32,oneB none,G59,(oneB (some b1)),(oneB (some b30))]) rfl
   refine aHN (st60.bcS (s:=5) rfl) ?_
   refine aH1 (i:=9) (by decide +kernel) rfl ?_
   refine st60.seg 1 (sc rfl (xIa (g:=g35) rfl kS23 (opd_eq hb35 (tp rfl)) (tp rfl) rfl hA35 p44)<|.nil) [21,29] rfl [(0,3),(2,4),(5,5),(20,1)] rfl ⟨iI,⟨iI,⟨iI,iT⟩⟩⟩ (λ a61 w61 st61=>?_)
   refine aHN (st61.bcS (s:=5) rfl) ?_
   refine aH1 (i:=10) (by decide +kernel) rfl ?_
   refine st61.seg 1 (sc rfl (xLf (sb:=20) ((PV.root.fld owTree.f0).row hb35 hA35 p44) rfl kT86 (tp rfl) rfl)<|.nil) [21,30] rfl [(0,3),(2,4),(5,5),(20,1)] rfl ⟨iI,⟨iI,⟨iI,iT⟩⟩⟩ (λ a62 w62 st62=>?_)
   refine aHN (st62.bcS (s:=5) rfl) ?_
   refine aH1 (i:=11) (by decide +kernel) rfl ?_
   refine st62.seg 1 (sc rfl (zn (l:=[.tmp 30]) rfl kN71 (.cons (tp rfl) .nil) (ZY p47))<|.nil) [21,31] rfl [(0,3),(2,4),(5,5),(20,1)] rfl ⟨iI,⟨iI,⟨iI,iT⟩⟩⟩ (λ a63 w63 st63=>?_)
   refine aHN (st63.bcS (s:=5) rfl) ?_
   refine aH1 (i:=12) (by decide +kernel) rfl ?_
   have st64:=st63.unm (s:=20) 1 rfl rfl iI [0,2,5] rfl
   refine st64.stO (sb:=2) (tv:=20) 4 1 (PV.root.box rfl) rfl rfl rfl kT25 (by simp) (by simp) (by decide) (zD rfl) rfl rfl rfl iI iI [21,31] rfl [0,5] rfl rfl rfl (λ G65 w65 st65=>?_)
   have st66:=st65.gs (Gs':=[oneB none,oneB none,oneB none,G59,G65,(oneB (some b30))]) rfl
   refine aHN (st66.bcS (s:=5) rfl) ?_
   refine aH1 (i:=13) (by decide +kernel) rfl ?_
   refine st66.seg 1 (sc rfl (oA rfl (tp rfl))<|.nil) [3,31] rfl [(0,3),(2,4),(5,5)] rfl ⟨iI,⟨iI,iT⟩⟩ (λ a67 w67 st67=>?_)
   refine aHN (st67.bcS (s:=5) rfl) ?_
   refine aH1 (i:=14) (by decide +kernel) rfl ?_
   refine st67.seg 1 (sc rfl (oA rfl (tp rfl))<|.nil) [3,4] rfl [(0,3),(2,4),(5,5)] rfl ⟨iI,⟨iI,iT⟩⟩ (λ a68 w68 st68=>?_)
   refine aHN (st68.bcS (s:=5) rfl) ?_
   refine aH0 (by decide +kernel) ?_
   refine za ?_
   refine wp_ret (zd ?_)
   obtain rfl:=Option.some.inj h56
   exact st68.rs3O (s:=0) 3 4 rfl kT25 rfl rfl rfl rfl ⟨rfl,rfl⟩ iI iI (by decide) ⟨rfl,rfl⟩
  ·
   refine st37.seg 1 (sc rfl (xLe rfl kL23 (opd_eq hb37 (tp rfl)))<|.nil) [21,23,27] rfl [(0,3),(2,4),(5,5),(20,1)] rfl ⟨iI,⟨iI,⟨iI,iT⟩⟩⟩ (λ a70 w70 st70=>?_)
   refine aHN (st70.bcS (s:=5) rfl) ?_
   refine aH1 (i:=4) (by decide +kernel) rfl ?_
   refine st70.seg 1 (sc rfl (oM rfl (zD rfl))<|.nil) [21,23,24,27] rfl [(0,3),(2,4),(5,5),(20,1)] rfl ⟨iI,⟨iI,⟨iI,iT⟩⟩⟩ (λ a71 w71 st71=>?_)
   refine aHN (st71.bcS (s:=5) rfl) ?_
   refine aH1 (i:=8) (by decide +kernel) rfl ?_
   refine st71.cSF (l:=[.tmp 27]) 3 (st71.bkN (s:=0) rfl iI) rfl rfl kN70 (Eq.trans (st71.st.has 24 _ rfl) (st71.st.has 0 _ rfl).1.symm) (by simp) (.cons (tp rfl) .nil) (zE p41) [21,23] rfl [2,5,20] rfl rfl (by decide) (λ G72 M72 a72 w72 st72=>?_)
   have st73:=st72.gs (Gs':=[oneB none,G32,oneB none,G72,(oneB (some b1)),(oneB (some b30))]) rfl
   refine aHN (st73.bcS (s:=5) rfl) ?_
   refine aH1 (i:=9) (by decide +kernel) rfl ?_
   refine st73.seg 1 (sc rfl (xIa (g:=g35) rfl kS23 (opd_eq hb35 (tp rfl)) (tp rfl) rfl hA35 p44)<|.nil) [21,29] rfl [(0,3),(2,4),(5,5),(20,1)] rfl ⟨iI,⟨iI,⟨iI,iT⟩⟩⟩ (λ a74 w74 st74=>?_)
   refine aHN (st74.bcS (s:=5) rfl) ?_
   refine aH1 (i:=10) (by decide +kernel) rfl ?_
   refine st74.seg 1 (sc rfl (xLf (sb:=20) ((PV.root.fld owTree.f0).row hb35 hA35 p44) rfl kT86 (tp rfl) rfl)<|.nil) [21,30] rfl [(0,3),(2,4),(5,5),(20,1)] rfl ⟨iI,⟨iI,⟨iI,iT⟩⟩⟩ (λ a75 w75 st75=>?_)
   refine aHN (st75.bcS (s:=5) rfl) ?_
   refine aH1 (i:=11) (by decide +kernel) rfl ?_
   refine st75.seg 1 (sc rfl (zn (l:=[.tmp 30]) rfl kN71 (.cons (tp rfl) .nil) (ZY p47))<|.nil) [21,31] rfl [(0,3),(2,4),(5,5),(20,1)] rfl ⟨iI,⟨iI,⟨iI,iT⟩⟩⟩ (λ a76 w76 st76=>?_)
   refine aHN (st76.bcS (s:=5) rfl) ?_
   refine aH1 (i:=12) (by decide +kernel) rfl ?_
   have st77:=st76.unm (s:=20) 1 rfl rfl iI [0,2,5] rfl
   refine st77.stO (sb:=2) (tv:=20) 4 1 (PV.root.box rfl) rfl rfl rfl kT25 (by simp) (by simp) (by decide) (zD rfl) rfl rfl rfl iI iI [21,31] rfl [0,5] rfl rfl rfl (λ G78 w78 st78=>?_)
   have st79:=st78.gs (Gs':=[oneB none,oneB none,oneB none,G72,G78,(oneB (some b30))]) rfl
   refine aHN (st79.bcS (s:=5) rfl) ?_
   refine aH1 (i:=13) (by decide +kernel) rfl ?_
   refine st79.seg 1 (sc rfl (oA rfl (tp rfl))<|.nil) [3,31] rfl [(0,3),(2,4),(5,5)] rfl ⟨iI,⟨iI,iT⟩⟩ (λ a80 w80 st80=>?_)
   refine aHN (st80.bcS (s:=5) rfl) ?_
   refine aH1 (i:=14) (by decide +kernel) rfl ?_
   refine st80.seg 1 (sc rfl (oA rfl (tp rfl))<|.nil) [3,4] rfl [(0,3),(2,4),(5,5)] rfl ⟨iI,⟨iI,iT⟩⟩ (λ a81 w81 st81=>?_)
   refine aHN (st81.bcS (s:=5) rfl) ?_
   refine aH0 (by decide +kernel) ?_
   refine za ?_
   refine wp_ret (zd ?_)
   obtain rfl:=Option.some.inj h56
   exact st81.rs3O (s:=0) 3 4 rfl kT25 rfl rfl rfl rfl ⟨rfl,rfl⟩ iI iI (by decide) ⟨rfl,rfl⟩
 refine wp_skip (za (wp_seq ?_))
 have st83:=st26.unm (s:=5) 5 rfl rfl iI [0,2] rfl
 refine st83.opB (s:=5) 5 rfl rfl iI [0,2] rfl (λ b84 C84 e84 st84=>?_)
 refine st84.held (λ w=>w.heap[b84]?=some (.cells C84 e84 (0,0))) zO (λ w85 st85=>?_)
 refine st85.tkO (i:=0) (s:=5) 5 2 rfl rfl (by decide +kernel) (by decide +kernel) (by decide +kernel) (λ _ _ _ _ h=>h) rfl iI rfl rfl kT25 rfl (by simp) (by simp) (by decide) [6,19] rfl [0,2] rfl rfl rfl rfl (by decide) (λ a86 G86 hz86 st86=>?_)
 refine st86.tkM (i:=1) (sb:=6) rfl rfl (by decide +kernel) (by decide +kernel) (by decide +kernel) (λ _ _ _ _ h=>h) (st86.bcS (s:=5) rfl) rfl rfl rfl rfl (λ a87 st87=>?_)
 obtain⟨v90,p90,h98⟩:=bs h28
 refine aH1 (i:=2) (by decide +kernel) rfl ?_
 refine st87.seg 1 (sc rfl (oM rfl (zD rfl))<|.nil) [33,34] rfl [(0,3),(2,4),(5,5),(32,2)] rfl ⟨iI,⟨iI,⟨iI,iT⟩⟩⟩ (λ a99 w99 st99=>?_)
 refine aHN (st99.bcS (s:=5) rfl) ?_
 refine aH1 (i:=3) (by decide +kernel) rfl ?_
 refine st99.cSF (l:=[]) 3 (st99.bkN (s:=0) rfl iI) rfl rfl kN107 (Eq.trans (st99.st.has 34 _ rfl) (st99.st.has 0 _ rfl).1.symm) (by simp) .nil (zbx p90) [33] rfl [2,5,32] rfl rfl (by decide) (λ G100 M100 a100 w100 st100=>?_)
 have st101:=st100.gs (Gs':=[oneB none,oneB none,G86,G100,(oneB (some b1)),(oneB (some b84))]) rfl
 refine aHN (st101.bcS (s:=5) rfl) ?_
 refine aH1 (i:=4) (by decide +kernel) rfl ?_
 have st102:=st101.unm (s:=32) 2 rfl rfl iI [0,2,5] rfl
 refine st102.stO (sb:=2) (tv:=32) 4 2 (PV.root.box rfl) rfl rfl rfl kT25 (by simp) (by simp) (by decide) (zD rfl) rfl rfl rfl iI iI [33,35] rfl [0,5] rfl rfl rfl (λ G103 w103 st103=>?_)
 have st104:=st103.gs (Gs':=[oneB none,oneB none,oneB none,G100,G103,(oneB (some b84))]) rfl
 refine aHN (st104.bcS (s:=5) rfl) ?_
 refine aH1 (i:=5) (by decide +kernel) rfl ?_
 refine st104.seg 1 (sc rfl (oA rfl (tp rfl))<|.nil) [3,35] rfl [(0,3),(2,4),(5,5)] rfl ⟨iI,⟨iI,iT⟩⟩ (λ a105 w105 st105=>?_)
 refine aHN (st105.bcS (s:=5) rfl) ?_
 refine aH1 (i:=6) (by decide +kernel) rfl ?_
 refine st105.seg 1 (sc rfl (oA rfl (tp rfl))<|.nil) [3,4] rfl [(0,3),(2,4),(5,5)] rfl ⟨iI,⟨iI,iT⟩⟩ (λ a106 w106 st106=>?_)
 refine aHN (st106.bcS (s:=5) rfl) ?_
 refine aH0 (by decide +kernel) ?_
 refine za (wp_ret ?_)
 obtain rfl:=Option.some.inj h98
 exact st106.rs3O (s:=0) 3 4 rfl kT25 rfl rfl rfl rfl ⟨rfl,rfl⟩ iI iI (by decide) ⟨rfl,rfl⟩
open Go.RowKit Tryz
set_option maxRecDepth 10000
set_option maxHeartbeats 1600000
theorem kN69:fnB prog 69=true:=by kernel_rfl
theorem kI83:sliB prog 83 82 5=true:=by kernel_rfl
def yO(s35:Reader×Tree×Int)(s58:Reader×(List Stmt)×Int):Option ((Reader×(List Stmt)×Int)⊕(Reader×(List Stmt))):=
if(cmpI .gtr s58.2.2 (0:Int)&&cmpI .gtr s35.2.2 (0:Int))=true then(Option.bind (α:=Reader×(List Stmt)) ((zA s58.1 s35.2.2).bind λ v73=>
(atI s35.2.1.files v73.2).bind λ v76=>
(qJ v76).bind λ v79=>
(yj v79).bind λ v93=>
(gO ((!v93) == false) (yb v79)).bind λ v94=>
(gO (((!v93) == false)&&(decide (v94≠(⟨[]⟩:Str)) == true)) (zA v73.1 (2:Int))).bind λ v99=>
if((!v93)||(decide (v94≠(⟨[]⟩:Str))&&cmpI .eql v99.2 (0:Int)))=true then(some ((if(((!v93) == false)&&(decide (v94≠(⟨[]⟩:Str)) == true))=true then v99.1 else v73.1),s58.2.1))
else((ya (if(((!v93) == false)&&(decide (v94≠(⟨[]⟩:Str)) == true))=true then v99.1 else v73.1) ([(0:Int),(0:Int),(2:Int)]:List Int)).bind λ v109=>
(appO 56 s58.2.1 ([(⟨v109.2,v79,0,⟨[]⟩,0⟩:Stmt)]:List Stmt)).bind λ v117=>
some (v109.1,v117))) λ o63=>
(i64 (s58.2.2 - (1:Int))).bind λ v124=>
some (.inl (o63.1,o63.2,v124)))
else(some (.inr (s58.1,s58.2.1)))
def xm(s35:Reader×Tree×Int):Option ((Reader×Tree×Int)⊕(Reader×Tree)):=
if(cmpI .lss s35.2.2 (s35.2.1.files.length:Int))=true then(Option.bind (α:=Reader×Tree) (Option.bind (α:=Reader×(List Stmt)) ((zA s35.1 (3:Int)).bind λ v52=>
zF (λ s58=>yO s35 s58) (v52.1,[(⟨(3:Int),⟨[]⟩,0,(⟨[120]⟩:Str),s35.2.2⟩:Stmt)],v52.2)) λ o49=>
(atI s35.2.1.files s35.2.2).bind λ v132=>
some (o49.1,(⟨(s35.2.1.files.set s35.2.2.toNat ({ v132 with body:=o49.2 }))⟩:Tree))) λ o43=>
(i64 (s35.2.2+(1:Int))).bind λ v138=>
some (.inl (o43.1,o43.2,v138)))
else(some (.inr (s35.1,s35.2.1)))
def qh(x0:Reader):Option (Reader×Tree×(List Int)×Str):=
(Zp x0).bind λ v6=>
(zA v6.1 (3:Int)).bind λ v19=>
if(cmpI .eql v19.2 (0:Int))=true then(some (v19.1,v6.2.1,v6.2.2.1,v6.2.2.2))
else(Option.bind (α:=Reader×Tree) (zF (λ s35=>xm s35) (v19.1,v6.2.1,(0:Int))) λ o31=>
some (o31.1,o31.2,v6.2.2.1,v6.2.2.2))
theorem Jh{x0:Reader}{r:Reader×Tree×(List Int)×Str}(h:qh x0=some r):FnS prog 37 (Ow.box (Ow.frz (α:=Reader))) ⟨x0⟩ [] ⟨r.1⟩ (.t3 (owTree (Ow.row 86 (Ow.frz (α:=File)))) r.2.1 (dt r.2.2.1) (dt r.2.2.2)):=by
 unfold qh at h
 refine fnSB (fn:=f37) 4 9 func37 rfl (oD rfl) rfl (λ M G w0 b0 a0 st0=>wp_seq (wp_region_list ?_))
 refine st0.alcW (ow:=(owTree (Ow.row 86 (Ow.frz (α:=File))))) 7 rfl rfl kZ25 (owTree.z Ow.row_z) (by simp) [] rfl [0] rfl rfl (λ b1 M1 a1 w1 st1=>?_)
 have st2:=st1.gs (Gs':=[oneB none,oneB none,oneB none,oneB none,G,oneB none,oneB none,(oneB (some b1)),oneB none]) rfl
 refine st2.seg 2 (
  sc rfl (oA rfl (xN (α:=Int)))<|sc rfl (oA rfl (zH (by decide)))<|.nil) [] rfl [(0,4),(2,7)] rfl ⟨iI,iT⟩ (λ a3 w3 st3=>?_)
 refine wpList_nil (za (wp_seq (wp_region_list ?_)))
 refine st3.seg 1 (
  sc rfl (oM rfl (zD rfl))<|.nil) [13] rfl [(0,4),(2,7)] rfl ⟨iI,iT⟩ (λ a4 w4 st4=>?_)
 obtain⟨v6,p6,h7⟩:=bs h
 refine st4.cSO (l:=[]) 4 0 (st4.bkN (s:=0) rfl iI) rfl rfl kN69 (Eq.trans (st4.st.has 13 _ rfl) (st4.st.has 0 _ rfl).1.symm) (by simp) (by simp) (by decide) .nil (spec_nameOf_w p6) [] rfl [2] rfl rfl rfl rfl (by decide) (λ G5 H5 M5 a5 w5 st5=>?_)
 have st8:=st5.gs (Gs':=[H5,oneB none,oneB none,oneB none,G5,oneB none,oneB none,(oneB (some b1)),oneB none]) rfl
 refine st8.mvD (s:=14) 0 rfl rfl rfl rfl iI rfl [0,2] rfl (λ a9 st9=>?_)
 refine st9.ex3 (s:=12) 0 rfl rfl rfl rfl iI rfl [0,2] rfl (λ a10 st10=>?_)
 refine st10.seg 2 (
  sc rfl (xEx1 rfl (tp rfl))<|sc rfl (xEx2 rfl (tp rfl))<|.nil) [16,17] rfl [(0,4),(2,7),(15,0)] rfl ⟨iI,⟨iI,iT⟩⟩ (λ a11 w11 st11=>?_)
 refine st11.alcW (ow:=(owTree (Ow.row 86 (Ow.frz (α:=File))))) 8 rfl rfl kZ25 (owTree.z Ow.row_z) (by simp) [16,17] rfl [0,2,15] rfl rfl (λ b12 M12 a12 w12 st12=>?_)
 have st13:=st12.gs (Gs':=[H5,oneB none,oneB none,oneB none,G5,oneB none,oneB none,(oneB (some b1)),(oneB (some b12))]) rfl
 refine st13.stO (sb:=5) (tv:=15) 8 0 (PV.root.box rfl) rfl rfl rfl kT25 (by simp) (by simp) (by decide) (zD rfl) rfl rfl rfl iI iI [16,17] rfl [0,2] rfl rfl rfl (λ G14 w14 st14=>?_)
 have st15:=st14.gs (Gs':=[oneB none,oneB none,oneB none,oneB none,G5,oneB none,oneB none,(oneB (some b1)),G14]) rfl
 refine st15.seg 2 (
  sc rfl (oA rfl (tp rfl))<|sc rfl (oA rfl (tp rfl))<|.nil) [6,7] rfl [(0,4),(2,7),(5,8)] rfl ⟨iI,⟨iI,iT⟩⟩ (λ a16 w16 st16=>?_)
 refine wpList_nil (za (wp_seq (wp_seq (wp_region_list ?_))))
 refine st16.seg 1 (
  sc rfl (oM rfl (zD rfl))<|.nil) [6,7,18] rfl [(0,4),(2,7),(5,8)] rfl ⟨iI,⟨iI,iT⟩⟩ (λ a17 w17 st17=>?_)
 obtain⟨v19,p19,h20⟩:=bs h7
 refine st17.cSF (l:=[.const (.int .i64 3)]) 4 (st17.bkN (s:=0) rfl iI) rfl rfl kN70 (Eq.trans (st17.st.has 18 _ rfl) (st17.st.has 0 _ rfl).1.symm) (by simp) (.cons cI .nil) (zE p19) [6,7] rfl [2,5] rfl rfl (by decide) (λ G18 M18 a18 w18 st18=>?_)
 have st21:=st18.gs (Gs':=[oneB none,oneB none,oneB none,oneB none,G18,oneB none,oneB none,(oneB (some b1)),G14]) rfl
 refine st21.seg 1 (
  sc rfl (oCI rfl (tp rfl) cI)<|.nil) [6,7,20] rfl [(0,4),(2,7),(5,8)] rfl ⟨iI,⟨iI,iT⟩⟩ (λ a22 w22 st22=>?_)
 refine wpList_nil (za ?_)
 refine st22.cs (c:=20) rfl h20 (λ c23 h23=>?_) (λ c24 h24=>?_)
 ·
  refine wp_seq (wp_region_list ?_)
  refine st22.ldW (sb:=5) 8 rfl rfl kT25 rfl (by simp) iI [6,7] rfl [0,2] rfl rfl (λ a25 w25 st25=>?_)
  refine st25.seg 2 (
   sc rfl (oM rfl (tp rfl))<|sc rfl (oM rfl (tp rfl))<|.nil) [22,23] rfl [(0,4),(2,7),(21,8)] rfl ⟨iI,⟨iI,iT⟩⟩ (λ a26 w26 st26=>?_)
  refine st26.stO (sb:=2) (tv:=21) 7 8 (PV.root.box rfl) rfl rfl rfl kT25 (by simp) (by simp) (by decide) (zD rfl) rfl rfl rfl iI iI [22,23] rfl [0] rfl rfl rfl (λ G27 w27 st27=>?_)
  have st28:=st27.gs (Gs':=[oneB none,oneB none,oneB none,oneB none,G18,oneB none,oneB none,G27,oneB none]) rfl
  refine st28.seg 2 (
   sc rfl (oA rfl (tp rfl))<|sc rfl (oA rfl (tp rfl))<|.nil) [3,4] rfl [(0,4),(2,7)] rfl ⟨iI,iT⟩ (λ a29 w29 st29=>?_)
  refine wpList_nil (za ?_)
  refine wp_ret (zd ?_)
  obtain rfl:=Option.some.inj h23
  exact st29.rs3O (s:=0) 4 7 rfl kT25 rfl rfl rfl rfl ⟨rfl,rfl⟩ iI iI (by decide) ⟨rfl,rfl⟩
 refine wp_skip (za ?_)
 obtain⟨o31,p31,k31⟩:=bs h24
 refine zj (λ a w=>∃ M1 q31_0 q31_1 q31_2 q31_3 q31_4 q31_5 q31_6 q31_7 q31_8,Sx (Frm.chg w0 G) 82 M M1 [q31_0,q31_1,q31_2,q31_3,q31_4,q31_5,q31_6,q31_7,q31_8] [(6,dt v6.2.2.1),(7,dt v6.2.2.2)] [(0,4,dnm (Ow.box (Ow.frz (α:=Reader))) q31_4 ⟨o31.1⟩ (.pointer (some ⟨b0,0,none⟩)) []),(2,7,dow (Ow.box (owTree (Ow.row 86 (Ow.frz (α:=File))))) q31_7 ⟨WM⟩),(5,8,dow (Ow.box (owTree (Ow.row 86 (Ow.frz (α:=File))))) q31_8 ⟨o31.2⟩)] a w) ?_ ?_
 ·
  refine st22.sq (sc rfl (oA rfl cI)<|.nil) [6,7,8] rfl [(0,4),(2,7),(5,8)] rfl ⟨iI,⟨iI,iT⟩⟩ (λ a32 w32 st32=>wp_block ?_)
  have st33:=st32.unm (s:=2) 7 rfl rfl iI [0,5] rfl
  have st34:=st33.unm (s:=5) 8 rfl rfl iI [0,2] rfl
  refine zB p31 (λ s35 a w=>∃ M1 q35_0 q35_1 q35_2 q35_3 q35_4 q35_5 q35_6 q35_7 q35_8,Sx (Frm.chg w0 G) 82 M M1 [q35_0,q35_1,q35_2,q35_3,q35_4,q35_5,q35_6,q35_7,q35_8] [(6,dt v6.2.2.1),(7,dt v6.2.2.2),(8,dt s35.2.2)] [(0,4,dnm (Ow.box (Ow.frz (α:=Reader))) q35_4 ⟨s35.1⟩ (.pointer (some ⟨b0,0,none⟩)) []),(2,7,dow (Ow.box (owTree (Ow.row 86 (Ow.frz (α:=File))))) q35_7 ⟨WM⟩),(5,8,dow (Ow.box (owTree (Ow.row 86 (Ow.frz (α:=File))))) q35_8 ⟨s35.2.1⟩)] a w) ⟨_,_,_,_,_,_,_,_,_,_,st34.sel [6,7,8] rfl [(0,4),(2,7),(5,8)] rfl ⟨iI,⟨iI,iT⟩⟩⟩ ?_
  rintro s35 z35 a35 w35 ⟨M35,q35_0,q35_1,q35_2,q35_3,q35_4,q35_5,q35_6,q35_7,q35_8,st35⟩ hs35 hx35
  have h36:xm s35=some z35:=hs35
  unfold xm at h36
  refine wp_seq ?_
  refine st35.nmB (s:=5) 8 rfl rfl iI [0,2] rfl (λ b37 st37=>?_)
  refine st37.hdR (s:=5) 8 true (λ _=>((PV.root.box rfl).fld owTree.f0)) rfl rfl iI [0,2] rfl (λ g38 A38 c38 hA38 st38=>?_)
  refine st38.sq (sc rfl (oM rfl (tp rfl))<|sc rfl (xFa rfl Zf (zD rfl))<|sc rfl (xLc (sb:=5) (.head _) rfl rfl rfl kT23 (tp rfl) rfl)<|sc rfl (xLe rfl kL23 (tp rfl))<|sc rfl (oCI rfl (tp rfl) (tp rfl))<|.nil) [6,7,8,28] rfl [(0,4),(2,7),(5,8)] rfl ⟨iI,⟨iI,iT⟩⟩ (λ a39 w39 st39=>?_)
  have st40:=st39.ncf (s:=5) 8 rfl rfl iI [0,2] rfl
  refine st40.cs (c:=28) rfl h36 (λ c41 h41=>?_) (λ c42 h42=>?_)
  ·
   refine wp_skip (za ?_)
   obtain⟨o43,p43,k43⟩:=bs h41
   refine zj (λ a w=>∃ M1 q43_0 q43_1 q43_2 q43_3 q43_4 q43_5 q43_6 q43_7 q43_8,Sx (Frm.chg w0 G) 82 M M1 [q43_0,q43_1,q43_2,q43_3,q43_4,q43_5,q43_6,q43_7,q43_8] [(6,dt v6.2.2.1),(7,dt v6.2.2.2),(8,dt s35.2.2)] [(0,4,dnm (Ow.box (Ow.frz (α:=Reader))) q43_4 ⟨o43.1⟩ (.pointer (some ⟨b0,0,none⟩)) []),(2,7,dow (Ow.box (owTree (Ow.row 86 (Ow.frz (α:=File))))) q43_7 ⟨WM⟩),(5,8,dow (Ow.box (owTree (Ow.row 86 (Ow.frz (α:=File))))) q43_8 ⟨o43.2⟩)] a w) ?_ ?_
   ·
    refine wp_block (wp_seq (wp_region_list ?_))
    refine st40.seg 2 (
      sc rfl (oM rfl (tp rfl))<|sc rfl (Wz rfl cI (zH (by decide)) (tp rfl))<|.nil) [6,7,8,32] rfl [(0,4),(2,7),(5,8)] rfl ⟨iI,⟨iI,iT⟩⟩ (λ a44 w44 st44=>?_)
    refine st44.litW (oe:=(Ow.frz (α:=Stmt))) (opds:=[.tmp 32]) (xs:=[(⟨(3:Int),⟨[]⟩,0,(⟨[120]⟩:Str),s35.2.2⟩:Stmt)]) 5 [] rfl rfl kI83 kY83 rfl rfl (by decide) rfl (by decide) (rowW_lit (oe:=(Ow.frz (α:=Stmt))) (G1:=noB) (ZJ (st44.st.has 32 _ rfl)) (λ _ h=>h.elim)) (λ q hq=>by
 simp only[List.mem_cons,List.not_mem_nil,or_false] at hq
 subst hq
 exact Rep.len (ZJ (st44.st.has 32 _ rfl))) (by simp) [6,7,8] rfl [0,2,5] rfl rfl rfl (by decide) (λ G45 M45 a45 w45 st45=>?_)
    have st46:=st45.gs (Gs':=[q35_0,q35_1,q35_2,q35_3,q35_4,G45,q35_6,q35_7,q35_8]) rfl
    refine st46.nmR (s:=33) 5 rfl rfl iI [0,2,5] rfl (λ g47 A47 c47 hA47 st47=>?_)
    refine st47.seg 1 (
      sc rfl (oA rfl (tp rfl))<|.nil) [6,7,8] rfl [(0,4),(2,7),(5,8),(9,5)] rfl ⟨iI,⟨iI,⟨iI,iT⟩⟩⟩ (λ a48 w48 st48=>?_)
    refine wpList_nil (za ?_)
    obtain⟨o49,p49,k49⟩:=bs p43
    refine zj (λ a w=>∃ M1 q49_0 q49_1 q49_2 q49_3 q49_4 q49_5 q49_6 q49_7 q49_8,Sx (Frm.chg w0 G) 82 M M1 [q49_0,q49_1,q49_2,q49_3,q49_4,q49_5,q49_6,q49_7,q49_8] [(6,dt v6.2.2.1),(7,dt v6.2.2.2),(8,dt s35.2.2)] [(0,4,dnm (Ow.box (Ow.frz (α:=Reader))) q49_4 ⟨o49.1⟩ (.pointer (some ⟨b0,0,none⟩)) []),(2,7,dow (Ow.box (owTree (Ow.row 86 (Ow.frz (α:=File))))) q49_7 ⟨WM⟩),(5,8,dow (Ow.box (owTree (Ow.row 86 (Ow.frz (α:=File))))) q49_8 ⟨s35.2.1⟩),(9,5,dow (Ow.row 82 (Ow.frz (α:=Stmt))) q49_5 o49.2)] a w) ?_ ?_
    ·
     refine wp_seq (wp_region_list ?_)
     refine st48.seg 1 (
       sc rfl (oM rfl (zD rfl))<|.nil) [6,7,8,34] rfl [(0,4),(2,7),(5,8),(9,5)] rfl ⟨iI,⟨iI,⟨iI,iT⟩⟩⟩ (λ a50 w50 st50=>?_)
     obtain⟨v52,p52,h53⟩:=bs p49
     refine st50.cSF (l:=[.const (.int .i64 3)]) 4 (st50.bkN (s:=0) rfl iI) rfl rfl kN70 (Eq.trans (st50.st.has 34 _ rfl) (st50.st.has 0 _ rfl).1.symm) (by simp) (.cons cI .nil) (zE p52) [6,7,8] rfl [2,5,9] rfl rfl (by decide) (λ G51 M51 a51 w51 st51=>?_)
     have st54:=st51.gs (Gs':=[q35_0,q35_1,q35_2,q35_3,G51,G45,q35_6,q35_7,q35_8]) rfl
     refine st54.seg 1 (
       sc rfl (oA rfl (tp rfl))<|.nil) [6,7,8,10] rfl [(0,4),(2,7),(5,8),(9,5)] rfl ⟨iI,⟨iI,⟨iI,iT⟩⟩⟩ (λ a55 w55 st55=>?_)
     refine wpList_nil (za (wp_block ?_))
     have st56:=st55.unm (s:=5) 8 rfl rfl iI [0,2,9] rfl
     have st57:=st56.unm (s:=9) 5 rfl rfl iI [0,2,5] rfl
     refine zB h53 (λ s58 a w=>∃ M1 q58_0 q58_1 q58_2 q58_3 q58_4 q58_5 q58_6 q58_7 q58_8,Sx (Frm.chg w0 G) 82 M M1 [q58_0,q58_1,q58_2,q58_3,q58_4,q58_5,q58_6,q58_7,q58_8] [(6,dt v6.2.2.1),(7,dt v6.2.2.2),(8,dt s35.2.2),(10,dt s58.2.2)] [(0,4,dnm (Ow.box (Ow.frz (α:=Reader))) q58_4 ⟨s58.1⟩ (.pointer (some ⟨b0,0,none⟩)) []),(2,7,dow (Ow.box (owTree (Ow.row 86 (Ow.frz (α:=File))))) q58_7 ⟨WM⟩),(5,8,dow (Ow.box (owTree (Ow.row 86 (Ow.frz (α:=File))))) q58_8 ⟨s35.2.1⟩),(9,5,dow (Ow.row 82 (Ow.frz (α:=Stmt))) q58_5 s58.2.1)] a w) ⟨_,_,_,_,_,_,_,_,_,_,st57.sel [6,7,8,10] rfl [(0,4),(2,7),(5,8),(9,5)] rfl ⟨iI,⟨iI,⟨iI,iT⟩⟩⟩⟩ ?_
     rintro s58 z58 a58 w58 ⟨M58,q58_0,q58_1,q58_2,q58_3,q58_4,q58_5,q58_6,q58_7,q58_8,st58⟩ hs58 hx58
     have h59:yO s35 s58=some z58:=hs58
     unfold yO at h59
     refine wp_seq ?_
     refine st58.sq (sc rfl (oM rfl (tp rfl))<|sc rfl (oCI rfl (tp rfl) cI)<|sc rfl (oM rfl (tp rfl))<|sg rfl rfl (λ hg=>oM rfl (tp rfl))<|sg rfl rfl (λ hg=>oCI rfl (zi hg rfl) cI)<|sc rfl (ym rfl (tp rfl) (zb rfl))<|.nil) [6,7,8,10,41] rfl [(0,4),(2,7),(5,8),(9,5)] rfl ⟨iI,⟨iI,⟨iI,iT⟩⟩⟩ (λ a60 w60 st60=>?_)
     refine st60.cs (c:=41) rfl h59 (λ c61 h61=>?_) (λ c62 h62=>?_)
     ·
      refine wp_skip (za ?_)
      obtain⟨o63,p63,k63⟩:=bs h61
      refine zj (λ a w=>∃ M1 q63_0 q63_1 q63_2 q63_3 q63_4 q63_5 q63_6 q63_7 q63_8,Sx (Frm.chg w0 G) 82 M M1 [q63_0,q63_1,q63_2,q63_3,q63_4,q63_5,q63_6,q63_7,q63_8] [(6,dt v6.2.2.1),(7,dt v6.2.2.2),(8,dt s35.2.2),(10,dt s58.2.2)] [(0,4,dnm (Ow.box (Ow.frz (α:=Reader))) q63_4 ⟨o63.1⟩ (.pointer (some ⟨b0,0,none⟩)) []),(2,7,dow (Ow.box (owTree (Ow.row 86 (Ow.frz (α:=File))))) q63_7 ⟨WM⟩),(5,8,dow (Ow.box (owTree (Ow.row 86 (Ow.frz (α:=File))))) q63_8 ⟨s35.2.1⟩),(9,5,dow (Ow.row 82 (Ow.frz (α:=Stmt))) q63_5 o63.2)] a w) ?_ ?_
      ·
       refine wp_block (wp_seq ?_)
       refine st60.nmB (s:=5) 8 rfl rfl iI [0,2,9] rfl (λ b64 st64=>?_)
       refine st64.hdR (s:=5) 8 true (λ _=>((PV.root.box rfl).fld owTree.f0)) rfl rfl iI [0,2,9] rfl (λ g65 A65 c65 hA65 st65=>?_)
       refine st65.held (λ w=>w.cell? ⟨b64,0,none⟩=some (.slice A65 (s35.2.1.files.length) c65)) zO (λ w66 st66=>?_)
       refine st66.tk (i:=0) rfl rfl (by decide +kernel) (by decide +kernel) (by decide +kernel) (λ _ _ _ h=>h) (st66.cellS (sb:=5) rfl (.head _) rfl rfl) (yFa rfl Zf (st66.st.has 5 _ rfl).1) (λ a67 st67=>?_)
       refine st67.tk (i:=1) rfl rfl (by decide +kernel) (by decide +kernel) (by decide +kernel) (λ _ _ _ h=>h) (st67.cellS (sb:=5) rfl (.head _) rfl rfl) (yLd rfl kT23 (st67.st.has 44 _ rfl) (λ _ h=>h)) (λ a68 st68=>?_)
       refine st68.tkN (i:=2) (sb:=0) rfl rfl (by decide +kernel) (by decide +kernel) (by decide +kernel) (λ _ _ _ _ h=>h) (st68.cellS (sb:=5) rfl (.head _) rfl rfl) rfl rfl rfl (λ a69 st69=>?_)
       refine st69.tkM (i:=3) (sb:=8) rfl rfl (by decide +kernel) (by decide +kernel) (by decide +kernel) (λ _ _ _ _ h=>h) (st69.cellS (sb:=5) rfl (.head _) rfl rfl) rfl rfl rfl rfl (λ a70 st70=>?_)
       refine st70.mvN (s:=45) (sb:=5) 8 3 ((PV.root.box rfl).fld owTree.f0) (.head _) rfl (qT rfl rfl) rfl rfl (by simp) (by simp) (by decide) rfl iI [6,7,8,10,41,44,46,47] rfl [0,2,9] rfl rfl rfl rfl (by decide) (λ G71 H71 st71=>?_)
       obtain⟨v73,p73,v76,p76,v79,p79,h84⟩:=bsC p63
       refine aH1 (i:=4) (by decide +kernel) rfl ?_
       refine st71.cSF (l:=[.tmp 47]) 4 (st71.bkN (s:=0) rfl iI) rfl rfl kN70 (Eq.trans (st71.st.has 46 _ rfl) (st71.st.has 0 _ rfl).1.symm) (by simp) (.cons (tp rfl) .nil) (zE p73) [6,7,8,10] rfl [2,5,9,45] rfl rfl (by decide) (λ G85 M85 a85 w85 st85=>?_)
       have st86:=st85.gs (Gs':=[q58_0,q58_1,q58_2,H71,G85,q58_5,q58_6,q58_7,G71]) rfl
       refine aHN (st86.hkS (sb:=5) rfl) ?_
       refine aH1 (i:=5) (by decide +kernel) rfl ?_
       refine st86.seg 1 (sc rfl (xIaN rfl kS23 rfl (tp rfl) (λ h=>hA65 h rfl) p76)<|.nil) [6,7,8,10,49] rfl [(0,4),(2,7),(5,8),(9,5),(45,3)] rfl ⟨iI,⟨iI,⟨iI,⟨iI,iT⟩⟩⟩⟩ (λ a87 w87 st87=>?_)
       refine aHN (st87.hkS (sb:=5) rfl) ?_
       refine aH1 (i:=6) (by decide +kernel) rfl ?_
       refine st87.seg 1 (sc rfl (xLf (sb:=45) (PV.root.row rfl (λ h=>hA65 h rfl) p76) rfl kT86 (tp rfl) rfl)<|.nil) [6,7,8,10,50] rfl [(0,4),(2,7),(5,8),(9,5),(45,3)] rfl ⟨iI,⟨iI,⟨iI,⟨iI,iT⟩⟩⟩⟩ (λ a88 w88 st88=>?_)
       refine aHN (st88.hkS (sb:=5) rfl) ?_
       refine aH1 (i:=7) (by decide +kernel) rfl ?_
       refine st88.seg 1 (sc rfl (zn (l:=[.tmp 50]) rfl kN71 (.cons (tp rfl) .nil) (ZY p79))<|.nil) [6,7,8,10,51] rfl [(0,4),(2,7),(5,8),(9,5),(45,3)] rfl ⟨iI,⟨iI,⟨iI,⟨iI,iT⟩⟩⟩⟩ (λ a89 w89 st89=>?_)
       refine aHN (st89.hkS (sb:=5) rfl) ?_
       refine aH1 (i:=8) (by decide +kernel) rfl ?_
       refine st89.seg 1 (sc rfl (oA rfl (tp rfl))<|.nil) [6,7,8,10,11] rfl [(0,4),(2,7),(5,8),(9,5),(45,3)] rfl ⟨iI,⟨iI,⟨iI,⟨iI,iT⟩⟩⟩⟩ (λ a90 w90 st90=>?_)
       refine aHN (st90.hkS (sb:=5) rfl) ?_
       refine aH0 (by decide +kernel) ?_
       refine st90.stG (s:=45) (sb:=5) 8 3 rfl (by simp) (by simp) (by decide) rfl rfl iI iI [6,7,8,10,11] rfl [0,2,9] rfl rfl rfl (λ G91 st91=>?_)
       have st92:=st91.gs (Gs':=[q58_0,q58_1,q58_2,oneB none,G85,q58_5,q58_6,q58_7,G91]) rfl
       refine za (wp_seq (wp_seq (wp_region_list ?_)))
       obtain⟨v93,p93,v94,p94,h96⟩:=bsB h84
       refine st92.seg 9 (
          sc rfl (oM rfl (tp rfl))<|sc rfl (zn (l:=[.tmp 52]) rfl kN42 (.cons (tp rfl) .nil) (jb p93))<|sc rfl (xo rfl (tp rfl))<|sc rfl (oM rfl (tp rfl))<|sg rfl rfl (λ hg=>oM rfl (tp rfl))<|sg rfl rfl (λ hg=>zn (l:=[.tmp 56]) rfl kN72 (.cons (zi hg rfl) .nil) (jR (gh hg p94)))<|sg rfl rfl (λ hg=>Xa rfl (zi hg rfl) (zH (by decide)))<|sg rfl rfl (λ hg=>oM rfl (zi hg rfl))<|sgg rfl rfl (λ hg=>oM rfl (zD rfl))<|.nil) [6,7,8,10,11,55,59,60] rfl [(0,4),(2,7),(5,8),(9,5)] rfl ⟨iI,⟨iI,⟨iI,iT⟩⟩⟩ (λ a97 w97 st97=>?_)
       obtain⟨v99,p99,h100⟩:=bs h96
       refine st97.cSFhB (sb:=0) (l:=[.const (.int .i64 2)]) 4 rfl iI rfl rfl rfl kN70 (λ hg=>(st97.st.has 60 _ rfl).1 hg) (by simp) (λ hg=>(.cons cI .nil)) (λ hg=>zE (gh hg p99)) [6,7,8,10,11,55,59] rfl [2,5,9] rfl rfl (by decide) (λ G98 M98 a98 w98 st98=>?_)
       have st101:=st98.gs (Gs':=[q58_0,q58_1,q58_2,oneB none,G98,q58_5,q58_6,q58_7,G91]) rfl
       refine st101.seg 3 (
          sgg rfl rfl (λ hg=>oCI rfl (zi hg rfl) cI)<|sg rfl rfl (λ hg=>ym rfl (zi hg rfl) (WU hg rfl))<|sc rfl (wj rfl (tp rfl) (zb rfl))<|.nil) [6,7,8,10,11,64] rfl [(0,4),(2,7),(5,8),(9,5)] rfl ⟨iI,⟨iI,⟨iI,iT⟩⟩⟩ (λ a102 w102 st102=>?_)
       refine wpList_nil (za ?_)
       refine st102.cs (c:=64) rfl h100 (λ c103 h103=>?_) (λ c104 h104=>?_)
       ·
        refine wp_exit (zh (zv ?_))
        have st105:=st102.unm (s:=5) 8 rfl rfl iI [0,2,9] rfl
        refine za ?_
        obtain rfl:=Option.some.inj h103
        exact⟨_,_,_,_,_,_,_,_,_,_,st105.sel [6,7,8,10] rfl [(0,4),(2,7),(5,8),(9,5)] rfl ⟨iI,⟨iI,⟨iI,iT⟩⟩⟩⟩
       refine wp_skip (za (wp_region_list ?_))
       refine st102.nmR (s:=9) 5 rfl rfl iI [0,2,5] rfl (λ g106 A106 c106 hA106 st106=>?_)
       refine st106.seg 3 (
          sc rfl (oM rfl (tp rfl))<|sc rfl (oM rfl (zD rfl))<|sc rfl (yf (opds:=[.const (.int .i64 0),.const (.int .i64 0),.const (.int .i64 2)]) rfl kS26 kY26 rfl rfl (by decide) (.cons cI (.cons cI (.cons cI .nil))))<|.nil) [6,7,8,10,11,66,67] rfl [(0,4),(2,7),(5,8),(9,5),(65,5)] rfl ⟨iI,⟨iI,⟨iI,⟨iI,iT⟩⟩⟩⟩ (λ a107 w107 st107=>?_)
       obtain⟨v109,p109,h110⟩:=bs h104
       refine st107.cSF (l:=[.tmp 67]) 4 (st107.bkN (s:=0) rfl iI) rfl rfl kN73 (Eq.trans (st107.st.has 66 _ rfl) (st107.st.has 0 _ rfl).1.symm) (by simp) (.cons (tp rfl) .nil) (xk p109) [6,7,8,10,11] rfl [2,5,9,65] rfl rfl (by decide) (λ G108 M108 a108 w108 st108=>?_)
       have st111:=st108.gs (Gs':=[q58_0,q58_1,q58_2,oneB none,G108,q58_5,q58_6,q58_7,G91]) rfl
       refine st111.seg 3 (
          sc rfl (oM rfl (tp rfl))<|sc rfl (kD82_0_1 rfl (tp rfl) (tp rfl))<|sc rfl (yf (opds:=[.tmp 70]) rfl kS83 kY83 rfl rfl (by decide) (.cons (tp rfl) .nil))<|.nil) [6,7,8,10,71] rfl [(0,4),(2,7),(5,8),(9,5),(65,5)] rfl ⟨iI,⟨iI,⟨iI,⟨iI,iT⟩⟩⟩⟩ (λ a112 w112 st112=>?_)
       have st114:=st112.unm (s:=65) 5 rfl rfl iI [0,2,5] rfl
       refine st114.tipR (s:=65) 5 rfl rfl (by simp) iI [0,2,5] rfl rfl (λ g115 st115=>?_)
       obtain⟨v117,p117,h118⟩:=bs h110
       refine st115.app 5 rfl rfl kE83 rfl rfl rfl yS p117 [6,7,8,10] rfl [0,2,5] rfl rfl (λ g116 M116 a116 w116 st116=>?_)
       have st119:=st116.gs (Gs':=[q58_0,q58_1,q58_2,oneB none,G108,oneB g116,q58_6,q58_7,G91]) rfl
       refine st119.seg 1 (
          sc rfl (oA rfl (tp rfl))<|.nil) [6,7,8,10] rfl [(0,4),(2,7),(5,8),(9,5)] rfl ⟨iI,⟨iI,⟨iI,iT⟩⟩⟩ (λ a120 w120 st120=>?_)
       refine wpList_nil (ze ?_)
       have st121:=st120.unm (s:=5) 8 rfl rfl iI [0,2,9] rfl
       have st122:=st121.tipW (s:=9) 5 rfl rfl iI [0,2,5] rfl
       refine za ?_
       obtain rfl:=Option.some.inj h118
       exact⟨_,_,_,_,_,_,_,_,_,_,st122.sel [6,7,8,10] rfl [(0,4),(2,7),(5,8),(9,5)] rfl ⟨iI,⟨iI,⟨iI,iT⟩⟩⟩⟩
      rintro a63 w63 ⟨M63,q63_0,q63_1,q63_2,q63_3,q63_4,q63_5,q63_6,q63_7,q63_8,st63⟩
      have h123:=k63
      obtain⟨v124,p124,h125⟩:=bs h123
      refine st63.rg (sc rfl (oM rfl (tp rfl))<|sc rfl (xAr rfl (tp rfl) cI p124)<|sc rfl (oA rfl (tp rfl))<|.nil) [6,7,8,10] rfl [(0,4),(2,7),(5,8),(9,5)] rfl ⟨iI,⟨iI,⟨iI,iT⟩⟩⟩ (λ a126 w126 st126=>za ?_)
      exact⟨_,(Option.some.inj h125).symm,⟨_,_,_,_,_,_,_,_,_,_,st126.sel [6,7,8,10] rfl [(0,4),(2,7),(5,8),(9,5)] rfl ⟨iI,⟨iI,⟨iI,iT⟩⟩⟩⟩⟩
     refine wp_exit (zh (zh (zv ?_)))
     refine za ?_
     have h127:=lo h62 hx58
     obtain rfl:=Option.some.inj h127
     exact⟨_,_,_,_,_,_,_,_,_,_,st60.sel [6,7,8] rfl [(0,4),(2,7),(5,8),(9,5)] rfl ⟨iI,⟨iI,⟨iI,iT⟩⟩⟩⟩
    rintro a49 w49 ⟨M49,q49_0,q49_1,q49_2,q49_3,q49_4,q49_5,q49_6,q49_7,q49_8,st49⟩
    have h128:=k49
    have st129:=st49.frzW (s:=9) 5 rfl (by simp) iI [6,7,8] rfl [0,2,5] rfl rfl
    refine wp_region_list ?_
    obtain⟨v132,p132,h133⟩:=bs h128
    refine st129.nmB (s:=5) 8 rfl rfl iI [0,2] rfl (λ b130 st130=>?_)
    refine st130.hdR (s:=5) 8 true (λ _=>((PV.root.box rfl).fld owTree.f0)) rfl rfl iI [0,2] rfl (λ g131 A131 c131 hA131 st131=>?_)
    refine st131.seg 6 (
      sc rfl (xFa rfl Zf (zD rfl))<|sc rfl (xLc (sb:=5) (.head _) rfl rfl rfl kT23 (tp rfl) rfl)<|sc rfl (oM rfl (tp rfl))<|sc rfl (oM rfl (tp rfl))<|sc rfl (xIa (g:=g131) rfl kS23 (tp rfl) (tp rfl) rfl (λ h=>hA131 h rfl) p132)<|sc rfl (xFa rfl Ja (tp rfl))<|.nil) [6,7,8,76,78] rfl [(0,4),(2,7),(5,8)] rfl ⟨iI,⟨iI,iT⟩⟩ (λ a134 w134 st134=>?_)
    refine st134.stF (sb:=5) 8 ((((PV.root.box rfl).fld owTree.f0).row (.head _) rfl (λ h=>hA131 h rfl) p132).fld File.z5) rfl rfl rfl kT83 (by simp) (tp rfl) (tp rfl) rfl rfl iI [6,7,8] rfl [0,2] rfl rfl (λ w135 st135=>wpList_nil (ze ?_))
    have st136:=st135.unm (s:=5) 8 rfl rfl iI [0,2] rfl
    refine za ?_
    obtain rfl:=Option.some.inj h133
    exact⟨_,_,_,_,_,_,_,_,_,_,st136.sel [6,7,8] rfl [(0,4),(2,7),(5,8)] rfl ⟨iI,⟨iI,iT⟩⟩⟩
   rintro a43 w43 ⟨M43,q43_0,q43_1,q43_2,q43_3,q43_4,q43_5,q43_6,q43_7,q43_8,st43⟩
   have h137:=k43
   obtain⟨v138,p138,h139⟩:=bs h137
   refine st43.rg (sc rfl (oM rfl (tp rfl))<|sc rfl (xAr rfl (tp rfl) cI p138)<|sc rfl (oA rfl (tp rfl))<|.nil) [6,7,8] rfl [(0,4),(2,7),(5,8)] rfl ⟨iI,⟨iI,iT⟩⟩ (λ a140 w140 st140=>za ?_)
   exact⟨_,(Option.some.inj h139).symm,⟨_,_,_,_,_,_,_,_,_,_,st140.sel [6,7,8] rfl [(0,4),(2,7),(5,8)] rfl ⟨iI,⟨iI,iT⟩⟩⟩⟩
  refine wp_exit (zh (zh (zv ?_)))
  have st141:=st40.unm (s:=5) 8 rfl rfl iI [0,2] rfl
  refine za ?_
  have h142:=lo h42 hx35
  obtain rfl:=Option.some.inj h142
  exact⟨_,_,_,_,_,_,_,_,_,_,st141.sel [6,7] rfl [(0,4),(2,7),(5,8)] rfl ⟨iI,⟨iI,iT⟩⟩⟩
 rintro a31 w31 ⟨M31,q31_0,q31_1,q31_2,q31_3,q31_4,q31_5,q31_6,q31_7,q31_8,st31⟩
 have h143:=k31
 refine wp_seq (wp_region_list ?_)
 refine st31.nmB (s:=5) 8 rfl rfl iI [0,2] rfl (λ b145 st145=>?_)
 refine st145.ldW (sb:=5) 8 rfl rfl kT25 rfl (by simp) iI [6,7] rfl [0,2] rfl rfl (λ a144 w144 st144=>?_)
 refine st144.seg 2 (
  sc rfl (oM rfl (tp rfl))<|sc rfl (oM rfl (tp rfl))<|.nil) [80,81] rfl [(0,4),(2,7),(79,8)] rfl ⟨iI,⟨iI,iT⟩⟩ (λ a146 w146 st146=>?_)
 refine st146.nmB (s:=2) 7 rfl rfl iI [0,79] rfl (λ b148 st148=>?_)
 refine st148.stO (sb:=2) (tv:=79) 7 8 (PV.root.box rfl) rfl rfl rfl kT25 (by simp) (by simp) (by decide) (zD rfl) rfl rfl rfl iI iI [80,81] rfl [0] rfl rfl rfl (λ G147 w147 st147=>?_)
 have st149:=st147.gs (Gs':=[q31_0,q31_1,q31_2,q31_3,q31_4,q31_5,q31_6,G147,oneB none]) rfl
 refine st149.seg 2 (
  sc rfl (oA rfl (tp rfl))<|sc rfl (oA rfl (tp rfl))<|.nil) [3,4] rfl [(0,4),(2,7)] rfl ⟨iI,iT⟩ (λ a150 w150 st150=>?_)
 refine wpList_nil (za (wp_ret ?_))
 obtain rfl:=Option.some.inj h143
 exact st150.rs3O (s:=0) 4 7 rfl kT25 rfl rfl rfl rfl ⟨rfl,rfl⟩ iI iI (by decide) ⟨rfl,rfl⟩
open Go.RowKit Tryz
set_option maxRecDepth 10000
set_option maxHeartbeats 1600000
theorem kN38:fnB prog 38=true:=by kernel_rfl
theorem kN37:fnB prog 37=true:=by kernel_rfl
def wP(x0:List UInt8):Option (Tree×(List Int)×Str):=
(jd x0).bind λ v6=>
(qh v6).bind λ v9=>
some (v9.2.1,v9.2.2.1,v9.2.2.2)
theorem JI{x0:List UInt8}{r:Tree×(List Int)×Str}(h:wP x0=some r):Fn prog 7 [dt x0] (dtup [dt r.1,dt r.2.1,dt r.2.2]):=by
 unfold wP at h
 refine fnx (fn:=f7) 2 func7 rfl (oD rfl) rfl (λ M w0 a0 st0=>wp_seq (wp_region_list ?_))
 refine st0.alloc 1 rfl rfl kZ25 zrTree (by simp) [0] rfl [] rfl rfl (λ b2 M2 a2 w2 st2=>?_)
 refine st2.seg 2 (
  sc rfl (oA rfl (xN (α:=Int)))<|sc rfl (oA rfl (zH (by decide)))<|.nil) [0] rfl [(2,1)] rfl iT (λ a3 w3 st3=>?_)
 refine wpList_nil (za (wp_seq (wp_region_list ?_)))
 refine st3.seg 1 (
  sc rfl (oM rfl (tp rfl))<|.nil) [5] rfl [(2,1)] rfl iT (λ a4 w4 st4=>?_)
 obtain⟨v6,p6,h7⟩:=bs h
 refine st4.cN (l:=[.tmp 5]) 0 rfl rfl kN38 (.cons (tp rfl) .nil) (We p6) (by simp) [] rfl [2] rfl rfl (λ G5 M5 a5 w5 st5=>?_)
 obtain⟨v9,p9,h10⟩:=bs h7
 refine st5.cSF (l:=[]) 0 (st5.bkR (s:=6) rfl iI) rfl rfl kN37 rfl (by simp) .nil ((FnS.frz3 (Jh p9))) [] rfl [2] rfl rfl (by decide) (λ G8 M8 a8 w8 st8=>?_)
 refine st8.seg 3 (
  sc rfl (xExt (i:=0) rfl (tp rfl) rfl)<|sc rfl (xExt (i:=1) rfl (tp rfl) rfl)<|sc rfl (xExt (i:=2) rfl (tp rfl) rfl)<|.nil) [8,9,10] rfl [(2,1)] rfl iT (λ a11 w11 st11=>?_)
 refine st11.store (sb:=2) 1 FldS.id rfl rfl rfl kT25 rfl rfl (tp rfl) rfl [9,10] rfl [] rfl rfl (λ M13 w13 st13=>?_)
 refine st13.seg 2 (
  sc rfl (oA rfl (tp rfl))<|sc rfl (oA rfl (tp rfl))<|.nil) [3,4] rfl [(2,1)] rfl iT (λ a14 w14 st14=>?_)
 refine wpList_nil (za (wp_ret ?_))
 obtain rfl:=Option.some.inj h10
 exact st14.ret3c rfl kT25 rfl (st14.frozen (t:=3) rfl) (st14.frozen (t:=4) rfl) ⟨rfl,rfl⟩ rfl
def wl(x0:List UInt8):Option (Tree×(List Int)×Str):=
(jd x0).bind λ v6=>
(qh v6).bind λ v9=>
some (v9.2.1,v9.2.2.1,v9.2.2.2)
theorem WS{x0:List UInt8}{r:Tree×(List Int)×Str}(h:wl x0=some r):Fn prog 28 [dt x0] (dtup [dt r.1,dt r.2.1,dt r.2.2]):=by
 unfold wl at h
 refine fnx (fn:=f28) 2 func28 rfl (oD rfl) rfl (λ M w0 a0 st0=>wp_seq (wp_region_list ?_))
 refine st0.alloc 1 rfl rfl kZ25 zrTree (by simp) [0] rfl [] rfl rfl (λ b2 M2 a2 w2 st2=>?_)
 refine st2.seg 2 (
  sc rfl (oA rfl (xN (α:=Int)))<|sc rfl (oA rfl (zH (by decide)))<|.nil) [0] rfl [(2,1)] rfl iT (λ a3 w3 st3=>?_)
 refine wpList_nil (za (wp_seq (wp_region_list ?_)))
 refine st3.seg 1 (
  sc rfl (oM rfl (tp rfl))<|.nil) [5] rfl [(2,1)] rfl iT (λ a4 w4 st4=>?_)
 obtain⟨v6,p6,h7⟩:=bs h
 refine st4.cN (l:=[.tmp 5]) 0 rfl rfl kN38 (.cons (tp rfl) .nil) (We p6) (by simp) [] rfl [2] rfl rfl (λ G5 M5 a5 w5 st5=>?_)
 obtain⟨v9,p9,h10⟩:=bs h7
 refine st5.cSF (l:=[]) 0 (st5.bkR (s:=6) rfl iI) rfl rfl kN37 rfl (by simp) .nil ((FnS.frz3 (Jh p9))) [] rfl [2] rfl rfl (by decide) (λ G8 M8 a8 w8 st8=>?_)
 refine st8.seg 3 (
  sc rfl (xExt (i:=0) rfl (tp rfl) rfl)<|sc rfl (xExt (i:=1) rfl (tp rfl) rfl)<|sc rfl (xExt (i:=2) rfl (tp rfl) rfl)<|.nil) [8,9,10] rfl [(2,1)] rfl iT (λ a11 w11 st11=>?_)
 refine st11.store (sb:=2) 1 FldS.id rfl rfl rfl kT25 rfl rfl (tp rfl) rfl [9,10] rfl [] rfl rfl (λ M13 w13 st13=>?_)
 refine st13.seg 2 (
  sc rfl (oA rfl (tp rfl))<|sc rfl (oA rfl (tp rfl))<|.nil) [3,4] rfl [(2,1)] rfl iT (λ a14 w14 st14=>?_)
 refine wpList_nil (za (wp_ret ?_))
 obtain rfl:=Option.some.inj h10
 exact st14.ret3c rfl kT25 rfl (st14.frozen (t:=3) rfl) (st14.frozen (t:=4) rfl) ⟨rfl,rfl⟩ rfl
end Go.Proofs.YtobplpdjkfbfoaaGreatDoor
