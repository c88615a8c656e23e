import Derived.Test.YtpmkkijamfgaeaaGreatDoorRB
import Derived.Test.YtpmkkijamfgaeaaGreatDoorRO
import Derived.Test.YtpmkkijamfgaeaaGreatDoorRN
import Derived.Test.YtpmkkijamfgaeaaGreatDoorRC
import Derived.Test.YtpmkkijamfgaeaaGreatDoorRG
namespace Go.Proofs.YtpmkkijamfgaeaaGreatDoor
open Go.RowKit Tryz
attribute [local irreducible] OpRel OpdR
set_option maxRecDepth 10000
set_option maxHeartbeats 1600000
theorem kL22:isSl prog 22=true:=by kernel_rfl
theorem kS22:slB prog 22 1=true:=by kernel_rfl
theorem kB125:bldB prog 125 [1,1]=true:=by kernel_rfl
theorem kC125:ZR prog 125 [1,1]=some zpReader:=by kernel_rfl
theorem kD125_0:∀ {M:Nat->Prop} {look:Nat->Option Dt} {o:Oper} {q0:Operand} {y0:List UInt8},o.op=.build 125 #[(0,q0)]->OpdR M look q0 (dt y0)->OpRel prog M look o (dt (⟨y0,0⟩:Reader)):=@λ _ _ _ q0 y0 ho h0=>yA (parts:=[(0,q0)]) (ns:=[1,1]) (zs:=zpReader) rfl ho kB125 kC125 (λ w a hl=>by
 intro p hp;simp only[List.mem_cons,List.not_mem_nil,or_false] at hp
 rcases hp with rfl
 ·
  exact⟨(by decide:0<2),Rep.len (α:=List UInt8) (OpdR.cells h0 hl)⟩) (λ w a hl=>Reader.parts (x:=(⟨y0,0⟩:Reader)) (OpdR.cells h0 hl) ⟨rfl,trivial⟩)
theorem kF125_1:fldB prog 125 1 1=true:=by kernel_rfl
theorem Jp:fldB prog 125 0 0=true:=by kernel_rfl
theorem kT22:tyB prog 22 false 1=true:=by kernel_rfl
theorem kT5:tyB prog 5 false 1=true:=by kernel_rfl
theorem kCv5_3:cvI prog 5 3=true:=by kernel_rfl
theorem kN75:fnB prog 75=true:=by kernel_rfl
theorem kN62:fnB prog 62=true:=by kernel_rfl
theorem kD74_0_1:∀ {M:Nat->Prop} {look:Nat->Option Dt} {o:Oper} {q0 q1:Operand} {y0:Int} {y1:Str},o.op=.build 74 #[(0,q0),(1,q1)]->OpdR M look q0 (dt y0)->OpdR M look q1 (dt y1)->OpRel prog M look o (dt (⟨y0,y1,0,⟨[]⟩,0⟩:Stmt)):=@λ _ _ _ q0 q1 y0 y1 ho h0 h1=>yA (parts:=[(0,q0),(1,q1)]) (ns:=[1,1,1,1,1]) (zs:=zao) rfl ho kB74 kC74 (λ w a hl=>by
 intro p hp;simp only[List.mem_cons,List.not_mem_nil,or_false] at hp
 rcases hp with rfl | rfl
 ·
  exact⟨(by decide:0<5),Rep.len (α:=Int) (OpdR.cells h0 hl)⟩
 ·
  exact⟨(by decide:1<5),Rep.len (α:=Str) (OpdR.cells h1 hl)⟩) (λ w a hl=>Stmt.parts (x:=(⟨y0,y1,0,⟨[]⟩,0⟩:Stmt)) (OpdR.cells h0 hl) (OpdR.cells h1 hl) ⟨rfl,trivial⟩ jS ⟨rfl,trivial⟩)
theorem kD74_0_1_2_3:∀ {M:Nat->Prop} {look:Nat->Option Dt} {o:Oper} {q0 q1 q2 q3:Operand} {y0:Int} {y1:Str} {y2:Int} {y3:Str},o.op=.build 74 #[(0,q0),(1,q1),(2,q2),(3,q3)]->OpdR M look q0 (dt y0)->OpdR M look q1 (dt y1)->OpdR M look q2 (dt y2)->OpdR M look q3 (dt y3)->OpRel prog M look o (dt (⟨y0,y1,y2,y3,0⟩:Stmt)):=@λ _ _ _ q0 q1 q2 q3 y0 y1 y2 y3 ho h0 h1 h2 h3=>yA (parts:=[(0,q0),(1,q1),(2,q2),(3,q3)]) (ns:=[1,1,1,1,1]) (zs:=zao) rfl ho kB74 kC74 (λ w a hl=>by
 intro p hp;simp only[List.mem_cons,List.not_mem_nil,or_false] at hp
 rcases hp with rfl | rfl | rfl | rfl
 ·
  exact⟨(by decide:0<5),Rep.len (α:=Int) (OpdR.cells h0 hl)⟩
 ·
  exact⟨(by decide:1<5),Rep.len (α:=Str) (OpdR.cells h1 hl)⟩
 ·
  exact⟨(by decide:2<5),Rep.len (α:=Int) (OpdR.cells h2 hl)⟩
 ·
  exact⟨(by decide:3<5),Rep.len (α:=Str) (OpdR.cells h3 hl)⟩) (λ w a hl=>Stmt.parts (x:=(⟨y0,y1,y2,y3,0⟩:Stmt)) (OpdR.cells h0 hl) (OpdR.cells h1 hl) (OpdR.cells h2 hl) (OpdR.cells h3 hl) ⟨rfl,trivial⟩)
theorem Jq:∀ {M:Nat->Prop} {look:Nat->Option Dt} {o:Oper} {q0 q3 q4:Operand} {y0:Int} {y3:Str} {y4:Int},o.op=.build 74 #[(0,q0),(3,q3),(4,q4)]->OpdR M look q0 (dt y0)->OpdR M look q3 (dt y3)->OpdR M look q4 (dt y4)->OpRel prog M look o (dt (⟨y0,⟨[]⟩,0,y3,y4⟩:Stmt)):=@λ _ _ _ q0 q3 q4 y0 y3 y4 ho h0 h3 h4=>yA (parts:=[(0,q0),(3,q3),(4,q4)]) (ns:=[1,1,1,1,1]) (zs:=zao) rfl ho kB74 kC74 (λ w a hl=>by
 intro p hp;simp only[List.mem_cons,List.not_mem_nil,or_false] at hp
 rcases hp with rfl | rfl | rfl
 ·
  exact⟨(by decide:0<5),Rep.len (α:=Int) (OpdR.cells h0 hl)⟩
 ·
  exact⟨(by decide:3<5),Rep.len (α:=Str) (OpdR.cells h3 hl)⟩
 ·
  exact⟨(by decide:4<5),Rep.len (α:=Int) (OpdR.cells h4 hl)⟩) (λ w a hl=>Stmt.parts (x:=(⟨y0,⟨[]⟩,0,y3,y4⟩:Stmt)) (OpdR.cells h0 hl) jS ⟨rfl,trivial⟩ (OpdR.cells h3 hl) (OpdR.cells h4 hl))
theorem kD74_0_3:∀ {M:Nat->Prop} {look:Nat->Option Dt} {o:Oper} {q0 q3:Operand} {y0:Int} {y3:Str},o.op=.build 74 #[(0,q0),(3,q3)]->OpdR M look q0 (dt y0)->OpdR M look q3 (dt y3)->OpRel prog M look o (dt (⟨y0,⟨[]⟩,0,y3,0⟩:Stmt)):=@λ _ _ _ q0 q3 y0 y3 ho h0 h3=>yA (parts:=[(0,q0),(3,q3)]) (ns:=[1,1,1,1,1]) (zs:=zao) rfl ho kB74 kC74 (λ w a hl=>by
 intro p hp;simp only[List.mem_cons,List.not_mem_nil,or_false] at hp
 rcases hp with rfl | rfl
 ·
  exact⟨(by decide:0<5),Rep.len (α:=Int) (OpdR.cells h0 hl)⟩
 ·
  exact⟨(by decide:3<5),Rep.len (α:=Str) (OpdR.cells h3 hl)⟩) (λ w a hl=>Stmt.parts (x:=(⟨y0,⟨[]⟩,0,y3,0⟩:Stmt)) (OpdR.cells h0 hl) jS ⟨rfl,trivial⟩ (OpdR.cells h3 hl) ⟨rfl,trivial⟩)
instance iF125_0KxE:FldO prog 125 0 0:=⟨Jp⟩
instance iF125_1KxE:FldO prog 125 1 1:=⟨kF125_1⟩
def qK(x0:List UInt8):Option Reader:=
Option.bind (α:=(List UInt8)) (if(cmpI .gtr (x0.length:Int) (2000:Int))=true then((JQ x0 (2000:Int)).bind λ v6=>
some v6)
else(some x0)) λ o2=>
some (⟨o2,0⟩:Reader)
theorem zb2{x0:List UInt8}{r:Reader}(h:qK x0=some r):FnN prog 31 [dt x0] (.ow (Ow.box (Ow.frz (α:=Reader))) ⟨r⟩):=by
 unfold qK at h
 refine fnN (fn:=f31) 2 func31 rfl (oD rfl) rfl (λ M w0 _ st0=>?_)
 refine st0.sq2 (sc rfl (oA rfl zbb)<|.nil) [0] (λ _ _ st1=>?_)
 obtain⟨o2,p2,k2⟩:=bs h
 refine zi (λ a w=>∃ M1 q2_0 q2_1,Sx (Frm.of w0) 11 M M1 [q2_0,q2_1] [(0,dt o2)] [] a w) ?_ ?_
 ·
  refine st1.sq1 [0,5] (λ _ _ st3=>?_)
  refine st3.cs rfl p2 (λ _ h4=>?_) (λ _ h5=>wp_skip (za ?_))
  ·
   obtain⟨v6,p6,h7⟩:=bs h4
   refine st3.rg2 (sP 1 (r:=by exact sc rfl (xSliH rfl kS22 (tp rfl) cI p6)<|segC)) [0] (λ _ _ st8=>za ?_)
   cases h7
   exact fx
  cases h5
  exact fx
 rintro a2 w2 ⟨M2,q2_0,q2_1,st2⟩
 have h9:=k2
 refine wp_seq (wp_region_list ?_)
 refine st2.segB 2 (sP 1 (r:=by exact sc rfl (kD125_0 rfl (tp rfl))<|.nil)) [9] [] (λ _ _ st10=>?_)
 refine st10.boxZ 0 rfl rfl (tp rfl) (by simp) [] rfl [] rfl rfl (λ b11 _ _ _ st11=>?_)
 refine st11.segA 1 [] [(2,0)] (λ _ _ st12=>wpList_nil (za (wp_ret ?_)))
 have st13:=st12.unm (s:=2) 0 rfl rfl iI [] rfl
 exact st13.rnO 0 rfl rfl iI (bx1 h9)
def zC(x0:Reader)(x1:Int):Option (Reader×Int):=
(i64 (x0.p+(1:Int))).bind λ v2=>
if(cmpI .lss x1 (1:Int)||cmpI .eql (x0.b.length:Int) (0:Int))=true then(some ({ x0 with p:=v2 },(0:Int)))
else((i64 (v2 - (1:Int))).bind λ v10=>
if(cmpI .lss v10 (x0.b.length:Int))=true then((atI x0.b v10).bind λ v16=>
(modO (v16.toNat:Int) x1).bind λ v17=>
some ({ x0 with p:=v2 },v17))
else((modO v10 (x0.b.length:Int)).bind λ v21=>
(atI x0.b v21).bind λ v22=>
(i64 ((v22.toNat:Int)*(131:Int))).bind λ v23=>
(i64 (v10*(7:Int))).bind λ v24=>
(i64 (v24+(3:Int))).bind λ v25=>
(modO v25 (x0.b.length:Int)).bind λ v26=>
(atI x0.b v26).bind λ v27=>
(i64 ((v27.toNat:Int)*(1117:Int))).bind λ v28=>
(i64 (v23+v28)).bind λ v29=>
(i64 (v10*(29:Int))).bind λ v30=>
(i64 (v29+v30)).bind λ v31=>
(divO v10 (x0.b.length:Int)).bind λ v32=>
(i64 (v32*(53:Int))).bind λ v33=>
(i64 (v31+v33)).bind λ v34=>
(divO v34 (64:Int)).bind λ v50=>
(modO (xorI v34 v50) x1).bind λ v53=>
some ({ x0 with p:=v2 },v53)))
theorem zF{x0:Reader}{x1:Int}{r:Reader×Int}(h:zC x0 x1=some r):FnS prog 75 (Ow.box (Ow.frz (α:=Reader))) ⟨x0⟩ [dt x1] ⟨r.1⟩ (.frz (dt r.2)):=by
 unfold zC at h
 refine fnSB (fn:=f75) 0 1 func75 rfl (oD rfl) rfl (λ M G _ b0 _ st0=>?_)
 refine st0.sqA [1] [(0,0)] (λ _ _ st1=>wp_seq (wp_region_list ?_))
 obtain⟨v2,p2,h3⟩:=bs h
 refine st1.segB 8 (sP 4 (r:=by exact sc rfl (xLf (sb:=0) ((PV.root.box rfl).fld Reader.z1) rfl kT3 (tp rfl) rfl)<|segC)) [1,12,14] [(0,0)] (λ _ _ st4=>?_)
 refine st4.sfA 0 0 ((PV.root.box rfl).fld Reader.z1) (tp rfl) (tp rfl) [1] [] (λ _ st5=>wpList_nil (za (wp_seq ?_)))
 refine st5.sqB (sc rfl (oM rfl (tp rfl))<|sc rfl (oCI rfl (tp rfl) cI)<|sc rfl (oM rfl (tp rfl))<|sg rfl rfl (λ hg=>oM rfl (zR rfl))<|sg rfl rfl (λ hg=>xNc rfl (zn hg rfl))<|sg rfl rfl (λ hg=>xFa rfl Jp (zn hg rfl))<|sg rfl rfl (λ hg=>xLf (sb:=0) ((PV.root.box rfl).fld Reader.z0) rfl kT22 (zn hg rfl) rfl)<|sg rfl rfl (λ hg=>WE rfl kL22 (zn hg rfl))<|sg rfl rfl (λ hg=>oCI rfl (zn hg rfl) cI)<|sc rfl (ZO rfl (tp rfl) (zb rfl))<|.nil) [1,24] [(0,0)] (λ _ _ st6=>?_)
 refine st6.cs rfl h3 (λ _ h7=>?_) (λ _ h8=>wp_skip (za ?_))
 ·
  refine st6.sqA [4] [(0,0)] (λ _ _ st9=>wp_ret (ze ?_))
  exact st9.rsF (s:=0) 0 rfl rfl rfl iI (bxr h7) y9
 obtain⟨v10,p10,h11⟩:=bs h8
 refine st6.sqB (sP 3 (r:=by exact sc rfl (xLf (sb:=0) ((PV.root.box rfl).fld Reader.z1) rfl kT3 (tp rfl) rfl)<|segC)) [1,5] [(0,0)] (λ _ _ st12=>wp_seq ?_)
 refine st12.sqB (sP 4 (r:=by exact sc rfl (xLf (sb:=0) ((PV.root.box rfl).fld Reader.z0) rfl kT22 (tp rfl) rfl)<|segC)) [1,5,36] [(0,0)] (λ _ _ st13=>?_)
 refine st13.cs rfl h11 (λ _ h14=>?_) (λ _ h15=>wp_skip (za (wp_seq ?_)))
 ·
  obtain⟨v16,p16,v17,p17,h19⟩:=bsB h14
  refine st13.sqB (sP 3 (r:=by exact sc rfl (xLf (sb:=0) ((PV.root.box rfl).fld Reader.z0) rfl kT22 (tp rfl) rfl)<|sP 3 (r:=by exact sc rfl (xCvI rfl kCv5_3 (tp rfl))<|sP 1 (r:=by exact sc rfl (xMod rfl (tp rfl) (tp rfl) p17)<|segC)))) [4] [(0,0)] (λ _ _ st20=>wp_ret (ze ?_))
  exact st20.rsF (s:=0) 0 rfl rfl rfl iI (bxr h19) y9
 obtain⟨v21,p21,v22,p22,v23,p23,v24,p24,h38⟩:=bsD h15
 obtain⟨v25,p25,v26,p26,v27,p27,v28,p28,h42⟩:=bsD h38
 obtain⟨v29,p29,v30,p30,v31,p31,v32,p32,h46⟩:=bsD h42
 obtain⟨v33,p33,v34,p34,h48⟩:=bsB h46
 refine st13.drA (D:=[_,_,_,_,_,_,_,_,_,_,_,_,_,_,_,_,_,_,_,_,_,_,_,_,_,_,_,_,_,_,_,_,_,_,_,_,_,_,_,_,_,_,_,_,_,_]) zJ [[(0,nS)],[(47,0)],[(48,1)],[(49,2),(0,nS)],[(5,nS)],[(0,nS)],[(52,5)],[(53,6)],[(54,7),(0,nS)],[(55,8)],[(51,4),(56,9)],[(50,3),(57,10)],[(58,11)],[(59,12)],[(60,13)],[(0,nS)],[(62,15)],[(63,16)],[(64,17),(0,nS)],[(5,nS)],[(66,19)],[(67,20)],[(0,nS)],[(69,22)],[(70,23)],[(71,24),(0,nS)],[(72,25)],[(68,21),(73,26)],[(65,18),(74,27)],[(75,28)],[(76,29)],[(77,30)],[(61,14),(78,31)],[(5,nS)],[(80,33)],[(79,32),(81,34)],[(5,nS)],[(0,nS)],[(84,37)],[(85,38)],[(86,39),(0,nS)],[(87,40)],[(83,36),(88,41)],[(89,42)],[(82,35),(90,43)],[(91,44)]] [1,6] [(0,0)] (λ _ _ st49=>?_) (hs:=rc rfl rfl (oM rfl (zR rfl))<|rc rfl rfl (xNc rfl (tp rfl))<|rc rfl rfl (xFa rfl Jp (tp rfl))<|rc rfl rfl (xLf (sb:=0) ((PV.root.box rfl).fld Reader.z0) rfl kT22 (tp rfl) rfl)<|rc rfl rfl (oM rfl (tp rfl))<|rc rfl rfl (oM rfl (zR rfl))<|rc rfl rfl (xNc rfl (tp rfl))<|rc rfl rfl (xFa rfl Jp (tp rfl))<|rc rfl rfl (xLf (sb:=0) ((PV.root.box rfl).fld Reader.z0) rfl kT22 (tp rfl) rfl)<|rc rfl rfl (WE rfl kL22 (tp rfl))<|rc rfl rfl (xMod rfl (tp rfl) (tp rfl) p21)<|rc rfl rfl (xIdx rfl kS22 (tp rfl) (tp rfl) p22)<|rc rfl rfl (zr rfl kT5 (tp rfl))<|rc rfl rfl (xCvI rfl kCv5_3 (tp rfl))<|rc rfl rfl (xAr rfl (tp rfl) cI p23)<|rc rfl rfl (oM rfl (zR rfl))<|rc rfl rfl (xNc rfl (tp rfl))<|rc rfl rfl (xFa rfl Jp (tp rfl))<|rc rfl rfl (xLf (sb:=0) ((PV.root.box rfl).fld Reader.z0) rfl kT22 (tp rfl) rfl)<|rc rfl rfl (oM rfl (tp rfl))<|rc rfl rfl (xAr rfl (tp rfl) cI p24)<|rc rfl rfl (xAr rfl (tp rfl) cI p25)<|rc rfl rfl (oM rfl (zR rfl))<|rc rfl rfl (xNc rfl (tp rfl))<|rc rfl rfl (xFa rfl Jp (tp rfl))<|rc rfl rfl (xLf (sb:=0) ((PV.root.box rfl).fld Reader.z0) rfl kT22 (tp rfl) rfl)<|rc rfl rfl (WE rfl kL22 (tp rfl))<|rc rfl rfl (xMod rfl (tp rfl) (tp rfl) p26)<|rc rfl rfl (xIdx rfl kS22 (tp rfl) (tp rfl) p27)<|rc rfl rfl (zr rfl kT5 (tp rfl))<|rc rfl rfl (xCvI rfl kCv5_3 (tp rfl))<|rc rfl rfl (xAr rfl (tp rfl) cI p28)<|rc rfl rfl (xAr rfl (tp rfl) (tp rfl) p29)<|rc rfl rfl (oM rfl (tp rfl))<|rc rfl rfl (xAr rfl (tp rfl) cI p30)<|rc rfl rfl (xAr rfl (tp rfl) (tp rfl) p31)<|rc rfl rfl (oM rfl (tp rfl))<|rc rfl rfl (oM rfl (zR rfl))<|rc rfl rfl (xNc rfl (tp rfl))<|rc rfl rfl (xFa rfl Jp (tp rfl))<|rc rfl rfl (xLf (sb:=0) ((PV.root.box rfl).fld Reader.z0) rfl kT22 (tp rfl) rfl)<|rc rfl rfl (WE rfl kL22 (tp rfl))<|rc rfl rfl (xDiv rfl (tp rfl) (tp rfl) p32)<|rc rfl rfl (xAr rfl (tp rfl) cI p33)<|rc rfl rfl (xAr rfl (tp rfl) (tp rfl) p34)<|rc rfl rfl (oA rfl (tp rfl))<|.nil)
 refine za ?_
 obtain⟨v50,p50,h51⟩:=bs h48
 refine st49.sqB (sP 2 (r:=by exact sc rfl (xDiv rfl (tp rfl) cI p50)<|sc rfl (xXor rfl (tp rfl) (tp rfl))<|segC)) [1,6] [(0,0)] (λ _ _ st52=>?_)
 obtain⟨v53,p53,h54⟩:=bs h51
 refine st52.sqB (sP 2 (r:=by exact sc rfl (xMod rfl (tp rfl) (tp rfl) p53)<|segC)) [4] [(0,0)] (λ _ _ st55=>wp_ret ?_)
 exact st55.rsF (s:=0) 0 rfl rfl rfl iI (bxr h54) y9
def yb(x0:Reader)(x1:List Int):Option (Reader×Int):=
(zC x0 (x1.length:Int)).bind λ v4=>
(atI x1 v4.2).bind λ v6=>
some (v4.1,v6)
theorem xw{x0:Reader}{x1:List Int}{r:Reader×Int}(h:yb x0 x1=some r):FnS prog 62 (Ow.box (Ow.frz (α:=Reader))) ⟨x0⟩ [dt x1] ⟨r.1⟩ (.frz (dt r.2)):=by
 unfold yb at h
 refine fnSB (fn:=f62) 0 1 func62 rfl (oD rfl) rfl (λ M G _ b0 _ st0=>?_)
 refine st0.sqA [1] [(0,0)] (λ _ _ st1=>wp_seq (wp_region_list ?_))
 refine st1.segC 4 [5,6,8] [(0,0)] (λ _ _ st2=>?_)
 obtain⟨v4,p4,h5⟩:=bs h
 refine st2.cNA 0 0 (zF p4) [5] [] (λ _ _ _ _ st3=>?_)
 obtain⟨v6,p6,h7⟩:=bs h5
 refine st3.segA 3 [4] [(0,0)] (λ _ _ st8=>wpList_nil (za (wp_ret ?_)))
 exact st8.rsF (s:=0) 0 rfl rfl rfl iI (bxr h7) y9
def xZ(x0:Reader)(x1:List Str):Option (Reader×Str):=
(zC x0 (x1.length:Int)).bind λ v4=>
(atI x1 v4.2).bind λ v6=>
some (v4.1,v6)
theorem ZM{x0:Reader}{x1:List Str}{r:Reader×Str}(h:xZ x0 x1=some r):FnS prog 130 (Ow.box (Ow.frz (α:=Reader))) ⟨x0⟩ [dt x1] ⟨r.1⟩ (.frz (dt r.2)):=by
 unfold xZ at h
 refine fnSB (fn:=f130) 0 1 func130 rfl (oD rfl) rfl (λ M G _ b0 _ st0=>?_)
 refine st0.sqA [1] [(0,0)] (λ _ _ st1=>wp_seq (wp_region_list ?_))
 refine st1.segC 4 [5,6,8] [(0,0)] (λ _ _ st2=>?_)
 obtain⟨v4,p4,h5⟩:=bs h
 refine st2.cNA 0 0 (zF p4) [5] [] (λ _ _ _ _ st3=>?_)
 obtain⟨v6,p6,h7⟩:=bs h5
 refine st3.segA 3 [4] [(0,0)] (λ _ _ st8=>wpList_nil (za (wp_ret ?_)))
 exact st8.rsF (s:=0) 0 rfl rfl rfl iI (bxr h7) Wd
def yV(x0:Reader):Option (Reader×Str):=
(xZ x0 ([(⟨[97]⟩:Str),(⟨[98]⟩:Str),(⟨[99]⟩:Str),(⟨[97]⟩:Str),(⟨[98]⟩:Str)]:List Str)).bind λ v4=>
some (v4.1,v4.2)
theorem wO{x0:Reader}{r:Reader×Str}(h:yV x0=some r):FnS prog 151 (Ow.box (Ow.frz (α:=Reader))) ⟨x0⟩ [] ⟨r.1⟩ (.frz (dt r.2)):=by
 unfold yV at h
 refine fnSB (fn:=f151) 0 1 func151 rfl (oD rfl) rfl (λ M G _ b0 _ st0=>?_)
 refine st0.sqA [] [(0,0)] (λ _ _ st1=>wp_seq (wp_region_list ?_))
 refine st1.segB 2 (sP 1 (r:=by exact sc rfl (yq (opds:=[_,_,_,_,_]) rfl kS29 kY29 rfl rfl (by decide) (.cons (zN (by decide)) (.cons (zN (by decide)) (.cons (zN (by decide)) (.cons (zN (by decide)) (.cons (zN (by decide)) .nil))))))<|.nil)) [3,4] [(0,0)] (λ _ _ st2=>?_)
 obtain⟨v4,p4,h5⟩:=bs h
 refine st2.cNA 0 0 (ZM p4) [] [] (λ _ _ _ _ st3=>?_)
 refine st3.segA 1 [2] [(0,0)] (λ _ _ st6=>wpList_nil (za (wp_ret ?_)))
 exact st6.rsF (s:=0) 0 rfl rfl rfl iI (bxr h5) Wd
def q7(s13:Reader×Str×Int):Option ((Reader×Str×Int)⊕(Reader×Str)):=
if(cmpI .gtr s13.2.2 (0:Int))=true then((catO s13.2.1 (⟨[46]⟩:Str)).bind λ v18=>
(yV s13.1).bind λ v22=>
(catO v18 v22.2).bind λ v24=>
(i64 (s13.2.2 - (1:Int))).bind λ v27=>
some (.inl (v22.1,v24,v27)))
else(some (.inr (s13.1,s13.2.1)))
def j8(x0:Reader):Option (Reader×Str):=
(yV x0).bind λ v4=>
Option.bind (α:=Reader×Str) ((yb v4.1 ([(0:Int),(1:Int),(0:Int),(1:Int),(2:Int)]:List Int)).bind λ v10=>
zK (λ s13=>q7 s13) (v10.1,v4.2,v10.2)) λ o7=>
some (o7.1,o7.2)
theorem XY{x0:Reader}{r:Reader×Str}(h:j8 x0=some r):FnS prog 112 (Ow.box (Ow.frz (α:=Reader))) ⟨x0⟩ [] ⟨r.1⟩ (.frz (dt r.2)):=by
 unfold j8 at h
 refine fnSB (fn:=f112) 0 1 func112 rfl (oD rfl) rfl (λ M G w0 b0 _ st0=>?_)
 refine st0.sqA [] [(0,0)] (λ _ _ st1=>wp_seq (wp_region_list ?_))
 refine st1.segC 1 [5] [(0,0)] (λ _ _ st2=>?_)
 obtain⟨v4,p4,h5⟩:=bs h
 refine st2.cNA 0 0 (wO p4) [] [] (λ _ _ _ _ st3=>?_)
 refine st3.segA 1 [3] [(0,0)] (λ _ _ st6=>wpList_nil (za ?_))
 obtain⟨o7,p7,k7⟩:=bs h5
 refine zi (λ a w=>∃ M1 q7_0,Sx (Frm.chg w0 G) 20 M M1 [q7_0] [(3,dt o7.2)] [(0,0,dnm (Ow.box (Ow.frz (α:=Reader))) q7_0 ⟨o7.1⟩ (.pointer (some ⟨b0,0,none⟩)) [])] a w) ?_ ?_
 ·
  refine wp_seq (wp_region_list ?_)
  refine st6.segB 2 (sP 1 (r:=by exact sc rfl (yq (opds:=[.const (.int .i64 0),.const (.int .i64 1),.const (.int .i64 0),.const (.int .i64 1),.const (.int .i64 2)]) rfl kS26 kY26 rfl rfl (by decide) (.cons cI (.cons cI (.cons cI (.cons cI (.cons cI .nil))))))<|.nil)) [3,7,8] [(0,0)] (λ _ _ st8=>?_)
  obtain⟨v10,p10,h11⟩:=bs p7
  refine st8.cNA 0 0 (xw p10) [3] [] (λ _ _ _ _ st9=>?_)
  refine st9.segA 1 [3,4] [(0,0)] (λ _ _ st12=>wpList_nil (za (wp_block ?_)))
  refine zG h11 (λ s13 a w=>∃ M1 q13_0,Sx (Frm.chg w0 G) 20 M M1 [q13_0] [(3,dt s13.2.1),(4,dt s13.2.2)] [(0,0,dnm (Ow.box (Ow.frz (α:=Reader))) q13_0 ⟨s13.1⟩ (.pointer (some ⟨b0,0,none⟩)) [])] a w) fx ?_
  rintro s13 z13 a13 w13 ⟨M13,q13_0,st13⟩ hs13 hx13
  have h14:q7 s13=some z13:=hs13
  unfold q7 at h14
  refine wp_seq ?_
  refine st13.sqA [3,4,11] [(0,0)] (λ _ _ st15=>?_)
  refine st15.cs rfl h14 (λ _ h16=>wp_skip (za (wp_seq (wp_block (wp_region_list ?_))))) (λ _ h17=>wp_exit (zh (zh (zy ?_))))
  ·
   obtain⟨v18,p18,h19⟩:=bs h16
   refine st15.segB 3 (sP 1 (r:=by exact sc rfl (xCat rfl (tp rfl) (zN (by decide)) p18)<|segC)) [3,4,15,16] [(0,0)] (λ _ _ st20=>?_)
   obtain⟨v22,p22,h23⟩:=bs h19
   refine st20.cNA 0 0 (wO p22) [3,4,15] [] (λ _ _ _ _ st21=>?_)
   obtain⟨v24,p24,h25⟩:=bs h23
   refine st21.segA 2 [3,4] [(0,0)] (λ _ _ st26=>wpList_nil (zf (za ?_)))
   obtain⟨v27,p27,h28⟩:=bs h25
   refine st26.rgA [3,4] [(0,0)] (λ _ _ st29=>za ?_)
   exact fl h28
  refine za ?_
  have h30:=lo h17 hx13
  cases h30
  exact fx
 rintro a7 w7 ⟨M7,q7_0,st7⟩
 have h31:=k7
 refine st7.sqA [2] [(0,0)] (λ _ _ st32=>wp_ret ?_)
 exact st32.rsF (s:=0) 0 rfl rfl rfl iI (bxr h31) Wd
def ZA(x0:Reader):Option (Reader×Str):=
(j8 x0).bind λ v4=>
(zC v4.1 (20:Int)).bind λ v9=>
if(cmpI .eql v9.2 (0:Int))=true then((catO v4.2 (⟨[46]⟩:Str)).bind λ v14=>
some (v9.1,v14))
else(if(cmpI .eql v9.2 (1:Int))=true then((xZ v9.1 ([(⟨[]⟩:Str),(⟨[97,46,46,98]⟩:Str),(⟨[97,46,98,46,99,46,100]⟩:Str),(⟨[65]⟩:Str),(⟨[97,98,99,100]⟩:Str)]:List Str)).bind λ v22=>
some (v22.1,v22.2))
else(some (v9.1,v4.2)))
theorem zc4{x0:Reader}{r:Reader×Str}(h:ZA x0=some r):FnS prog 77 (Ow.box (Ow.frz (α:=Reader))) ⟨x0⟩ [] ⟨r.1⟩ (.frz (dt r.2)):=by
 unfold ZA at h
 refine fnSB (fn:=f77) 0 1 func77 rfl (oD rfl) rfl (λ M G _ b0 _ st0=>?_)
 refine st0.sqA [] [(0,0)] (λ _ _ st1=>wp_seq (wp_region_list ?_))
 refine st1.segC 1 [4] [(0,0)] (λ _ _ st2=>?_)
 obtain⟨v4,p4,h5⟩:=bs h
 refine st2.cNA 0 0 (XY p4) [] [] (λ _ _ _ _ st3=>?_)
 refine st3.segA 1 [3] [(0,0)] (λ _ _ st6=>wpList_nil (za (wp_seq (wp_seq (wp_region_list ?_)))))
 refine st6.segC 1 [3,6] [(0,0)] (λ _ _ st7=>?_)
 obtain⟨v9,p9,h10⟩:=bs h5
 refine st7.cNA 0 0 (zF p9) [3] [] (λ _ _ _ _ st8=>wpList_nil (za (wp_block ?_)))
 refine st8.sqA [3,7,8] [(0,0)] (λ _ _ st11=>?_)
 refine st11.cs rfl h10 (λ _ h12=>?_) (λ _ h13=>?_)
 ·
  obtain⟨v14,p14,h15⟩:=bs h12
  refine st11.sqB (sP 1 (r:=by exact sc rfl (xCat rfl (tp rfl) (zN (by decide)) p14)<|segC)) [2] [(0,0)] (λ _ _ st16=>wp_ret (zt (ze ?_)))
  exact st16.rsF (s:=0) 0 rfl rfl rfl iI (bxr h15) Wd
 refine st11.sqA [3,12] [(0,0)] (λ _ _ st17=>?_)
 refine st17.cs rfl h13 (λ _ h18=>wp_seq (wp_region_list ?_)) (λ _ h19=>wp_skip (zf (za ?_)))
 ·
  refine st17.segB 2 (sP 1 (r:=by exact sc rfl (yq (opds:=[_,_,_,_,_]) rfl kS29 kY29 rfl rfl (by decide) (.cons (zN (by decide)) (.cons (zN (by decide)) (.cons (zN (by decide)) (.cons (zN (by decide)) (.cons (zN (by decide)) .nil))))))<|.nil)) [14,15] [(0,0)] (λ _ _ st20=>?_)
  obtain⟨v22,p22,h23⟩:=bs h18
  refine st20.cNA 0 0 (ZM p22) [] [] (λ _ _ _ _ st21=>?_)
  refine st21.segA 1 [2] [(0,0)] (λ _ _ st24=>wpList_nil (za ?_))
  refine wp_ret (zt (ze ?_))
  exact st24.rsF (s:=0) 0 rfl rfl rfl iI (bxr h23) Wd
 refine st17.sqA [2] [(0,0)] (λ _ _ st25=>wp_ret ?_)
 exact st25.rsF (s:=0) 0 rfl rfl rfl iI (bxr h19) Wd
def q8(x0:Reader):Option (Reader×Stmt):=
(zC x0 (9:Int)).bind λ v5=>
Option.bind (α:=Bool) (if(cmpI .eql v5.2 (0:Int))=true then(some (cmpI .eql v5.2 (0:Int)))
else(some (cmpI .eql v5.2 (1:Int)))) λ o7=>
if o7=true then((j8 v5.1).bind λ v17=>
some (v17.1,(⟨(0:Int),v17.2,0,⟨[]⟩,0⟩:Stmt)))
else(if(cmpI .eql v5.2 (2:Int))=true then((yb v5.1 ([(0:Int),(1:Int),(2:Int),(1:Int)]:List Int)).bind λ v27=>
(j8 v27.1).bind λ v32=>
Option.bind (α:=Reader×Str) ((gO (cmpI .gtr v27.2 (0:Int) == true) (zC v32.1 (2:Int))).bind λ v38=>
if(cmpI .gtr v27.2 (0:Int)&&cmpI .eql v38.2 (0:Int))=true then(some ((if(cmpI .gtr v27.2 (0:Int) == true)=true then v38.1 else v32.1),(⟨[]⟩:Str)))
else(some ((if(cmpI .gtr v27.2 (0:Int) == true)=true then v38.1 else v32.1),v32.2))) λ o35=>
(yV o35.1).bind λ v47=>
some (v47.1,(⟨(1:Int),o35.2,v27.2,v47.2,0⟩:Stmt)))
else(if(cmpI .eql v5.2 (3:Int))=true then((j8 v5.1).bind λ v57=>
some (v57.1,(⟨(2:Int),v57.2,0,⟨[]⟩,0⟩:Stmt)))
else(Option.bind (α:=Bool) (if(cmpI .eql v5.2 (4:Int))=true then(some (cmpI .eql v5.2 (4:Int)))
else(if(cmpI .eql v5.2 (5:Int))=true then(some (cmpI .eql v5.2 (5:Int)))
else(some (cmpI .eql v5.2 (6:Int))))) λ o62=>
if o62=true then((xZ v5.1 ([(⟨[120]⟩:Str),(⟨[121]⟩:Str),(⟨[122]⟩:Str),(⟨[97]⟩:Str)]:List Str)).bind λ v75=>
(zC v75.1 (100:Int)).bind λ v79=>
some (v79.1,(⟨(3:Int),⟨[]⟩,0,v75.2,v79.2⟩:Stmt)))
else(if(cmpI .eql v5.2 (7:Int))=true then((xZ v5.1 ([(⟨[120]⟩:Str),(⟨[121]⟩:Str),(⟨[97]⟩:Str),(⟨[98]⟩:Str),(⟨[120]⟩:Str)]:List Str)).bind λ v89=>
some (v89.1,(⟨(4:Int),⟨[]⟩,0,v89.2,0⟩:Stmt)))
else((zC v5.1 (3:Int)).bind λ v96=>
if(cmpI .eql v96.2 (0:Int))=true then(some (v96.1,(⟨(5:Int),⟨[]⟩,0,⟨[]⟩,0⟩:Stmt)))
else((zC v96.1 (100:Int)).bind λ v106=>
some (v106.1,(⟨(3:Int),⟨[]⟩,0,(⟨[120]⟩:Str),v106.2⟩:Stmt))))))))
theorem zcI{x0:Reader}{r:Reader×Stmt}(h:q8 x0=some r):FnS prog 152 (Ow.box (Ow.frz (α:=Reader))) ⟨x0⟩ [] ⟨r.1⟩ (.frz (dt r.2)):=by
 unfold q8 at h
 refine fnSB (fn:=f152) 0 2 func152 rfl (oD rfl) rfl (λ M G w0 b0 _ st0=>wp_seq (wp_region_list ?_))
 refine st0.alA 1 zan [] [0] (λ b2 _ _ _ st2=>wpList_nil (za (wp_seq (wp_seq (wp_region_list ?_)))))
 refine st2.segC 1 [5] [(0,0),(2,1)] (λ _ _ st3=>?_)
 obtain⟨v5,p5,h6⟩:=bs h
 refine st3.cNA 0 0 (zF p5) [] [2] (λ _ _ _ _ st4=>wpList_nil (za (wp_block ?_)))
 obtain⟨o7,p7,k7⟩:=bs h6
 refine zi (λ a w=>∃ M1 q7_0 q7_1,Sx (Frm.chg w0 G) 60 M M1 [q7_0,oneB q7_1] [(6,dt v5.2),(7,dt o7)] [(2,1,dbox q7_1 0 zStmt),(0,0,dnm (Ow.box (Ow.frz (α:=Reader))) q7_0 ⟨v5.1⟩ (.pointer (some ⟨b0,0,none⟩)) [])] a w) ?_ ?_
 ·
  refine st4.sqA [6,7] [(0,0),(2,1)] (λ _ _ st8=>?_)
  refine st8.cs rfl p7 (λ _ h9=>wp_skip (za ?_)) (λ _ h10=>?_)
  ·
   cases h9
   exact fx
  refine st8.rgA [6,7] [(0,0),(2,1)] (λ _ _ st11=>za ?_)
  cases h10
  exact fx
 rintro a7 w7 ⟨M7,q7_0,q7_1,st7⟩
 have h12:=k7
 refine st7.cs rfl h12 (λ _ h13=>wp_seq (wp_region_list ?_)) (λ _ h14=>?_)
 ·
  refine st7.segC 1 [10] [(0,0),(2,1)] (λ _ _ st15=>?_)
  obtain⟨v17,p17,h18⟩:=bs h13
  refine st15.cNA 0 0 (XY p17) [] [2] (λ _ _ _ _ st16=>?_)
  refine st16.segB 1 (sc rfl (kD74_0_1 rfl cI (tp rfl))<|.nil) [12] [(0,0),(2,1)] (λ _ _ st19=>?_)
  refine st19.stA 2 1 FldS.id (tp rfl) [] [0] (λ _ _ st21=>wpList_nil (za ?_))
  refine wp_ret (zt (ze ?_))
  exact st21.rsC (s:=0) 0 rfl kT74 rfl rfl iI (bxr h18)
 refine st7.sqA [6,13] [(0,0),(2,1)] (λ _ _ st22=>?_)
 refine st22.cs rfl h14 (λ _ h23=>wp_seq (wp_region_list ?_)) (λ _ h24=>?_)
 ·
  refine st22.segB 2 (sP 1 (r:=by exact sc rfl (yq (opds:=[.const (.int .i64 0),.const (.int .i64 1),.const (.int .i64 2),.const (.int .i64 1)]) rfl kS26 kY26 rfl rfl (by decide) (.cons cI (.cons cI (.cons cI (.cons cI .nil)))))<|.nil)) [15,16] [(0,0),(2,1)] (λ _ _ st25=>?_)
  obtain⟨v27,p27,h28⟩:=bs h23
  refine st25.cNA 0 0 (xw p27) [] [2] (λ _ _ _ _ st26=>?_)
  refine st26.segA 1 [3] [(0,0),(2,1)] (λ _ _ st29=>wpList_nil (za (wp_seq (wp_region_list ?_))))
  refine st29.segC 1 [3,18] [(0,0),(2,1)] (λ _ _ st30=>?_)
  obtain⟨v32,p32,h33⟩:=bs h28
  refine st30.cNA 0 0 (XY p32) [3] [2] (λ _ _ _ _ st31=>?_)
  refine st31.segA 1 [3,4] [(0,0),(2,1)] (λ _ _ st34=>wpList_nil (za ?_))
  obtain⟨o35,p35,k35⟩:=bs h33
  refine zi (λ a w=>∃ M1 q35_0 q35_1,Sx (Frm.chg w0 G) 60 M M1 [q35_0,oneB q35_1] [(3,dt v27.2),(4,dt o35.2)] [(2,1,dbox q35_1 0 zStmt),(0,0,dnm (Ow.box (Ow.frz (α:=Reader))) q35_0 ⟨o35.1⟩ (.pointer (some ⟨b0,0,none⟩)) [])] a w) ?_ ?_
  ·
   refine wp_seq (wp_region_list ?_)
   refine st34.segB 4 (sc rfl (oM rfl (tp rfl))<|sc rfl (oCI rfl (tp rfl) cI)<|sc rfl (oM rfl (tp rfl))<|sg rfl rfl (λ hg=>oM rfl (zR rfl))<|.nil) [3,4,22,23] [(0,0),(2,1)] (λ _ _ st36=>?_)
   obtain⟨v38,p38,h39⟩:=bs p35
   refine st36.cSFgB (sb:=0) (l:=[.const (.int .i64 2)]) 0 rfl iI rfl rfl rfl kN75 (λ hg=>(st36.st.has 23 _ rfl).1 hg) (by simp) (λ hg=>(.cons cI .nil)) (λ hg=>zF (gh hg p38)) [3,4,22] rfl [2] rfl rfl (by decide) (λ _ _ _ _ st37=>?_)
   refine st37.segC 2 [3,4,26] [(0,0),(2,1)] (λ _ _ st40=>wpList_nil (za ?_))
   refine st40.cs rfl h39 (λ _ h41=>?_) (λ _ h42=>wp_skip (za ?_))
   ·
    refine st40.rgA [3,4] [(0,0),(2,1)] (λ _ _ st43=>za ?_)
    cases h41
    exact fx
   cases h42
   exact fx
  rintro a35 w35 ⟨M35,q35_0,q35_1,st35⟩
  have h44:=k35
  refine wp_seq (wp_region_list ?_)
  refine st35.segC 3 [27,28,29] [(0,0),(2,1)] (λ _ _ st45=>?_)
  obtain⟨v47,p47,h48⟩:=bs h44
  refine st45.cNA 0 0 (wO p47) [27,28] [2] (λ _ _ _ _ st46=>?_)
  refine st46.segB 1 (sc rfl (kD74_0_1_2_3 rfl cI (tp rfl) (tp rfl) (tp rfl))<|.nil) [31] [(0,0),(2,1)] (λ _ _ st49=>?_)
  refine st49.stA 2 1 FldS.id (tp rfl) [] [0] (λ _ _ st51=>wpList_nil (za ?_))
  refine wp_ret (zt (ze ?_))
  exact st51.rsC (s:=0) 0 rfl kT74 rfl rfl iI (bxr h48)
 refine st22.sqA [6,32] [(0,0),(2,1)] (λ _ _ st52=>?_)
 refine st52.cs rfl h24 (λ _ h53=>wp_seq (wp_region_list ?_)) (λ _ h54=>?_)
 ·
  refine st52.segC 1 [34] [(0,0),(2,1)] (λ _ _ st55=>?_)
  obtain⟨v57,p57,h58⟩:=bs h53
  refine st55.cNA 0 0 (XY p57) [] [2] (λ _ _ _ _ st56=>?_)
  refine st56.segB 1 (sc rfl (kD74_0_1 rfl cI (tp rfl))<|.nil) [36] [(0,0),(2,1)] (λ _ _ st59=>?_)
  refine st59.stA 2 1 FldS.id (tp rfl) [] [0] (λ _ _ st61=>wpList_nil (za ?_))
  refine wp_ret (zt (ze ?_))
  exact st61.rsC (s:=0) 0 rfl kT74 rfl rfl iI (bxr h58)
 obtain⟨o62,p62,k62⟩:=bs h54
 refine zi (λ a w=>∃ M1 q62_0 q62_1,Sx (Frm.chg w0 G) 60 M M1 [q62_0,oneB q62_1] [(6,dt v5.2),(37,dt o62)] [(2,1,dbox q62_1 0 zStmt),(0,0,dnm (Ow.box (Ow.frz (α:=Reader))) q62_0 ⟨v5.1⟩ (.pointer (some ⟨b0,0,none⟩)) [])] a w) ?_ ?_
 ·
  refine st52.sqA [6,37] [(0,0),(2,1)] (λ _ _ st63=>?_)
  refine st63.cs rfl p62 (λ _ h64=>wp_skip (za ?_)) (λ _ h65=>?_)
  ·
   cases h64
   exact fx
  refine st63.sqA [6,37] [(0,0),(2,1)] (λ _ _ st66=>?_)
  refine st66.cs rfl h65 (λ _ h67=>wp_skip (za ?_)) (λ _ h68=>?_)
  ·
   cases h67
   exact fx
  refine st66.rgA [6,37] [(0,0),(2,1)] (λ _ _ st69=>za ?_)
  cases h68
  exact fx
 rintro a62 w62 ⟨M62,q62_0,q62_1,st62⟩
 have h70:=k62
 refine st62.cs rfl h70 (λ _ h71=>wp_seq (wp_region_list ?_)) (λ _ h72=>?_)
 ·
  refine st62.segB 2 (sP 1 (r:=by exact sc rfl (yq (opds:=[_,_,_,_]) rfl kS29 kY29 rfl rfl (by decide) (.cons (zN (by decide)) (.cons (zN (by decide)) (.cons (zN (by decide)) (.cons (zN (by decide)) .nil)))))<|.nil)) [41,42] [(0,0),(2,1)] (λ _ _ st73=>?_)
  obtain⟨v75,p75,h76⟩:=bs h71
  refine st73.cNA 0 0 (ZM p75) [] [2] (λ _ _ _ _ st74=>?_)
  refine st74.segC 1 [43,44] [(0,0),(2,1)] (λ _ _ st77=>?_)
  obtain⟨v79,p79,h80⟩:=bs h76
  refine st77.cNA 0 0 (zF p79) [43] [2] (λ _ _ _ _ st78=>?_)
  refine st78.segB 1 (sc rfl (Jq rfl cI (tp rfl) (tp rfl))<|.nil) [46] [(0,0),(2,1)] (λ _ _ st81=>?_)
  refine st81.stA 2 1 FldS.id (tp rfl) [] [0] (λ _ _ st83=>wpList_nil (za ?_))
  refine wp_ret (zt (ze ?_))
  exact st83.rsC (s:=0) 0 rfl kT74 rfl rfl iI (bxr h80)
 refine st62.sqA [47] [(0,0),(2,1)] (λ _ _ st84=>?_)
 refine st84.cs rfl h72 (λ _ h85=>wp_seq (wp_region_list ?_)) (λ _ h86=>wp_skip (zf (za (wp_seq (wp_seq (wp_region_list ?_))))))
 ·
  refine st84.segB 2 (sP 1 (r:=by exact sc rfl (yq (opds:=[_,_,_,_,_]) rfl kS29 kY29 rfl rfl (by decide) (.cons (zN (by decide)) (.cons (zN (by decide)) (.cons (zN (by decide)) (.cons (zN (by decide)) (.cons (zN (by decide)) .nil))))))<|.nil)) [49,50] [(0,0),(2,1)] (λ _ _ st87=>?_)
  obtain⟨v89,p89,h90⟩:=bs h85
  refine st87.cNA 0 0 (ZM p89) [] [2] (λ _ _ _ _ st88=>?_)
  refine st88.segB 1 (sc rfl (kD74_0_3 rfl cI (tp rfl))<|.nil) [52] [(0,0),(2,1)] (λ _ _ st91=>?_)
  refine st91.stA 2 1 FldS.id (tp rfl) [] [0] (λ _ _ st93=>wpList_nil (za ?_))
  refine wp_ret (zt (ze ?_))
  exact st93.rsC (s:=0) 0 rfl kT74 rfl rfl iI (bxr h90)
 refine st84.segC 1 [53] [(0,0),(2,1)] (λ _ _ st94=>?_)
 obtain⟨v96,p96,h97⟩:=bs h86
 refine st94.cNA 0 0 (zF p96) [] [2] (λ _ _ _ _ st95=>?_)
 refine st95.segA 1 [55] [(0,0),(2,1)] (λ _ _ st98=>wpList_nil (za ?_))
 refine st98.cs rfl h97 (λ _ h99=>wp_seq (wp_region_list ?_)) (λ _ h100=>wp_skip (za (wp_seq (wp_region_list ?_))))
 ·
  refine st98.segB 1 (sc rfl (kD74_0 rfl cI)<|.nil) [56] [(0,0),(2,1)] (λ _ _ st101=>?_)
  refine st101.stA 2 1 FldS.id (tp rfl) [] [0] (λ _ _ st103=>wpList_nil (za ?_))
  refine wp_ret (ze ?_)
  exact st103.rsC (s:=0) 0 rfl kT74 rfl rfl iI (bxr h99)
 refine st98.segC 1 [57] [(0,0),(2,1)] (λ _ _ st104=>?_)
 obtain⟨v106,p106,h107⟩:=bs h100
 refine st104.cNA 0 0 (zF p106) [] [2] (λ _ _ _ _ st105=>?_)
 refine st105.segB 1 (sc rfl (Jq rfl cI (zN (by decide)) (tp rfl))<|.nil) [59] [(0,0),(2,1)] (λ _ _ st108=>?_)
 refine st108.stA 2 1 FldS.id (tp rfl) [] [0] (λ _ _ st110=>wpList_nil (za (wp_ret ?_)))
 exact st110.rsC (s:=0) 0 rfl kT74 rfl rfl iI (bxr h107)
open Go.RowKit Tryz
set_option maxRecDepth 10000
set_option maxHeartbeats 1600000
theorem kY49:zlB prog 49=true:=by kernel_rfl
theorem kN111:fnB prog 111=true:=by kernel_rfl
theorem kZ25:xU prog 25=some zcTree:=by kernel_rfl
theorem kB25:bldB prog 25 [1]=true:=by kernel_rfl
theorem kC25:ZR prog 25 [1]=some zpTree:=by kernel_rfl
theorem kN110:fnB prog 110=true:=by kernel_rfl
theorem kN86:fnB prog 86=true:=by kernel_rfl
theorem kI23:sliB prog 23 51 6=true:=by kernel_rfl
theorem kY23:zlB prog 23=true:=by kernel_rfl
theorem kE23:elB prog 23 51 6 80=true:=by kernel_rfl
instance iF25_0KxF:FldO prog 25 0 0:=⟨qg⟩
instance iF51_1KxF:FldO prog 51 1 1:=⟨kF51_1⟩
def wK(v5:Reader×Int)(s14:Reader×(List Stmt)×Int):Option ((Reader×(List Stmt)×Int)⊕(Reader×(List Stmt))):=
if(cmpI .gtr s14.2.2 (0:Int))=true then((q8 s14.1).bind λ v21=>
Option.bind (α:=Reader×Stmt) (if(cmpI .eql v5.2 (0:Int)&&((cmpI .eql v21.2.kind (1:Int)||cmpI .eql v21.2.kind (4:Int))||cmpI .eql v21.2.kind (5:Int)))=true then((zC v21.1 (100:Int)).bind λ v33=>
some (v33.1,(⟨(3:Int),⟨[]⟩,0,(⟨[121]⟩:Str),v33.2⟩:Stmt)))
else(some (v21.1,v21.2))) λ o27=>
(appO 56 s14.2.1 ([o27.2]:List Stmt)).bind λ v42=>
(i64 (s14.2.2 - (1:Int))).bind λ v45=>
some (.inl (o27.1,v42,v45)))
else(some (.inr (s14.1,s14.2.1)))
def q9(x0:Reader):Option (Reader×(List Stmt)):=
(zC x0 (2:Int)).bind λ v5=>
Option.bind (α:=Reader×(List Stmt)) ((yb v5.1 ([(2:Int),(1:Int),(3:Int),(0:Int),(4:Int)]:List Int)).bind λ v11=>
zK (λ s14=>wK v5 s14) (v11.1,[],v11.2)) λ o8=>
some (o8.1,o8.2)
theorem zcJ{x0:Reader}{r:Reader×(List Stmt)}(h:q9 x0=some r):FnS prog 111 (Ow.box (Ow.frz (α:=Reader))) ⟨x0⟩ [] ⟨r.1⟩ (.ow (Ow.row 74 (Ow.frz (α:=Stmt))) r.2):=by
 unfold q9 at h
 refine fnSB (fn:=f111) 1 3 func111 rfl (oD rfl) rfl (λ M G w0 b0 _ st0=>?_)
 refine st0.sqB (sc rfl (oA rfl (yw (α:=Stmt) (e:=74)))<|.nil) [] [(0,1)] (λ _ _ st1=>?_)
 refine st1.sqB (sc rfl (yZ (α:=Stmt) (e:=74) rfl kS49)<|segC) [] [(0,1),(3,0)] (λ _ _ st2=>wp_seq (wp_region_list ?_))
 refine st2.segC 1 [8] [(0,1),(3,0)] (λ _ _ st3=>?_)
 obtain⟨v5,p5,h6⟩:=bs h
 refine st3.cNA 1 0 (zF p5) [] [3] (λ _ _ _ _ st4=>?_)
 refine st4.segA 2 [4] [(0,1),(3,0)] (λ _ _ st7=>wpList_nil (za ?_))
 obtain⟨o8,p8,k8⟩:=bs h6
 refine zi (λ a w=>∃ M1 q8_0 q8_1 q8_2,Sx (Frm.chg w0 G) 44 M M1 [oneB q8_0,q8_1,oneB q8_2] [] [(3,0,dtip q8_0 74 o8.2),(0,1,dnm (Ow.box (Ow.frz (α:=Reader))) q8_1 ⟨o8.1⟩ (.pointer (some ⟨b0,0,none⟩)) [])] a w) ?_ ?_
 ·
  refine wp_seq (wp_region_list ?_)
  refine st7.segB 2 (sP 1 (r:=by exact sc rfl (yq (opds:=[.const (.int .i64 2),.const (.int .i64 1),.const (.int .i64 3),.const (.int .i64 0),.const (.int .i64 4)]) rfl kS26 kY26 rfl rfl (by decide) (.cons cI (.cons cI (.cons cI (.cons cI (.cons cI .nil))))))<|.nil)) [4,11,12] [(0,1),(3,0)] (λ _ _ st9=>?_)
  obtain⟨v11,p11,h12⟩:=bs p8
  refine st9.cNA 1 0 (xw p11) [4] [3] (λ _ _ _ _ st10=>?_)
  refine st10.segA 1 [4,5] [(0,1),(3,0)] (λ _ _ st13=>wpList_nil (za (wp_block ?_)))
  refine zG h12 (λ s14 a w=>∃ M1 q14_0 q14_1 q14_2,Sx (Frm.chg w0 G) 44 M M1 [oneB q14_0,q14_1,oneB q14_2] [(4,dt (cmpI .eql v5.2 (0:Int))),(5,dt s14.2.2)] [(3,0,dtip q14_0 74 s14.2.1),(0,1,dnm (Ow.box (Ow.frz (α:=Reader))) q14_1 ⟨s14.1⟩ (.pointer (some ⟨b0,0,none⟩)) [])] a w) fx ?_
  rintro s14 z14 a14 w14 ⟨M14,q14_0,q14_1,q14_2,st14⟩ hs14 hx14
  have h15:wK v5 s14=some z14:=hs14
  unfold wK at h15
  refine wp_seq ?_
  refine st14.sqA [4,5,15] [(0,1),(3,0)] (λ _ _ st16=>?_)
  refine st16.cs rfl h15 (λ _ h17=>wp_skip (za (wp_seq (wp_block (wp_seq (wp_region_list ?_)))))) (λ _ h18=>wp_exit (zh (zh (zy ?_))))
  ·
   refine st16.segC 1 [4,5,18] [(0,1),(3,0)] (λ _ _ st19=>?_)
   obtain⟨v21,p21,h22⟩:=bs h17
   refine st19.cNA 1 0 (zcI p21) [4,5] [3] (λ _ _ _ _ st20=>?_)
   refine st20.alA 2 zan [4,5,19] [0,3] (λ b24 _ _ _ st24=>?_)
   refine st24.stA 6 2 FldS.id (tp rfl) [4,5] [0,3] (λ _ _ st26=>wpList_nil (za ?_))
   obtain⟨o27,p27,k27⟩:=bs h22
   refine zi (λ a w=>∃ M1 q27_0 q27_1 q27_2,Sx (Frm.chg w0 G) 44 M M1 [oneB q27_0,q27_1,oneB q27_2] [(4,dt (cmpI .eql v5.2 (0:Int))),(5,dt s14.2.2)] [(3,0,dtip q27_0 74 s14.2.1),(6,2,dbox q27_2 0 o27.2),(0,1,dnm (Ow.box (Ow.frz (α:=Reader))) q27_1 ⟨o27.1⟩ (.pointer (some ⟨b0,0,none⟩)) [])] a w) ?_ ?_
   ·
    refine st26.sqB (sP 5 (r:=by exact sg rfl rfl (λ hg=>oM rfl (zn hg rfl))<|sgg rfl rfl (λ hg=>xv Stmt.fld0 rfl kF74_0 (tp rfl))<|sgg rfl rfl (λ hg=>yf rfl kT3 (zn hg rfl))<|sgg rfl rfl (λ hg=>oCI rfl (zn hg rfl) cI)<|sg rfl rfl (λ hg=>ZO rfl (zn hg rfl) (JO hg rfl))<|sg rfl rfl (λ hg=>oM rfl (zn hg rfl))<|sgg rfl rfl (λ hg=>xv Stmt.fld0 rfl kF74_0 (tp rfl))<|sgg rfl rfl (λ hg=>yf rfl kT3 (zn hg rfl))<|sgg rfl rfl (λ hg=>oCI rfl (zn hg rfl) cI)<|sg rfl rfl (λ hg=>ZO rfl (zn hg rfl) (JO hg rfl))<|segC)) [4,5,35] [(0,1),(3,0),(6,2)] (λ _ _ st28=>?_)
    refine st28.cs rfl p27 (λ _ h29=>wp_region_list ?_) (λ _ h30=>wp_skip (za ?_))
    ·
     refine st28.segC 1 [4,5,36] [(0,1),(3,0),(6,2)] (λ _ _ st31=>?_)
     obtain⟨v33,p33,h34⟩:=bs h29
     refine st31.cNA 1 0 (zF p33) [4,5] [3,6] (λ _ _ _ _ st32=>?_)
     refine st32.segB 1 (sc rfl (Jq rfl cI (zN (by decide)) (tp rfl))<|.nil) [4,5,38] [(0,1),(3,0),(6,2)] (λ _ _ st35=>?_)
     refine st35.stA 6 2 FldS.id (tp rfl) [4,5] [0,3] (λ _ _ st37=>wpList_nil (za ?_))
     cases h34
     exact fx
    cases h30
    exact fx
   rintro a27 w27 ⟨M27,q27_0,q27_1,q27_2,st27⟩
   have h38:=k27
   refine wp_region_list ?_
   refine st27.segC 3 [4,5,41] [(0,1),(3,0),(39,0)] (λ _ _ st39=>?_)
   obtain⟨v42,p42,h43⟩:=bs h38
   refine st39.apA 0 yS p42 [4,5] [0] (λ g41 _ _ _ st41=>?_)
   refine st41.segA 1 [4,5] [(0,1),(3,0)] (λ _ _ st44=>wpList_nil (zf (za ?_)))
   obtain⟨v45,p45,h46⟩:=bs h43
   refine st44.rgA [4,5] [(0,1),(3,0)] (λ _ _ st47=>za ?_)
   exact fl h46
  refine za ?_
  have h48:=lo h18 hx14
  cases h48
  exact fx
 rintro a8 w8 ⟨M8,q8_0,q8_1,q8_2,st8⟩
 have h49:=k8
 refine st8.sqA [] [(0,1),(2,0)] (λ _ _ st50=>wp_ret ?_)
 have st51:=st50.tipW (s:=2) 0 rfl rfl iI [0] rfl
 exact st51.rsO (s:=0) 1 0 rfl rfl rfl iI iI (by decide) (bxr h49)
def Za(x0:Reader):Option (Reader×(List Int)):=
(zC x0 (8:Int)).bind λ v4=>
if(cmpI .eql v4.2 (0:Int))=true then(some (v4.1,([(1:Int),(0:Int)]:List Int)))
else(if(cmpI .eql v4.2 (1:Int))=true then(some (v4.1,([(2:Int),(1:Int),(0:Int)]:List Int)))
else(if(cmpI .eql v4.2 (2:Int))=true then(some (v4.1,([(0:Int)]:List Int)))
else(if(cmpI .eql v4.2 (3:Int))=true then(some (v4.1,([(1:Int)]:List Int)))
else(if(cmpI .eql v4.2 (4:Int))=true then(some (v4.1,([(0:Int),(1:Int)]:List Int)))
else(some (v4.1,([(0:Int),(1:Int),(2:Int)]:List Int)))))))
theorem zcK{x0:Reader}{r:Reader×(List Int)}(h:Za x0=some r):FnS prog 113 (Ow.box (Ow.frz (α:=Reader))) ⟨x0⟩ [] ⟨r.1⟩ (.frz (dt r.2)):=by
 unfold Za at h
 refine fnSB (fn:=f113) 0 1 func113 rfl (oD rfl) rfl (λ M G _ b0 _ st0=>?_)
 refine st0.sqB (sc rfl (oA rfl (x8 (α:=Int)))<|.nil) [] [(0,0)] (λ _ _ st1=>wp_seq (wp_seq (wp_region_list ?_)))
 refine st1.segC 1 [3] [(0,0)] (λ _ _ st2=>?_)
 obtain⟨v4,p4,h5⟩:=bs h
 refine st2.cNA 0 0 (zF p4) [] [] (λ _ _ _ _ st3=>wpList_nil (za (wp_block ?_)))
 refine st3.sqA [4,5] [(0,0)] (λ _ _ st6=>?_)
 refine st6.cs rfl h5 (λ _ h7=>?_) (λ _ h8=>?_)
 ·
  refine st6.sqB (sc rfl (yq (opds:=[.const (.int .i64 1),.const (.int .i64 0)]) rfl kS26 kY26 rfl rfl (by decide) (.cons cI (.cons cI .nil)))<|segC) [2] [(0,0)] (λ _ _ st9=>wp_ret (zt (ze ?_)))
  exact st9.rsD (s:=0) 0 rfl rfl rfl iI (bxr h7)
 refine st6.sqA [4,8] [(0,0)] (λ _ _ st10=>?_)
 refine st10.cs rfl h8 (λ _ h11=>?_) (λ _ h12=>?_)
 ·
  refine st10.sqB (sc rfl (yq (opds:=[.const (.int .i64 2),.const (.int .i64 1),.const (.int .i64 0)]) rfl kS26 kY26 rfl rfl (by decide) (.cons cI (.cons cI (.cons cI .nil))))<|segC) [2] [(0,0)] (λ _ _ st13=>wp_ret (zt (ze ?_)))
  exact st13.rsD (s:=0) 0 rfl rfl rfl iI (bxr h11)
 refine st10.sqA [4,11] [(0,0)] (λ _ _ st14=>?_)
 refine st14.cs rfl h12 (λ _ h15=>?_) (λ _ h16=>?_)
 ·
  refine st14.sqB (sc rfl (yq (opds:=[.const (.int .i64 0)]) rfl kS26 kY26 rfl rfl (by decide) (.cons cI .nil))<|segC) [2] [(0,0)] (λ _ _ st17=>wp_ret (zt (ze ?_)))
  exact st17.rsD (s:=0) 0 rfl rfl rfl iI (bxr h15)
 refine st14.sqA [4,14] [(0,0)] (λ _ _ st18=>?_)
 refine st18.cs rfl h16 (λ _ h19=>?_) (λ _ h20=>?_)
 ·
  refine st18.sqB (sc rfl (yq (opds:=[.const (.int .i64 1)]) rfl kS26 kY26 rfl rfl (by decide) (.cons cI .nil))<|segC) [2] [(0,0)] (λ _ _ st21=>wp_ret (zt (ze ?_)))
  exact st21.rsD (s:=0) 0 rfl rfl rfl iI (bxr h19)
 refine st18.sqA [17] [(0,0)] (λ _ _ st22=>?_)
 refine st22.cs rfl h20 (λ _ h23=>?_) (λ _ h24=>wp_skip (zf (za ?_)))
 ·
  refine st22.sqB (sc rfl (yq (opds:=[.const (.int .i64 0),.const (.int .i64 1)]) rfl kS26 kY26 rfl rfl (by decide) (.cons cI (.cons cI .nil)))<|segC) [2] [(0,0)] (λ _ _ st25=>wp_ret (zt (ze ?_)))
  exact st25.rsD (s:=0) 0 rfl rfl rfl iI (bxr h23)
 refine st22.sqB (sc rfl (yq (opds:=[.const (.int .i64 0),.const (.int .i64 1),.const (.int .i64 2)]) rfl kS26 kY26 rfl rfl (by decide) (.cons cI (.cons cI (.cons cI .nil))))<|segC) [2] [(0,0)] (λ _ _ st26=>wp_ret ?_)
 exact st26.rsD (s:=0) 0 rfl rfl rfl iI (bxr h24)
def Zb(x0:Reader):Option (Reader×File):=
(yb x0 ([(0:Int),(0:Int),(1:Int),(2:Int),(1:Int)]:List Int)).bind λ v5=>
(zC v5.1 (100:Int)).bind λ v10=>
(q9 v10.1).bind λ v15=>
Option.bind (α:=Reader×File) ((zC v15.1 (6:Int)).bind λ v27=>
Option.bind (α:=Bool) (if(cmpI .eql v27.2 (0:Int))=true then(some (cmpI .eql v27.2 (0:Int)))
else(some (cmpI .eql v27.2 (1:Int)))) λ o30=>
if o30=true then((yV v27.1).bind λ v44=>
some (v44.1,{ (⟨v5.2,⟨[]⟩,⟨[]⟩,false,v10.2,v15.2⟩:File) with name:=v44.2 }))
else(Option.bind (α:=Bool) (if(cmpI .eql v27.2 (2:Int))=true then(some (cmpI .eql v27.2 (2:Int)))
else(some (cmpI .eql v27.2 (3:Int)))) λ o51=>
if o51=true then((yV v27.1).bind λ v61=>
(yV v61.1).bind λ v69=>
some (v69.1,{ (⟨v5.2,⟨[]⟩,⟨[]⟩,false,v10.2,v15.2⟩:File) with pkg:=v61.2,name:=v69.2 }))
else(if(cmpI .eql v27.2 (4:Int))=true then((yV v27.1).bind λ v80=>
some (v80.1,{ (⟨v5.2,⟨[]⟩,⟨[]⟩,false,v10.2,v15.2⟩:File) with pkg:=v80.2,init:=true }))
else((yV v27.1).bind λ v91=>
(catO v91.2 (⟨[46]⟩:Str)).bind λ v94=>
(yV v91.1).bind λ v98=>
(catO v94 v98.2).bind λ v101=>
(zC v98.1 (2:Int)).bind λ v108=>
if(cmpI .eql v108.2 (0:Int))=true then(some (v108.1,{ (⟨v5.2,⟨[]⟩,⟨[]⟩,false,v10.2,v15.2⟩:File) with pkg:=v101,init:=true }))
else((yV v108.1).bind λ v119=>
some (v119.1,{ (⟨v5.2,⟨[]⟩,⟨[]⟩,false,v10.2,v15.2⟩:File) with pkg:=v101,name:=v119.2 })))))) λ o24=>
some (o24.1,o24.2)
theorem zcL{x0:Reader}{r:Reader×File}(h:Zb x0=some r):FnS prog 110 (Ow.box (Ow.frz (α:=Reader))) ⟨x0⟩ [] ⟨r.1⟩ (.ow (owFile (Ow.row 74 (Ow.frz (α:=Stmt)))) r.2):=by
 unfold Zb at h
 refine fnSB (fn:=f110) 2 5 func110 rfl (oD rfl) rfl (λ M G w0 b0 _ st0=>wp_seq (wp_region_list ?_))
 refine st0.alcW (ow:=(owFile (Ow.row 74 (Ow.frz (α:=Stmt))))) 3 rfl rfl kZ51 (owFile.z Ow.row_z) (by simp) [] rfl [0] rfl rfl (λ b1 M1 _ _ st1=>?_)
 have st2:=st1.gn
 refine wpList_nil (za (wp_seq (wp_region_list ?_)))
 refine st2.segB 2 (sP 1 (r:=by exact sc rfl (yq (opds:=[.const (.int .i64 0),.const (.int .i64 0),.const (.int .i64 1),.const (.int .i64 2),.const (.int .i64 1)]) rfl kS26 kY26 rfl rfl (by decide) (.cons cI (.cons cI (.cons cI (.cons cI (.cons cI .nil))))))<|.nil)) [4,5] [(0,2),(2,3)] (λ _ _ st3=>?_)
 obtain⟨v5,p5,h6⟩:=bs h
 refine st3.cNA 2 0 (xw p5) [] [2] (λ G4 _ _ _ st7=>?_)
 refine st7.segC 1 [6,7] [(0,2),(2,3)] (λ _ _ st8=>?_)
 obtain⟨v10,p10,h11⟩:=bs h6
 refine st8.cNA 2 0 (zF p10) [6] [2] (λ G9 _ _ _ st12=>?_)
 refine st12.segC 1 [6,8,9] [(0,2),(2,3)] (λ _ _ st13=>?_)
 obtain⟨v15,p15,h16⟩:=bs h11
 refine st13.cSO (l:=[]) 2 0 (st13.bkN (s:=0) rfl iI) rfl rfl kN111 (Eq.trans (st13.st.has 9 _ rfl) (st13.st.has 0 _ rfl).1.symm) (by simp) (by simp) (by decide) .nil (zcJ p15) [6,8] rfl [2] rfl rfl rfl rfl (by decide) (λ G14 H14 _ _ _ st14=>?_)
 have st17:=st14.gn
 refine st17.bldW (ow:=(owFile (Ow.row 74 (Ow.frz (α:=Stmt))))) (parts:=[(0,.tmp 6),(4,.tmp 8),(5,.tmp 10)]) (ns:=[1,1,1,1,1,1]) (zs:=zpFile) (x:=(⟨v5.2,⟨[]⟩,⟨[]⟩,false,v10.2,v15.2⟩:File)) 1 [0] rfl rfl rfl kB51 kC51 (by
 intro p hp;simp only[List.mem_cons,List.not_mem_nil,or_false] at hp
 rcases hp with rfl | rfl | rfl
 ·
  exact⟨by decide,Rep.len (α:=Int) (OpdR.cells (tp rfl) (λ s y hs=>st17.st.has s y hs))⟩
 ·
  exact⟨by decide,Rep.len (α:=Int) (OpdR.cells (tp rfl) (λ s y hs=>st17.st.has s y hs))⟩
 ·
  exact⟨by decide,Ow.len _ (X1 (st17.st.has 10 _ rfl))⟩) (((owFile (Ow.row 74 (Ow.frz (α:=Stmt))))).more (owFile.mk (x:=(⟨v5.2,⟨[]⟩,⟨[]⟩,false,v10.2,v15.2⟩:File)) (OpdR.cells (tp rfl) (λ s y hs=>st17.st.has s y hs)) jS jS ⟨rfl,trivial⟩ (OpdR.cells (tp rfl) (λ s y hs=>st17.st.has s y hs)) (X1 (st17.st.has 10 _ rfl))) (λ b=>(λ hb=>⟨0,by simp,hb⟩))) (by simp) [] rfl [0,2] rfl rfl rfl (λ G18 _ _ st18=>?_)
 have st19:=st18.gs (Gs':=[oneB none,G18,G14,(oneB (some b1)),oneB none]) rfl
 refine st19.alcW (ow:=(owFile (Ow.row 74 (Ow.frz (α:=Stmt))))) 4 rfl rfl kZ51 (owFile.z Ow.row_z) (by simp) [] rfl [0,2,11] rfl rfl (λ b20 _ _ _ st20=>?_)
 have st21:=st20.gn
 refine st21.stO (sb:=3) (tv:=11) 4 1 (PV.root.box rfl) rfl rfl rfl kT51 (by simp) (by simp) (by decide) (zR rfl) rfl rfl rfl iI iI [] rfl [0,2] rfl rfl rfl (λ G22 _ st22=>?_)
 have st23:=st22.gn
 refine wpList_nil (za ?_)
 obtain⟨o24,p24,k24⟩:=bs h16
 refine zi (λ a w=>∃ M1 q24_0 q24_1 q24_2 q24_3 q24_4,Sx (Frm.chg w0 G) 50 M M1 [q24_0,q24_1,q24_2,q24_3,q24_4] [] [(0,2,dnm (Ow.box (Ow.frz (α:=Reader))) q24_2 ⟨o24.1⟩ (.pointer (some ⟨b0,0,none⟩)) []),(2,3,dow (Ow.box (owFile (Ow.row 74 (Ow.frz (α:=Stmt))))) q24_3 ⟨zFile⟩),(3,4,dow (Ow.box (owFile (Ow.row 74 (Ow.frz (α:=Stmt))))) q24_4 ⟨o24.2⟩)] a w) ?_ ?_
 ·
  refine wp_seq (wp_region_list ?_)
  refine st23.segC 1 [12] [(0,2),(2,3),(3,4)] (λ _ _ st25=>?_)
  obtain⟨v27,p27,h28⟩:=bs p24
  refine st25.cNA 2 0 (zF p27) [] [2,3] (λ G26 _ _ _ st29=>wpList_nil (za (wp_block ?_)))
  obtain⟨o30,p30,k30⟩:=bs h28
  refine zi (λ a w=>∃ M1 q30_0 q30_1 q30_2 q30_3 q30_4,Sx (Frm.chg w0 G) 50 M M1 [q30_0,q30_1,q30_2,q30_3,q30_4] [(13,dt v27.2),(28,dt o30)] [(0,2,dnm (Ow.box (Ow.frz (α:=Reader))) q30_2 ⟨v27.1⟩ (.pointer (some ⟨b0,0,none⟩)) []),(2,3,dow (Ow.box (owFile (Ow.row 74 (Ow.frz (α:=Stmt))))) q30_3 ⟨zFile⟩),(3,4,dow (Ow.box (owFile (Ow.row 74 (Ow.frz (α:=Stmt))))) q30_4 ⟨(⟨v5.2,⟨[]⟩,⟨[]⟩,false,v10.2,v15.2⟩:File)⟩)] a w) ?_ ?_
  ·
   refine st29.sqA [13,28] [(0,2),(2,3),(3,4)] (λ _ _ st31=>?_)
   refine st31.cs rfl p30 (λ _ h32=>wp_skip ?_) (λ _ h33=>?_)
   ·
    have st34:=st31.unm (s:=2) 3 rfl rfl iI [0,3] rfl
    have st35:=st34.unm (s:=3) 4 rfl rfl iI [0,2] rfl
    refine za ?_
    cases h32
    exact fx
   refine st31.rgA [13,28] [(0,2),(2,3),(3,4)] (λ _ _ st36=>?_)
   have st37:=st36.unm (s:=2) 3 rfl rfl iI [0,3] rfl
   have st38:=st37.unm (s:=3) 4 rfl rfl iI [0,2] rfl
   refine za ?_
   cases h33
   exact fx
  rintro a30 w30 ⟨M30,q30_0,q30_1,q30_2,q30_3,q30_4,st30⟩
  have h39:=k30
  refine st30.cs rfl h39 (λ _ h40=>wp_region_list ?_) (λ _ h41=>?_)
  ·
   refine st30.segC 1 [31] [(0,2),(2,3),(3,4)] (λ _ _ st42=>?_)
   obtain⟨v44,p44,h45⟩:=bs h40
   refine st42.cNA 2 0 (wO p44) [] [2,3] (λ G43 _ _ _ st46=>?_)
   refine st46.nmB (s:=3) 4 rfl rfl iI [0,2] rfl (λ b47 st47=>?_)
   refine st47.segB 1 (sc rfl (xFa rfl kF51_2 (zR rfl))<|.nil) [32,33] [(0,2),(2,3),(3,4)] (λ _ _ st48=>?_)
   refine st48.sfA 3 4 ((PV.root.box rfl).fld owFile.f2) (tp rfl) (tp rfl) [] [0,2] (λ _ st49=>wpList_nil (zf ?_))
   have st50:=st49.unm (s:=3) 4 rfl rfl iI [0,2] rfl
   refine za ?_
   cases h45
   exact fx
  obtain⟨o51,p51,k51⟩:=bs h41
  refine zi (λ a w=>∃ M1 q51_0 q51_1 q51_2 q51_3 q51_4,Sx (Frm.chg w0 G) 50 M M1 [q51_0,q51_1,q51_2,q51_3,q51_4] [(13,dt v27.2),(34,dt o51)] [(0,2,dnm (Ow.box (Ow.frz (α:=Reader))) q51_2 ⟨v27.1⟩ (.pointer (some ⟨b0,0,none⟩)) []),(2,3,dow (Ow.box (owFile (Ow.row 74 (Ow.frz (α:=Stmt))))) q51_3 ⟨zFile⟩),(3,4,dow (Ow.box (owFile (Ow.row 74 (Ow.frz (α:=Stmt))))) q51_4 ⟨(⟨v5.2,⟨[]⟩,⟨[]⟩,false,v10.2,v15.2⟩:File)⟩)] a w) ?_ ?_
  ·
   refine st30.sqA [13,34] [(0,2),(2,3),(3,4)] (λ _ _ st52=>?_)
   refine st52.cs rfl p51 (λ _ h53=>wp_skip (za ?_)) (λ _ h54=>?_)
   ·
    cases h53
    exact fx
   refine st52.rgA [13,34] [(0,2),(2,3),(3,4)] (λ _ _ st55=>za ?_)
   cases h54
   exact fx
  rintro a51 w51 ⟨M51,q51_0,q51_1,q51_2,q51_3,q51_4,st51⟩
  have h56:=k51
  refine st51.cs rfl h56 (λ _ h57=>wp_seq (wp_region_list ?_)) (λ _ h58=>?_)
  ·
   refine st51.segC 1 [37] [(0,2),(2,3),(3,4)] (λ _ _ st59=>?_)
   obtain⟨v61,p61,h62⟩:=bs h57
   refine st59.cNA 2 0 (wO p61) [] [2,3] (λ G60 _ _ _ st63=>?_)
   refine st63.nmB (s:=3) 4 rfl rfl iI [0,2] rfl (λ b64 st64=>?_)
   refine st64.segB 1 (sc rfl (xFa rfl kF51_1 (zR rfl))<|.nil) [38,39] [(0,2),(2,3),(3,4)] (λ _ _ st65=>?_)
   refine st65.sfA 3 4 ((PV.root.box rfl).fld owFile.f1) (tp rfl) (tp rfl) [] [0,2] (λ _ st66=>wpList_nil (za (wp_region_list ?_)))
   refine st66.segC 1 [40] [(0,2),(2,3),(3,4)] (λ _ _ st67=>?_)
   obtain⟨v69,p69,h70⟩:=bs h62
   refine st67.cNA 2 0 (wO p69) [] [2,3] (λ G68 _ _ _ st71=>?_)
   refine st71.segB 1 (sc rfl (xFa rfl kF51_2 (zR rfl))<|.nil) [41,42] [(0,2),(2,3),(3,4)] (λ _ _ st72=>?_)
   refine st72.sfA 3 4 ((PV.root.box rfl).fld owFile.f2) (tp rfl) (tp rfl) [] [0,2] (λ _ st73=>wpList_nil (zf ?_))
   have st74:=st73.unm (s:=3) 4 rfl rfl iI [0,2] rfl
   refine za ?_
   cases h70
   exact fx
  refine st51.sqA [43] [(0,2),(2,3),(3,4)] (λ _ _ st75=>?_)
  refine st75.cs rfl h58 (λ _ h76=>wp_seq (wp_region_list ?_)) (λ _ h77=>wp_seq (wp_region_list ?_))
  ·
   refine st75.segC 1 [45] [(0,2),(2,3),(3,4)] (λ _ _ st78=>?_)
   obtain⟨v80,p80,h81⟩:=bs h76
   refine st78.cNA 2 0 (wO p80) [] [2,3] (λ G79 _ _ _ st82=>?_)
   refine st82.nmB (s:=3) 4 rfl rfl iI [0,2] rfl (λ b83 st83=>?_)
   refine st83.segB 1 (sc rfl (xFa rfl kF51_1 (zR rfl))<|.nil) [46,47] [(0,2),(2,3),(3,4)] (λ _ _ st84=>?_)
   refine st84.sfA 3 4 ((PV.root.box rfl).fld owFile.f1) (tp rfl) (tp rfl) [] [0,2] (λ _ st85=>wpList_nil (za (wp_region_list ?_)))
   refine st85.segB 1 (sc rfl (xFa rfl kF51_3 (zR rfl))<|.nil) [48] [(0,2),(2,3),(3,4)] (λ _ _ st86=>?_)
   refine st86.sfA 3 4 ((PV.root.box rfl).fld owFile.f3) (tp rfl) cB [] [0,2] (λ _ st87=>wpList_nil (zf ?_))
   have st88:=st87.unm (s:=3) 4 rfl rfl iI [0,2] rfl
   refine za ?_
   cases h81
   exact fx
  refine st75.segC 1 [14] [(0,2),(2,3),(3,4)] (λ _ _ st89=>?_)
  obtain⟨v91,p91,h92⟩:=bs h77
  refine st89.cNA 2 0 (wO p91) [] [2,3] (λ G90 _ _ _ st93=>?_)
  obtain⟨v94,p94,h95⟩:=bs h92
  refine st93.segB 2 (sc rfl (xCat rfl (tp rfl) (zN (by decide)) p94)<|segC) [16,17] [(0,2),(2,3),(3,4)] (λ _ _ st96=>?_)
  obtain⟨v98,p98,h99⟩:=bs h95
  refine st96.cNA 2 0 (wO p98) [16] [2,3] (λ G97 _ _ _ st100=>?_)
  obtain⟨v101,p101,h103⟩:=bs h99
  refine st100.nmB (s:=3) 4 rfl rfl iI [0,2] rfl (λ b102 st102=>?_)
  refine st102.segB 2 (sP 1 (r:=by exact sc rfl (xFa rfl kF51_1 (zR rfl))<|.nil)) [19,20] [(0,2),(2,3),(3,4)] (λ _ _ st104=>?_)
  refine st104.sfA 3 4 ((PV.root.box rfl).fld owFile.f1) (tp rfl) (tp rfl) [] [0,2] (λ _ st105=>wpList_nil (za (wp_seq (wp_region_list ?_))))
  refine st105.segC 1 [21] [(0,2),(2,3),(3,4)] (λ _ _ st106=>?_)
  obtain⟨v108,p108,h109⟩:=bs h103
  refine st106.cNA 2 0 (zF p108) [] [2,3] (λ G107 _ _ _ st110=>?_)
  refine st110.segA 1 [23] [(0,2),(2,3),(3,4)] (λ _ _ st111=>wpList_nil (za ?_))
  refine st111.cs rfl h109 (λ _ h112=>wp_region_list ?_) (λ _ h113=>wp_region_list ?_)
  ·
   refine st111.segB 1 (sc rfl (xFa rfl kF51_3 (zR rfl))<|.nil) [24] [(0,2),(2,3),(3,4)] (λ _ _ st114=>?_)
   refine st114.sfA 3 4 ((PV.root.box rfl).fld owFile.f3) (tp rfl) cB [] [0,2] (λ _ st115=>wpList_nil (zf ?_))
   have st116:=st115.unm (s:=3) 4 rfl rfl iI [0,2] rfl
   refine za ?_
   cases h112
   exact fx
  refine st111.segC 1 [25] [(0,2),(2,3),(3,4)] (λ _ _ st117=>?_)
  obtain⟨v119,p119,h120⟩:=bs h113
  refine st117.cNA 2 0 (wO p119) [] [2,3] (λ G118 _ _ _ st121=>?_)
  refine st121.segB 1 (sc rfl (xFa rfl kF51_2 (zR rfl))<|.nil) [26,27] [(0,2),(2,3),(3,4)] (λ _ _ st122=>?_)
  refine st122.sfA 3 4 ((PV.root.box rfl).fld owFile.f2) (tp rfl) (tp rfl) [] [0,2] (λ _ st123=>wpList_nil (zf ?_))
  have st124:=st123.unm (s:=3) 4 rfl rfl iI [0,2] rfl
  refine za ?_
  cases h120
  exact fx
 rintro a24 w24 ⟨M24,q24_0,q24_1,q24_2,q24_3,q24_4,st24⟩
 have h125:=k24
 refine wp_seq (wp_region_list ?_)
 refine st24.nmB (s:=3) 4 rfl rfl iI [0,2] rfl (λ b127 st127=>?_)
 refine st127.ldW (sb:=3) 4 rfl rfl kT51 rfl (by simp) iI [] rfl [0,2] rfl rfl (λ _ _ st126=>?_)
 refine st126.nmB (s:=2) 3 rfl rfl iI [0,49] rfl (λ b129 st129=>?_)
 refine st129.stO (sb:=2) (tv:=49) 3 4 (PV.root.box rfl) rfl rfl rfl kT51 (by simp) (by simp) (by decide) (zR rfl) rfl rfl rfl iI iI [] rfl [0] rfl rfl rfl (λ _ _ st128=>?_)
 have st130:=st128.gn
 refine wpList_nil (za (wp_ret ?_))
 exact st130.rsCO (s:=0) 2 3 rfl kT51 rfl rfl iI iI (by decide) (bxr h125)
def wL(s18:Reader×Tree×Int):Option ((Reader×Tree×Int)⊕(Reader×Tree)):=
if(cmpI .gtr s18.2.2 (0:Int))=true then(Option.bind (α:=Reader×Tree) ((Zb s18.1).bind λ v26=>
(WQ s18.2.1 v26.2).bind λ v36=>
if(cmpI .lss v36 (0:Int))=true then((appO 80 s18.2.1.files [v26.2]).bind λ v51=>
some (v26.1,(⟨v51⟩:Tree)))
else(some (v26.1,s18.2.1))) λ o23=>
(i64 (s18.2.2 - (1:Int))).bind λ v60=>
some (.inl (o23.1,o23.2,v60)))
else(some (.inr (s18.1,s18.2.1)))
def Zc(x0:Reader):Option (Reader×Tree):=
Option.bind (α:=Reader×Tree) ((yb x0 ([(5:Int),(4:Int),(6:Int),(3:Int),(8:Int),(1:Int),(0:Int),(10:Int)]:List Int)).bind λ v12=>
zK (λ s18=>wL s18) (v12.1,(⟨[]⟩:Tree),v12.2)) λ o9=>
some (o9.1,o9.2)
theorem zcM{x0:Reader}{r:Reader×Tree}(h:Zc x0=some r):FnS prog 128 (Ow.box (Ow.frz (α:=Reader))) ⟨x0⟩ [] ⟨r.1⟩ (.ow (owTree (Ow.row 51 (owFile (Ow.row 74 (Ow.frz (α:=Stmt)))))) r.2):=by
 unfold Zc at h
 refine fnSB (fn:=f128) 1 9 func128 rfl (oD rfl) rfl (λ M G w0 b0 _ st0=>wp_seq (wp_region_list ?_))
 refine st0.alcW (ow:=(owTree (Ow.row 51 (owFile (Ow.row 74 (Ow.frz (α:=Stmt))))))) 6 rfl rfl kZ25 (owTree.z Ow.row_z) (by simp) [] rfl [0] rfl rfl (λ b1 M1 _ _ st1=>?_)
 have st2:=st1.gn
 refine wpList_nil (za (wp_seq (wp_region_list ?_)))
 refine st2.bldW (ow:=(owTree (Ow.row 51 (owFile (Ow.row 74 (Ow.frz (α:=Stmt))))))) (parts:=[]) (ns:=[1]) (zs:=zpTree) (x:=(⟨[]⟩:Tree)) 0 [] rfl rfl rfl kB25 kC25 (by simp) (((owTree (Ow.row 51 (owFile (Ow.row 74 (Ow.frz (α:=Stmt))))))).more (owTree.mk (x:=(⟨[]⟩:Tree)) (Ow.row_z _ _)) (λ b=>(λ hb=>hb.elim))) (by simp) [] rfl [0,2] rfl rfl rfl (λ G3 _ _ st3=>?_)
 have st4:=st3.gs (Gs':=[G3,G,oneB none,oneB none,oneB none,oneB none,(oneB (some b1)),oneB none,oneB none]) rfl
 refine st4.alcW (ow:=(owTree (Ow.row 51 (owFile (Ow.row 74 (Ow.frz (α:=Stmt))))))) 7 rfl rfl kZ25 (owTree.z Ow.row_z) (by simp) [] rfl [0,2,6] rfl rfl (λ b5 _ _ _ st5=>?_)
 have st6:=st5.gn
 refine st6.stO (sb:=3) (tv:=6) 7 0 (PV.root.box rfl) rfl rfl rfl kT25 (by simp) (by simp) (by decide) (zR rfl) rfl rfl rfl iI iI [] rfl [0,2] rfl rfl rfl (λ G7 _ st7=>?_)
 have st8:=st7.gn
 refine wpList_nil (za ?_)
 obtain⟨o9,p9,k9⟩:=bs h
 refine zi (λ a w=>∃ M1 q9_0 q9_1 q9_2 q9_3 q9_4 q9_5 q9_6 q9_7 q9_8,Sx (Frm.chg w0 G) 27 M M1 [q9_0,q9_1,q9_2,q9_3,q9_4,q9_5,q9_6,q9_7,q9_8] [] [(0,1,dnm (Ow.box (Ow.frz (α:=Reader))) q9_1 ⟨o9.1⟩ (.pointer (some ⟨b0,0,none⟩)) []),(2,6,dow (Ow.box (owTree (Ow.row 51 (owFile (Ow.row 74 (Ow.frz (α:=Stmt))))))) q9_6 ⟨JI⟩),(3,7,dow (Ow.box (owTree (Ow.row 51 (owFile (Ow.row 74 (Ow.frz (α:=Stmt))))))) q9_7 ⟨o9.2⟩)] a w) ?_ ?_
 ·
  refine wp_seq (wp_region_list ?_)
  refine st8.segB 2 (sP 1 (r:=by exact sc rfl (yq (opds:=[.const (.int .i64 5),.const (.int .i64 4),.const (.int .i64 6),.const (.int .i64 3),.const (.int .i64 8),.const (.int .i64 1),.const (.int .i64 0),.const (.int .i64 10)]) rfl kS26 kY26 rfl rfl (by decide) (.cons cI (.cons cI (.cons cI (.cons cI (.cons cI (.cons cI (.cons cI (.cons cI .nil)))))))))<|.nil)) [7,8] [(0,1),(2,6),(3,7)] (λ _ _ st10=>?_)
  obtain⟨v12,p12,h13⟩:=bs p9
  refine st10.cNA 1 0 (xw p12) [] [2,3] (λ G11 _ _ _ st14=>?_)
  refine st14.segA 1 [4] [(0,1),(2,6),(3,7)] (λ _ _ st15=>wpList_nil (za (wp_block ?_)))
  have st16:=st15.unm (s:=2) 6 rfl rfl iI [0,3] rfl
  have st17:=st16.unm (s:=3) 7 rfl rfl iI [0,2] rfl
  refine zG h13 (λ s18 a w=>∃ M1 q18_0 q18_1 q18_2 q18_3 q18_4 q18_5 q18_6 q18_7 q18_8,Sx (Frm.chg w0 G) 27 M M1 [q18_0,q18_1,q18_2,q18_3,q18_4,q18_5,q18_6,q18_7,q18_8] [(4,dt s18.2.2)] [(0,1,dnm (Ow.box (Ow.frz (α:=Reader))) q18_1 ⟨s18.1⟩ (.pointer (some ⟨b0,0,none⟩)) []),(2,6,dow (Ow.box (owTree (Ow.row 51 (owFile (Ow.row 74 (Ow.frz (α:=Stmt))))))) q18_6 ⟨JI⟩),(3,7,dow (Ow.box (owTree (Ow.row 51 (owFile (Ow.row 74 (Ow.frz (α:=Stmt))))))) q18_7 ⟨s18.2.1⟩)] a w) fx ?_
  rintro s18 z18 a18 w18 ⟨M18,q18_0,q18_1,q18_2,q18_3,q18_4,q18_5,q18_6,q18_7,q18_8,st18⟩ hs18 hx18
  have h19:wL s18=some z18:=hs18
  unfold wL at h19
  refine wp_seq ?_
  refine st18.sqA [4,11] [(0,1),(2,6),(3,7)] (λ _ _ st20=>?_)
  refine st20.cs rfl h19 (λ _ h21=>wp_skip (za ?_)) (λ _ h22=>?_)
  ·
   obtain⟨o23,p23,k23⟩:=bs h21
   refine zi (λ a w=>∃ M1 q23_0 q23_1 q23_2 q23_3 q23_4 q23_5 q23_6 q23_7 q23_8,Sx (Frm.chg w0 G) 27 M M1 [q23_0,q23_1,q23_2,q23_3,q23_4,q23_5,q23_6,q23_7,q23_8] [(4,dt s18.2.2)] [(0,1,dnm (Ow.box (Ow.frz (α:=Reader))) q23_1 ⟨o23.1⟩ (.pointer (some ⟨b0,0,none⟩)) []),(2,6,dow (Ow.box (owTree (Ow.row 51 (owFile (Ow.row 74 (Ow.frz (α:=Stmt))))))) q23_6 ⟨JI⟩),(3,7,dow (Ow.box (owTree (Ow.row 51 (owFile (Ow.row 74 (Ow.frz (α:=Stmt))))))) q23_7 ⟨o23.2⟩)] a w) ?_ ?_
   ·
    refine wp_block (wp_seq (wp_region_list ?_))
    refine st20.segC 1 [4,14] [(0,1),(2,6),(3,7)] (λ _ _ st24=>?_)
    obtain⟨v26,p26,h27⟩:=bs p23
    refine st24.cSO (l:=[]) 1 2 (st24.bkN (s:=0) rfl iI) rfl rfl kN110 (Eq.trans (st24.st.has 14 _ rfl) (st24.st.has 0 _ rfl).1.symm) (by simp) (by simp) (by decide) .nil (zcL p26) [4] rfl [2,3] rfl rfl rfl rfl (by decide) (λ G25 H25 _ _ _ st25=>?_)
    have st28:=st25.gn
    refine st28.alcW (ow:=(owFile (Ow.row 74 (Ow.frz (α:=Stmt))))) 8 rfl rfl kZ51 (owFile.z Ow.row_z) (by simp) [4] rfl [0,2,3,15] rfl rfl (λ b29 _ _ _ st29=>?_)
    have st30:=st29.gn
    refine st30.stO (sb:=5) (tv:=15) 8 2 (PV.root.box rfl) rfl rfl rfl kT51 (by simp) (by simp) (by decide) (zR rfl) rfl rfl rfl iI iI [4] rfl [0,2,3] rfl rfl rfl (λ _ _ st31=>?_)
    have st32:=st31.gn
    refine wpList_nil (za ?_)
    obtain⟨v36,p36,h37⟩:=bs h27
    refine st32.nmB (s:=3) 7 rfl rfl iI [0,2,5] rfl (λ b33 st33=>?_)
    refine st33.hdW (s:=3) 7 true (λ _=>(PV.root.box rfl)) rfl rfl iI [0,2,5] rfl (λ cs34 hS34 st34=>?_)
    refine st34.hdW (s:=5) 8 true (λ _=>(PV.root.box rfl)) rfl rfl iI [0,2,3] rfl (λ cs35 hS35 st35=>?_)
    refine st35.sqB (sc rfl (xLw (sb:=3) (.head _) rfl (hS34 rfl) rfl kT25 (zR rfl) rfl)<|sc rfl (xLw (sb:=5) (.head _) rfl (hS35 rfl) rfl kT51 (zR rfl) rfl)<|sc rfl (we (l:=[.tmp 16,.tmp 17]) st35.ob.sub rfl kN86 (.cons (lendP (sb:=3) st35.ob 7 (PV.root.box rfl) (.head _) rfl (fits_all rfl (hS34 rfl)) (tp rfl) rfl iI) (.cons (lendP (sb:=5) st35.ob 8 (PV.root.box rfl) (.head _) rfl (fits_all rfl (hS35 rfl)) (tp rfl) rfl iI) .nil)) (spec_fileAt_w p36) y9)<|segC) [4,19] [(0,1),(2,6),(3,7),(5,8)] (λ _ _ st38=>?_)
    have st39:=st38.ncf (s:=3) 7 rfl rfl iI [0,2,5] rfl
    have st40:=st39.ncf (s:=5) 8 rfl rfl iI [0,2,3] rfl
    refine st40.cs rfl h37 (λ _ h41=>wp_region_list ?_) (λ _ h42=>?_)
    ·
     refine st40.hdA 3 7 ((PV.root.box rfl).fld owTree.f0) [0,2,5] (λ g43 A43 _ hA43 st43=>?_)
     refine st43.segB 2 (sc rfl (xFa rfl qg (zR rfl))<|sc rfl (xLc (sb:=3) (.head _) rfl rfl rfl kT23 (tp rfl) rfl)<|.nil) [4,21] [(0,1),(2,6),(3,7),(5,8)] (λ _ _ st44=>?_)
     refine st44.ldW (sb:=5) 8 rfl rfl kT51 rfl (by simp) iI [4,21] rfl [0,2,3] rfl rfl (λ _ _ st45=>?_)
     refine st45.litW (oe:=(owFile (Ow.row 74 (Ow.frz (α:=Stmt))))) (opds:=[.tmp 22]) (xs:=[v26.2]) 4 [8] rfl rfl kI23 kY23 rfl rfl (by decide) rfl (by decide) (rowW_lit (X1 (st45.st.has 22 _ rfl)) (λ b hb=>⟨8,by simp,hb⟩)) (λ q hq=>by
 simp only[List.mem_cons,List.not_mem_nil,or_false] at hq
 subst hq
 exact Ow.len _ (X1 (st45.st.has 22 _ rfl))) (by simp) [4,21] rfl [0,2,3] rfl rfl rfl (by decide) (λ G46 _ _ _ st46=>?_)
     have st47:=st46.gs (Gs':=[q18_0,G25,oneB none,q18_3,G46,q18_5,q18_6,q18_7,oneB none]) rfl
     refine st47.mvG (s:=21) (sb:=3) 7 5 ((PV.root.box rfl).fld owTree.f0) (.head _) rfl (wi rfl rfl) rfl (by simp) (by simp) (by decide) rfl iI [4] rfl [0,2,23] rfl rfl rfl rfl (λ G49 H49 st49=>?_)
     have st50:=st49.gs (Gs':=[q18_0,G25,oneB none,q18_3,G46,H49,q18_6,G49,oneB none]) rfl
     obtain⟨v51,p51,h52⟩:=bs h41
     refine st50.appW 5 4 rfl rfl kE23 rfl rfl (by simp) (by simp) (by decide) iI iI p51 [4] rfl [0,2,3] rfl rfl rfl (λ _ _ _ _ st48=>?_)
     have st53:=st48.gn
     refine st53.segB 1 (sc rfl (xFa rfl qg (opd_hl rfl))<|.nil) [4,25] [(0,1),(2,6),(3,7),(24,5)] (λ _ _ st54=>?_)
     refine st54.shA 3 24 7 5 (tp rfl) [4] [0,2] (λ _ _ st55=>?_)
     have st56:=st55.gn
     refine wpList_nil (zf ?_)
     have st57:=st56.unm (s:=3) 7 rfl rfl iI [0,2] rfl
     refine za ?_
     cases h52
     exact fx
    refine wp_skip (zf ?_)
    have st58:=st40.unm (s:=3) 7 rfl rfl iI [0,2,5] rfl
    refine za ?_
    cases h42
    exact fx
   rintro a23 w23 ⟨M23,q23_0,q23_1,q23_2,q23_3,q23_4,q23_5,q23_6,q23_7,q23_8,st23⟩
   have h59:=k23
   obtain⟨v60,p60,h61⟩:=bs h59
   refine st23.rgA [4] [(0,1),(2,6),(3,7)] (λ _ _ st62=>za ?_)
   exact fl h61
  refine wp_exit (zh (zh (zy ?_)))
  refine za ?_
  have h63:=lo h22 hx18
  cases h63
  exact fx
 rintro a9 w9 ⟨M9,q9_0,q9_1,q9_2,q9_3,q9_4,q9_5,q9_6,q9_7,q9_8,st9⟩
 have h64:=k9
 refine wp_seq (wp_region_list ?_)
 refine st9.nmB (s:=3) 7 rfl rfl iI [0,2] rfl (λ b66 st66=>?_)
 refine st66.ldW (sb:=3) 7 rfl rfl kT25 rfl (by simp) iI [] rfl [0,2] rfl rfl (λ _ _ st65=>?_)
 refine st65.nmB (s:=2) 6 rfl rfl iI [0,26] rfl (λ b68 st68=>?_)
 refine st68.stO (sb:=2) (tv:=26) 6 7 (PV.root.box rfl) rfl rfl rfl kT25 (by simp) (by simp) (by decide) (zR rfl) rfl rfl rfl iI iI [] rfl [0] rfl rfl rfl (λ _ _ st67=>?_)
 have st69:=st67.gn
 refine wpList_nil (za (wp_ret ?_))
 exact st69.rsCO (s:=0) 1 6 rfl kT25 rfl rfl iI iI (by decide) (bxr h64)
open Go.RowKit Tryz
set_option maxRecDepth 10000
set_option maxHeartbeats 1600000
theorem kS46:slB prog 46 1=true:=by kernel_rfl
theorem kY46:zlB prog 46=true:=by kernel_rfl
def ZB(x0:Reader):Option (Reader×(List Int)):=
(zC x0 (20:Int)).bind λ v4=>
if(cmpI .eql v4.2 (0:Int))=true then((zC v4.1 (3:Int)).bind λ v11=>
(atI ([([]:List Int),([(0:Int),(0:Int)]:List Int),([(3:Int)]:List Int)]:List (List Int)) v11.2).bind λ v13=>
some (v11.1,v13))
else((Za v4.1).bind λ v18=>
some (v18.1,v18.2))
theorem zc5{x0:Reader}{r:Reader×(List Int)}(h:ZB x0=some r):FnS prog 61 (Ow.box (Ow.frz (α:=Reader))) ⟨x0⟩ [] ⟨r.1⟩ (.frz (dt r.2)):=by
 unfold ZB at h
 refine fnSB (fn:=f61) 0 1 func61 rfl (oD rfl) rfl (λ M G _ b0 _ st0=>?_)
 refine st0.sqB (sc rfl (oA rfl (x8 (α:=Int)))<|.nil) [] [(0,0)] (λ _ _ st1=>wp_seq (wp_seq (wp_region_list ?_)))
 refine st1.segC 1 [3] [(0,0)] (λ _ _ st2=>?_)
 obtain⟨v4,p4,h5⟩:=bs h
 refine st2.cNA 0 0 (zF p4) [] [] (λ _ _ _ _ st3=>?_)
 refine st3.segA 1 [5] [(0,0)] (λ _ _ st6=>wpList_nil (za ?_))
 refine st6.cs rfl h5 (λ _ h7=>wp_seq (wp_region_list ?_)) (λ _ h8=>wp_skip (za (wp_seq (wp_region_list ?_))))
 ·
  refine st6.segB 5 (sc rfl (yq (opds:=[]) (α:=Int) rfl kS26 kY26 rfl rfl (by decide) .nil)<|sc rfl (yq (opds:=[.const (.int .i64 0),.const (.int .i64 0)]) rfl kS26 kY26 rfl rfl (by decide) (.cons cI (.cons cI .nil)))<|sc rfl (yq (opds:=[.const (.int .i64 3)]) rfl kS26 kY26 rfl rfl (by decide) (.cons cI .nil))<|sc rfl (yq (opds:=[.tmp 6,.tmp 7,.tmp 8]) rfl kS46 kY46 rfl rfl (by decide) (.cons (tp rfl) (.cons (tp rfl) (.cons (tp rfl) .nil))))<|segC) [9,10] [(0,0)] (λ _ _ st9=>?_)
  obtain⟨v11,p11,h12⟩:=bs h7
  refine st9.cNA 0 0 (zF p11) [9] [] (λ _ _ _ _ st10=>?_)
  obtain⟨v13,p13,h14⟩:=bs h12
  refine st10.segA 3 [2] [(0,0)] (λ _ _ st15=>wpList_nil (za ?_))
  refine wp_ret (ze ?_)
  exact st15.rsD (s:=0) 0 rfl rfl rfl iI (bxr h14)
 refine st6.segC 1 [14] [(0,0)] (λ _ _ st16=>?_)
 obtain⟨v18,p18,h19⟩:=bs h8
 refine st16.cNA 0 0 (zcK p18) [] [] (λ _ _ _ _ st17=>?_)
 refine st17.segA 1 [2] [(0,0)] (λ _ _ st20=>wpList_nil (za (wp_ret ?_)))
 exact st20.rsD (s:=0) 0 rfl rfl rfl iI (bxr h19)
def wU(x0:List Str)(x1:List Str)(s8:Int):Option (Int⊕(Unit⊕Bool)):=
if(cmpI .lss s8 (x0.length:Int))=true then((atI x0 s8).bind λ v13=>
(atI x1 s8).bind λ v14=>
if(decide (v13≠v14))=true then(some (.inr (.inr false)))
else((i64 (s8+(1:Int))).bind λ v23=>
some (.inl v23)))
else(some (.inr (.inl ())))
def xx(x0:List Str)(x1:List Str):Option Bool:=
if(cmpI .neq (x0.length:Int) (x1.length:Int))=true then(some false)
else(Option.bind (α:=Unit⊕Bool) (zK (λ s8=>wU x0 x1 s8) (0:Int)) (Sum.elim (λ _b6=>
some true) some))
theorem YI{x0:List Str}{x1:List Str}{r:Bool}(h:xx x0 x1=some r):Fn prog 9 [dt x0,dt x1] (dt r):=by
 unfold xx at h
 refine fnx (fn:=f9) 0 func9 rfl (oD rfl) rfl (λ M w0 _ st0=>?_)
 refine st0.sq1 [0,1] (λ _ _ st1=>wp_seq ?_)
 refine st1.sq1 [0,1,10] (λ _ _ st2=>?_)
 refine st2.cs rfl h (λ _ h3=>?_) (λ _ h4=>wp_skip (za ?_))
 ·
  refine st2.sq1 [4] (λ _ _ st5=>wp_ret (ze ?_))
  exact st5.ret rfl rfl h3
 obtain⟨o6,p6,k6⟩:=bs h4
 refine zi (λ a w=>∃ b6,o6=.inl b6/\Sx (Frm.of w0) 26 M M [] [] [] a w) ?_ ?_
 ·
  refine st2.sq1 [0,1,5] (λ _ _ st7=>wp_block ?_)
  refine zG p6 (λ s8 a w=>Sx (Frm.of w0) 26 M M [] [(0,dt x0),(1,dt x1),(5,dt s8)] [] a w) (st7.sel0 [0,1,5] rfl) ?_
  rintro s8 z8 a8 w8 st8 hs8 hx8
  have h9:wU x0 x1 s8=some z8:=hs8
  unfold wU at h9
  refine wp_seq ?_
  refine st8.sq1 [0,1,5,14] (λ _ _ st10=>?_)
  refine st10.cs rfl h9 (λ _ h11=>wp_skip (za (wp_seq (wp_block (wp_seq ?_))))) (λ _ h12=>wp_exit (zh (zh (zy ?_))))
  ·
   obtain⟨v13,p13,v14,p14,h16⟩:=bsB h11
   refine st10.drA (D:=[_,_,_,_,_,_,_,_,_]) zJ [[(0,nS)],[(5,nS)],[(17,0),(18,1)],[(19,2)],[(1,nS)],[(5,nS)],[(21,4),(22,5)],[(23,6)],[(20,3),(24,7)]] [0,1,5,25] [] (λ _ _ st17=>za ?_)
   refine st17.cs rfl h16 (λ _ h18=>?_) (λ _ h19=>wp_skip (zf (za ?_)))
   ·
    refine st17.sq1 [4] (λ _ _ st20=>wp_ret (zt (ze (ze (zt (ze ?_))))))
    have h21:=lo h18 hx8
    have h22:=jo h21 k6
    exact st20.ret rfl rfl h22
   obtain⟨v23,p23,h24⟩:=bs h19
   refine st17.rg1 [0,1,5] (λ _ _ st25=>za ?_)
   exact⟨_,(Option.some.inj h24).symm,st25.sel0 [0,1,5] rfl⟩
  refine za ?_
  have h26:=lo h12 hx8
  exact⟨_,(Option.some.inj h26).symm,st10.sel0 [] rfl⟩
 rintro a6 w6 ⟨b6,rfl,st6⟩
 have h27:=jn k6
 refine st6.sq1 [4] (λ _ _ st28=>wp_ret ?_)
 exact st28.ret rfl rfl h27
end Go.Proofs.YtpmkkijamfgaeaaGreatDoor
