import Derived.Test.YtdoidiipacdbpaaGreatDoorRB
import Derived.Test.YtdoidiipacdbpaaGreatDoorRO
import Derived.Test.YtdoidiipacdbpaaGreatDoorRF
namespace Go.Proofs.YtdoidiipacdbpaaGreatDoor
open Go.RowKit Tryz
attribute [local irreducible] OpRel OpdR
set_option maxRecDepth 10000
set_option maxHeartbeats 1600000
theorem kF159_0:fldB prog 159 0 0=true:=by kernel_rfl
theorem kB159:bldB prog 159 [1,1,1,1,1]=true:=by kernel_rfl
theorem kC159:Yz prog 159 [1,1,1,1,1]=some zaA:=by kernel_rfl
theorem kD159_0:∀ {M:Nat->Prop} {look:Nat->Option Dt} {o:Oper} {q0:Operand} {y0:Int},o.op=.build 159 #[(0,q0)]->OpdR M look q0 (dt y0)->OpRel prog M look o (dt (⟨y0,⟨[]⟩,0,⟨[]⟩,0⟩:Stmt)):=@λ _ _ _ q0 y0 ho h0=>yw (parts:=[(0,q0)]) (ns:=[1,1,1,1,1]) (zs:=zaA) rfl ho kB159 kC159 (λ w a hl=>by
 intro p hp;simp only[List.mem_cons,List.not_mem_nil,or_false] at hp
 rcases hp with rfl
 ·
  exact⟨(by decide:0<5),Rep.len (α:=Int) (OpdR.cells h0 hl)⟩) (λ w a hl=>Stmt.parts (x:=(⟨y0,⟨[]⟩,0,⟨[]⟩,0⟩:Stmt)) (OpdR.cells h0 hl) qn ⟨rfl,trivial⟩ qn ⟨rfl,trivial⟩)
theorem kZ159:wt prog 159=some zcStmt:=by kernel_rfl
theorem kT159:tyB prog 159 true 5=true:=by kernel_rfl
theorem kF159_1:fldB prog 159 1 1=true:=by kernel_rfl
theorem kQ159:QG prog 159=true:=by kernel_rfl
theorem kF159_4:fldB prog 159 4 4=true:=by kernel_rfl
theorem kF159_2:fldB prog 159 2 2=true:=by kernel_rfl
theorem kF159_3:fldB prog 159 3 3=true:=by kernel_rfl
def ZR(x0:Stmt):Option Bool:=
Option.bind (α:=Bool) (if(cmpI .eql x0.kind (0:Int))=true then(some (cmpI .eql x0.kind (0:Int)))
else(some (cmpI .eql x0.kind (2:Int)))) λ o8=>
if o8=true then((gO (decide (x0={ (⟨x0.kind,⟨[]⟩,0,⟨[]⟩,0⟩:Stmt) with module:=x0.module }) == true) (yc x0.module)).bind λ v19=>
some (decide (x0={ (⟨x0.kind,⟨[]⟩,0,⟨[]⟩,0⟩:Stmt) with module:=x0.module })&&v19))
else(if(cmpI .eql x0.kind (1:Int))=true then((gO (cmpI .eql x0.value (0:Int) == true) (yx x0.level (0:Int) (3:Int))).bind λ v25=>
(gO ((cmpI .eql x0.value (0:Int)&&v25) == true) (yY x0.name)).bind λ v26=>
(gO (((cmpI .eql x0.value (0:Int)&&v25)&&v26) == true) (yc x0.module)).bind λ v27=>
some (((cmpI .eql x0.value (0:Int)&&v25)&&v26)&&(v27||(decide (x0.module=(⟨[]⟩:Str))&&cmpI .geq x0.level (1:Int)))))
else(if(cmpI .eql x0.kind (3:Int))=true then((gO (decide (x0={ { (⟨x0.kind,⟨[]⟩,0,⟨[]⟩,0⟩:Stmt) with name:=x0.name } with value:=x0.value }) == true) (yY x0.name)).bind λ v54=>
(gO ((decide (x0={ { (⟨x0.kind,⟨[]⟩,0,⟨[]⟩,0⟩:Stmt) with name:=x0.name } with value:=x0.value })&&v54) == true) (yx x0.value (0:Int) (99:Int))).bind λ v55=>
some ((decide (x0={ { (⟨x0.kind,⟨[]⟩,0,⟨[]⟩,0⟩:Stmt) with name:=x0.name } with value:=x0.value })&&v54)&&v55))
else(if(cmpI .eql x0.kind (4:Int))=true then((gO (decide (x0={ (⟨x0.kind,⟨[]⟩,0,⟨[]⟩,0⟩:Stmt) with name:=x0.name }) == true) (yY x0.name)).bind λ v65=>
some (decide (x0={ (⟨x0.kind,⟨[]⟩,0,⟨[]⟩,0⟩:Stmt) with name:=x0.name })&&v65))
else(if(cmpI .eql x0.kind (5:Int))=true then(some (decide (x0=(⟨x0.kind,⟨[]⟩,0,⟨[]⟩,0⟩:Stmt))))
else(some false)))))
theorem impl_stmtOk_w{x0:Stmt}{r:Bool}(h:ZR x0=some r):Fn prog 159 [dt x0] (dt r):=by
 unfold ZR at h
 refine fnx (fn:=f159) 1 func159 rfl (oD rfl) rfl (λ M w0 _ st0=>?_)
 refine st0.sq1 [1] (λ _ _ st1=>wp_seq (wp_region_list ?_))
 refine st1.segB 3 (sP 2 (r:=by exact sc rfl (kD159_0 rfl (tp rfl))<|.nil)) [1,6] [] (λ _ _ st2=>?_)
 refine st2.alA 0 zrStmt [1,6] [] (λ b4 _ _ _ st4=>?_)
 refine st4.stA 3 0 FldS.id (tp rfl) [1] [] (λ _ _ st6=>wpList_nil (za (wp_seq ?_)))
 refine st6.sqA [1,8] [(3,0)] (λ _ _ st7=>wp_block ?_)
 obtain⟨o8,p8,k8⟩:=bs h
 refine zm (λ a w=>∃ M1 q8_0,Sx (Frm.of w0) 92 M M1 [oneB q8_0] [(1,dptr x0),(8,dt x0.kind),(9,dt o8)] [(3,0,dbox q8_0 0 (⟨x0.kind,⟨[]⟩,0,⟨[]⟩,0⟩:Stmt))] a w) ?_ ?_
 ·
  refine st7.sqA [1,8,9] [(3,0)] (λ _ _ st9=>?_)
  refine st9.cs rfl p8 (λ _ h10=>wp_skip (za ?_)) (λ _ h11=>?_)
  ·
   cases h10
   exact fx
  refine st9.rgA [1,8,9] [(3,0)] (λ _ _ st12=>za ?_)
  cases h11
  exact fx
 rintro a8 w8 ⟨M8,q8_0,st8⟩
 have h13:=k8
 refine st8.cs rfl h13 (λ _ h14=>wp_seq (wp_region_list ?_)) (λ _ h15=>?_)
 ·
  refine st8.segC 3 [1,13] [(3,0),(14,0)] (λ _ _ st16=>?_)
  refine st16.stA 3 0 Stmt.set1 (tp rfl) [1] [] (λ _ _ st18=>wpList_nil (za ?_))
  obtain⟨v19,p19,h20⟩:=bs h14
  refine st18.sq2 (sP 2 (r:=by exact sc rfl (Wb rfl kQ159 (tp rfl) (tp rfl))<|sP 3 (r:=by exact sg rfl rfl (λ hg=>oK (yM (gh hg p19)))<|segC))) [2] (λ _ _ st21=>wp_ret (zt (zd ?_)))
  exact st21.ret rfl rfl h20
 refine st8.sqA [1,8,23] [(3,0)] (λ _ _ st22=>?_)
 refine st22.cs rfl h15 (λ _ h23=>?_) (λ _ h24=>?_)
 ·
  obtain⟨v25,p25,v26,p26,v27,p27,h30⟩:=bsC h23
  refine st22.sq2 (sP 6 (r:=by exact sg rfl rfl (λ hg=>oK (yX (gh hg p25)))<|sP 4 (r:=by exact sg rfl rfl (λ hg=>oK (jq (gh hg p26)))<|sP 4 (r:=by exact sg rfl rfl (λ hg=>oK (yM (gh hg p27)))<|sg rfl rfl (λ hg=>oM rfl (ze hg rfl))<|sgg rfl rfl (λ hg=>zv Stmt.fld1 rfl kF159_1 (tp rfl))<|sgg rfl rfl (λ hg=>zp rfl kT9 (ze hg rfl))<|sgg rfl rfl (λ hg=>Zd rfl (ze hg rfl) (zQ (by decide)))<|sgg rfl rfl (λ hg=>oM rfl (ze hg rfl))<|sgg rfl rfl (λ hg=>zv Stmt.fld2 rfl kF159_2 (tp rfl))<|sgg rfl rfl (λ hg=>zp rfl kT3 (ze hg rfl))<|sgg rfl rfl (λ hg=>oCI rfl (ze hg rfl) cI)<|sgg rfl rfl (λ hg=>yK rfl (ze hg rfl) (zax hg rfl))<|sg rfl rfl (λ hg=>yU rfl (ze hg rfl) (zax hg rfl))<|segC)))) [2] (λ _ _ st31=>wp_ret (zt (zd ?_)))
  exact st31.ret rfl rfl h30
 refine st22.sqA [1,8,53] [(3,0)] (λ _ _ st32=>?_)
 refine st32.cs rfl h24 (λ _ h33=>wp_seq ?_) (λ _ h34=>?_)
 ·
  refine st32.opn (s:=1) rfl (λ b35 o35 c35 st35=>?_)
  refine st35.held (λ w=>CellsAt w b35 o35 c35) zD (λ _ st36=>?_)
  refine st36.tA 0 1 (λ _ st37=>?_) (ht:=kF159_3)
  refine st37.tF 1 1 55 Stmt.fld3 (λ _ st38=>?_)
  refine st38.tA 2 1 (λ _ st39=>?_) (ht:=kF159_4)
  refine st39.tF 3 1 57 Stmt.fld4 (λ _ st40=>aK1 4 ?_)
  refine st40.segC 1 [1,56,58] [(3,0),(59,0)] (λ _ _ st47=>?_)
  refine aHN (st47.pkZ 1) ?_
  refine aK1 5 ?_
  refine st47.stA 3 0 Stmt.set3 (tp rfl) [1,58] [] (λ _ _ st49=>?_)
  refine aHN (st49.pkZ 1) ?_
  refine aK1 6 ?_
  refine st49.segC 1 [1,58] [(3,0),(60,0)] (λ _ _ st50=>?_)
  refine aHN (st50.pkZ 1) ?_
  refine aK1 7 ?_
  refine st50.stA 3 0 Stmt.set4 (tp rfl) [1] [] (λ _ _ st52=>?_)
  refine aHN (st52.pkZ 1) ?_
  refine aK0 ?_
  have st53:=st52.clo (s:=1) rfl
  refine za ?_
  obtain⟨v54,p54,v55,p55,h57⟩:=bsB h33
  refine st53.sq2 (sP 2 (r:=by exact sc rfl (Wb rfl kQ159 (tp rfl) (tp rfl))<|sP 3 (r:=by exact sg rfl rfl (λ hg=>oK (jq (gh hg p54)))<|sP 4 (r:=by exact sg rfl rfl (λ hg=>oK (yX (gh hg p55)))<|segC)))) [2] (λ _ _ st58=>wp_ret (zt (zd ?_)))
  exact st58.ret rfl rfl h57
 refine st32.sqA [1,8,74] [(3,0)] (λ _ _ st59=>?_)
 refine st59.cs rfl h34 (λ _ h60=>wp_seq (wp_region_list ?_)) (λ _ h61=>?_)
 ·
  refine st59.segC 3 [1,77] [(3,0),(78,0)] (λ _ _ st62=>?_)
  refine st62.stA 3 0 Stmt.set3 (tp rfl) [1] [] (λ _ _ st64=>wpList_nil (za ?_))
  obtain⟨v65,p65,h66⟩:=bs h60
  refine st64.sq2 (sP 2 (r:=by exact sc rfl (Wb rfl kQ159 (tp rfl) (tp rfl))<|sP 3 (r:=by exact sg rfl rfl (λ hg=>oK (jq (gh hg p65)))<|segC))) [2] (λ _ _ st67=>wp_ret (zt (zd ?_)))
  exact st67.ret rfl rfl h66
 refine st59.sqA [1,87] [(3,0)] (λ _ _ st68=>?_)
 refine st68.cs rfl h61 (λ _ h69=>?_) (λ _ h70=>wp_skip (zg (za ?_)))
 ·
  refine st68.sq2 (sP 2 (r:=by exact sc rfl (Wb rfl kQ159 (tp rfl) (tp rfl))<|segC)) [2] (λ _ _ st71=>wp_ret (zt (zd ?_)))
  exact st71.ret rfl rfl h69
 refine st68.sq1 [2] (λ _ _ st72=>wp_ret ?_)
 exact st72.ret rfl rfl h70
open Go.RowKit Tryz
set_option maxRecDepth 10000
theorem kS70:slB prog 70 5=true:=by kernel_rfl
theorem kF72_4:fldB prog 72 4 4=true:=by kernel_rfl
theorem Yi:fldB prog 43 0 0=true:=by kernel_rfl
theorem kT41:tyB prog 41 false 1=true:=by kernel_rfl
theorem kL41:isSl prog 41=true:=by kernel_rfl
theorem kS41:slB prog 41 6=true:=by kernel_rfl
theorem kT72:tyB prog 72 true 6=true:=by kernel_rfl
theorem kZ72:wt prog 72=some zcFile:=by kernel_rfl
theorem kZ37:wt prog 37=some zcSpec:=by kernel_rfl
theorem kY30:zlB prog 30=true:=by kernel_rfl
theorem kB37:bldB prog 37 [1,1,1]=true:=by kernel_rfl
theorem kC37:Yz prog 37 [1,1,1]=some Jd:=by kernel_rfl
theorem kT37:tyB prog 37 true 3=true:=by kernel_rfl
theorem kN56:fnB prog 56=true:=by kernel_rfl
theorem kU116:isFn prog 116=true:=by kernel_rfl
theorem kT43:tyB prog 43 true 1=true:=by kernel_rfl
theorem kB72:bldB prog 72 [1,1,1,1,1,1]=true:=by kernel_rfl
theorem kC72:Yz prog 72 [1,1,1,1,1,1]=some zaB:=by kernel_rfl
theorem kE30:elB prog 30 3 1 8=true:=by kernel_rfl
theorem kF37_0:fldB prog 37 0 0=true:=by kernel_rfl
theorem kF37_2:fldB prog 37 2 2=true:=by kernel_rfl
theorem kT30:tyB prog 30 false 1=true:=by kernel_rfl
theorem kN104:fnB prog 104=true:=by kernel_rfl
theorem kN30:fnB prog 30=true:=by kernel_rfl
theorem kN58:fnB prog 58=true:=by kernel_rfl
def wa(x0:List Stmt)(s4:Int):Option (Int⊕(Unit⊕Bool)):=
if(cmpI .lss s4 (x0.length:Int))=true then((atI x0 s4).bind λ v9=>
(ZR v9).bind λ v14=>
if(!v14)=true then(some (.inr (.inr false)))
else((i64 (s4+(1:Int))).bind λ v22=>
some (.inl v22)))
else(some (.inr (.inl ())))
def qv(x0:List Stmt):Option Bool:=
Option.bind (α:=Unit⊕Bool) (zS (λ s4=>wa x0 s4) (0:Int)) (Sum.elim (λ _b2=>
some (cmpI .leq (x0.length:Int) (8:Int))) some)
theorem zaJ{x0:List Stmt}{r:Bool}(h:qv x0=some r):Fn prog 124 [dt x0] (dt r):=by
 unfold qv at h
 refine fnx (fn:=f124) 1 func124 rfl (oD rfl) rfl (λ M w0 _ st0=>?_)
 refine st0.sq1 [0] (λ _ _ st1=>?_)
 obtain⟨o2,p2,k2⟩:=bs h
 refine zm (λ a w=>∃ b2,o2=.inl b2/\(∃ M1 q2_0,Sx (Frm.of w0) 18 M M1 [oneB q2_0] [(0,dt x0)] [] a w)) ?_ ?_
 ·
  refine st1.sq1 [0,5,6,7] (λ _ _ st3=>wp_block ?_)
  refine zL p2 (λ s4 a w=>∃ M1 q4_0,Sx (Frm.of w0) 18 M M1 [oneB q4_0] [(0,dt x0),(5,dt x0),(6,dt (x0.length:Int)),(7,dt s4)] [] a w) fx ?_
  rintro s4 x4 a4 w4 ⟨M4,q4_0,st4⟩ hs4 hx4
  have h5:wa x0 s4=some x4:=hs4
  unfold wa at h5
  refine st4.sq1 [0,5,6,7,8] (λ _ _ st6=>wp_seq ?_)
  refine st6.cs rfl h5 (λ _ h7=>wp_skip (za (wp_seq (wp_block (wp_seq (wp_region_list ?_)))))) (λ _ h8=>wp_exit (zh (zh (zE ?_))))
  ·
   obtain⟨v9,p9,h10⟩:=bs h7
   refine st6.segA 2 [0,5,6,7,10] [] (λ _ _ st11=>?_)
   refine st11.alloc 0 rfl rfl kZ159 zrStmt (by simp) [0,5,6,7,10] rfl [] rfl rfl (λ b12 _ _ _ st12=>?_)
   refine st12.store (sb:=4) 0 FldS.id rfl rfl rfl kT159 rfl rfl (tp rfl) rfl [0,5,6,7] rfl [] rfl rfl (λ _ _ st13=>wpList_nil (za ?_))
   obtain⟨v14,p14,h15⟩:=bs h10
   refine st13.sq2 (sc rfl (zf rfl kT159 (tp rfl))<|sc rfl (oK (impl_stmtOk_w p14))<|segA) [0,5,6,7,13] (λ _ _ st16=>?_)
   refine st16.cs rfl h15 (λ _ h17=>?_) (λ _ h18=>wp_skip (zg (za ?_)))
   ·
    refine st16.sq1 [2] (λ _ _ st19=>wp_ret (zt (zd (zd (zt (zd ?_))))))
    have h20:=lo h17 hx4
    have h21:=jo h20 k2
    exact st19.ret rfl rfl h21
   obtain⟨v22,p22,h23⟩:=bs h18
   refine st16.rg1 [0,5,6,7] (λ _ _ st24=>za ?_)
   exact fl h23
  refine za ?_
  have h25:=lo h8 hx4
  exact fl h25
 rintro a2 w2 ⟨b2,rfl,⟨M2,q2_0,st2⟩⟩
 have h26:=jn k2
 refine st2.sq1 [2] (λ _ _ st27=>wp_ret ?_)
 exact st27.ret rfl rfl h26
def q8(x0:File):Option Bool:=
(yx x0.root (0:Int) (2:Int)).bind λ v2=>
(gO ((!v2) == false) (yZ x0.pkg)).bind λ v3=>
(gO (((!v2)||(!v3)) == false) (yx x0.stamp (0:Int) (99:Int))).bind λ v4=>
(gO ((((!v2)||(!v3))||(!v4)) == false) (qv x0.body)).bind λ v5=>
if((((!v2)||(!v3))||(!v4))||(!v5))=true then(some false)
else(if x0.init=true then(some (decide (x0.pkg≠(⟨[]⟩:Str))&&decide (x0.name=(⟨[]⟩:Str))))
else((yY x0.name).bind λ v18=>
(gO (v18 == true) (xB x0.pkg x0.name)).bind λ v19=>
some (v18&&decide (v19≠(⟨[]⟩:Str)))))
theorem JZ{x0:File}{r:Bool}(h:q8 x0=some r):Fn prog 82 [dt x0] (dt r):=by
 unfold q8 at h
 refine fnx (fn:=f82) 0 func82 rfl (oD rfl) rfl (λ M _ _ st0=>?_)
 refine st0.sq1 [1] (λ _ _ st1=>wp_seq ?_)
 obtain⟨v2,p2,v3,p3,v4,p4,v5,p5,h9⟩:=bsD h
 refine st1.sq2 (sp 2 (r:=by exact sc rfl (oK (yX p2))<|sp 4 (r:=by exact sg rfl rfl (λ hg=>oK (jr (gh hg p3)))<|sp 5 (r:=by exact sg rfl rfl (λ hg=>oK (yX (gh hg p4)))<|sp 5 (r:=by exact sg rfl rfl (λ hg=>oK (zaJ (gh hg p5)))<|segA))))) [1,24] (λ _ _ st10=>?_)
 refine st10.cs rfl h9 (λ _ h11=>?_) (λ _ h12=>wp_skip (za (wp_seq ?_)))
 ·
  refine st10.sq1 [2] (λ _ _ st13=>wp_ret (zd ?_))
  exact st13.ret rfl rfl h11
 refine st10.sq1 [1,26] (λ _ _ st14=>?_)
 refine st14.cs rfl h12 (λ _ h15=>?_) (λ _ h16=>wp_skip (za ?_))
 ·
  refine st14.sq1 [2] (λ _ _ st17=>wp_ret (zd ?_))
  exact st17.ret rfl rfl h15
 obtain⟨v18,p18,v19,p19,h21⟩:=bsB h16
 refine st14.sq2 (sp 2 (r:=by exact sc rfl (oK (jq p18))<|sp 5 (r:=by exact sg rfl rfl (λ hg=>oK (qt (gh hg p19)))<|segA))) [2] (λ _ _ st22=>wp_ret ?_)
 exact st22.ret rfl rfl h21
def wc(v10:File)(v25:List File)(s28:Int):Option (Int⊕(Unit⊕(Int⊕(Unit⊕Bool)))):=
if(cmpI .lss s28 (v25.length:Int))=true then((atI v25 s28).bind λ v33=>
(qo v10 v33).bind λ v38=>
if v38=true then(some (.inr (.inr (.inr (.inr false)))))
else((i64 (s28+(1:Int))).bind λ v48=>
some (.inl v48)))
else(some (.inr (.inl ())))
def wd(x0:Tree)(s4:Int):Option (Int⊕(Unit⊕Bool)):=
if(cmpI .lss s4 (x0.files.length:Int))=true then(Option.bind (α:=Unit⊕(Int⊕(Unit⊕Bool))) ((atI x0.files s4).bind λ v10=>
(q8 v10).bind λ v16=>
if(!v16)=true then(some (.inr (.inr (.inr false))))
else((ZQ x0.files s4).bind λ v25=>
zS (λ s28=>wc v10 v25 s28) (0:Int))) (Sum.elim (λ _b9=>
(i64 (s4+(1:Int))).bind λ v53=>
some (.inl v53)) some))
else(some (.inr (.inl ())))
def wy(x0:Tree):Option Bool:=
Option.bind (α:=Unit⊕Bool) (zS (λ s4=>wd x0 s4) (0:Int)) (Sum.elim (λ _b2=>
some (cmpI .leq (x0.files.length:Int) (12:Int))) some)
theorem YE{x0:Tree}{r:Bool}(h:wy x0=some r):Fn prog 75 [dt x0] (dt r):=by
 unfold wy at h
 refine fnx (fn:=f75) 2 func75 rfl (oD rfl) rfl (λ M w0 _ st0=>?_)
 refine st0.sq1 [1] (λ _ _ st1=>?_)
 obtain⟨o2,p2,k2⟩:=bs h
 refine zm (λ a w=>∃ b2,o2=.inl b2/\(∃ M1 q2_0 q2_1,Sx (Frm.of w0) 36 M M1 [oneB q2_0,oneB q2_1] [(1,dptr x0)] [] a w)) ?_ ?_
 ·
  refine st1.sq1 [1,8,9,10] (λ _ _ st3=>wp_block ?_)
  refine zL p2 (λ s4 a w=>∃ M1 q4_0 q4_1,Sx (Frm.of w0) 36 M M1 [oneB q4_0,oneB q4_1] [(1,dptr x0),(8,dt x0.files),(9,dt (x0.files.length:Int)),(10,dt s4)] [] a w) fx ?_
  rintro s4 x4 a4 w4 ⟨M4,q4_0,q4_1,st4⟩ hs4 hx4
  have h5:wd x0 s4=some x4:=hs4
  unfold wd at h5
  refine st4.sq1 [1,8,9,10,11] (λ _ _ st6=>wp_seq ?_)
  refine st6.cs rfl h5 (λ _ h7=>wp_skip (za ?_)) (λ _ h8=>wp_exit (zh (zh (zE ?_))))
  ·
   obtain⟨o9,p9,k9⟩:=bs h7
   refine zm (λ a w=>∃ b9,o9=.inl b9/\(∃ M1 q9_0 q9_1,Sx (Frm.of w0) 36 M M1 [oneB q9_0,oneB q9_1] [(1,dptr x0),(8,dt x0.files),(9,dt (x0.files.length:Int)),(10,dt s4)] [] a w)) ?_ ?_
   ·
    refine wp_block (wp_seq (wp_region_list ?_))
    obtain⟨v10,p10,h11⟩:=bs p9
    refine st6.segA 3 [1,8,9,10,12,14] [] (λ _ _ st12=>?_)
    refine st12.alloc 0 rfl rfl kZ72 Qj (by simp) [1,8,9,10,12,14] rfl [] rfl rfl (λ b13 _ _ _ st13=>?_)
    refine st13.segA 1 [1,3,8,9,10,14] [(4,0)] (λ _ _ st14=>?_)
    refine st14.store (sb:=4) 0 FldS.id rfl rfl rfl kT72 rfl rfl (tp rfl) rfl [1,3,8,9,10] rfl [] rfl rfl (λ _ _ st15=>wpList_nil (za (wp_seq ?_)))
    obtain⟨v16,p16,h17⟩:=bs h11
    refine st15.sqB (sc rfl (zf rfl kT72 (tp rfl))<|sc rfl (oK (JZ p16))<|segA) [1,3,8,9,10,17] [(4,0)] (λ _ _ st18=>?_)
    refine st18.cs rfl h17 (λ _ h19=>?_) (λ _ h20=>wp_skip (za ?_))
    ·
     refine st18.sq1 [2] (λ _ _ st21=>wp_ret (zd (zt (zd (zd (zt (zd ?_)))))))
     have h22:=jo h19 k9
     have h23:=lo h22 hx4
     have h24:=jo h23 k2
     exact st21.ret rfl rfl h24
    obtain⟨v25,p25,h26⟩:=bs h20
    refine st18.sqB (sp 3 (r:=by exact sc rfl (xSliH rfl kS41 (tp rfl) (tp rfl) p25)<|segA)) [1,8,9,10,21,22,23] [(4,0)] (λ _ _ st27=>wp_block ?_)
    refine zL h26 (λ s28 a w=>∃ M1 q28_0 q28_1,Sx (Frm.of w0) 36 M M1 [oneB q28_0,oneB q28_1] [(1,dptr x0),(8,dt x0.files),(9,dt (x0.files.length:Int)),(10,dt s4),(21,dt v25),(22,dt (v25.length:Int)),(23,dt s28)] [(4,0,dbox q28_0 0 v10)] a w) fx ?_
    rintro s28 x28 a28 w28 ⟨M28,q28_0,q28_1,st28⟩ hs28 hx28
    have h29:wc v10 v25 s28=some x28:=hs28
    unfold wc at h29
    refine st28.sqA [1,8,9,10,21,22,23,24] [(4,0)] (λ _ _ st30=>wp_seq ?_)
    refine st30.cs rfl h29 (λ _ h31=>wp_skip (za (wp_seq (wp_block (wp_seq (wp_region_list ?_)))))) (λ _ h32=>wp_exit (zh (zh (zE ?_))))
    ·
     obtain⟨v33,p33,h34⟩:=bs h31
     refine st30.segA 2 [1,8,9,10,21,22,23,26] [(4,0)] (λ _ _ st35=>?_)
     refine st35.alloc 1 rfl rfl kZ72 Qj (by simp) [1,8,9,10,21,22,23,26] rfl [4] rfl rfl (λ b36 _ _ _ st36=>?_)
     refine st36.store (sb:=6) 1 FldS.id rfl rfl rfl kT72 rfl rfl (tp rfl) rfl [1,8,9,10,21,22,23] rfl [4] rfl rfl (λ _ _ st37=>wpList_nil (za ?_))
     obtain⟨v38,p38,h39⟩:=bs h34
     refine st37.sqB (sc rfl (zf rfl kT72 (tp rfl))<|sc rfl (zf rfl kT72 (tp rfl))<|sc rfl (oK (Wf p38))<|.nil) [1,8,9,10,21,22,23,29] [(4,0)] (λ _ _ st40=>?_)
     refine st40.cs rfl h39 (λ _ h41=>?_) (λ _ h42=>wp_skip (zg (za ?_)))
     ·
      refine st40.sq1 [2] (λ _ _ st43=>wp_ret (zt (zd (zd (zt (zt (zd (zd (zt (zd ?_))))))))))
      have h44:=lo h41 hx28
      have h45:=jo h44 k9
      have h46:=lo h45 hx4
      have h47:=jo h46 k2
      exact st43.ret rfl rfl h47
     obtain⟨v48,p48,h49⟩:=bs h42
     refine st40.rgA [1,8,9,10,21,22,23] [(4,0)] (λ _ _ st50=>za ?_)
     exact fl h49
    refine zg (za ?_)
    have h51:=lo h32 hx28
    exact fl h51
   rintro a9 w9 ⟨b9,rfl,⟨M9,q9_0,q9_1,st9⟩⟩
   have h52:=jn k9
   obtain⟨v53,p53,h54⟩:=bs h52
   refine st9.rg1 [1,8,9,10] (λ _ _ st55=>za ?_)
   exact fl h54
  refine za ?_
  have h56:=lo h8 hx4
  exact fl h56
 rintro a2 w2 ⟨b2,rfl,⟨M2,q2_0,q2_1,st2⟩⟩
 have h57:=jn k2
 refine st2.sq1 [2] (λ _ _ st58=>wp_ret ?_)
 exact st58.ret rfl rfl h57
def qV(x0:File):Option Str:=
(q8 x0).bind λ v2=>
if(!v2)=true then(some (⟨[]⟩:Str))
else(if x0.init=true then(some x0.pkg)
else((xB x0.pkg x0.name).bind λ v12=>
some v12))
theorem zbo{x0:File}{r:Str}(h:qV x0=some r):Fn prog 36 [dt x0] (dt r):=by
 unfold qV at h
 refine fnx (fn:=f36) 0 func36 rfl (oD rfl) rfl (λ M _ _ st0=>?_)
 refine st0.sq1 [1] (λ _ _ st1=>wp_seq (wp_block ?_))
 obtain⟨v2,p2,h3⟩:=bsW h JZ
 refine st1.sq1 [1,3] (λ _ _ st4=>?_)
 refine st4.cs rfl h3 (λ _ h5=>?_) (λ _ h6=>?_)
 ·
  refine st4.sq1 [2] (λ _ _ st7=>wp_ret (zt (zd ?_)))
  exact st7.ret rfl rfl h5
 refine st4.sq1 [1,7] (λ _ _ st8=>?_)
 refine st8.cs rfl h6 (λ _ h9=>?_) (λ _ h10=>wp_skip (zg (za ?_)))
 ·
  refine st8.sq1 [2] (λ _ _ st11=>wp_ret (zt (zd ?_)))
  exact st11.ret rfl rfl h9
 obtain⟨v12,p12,h13⟩:=bsW h10 qt
 refine st8.sq1 [2] (λ _ _ st14=>wp_ret ?_)
 exact st14.ret rfl rfl h13
def js(x0:Tree)(x1:Int)(x2:Str)(s4:Int):Option (Int⊕(Unit⊕Bool)):=
if(cmpI .lss s4 (x0.files.length:Int))=true then((atI x0.files s4).bind λ v9=>
(gO (cmpI .eql v9.root x1 == true) (qu v9.pkg x2)).bind λ v14=>
if(cmpI .eql v9.root x1&&v14)=true then(some (.inr (.inr true)))
else((i64 (s4+(1:Int))).bind λ v22=>
some (.inl v22)))
else(some (.inr (.inl ())))
def q9(x0:Tree)(x1:Int)(x2:Str):Option Bool:=
Option.bind (α:=Unit⊕Bool) (zS (λ s4=>js x0 x1 x2 s4) (0:Int)) (Sum.elim (λ _b2=>
some (decide (x2=(⟨[]⟩:Str)))) some)
theorem J0{x0:Tree}{x1:Int}{x2:Str}{r:Bool}(h:q9 x0 x1 x2=some r):Fn prog 141 [dt x0,dt x1,dt x2] (dt r):=by
 unfold q9 at h
 refine fnx (fn:=f141) 1 func141 rfl (oD rfl) rfl (λ M w0 _ st0=>?_)
 refine st0.sq1 [1,2,3] (λ _ _ st1=>?_)
 obtain⟨o2,p2,k2⟩:=bs h
 refine zm (λ a w=>∃ b2,o2=.inl b2/\(∃ M1 q2_0,Sx (Frm.of w0) 29 M M1 [oneB q2_0] [(2,dt x2)] [] a w)) ?_ ?_
 ·
  refine st1.sq1 [1,2,10,11,12] (λ _ _ st3=>wp_block ?_)
  refine zL p2 (λ s4 a w=>∃ M1 q4_0,Sx (Frm.of w0) 29 M M1 [oneB q4_0] [(1,dt x1),(2,dt x2),(10,dt x0.files),(11,dt (x0.files.length:Int)),(12,dt s4)] [] a w) fx ?_
  rintro s4 x4 a4 w4 ⟨M4,q4_0,st4⟩ hs4 hx4
  have h5:js x0 x1 x2 s4=some x4:=hs4
  unfold js at h5
  refine st4.sq1 [1,2,10,11,12,13] (λ _ _ st6=>wp_seq ?_)
  refine st6.cs rfl h5 (λ _ h7=>wp_skip (za (wp_seq (wp_block (wp_seq (wp_region_list ?_)))))) (λ _ h8=>wp_exit (zh (zh (zE ?_))))
  ·
   obtain⟨v9,p9,h10⟩:=bs h7
   refine st6.segA 2 [1,2,10,11,12,15] [] (λ _ _ st11=>?_)
   refine st11.alloc 0 rfl rfl kZ72 Qj (by simp) [1,2,10,11,12,15] rfl [] rfl rfl (λ b12 _ _ _ st12=>?_)
   refine st12.store (sb:=8) 0 FldS.id rfl rfl rfl kT72 rfl rfl (tp rfl) rfl [1,2,10,11,12] rfl [] rfl rfl (λ _ _ st13=>wpList_nil (za ?_))
   obtain⟨v14,p14,h15⟩:=bs h10
   refine st13.sq2 (sc rfl (zB File.fld0 rfl kF72_0 (tp rfl))<|sc rfl (zf rfl kT3 (tp rfl))<|sp 3 (r:=by exact sg rfl rfl (λ hg=>zB File.fld1 rfl Jf (tp rfl))<|sg rfl rfl (λ hg=>zf rfl kT9 (ze hg rfl))<|sp 1 (r:=by exact sg rfl rfl (λ hg=>oK (Ji (gh hg p14)))<|segA))) [1,2,10,11,12,25] (λ _ _ st16=>?_)
   refine st16.cs rfl h15 (λ _ h17=>?_) (λ _ h18=>wp_skip (zg (za ?_)))
   ·
    refine st16.sq1 [6] (λ _ _ st19=>wp_ret (zt (zd (zd (zt (zd ?_))))))
    have h20:=lo h17 hx4
    have h21:=jo h20 k2
    exact st19.ret rfl rfl h21
   obtain⟨v22,p22,h23⟩:=bs h18
   refine st16.rg1 [1,2,10,11,12] (λ _ _ st24=>za ?_)
   exact fl h23
  refine za ?_
  have h25:=lo h8 hx4
  exact fl h25
 rintro a2 w2 ⟨b2,rfl,⟨M2,q2_0,st2⟩⟩
 have h26:=jn k2
 refine st2.sq1 [6] (λ _ _ st27=>wp_ret ?_)
 exact st27.ret rfl rfl h26
def xi:Option Spec:=
some (⟨(0:Int),(-1:Int),([]:List Int)⟩:Spec)
theorem jC{r:Spec}(h:xi=some r):Fn prog 56 [] (dt r):=by
 unfold xi at h
 refine fnx (fn:=f56) 1 func56 rfl (oD rfl) rfl (λ M _ _ st0=>wp_seq (wp_region_list ?_))
 refine st0.alloc 0 rfl rfl kZ37 yz (by simp) [] rfl [] rfl rfl (λ b1 _ _ _ st1=>wpList_nil (za (wp_seq (wp_region_list ?_))))
 refine st1.segB 2 (sc rfl (yG (opds:=[]) (α:=Int) rfl kS30 kY30 rfl rfl (by decide) .nil)<|sc rfl (yw (parts:=[(0,.const (.int .i64 0)),(1,.const (.int .i64 (-1))),(2,.tmp 1)]) (ns:=[1,1,1]) (zs:=Jd) rfl rfl kB37 kC37 (λ w a hl=>by
 intro p hp;simp only[List.mem_cons,List.not_mem_nil,or_false] at hp
 rcases hp with rfl | rfl | rfl
 ·
  exact⟨by decide,rfl⟩
 ·
  exact⟨by decide,rfl⟩
 ·
  exact⟨by decide,Rep.len (α:=List Int) (OpdR.cells (tp rfl) hl)⟩) (λ w a hl=>Spec.parts (x:=(⟨(0:Int),(-1:Int),([]:List Int)⟩:Spec)) (OpdR.cells cI hl) (OpdR.cells cI hl) (OpdR.cells (tp rfl) hl)))<|.nil) [2] [(0,0)] (λ _ _ st2=>?_)
 refine st2.store (sb:=0) 0 FldS.id rfl rfl rfl kT37 rfl rfl (tp rfl) rfl [] rfl [] rfl rfl (λ _ _ st3=>wpList_nil (za (wp_ret ?_)))
 exact st3.ret_box rfl kT37 rfl h
def we(x0:List Int)(s4:Int):Option (Int⊕(Unit⊕Bool)):=
if(cmpI .lss s4 (x0.length:Int))=true then((atI x0 s4).bind λ v9=>
(yx v9 (0:Int) (2:Int)).bind λ v12=>
(gO ((!v12) == false) (ZQ x0 s4)).bind λ v13=>
(gO ((!v12) == false) (xt v13 v9)).bind λ v14=>
if((!v12)||v14)=true then(some (.inr (.inr false)))
else((i64 (s4+(1:Int))).bind λ v24=>
some (.inl v24)))
else(some (.inr (.inl ())))
def y6(x0:List Int):Option Bool:=
Option.bind (α:=Unit⊕Bool) (zS (λ s4=>we x0 s4) (0:Int)) (Sum.elim (λ _b2=>
some true) some)
theorem qw{x0:List Int}{r:Bool}(h:y6 x0=some r):Fn prog 30 [dt x0] (dt r):=by
 unfold y6 at h
 refine fnx (fn:=f30) 0 func30 rfl (oD rfl) rfl (λ M w0 _ st0=>?_)
 refine st0.sq1 [0] (λ _ _ st1=>?_)
 obtain⟨o2,p2,k2⟩:=bs h
 refine zm (λ a w=>∃ b2,o2=.inl b2/\Sx (Frm.of w0) 23 M M [] [] [] a w) ?_ ?_
 ·
  refine st1.sq1 [0,5,6,7] (λ _ _ st3=>wp_block ?_)
  refine zL p2 (λ s4 a w=>Sx (Frm.of w0) 23 M M [] [(0,dt x0),(5,dt x0),(6,dt (x0.length:Int)),(7,dt s4)] [] a w) (st3.sel0 [0,5,6,7] rfl) ?_
  rintro s4 x4 a4 w4 st4 hs4 hx4
  have h5:we x0 s4=some x4:=hs4
  unfold we at h5
  refine st4.sq1 [0,5,6,7,8] (λ _ _ st6=>wp_seq ?_)
  refine st6.cs rfl h5 (λ _ h7=>wp_skip (za (wp_seq (wp_block ?_)))) (λ _ h8=>wp_exit (zh (zh (zE ?_))))
  ·
   obtain⟨v9,p9,h10⟩:=bs h7
   refine st6.sq1 [0,3,4,5,6,7] (λ _ _ st11=>?_)
   obtain⟨v12,p12,v13,p13,v14,p14,h17⟩:=bsC h10
   refine st11.sq2 (sp 1 (r:=by exact sc rfl (oK (yX p12))<|sp 4 (r:=by exact sg rfl rfl (λ hg=>xSliH rfl kS30 (ze hg rfl) (ze hg rfl) (gh hg p13))<|sp 1 (r:=by exact sg rfl rfl (λ hg=>oK (XG (gh hg p14)))<|segA)))) [0,5,6,7,21] (λ _ _ st18=>?_)
   refine st18.cs rfl h17 (λ _ h19=>?_) (λ _ h20=>wp_skip (zg (za ?_)))
   ·
    refine st18.sq1 [2] (λ _ _ st21=>wp_ret (zt (zd (zd (zt (zd ?_))))))
    have h22:=lo h19 hx4
    have h23:=jo h22 k2
    exact st21.ret rfl rfl h23
   obtain⟨v24,p24,h25⟩:=bs h20
   refine st18.rg1 [0,5,6,7] (λ _ _ st26=>za ?_)
   exact⟨_,(Option.some.inj h25).symm,st26.sel0 [0,5,6,7] rfl⟩
  refine za ?_
  have h27:=lo h8 hx4
  exact⟨_,(Option.some.inj h27).symm,st6.sel0 [] rfl⟩
 rintro a2 w2 ⟨b2,rfl,st2⟩
 have h28:=jn k2
 refine st2.sq1 [2] (λ _ _ st29=>wp_ret ?_)
 exact st29.ret rfl rfl h28
def jt(x0:Tree)(x1:File)(s4:Int):Option (Int⊕(Unit⊕Int)):=
if(cmpI .lss s4 (x0.files.length:Int))=true then((atI x0.files s4).bind λ v9=>
(qo x1 v9).bind λ v15=>
if v15=true then(some (.inr (.inr s4)))
else((i64 (s4+(1:Int))).bind λ v23=>
some (.inl v23)))
else(some (.inr (.inl ())))
def jp(x0:Tree)(x1:File):Option Int:=
Option.bind (α:=Unit⊕Int) (zS (λ s4=>jt x0 x1 s4) (0:Int)) (Sum.elim (λ _b2=>
some (-1:Int)) some)
theorem YT{x0:Tree}{x1:File}{r:Int}(h:jp x0 x1=some r):Fn prog 140 [dt x0,dt x1] (dt r):=by
 unfold jp at h
 refine fnx (fn:=f140) 1 func140 rfl (oD rfl) rfl (λ M w0 _ st0=>?_)
 refine st0.sq1 [2,3] (λ _ _ st1=>?_)
 obtain⟨o2,p2,k2⟩:=bs h
 refine zm (λ a w=>∃ b2,o2=.inl b2/\(∃ M1 q2_0,Sx (Frm.of w0) 20 M M1 [oneB q2_0] [] [] a w)) ?_ ?_
 ·
  refine st1.sq1 [3,8,9,10] (λ _ _ st3=>wp_block ?_)
  refine zL p2 (λ s4 a w=>∃ M1 q4_0,Sx (Frm.of w0) 20 M M1 [oneB q4_0] [(3,dptr x1),(8,dt x0.files),(9,dt (x0.files.length:Int)),(10,dt s4)] [] a w) fx ?_
  rintro s4 x4 a4 w4 ⟨M4,q4_0,st4⟩ hs4 hx4
  have h5:jt x0 x1 s4=some x4:=hs4
  unfold jt at h5
  refine st4.sq1 [3,8,9,10,11] (λ _ _ st6=>wp_seq ?_)
  refine st6.cs rfl h5 (λ _ h7=>wp_skip (za (wp_seq (wp_block (wp_seq (wp_region_list ?_)))))) (λ _ h8=>wp_exit (zh (zh (zE ?_))))
  ·
   obtain⟨v9,p9,h10⟩:=bs h7
   refine st6.segA 3 [3,8,9,10,12,14] [] (λ _ _ st11=>?_)
   refine st11.alloc 0 rfl rfl kZ72 Qj (by simp) [3,8,9,10,12,14] rfl [] rfl rfl (λ b12 _ _ _ st12=>?_)
   refine st12.segA 1 [3,5,8,9,10,14] [(6,0)] (λ _ _ st13=>?_)
   refine st13.store (sb:=6) 0 FldS.id rfl rfl rfl kT72 rfl rfl (tp rfl) rfl [3,5,8,9,10] rfl [] rfl rfl (λ _ _ st14=>wpList_nil (za ?_))
   obtain⟨v15,p15,h16⟩:=bs h10
   refine st14.sq2 (sp 1 (r:=by exact sc rfl (zf rfl kT72 (tp rfl))<|sc rfl (oK (Wf p15))<|.nil)) [3,5,8,9,10,17] (λ _ _ st17=>?_)
   refine st17.cs rfl h16 (λ _ h18=>?_) (λ _ h19=>wp_skip (zg (za ?_)))
   ·
    refine st17.sq1 [4] (λ _ _ st20=>wp_ret (zt (zd (zd (zt (zd ?_))))))
    have h21:=lo h18 hx4
    have h22:=jo h21 k2
    exact st20.ret rfl rfl h22
   obtain⟨v23,p23,h24⟩:=bs h19
   refine st17.rg1 [3,8,9,10] (λ _ _ st25=>za ?_)
   exact fl h24
  refine za ?_
  have h26:=lo h8 hx4
  exact fl h26
 rintro a2 w2 ⟨b2,rfl,⟨M2,q2_0,st2⟩⟩
 have h27:=jn k2
 refine st2.sq1 [4] (λ _ _ st28=>wp_ret ?_)
 exact st28.ret rfl rfl h27
def jD(x0:Tree)(x1:List Int)(x2:Str)(x3:Str)(v3:Str)(s16:Spec×(List Int)×Int):Option ((Spec×(List Int)×Int)⊕((Spec×(List Int))⊕Spec)):=
if(cmpI .lss s16.2.2 (x1.length:Int))=true then(Option.bind (α:=(Spec×(List Int))⊕((Spec×(List Int)×Int)⊕((Spec×(List Int))⊕Spec))) ((atI x1 s16.2.2).bind λ v22=>
Option.bind (α:=Bool×Bool) (some (true,true)) λ o26=>
(jp x0 (⟨v22,v3,⟨[]⟩,true,0,[]⟩:File)).bind λ v31=>
if(o26.1&&cmpI .geq v31 (0:Int))=true then(some (.inr (.inr (.inr (⟨(2:Int),v31,([v22]:List Int)⟩:Spec)))))
else((jp x0 (⟨v22,x2,x3,false,0,[]⟩:File)).bind λ v42=>
if(o26.2&&cmpI .geq v42 (0:Int))=true then(some (.inr (.inr (.inr (⟨(1:Int),v42,([]:List Int)⟩:Spec)))))
else((gO (o26.1 == true) (q9 x0 v22 v3)).bind λ v53=>
if(o26.1&&v53)=true then((appO 8 s16.2.1 ([v22]:List Int)).bind λ v60=>
some (.inl (s16.1,v60)))
else(some (.inl (s16.1,s16.2.1)))))) (Sum.elim (λ b21=>
(i64 (s16.2.2+(1:Int))).bind λ v64=>
some (.inl (b21.1,b21.2,v64))) some))
else(some (.inr (.inl (s16.1,s16.2.1))))
def Y3(x0:Tree)(x1:List Int)(x2:Str)(x3:Str):Option Spec:=
(xB x2 x3).bind λ v3=>
if(decide (v3=(⟨[]⟩:Str)))=true then((xi).bind λ v9=>
some v9)
else(Option.bind (α:=(Spec×(List Int))⊕Spec) (zS (λ s16=>jD x0 x1 x2 x3 v3 s16) (zO,[],(0:Int))) (Sum.elim (λ b14=>
if(cmpI .gtr (b14.2.length:Int) (0:Int))=true then(some (⟨(3:Int),(-1:Int),b14.2⟩:Spec))
else((xi).bind λ v75=>
some v75)) some))
theorem impl_find_w{x0:Tree}{x1:List Int}{x2:Str}{x3:Str}{r:Spec}(h:Y3 x0 x1 x2 x3=some r):Fn prog 104 [dt x0,dt x1,dt x2,dt x3,dnilf] (dt r):=by
 unfold Y3 at h
 refine fnx (fn:=f104) 2 func104 rfl (oD rfl) rfl (λ M w0 _ st0=>wp_seq (wp_region_list ?_))
 refine st0.segA 1 [1,2,3,4,5] [] (λ _ _ st1=>?_)
 refine st1.alloc 1 rfl rfl kZ37 yz (by simp) [1,2,3,4,5] rfl [] rfl rfl (λ b2 _ _ _ st2=>wpList_nil (za ?_))
 obtain⟨v3,p3,h4⟩:=bsW h qt
 refine st2.sqA [1,2,3,4,5,11] [(10,1)] (λ _ _ st5=>wp_seq ?_)
 refine st5.sqA [1,2,3,4,5,11,24] [(10,1)] (λ _ _ st6=>?_)
 refine st6.cs rfl h4 (λ _ h7=>wp_seq (wp_region_list ?_)) (λ _ h8=>wp_skip (za ?_))
 ·
  obtain⟨v9,p9,h10⟩:=bsW h7 jC
  refine st6.segA 1 [25] [(10,1)] (λ _ _ st11=>?_)
  refine st11.store (sb:=10) 1 FldS.id rfl rfl rfl kT37 rfl rfl (tp rfl) rfl [] rfl [] rfl rfl (λ _ _ st12=>wpList_nil (za ?_))
  refine wp_ret (zd ?_)
  exact st12.ret_box rfl kT37 rfl h10
 refine st6.sqB (sc rfl (wT (α:=Int) (e:=3) rfl kS30)<|segA) [1,2,3,4,5,11] [(10,1),(12,0)] (λ _ _ st13=>?_)
 obtain⟨o14,p14,k14⟩:=bs h8
 refine zm (λ a w=>∃ b14,o14=.inl b14/\(∃ M1 q14_0 q14_1,Sx (Frm.of w0) 92 M M1 [oneB q14_0,oneB q14_1] [] [(10,1,dbox q14_1 0 b14.1),(12,0,dtip q14_0 3 b14.2)] a w)) ?_ ?_
 ·
  refine st13.sqA [2,3,4,5,11,27,28,29] [(10,1),(12,0)] (λ _ _ st15=>wp_block ?_)
  refine zL p14 (λ s16 a w=>∃ M1 q16_0 q16_1,Sx (Frm.of w0) 92 M M1 [oneB q16_0,oneB q16_1] [(2,dt x2),(3,dt x3),(4,dnilf),(5,dptr x0),(11,dt v3),(27,dt x1),(28,dt (x1.length:Int)),(29,dt s16.2.2)] [(10,1,dbox q16_1 0 s16.1),(12,0,dtip q16_0 3 s16.2.1)] a w) fx ?_
  rintro s16 x16 a16 w16 ⟨M16,q16_0,q16_1,st16⟩ hs16 hx16
  have h17:jD x0 x1 x2 x3 v3 s16=some x16:=hs16
  unfold jD at h17
  refine st16.sqA [2,3,4,5,11,27,28,29,30] [(10,1),(12,0)] (λ _ _ st18=>wp_seq ?_)
  refine st18.cs rfl h17 (λ _ h19=>wp_skip (za ?_)) (λ _ h20=>?_)
  ·
   obtain⟨o21,p21,k21⟩:=bs h19
   refine zm (λ a w=>∃ b21,o21=.inl b21/\(∃ M1 q21_0 q21_1,Sx (Frm.of w0) 92 M M1 [oneB q21_0,oneB q21_1] [(2,dt x2),(3,dt x3),(4,dnilf),(5,dptr x0),(11,dt v3),(27,dt x1),(28,dt (x1.length:Int)),(29,dt s16.2.2)] [(10,1,dbox q21_1 0 b21.1),(12,0,dtip q21_0 3 b21.2)] a w)) ?_ ?_
   ·
    refine wp_block ?_
    obtain⟨v22,p22,h23⟩:=bs p21
    refine st18.sqA [2,3,4,5,11,14,27,28,29] [(10,1),(12,0)] (λ _ _ st24=>?_)
    refine st24.sqA [2,3,4,5,11,14,15,16,27,28,29] [(10,1),(12,0)] (λ _ _ st25=>?_)
    obtain⟨o26,p26,k26⟩:=bs h23
    refine zm (λ a w=>∃ M1 q26_0 q26_1,Sx (Frm.of w0) 92 M M1 [oneB q26_0,oneB q26_1] [(2,dt x2),(3,dt x3),(4,dnilf),(5,dptr x0),(11,dt v3),(14,dt v22),(15,dt o26.1),(16,dt o26.2),(27,dt x1),(28,dt (x1.length:Int)),(29,dt s16.2.2)] [(10,1,dbox q26_1 0 s16.1),(12,0,dtip q26_0 3 s16.2.1)] a w) ?_ ?_
    ·
     refine st25.sqB (sp 1 (r:=by exact sc rfl (xNeNil rfl kU116 (tp rfl) cNil)<|.nil)) [2,3,4,5,11,14,15,16,27,28,29,34] [(10,1),(12,0)] (λ _ _ st27=>?_)
     refine st27.csF (c:=34) rfl ?_
     refine wp_skip (za ?_)
     obtain rfl:=Option.some.inj p26
     exact fx
    rintro a26 w26 ⟨M26,q26_0,q26_1,st26⟩
    have h30:=k26
    refine wp_seq ?_
    obtain⟨v31,p31,h32⟩:=bs h30
    refine st26.sqB (sp 3 (r:=by exact sc rfl (yw (parts:=[(0,.tmp 47),(1,.tmp 48),(3,.const (.bool true))]) (ns:=[1,1,1,1,1,1]) (zs:=zaB) rfl rfl kB72 kC72 (λ w a hl=>by
 intro p hp;simp only[List.mem_cons,List.not_mem_nil,or_false] at hp
 rcases hp with rfl | rfl | rfl
 ·
  exact⟨by decide,Rep.len (α:=Int) (OpdR.cells (tp rfl) hl)⟩
 ·
  exact⟨by decide,Rep.len (α:=Str) (OpdR.cells (tp rfl) hl)⟩
 ·
  exact⟨by decide,rfl⟩) (λ w a hl=>File.parts (x:=(⟨v22,v3,⟨[]⟩,true,0,[]⟩:File)) (OpdR.cells (tp rfl) hl) (OpdR.cells (tp rfl) hl) qn (OpdR.cells cB hl) ⟨rfl,trivial⟩ xI))<|sc rfl (oK (YT p31))<|segA)) [2,3,4,5,11,14,15,16,18,27,28,29] [(10,1),(12,0)] (λ _ _ st33=>?_)
    refine st33.sqA [2,3,4,5,11,14,15,16,18,27,28,29,55] [(10,1),(12,0)] (λ _ _ st34=>?_)
    refine st34.cs rfl h32 (λ _ h35=>wp_seq (wp_region_list ?_)) (λ _ h36=>?_)
    ·
     refine st34.segB 4 (sp 2 (r:=by exact sc rfl (yG (opds:=[.tmp 57]) rfl kS30 kY30 rfl rfl (by decide) (.cons (tp rfl) .nil))<|sc rfl (yw (parts:=[(0,.const (.int .i64 2)),(1,.tmp 56),(2,.tmp 58)]) (ns:=[1,1,1]) (zs:=Jd) rfl rfl kB37 kC37 (λ w a hl=>by
 intro p hp;simp only[List.mem_cons,List.not_mem_nil,or_false] at hp
 rcases hp with rfl | rfl | rfl
 ·
  exact⟨by decide,rfl⟩
 ·
  exact⟨by decide,Rep.len (α:=Int) (OpdR.cells (tp rfl) hl)⟩
 ·
  exact⟨by decide,Rep.len (α:=List Int) (OpdR.cells (tp rfl) hl)⟩) (λ w a hl=>Spec.parts (x:=(⟨(2:Int),v31,([v22]:List Int)⟩:Spec)) (OpdR.cells cI hl) (OpdR.cells (tp rfl) hl) (OpdR.cells (tp rfl) hl)))<|.nil)) [59] [(10,1)] (λ _ _ st37=>?_)
     refine st37.store (sb:=10) 1 FldS.id rfl rfl rfl kT37 rfl rfl (tp rfl) rfl [] rfl [] rfl rfl (λ _ _ st38=>wpList_nil (za ?_))
     refine wp_ret (zd (zt (zd (zd (zt (zd ?_))))))
     have h39:=jo h35 k21
     have h40:=lo h39 hx16
     have h41:=jo h40 k14
     exact st38.ret_box rfl kT37 rfl h41
    refine wp_skip (za (wp_seq ?_))
    obtain⟨v42,p42,h43⟩:=bs h36
    refine st34.sqB (sp 4 (r:=by exact sc rfl (yw (parts:=[(0,.tmp 61),(1,.tmp 62),(2,.tmp 63)]) (ns:=[1,1,1,1,1,1]) (zs:=zaB) rfl rfl kB72 kC72 (λ w a hl=>by
 intro p hp;simp only[List.mem_cons,List.not_mem_nil,or_false] at hp
 rcases hp with rfl | rfl | rfl
 ·
  exact⟨by decide,Rep.len (α:=Int) (OpdR.cells (tp rfl) hl)⟩
 ·
  exact⟨by decide,Rep.len (α:=Str) (OpdR.cells (tp rfl) hl)⟩
 ·
  exact⟨by decide,Rep.len (α:=Str) (OpdR.cells (tp rfl) hl)⟩) (λ w a hl=>File.parts (x:=(⟨v22,x2,x3,false,0,[]⟩:File)) (OpdR.cells (tp rfl) hl) (OpdR.cells (tp rfl) hl) (OpdR.cells (tp rfl) hl) ⟨rfl,trivial⟩ ⟨rfl,trivial⟩ xI))<|sc rfl (oK (YT p42))<|segA)) [2,3,4,5,11,14,15,16,19,27,28,29] [(10,1),(12,0)] (λ _ _ st44=>?_)
    refine st44.sqA [2,3,4,5,11,14,15,19,27,28,29,70] [(10,1),(12,0)] (λ _ _ st45=>?_)
    refine st45.cs rfl h43 (λ _ h46=>wp_seq (wp_region_list ?_)) (λ _ h47=>?_)
    ·
     refine st45.segB 3 (sp 1 (r:=by exact sc rfl (yG (opds:=[]) (α:=Int) rfl kS30 kY30 rfl rfl (by decide) .nil)<|sc rfl (yw (parts:=[(0,.const (.int .i64 1)),(1,.tmp 71),(2,.tmp 72)]) (ns:=[1,1,1]) (zs:=Jd) rfl rfl kB37 kC37 (λ w a hl=>by
 intro p hp;simp only[List.mem_cons,List.not_mem_nil,or_false] at hp
 rcases hp with rfl | rfl | rfl
 ·
  exact⟨by decide,rfl⟩
 ·
  exact⟨by decide,Rep.len (α:=Int) (OpdR.cells (tp rfl) hl)⟩
 ·
  exact⟨by decide,Rep.len (α:=List Int) (OpdR.cells (tp rfl) hl)⟩) (λ w a hl=>Spec.parts (x:=(⟨(1:Int),v42,([]:List Int)⟩:Spec)) (OpdR.cells cI hl) (OpdR.cells (tp rfl) hl) (OpdR.cells (tp rfl) hl)))<|.nil)) [73] [(10,1)] (λ _ _ st48=>?_)
     refine st48.store (sb:=10) 1 FldS.id rfl rfl rfl kT37 rfl rfl (tp rfl) rfl [] rfl [] rfl rfl (λ _ _ st49=>wpList_nil (za ?_))
     refine wp_ret (zd (zt (zd (zd (zt (zd ?_))))))
     have h50:=jo h46 k21
     have h51:=lo h50 hx16
     have h52:=jo h51 k14
     exact st49.ret_box rfl kT37 rfl h52
    refine wp_skip (za ?_)
    obtain⟨v53,p53,h54⟩:=bs h47
    refine st45.sqB (sp 5 (r:=by exact sg rfl rfl (λ hg=>oK (J0 (gh hg p53)))<|segA)) [2,3,4,5,11,14,27,28,29,80] [(10,1),(12,0)] (λ _ _ st55=>?_)
    refine st55.cs rfl h54 (λ _ h56=>wp_region_list ?_) (λ _ h57=>wp_skip (zg (za ?_)))
    ·
     refine st55.segB 3 (sp 2 (r:=by exact sc rfl (yG (opds:=[.tmp 82]) rfl kS30 kY30 rfl rfl (by decide) (.cons (tp rfl) .nil))<|.nil)) [2,3,4,5,11,27,28,29,83] [(10,1),(12,0),(81,0)] (λ _ _ st58=>?_)
     obtain⟨v60,p60,h61⟩:=bs h56
     refine st58.app 0 rfl rfl kE30 rfl rfl rfl wO p60 [2,3,4,5,11,27,28,29] rfl [10] rfl rfl (λ g59 _ _ _ st59=>?_)
     refine st59.segA 1 [2,3,4,5,11,27,28,29] [(10,1),(12,0)] (λ _ _ st62=>wpList_nil (zg (za ?_)))
     exact fl h61
    exact fl h57
   rintro a21 w21 ⟨b21,rfl,⟨M21,q21_0,q21_1,st21⟩⟩
   have h63:=jn k21
   obtain⟨v64,p64,h65⟩:=bs h63
   refine st21.rgA [2,3,4,5,11,27,28,29] [(10,1),(12,0)] (λ _ _ st66=>za ?_)
   exact fl h65
  refine wp_exit (zh (zh (zE ?_)))
  refine za ?_
  have h67:=lo h20 hx16
  exact fl h67
 rintro a14 w14 ⟨b14,rfl,⟨M14,q14_0,q14_1,st14⟩⟩
 have h68:=jn k14
 refine wp_seq ?_
 refine st14.sqB (sp 1 (r:=by exact sc rfl (op_lenT rfl kL30 (tp rfl))<|segA)) [88] [(10,1),(12,0)] (λ _ _ st69=>?_)
 refine st69.cs rfl h68 (λ _ h70=>?_) (λ _ h71=>?_)
 ·
  have st72:=st69.frz 0 (s:=12) rfl rfl [88] rfl [10] rfl
  refine wp_seq (wp_region_list ?_)
  refine st72.segB 2 (sp 1 (r:=by exact sc rfl (yw (parts:=[(0,.const (.int .i64 3)),(1,.const (.int .i64 (-1))),(2,.tmp 89)]) (ns:=[1,1,1]) (zs:=Jd) rfl rfl kB37 kC37 (λ w a hl=>by
 intro p hp;simp only[List.mem_cons,List.not_mem_nil,or_false] at hp
 rcases hp with rfl | rfl | rfl
 ·
  exact⟨by decide,rfl⟩
 ·
  exact⟨by decide,rfl⟩
 ·
  exact⟨by decide,Rep.len (α:=List Int) (OpdR.cells (tp rfl) hl)⟩) (λ w a hl=>Spec.parts (x:=(⟨(3:Int),(-1:Int),b14.2⟩:Spec)) (OpdR.cells cI hl) (OpdR.cells cI hl) (OpdR.cells (tp rfl) hl)))<|.nil)) [90] [(10,1)] (λ _ _ st73=>?_)
  refine st73.store (sb:=10) 1 FldS.id rfl rfl rfl kT37 rfl rfl (tp rfl) rfl [] rfl [] rfl rfl (λ _ _ st74=>wpList_nil (za ?_))
  refine wp_ret (zd ?_)
  exact st74.ret_box rfl kT37 rfl h70
 refine wp_skip (za (wp_seq (wp_region_list ?_)))
 obtain⟨v75,p75,h76⟩:=bsW h71 jC
 refine st69.segA 1 [91] [(10,1)] (λ _ _ st77=>?_)
 refine st77.store (sb:=10) 1 FldS.id rfl rfl rfl kT37 rfl rfl (tp rfl) rfl [] rfl [] rfl rfl (λ _ _ st78=>wpList_nil (za (wp_ret ?_)))
 exact st78.ret_box rfl kT37 rfl h76
def xH(x0:Tree)(v8:List Str)(s11:Spec×Spec×Str×Int):Option ((Spec×Spec×Str×Int)⊕((Spec×Spec)⊕Spec)):=
if(cmpI .lss s11.2.2.2 (v8.length:Int))=true then((atI v8 s11.2.2.2).bind λ v16=>
if(cmpI .eql s11.2.1.kind (0:Int)||cmpI .eql s11.2.1.kind (1:Int))=true then((xi).bind λ v22=>
some (.inr (.inr v22)))
else((Y3 x0 s11.2.1.roots s11.2.2.1 v16).bind λ v28=>
(xB s11.2.2.1 v16).bind λ v32=>
(i64 (s11.2.2.2+(1:Int))).bind λ v35=>
some (.inl (s11.1,v28,v32,v35))))
else(some (.inr (.inl (s11.1,s11.2.1))))
def qW(x0:Tree)(x1:List Int)(x2:Str):Option Spec:=
Option.bind (α:=(Spec×Spec)⊕Spec) ((qr x2).bind λ v8=>
zS (λ s11=>xH x0 v8 s11) (zO,(⟨(3:Int),(-1:Int),x1⟩:Spec),(⟨[]⟩:Str),(0:Int))) (Sum.elim (λ b7=>
some b7.2) some)
theorem zbp{x0:Tree}{x1:List Int}{x2:Str}{r:Spec}(h:qW x0 x1 x2=some r):Fn prog 58 [dt x0,dt x1,dt x2,dnilf] (dt r):=by
 unfold qW at h
 refine fnx (fn:=f58) 2 func58 rfl (oD rfl) rfl (λ M w0 _ st0=>wp_seq (wp_region_list ?_))
 refine st0.segB 1 (sc rfl (Y6 rfl (tp rfl))<|.nil) [1,2,3,4] [] (λ _ _ st1=>?_)
 refine st1.alloc 0 rfl rfl kZ37 yz (by simp) [1,2,3,4] rfl [] rfl rfl (λ b2 _ _ _ st2=>wpList_nil (za (wp_seq (wp_region_list ?_))))
 refine st2.segB 2 (sp 1 (r:=by exact sc rfl (yw (parts:=[(0,.const (.int .i64 3)),(1,.const (.int .i64 (-1))),(2,.tmp 13)]) (ns:=[1,1,1]) (zs:=Jd) rfl rfl kB37 kC37 (λ w a hl=>by
 intro p hp;simp only[List.mem_cons,List.not_mem_nil,or_false] at hp
 rcases hp with rfl | rfl | rfl
 ·
  exact⟨by decide,rfl⟩
 ·
  exact⟨by decide,rfl⟩
 ·
  exact⟨by decide,Rep.len (α:=List Int) (OpdR.cells (tp rfl) hl)⟩) (λ w a hl=>Spec.parts (x:=(⟨(3:Int),(-1:Int),x1⟩:Spec)) (OpdR.cells cI hl) (OpdR.cells cI hl) (OpdR.cells (tp rfl) hl)))<|.nil)) [2,3,4,14] [(8,0)] (λ _ _ st3=>?_)
 refine st3.alloc 1 rfl rfl kZ37 yz (by simp) [2,3,4,14] rfl [8] rfl rfl (λ b4 _ _ _ st4=>?_)
 refine st4.store (sb:=9) 1 FldS.id rfl rfl rfl kT37 rfl rfl (tp rfl) rfl [2,3,4] rfl [8] rfl rfl (λ _ _ st5=>wpList_nil (za ?_))
 refine st5.sqB (sc rfl (oA rfl (zQ (by decide)))<|.nil) [2,3,4,10] [(8,0),(9,1)] (λ _ _ st6=>?_)
 obtain⟨o7,p7,k7⟩:=bs h
 refine zm (λ a w=>∃ b7,o7=.inl b7/\(∃ M1 q7_0 q7_1,Sx (Frm.of w0) 43 M M1 [oneB q7_0,oneB q7_1] [] [(8,0,dbox q7_0 0 b7.1),(9,1,dbox q7_1 0 b7.2)] a w)) ?_ ?_
 ·
  obtain⟨v8,p8,h9⟩:=bsW p7 Jh
  refine st6.sqA [3,4,10,16,17,18] [(8,0),(9,1)] (λ _ _ st10=>wp_block ?_)
  refine zL h9 (λ s11 a w=>∃ M1 q11_0 q11_1,Sx (Frm.of w0) 43 M M1 [oneB q11_0,oneB q11_1] [(3,dnilf),(4,dptr x0),(10,dt s11.2.2.1),(16,dt v8),(17,dt (v8.length:Int)),(18,dt s11.2.2.2)] [(8,0,dbox q11_0 0 s11.1),(9,1,dbox q11_1 0 s11.2.1)] a w) fx ?_
  rintro s11 x11 a11 w11 ⟨M11,q11_0,q11_1,st11⟩ hs11 hx11
  have h12:xH x0 v8 s11=some x11:=hs11
  unfold xH at h12
  refine st11.sqA [3,4,10,16,17,18,19] [(8,0),(9,1)] (λ _ _ st13=>wp_seq ?_)
  refine st13.cs rfl h12 (λ _ h14=>wp_skip (za (wp_seq (wp_block ?_)))) (λ _ h15=>wp_exit (zh (zh (zE ?_))))
  ·
   obtain⟨v16,p16,h17⟩:=bs h14
   refine st13.sqB (sc rfl (xIdx rfl kS75 (tp rfl) (tp rfl) p16)<|sc rfl (zp rfl kT9 (tp rfl))<|sc rfl (oA rfl (tp rfl))<|.nil) [3,4,10,12,16,17,18] [(8,0),(9,1)] (λ _ _ st18=>wp_seq ?_)
   refine st18.sqB (sc rfl (zB Spec.fld0 rfl kF37_0 (tp rfl))<|sc rfl (zf rfl kT3 (tp rfl))<|sc rfl (oCI rfl (tp rfl) cI)<|sc rfl (oM rfl (tp rfl))<|sg rfl rfl (λ hg=>zB Spec.fld0 rfl kF37_0 (tp rfl))<|sg rfl rfl (λ hg=>zf rfl kT3 (ze hg rfl))<|sg rfl rfl (λ hg=>oCI rfl (ze hg rfl) cI)<|sc rfl (yU rfl (tp rfl) (zb rfl))<|.nil) [3,4,10,12,16,17,18,29] [(8,0),(9,1)] (λ _ _ st19=>?_)
   refine st19.cs rfl h17 (λ _ h20=>wp_seq (wp_region_list ?_)) (λ _ h21=>wp_skip (za (wp_seq (wp_region_list ?_))))
   ·
    obtain⟨v22,p22,h23⟩:=bsW h20 jC
    refine st19.segA 1 [30] [(8,0)] (λ _ _ st24=>?_)
    refine st24.store (sb:=8) 0 FldS.id rfl rfl rfl kT37 rfl rfl (tp rfl) rfl [] rfl [] rfl rfl (λ _ _ st25=>wpList_nil (za ?_))
    refine wp_ret (zd (zt (zd (zd (zt (zd ?_))))))
    have h26:=lo h23 hx11
    have h27:=jo h26 k7
    exact st25.ret_box rfl kT37 rfl h27
   obtain⟨v28,p28,h29⟩:=bs h21
   refine st19.segB 7 (sp 1 (r:=by exact sc rfl (zB Spec.fld2 rfl kF37_2 (tp rfl))<|sc rfl (zf rfl kT30 (tp rfl))<|sp 3 (r:=by exact sc rfl (oK (impl_find_w p28))<|.nil))) [3,4,10,12,16,17,18,37] [(8,0),(9,1)] (λ _ _ st30=>?_)
   refine st30.store (sb:=9) 1 FldS.id rfl rfl rfl kT37 rfl rfl (tp rfl) rfl [3,4,10,12,16,17,18] rfl [8] rfl rfl (λ _ _ st31=>wpList_nil (za ?_))
   obtain⟨v32,p32,h33⟩:=bsW h29 qt
   refine st31.rgA [3,4,10,16,17,18] [(8,0),(9,1)] (λ _ _ st34=>zg (za ?_))
   obtain⟨v35,p35,h36⟩:=bs h33
   refine st34.rgA [3,4,10,16,17,18] [(8,0),(9,1)] (λ _ _ st37=>za ?_)
   exact fl h36
  refine za ?_
  have h38:=lo h15 hx11
  exact fl h38
 rintro a7 w7 ⟨b7,rfl,⟨M7,q7_0,q7_1,st7⟩⟩
 have h39:=jn k7
 refine wp_seq (wp_region_list ?_)
 refine st7.segB 1 (sc rfl (zf rfl kT37 (tp rfl))<|.nil) [42] [(8,0)] (λ _ _ st40=>?_)
 refine st40.store (sb:=8) 0 FldS.id rfl rfl rfl kT37 rfl rfl (tp rfl) rfl [] rfl [] rfl rfl (λ _ _ st41=>wpList_nil (za (wp_ret ?_)))
 exact st41.ret_box rfl kT37 rfl h39
def jP(x0:Tree)(x1:List Int)(x2:Str):Option Spec:=
(wy x0).bind λ v3=>
(gO ((!v3) == false) (y6 x1)).bind λ v4=>
(gO (((!v3)||(!v4)) == false) (yc x2)).bind λ v5=>
if(((!v3)||(!v4))||(!v5))=true then((xi).bind λ v12=>
some v12)
else((qW x0 x1 x2).bind λ v16=>
some v16)
theorem WW{x0:Tree}{x1:List Int}{x2:Str}{r:Spec}(h:jP x0 x1 x2=some r):Fn prog 33 [dt x0,dt x1,dt x2] (dt r):=by
 unfold jP at h
 refine fnx (fn:=f33) 1 func33 rfl (oD rfl) rfl (λ M _ _ st0=>wp_seq (wp_region_list ?_))
 refine st0.segA 1 [1,2,3] [] (λ _ _ st1=>?_)
 refine st1.alloc 0 rfl rfl kZ37 yz (by simp) [1,2,3] rfl [] rfl rfl (λ b2 _ _ _ st2=>wpList_nil (za (wp_seq ?_)))
 obtain⟨v3,p3,v4,p4,v5,p5,h8⟩:=bsC h
 refine st2.sqB (sp 1 (r:=by exact sc rfl (oK (YE p3))<|sp 3 (r:=by exact sg rfl rfl (λ hg=>oK (qw (gh hg p4)))<|sp 4 (r:=by exact sg rfl rfl (λ hg=>oK (yM (gh hg p5)))<|segA)))) [1,2,3,19] [(6,0)] (λ _ _ st9=>?_)
 refine st9.cs rfl h8 (λ _ h10=>wp_seq (wp_region_list ?_)) (λ _ h11=>wp_skip (za (wp_seq (wp_region_list ?_))))
 ·
  obtain⟨v12,p12,h13⟩:=bsW h10 jC
  refine st9.segA 1 [20] [(6,0)] (λ _ _ st14=>?_)
  refine st14.store (sb:=6) 0 FldS.id rfl rfl rfl kT37 rfl rfl (tp rfl) rfl [] rfl [] rfl rfl (λ _ _ st15=>wpList_nil (za ?_))
  refine wp_ret (zd ?_)
  exact st15.ret_box rfl kT37 rfl h13
 obtain⟨v16,p16,h17⟩:=bs h11
 refine st9.segB 4 (sp 3 (r:=by exact sc rfl (zo (l:=[.tmp 21,.tmp 22,.tmp 23,.const .nilFunc]) rfl kN58 (.cons (tp rfl) (.cons (tp rfl) (.cons (tp rfl) (.cons cNil .nil)))) (zbp p16))<|.nil)) [24] [(6,0)] (λ _ _ st18=>?_)
 refine st18.store (sb:=6) 0 FldS.id rfl rfl rfl kT37 rfl rfl (tp rfl) rfl [] rfl [] rfl rfl (λ _ _ st19=>wpList_nil (za (wp_ret ?_)))
 exact st19.ret_box rfl kT37 rfl h17
open Go.RowKit Tryz
set_option maxRecDepth 10000
theorem kN157:fnB prog 157=true:=by kernel_rfl
theorem kN158:fnB prog 158=true:=by kernel_rfl
def ZS(x0:List Str):Option (List Str):=
(xO x0).bind λ v4=>
(xm v4).bind λ v8=>
(appO 16 [] v8).bind λ v11=>
some v11
theorem impl_sorted_w{x0:List Str}{r:List Str}(h:ZS x0=some r):Qg prog 123 9 x0 [] r:=by
 unfold ZS at h
 refine fnxT (fn:=f123) 1 2 func123 rfl (oD rfl) rfl (λ M g _ _ st0=>?_)
 refine st0.sqB (sc rfl (oA rfl (Zl (α:=Str) (e:=9)))<|.nil) [] [(0,1)] (λ _ _ st1=>wp_seq (wp_region_list ?_))
 refine st1.segA 1 [] [(0,1),(3,1)] (λ _ _ st2=>?_)
 obtain⟨v4,p4,h5⟩:=bs h
 refine st2.inpl (sb:=0) 1 rfl rfl kN157 rfl rfl rfl (Xh p4) [] rfl [] rfl rfl ⟨rfl,rfl,by decide⟩ (λ _ _ _ st3=>wpList_nil (za (wp_seq (wp_region_list ?_))))
 refine st3.segB 2 (sc rfl (wT (α:=Str) (e:=9) rfl kS75)<|segA) [] [(5,0),(6,1)] (λ _ _ st6=>?_)
 obtain⟨v8,p8,h9⟩:=bs h5
 refine st6.take (l:=[]) 1 rfl rfl kN158 rfl rfl .nil (YD p8) [] rfl [5] rfl rfl (λ g7 _ _ _ st7=>?_)
 obtain⟨v11,p11,h12⟩:=bs h9
 refine st7.app 0 rfl rfl kE75 rfl rfl rfl row_tip p11 [] rfl [] rfl rfl (λ g10 _ _ _ st10=>?_)
 refine st10.segA 1 [] [(2,0)] (λ _ _ st13=>wpList_nil (za (wp_ret ?_)))
 exact st13.ret_take 0 rfl rfl iI h12
end Go.Proofs.YtdoidiipacdbpaaGreatDoor
