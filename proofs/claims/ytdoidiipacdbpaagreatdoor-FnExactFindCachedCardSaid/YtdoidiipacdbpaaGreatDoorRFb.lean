import Derived.Test.YtdoidiipacdbpaaGreatDoorRB
import Derived.Test.YtdoidiipacdbpaaGreatDoorRO
import Derived.Test.YtdoidiipacdbpaaGreatDoorRF
namespace Go.Proofs.YtdoidiipacdbpaaGreatDoor
open Go.RowKit Tryz
attribute [local irreducible] OpRel OpdR
set_option maxRecDepth 10000
set_option maxHeartbeats 1600000
theorem kF159_0:fldB prog 159 0 0=true:=by kernel_rfl
theorem kB159:bldB prog 159 [1,1,1,1,1]=true:=by kernel_rfl
theorem kC159:Y9 prog 159 [1,1,1,1,1]=some zpStmt:=by kernel_rfl
theorem kD159_0:∀ {M:Nat->Prop} {look:Nat->Option Dt} {o:Oper} {q0:Operand} {y0:Int},o.op=.build 159 #[(0,q0)]->OpdR M look q0 (dt y0)->OpRel prog M look o (dt (⟨y0,⟨[]⟩,0,⟨[]⟩,0⟩:Stmt)):=@λ _ _ _ q0 y0 ho h0=>ZL (parts:=[(0,q0)]) (ns:=[1,1,1,1,1]) (zs:=zpStmt) rfl ho kB159 kC159 (λ w a hl=>by
 intro p hp;simp only[List.mem_cons,List.not_mem_nil,or_false] at hp
 rcases hp with rfl
 ·
  exact⟨(by decide:0<5),Rep.len (α:=Int) (OpdR.cells h0 hl)⟩) (λ w a hl=>Stmt.parts (x:=(⟨y0,⟨[]⟩,0,⟨[]⟩,0⟩:Stmt)) (OpdR.cells h0 hl) Xp ⟨rfl,trivial⟩ Xp ⟨rfl,trivial⟩)
theorem kZ159:yL prog 159=some zcStmt:=by kernel_rfl
theorem kT159:tyB prog 159 true 5=true:=by kernel_rfl
theorem kF159_1:fldB prog 159 1 1=true:=by kernel_rfl
theorem kQ159:JJ prog 159=true:=by kernel_rfl
theorem kF159_4:fldB prog 159 4 4=true:=by kernel_rfl
theorem kF159_2:fldB prog 159 2 2=true:=by kernel_rfl
theorem kF159_3:fldB prog 159 3 3=true:=by kernel_rfl
def q5(x0:Stmt):Option Bool:=
Option.bind (α:=Bool) (if(cmpI .eql x0.kind (0:Int))=true then(some (cmpI .eql x0.kind (0:Int)))
else(some (cmpI .eql x0.kind (2:Int)))) λ o8=>
if o8=true then((gO (decide (x0={ (⟨x0.kind,⟨[]⟩,0,⟨[]⟩,0⟩:Stmt) with module:=x0.module }) == true) (yi x0.module)).bind λ v19=>
some (decide (x0={ (⟨x0.kind,⟨[]⟩,0,⟨[]⟩,0⟩:Stmt) with module:=x0.module })&&v19))
else(if(cmpI .eql x0.kind (1:Int))=true then((gO (cmpI .eql x0.value (0:Int) == true) (yc x0.level (0:Int) (3:Int))).bind λ v25=>
(gO ((cmpI .eql x0.value (0:Int)&&v25) == true) (yt x0.name)).bind λ v26=>
(gO (((cmpI .eql x0.value (0:Int)&&v25)&&v26) == true) (yi x0.module)).bind λ v27=>
some (((cmpI .eql x0.value (0:Int)&&v25)&&v26)&&(v27||(decide (x0.module=(⟨[]⟩:Str))&&cmpI .geq x0.level (1:Int)))))
else(if(cmpI .eql x0.kind (3:Int))=true then((gO (decide (x0={ { (⟨x0.kind,⟨[]⟩,0,⟨[]⟩,0⟩:Stmt) with name:=x0.name } with value:=x0.value }) == true) (yt x0.name)).bind λ v54=>
(gO ((decide (x0={ { (⟨x0.kind,⟨[]⟩,0,⟨[]⟩,0⟩:Stmt) with name:=x0.name } with value:=x0.value })&&v54) == true) (yc x0.value (0:Int) (99:Int))).bind λ v55=>
some ((decide (x0={ { (⟨x0.kind,⟨[]⟩,0,⟨[]⟩,0⟩:Stmt) with name:=x0.name } with value:=x0.value })&&v54)&&v55))
else(if(cmpI .eql x0.kind (4:Int))=true then((gO (decide (x0={ (⟨x0.kind,⟨[]⟩,0,⟨[]⟩,0⟩:Stmt) with name:=x0.name }) == true) (yt x0.name)).bind λ v65=>
some (decide (x0={ (⟨x0.kind,⟨[]⟩,0,⟨[]⟩,0⟩:Stmt) with name:=x0.name })&&v65))
else(if(cmpI .eql x0.kind (5:Int))=true then(some (decide (x0=(⟨x0.kind,⟨[]⟩,0,⟨[]⟩,0⟩:Stmt))))
else(some false)))))
theorem impl_stmtOk_w{x0:Stmt}{r:Bool}(h:q5 x0=some r):Fn prog 159 [dt x0] (dt r):=by
 unfold q5 at h
 refine fnx (fn:=f159) 1 func159 rfl (oD rfl) rfl (λ M w0 _ st0=>?_)
 refine st0.sq1 [1] (λ _ _ st1=>wp_seq (wp_region_list ?_))
 refine st1.segB 3 (sP 2 (r:=by exact sc rfl (kD159_0 rfl (tp rfl))<|.nil)) [1,6] [] (λ _ _ st2=>?_)
 refine st2.alA 0 zrStmt [1,6] [] (λ b4 _ _ _ st4=>?_)
 refine st4.stA 3 0 FldS.id (tp rfl) [1] [] (λ _ _ st6=>wpList_nil (za (wp_seq ?_)))
 refine st6.sqA [1,8] [(3,0)] (λ _ _ st7=>wp_block ?_)
 obtain⟨o8,p8,k8⟩:=bs h
 refine zl (λ a w=>∃ M1 q8_0,Sx (Frm.of w0) 92 M M1 [oneB q8_0] [(1,dptr x0),(8,dt x0.kind),(9,dt o8)] [(3,0,dbox q8_0 0 (⟨x0.kind,⟨[]⟩,0,⟨[]⟩,0⟩:Stmt))] a w) ?_ ?_
 ·
  refine st7.sqA [1,8,9] [(3,0)] (λ _ _ st9=>?_)
  refine st9.cs rfl p8 (λ _ h10=>wp_skip (za ?_)) (λ _ h11=>?_)
  ·
   cases h10
   exact fx
  refine st9.rgA [1,8,9] [(3,0)] (λ _ _ st12=>za ?_)
  cases h11
  exact fx
 rintro a8 w8 ⟨M8,q8_0,st8⟩
 have h13:=k8
 refine st8.cs rfl h13 (λ _ h14=>wp_seq (wp_region_list ?_)) (λ _ h15=>?_)
 ·
  refine st8.segC 3 [1,13] [(3,0),(14,0)] (λ _ _ st16=>?_)
  refine st16.stA 3 0 Stmt.set1 (tp rfl) [1] [] (λ _ _ st18=>wpList_nil (za ?_))
  obtain⟨v19,p19,h20⟩:=bs h14
  refine st18.sq2 (sP 2 (r:=by exact sc rfl (Xs rfl kQ159 (tp rfl) (tp rfl))<|sP 3 (r:=by exact sg rfl rfl (λ hg=>oK (xH (gh hg p19)))<|segC))) [2] (λ _ _ st21=>wp_ret (zn (zd ?_)))
  exact st21.ret rfl rfl h20
 refine st8.sqA [1,8,23] [(3,0)] (λ _ _ st22=>?_)
 refine st22.cs rfl h15 (λ _ h23=>?_) (λ _ h24=>?_)
 ·
  obtain⟨v25,p25,v26,p26,v27,p27,h30⟩:=bsC h23
  refine st22.sq2 (sP 6 (r:=by exact sg rfl rfl (λ hg=>oK (yQ (gh hg p25)))<|sP 4 (r:=by exact sg rfl rfl (λ hg=>oK (wo (gh hg p26)))<|sP 4 (r:=by exact sg rfl rfl (λ hg=>oK (xH (gh hg p27)))<|sg rfl rfl (λ hg=>oM rfl (zf hg rfl))<|sgg rfl rfl (λ hg=>zy Stmt.fld1 rfl kF159_1 (tp rfl))<|sgg rfl rfl (λ hg=>zp rfl kT9 (zf hg rfl))<|sgg rfl rfl (λ hg=>qq rfl (zf hg rfl) (ye (by decide)))<|sgg rfl rfl (λ hg=>oM rfl (zf hg rfl))<|sgg rfl rfl (λ hg=>zy Stmt.fld2 rfl kF159_2 (tp rfl))<|sgg rfl rfl (λ hg=>zp rfl kT3 (zf hg rfl))<|sgg rfl rfl (λ hg=>oCI rfl (zf hg rfl) cI)<|sgg rfl rfl (λ hg=>yZ rfl (zf hg rfl) (opd_gg hg rfl))<|sg rfl rfl (λ hg=>wP rfl (zf hg rfl) (opd_gg hg rfl))<|segC)))) [2] (λ _ _ st31=>wp_ret (zn (zd ?_)))
  exact st31.ret rfl rfl h30
 refine st22.sqA [1,8,53] [(3,0)] (λ _ _ st32=>?_)
 refine st32.cs rfl h24 (λ _ h33=>wp_seq ?_) (λ _ h34=>?_)
 ·
  refine st32.opn (s:=1) rfl (λ b35 o35 c35 st35=>?_)
  refine st35.held (λ w=>CellsAt w b35 o35 c35) zI (λ _ st36=>?_)
  refine st36.tA 0 1 (λ _ st37=>?_) (ht:=kF159_3)
  refine st37.tF 1 1 55 Stmt.fld3 (λ _ st38=>?_)
  refine st38.tA 2 1 (λ _ st39=>?_) (ht:=kF159_4)
  refine st39.tF 3 1 57 Stmt.fld4 (λ _ st40=>aK1 4 ?_)
  refine st40.segC 1 [1,56,58] [(3,0),(59,0)] (λ _ _ st47=>?_)
  refine aHN (st47.pkZ 1) ?_
  refine aK1 5 ?_
  refine st47.stA 3 0 Stmt.set3 (tp rfl) [1,58] [] (λ _ _ st49=>?_)
  refine aHN (st49.pkZ 1) ?_
  refine aK1 6 ?_
  refine st49.segC 1 [1,58] [(3,0),(60,0)] (λ _ _ st50=>?_)
  refine aHN (st50.pkZ 1) ?_
  refine aK1 7 ?_
  refine st50.stA 3 0 Stmt.set4 (tp rfl) [1] [] (λ _ _ st52=>?_)
  refine aHN (st52.pkZ 1) ?_
  refine aK0 ?_
  have st53:=st52.clo (s:=1) rfl
  refine za ?_
  obtain⟨v54,p54,v55,p55,h57⟩:=bsB h33
  refine st53.sq2 (sP 2 (r:=by exact sc rfl (Xs rfl kQ159 (tp rfl) (tp rfl))<|sP 3 (r:=by exact sg rfl rfl (λ hg=>oK (wo (gh hg p54)))<|sP 4 (r:=by exact sg rfl rfl (λ hg=>oK (yQ (gh hg p55)))<|segC)))) [2] (λ _ _ st58=>wp_ret (zn (zd ?_)))
  exact st58.ret rfl rfl h57
 refine st32.sqA [1,8,74] [(3,0)] (λ _ _ st59=>?_)
 refine st59.cs rfl h34 (λ _ h60=>wp_seq (wp_region_list ?_)) (λ _ h61=>?_)
 ·
  refine st59.segC 3 [1,77] [(3,0),(78,0)] (λ _ _ st62=>?_)
  refine st62.stA 3 0 Stmt.set3 (tp rfl) [1] [] (λ _ _ st64=>wpList_nil (za ?_))
  obtain⟨v65,p65,h66⟩:=bs h60
  refine st64.sq2 (sP 2 (r:=by exact sc rfl (Xs rfl kQ159 (tp rfl) (tp rfl))<|sP 3 (r:=by exact sg rfl rfl (λ hg=>oK (wo (gh hg p65)))<|segC))) [2] (λ _ _ st67=>wp_ret (zn (zd ?_)))
  exact st67.ret rfl rfl h66
 refine st59.sqA [1,87] [(3,0)] (λ _ _ st68=>?_)
 refine st68.cs rfl h61 (λ _ h69=>?_) (λ _ h70=>wp_skip (zk (za ?_)))
 ·
  refine st68.sq2 (sP 2 (r:=by exact sc rfl (Xs rfl kQ159 (tp rfl) (tp rfl))<|segC)) [2] (λ _ _ st71=>wp_ret (zn (zd ?_)))
  exact st71.ret rfl rfl h69
 refine st68.sq1 [2] (λ _ _ st72=>wp_ret ?_)
 exact st72.ret rfl rfl h70
open Go.RowKit Tryz
set_option maxRecDepth 10000
theorem kL70:isSl prog 70=true:=by kernel_rfl
theorem kS70:slB prog 70 5=true:=by kernel_rfl
theorem kF72_4:fldB prog 72 4 4=true:=by kernel_rfl
theorem kF72_5:fldB prog 72 5 5=true:=by kernel_rfl
theorem kT70:tyB prog 70 false 1=true:=by kernel_rfl
theorem kF43_0:fldB prog 43 0 0=true:=by kernel_rfl
theorem kT41:tyB prog 41 false 1=true:=by kernel_rfl
theorem kL41:isSl prog 41=true:=by kernel_rfl
theorem kS41:slB prog 41 6=true:=by kernel_rfl
theorem kT72:tyB prog 72 true 6=true:=by kernel_rfl
theorem kZ72:yL prog 72=some zcFile:=by kernel_rfl
theorem kZ37:yL prog 37=some zcSpec:=by kernel_rfl
theorem kY30:zlB prog 30=true:=by kernel_rfl
theorem kB37:bldB prog 37 [1,1,1]=true:=by kernel_rfl
theorem kC37:Y9 prog 37 [1,1,1]=some zpSpec:=by kernel_rfl
theorem kT37:tyB prog 37 true 3=true:=by kernel_rfl
theorem kN56:fnB prog 56=true:=by kernel_rfl
theorem kU116:isFn prog 116=true:=by kernel_rfl
theorem kT43:tyB prog 43 true 1=true:=by kernel_rfl
theorem kB72:bldB prog 72 [1,1,1,1,1,1]=true:=by kernel_rfl
theorem kC72:Y9 prog 72 [1,1,1,1,1,1]=some zpFile:=by kernel_rfl
theorem kE30:elB prog 30 3 1 8=true:=by kernel_rfl
theorem kF37_0:fldB prog 37 0 0=true:=by kernel_rfl
theorem kF37_2:fldB prog 37 2 2=true:=by kernel_rfl
theorem kT30:tyB prog 30 false 1=true:=by kernel_rfl
theorem kN104:fnB prog 104=true:=by kernel_rfl
theorem kN58:fnB prog 58=true:=by kernel_rfl
def xl(x0:List Stmt)(s4:Int):Option (Int⊕(Unit⊕Bool)):=
if(cmpI .lss s4 (x0.length:Int))=true then((atI x0 s4).bind λ v9=>
(q5 v9).bind λ v14=>
if(!v14)=true then(some (.inr (.inr false)))
else((i64 (s4+(1:Int))).bind λ v22=>
some (.inl v22)))
else(some (.inr (.inl ())))
def jr(x0:List Stmt):Option Bool:=
Option.bind (α:=Unit⊕Bool) (zJ (λ s4=>xl x0 s4) (0:Int)) (Sum.elim (λ _b2=>
some (cmpI .leq (x0.length:Int) (8:Int))) some)
theorem Qn{x0:List Stmt}{r:Bool}(h:jr x0=some r):Fn prog 124 [dt x0] (dt r):=by
 unfold jr at h
 refine fnx (fn:=f124) 1 func124 rfl (oD rfl) rfl (λ M w0 _ st0=>?_)
 refine st0.sq1 [0] (λ _ _ st1=>?_)
 obtain⟨o2,p2,k2⟩:=bs h
 refine zl (λ a w=>∃ b2,o2=.inl b2/\(∃ M1 q2_0,Sx (Frm.of w0) 18 M M1 [oneB q2_0] [(0,dt x0)] [] a w)) ?_ ?_
 ·
  refine st1.sq1 [0,5,6,7] (λ _ _ st3=>wp_block ?_)
  refine zA p2 (λ s4 a w=>∃ M1 q4_0,Sx (Frm.of w0) 18 M M1 [oneB q4_0] [(0,dt x0),(5,dt x0),(6,dt (x0.length:Int)),(7,dt s4)] [] a w) fx ?_
  rintro s4 x4 a4 w4 ⟨M4,q4_0,st4⟩ hs4 hx4
  have h5:xl x0 s4=some x4:=hs4
  unfold xl at h5
  refine st4.sq1 [0,5,6,7,8] (λ _ _ st6=>wp_seq ?_)
  refine st6.cs rfl h5 (λ _ h7=>wp_skip (za (wp_seq (wp_block (wp_seq (wp_region_list ?_)))))) (λ _ h8=>wp_exit (ze (ze (zw ?_))))
  ·
   obtain⟨v9,p9,h10⟩:=bs h7
   refine st6.segA 2 [0,5,6,7,10] [] (λ _ _ st11=>?_)
   refine st11.alloc 0 rfl rfl kZ159 zrStmt (by simp) [0,5,6,7,10] rfl [] rfl rfl (λ b12 _ _ _ st12=>?_)
   refine st12.store (sb:=4) 0 FldS.id rfl rfl rfl kT159 rfl rfl (tp rfl) rfl [0,5,6,7] rfl [] rfl rfl (λ _ _ st13=>wpList_nil (za ?_))
   obtain⟨v14,p14,h15⟩:=bs h10
   refine st13.sq2 (sc rfl (zM rfl kT159 (tp rfl))<|sc rfl (oK (impl_stmtOk_w p14))<|segA) [0,5,6,7,13] (λ _ _ st16=>?_)
   refine st16.cs rfl h15 (λ _ h17=>?_) (λ _ h18=>wp_skip (zk (za ?_)))
   ·
    refine st16.sq1 [2] (λ _ _ st19=>wp_ret (zn (zd (zd (zn (zd ?_))))))
    have h20:=lo h17 hx4
    have h21:=jo h20 k2
    exact st19.ret rfl rfl h21
   obtain⟨v22,p22,h23⟩:=bs h18
   refine st16.rg1 [0,5,6,7] (λ _ _ st24=>za ?_)
   exact fl h23
  refine za ?_
  have h25:=lo h8 hx4
  exact fl h25
 rintro a2 w2 ⟨b2,rfl,⟨M2,q2_0,st2⟩⟩
 have h26:=jn k2
 refine st2.sq1 [2] (λ _ _ st27=>wp_ret ?_)
 exact st27.ret rfl rfl h26
def q6(x0:File):Option Bool:=
(yc x0.root (0:Int) (2:Int)).bind λ v2=>
(gO ((!v2) == false) (yX x0.pkg)).bind λ v3=>
(gO (((!v2)||(!v3)) == false) (yc x0.stamp (0:Int) (99:Int))).bind λ v4=>
(gO ((((!v2)||(!v3))||(!v4)) == false) (jr x0.body)).bind λ v5=>
if((((!v2)||(!v3))||(!v4))||(!v5))=true then(some false)
else(if x0.init=true then(some (decide (x0.pkg≠(⟨[]⟩:Str))&&decide (x0.name=(⟨[]⟩:Str))))
else((yt x0.name).bind λ v18=>
(gO (v18 == true) (wy x0.pkg x0.name)).bind λ v19=>
some (v18&&decide (v19≠(⟨[]⟩:Str)))))
theorem impl_fileOk_w{x0:File}{r:Bool}(h:q6 x0=some r):Fn prog 82 [dt x0] (dt r):=by
 unfold q6 at h
 refine fnx (fn:=f82) 0 func82 rfl (oD rfl) rfl (λ M _ _ st0=>?_)
 refine st0.sq1 [1] (λ _ _ st1=>wp_seq ?_)
 obtain⟨v2,p2,v3,p3,v4,p4,v5,p5,h9⟩:=bsD h
 refine st1.sq2 (sp 2 (r:=by exact sc rfl (oK (yQ p2))<|sp 4 (r:=by exact sg rfl rfl (λ hg=>oK (qN (gh hg p3)))<|sp 5 (r:=by exact sg rfl rfl (λ hg=>oK (yQ (gh hg p4)))<|sp 5 (r:=by exact sg rfl rfl (λ hg=>oK (Qn (gh hg p5)))<|segA))))) [1,24] (λ _ _ st10=>?_)
 refine st10.cs rfl h9 (λ _ h11=>?_) (λ _ h12=>wp_skip (za (wp_seq ?_)))
 ·
  refine st10.sq1 [2] (λ _ _ st13=>wp_ret (zd ?_))
  exact st13.ret rfl rfl h11
 refine st10.sq1 [1,26] (λ _ _ st14=>?_)
 refine st14.cs rfl h12 (λ _ h15=>?_) (λ _ h16=>wp_skip (za ?_))
 ·
  refine st14.sq1 [2] (λ _ _ st17=>wp_ret (zd ?_))
  exact st17.ret rfl rfl h15
 obtain⟨v18,p18,v19,p19,h21⟩:=bsB h16
 refine st14.sq2 (sp 2 (r:=by exact sc rfl (oK (wo p18))<|sp 5 (r:=by exact sg rfl rfl (λ hg=>oK (YL (gh hg p19)))<|segA))) [2] (λ _ _ st22=>wp_ret ?_)
 exact st22.ret rfl rfl h21
def xm(v10:File)(v25:List File)(s28:Int):Option (Int⊕(Unit⊕(Int⊕(Unit⊕Bool)))):=
if(cmpI .lss s28 (v25.length:Int))=true then((atI v25 s28).bind λ v33=>
(jm v10 v33).bind λ v38=>
if v38=true then(some (.inr (.inr (.inr (.inr false)))))
else((i64 (s28+(1:Int))).bind λ v48=>
some (.inl v48)))
else(some (.inr (.inl ())))
def xn(x0:Tree)(s4:Int):Option (Int⊕(Unit⊕Bool)):=
if(cmpI .lss s4 (x0.files.length:Int))=true then(Option.bind (α:=Unit⊕(Int⊕(Unit⊕Bool))) ((atI x0.files s4).bind λ v10=>
(q6 v10).bind λ v16=>
if(!v16)=true then(some (.inr (.inr (.inr false))))
else((Xq x0.files s4).bind λ v25=>
zJ (λ s28=>xm v10 v25 s28) (0:Int))) (Sum.elim (λ _b9=>
(i64 (s4+(1:Int))).bind λ v53=>
some (.inl v53)) some))
else(some (.inr (.inl ())))
def js(x0:Tree):Option Bool:=
Option.bind (α:=Unit⊕Bool) (zJ (λ s4=>xn x0 s4) (0:Int)) (Sum.elim (λ _b2=>
some (cmpI .leq (x0.files.length:Int) (12:Int))) some)
theorem Qo{x0:Tree}{r:Bool}(h:js x0=some r):Fn prog 75 [dt x0] (dt r):=by
 unfold js at h
 refine fnx (fn:=f75) 2 func75 rfl (oD rfl) rfl (λ M w0 _ st0=>?_)
 refine st0.sq1 [1] (λ _ _ st1=>?_)
 obtain⟨o2,p2,k2⟩:=bs h
 refine zl (λ a w=>∃ b2,o2=.inl b2/\(∃ M1 q2_0 q2_1,Sx (Frm.of w0) 36 M M1 [oneB q2_0,oneB q2_1] [(1,dptr x0)] [] a w)) ?_ ?_
 ·
  refine st1.sq1 [1,8,9,10] (λ _ _ st3=>wp_block ?_)
  refine zA p2 (λ s4 a w=>∃ M1 q4_0 q4_1,Sx (Frm.of w0) 36 M M1 [oneB q4_0,oneB q4_1] [(1,dptr x0),(8,dt x0.files),(9,dt (x0.files.length:Int)),(10,dt s4)] [] a w) fx ?_
  rintro s4 x4 a4 w4 ⟨M4,q4_0,q4_1,st4⟩ hs4 hx4
  have h5:xn x0 s4=some x4:=hs4
  unfold xn at h5
  refine st4.sq1 [1,8,9,10,11] (λ _ _ st6=>wp_seq ?_)
  refine st6.cs rfl h5 (λ _ h7=>wp_skip (za ?_)) (λ _ h8=>wp_exit (ze (ze (zw ?_))))
  ·
   obtain⟨o9,p9,k9⟩:=bs h7
   refine zl (λ a w=>∃ b9,o9=.inl b9/\(∃ M1 q9_0 q9_1,Sx (Frm.of w0) 36 M M1 [oneB q9_0,oneB q9_1] [(1,dptr x0),(8,dt x0.files),(9,dt (x0.files.length:Int)),(10,dt s4)] [] a w)) ?_ ?_
   ·
    refine wp_block (wp_seq (wp_region_list ?_))
    obtain⟨v10,p10,h11⟩:=bs p9
    refine st6.segA 3 [1,8,9,10,12,14] [] (λ _ _ st12=>?_)
    refine st12.alloc 0 rfl rfl kZ72 Qh (by simp) [1,8,9,10,12,14] rfl [] rfl rfl (λ b13 _ _ _ st13=>?_)
    refine st13.segA 1 [1,3,8,9,10,14] [(4,0)] (λ _ _ st14=>?_)
    refine st14.store (sb:=4) 0 FldS.id rfl rfl rfl kT72 rfl rfl (tp rfl) rfl [1,3,8,9,10] rfl [] rfl rfl (λ _ _ st15=>wpList_nil (za (wp_seq ?_)))
    obtain⟨v16,p16,h17⟩:=bs h11
    refine st15.sqB (sc rfl (zM rfl kT72 (tp rfl))<|sc rfl (oK (impl_fileOk_w p16))<|segA) [1,3,8,9,10,17] [(4,0)] (λ _ _ st18=>?_)
    refine st18.cs rfl h17 (λ _ h19=>?_) (λ _ h20=>wp_skip (za ?_))
    ·
     refine st18.sq1 [2] (λ _ _ st21=>wp_ret (zd (zn (zd (zd (zn (zd ?_)))))))
     have h22:=jo h19 k9
     have h23:=lo h22 hx4
     have h24:=jo h23 k2
     exact st21.ret rfl rfl h24
    obtain⟨v25,p25,h26⟩:=bs h20
    refine st18.sqB (sp 3 (r:=by exact sc rfl (xSliH rfl kS41 (tp rfl) (tp rfl) p25)<|segA)) [1,8,9,10,21,22,23] [(4,0)] (λ _ _ st27=>wp_block ?_)
    refine zA h26 (λ s28 a w=>∃ M1 q28_0 q28_1,Sx (Frm.of w0) 36 M M1 [oneB q28_0,oneB q28_1] [(1,dptr x0),(8,dt x0.files),(9,dt (x0.files.length:Int)),(10,dt s4),(21,dt v25),(22,dt (v25.length:Int)),(23,dt s28)] [(4,0,dbox q28_0 0 v10)] a w) fx ?_
    rintro s28 x28 a28 w28 ⟨M28,q28_0,q28_1,st28⟩ hs28 hx28
    have h29:xm v10 v25 s28=some x28:=hs28
    unfold xm at h29
    refine st28.sqA [1,8,9,10,21,22,23,24] [(4,0)] (λ _ _ st30=>wp_seq ?_)
    refine st30.cs rfl h29 (λ _ h31=>wp_skip (za (wp_seq (wp_block (wp_seq (wp_region_list ?_)))))) (λ _ h32=>wp_exit (ze (ze (zw ?_))))
    ·
     obtain⟨v33,p33,h34⟩:=bs h31
     refine st30.segA 2 [1,8,9,10,21,22,23,26] [(4,0)] (λ _ _ st35=>?_)
     refine st35.alloc 1 rfl rfl kZ72 Qh (by simp) [1,8,9,10,21,22,23,26] rfl [4] rfl rfl (λ b36 _ _ _ st36=>?_)
     refine st36.store (sb:=6) 1 FldS.id rfl rfl rfl kT72 rfl rfl (tp rfl) rfl [1,8,9,10,21,22,23] rfl [4] rfl rfl (λ _ _ st37=>wpList_nil (za ?_))
     obtain⟨v38,p38,h39⟩:=bs h34
     refine st37.sqB (sc rfl (zM rfl kT72 (tp rfl))<|sc rfl (zM rfl kT72 (tp rfl))<|sc rfl (oK (Xu p38))<|.nil) [1,8,9,10,21,22,23,29] [(4,0)] (λ _ _ st40=>?_)
     refine st40.cs rfl h39 (λ _ h41=>?_) (λ _ h42=>wp_skip (zk (za ?_)))
     ·
      refine st40.sq1 [2] (λ _ _ st43=>wp_ret (zn (zd (zd (zn (zn (zd (zd (zn (zd ?_))))))))))
      have h44:=lo h41 hx28
      have h45:=jo h44 k9
      have h46:=lo h45 hx4
      have h47:=jo h46 k2
      exact st43.ret rfl rfl h47
     obtain⟨v48,p48,h49⟩:=bs h42
     refine st40.rgA [1,8,9,10,21,22,23] [(4,0)] (λ _ _ st50=>za ?_)
     exact fl h49
    refine zk (za ?_)
    have h51:=lo h32 hx28
    exact fl h51
   rintro a9 w9 ⟨b9,rfl,⟨M9,q9_0,q9_1,st9⟩⟩
   have h52:=jn k9
   obtain⟨v53,p53,h54⟩:=bs h52
   refine st9.rg1 [1,8,9,10] (λ _ _ st55=>za ?_)
   exact fl h54
  refine za ?_
  have h56:=lo h8 hx4
  exact fl h56
 rintro a2 w2 ⟨b2,rfl,⟨M2,q2_0,q2_1,st2⟩⟩
 have h57:=jn k2
 refine st2.sq1 [2] (λ _ _ st58=>wp_ret ?_)
 exact st58.ret rfl rfl h57
def wq(x0:Tree)(x1:Int)(x2:Str)(s4:Int):Option (Int⊕(Unit⊕Bool)):=
if(cmpI .lss s4 (x0.files.length:Int))=true then((atI x0.files s4).bind λ v9=>
(gO (cmpI .eql v9.root x1 == true) (jq v9.pkg x2)).bind λ v14=>
if(cmpI .eql v9.root x1&&v14)=true then(some (.inr (.inr true)))
else((i64 (s4+(1:Int))).bind λ v22=>
some (.inl v22)))
else(some (.inr (.inl ())))
def q7(x0:Tree)(x1:Int)(x2:Str):Option Bool:=
Option.bind (α:=Unit⊕Bool) (zJ (λ s4=>wq x0 x1 x2 s4) (0:Int)) (Sum.elim (λ _b2=>
some (decide (x2=(⟨[]⟩:Str)))) some)
theorem impl_hasDir_w{x0:Tree}{x1:Int}{x2:Str}{r:Bool}(h:q7 x0 x1 x2=some r):Fn prog 141 [dt x0,dt x1,dt x2] (dt r):=by
 unfold q7 at h
 refine fnx (fn:=f141) 1 func141 rfl (oD rfl) rfl (λ M w0 _ st0=>?_)
 refine st0.sq1 [1,2,3] (λ _ _ st1=>?_)
 obtain⟨o2,p2,k2⟩:=bs h
 refine zl (λ a w=>∃ b2,o2=.inl b2/\(∃ M1 q2_0,Sx (Frm.of w0) 29 M M1 [oneB q2_0] [(2,dt x2)] [] a w)) ?_ ?_
 ·
  refine st1.sq1 [1,2,10,11,12] (λ _ _ st3=>wp_block ?_)
  refine zA p2 (λ s4 a w=>∃ M1 q4_0,Sx (Frm.of w0) 29 M M1 [oneB q4_0] [(1,dt x1),(2,dt x2),(10,dt x0.files),(11,dt (x0.files.length:Int)),(12,dt s4)] [] a w) fx ?_
  rintro s4 x4 a4 w4 ⟨M4,q4_0,st4⟩ hs4 hx4
  have h5:wq x0 x1 x2 s4=some x4:=hs4
  unfold wq at h5
  refine st4.sq1 [1,2,10,11,12,13] (λ _ _ st6=>wp_seq ?_)
  refine st6.cs rfl h5 (λ _ h7=>wp_skip (za (wp_seq (wp_block (wp_seq (wp_region_list ?_)))))) (λ _ h8=>wp_exit (ze (ze (zw ?_))))
  ·
   obtain⟨v9,p9,h10⟩:=bs h7
   refine st6.segA 2 [1,2,10,11,12,15] [] (λ _ _ st11=>?_)
   refine st11.alloc 0 rfl rfl kZ72 Qh (by simp) [1,2,10,11,12,15] rfl [] rfl rfl (λ b12 _ _ _ st12=>?_)
   refine st12.store (sb:=8) 0 FldS.id rfl rfl rfl kT72 rfl rfl (tp rfl) rfl [1,2,10,11,12] rfl [] rfl rfl (λ _ _ st13=>wpList_nil (za ?_))
   obtain⟨v14,p14,h15⟩:=bs h10
   refine st13.sq2 (sc rfl (yV File.fld0 rfl kF72_0 (tp rfl))<|sc rfl (zM rfl kT3 (tp rfl))<|sp 3 (r:=by exact sg rfl rfl (λ hg=>yV File.fld1 rfl kF72_1 (tp rfl))<|sg rfl rfl (λ hg=>zM rfl kT9 (zf hg rfl))<|sp 1 (r:=by exact sg rfl rfl (λ hg=>oK (Wi (gh hg p14)))<|segA))) [1,2,10,11,12,25] (λ _ _ st16=>?_)
   refine st16.cs rfl h15 (λ _ h17=>?_) (λ _ h18=>wp_skip (zk (za ?_)))
   ·
    refine st16.sq1 [6] (λ _ _ st19=>wp_ret (zn (zd (zd (zn (zd ?_))))))
    have h20:=lo h17 hx4
    have h21:=jo h20 k2
    exact st19.ret rfl rfl h21
   obtain⟨v22,p22,h23⟩:=bs h18
   refine st16.rg1 [1,2,10,11,12] (λ _ _ st24=>za ?_)
   exact fl h23
  refine za ?_
  have h25:=lo h8 hx4
  exact fl h25
 rintro a2 w2 ⟨b2,rfl,⟨M2,q2_0,st2⟩⟩
 have h26:=jn k2
 refine st2.sq1 [6] (λ _ _ st27=>wp_ret ?_)
 exact st27.ret rfl rfl h26
def jt:Option Spec:=
some (⟨(0:Int),(-1:Int),([]:List Int)⟩:Spec)
theorem YQ{r:Spec}(h:jt=some r):Fn prog 56 [] (dt r):=by
 unfold jt at h
 refine fnx (fn:=f56) 1 func56 rfl (oD rfl) rfl (λ M _ _ st0=>wp_seq (wp_region_list ?_))
 refine st0.alloc 0 rfl rfl kZ37 zS (by simp) [] rfl [] rfl rfl (λ b1 _ _ _ st1=>wpList_nil (za (wp_seq (wp_region_list ?_))))
 refine st1.segB 2 (sc rfl (Yo (opds:=[]) (α:=Int) rfl kS30 kY30 rfl rfl (by decide) .nil)<|sc rfl (ZL (parts:=[(0,.const (.int .i64 0)),(1,.const (.int .i64 (-1))),(2,.tmp 1)]) (ns:=[1,1,1]) (zs:=zpSpec) rfl rfl kB37 kC37 (λ w a hl=>by
 intro p hp;simp only[List.mem_cons,List.not_mem_nil,or_false] at hp
 rcases hp with rfl | rfl | rfl
 ·
  exact⟨by decide,rfl⟩
 ·
  exact⟨by decide,rfl⟩
 ·
  exact⟨by decide,Rep.len (α:=List Int) (OpdR.cells (tp rfl) hl)⟩) (λ w a hl=>Spec.parts (x:=(⟨(0:Int),(-1:Int),([]:List Int)⟩:Spec)) (OpdR.cells cI hl) (OpdR.cells cI hl) (OpdR.cells (tp rfl) hl)))<|.nil) [2] [(0,0)] (λ _ _ st2=>?_)
 refine st2.store (sb:=0) 0 FldS.id rfl rfl rfl kT37 rfl rfl (tp rfl) rfl [] rfl [] rfl rfl (λ _ _ st3=>wpList_nil (za (wp_ret ?_)))
 exact st3.ret_box rfl kT37 rfl h
def xo(x0:List Int)(s4:Int):Option (Int⊕(Unit⊕Bool)):=
if(cmpI .lss s4 (x0.length:Int))=true then((atI x0 s4).bind λ v9=>
(yc v9 (0:Int) (2:Int)).bind λ v12=>
(gO ((!v12) == false) (Xq x0 s4)).bind λ v13=>
(gO ((!v12) == false) (yF v13 v9)).bind λ v14=>
if((!v12)||v14)=true then(some (.inr (.inr false)))
else((i64 (s4+(1:Int))).bind λ v24=>
some (.inl v24)))
else(some (.inr (.inl ())))
def ju(x0:List Int):Option Bool:=
Option.bind (α:=Unit⊕Bool) (zJ (λ s4=>xo x0 s4) (0:Int)) (Sum.elim (λ _b2=>
some true) some)
theorem Qp{x0:List Int}{r:Bool}(h:ju x0=some r):Fn prog 30 [dt x0] (dt r):=by
 unfold ju at h
 refine fnx (fn:=f30) 0 func30 rfl (oD rfl) rfl (λ M w0 _ st0=>?_)
 refine st0.sq1 [0] (λ _ _ st1=>?_)
 obtain⟨o2,p2,k2⟩:=bs h
 refine zl (λ a w=>∃ b2,o2=.inl b2/\Sx (Frm.of w0) 23 M M [] [] [] a w) ?_ ?_
 ·
  refine st1.sq1 [0,5,6,7] (λ _ _ st3=>wp_block ?_)
  refine zA p2 (λ s4 a w=>Sx (Frm.of w0) 23 M M [] [(0,dt x0),(5,dt x0),(6,dt (x0.length:Int)),(7,dt s4)] [] a w) (st3.sel0 [0,5,6,7] rfl) ?_
  rintro s4 x4 a4 w4 st4 hs4 hx4
  have h5:xo x0 s4=some x4:=hs4
  unfold xo at h5
  refine st4.sq1 [0,5,6,7,8] (λ _ _ st6=>wp_seq ?_)
  refine st6.cs rfl h5 (λ _ h7=>wp_skip (za (wp_seq (wp_block ?_)))) (λ _ h8=>wp_exit (ze (ze (zw ?_))))
  ·
   obtain⟨v9,p9,h10⟩:=bs h7
   refine st6.sq1 [0,3,4,5,6,7] (λ _ _ st11=>?_)
   obtain⟨v12,p12,v13,p13,v14,p14,h17⟩:=bsC h10
   refine st11.sq2 (sp 1 (r:=by exact sc rfl (oK (yQ p12))<|sp 4 (r:=by exact sg rfl rfl (λ hg=>xSliH rfl kS30 (zf hg rfl) (zf hg rfl) (gh hg p13))<|sp 1 (r:=by exact sg rfl rfl (λ hg=>oK (YU (gh hg p14)))<|segA)))) [0,5,6,7,21] (λ _ _ st18=>?_)
   refine st18.cs rfl h17 (λ _ h19=>?_) (λ _ h20=>wp_skip (zk (za ?_)))
   ·
    refine st18.sq1 [2] (λ _ _ st21=>wp_ret (zn (zd (zd (zn (zd ?_))))))
    have h22:=lo h19 hx4
    have h23:=jo h22 k2
    exact st21.ret rfl rfl h23
   obtain⟨v24,p24,h25⟩:=bs h20
   refine st18.rg1 [0,5,6,7] (λ _ _ st26=>za ?_)
   exact⟨_,(Option.some.inj h25).symm,st26.sel0 [0,5,6,7] rfl⟩
  refine za ?_
  have h27:=lo h8 hx4
  exact⟨_,(Option.some.inj h27).symm,st6.sel0 [] rfl⟩
 rintro a2 w2 ⟨b2,rfl,st2⟩
 have h28:=jn k2
 refine st2.sq1 [2] (λ _ _ st29=>wp_ret ?_)
 exact st29.ret rfl rfl h28
def wr(x0:Tree)(x1:File)(s4:Int):Option (Int⊕(Unit⊕Int)):=
if(cmpI .lss s4 (x0.files.length:Int))=true then((atI x0.files s4).bind λ v9=>
(jm x1 v9).bind λ v15=>
if v15=true then(some (.inr (.inr s4)))
else((i64 (s4+(1:Int))).bind λ v23=>
some (.inl v23)))
else(some (.inr (.inl ())))
def jZ(x0:Tree)(x1:File):Option Int:=
Option.bind (α:=Unit⊕Int) (zJ (λ s4=>wr x0 x1 s4) (0:Int)) (Sum.elim (λ _b2=>
some (-1:Int)) some)
theorem W0{x0:Tree}{x1:File}{r:Int}(h:jZ x0 x1=some r):Fn prog 140 [dt x0,dt x1] (dt r):=by
 unfold jZ at h
 refine fnx (fn:=f140) 1 func140 rfl (oD rfl) rfl (λ M w0 _ st0=>?_)
 refine st0.sq1 [2,3] (λ _ _ st1=>?_)
 obtain⟨o2,p2,k2⟩:=bs h
 refine zl (λ a w=>∃ b2,o2=.inl b2/\(∃ M1 q2_0,Sx (Frm.of w0) 20 M M1 [oneB q2_0] [] [] a w)) ?_ ?_
 ·
  refine st1.sq1 [3,8,9,10] (λ _ _ st3=>wp_block ?_)
  refine zA p2 (λ s4 a w=>∃ M1 q4_0,Sx (Frm.of w0) 20 M M1 [oneB q4_0] [(3,dptr x1),(8,dt x0.files),(9,dt (x0.files.length:Int)),(10,dt s4)] [] a w) fx ?_
  rintro s4 x4 a4 w4 ⟨M4,q4_0,st4⟩ hs4 hx4
  have h5:wr x0 x1 s4=some x4:=hs4
  unfold wr at h5
  refine st4.sq1 [3,8,9,10,11] (λ _ _ st6=>wp_seq ?_)
  refine st6.cs rfl h5 (λ _ h7=>wp_skip (za (wp_seq (wp_block (wp_seq (wp_region_list ?_)))))) (λ _ h8=>wp_exit (ze (ze (zw ?_))))
  ·
   obtain⟨v9,p9,h10⟩:=bs h7
   refine st6.segA 3 [3,8,9,10,12,14] [] (λ _ _ st11=>?_)
   refine st11.alloc 0 rfl rfl kZ72 Qh (by simp) [3,8,9,10,12,14] rfl [] rfl rfl (λ b12 _ _ _ st12=>?_)
   refine st12.segA 1 [3,5,8,9,10,14] [(6,0)] (λ _ _ st13=>?_)
   refine st13.store (sb:=6) 0 FldS.id rfl rfl rfl kT72 rfl rfl (tp rfl) rfl [3,5,8,9,10] rfl [] rfl rfl (λ _ _ st14=>wpList_nil (za ?_))
   obtain⟨v15,p15,h16⟩:=bs h10
   refine st14.sq2 (sp 1 (r:=by exact sc rfl (zM rfl kT72 (tp rfl))<|sc rfl (oK (Xu p15))<|.nil)) [3,5,8,9,10,17] (λ _ _ st17=>?_)
   refine st17.cs rfl h16 (λ _ h18=>?_) (λ _ h19=>wp_skip (zk (za ?_)))
   ·
    refine st17.sq1 [4] (λ _ _ st20=>wp_ret (zn (zd (zd (zn (zd ?_))))))
    have h21:=lo h18 hx4
    have h22:=jo h21 k2
    exact st20.ret rfl rfl h22
   obtain⟨v23,p23,h24⟩:=bs h19
   refine st17.rg1 [3,8,9,10] (λ _ _ st25=>za ?_)
   exact fl h24
  refine za ?_
  have h26:=lo h8 hx4
  exact fl h26
 rintro a2 w2 ⟨b2,rfl,⟨M2,q2_0,st2⟩⟩
 have h27:=jn k2
 refine st2.sq1 [4] (λ _ _ st28=>wp_ret ?_)
 exact st28.ret rfl rfl h27
open Go.RowKit Tryz
set_option maxRecDepth 10000
theorem kN157:fnB prog 157=true:=by kernel_rfl
theorem kN158:fnB prog 158=true:=by kernel_rfl
def q8(x0:List Str):Option (List Str):=
(yY x0).bind λ v4=>
(yB v4).bind λ v8=>
(appO 16 [] v8).bind λ v11=>
some v11
theorem impl_sorted_w{x0:List Str}{r:List Str}(h:q8 x0=some r):Jh prog 123 9 x0 [] r:=by
 unfold q8 at h
 refine fnxT (fn:=f123) 1 2 func123 rfl (oD rfl) rfl (λ M g _ _ st0=>?_)
 refine st0.sqB (sc rfl (oA rfl (ZD (α:=Str) (e:=9)))<|.nil) [] [(0,1)] (λ _ _ st1=>wp_seq (wp_region_list ?_))
 refine st1.segA 1 [] [(0,1),(3,1)] (λ _ _ st2=>?_)
 obtain⟨v4,p4,h5⟩:=bs h
 refine st2.inpl (sb:=0) 1 rfl rfl kN157 rfl rfl rfl (Yv p4) [] rfl [] rfl rfl ⟨rfl,rfl,by decide⟩ (λ _ _ _ st3=>wpList_nil (za (wp_seq (wp_region_list ?_))))
 refine st3.segB 2 (sc rfl (qh (α:=Str) (e:=9) rfl kS75)<|segA) [] [(5,0),(6,1)] (λ _ _ st6=>?_)
 obtain⟨v8,p8,h9⟩:=bs h5
 refine st6.take (l:=[]) 1 rfl rfl kN158 rfl rfl .nil (Z0 p8) [] rfl [5] rfl rfl (λ g7 _ _ _ st7=>?_)
 obtain⟨v11,p11,h12⟩:=bs h9
 refine st7.app 0 rfl rfl kE75 rfl rfl rfl row_tip p11 [] rfl [] rfl rfl (λ g10 _ _ _ st10=>?_)
 refine st10.segA 1 [] [(2,0)] (λ _ _ st13=>wpList_nil (za (wp_ret ?_)))
 exact st13.ret_take 0 rfl rfl iI h12
end Go.Proofs.YtdoidiipacdbpaaGreatDoor
