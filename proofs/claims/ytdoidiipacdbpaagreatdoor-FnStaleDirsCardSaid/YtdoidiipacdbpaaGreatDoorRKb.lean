import Derived.Test.YtdoidiipacdbpaaGreatDoorRB
import Derived.Test.YtdoidiipacdbpaaGreatDoorRO
import Derived.Test.YtdoidiipacdbpaaGreatDoorRK
namespace Go.Proofs.YtdoidiipacdbpaaGreatDoor
open Go.RowKit Tryz
attribute [local irreducible] OpRel OpdR
set_option maxRecDepth 10000
set_option maxHeartbeats 1600000
theorem kN131:fnB prog 131=true:=by kernel_rfl
theorem kN125:fnB prog 125=true:=by kernel_rfl
theorem kN128:fnB prog 128=true:=by kernel_rfl
theorem kN99:fnB prog 99=true:=by kernel_rfl
theorem kN84:fnB prog 84=true:=by kernel_rfl
theorem kN86:fnB prog 86=true:=by kernel_rfl
theorem kN134:fnB prog 134=true:=by kernel_rfl
theorem kN115:fnB prog 115=true:=by kernel_rfl
theorem kN133:fnB prog 133=true:=by kernel_rfl
theorem kN136:fnB prog 136=true:=by kernel_rfl
theorem kN51:fnB prog 51=true:=by kernel_rfl
theorem kN97:fnB prog 97=true:=by kernel_rfl
theorem kN48:fnB prog 48=true:=by kernel_rfl
theorem kN53:fnB prog 53=true:=by kernel_rfl
theorem kN52:fnB prog 52=true:=by kernel_rfl
theorem kN85:fnB prog 85=true:=by kernel_rfl
instance iF35_0FcC:FldO prog 35 0 0:=⟨jE⟩
instance iF35_1FcC:FldO prog 35 1 1:=⟨WE⟩
instance iF35_2FcC:FldO prog 35 2 2:=⟨Qo⟩
instance iF77_2FcC:FldO prog 77 2 2:=⟨Xb⟩
def jQ(x0:List Dir)(x1:Int)(x2:Str)(s4:Int):Option (Int⊕(Unit⊕Int)):=
if(cmpI .lss s4 (x0.length:Int))=true then((atI x0 s4).bind λ v9=>
(gO (cmpI .eql v9.root x1 == true) (atI x0 s4)).bind λ v10=>
if(cmpI .eql v9.root x1&&decide (v10.pkg=x2))=true then(some (.inr (.inr s4)))
else((i64 (s4+(1:Int))).bind λ v19=>
some (.inl v19)))
else(some (.inr (.inl ())))
def j5(x0:List Dir)(x1:Int)(x2:Str):Option Int:=
Option.bind (α:=Unit⊕Int) (zS (λ s4=>jQ x0 x1 x2 s4) (0:Int)) (Sum.elim (λ _b2=>
some (-1:Int)) some)
theorem Xj{x0:List Dir}{x1:Int}{x2:Str}{r:Int}(h:j5 x0 x1 x2=some r):Fn prog 125 [dt x0,dt x1,dt x2] (dt r):=by
 unfold j5 at h
 refine fnx (fn:=f125) 0 func125 rfl (oD rfl) rfl (λ M w0 _ st0=>?_)
 refine st0.sq1 [0,1,2] (λ _ _ st1=>?_)
 obtain⟨o2,p2,k2⟩:=bs h
 refine zm (λ a w=>∃ b2,o2=.inl b2/\Sx (Frm.of w0) 31 M M [] [] [] a w) ?_ ?_
 ·
  refine st1.sq1 [0,1,2,7] (λ _ _ st3=>wp_block ?_)
  refine zL p2 (λ s4 a w=>Sx (Frm.of w0) 31 M M [] [(0,dt x0),(1,dt x1),(2,dt x2),(7,dt s4)] [] a w) (st3.sel0 [0,1,2,7] rfl) ?_
  rintro s4 z4 a4 w4 st4 hs4 hx4
  have h5:jQ x0 x1 x2 s4=some z4:=hs4
  unfold jQ at h5
  refine wp_seq ?_
  refine st4.sq1 [0,1,2,7,11] (λ _ _ st6=>?_)
  refine st6.cs rfl h5 (λ _ h7=>wp_skip (za (wp_seq (wp_block ?_)))) (λ _ h8=>wp_exit (zh (zh (zE ?_))))
  ·
   obtain⟨v9,p9,v10,p10,h12⟩:=bsB h7
   refine st6.sq2 (sP 10 (r:=by exact sg rfl rfl (λ hg=>xIdx rfl kS33 (ze hg rfl) (ze hg rfl) (gh hg p10))<|segC)) [0,1,2,7,29] (λ _ _ st13=>?_)
   refine st13.cs rfl h12 (λ _ h14=>?_) (λ _ h15=>wp_skip (zg (za ?_)))
   ·
    refine st13.sq1 [6] (λ _ _ st16=>wp_ret (zt (zd (zd (zt (zd ?_))))))
    have h17:=lo h14 hx4
    have h18:=jo h17 k2
    exact st16.ret rfl rfl h18
   obtain⟨v19,p19,h20⟩:=bs h15
   refine st13.rg1 [0,1,2,7] (λ _ _ st21=>za ?_)
   exact⟨_,(Option.some.inj h20).symm,st21.sel0 [0,1,2,7] rfl⟩
  refine za ?_
  have h22:=lo h8 hx4
  exact⟨_,(Option.some.inj h22).symm,st6.sel0 [] rfl⟩
 rintro a2 w2 ⟨b2,rfl,st2⟩
 have h23:=jn k2
 refine st2.sq1 [6] (λ _ _ st24=>wp_ret ?_)
 exact st24.ret rfl rfl h23
def wi(x0:List Dir)(s4:Int):Option (Int⊕(Unit⊕Bool)):=
if(cmpI .lss s4 (x0.length:Int))=true then((atI x0 s4).bind λ v9=>
(xh v9.root (0:Int) (2:Int)).bind λ v10=>
(gO ((!v10) == false) (atI x0 s4)).bind λ v11=>
(gO ((!v10) == false) (qj v11.pkg)).bind λ v12=>
(gO (((!v10)||(!v12)) == false) (atI x0 s4)).bind λ v13=>
(gO (((!v10)||(!v12)) == false) (xh v13.stamp (0:Int) (200:Int))).bind λ v14=>
(gO ((((!v10)||(!v12))||(!v14)) == false) (atI x0 s4)).bind λ v15=>
(gO ((((!v10)||(!v12))||(!v14)) == false) (atI x0 s4)).bind λ v16=>
(gO ((((!v10)||(!v12))||(!v14)) == false) (j5 x0 v15.root v16.pkg)).bind λ v17=>
(gO (((((!v10)||(!v12))||(!v14))||cmpI .lss v17 s4) == false) (atI x0 s4)).bind λ v18=>
if(((((!v10)||(!v12))||(!v14))||cmpI .lss v17 s4)||cmpI .gtr (v18.names.length:Int) (12:Int))=true then(some (.inr (.inr false)))
else((i64 (s4+(1:Int))).bind λ v35=>
some (.inl v35)))
else(some (.inr (.inl ())))
def jv(x0:List Dir):Option Bool:=
Option.bind (α:=Unit⊕Bool) (zS (λ s4=>wi x0 s4) (0:Int)) (Sum.elim (λ _b2=>
some (cmpI .leq (x0.length:Int) (20:Int))) some)
theorem Wj{x0:List Dir}{r:Bool}(h:jv x0=some r):Fn prog 91 [dt x0] (dt r):=by
 unfold jv at h
 refine fnx (fn:=f91) 0 func91 rfl (oD rfl) rfl (λ M w0 _ st0=>?_)
 refine st0.sq1 [0] (λ _ _ st1=>?_)
 obtain⟨o2,p2,k2⟩:=bs h
 refine zm (λ a w=>∃ b2,o2=.inl b2/\Sx (Frm.of w0) 63 M M [] [(0,dt x0)] [] a w) ?_ ?_
 ·
  refine st1.sq1 [0,3] (λ _ _ st3=>wp_block ?_)
  refine zL p2 (λ s4 a w=>Sx (Frm.of w0) 63 M M [] [(0,dt x0),(3,dt s4)] [] a w) (st3.sel0 [0,3] rfl) ?_
  rintro s4 z4 a4 w4 st4 hs4 hx4
  have h5:wi x0 s4=some z4:=hs4
  unfold wi at h5
  refine wp_seq ?_
  refine st4.sq1 [0,3,7] (λ _ _ st6=>?_)
  refine st6.cs rfl h5 (λ _ h7=>wp_skip (za (wp_seq (wp_block (wp_seq ?_))))) (λ _ h8=>wp_exit (zh (zh (zE ?_))))
  ·
   obtain⟨v9,p9,v10,p10,v11,p11,v12,p12,h22⟩:=bsD h7
   obtain⟨v13,p13,v14,p14,v15,p15,v16,p16,h26⟩:=bsD h22
   obtain⟨v17,p17,v18,p18,h28⟩:=bsB h26
   refine st6.drA (D:=[_,_,_,_,_,_,_,_,_,_,_,_,_,_,_,_,_,_,_,_,_,_,_,_,_,_,_,_,_,_,_,_,_,_,_,_,_,_,_,_,_,_,_,_,_,_,_,_,_,_]) zD [[(0,nS)],[(3,nS)],[(10,0),(11,1)],[(12,2)],[(13,3)],[(14,4)],[(15,5)],[(16,6)],[(0,nS),(17,7)],[(3,nS),(17,7)],[(18,8),(19,9),(17,7)],[(20,10),(17,7)],[(21,11),(17,7)],[(22,12),(17,7)],[(23,13),(17,7)],[(17,7),(24,14)],[(25,15)],[(0,nS),(26,16)],[(3,nS),(26,16)],[(27,17),(28,18),(26,16)],[(29,19),(26,16)],[(30,20),(26,16)],[(31,21),(26,16)],[(32,22),(26,16)],[(26,16),(33,23)],[(34,24)],[(0,nS),(35,25)],[(0,nS),(35,25)],[(3,nS),(35,25)],[(37,27),(38,28),(35,25)],[(39,29),(35,25)],[(40,30),(35,25)],[(0,nS),(35,25)],[(3,nS),(35,25)],[(42,32),(43,33),(35,25)],[(44,34),(35,25)],[(45,35),(35,25)],[(36,26),(41,31),(46,36),(35,25)],[(3,nS),(35,25)],[(47,37),(48,38),(35,25)],[(35,25),(49,39)],[(50,40)],[(0,nS),(51,41)],[(3,nS),(51,41)],[(52,42),(53,43),(51,41)],[(54,44),(51,41)],[(55,45),(51,41)],[(56,46),(51,41)],[(57,47),(51,41)],[(51,41),(58,48)]] [0,3,59] [] (λ _ _ st29=>?_) (hs:=rc rfl rfl (oM rfl (tp rfl))<|rc rfl rfl (oM rfl (tp rfl))<|rc rfl rfl (xIdx rfl kS33 (tp rfl) (tp rfl) p9)<|rc rfl rfl (zv Dir.fld0 rfl YF (tp rfl))<|rc rfl rfl (zp rfl kT3 (tp rfl))<|rc rfl rfl (zo (l:=[.tmp 14,.const (.int .i64 0),.const (.int .i64 2)]) rfl kN92 (.cons (tp rfl) (.cons cI (.cons cI .nil))) (wQ p10))<|rc rfl rfl (yE rfl (tp rfl))<|rc rfl rfl (oM rfl (tp rfl))<|rg rfl rfl rfl (λ hg=>oM rfl (tp rfl))<|rg rfl rfl rfl (λ hg=>oM rfl (tp rfl))<|rg rfl rfl rfl (λ hg=>xIdx rfl kS33 (ze hg rfl) (ze hg rfl) (gh hg p11))<|rg rfl rfl rfl (λ hg=>zv Dir.fld1 rfl YG (ze hg rfl))<|rg rfl rfl rfl (λ hg=>zp rfl kT9 (ze hg rfl))<|rg rfl rfl rfl (λ hg=>zo (l:=[.tmp 22]) rfl kN131 (.cons (ze hg rfl) .nil) (JN (gh hg p12)))<|rg rfl rfl rfl (λ hg=>yE rfl (ze hg rfl))<|rc rfl rfl (yU rfl (tp rfl) (zb rfl))<|rc rfl rfl (oM rfl (tp rfl))<|rg rfl rfl rfl (λ hg=>oM rfl (tp rfl))<|rg rfl rfl rfl (λ hg=>oM rfl (tp rfl))<|rg rfl rfl rfl (λ hg=>xIdx rfl kS33 (ze hg rfl) (ze hg rfl) (gh hg p13))<|rg rfl rfl rfl (λ hg=>zv Dir.fld2 rfl Xb (ze hg rfl))<|rg rfl rfl rfl (λ hg=>zp rfl kT3 (ze hg rfl))<|rg rfl rfl rfl (λ hg=>zo (l:=[.tmp 31,.const (.int .i64 0),.const (.int .i64 200)]) rfl kN92 (.cons (ze hg rfl) (.cons cI (.cons cI .nil))) (wQ (gh hg p14)))<|rg rfl rfl rfl (λ hg=>yE rfl (ze hg rfl))<|rc rfl rfl (yU rfl (tp rfl) (zb rfl))<|rc rfl rfl (oM rfl (tp rfl))<|rg rfl rfl rfl (λ hg=>oM rfl (tp rfl))<|rg rfl rfl rfl (λ hg=>oM rfl (tp rfl))<|rg rfl rfl rfl (λ hg=>oM rfl (tp rfl))<|rg rfl rfl rfl (λ hg=>xIdx rfl kS33 (ze hg rfl) (ze hg rfl) (gh hg p15))<|rg rfl rfl rfl (λ hg=>zv Dir.fld0 rfl YF (ze hg rfl))<|rg rfl rfl rfl (λ hg=>zp rfl kT3 (ze hg rfl))<|rg rfl rfl rfl (λ hg=>oM rfl (tp rfl))<|rg rfl rfl rfl (λ hg=>oM rfl (tp rfl))<|rg rfl rfl rfl (λ hg=>xIdx rfl kS33 (ze hg rfl) (ze hg rfl) (gh hg p16))<|rg rfl rfl rfl (λ hg=>zv Dir.fld1 rfl YG (ze hg rfl))<|rg rfl rfl rfl (λ hg=>zp rfl kT9 (ze hg rfl))<|rg rfl rfl rfl (λ hg=>zo (l:=[.tmp 36,.tmp 41,.tmp 46]) rfl kN125 (.cons (ze hg rfl) (.cons (ze hg rfl) (.cons (ze hg rfl) .nil))) (Xj (gh hg p17)))<|rg rfl rfl rfl (λ hg=>oM rfl (tp rfl))<|rg rfl rfl rfl (λ hg=>oCI rfl (ze hg rfl) (ze hg rfl))<|rc rfl rfl (yU rfl (tp rfl) (zb rfl))<|rc rfl rfl (oM rfl (tp rfl))<|rg rfl rfl rfl (λ hg=>oM rfl (tp rfl))<|rg rfl rfl rfl (λ hg=>oM rfl (tp rfl))<|rg rfl rfl rfl (λ hg=>xIdx rfl kS33 (ze hg rfl) (ze hg rfl) (gh hg p18))<|rg rfl rfl rfl (λ hg=>zv Dir.fld3 rfl YH (ze hg rfl))<|rg rfl rfl rfl (λ hg=>zp rfl kT75 (ze hg rfl))<|rg rfl rfl rfl (λ hg=>jJ rfl kL75 (ze hg rfl))<|rg rfl rfl rfl (λ hg=>oCI rfl (ze hg rfl) cI)<|rc rfl rfl (yU rfl (tp rfl) (zb rfl))<|.nil)
   refine za ?_
   refine st29.cs rfl h28 (λ _ h30=>?_) (λ _ h31=>wp_skip (zg (za ?_)))
   ·
    refine st29.sq1 [2] (λ _ _ st32=>wp_ret (zt (zd (zd (zt (zd ?_))))))
    have h33:=lo h30 hx4
    have h34:=jo h33 k2
    exact st32.ret rfl rfl h34
   obtain⟨v35,p35,h36⟩:=bs h31
   refine st29.rg1 [0,3] (λ _ _ st37=>za ?_)
   exact⟨_,(Option.some.inj h36).symm,st37.sel0 [0,3] rfl⟩
  refine za ?_
  have h38:=lo h8 hx4
  exact⟨_,(Option.some.inj h38).symm,st6.sel0 [0] rfl⟩
 rintro a2 w2 ⟨b2,rfl,st2⟩
 have h39:=jn k2
 refine st2.sq1 [2] (λ _ _ st40=>wp_ret ?_)
 exact st40.ret rfl rfl h39
def wD(x0:Finder):Option Bool:=
(jv x0.dirs).bind λ v2=>
(gO (v2 == true) (xh x0.fills (0:Int) (1000:Int))).bind λ v3=>
(gO ((v2&&v3) == true) (xh x0.hits (0:Int) (1000:Int))).bind λ v4=>
some ((v2&&v3)&&v4)
theorem XD{x0:Finder}{r:Bool}(h:wD x0=some r):Fn prog 47 [dt x0] (dt r):=by
 unfold wD at h
 refine fnx (fn:=f47) 0 func47 rfl (oD rfl) rfl (λ M _ _ st0=>?_)
 refine st0.sq1 [1] (λ _ _ st1=>?_)
 obtain⟨v2,p2,v3,p3,v4,p4,h7⟩:=bsC h
 refine st1.sq2 (sP 2 (r:=by exact sc rfl (oK (Wj p2))<|sP 3 (r:=by exact sg rfl rfl (λ hg=>oK (wQ (gh hg p3)))<|sP 4 (r:=by exact sg rfl rfl (λ hg=>oK (wQ (gh hg p4)))<|segC)))) [2] (λ _ _ st8=>wp_ret ?_)
 exact st8.ret rfl rfl h7
def wj(x0:Disk)(s4:Int):Option (Int⊕(Unit⊕Bool)):=
if(cmpI .lss s4 (x0.dirs.length:Int))=true then((atI x0.dirs s4).bind λ v9=>
(gO (cmpI .gtr v9.stamp x0.clock == false) (atI x0.dirs s4)).bind λ v10=>
if(cmpI .gtr v9.stamp x0.clock||cmpI .gtr (v10.names.length:Int) (0:Int))=true then(some (.inr (.inr false)))
else((i64 (s4+(1:Int))).bind λ v19=>
some (.inl v19)))
else(some (.inr (.inl ())))
def xn(x0:Disk):Option Bool:=
Option.bind (α:=Unit⊕Bool) (zS (λ s4=>wj x0 s4) (0:Int)) (Sum.elim (λ _b2=>
(y7 x0.tree).bind λ v24=>
(gO (v24 == true) (xh x0.clock (0:Int) (200:Int))).bind λ v25=>
(gO ((v24&&v25) == true) (jv x0.dirs)).bind λ v26=>
some ((v24&&v25)&&v26)) some)
theorem qz{x0:Disk}{r:Bool}(h:xn x0=some r):Fn prog 48 [dt x0] (dt r):=by
 unfold xn at h
 refine fnx (fn:=f48) 0 func48 rfl (oD rfl) rfl (λ M w0 _ st0=>?_)
 refine st0.sq1 [1] (λ _ _ st1=>?_)
 obtain⟨o2,p2,k2⟩:=bs h
 refine zm (λ a w=>∃ b2,o2=.inl b2/\Sx (Frm.of w0) 43 M M [] [(1,dptr x0)] [] a w) ?_ ?_
 ·
  refine st1.sq1 [1,3] (λ _ _ st3=>wp_block ?_)
  refine zL p2 (λ s4 a w=>Sx (Frm.of w0) 43 M M [] [(1,dptr x0),(3,dt s4)] [] a w) (st3.sel0 [1,3] rfl) ?_
  rintro s4 z4 a4 w4 st4 hs4 hx4
  have h5:wj x0 s4=some z4:=hs4
  unfold wj at h5
  refine wp_seq ?_
  refine st4.sq1 [1,3,8] (λ _ _ st6=>?_)
  refine st6.cs rfl h5 (λ _ h7=>wp_skip (za (wp_seq (wp_block (wp_seq ?_))))) (λ _ h8=>wp_exit (zh (zh (zE ?_))))
  ·
   obtain⟨v9,p9,v10,p10,h12⟩:=bsB h7
   refine st6.drA (D:=[_,_,_,_,_,_,_,_,_,_,_,_,_,_,_,_,_,_,_]) zD [[(1,nS)],[(11,0)],[(3,nS)],[(12,1),(13,2)],[(14,3)],[(15,4)],[(1,nS)],[(17,6)],[(16,5),(18,7)],[(19,8)],[(1,nS),(20,9)],[(21,10),(20,9)],[(3,nS),(20,9)],[(22,11),(23,12),(20,9)],[(24,13),(20,9)],[(25,14),(20,9)],[(26,15),(20,9)],[(27,16),(20,9)],[(20,9),(28,17)]] [1,3,29] [] (λ _ _ st13=>?_) (hs:=rc rfl rfl (zv Disk.fld2 rfl Jn (tp rfl))<|rc rfl rfl (zp rfl kT33 (tp rfl))<|rc rfl rfl (oM rfl (tp rfl))<|rc rfl rfl (xIdx rfl kS33 (tp rfl) (tp rfl) p9)<|rc rfl rfl (zv Dir.fld2 rfl Xb (tp rfl))<|rc rfl rfl (zp rfl kT3 (tp rfl))<|rc rfl rfl (zv Disk.fld1 rfl zaM (tp rfl))<|rc rfl rfl (zp rfl kT3 (tp rfl))<|rc rfl rfl (oCI rfl (tp rfl) (tp rfl))<|rc rfl rfl (oM rfl (tp rfl))<|rg rfl rfl rfl (λ hg=>zv Disk.fld2 rfl Jn (tp rfl))<|rg rfl rfl rfl (λ hg=>zp rfl kT33 (ze hg rfl))<|rg rfl rfl rfl (λ hg=>oM rfl (tp rfl))<|rg rfl rfl rfl (λ hg=>xIdx rfl kS33 (ze hg rfl) (ze hg rfl) (gh hg p10))<|rg rfl rfl rfl (λ hg=>zv Dir.fld3 rfl YH (ze hg rfl))<|rg rfl rfl rfl (λ hg=>zp rfl kT75 (ze hg rfl))<|rg rfl rfl rfl (λ hg=>jJ rfl kL75 (ze hg rfl))<|rg rfl rfl rfl (λ hg=>oCI rfl (ze hg rfl) cI)<|rc rfl rfl (yU rfl (tp rfl) (zb rfl))<|.nil)
   refine za ?_
   refine st13.cs rfl h12 (λ _ h14=>?_) (λ _ h15=>wp_skip (zg (za ?_)))
   ·
    refine st13.sq1 [2] (λ _ _ st16=>wp_ret (zt (zd (zd (zt (zd ?_))))))
    have h17:=lo h14 hx4
    have h18:=jo h17 k2
    exact st16.ret rfl rfl h18
   obtain⟨v19,p19,h20⟩:=bs h15
   refine st13.rg1 [1,3] (λ _ _ st21=>za ?_)
   exact⟨_,(Option.some.inj h20).symm,st21.sel0 [1,3] rfl⟩
  refine za ?_
  have h22:=lo h8 hx4
  exact⟨_,(Option.some.inj h22).symm,st6.sel0 [1] rfl⟩
 rintro a2 w2 ⟨b2,rfl,st2⟩
 have h23:=jn k2
 obtain⟨v24,p24,v25,p25,v26,p26,h29⟩:=bsC h23
 refine st2.sq2 (sP 2 (r:=by exact sc rfl (oK (ZD p24))<|sP 3 (r:=by exact sg rfl rfl (λ hg=>oK (wQ (gh hg p25)))<|sP 4 (r:=by exact sg rfl rfl (λ hg=>oK (Wj (gh hg p26)))<|segC)))) [2] (λ _ _ st30=>wp_ret ?_)
 exact st30.ret rfl rfl h29
def xD(x0:Disk)(x1:Int)(x2:Str):Option Int:=
(j5 x0.dirs x1 x2).bind λ v2=>
if(cmpI .lss v2 (0:Int))=true then(some (0:Int))
else((atI x0.dirs v2).bind λ v9=>
some v9.stamp)
theorem Jo{x0:Disk}{x1:Int}{x2:Str}{r:Int}(h:xD x0 x1 x2=some r):Fn prog 84 [dt x0,dt x1,dt x2] (dt r):=by
 unfold xD at h
 refine fnx (fn:=f84) 0 func84 rfl (oD rfl) rfl (λ M _ _ st0=>?_)
 refine st0.sq1 [1,2,3] (λ _ _ st1=>?_)
 obtain⟨v2,p2,h3⟩:=bsW h Xj
 refine st1.sq1 [3,7] (λ _ _ st4=>wp_seq ?_)
 refine st4.sq1 [3,7,14] (λ _ _ st5=>?_)
 refine st5.cs rfl h3 (λ _ h6=>?_) (λ _ h7=>wp_skip (za ?_))
 ·
  refine st5.sq1 [6] (λ _ _ st8=>wp_ret (zd ?_))
  exact st8.ret rfl rfl h6
 obtain⟨v9,p9,h10⟩:=bs h7
 refine st5.sq1 [6] (λ _ _ st11=>wp_ret ?_)
 exact st11.ret rfl rfl h10
def j6(x0:Str)(x1:Str):Option Str:=
Option.bind (α:=Str) (if(decide (x1≠(⟨[]⟩:Str)))=true then((i64 ((x1.l.length:Int)+(1:Int))).bind λ v6=>
(cutLO x0 v6).bind λ v7=>
some v7)
else(some x0)) λ o2=>
(qx o2 (UInt8.ofNat 46)).bind λ v12=>
(atI v12 (0:Int)).bind λ v13=>
some v13
theorem Q9{x0:Str}{x1:Str}{r:Str}(h:j6 x0 x1=some r):Fn prog 127 [dt x0,dt x1] (dt r):=by
 unfold j6 at h
 refine fnx (fn:=f127) 0 func127 rfl (oD rfl) rfl (λ M w0 _ st0=>?_)
 refine st0.sq1 [0,1] (λ _ _ st1=>?_)
 obtain⟨o2,p2,k2⟩:=bs h
 refine zm (λ a w=>Sx (Frm.of w0) 16 M M [] [(0,dt o2)] [] a w) ?_ ?_
 ·
  refine st1.sq1 [0,1,6] (λ _ _ st3=>?_)
  refine st3.cs rfl p2 (λ _ h4=>?_) (λ _ h5=>wp_skip (za ?_))
  ·
   obtain⟨v6,p6,v7,p7,h9⟩:=bsB h4
   refine st3.rg2 (sc rfl (oM rfl (tp rfl))<|sc rfl (oM rfl (tp rfl))<|sc rfl (Xf rfl kX9 (tp rfl))<|sc rfl (xAr rfl (tp rfl) cI p6)<|sc rfl (xCutL rfl kX9 (tp rfl) (tp rfl) p7)<|sc rfl (oA rfl (tp rfl))<|.nil) [0] (λ _ _ st10=>za ?_)
   obtain rfl:=Option.some.inj h9
   exact st10.sel0 [0] rfl
  obtain rfl:=Option.some.inj h5
  exact st3.sel0 [0] rfl
 rintro a2 w2 st2
 have h11:=k2
 obtain⟨v12,p12,v13,p13,h15⟩:=bsB h11
 refine st2.sq2 (sP 1 (r:=by exact sc rfl (oK (Jm p12))<|sc rfl (xIdx rfl kS75 (tp rfl) cI p13)<|segC)) [4] (λ _ _ st16=>wp_ret ?_)
 exact st16.ret rfl rfl h15
def wV(x0:Tree)(x1:Int)(x2:Str)(s5:(List Str)×Int):Option (((List Str)×Int)⊕(List Str)):=
if(cmpI .lss s5.2 (x0.files.length:Int))=true then(Option.bind (α:=(List Str)) ((atI x0.files s5.2).bind λ v11=>
if(cmpI .neq v11.root x1)=true then(some s5.1)
else(Option.bind (α:=Str) (if(decide (v11.pkg=x2)&&v11.init)=true then(some (⟨[42]⟩:Str))
else(if(decide (v11.pkg=x2))=true then(some v11.name)
else((gO (decide (v11.pkg≠(⟨[]⟩:Str)) == true) (Xi v11.pkg x2)).bind λ v31=>
if(decide (v11.pkg≠(⟨[]⟩:Str))&&v31)=true then((j6 v11.pkg x2).bind λ v36=>
(catO v36 (⟨[47]⟩:Str)).bind λ v37=>
some v37)
else(some (⟨[]⟩:Str))))) λ o22=>
if(decide (o22≠(⟨[]⟩:Str)))=true then((Zg s5.1 o22).bind λ v48=>
some v48)
else(some s5.1))) λ o10=>
(i64 (s5.2+(1:Int))).bind λ v52=>
some (.inl (o10,v52)))
else(some (.inr s5.1))
def qA(x0:Tree)(x1:Int)(x2:Str):Option (List Str):=
Option.bind (α:=(List Str)) (zS (λ s5=>wV x0 x1 x2 s5) ([],(0:Int))) λ o3=>
some o3
theorem Jp{x0:Tree}{x1:Int}{x2:Str}{r:List Str}(h:qA x0 x1 x2=some r):FnOwn prog 86 [dt x0,dt x1,dt x2] 9 r:=by
 unfold qA at h
 refine fnxO (fn:=f86) 2 func86 rfl (oD rfl) rfl (λ M w0 _ st0=>?_)
 refine st0.sq2 (sP 1 (r:=by exact sc rfl (oA rfl (Zl (α:=Str) (e:=9)))<|.nil)) [1,2,3] (λ _ _ st1=>?_)
 refine st1.sqB (sc rfl (wT (α:=Str) (e:=9) rfl kS75)<|segC) [1,2,3] [(7,0)] (λ _ _ st2=>?_)
 obtain⟨o3,p3,k3⟩:=bs h
 refine zm (λ a w=>∃ M1 q3_0 q3_1,Sx (Frm.of w0) 65 M M1 [oneB q3_0,oneB q3_1] [] [(7,0,dtip q3_0 9 o3)] a w) ?_ ?_
 ·
  refine st2.sqA [1,2,3,8] [(7,0)] (λ _ _ st4=>wp_block ?_)
  refine zL p3 (λ s5 a w=>∃ M1 q5_0 q5_1,Sx (Frm.of w0) 65 M M1 [oneB q5_0,oneB q5_1] [(1,dt x1),(2,dt x2),(3,dptr x0),(8,dt s5.2)] [(7,0,dtip q5_0 9 s5.1)] a w) fx ?_
  rintro s5 z5 a5 w5 ⟨M5,q5_0,q5_1,st5⟩ hs5 hx5
  have h6:wV x0 x1 x2 s5=some z5:=hs5
  unfold wV at h6
  refine wp_seq ?_
  refine st5.sqA [1,2,3,8,16] [(7,0)] (λ _ _ st7=>?_)
  refine st7.cs rfl h6 (λ _ h8=>wp_skip (za ?_)) (λ _ h9=>wp_exit (zh (zh (zE ?_))))
  ·
   obtain⟨o10,p10,k10⟩:=bs h8
   refine zm (λ a w=>∃ M1 q10_0 q10_1,Sx (Frm.of w0) 65 M M1 [oneB q10_0,oneB q10_1] [(1,dt x1),(2,dt x2),(3,dptr x0),(8,dt s5.2)] [(7,0,dtip q10_0 9 o10)] a w) ?_ ?_
   ·
    refine wp_block (wp_seq (wp_region_list ?_))
    obtain⟨v11,p11,h12⟩:=bs p10
    refine st7.segA 5 [1,2,3,8,23] [(7,0)] (λ _ _ st13=>?_)
    refine st13.alA 1 Qj [1,2,3,8,23] [7] (λ b15 _ _ _ st15=>?_)
    refine st15.stA 9 1 FldS.id (tp rfl) [1,2,3,8] [7] (λ _ _ st17=>wpList_nil (za (wp_seq ?_)))
    refine st17.sqC [1,2,3,8,27] [(7,0),(9,1)] (λ _ _ st18=>?_)
    refine st18.cs rfl h12 (λ _ h19=>wp_exit (zh (zE ?_))) (λ _ h20=>wp_skip (za ?_))
    ·
     refine za ?_
     cases h19
     exact fx
    refine st18.sqA [1,2,3,8,10] [(7,0),(9,1)] (λ _ _ st21=>?_)
    obtain⟨o22,p22,k22⟩:=bs h20
    refine zm (λ a w=>∃ M1 q22_0 q22_1,Sx (Frm.of w0) 65 M M1 [oneB q22_0,oneB q22_1] [(1,dt x1),(2,dt x2),(3,dptr x0),(8,dt s5.2),(10,dt o22)] [(7,0,dtip q22_0 9 s5.1)] a w) ?_ ?_
    ·
     refine wp_block ?_
     refine st21.sqC [1,2,3,8,10,28] [(7,0),(9,1)] (λ _ _ st23=>?_)
     refine st23.cs rfl p22 (λ _ h24=>?_) (λ _ h25=>?_)
     ·
      refine st23.rgA [1,2,3,8,10] [(7,0)] (λ _ _ st26=>zg (za ?_))
      cases h24
      exact fx
     refine st23.sqC [1,2,3,8,10,37] [(7,0),(9,1)] (λ _ _ st27=>?_)
     refine st27.cs rfl h25 (λ _ h28=>?_) (λ _ h29=>?_)
     ·
      refine st27.rgC [1,2,3,8,10] [(7,0)] (λ _ _ st30=>zg (za ?_))
      cases h28
      exact fx
     obtain⟨v31,p31,h32⟩:=bs h29
     refine st27.sqB (sP 7 (r:=by exact sg rfl rfl (λ hg=>oK (spec_under_w (gh hg p31)))<|segC)) [1,2,3,8,10,44] [(7,0),(9,1)] (λ _ _ st33=>?_)
     refine st33.cs rfl h32 (λ _ h34=>?_) (λ _ h35=>wp_skip (zg (za ?_)))
     ·
      obtain⟨v36,p36,v37,p37,h39⟩:=bsB h34
      refine st33.rgB (sP 3 (r:=by exact sc rfl (oK (Q9 p36))<|sc rfl (xCat rfl (tp rfl) (zQ (by decide)) p37)<|segC)) [1,2,3,8,10] [(7,0)] (λ _ _ st40=>zg (za ?_))
      cases h39
      exact fx
     cases h35
     exact fx
    rintro a22 w22 ⟨M22,q22_0,q22_1,st22⟩
    have h41:=k22
    refine st22.sqA [1,2,3,8,10,60] [(7,0)] (λ _ _ st42=>?_)
    refine st42.cs rfl h41 (λ _ h43=>wp_region_list ?_) (λ _ h44=>wp_skip (zg (za ?_)))
    ·
     refine st42.segA 2 [1,2,3,8,62] [(7,0),(61,0)] (λ _ _ st45=>?_)
     obtain⟨v48,p48,h49⟩:=bs h43
     refine st45.take (l:=[.tmp 62]) 0 rfl rfl kN128 rfl rfl (.cons (tp rfl) .nil) (Q4 p48) [1,2,3,8] rfl [] rfl rfl (λ g47 _ _ _ st47=>?_)
     refine st47.segA 1 [1,2,3,8] [(7,0)] (λ _ _ st50=>wpList_nil (zg (za ?_)))
     cases h49
     exact fx
    cases h44
    exact fx
   rintro a10 w10 ⟨M10,q10_0,q10_1,st10⟩
   have h51:=k10
   obtain⟨v52,p52,h53⟩:=bs h51
   refine st10.rgA [1,2,3,8] [(7,0)] (λ _ _ st54=>za ?_)
   exact fl h53
  refine za ?_
  have h55:=lo h9 hx5
  cases h55
  exact fx
 rintro a3 w3 ⟨M3,q3_0,q3_1,st3⟩
 have h56:=k3
 refine st3.sqA [] [(6,0)] (λ _ _ st57=>wp_ret ?_)
 exact st57.ret_own 0 rfl rfl iI h56
def je(x0:List Str)(x1:List Str)(s8:Int):Option (Int⊕(Unit⊕Bool)):=
if(cmpI .lss s8 (x0.length:Int))=true then((atI x0 s8).bind λ v13=>
(atI x1 s8).bind λ v14=>
if(decide (v13≠v14))=true then(some (.inr (.inr false)))
else((i64 (s8+(1:Int))).bind λ v23=>
some (.inl v23)))
else(some (.inr (.inl ())))
def qB(x0:List Str)(x1:List Str):Option Bool:=
if(cmpI .neq (x0.length:Int) (x1.length:Int))=true then(some false)
else(Option.bind (α:=Unit⊕Bool) (zS (λ s8=>je x0 x1 s8) (0:Int)) (Sum.elim (λ _b6=>
some true) some))
theorem zaP{x0:List Str}{x1:List Str}{r:Bool}(h:qB x0 x1=some r):Fn prog 85 [dt x0,dt x1] (dt r):=by
 unfold qB at h
 refine fnx (fn:=f85) 0 func85 rfl (oD rfl) rfl (λ M w0 _ st0=>?_)
 refine st0.sq1 [0,1] (λ _ _ st1=>wp_seq ?_)
 refine st1.sq1 [0,1,10] (λ _ _ st2=>?_)
 refine st2.cs rfl h (λ _ h3=>?_) (λ _ h4=>wp_skip (za ?_))
 ·
  refine st2.sq1 [4] (λ _ _ st5=>wp_ret (zd ?_))
  exact st5.ret rfl rfl h3
 obtain⟨o6,p6,k6⟩:=bs h4
 refine zm (λ a w=>∃ b6,o6=.inl b6/\Sx (Frm.of w0) 26 M M [] [] [] a w) ?_ ?_
 ·
  refine st2.sq1 [0,1,5] (λ _ _ st7=>wp_block ?_)
  refine zL p6 (λ s8 a w=>Sx (Frm.of w0) 26 M M [] [(0,dt x0),(1,dt x1),(5,dt s8)] [] a w) (st7.sel0 [0,1,5] rfl) ?_
  rintro s8 z8 a8 w8 st8 hs8 hx8
  have h9:je x0 x1 s8=some z8:=hs8
  unfold je at h9
  refine wp_seq ?_
  refine st8.sq1 [0,1,5,14] (λ _ _ st10=>?_)
  refine st10.cs rfl h9 (λ _ h11=>wp_skip (za (wp_seq (wp_block (wp_seq ?_))))) (λ _ h12=>wp_exit (zh (zh (zE ?_))))
  ·
   obtain⟨v13,p13,v14,p14,h16⟩:=bsB h11
   refine st10.drA (D:=[_,_,_,_,_,_,_,_,_]) zD [[(0,nS)],[(5,nS)],[(17,0),(18,1)],[(19,2)],[(1,nS)],[(5,nS)],[(21,4),(22,5)],[(23,6)],[(20,3),(24,7)]] [0,1,5,25] [] (λ _ _ st17=>za ?_)
   refine st17.cs rfl h16 (λ _ h18=>?_) (λ _ h19=>wp_skip (zg (za ?_)))
   ·
    refine st17.sq1 [4] (λ _ _ st20=>wp_ret (zt (zd (zd (zt (zd ?_))))))
    have h21:=lo h18 hx8
    have h22:=jo h21 k6
    exact st20.ret rfl rfl h22
   obtain⟨v23,p23,h24⟩:=bs h19
   refine st17.rg1 [0,1,5] (λ _ _ st25=>za ?_)
   exact⟨_,(Option.some.inj h24).symm,st25.sel0 [0,1,5] rfl⟩
  refine za ?_
  have h26:=lo h12 hx8
  exact⟨_,(Option.some.inj h26).symm,st10.sel0 [] rfl⟩
 rintro a6 w6 ⟨b6,rfl,st6⟩
 have h27:=jn k6
 refine st6.sq1 [4] (λ _ _ st28=>wp_ret ?_)
 exact st28.ret rfl rfl h27
def wE(x0:List Dir)(s5:(List Dir)×Int):Option (((List Dir)×Int)⊕(List Dir)):=
if(cmpI .lss s5.2 (x0.length:Int))=true then((atI x0 s5.2).bind λ v10=>
(appO 16 [] v10.names).bind λ v21=>
(appO 56 s5.1 ([{ v10 with names:=v21 }]:List Dir)).bind λ v30=>
(i64 (s5.2+(1:Int))).bind λ v33=>
some (.inl (v30,v33)))
else(some (.inr s5.1))
def jR(x0:List Dir):Option (List Dir):=
Option.bind (α:=(List Dir)) (zS (λ s5=>wE x0 s5) ([],(0:Int))) λ o3=>
some o3
theorem Xc{x0:List Dir}{r:List Dir}(h:jR x0=some r):FnOwn prog 99 [dt x0] 77 r:=by
 unfold jR at h
 refine fnxO (fn:=f99) 3 func99 rfl (oD rfl) rfl (λ M w0 _ st0=>?_)
 refine st0.sq2 (sc rfl (oA rfl (Zl (α:=Dir) (e:=77)))<|.nil) [0] (λ _ _ st1=>?_)
 refine st1.sqB (sc rfl (wT (α:=Dir) (e:=77) rfl kS33)<|segC) [0] [(3,0)] (λ _ _ st2=>?_)
 obtain⟨o3,p3,k3⟩:=bs h
 refine zm (λ a w=>∃ M1 q3_0 q3_1 q3_2,Sx (Frm.of w0) 27 M M1 [oneB q3_0,oneB q3_1,oneB q3_2] [] [(3,0,dtip q3_0 77 o3)] a w) ?_ ?_
 ·
  refine st2.sqA [0,4] [(3,0)] (λ _ _ st4=>wp_block ?_)
  refine zL p3 (λ s5 a w=>∃ M1 q5_0 q5_1 q5_2,Sx (Frm.of w0) 27 M M1 [oneB q5_0,oneB q5_1,oneB q5_2] [(0,dt x0),(4,dt s5.2)] [(3,0,dtip q5_0 77 s5.1)] a w) fx ?_
  rintro s5 z5 a5 w5 ⟨M5,q5_0,q5_1,q5_2,st5⟩ hs5 hx5
  have h6:wE x0 s5=some z5:=hs5
  unfold wE at h6
  refine wp_seq ?_
  refine st5.sqA [0,4,10] [(3,0)] (λ _ _ st7=>?_)
  refine st7.cs rfl h6 (λ _ h8=>wp_skip (za (wp_seq (wp_block (wp_seq (wp_region_list ?_)))))) (λ _ h9=>wp_exit (zh (zh (zE ?_))))
  ·
   obtain⟨v10,p10,h11⟩:=bs h8
   refine st7.segA 4 [0,4,16] [(3,0)] (λ _ _ st12=>?_)
   refine st12.alA 2 zrDir [0,4,16] [3] (λ b14 _ _ _ st14=>?_)
   refine st14.stA 5 2 FldS.id (tp rfl) [0,4] [3] (λ _ _ st16=>wpList_nil (za ?_))
   have st17:=st16.rst 1 (by simp) [0,4] rfl [3,5] rfl
   refine wp_seq (wp_region_list ?_)
   refine st17.segB 3 (sc rfl (wT (α:=Str) (e:=9) rfl kS75)<|segC) [0,4,19] [(3,0),(5,2),(17,1)] (λ _ _ st18=>?_)
   obtain⟨v21,p21,h22⟩:=bs h11
   refine st18.apA 1 wO p21 [0,4] [3,5] (λ g20 _ _ _ st20=>?_)
   refine st20.segC 1 [0,4] [(3,0),(5,2),(20,1),(21,2)] (λ _ _ st23=>?_)
   have st26:=st23.frz 1 (s:=20) rfl rfl [0,4] rfl [3,5,21] rfl
   refine st26.stA 5 2 Dir.set3 (tp rfl) [0,4] [3] (λ _ _ st25=>wpList_nil (za (wp_region_list ?_)))
   refine st25.segC 3 [0,4,24] [(3,0),(22,0)] (λ _ _ st27=>?_)
   obtain⟨v30,p30,h31⟩:=bs h22
   refine st27.apA 0 wO p30 [0,4] [] (λ g29 _ _ _ st29=>?_)
   refine st29.segA 1 [0,4] [(3,0)] (λ _ _ st32=>wpList_nil (zg (za ?_)))
   obtain⟨v33,p33,h34⟩:=bs h31
   refine st32.rgA [0,4] [(3,0)] (λ _ _ st35=>za ?_)
   exact fl h34
  refine za ?_
  have h36:=lo h9 hx5
  cases h36
  exact fx
 rintro a3 w3 ⟨M3,q3_0,q3_1,q3_2,st3⟩
 have h37:=k3
 refine st3.sqA [] [(2,0)] (λ _ _ st38=>wp_ret ?_)
 exact st38.ret_own 0 rfl rfl iI h37
def wW(x0:Finder):Option Finder:=
(jR x0.dirs).bind λ v9=>
some ({ x0 with dirs:=v9 })
theorem xW{x0:Finder}{r:Finder}(h:wW x0=some r):FnN prog 53 [dt x0] (.ow (owFinder (Ow.row 77 (Ow.frz (α:=Dir)))) r):=by
 unfold wW at h
 refine fnN (fn:=f53) 4 func53 rfl (oD rfl) rfl (λ M _ _ st0=>wp_seq (wp_region_list ?_))
 refine st0.boxZ 0 rfl rfl (tp rfl) (by simp) [] rfl [] rfl rfl (λ b1 _ _ _ st1=>?_)
 have st2:=st1.cvB (sb:=1) (ow2:=(owFinder (Ow.frz (α:=List Dir)))) 0 owFinder.ofR rfl rfl iI [] rfl
 have st3:=st2.gn
 refine st3.alcW (ow:=(owFinder (Ow.row 77 (Ow.frz (α:=Dir))))) 3 rfl rfl kZ35 (owFinder.z Ow.row_z) (by simp) [] rfl [1] rfl rfl (λ b4 _ _ _ st4=>?_)
 have st5:=st4.gn
 refine wpList_nil (za (wp_seq (wp_region_list ?_)))
 refine st5.segB 2 (sc rfl (xFa rfl jE (zG rfl))<|sc rfl (xLf (sb:=1) ((PV.root.box rfl).fld owFinder.f0) rfl kT33 (tp rfl) rfl)<|.nil) [4] [(1,0),(2,3)] (λ _ _ st6=>?_)
 obtain⟨v9,p9,h10⟩:=bs h
 refine st6.own (l:=[.tmp 4]) 1 rfl rfl kN99 (.cons (tp rfl) .nil) (Xc p9) (by simp) [] rfl [1,2] rfl rfl (λ g8 _ _ _ st8=>?_)
 have st11:=st8.gn
 refine st11.segB 1 (sc rfl (xFa rfl jE (zG rfl))<|.nil) [6] [(1,0),(2,3),(5,1)] (λ _ _ st12=>?_)
 have st13:=st12.tipW (s:=5) 1 rfl rfl iI [1,2] rfl
 refine st13.stTk (off:=0) (ow2:=(owFinder (Ow.row 77 (Ow.frz (α:=Dir))))) (x2:={ x0 with dirs:=v9 }) (sb:=1) (tv:=5) 0 1 (by decide) owFinder.tk rfl rfl rfl kT33 (by simp) (by simp) (by decide) (tp rfl) rfl rfl iI iI [] rfl [2] rfl rfl rfl (λ _ _ st14=>?_)
 have st15:=st14.gn
 refine wpList_nil (za (wp_seq (wp_region_list ?_)))
 refine st15.ldW (sb:=1) 0 rfl rfl kT35 rfl (by simp) iI [] rfl [2] rfl rfl (λ _ _ st16=>?_)
 refine st16.stO (sb:=2) (tv:=7) 3 0 (PV.root.box rfl) rfl rfl rfl kT35 (by simp) (by simp) (by decide) (zG rfl) rfl rfl rfl iI iI [] rfl [] rfl rfl rfl (λ _ _ st17=>?_)
 have st18:=st17.gn
 refine wpList_nil (za (wp_ret ?_))
 exact st18.rnC 3 rfl kT35 rfl iI h10
def ZW(x0:Finder)(x1:Disk)(x2:Int)(x3:Str):Option (Finder×(List Str)):=
(j5 x0.dirs x2 x3).bind λ v8=>
(xD x1 x2 x3).bind λ v12=>
(gO (cmpI .geq v8 (0:Int) == true) (atI x0.dirs v8)).bind λ v16=>
if(cmpI .geq v8 (0:Int)&&cmpI .eql v16.stamp v12)=true then((i64 (x0.hits+(1:Int))).bind λ v22=>
(atI x0.dirs v8).bind λ v28=>
some ({ x0 with hits:=(if v22<(1000:Int) then v22 else(1000:Int)) },v28.names))
else((i64 (x0.fills+(1:Int))).bind λ v33=>
(qA x1.tree x2 x3).bind λ v37=>
Option.bind (α:=Finder) (if(cmpI .geq v8 (0:Int))=true then((atI x0.dirs v8).bind λ _v50=>
some ({ x0 with dirs:=(x0.dirs.set v8.toNat (⟨x2,x3,v12,v37⟩:Dir)),fills:=(if v33<(1000:Int) then v33 else(1000:Int)) }))
else(if(cmpI .lss (x0.dirs.length:Int) (20:Int))=true then((appO 56 x0.dirs ([(⟨x2,x3,v12,v37⟩:Dir)]:List Dir)).bind λ v68=>
some ({ x0 with dirs:=v68,fills:=(if v33<(1000:Int) then v33 else(1000:Int)) }))
else(some ({ x0 with fills:=(if v33<(1000:Int) then v33 else(1000:Int)) })))) λ o45=>
some (o45,(⟨x2,x3,v12,v37⟩:Dir).names))
theorem J3{x0:Finder}{x1:Disk}{x2:Int}{x3:Str}{r:Finder×(List Str)}(h:ZW x0 x1 x2 x3=some r):FnT prog 134 (owFinder (Ow.row 77 (Ow.frz (α:=Dir)))) x0 [dt x1,dt x2,dt x3] (.t2o (owFinder (Ow.row 77 (Ow.frz (α:=Dir)))) r.1 (dt r.2)):=by
 unfold ZW at h
 refine fnT (fn:=f134) 0 7 func134 rfl (oD rfl) rfl (λ M G w0 _ st0=>wp_seq (wp_region_list ?_))
 refine st0.boxW 1 0 rfl rfl rfl (by simp) (by simp) (by decide) iI [1,2,3] rfl [] rfl rfl rfl (λ b1 _ M1 _ _ st1=>?_)
 have st2:=st1.gn
 refine st2.segA 1 [2,3,5] [(4,1)] (λ _ _ st3=>?_)
 refine st3.alcW (ow:=(owFinder (Ow.row 77 (Ow.frz (α:=Dir))))) 5 rfl rfl kZ35 (owFinder.z Ow.row_z) (by simp) [2,3,5] rfl [4] rfl rfl (λ b4 _ _ _ st4=>?_)
 have st5:=st4.gn
 refine st5.segB 1 (sc rfl (oA rfl (jW (α:=Str)))<|.nil) [2,3,5] [(4,1),(8,5)] (λ _ _ st6=>wpList_nil (za ?_))
 obtain⟨v8,p8,h9⟩:=bs h
 refine st6.hdA 4 1 ((PV.root.box rfl).fld owFinder.f0) [8] (λ g7 A7 _ hA7 st7=>?_)
 refine st7.sqB (sc rfl (xFa rfl jE (zG rfl))<|sc rfl (xLc (sb:=4) (.head _) rfl rfl rfl kT33 (tp rfl) rfl)<|sP 2 (r:=by exact sc rfl (W8 (l:=[.tmp 14,.tmp 15,.tmp 16]) st7.ob.sub rfl kN125 (.cons (lendP (sb:=4) st7.ob 1 ((PV.root.box rfl).fld owFinder.f0) (.head _) rfl (Yh rfl rfl) (tp rfl) rfl iI) (.cons (Ww st7.ob.sub (tp rfl)) (.cons (Ww st7.ob.sub (tp rfl)) .nil))) (Xj p8) Xu)<|segC)) [2,3,5,10] [(4,1),(8,5)] (λ _ _ st10=>?_)
 have st11:=st10.ncf (s:=4) 1 rfl rfl iI [8] rfl
 obtain⟨v12,p12,h13⟩:=bsW h9 Jo
 refine st11.sqA [2,3,5,10,11] [(4,1),(8,5)] (λ _ _ st14=>wp_seq ?_)
 obtain⟨v16,p16,h17⟩:=bs h13
 refine st14.hdR (s:=4) 1 (cmpI .geq v8 (0:Int) == true) (λ hg=>((PV.root.box rfl).fld owFinder.f0)) rfl rfl iI [8] rfl (λ g15 A15 _ hA15 st15=>?_)
 refine st15.sqB (sP 3 (r:=by exact sg rfl rfl (λ hg=>xFa rfl jE (zG rfl))<|sg rfl rfl (λ hg=>xLc (sb:=4) (.head _) hg rfl rfl kT33 (ze hg rfl) rfl)<|sP 1 (r:=by exact sg rfl rfl (λ hg=>xIa (g:=g15) rfl kS33 (ze hg rfl) (ze hg rfl) rfl (λ h=>hA15 h hg) (gh hg p16))<|sP 1 (r:=by exact sg rfl rfl (λ hg=>xLf (sb:=4) ((((PV.root.box rfl).fld owFinder.f0).row (.head _) hg (λ h=>hA15 h hg) (gh hg p16)).fld Dir.z2) rfl kT3 (ze hg rfl) rfl)<|segC)))) [2,3,5,10,11,33] [(4,1),(8,5)] (λ _ _ st18=>?_)
 have st19:=st18.ncf (s:=4) 1 rfl rfl iI [8] rfl
 refine st19.cs rfl h17 (λ _ h20=>wp_seq (wp_region_list ?_)) (λ _ h21=>wp_skip (za (wp_seq (wp_region_list ?_))))
 ·
  obtain⟨v22,p22,h23⟩:=bs h20
  refine st19.segB 5 (sc rfl (xFa rfl Qo (zG rfl))<|sc rfl (xLf (sb:=4) ((PV.root.box rfl).fld owFinder.f2) rfl kT3 (tp rfl) rfl)<|sP 1 (r:=by exact sc rfl (xMin rfl cI (tp rfl))<|sc rfl (xFa rfl Qo (zG rfl))<|.nil)) [10,37,38] [(4,1),(8,5)] (λ _ _ st24=>?_)
  refine st24.sfA 4 1 ((PV.root.box rfl).fld owFinder.f2) (tp rfl) (tp rfl) [10] [8] (λ _ st25=>wpList_nil (za (wp_seq ?_)))
  obtain⟨v28,p28,h29⟩:=bs h23
  refine st25.hdW (s:=4) 1 true (λ _=>(PV.root.box rfl)) rfl rfl iI [8] rfl (λ cs26 hS26 st26=>?_)
  refine st26.hdA 4 1 ((PV.root.box rfl).fld owFinder.f0) [8] (λ g27 A27 _ hA27 st27=>?_)
  refine st27.lateO (D:=[_,_,_,_,_,_,_,Yv]) (sb:=8) (s4:=4) 5 1 zD 8 7 [[(4,nS)],[(4,nS)],[(40,1),(4,nS)],[(10,nS)],[(41,2),(42,3)],[(43,4)],[(44,5),(4,nS)],[(8,nS),(39,0)],[(45,6)]] (by decide +kernel) (by decide) (by decide) rfl (
   lc rfl rfl rfl (xLw (sb:=4) (.tail _ (.head _)) rfl (hS26 rfl) rfl kT35 (zG rfl) rfl)<|lc rfl rfl rfl (xFa rfl jE (zG rfl))<|lc rfl rfl rfl (xLc (sb:=4) (.head _) rfl rfl rfl kT33 (tp rfl) rfl)<|lc rfl rfl rfl (oM rfl (tp rfl))<|lc rfl rfl rfl (xIa (g:=g27) rfl kS33 (tp rfl) (tp rfl) rfl (λ h=>hA27 h rfl) p28)<|lc rfl rfl rfl (xFa rfl YH (tp rfl))<|lc rfl rfl rfl (xLf (sb:=4) (((((PV.root (x:=(⟨{ x0 with hits:=(if v22<(1000:Int) then v22 else(1000:Int)) }⟩:Bx Finder))).box rfl).fld owFinder.f0).row (.head _) rfl (λ h=>hA27 h rfl) p28).fld Dir.z3) rfl kT75 (tp rfl) rfl)<|ll rfl<|.nil) ⟨.inl rfl,⟨.inl rfl,⟨.inl rfl,⟨.inl rfl,⟨.inl rfl,⟨.inl rfl,⟨.inl rfl,⟨.inl rfl,trivial⟩⟩⟩⟩⟩⟩⟩⟩ rfl rfl rfl rfl kT35 rfl (by simp) (by simp) (by decide) (zG rfl) (tp rfl) (hS26 rfl) rfl iI rfl iI (.tail _ (.head _)) rfl [45] rfl [] rfl rfl rfl rfl (λ _ _ _ st30=>?_)
  have st31:=st30.gn
  refine st31.segA 1 [9] [(8,5)] (λ _ _ st32=>wpList_nil (za ?_))
  refine wp_ret (zd ?_)
  exact st32.rtCt 5 rfl kT35 rfl rfl iI h29
 obtain⟨v33,p33,h34⟩:=bs h21
 refine st19.segB 5 (sc rfl (xFa rfl WE (zG rfl))<|sc rfl (xLf (sb:=4) ((PV.root.box rfl).fld owFinder.f1) rfl kT3 (tp rfl) rfl)<|sP 1 (r:=by exact sc rfl (xMin rfl cI (tp rfl))<|sc rfl (xFa rfl WE (zG rfl))<|.nil)) [2,3,5,10,11,49,50] [(4,1),(8,5)] (λ _ _ st35=>?_)
 refine st35.sfA 4 1 ((PV.root.box rfl).fld owFinder.f1) (tp rfl) (tp rfl) [2,3,5,10,11] [8] (λ _ st36=>wpList_nil (za (wp_seq (wp_region_list ?_))))
 obtain⟨v37,p37,h38⟩:=bs h34
 refine st36.segB 9 (sP 7 (r:=by exact sc rfl (zo (l:=[.tmp 55,.tmp 56,.tmp 57]) rfl kN86 (.cons (tp rfl) (.cons (tp rfl) (.cons (tp rfl) .nil))) ((Jp p37)).fn)<|sc rfl (Q6 rfl (tp rfl) (tp rfl) (tp rfl) (tp rfl))<|.nil)) [10,59] [(4,1),(8,5)] (λ _ _ st39=>?_)
 refine st39.alA 6 zrDir [10,59] [4,8] (λ b41 _ _ _ st41=>?_)
 have st42:=st41.gn
 refine st42.stA 12 6 FldS.id (tp rfl) [10] [4,8] (λ _ _ st44=>wpList_nil (za ?_))
 obtain⟨o45,p45,k45⟩:=bs h38
 refine zm (λ a w=>∃ M1 q45_0 q45_1 q45_2 q45_3 q45_4 q45_5 q45_6,Sx (Frm.chg w0 G) 80 M M1 [q45_0,q45_1,q45_2,q45_3,q45_4,q45_5,oneB q45_6] [] [(12,6,dbox q45_6 0 (⟨x2,x3,v12,v37⟩:Dir)),(4,1,dow (Ow.box (owFinder (Ow.row 77 (Ow.frz (α:=Dir))))) q45_1 ⟨o45⟩),(8,5,dow (Ow.box (owFinder (Ow.row 77 (Ow.frz (α:=Dir))))) q45_5 ⟨zi⟩)] a w) ?_ ?_
 ·
  refine st44.sqA [10,61] [(4,1),(8,5),(12,6)] (λ _ _ st46=>?_)
  refine st46.cs rfl p45 (λ _ h47=>wp_region_list ?_) (λ _ h48=>?_)
  ·
   obtain⟨v50,p50,h51⟩:=bs h47
   refine st46.hdA 4 1 ((PV.root.box rfl).fld owFinder.f0) [8,12] (λ g49 A49 _ hA49 st49=>?_)
   refine st49.segB 5 (sc rfl (xFa rfl jE (zG rfl))<|sc rfl (xLc (sb:=4) (.head _) rfl rfl rfl kT33 (tp rfl) rfl)<|sP 2 (r:=by exact sc rfl (xIa (g:=g49) rfl kS33 (tp rfl) (tp rfl) rfl (λ h=>hA49 h rfl) p50)<|.nil)) [65,66] [(4,1),(8,5),(12,6)] (λ _ _ st52=>?_)
   refine st52.sfA 4 1 ((((PV.root (x:=(⟨{ x0 with fills:=(if v33<(1000:Int) then v33 else(1000:Int)) }⟩:Bx Finder))).box rfl).fld owFinder.f0).row (.head _) rfl (λ h=>hA49 h rfl) p50) (tp rfl) (tp rfl) [] [8,12] (λ _ st53=>wpList_nil ?_)
   have st54:=st53.unm (s:=4) 1 rfl rfl iI [8,12] rfl
   have st55:=st54.unm (s:=8) 5 rfl rfl iI [4,12] rfl
   refine za ?_
   cases h51
   exact fx
  refine st46.hdA 4 1 ((PV.root.box rfl).fld owFinder.f0) [8,12] (λ g56 A56 _ hA56 st56=>?_)
  refine st56.sqB (sc rfl (xFa rfl jE (zG rfl))<|sc rfl (xLc (sb:=4) (.head _) rfl rfl rfl kT33 (tp rfl) rfl)<|sc rfl (xLe rfl kL33 (tp rfl))<|segC) [70] [(4,1),(8,5),(12,6)] (λ _ _ st57=>?_)
  have st58:=st57.ncf (s:=4) 1 rfl rfl iI [8,12] rfl
  refine st58.cs rfl h48 (λ _ h59=>wp_region_list ?_) (λ _ h60=>wp_skip ?_)
  ·
   refine st58.hdA 4 1 ((PV.root.box rfl).fld owFinder.f0) [8,12] (λ g61 A61 _ hA61 st61=>?_)
   refine st61.segB 4 (sc rfl (xFa rfl jE (zG rfl))<|sc rfl (xLc (sb:=4) (.head _) rfl rfl rfl kT33 (tp rfl) rfl)<|segC) [72,74] [(4,1),(8,5),(12,6)] (λ _ _ st62=>?_)
   refine st62.mvG (s:=72) (sb:=4) 1 3 ((PV.root.box rfl).fld owFinder.f0) (.head _) rfl (Yh rfl rfl) rfl (by simp) (by simp) (by decide) rfl iI [74] rfl [8,12] rfl rfl rfl rfl (λ G64 H64 st64=>?_)
   have st65:=st64.gs (Gs':=[oneB none,G64,oneB none,H64,oneB none,(oneB (some b4)),oneB (some b41)]) rfl
   refine st65.tipR (s:=72) 3 rfl rfl (by simp) iI [4,8,12] rfl rfl (λ g66 st66=>?_)
   obtain⟨v68,p68,h69⟩:=bs h59
   refine st66.apA 3 wO p68 [] [4,8,12] (λ g67 _ _ _ st67=>?_)
   have st70:=st67.gn
   refine st70.segB 1 (sc rfl (xFa rfl jE (opd_hl rfl))<|.nil) [76] [(4,1),(8,5),(12,6),(75,3)] (λ _ _ st71=>?_)
   have st73:=st71.tipW (s:=75) 3 rfl rfl iI [4,8,12] rfl
   refine st73.shA 4 75 1 3 (tp rfl) [] [8,12] (λ _ _ st72=>?_)
   have st74:=st72.gn
   refine wpList_nil ?_
   have st75:=st74.unm (s:=4) 1 rfl rfl iI [8,12] rfl
   have st76:=st75.unm (s:=8) 5 rfl rfl iI [4,12] rfl
   refine za ?_
   cases h69
   exact fx
  have st77:=st58.unm (s:=4) 1 rfl rfl iI [8,12] rfl
  have st78:=st77.unm (s:=8) 5 rfl rfl iI [4,12] rfl
  refine za ?_
  cases h60
  exact fx
 rintro a45 w45 ⟨M45,q45_0,q45_1,q45_2,q45_3,q45_4,q45_5,q45_6,st45⟩
 have h79:=k45
 refine wp_seq ?_
 refine st45.nmB (s:=8) 5 rfl rfl iI [4,12] rfl (λ b80 st80=>?_)
 refine st80.nmB (s:=4) 1 rfl rfl iI [8,12] rfl (λ b81 st81=>?_)
 refine st81.hdW (s:=4) 1 true (λ _=>(PV.root.box rfl)) rfl rfl iI [8,12] rfl (λ cs82 hS82 st82=>?_)
 refine st82.lateO (D:=[_,_,_,Yv]) (sb:=8) (s4:=4) 5 1 zD 4 3 [[(4,nS)],[(12,nS)],[(78,1)],[(8,nS),(77,0)],[(79,2)]] (by decide +kernel) (by decide) (by decide) rfl (
  lc rfl rfl rfl (xLw (sb:=4) (.head _) rfl (hS82 rfl) rfl kT35 (zG rfl) rfl)<|lc rfl rfl rfl (zB Dir.fld3 rfl YH (tp rfl))<|lc rfl rfl rfl (zf rfl kT75 (tp rfl))<|ll rfl<|.nil) ⟨.inl rfl,⟨.inr ⟨6,by decide,iI⟩,⟨.inl rfl,⟨.inl rfl,trivial⟩⟩⟩⟩ rfl rfl rfl rfl kT35 rfl (by simp) (by simp) (by decide) (zG rfl) (tp rfl) (hS82 rfl) rfl iI rfl iI (.head _) rfl [79] rfl [] rfl rfl rfl rfl (λ _ _ _ st83=>?_)
 have st84:=st83.gn
 refine st84.segA 1 [9] [(8,5)] (λ _ _ st85=>wpList_nil (za (wp_ret ?_)))
 exact st85.rtCt 5 rfl kT35 rfl rfl iI h79
def wF(x1:Disk)(x2:List Int)(x3:Str)(x4:Str)(s14:Finder×Finder×Spec×(List Int)×Int):Option ((Finder×Finder×Spec×(List Int)×Int)⊕((Finder×Finder×Spec×(List Int))⊕(Finder×Spec))):=
if(cmpI .lss s14.2.2.2.2 (x2.length:Int))=true then(Option.bind (α:=(Finder×Finder×Spec×(List Int))⊕((Finder×Finder×Spec×(List Int)×Int)⊕((Finder×Finder×Spec×(List Int))⊕(Finder×Spec)))) ((atI x2 s14.2.2.2.2).bind λ v24=>
(ZW s14.1 x1 v24 x3).bind λ v33=>
(catO x4 (⟨[47]⟩:Str)).bind λ v116=>
(qq v33.2 v116).bind λ v117=>
(atI x2 s14.2.2.2.2).bind λ v121=>
(Yk x3 x4).bind λ v122=>
(ZT x1.tree (⟨v121,v122,⟨[]⟩,true,0,[]⟩:File)).bind λ v123=>
if(v117&&cmpI .geq v123 (0:Int))=true then((atI x2 s14.2.2.2.2).bind λ v134=>
some (.inr (.inr (.inr (v33.1,(⟨(2:Int),v123,([v134]:List Int)⟩:Spec))))))
else((atI x2 s14.2.2.2.2).bind λ v143=>
(ZT x1.tree (⟨v143,x3,x4,false,0,[]⟩:File)).bind λ v144=>
(qq v33.2 x4).bind λ v148=>
if(v148&&cmpI .geq v144 (0:Int))=true then(some (.inr (.inr (.inr (v33.1,(⟨(1:Int),v144,([]:List Int)⟩:Spec))))))
else((gO (v117 == true) (atI x2 s14.2.2.2.2)).bind λ v164=>
(gO (v117 == true) (Yk x3 x4)).bind λ v165=>
(gO (v117 == true) (YU x1.tree v164 v165)).bind λ v166=>
if(v117&&v166)=true then((atI x2 s14.2.2.2.2).bind λ v173=>
(appO 8 s14.2.2.2.1 ([v173]:List Int)).bind λ v178=>
some (.inl (v33.1,s14.2.1,s14.2.2.1,v178)))
else(some (.inl (v33.1,s14.2.1,s14.2.2.1,s14.2.2.2.1)))))) (Sum.elim (λ b19=>
(i64 (s14.2.2.2.2+(1:Int))).bind λ v233=>
some (.inl (b19.1,b19.2.1,b19.2.2.1,b19.2.2.2,v233))) some))
else(some (.inr (.inl (s14.1,s14.2.1,s14.2.2.1,s14.2.2.2.1))))
def ZX(x0:Finder)(x1:Disk)(x2:List Int)(x3:Str)(x4:Str):Option (Finder×Spec):=
Option.bind (α:=(Finder×Finder×Spec×(List Int))⊕(Finder×Spec)) (zS (λ s14=>wF x1 x2 x3 x4 s14) (x0,zi,zO,[],(0:Int))) (Sum.elim (λ b10=>
if(cmpI .gtr (b10.2.2.2.length:Int) (0:Int))=true then(some (b10.1,(⟨(3:Int),(-1:Int),b10.2.2.2⟩:Spec)))
else((Za).bind λ v253=>
some (b10.1,v253))) some)
theorem spec_seenIn_w{x0:Finder}{x1:Disk}{x2:List Int}{x3:Str}{x4:Str}{r:Finder×Spec}(h:ZX x0 x1 x2 x3 x4=some r):FnT prog 97 (owFinder (Ow.row 77 (Ow.frz (α:=Dir)))) x0 [dt x1,dt x2,dt x3,dt x4] (.t2o (owFinder (Ow.row 77 (Ow.frz (α:=Dir)))) r.1 (dt r.2)):=by
 unfold ZX at h
 refine fnT (fn:=f97) 0 13 func97 rfl (oD rfl) rfl (λ M G w0 _ st0=>wp_seq (wp_region_list ?_))
 refine st0.boxW 1 0 rfl rfl rfl (by simp) (by simp) (by decide) iI [1,2,3,4] rfl [] rfl rfl rfl (λ b1 _ M1 _ _ st1=>?_)
 have st2:=st1.gn
 refine st2.segA 1 [2,3,4,6] [(5,1)] (λ _ _ st3=>?_)
 refine st3.alcW (ow:=(owFinder (Ow.row 77 (Ow.frz (α:=Dir))))) 10 rfl rfl kZ35 (owFinder.z Ow.row_z) (by simp) [2,3,4,6] rfl [5] rfl rfl (λ b4 _ _ _ st4=>?_)
 have st5:=st4.gn
 refine st5.alA 11 yz [2,3,4,6] [5,10] (λ b7 _ _ _ st7=>?_)
 have st8:=st7.gn
 refine wpList_nil (za ?_)
 refine st8.sqB (sc rfl (wT (α:=Int) (e:=3) rfl kS30)<|segC) [2,3,4,6] [(5,1),(10,10),(11,11),(12,8)] (λ _ _ st9=>?_)
 obtain⟨o10,p10,k10⟩:=bs h
 refine zm (λ a w=>∃ b10,o10=.inl b10/\(∃ M1 q10_0 q10_1 q10_2 q10_3 q10_4 q10_5 q10_6 q10_7 q10_8 q10_9 q10_10 q10_11 q10_12,Sx (Frm.chg w0 G) 115 M M1 [q10_0,q10_1,q10_2,q10_3,q10_4,q10_5,q10_6,q10_7,oneB q10_8,q10_9,q10_10,oneB q10_11,q10_12] [] [(11,11,dbox q10_11 0 b10.2.2.1),(12,8,dtip q10_8 3 b10.2.2.2),(5,1,dow (Ow.box (owFinder (Ow.row 77 (Ow.frz (α:=Dir))))) q10_1 ⟨b10.1⟩),(10,10,dow (Ow.box (owFinder (Ow.row 77 (Ow.frz (α:=Dir))))) q10_10 ⟨b10.2.1⟩)] a w)) ?_ ?_
 ·
  refine st9.sqA [2,3,4,6,13] [(5,1),(10,10),(11,11),(12,8)] (λ _ _ st11=>wp_block ?_)
  have st12:=st11.unm (s:=5) 1 rfl rfl iI [10,11,12] rfl
  have st13:=st12.unm (s:=10) 10 rfl rfl iI [5,11,12] rfl
  refine zL p10 (λ s14 a w=>∃ M1 q14_0 q14_1 q14_2 q14_3 q14_4 q14_5 q14_6 q14_7 q14_8 q14_9 q14_10 q14_11 q14_12,Sx (Frm.chg w0 G) 115 M M1 [q14_0,q14_1,q14_2,q14_3,q14_4,q14_5,q14_6,q14_7,oneB q14_8,q14_9,q14_10,oneB q14_11,q14_12] [(2,dt x2),(3,dt x3),(4,dt x4),(6,dptr x1),(13,dt s14.2.2.2.2)] [(11,11,dbox q14_11 0 s14.2.2.1),(12,8,dtip q14_8 3 s14.2.2.2.1),(5,1,dow (Ow.box (owFinder (Ow.row 77 (Ow.frz (α:=Dir))))) q14_1 ⟨s14.1⟩),(10,10,dow (Ow.box (owFinder (Ow.row 77 (Ow.frz (α:=Dir))))) q14_10 ⟨s14.2.1⟩)] a w) fx ?_
  rintro s14 z14 a14 w14 ⟨M14,q14_0,q14_1,q14_2,q14_3,q14_4,q14_5,q14_6,q14_7,q14_8,q14_9,q14_10,q14_11,q14_12,st14⟩ hs14 hx14
  have h15:wF x1 x2 x3 x4 s14=some z14:=hs14
  unfold wF at h15
  refine wp_seq ?_
  refine st14.sqA [2,3,4,6,13,23] [(5,1),(10,10),(11,11),(12,8)] (λ _ _ st16=>?_)
  refine st16.cs rfl h15 (λ _ h17=>wp_skip (za ?_)) (λ _ h18=>wp_exit (zh (zh (zE ?_))))
  ·
   obtain⟨o19,p19,k19⟩:=bs h17
   refine zm (λ a w=>∃ b19,o19=.inl b19/\(∃ M1 q19_0 q19_1 q19_2 q19_3 q19_4 q19_5 q19_6 q19_7 q19_8 q19_9 q19_10 q19_11 q19_12,Sx (Frm.chg w0 G) 115 M M1 [q19_0,q19_1,q19_2,q19_3,q19_4,q19_5,q19_6,q19_7,oneB q19_8,q19_9,q19_10,oneB q19_11,q19_12] [(2,dt x2),(3,dt x3),(4,dt x4),(6,dptr x1),(13,dt s14.2.2.2.2)] [(11,11,dbox q19_11 0 b19.2.2.1),(12,8,dtip q19_8 3 b19.2.2.2),(5,1,dow (Ow.box (owFinder (Ow.row 77 (Ow.frz (α:=Dir))))) q19_1 ⟨b19.1⟩),(10,10,dow (Ow.box (owFinder (Ow.row 77 (Ow.frz (α:=Dir))))) q19_10 ⟨b19.2.1⟩)] a w)) ?_ ?_
   ·
    refine wp_block (wp_seq ?_)
    refine st16.heldF zD (λ c20 _ hz20 st20=>?_)
    refine st20.tkLp (i:=1) rfl rfl (by decide +kernel) (by decide +kernel) (by decide +kernel) (λ _ _ _ _ h=>h) (st20.fzS (g:=115) rfl) hz20 rfl kT45 (tp rfl) (λ _ st21=>?_)
    refine st21.tM 2 2 (st21.fzS (g:=115) rfl) (λ _ st22=>?_)
    refine st22.tM 3 13 (st22.fzS (g:=115) rfl) (λ _ st23=>?_)
    obtain⟨v24,p24,h26⟩:=bs p19
    refine st23.tkIF (i:=4) rfl rfl (by decide +kernel) (by decide +kernel) (by decide +kernel) (λ _ _ _ _ h=>h) (st23.fzS (g:=115) rfl) rfl kS30 (tp rfl) (tp rfl) p24 (next:=λ a25 st25=>?_)
    refine st25.tkLp (i:=5) rfl rfl (by decide +kernel) (by decide +kernel) (by decide +kernel) (λ _ _ _ _ h=>h) (st25.fzS (g:=115) rfl) hz20 rfl kT3 (tp rfl) (λ _ st27=>?_)
    refine st27.tM 6 3 (st27.fzS (g:=115) rfl) (λ _ st28=>?_)
    obtain⟨v33,p33,h44⟩:=bs h26
    refine zq 1 8191 (λ a w=>∃ M1 q108_0 q108_1 q108_3 q108_4 q108_5 q108_6 q108_7 q108_8 q108_9 q108_10 q108_11 q108_12,Sx (Frm.chg w0 G) 115 M M1 [q108_0,q108_1,oneB none,q108_3,q108_4,q108_5,q108_6,q108_7,oneB q108_8,q108_9,q108_10,oneB q108_11,q108_12] [(2,dt x2),(3,dt x3),(4,dt x4),(6,dptr x1),(13,dt s14.2.2.2.2),(36,dt v33.2),(115,dfz c20)] [(11,11,dbox q108_11 0 s14.2.2.1),(12,8,dtip q108_8 3 s14.2.2.2.1),(10,10,dow (Ow.box (owFinder (Ow.row 77 (Ow.frz (α:=Dir))))) q108_10 ⟨s14.2.1⟩),(14,12,dow (Ow.box (owFinder (Ow.row 77 (Ow.frz (α:=Dir))))) q108_12 ⟨v33.1⟩),(5,1,dbd q108_1 3)] a w) ?_ (λ n108=>?_)
    ·
     rintro a108 w108 ⟨M108,q108_0,q108_1,q108_3,q108_4,q108_5,q108_6,q108_7,q108_8,q108_9,q108_10,q108_11,q108_12,st108⟩
     refine aK1 13 ?_
     refine st108.segA 1 [2,3,4,6,13,15,115] [(5,1),(10,10),(11,11),(12,8),(14,12)] (λ _ _ st111=>?_)
     refine aHN (st111.fzS (g:=115) rfl) ?_
     refine aK0 (za (wp_seq (wp_region_list ?_)))
     refine st111.nmB (s:=14) 12 rfl rfl iI [5,10,11,12] rfl (λ b113 st113=>?_)
     refine st113.ldW (sb:=14) 12 rfl rfl kT35 rfl (by simp) iI [2,3,4,6,13,15] rfl [5,10,11,12] rfl rfl (λ _ _ st112=>?_)
     refine st112.stRv (sb:=5) (tv:=37) 1 12 rfl rfl rfl kT35 (by simp) (by simp) (by decide) rfl rfl iI rfl iI [2,3,4,6,13,15] rfl [10,11,12] rfl rfl rfl (λ _ _ st114=>?_)
     have st115:=st114.gn
     refine wpList_nil (za ?_)
     obtain⟨v116,p116,v117,p117,h119⟩:=bsB h44
     refine st115.sqB (sP 2 (r:=by exact sc rfl (xCat rfl (tp rfl) (zQ (by decide)) p116)<|sc rfl (oK (Jg p117))<|segC)) [2,3,4,6,13,15,16] [(5,1),(10,10),(11,11),(12,8)] (λ _ _ st120=>wp_seq ?_)
     obtain⟨v121,p121,v122,p122,v123,p123,h126⟩:=bsC h119
     refine st120.drA (D:=[_,_,_,_,_,_,_,_,_,_,_,_]) zD [[(6,nS)],[(42,0)],[(2,nS)],[(13,nS)],[(44,2),(45,3)],[(46,4)],[(3,nS)],[(4,nS)],[(48,6),(49,7)],[(47,5),(50,8)],[(43,1),(51,9)],[(52,10)]] [2,3,4,6,13,15,16,17] [(5,1),(10,10),(11,11),(12,8)] (λ _ _ st127=>?_) (hs:=rc rfl rfl (zv Disk.fld0 rfl Yl (tp rfl))<|rc rfl rfl (zp rfl kT43 (tp rfl))<|rc rfl rfl (oM rfl (tp rfl))<|rc rfl rfl (oM rfl (tp rfl))<|rc rfl rfl (xIdx rfl kS30 (tp rfl) (tp rfl) p121)<|rc rfl rfl (zp rfl kT3 (tp rfl))<|rc rfl rfl (oM rfl (tp rfl))<|rc rfl rfl (oM rfl (tp rfl))<|rc rfl rfl (zo (l:=[.tmp 48,.tmp 49]) rfl kN115 (.cons (tp rfl) (.cons (tp rfl) .nil)) (Q5 p122))<|rc rfl rfl (zbF rfl (tp rfl) (tp rfl) cB)<|rc rfl rfl (zo (l:=[.tmp 43,.tmp 51]) rfl kN133 (.cons (tp rfl) (.cons (tp rfl) .nil)) (J1 p123))<|rc rfl rfl (oA rfl (tp rfl))<|.nil)
     refine za (wp_seq ?_)
     refine st127.sqC [2,3,4,6,13,15,16,17,57] [(5,1),(10,10),(11,11),(12,8)] (λ _ _ st128=>?_)
     refine st128.cs rfl h126 (λ _ h129=>wp_seq ?_) (λ _ h130=>wp_skip (za (wp_seq ?_)))
     ·
      refine st128.nmB (s:=10) 10 rfl rfl iI [5,11,12] rfl (λ b131 st131=>?_)
      refine st131.nmB (s:=5) 1 rfl rfl iI [10,11,12] rfl (λ b132 st132=>?_)
      obtain⟨v134,p134,h135⟩:=bs h129
      refine st132.hdW (s:=5) 1 true (λ _=>(PV.root.box rfl)) rfl rfl iI [10,11,12] rfl (λ cs133 hS133 st133=>?_)
      refine st133.lateO (D:=[_,_,_,_,_,_,_,_,Yv]) (sb:=10) (s4:=5) 10 1 zD 9 8 [[(5,nS)],[(17,nS)],[(2,nS)],[(13,nS)],[(60,2),(61,3)],[(62,4)],[(63,5)],[(59,1),(64,6)],[(10,nS),(58,0)],[(11,nS),(65,7)]] (by decide +kernel) (by decide) (by decide) rfl (
       lc rfl rfl rfl (xLw (sb:=5) (.head _) rfl (hS133 rfl) rfl kT35 (zG rfl) rfl)<|lc rfl rfl rfl (oM rfl (tp rfl))<|lc rfl rfl rfl (oM rfl (tp rfl))<|lc rfl rfl rfl (oM rfl (tp rfl))<|lc rfl rfl rfl (xIdx rfl kS30 (tp rfl) (tp rfl) p134)<|lc rfl rfl rfl (zp rfl kT3 (tp rfl))<|lc rfl rfl rfl (yG (opds:=[.tmp 63]) rfl kS30 kY30 rfl rfl (by decide) (.cons (tp rfl) .nil))<|lc rfl rfl rfl (Zq rfl cI (tp rfl) (tp rfl))<|ll rfl<|.nil) ⟨.inl rfl,⟨.inl rfl,⟨.inl rfl,⟨.inl rfl,⟨.inl rfl,⟨.inl rfl,⟨.inl rfl,⟨.inl rfl,⟨.inl rfl,trivial⟩⟩⟩⟩⟩⟩⟩⟩⟩ rfl rfl rfl rfl kT35 rfl (by simp) (by simp) (by decide) (zG rfl) (tp rfl) (hS133 rfl) rfl iI rfl iI (.head _) rfl [65] rfl [11] rfl rfl rfl rfl (λ _ _ _ st136=>?_)
      have st137:=st136.gn
      refine st137.stA 11 11 FldS.id (tp rfl) [] [10] (λ _ _ st139=>wpList_nil (za ?_))
      refine wp_ret (zd (zt (zd (zd (zt (zd ?_))))))
      have h140:=jo h135 k19
      have h141:=lo h140 hx14
      have h142:=jo h141 k10
      exact st139.rtCC 10 rfl kT35 kT37 rfl rfl iI h142
     obtain⟨v143,p143,v144,p144,h146⟩:=bsB h130
     refine st128.drA (D:=[_,_,_,_,_,_,_,_,_,_,_]) zD [[(6,nS)],[(66,0)],[(2,nS)],[(13,nS)],[(68,2),(69,3)],[(70,4)],[(3,nS)],[(4,nS)],[(71,5),(72,6),(73,7)],[(67,1),(74,8)],[(75,9)]] [2,3,4,6,13,15,16,18] [(5,1),(10,10),(11,11),(12,8)] (λ _ _ st147=>?_) (hs:=rc rfl rfl (zv Disk.fld0 rfl Yl (tp rfl))<|rc rfl rfl (zp rfl kT43 (tp rfl))<|rc rfl rfl (oM rfl (tp rfl))<|rc rfl rfl (oM rfl (tp rfl))<|rc rfl rfl (xIdx rfl kS30 (tp rfl) (tp rfl) p143)<|rc rfl rfl (zp rfl kT3 (tp rfl))<|rc rfl rfl (oM rfl (tp rfl))<|rc rfl rfl (oM rfl (tp rfl))<|rc rfl rfl (zbG rfl (tp rfl) (tp rfl) (tp rfl))<|rc rfl rfl (zo (l:=[.tmp 67,.tmp 74]) rfl kN133 (.cons (tp rfl) (.cons (tp rfl) .nil)) (J1 p144))<|rc rfl rfl (oA rfl (tp rfl))<|.nil)
     refine za (wp_seq ?_)
     obtain⟨v148,p148,h149⟩:=bsW h146 Jg
     refine st147.sqC [2,3,4,6,13,16,18,82] [(5,1),(10,10),(11,11),(12,8)] (λ _ _ st150=>?_)
     refine st150.cs rfl h149 (λ _ h151=>wp_seq (wp_region_list ?_)) (λ _ h152=>wp_skip (za (wp_seq ?_)))
     ·
      refine st150.nmB (s:=5) 1 rfl rfl iI [10,11,12] rfl (λ b154 st154=>?_)
      refine st154.ldW (sb:=5) 1 rfl rfl kT35 rfl (by simp) iI [18] rfl [10,11] rfl rfl (λ _ _ st153=>?_)
      refine st153.segB 3 (sP 1 (r:=by exact sc rfl (yG (opds:=[]) (α:=Int) rfl kS30 kY30 rfl rfl (by decide) .nil)<|sc rfl (Zq rfl cI (tp rfl) (tp rfl))<|.nil)) [86] [(10,10),(11,11),(83,1)] (λ _ _ st155=>?_)
      refine st155.nmB (s:=10) 10 rfl rfl iI [11,83] rfl (λ b157 st157=>?_)
      refine st157.stO (sb:=10) (tv:=83) 10 1 (PV.root.box rfl) rfl rfl rfl kT35 (by simp) (by simp) (by decide) (zG rfl) rfl rfl rfl iI iI [86] rfl [11] rfl rfl rfl (λ _ _ st156=>?_)
      have st158:=st156.gn
      refine st158.stA 11 11 FldS.id (tp rfl) [] [10] (λ _ _ st160=>wpList_nil (za ?_))
      refine wp_ret (zd (zt (zd (zd (zt (zd ?_))))))
      have h161:=jo h151 k19
      have h162:=lo h161 hx14
      have h163:=jo h162 k10
      exact st160.rtCC 10 rfl kT35 kT37 rfl rfl iI h163
     obtain⟨v164,p164,v165,p165,v166,p166,h169⟩:=bsC h152
     refine st150.drA (D:=[_,_,_,_,_,_,_,_,_,_,_,_,_]) zD [[(16,nS)],[(87,0)],[(6,nS),(88,1)],[(89,2),(88,1)],[(2,nS),(88,1)],[(13,nS),(88,1)],[(91,4),(92,5),(88,1)],[(93,6),(88,1)],[(3,nS),(88,1)],[(4,nS),(88,1)],[(95,8),(96,9),(88,1)],[(90,3),(94,7),(97,10),(88,1)],[(88,1),(98,11)]] [2,3,4,6,13,99] [(5,1),(10,10),(11,11),(12,8)] (λ _ _ st170=>?_) (hs:=rc rfl rfl (oM rfl (tp rfl))<|rc rfl rfl (oM rfl (tp rfl))<|rg rfl rfl rfl (λ hg=>zv Disk.fld0 rfl Yl (tp rfl))<|rg rfl rfl rfl (λ hg=>zp rfl kT43 (ze hg rfl))<|rg rfl rfl rfl (λ hg=>oM rfl (tp rfl))<|rg rfl rfl rfl (λ hg=>oM rfl (tp rfl))<|rg rfl rfl rfl (λ hg=>xIdx rfl kS30 (ze hg rfl) (ze hg rfl) (gh hg p164))<|rg rfl rfl rfl (λ hg=>zp rfl kT3 (ze hg rfl))<|rg rfl rfl rfl (λ hg=>oM rfl (tp rfl))<|rg rfl rfl rfl (λ hg=>oM rfl (tp rfl))<|rg rfl rfl rfl (λ hg=>zo (l:=[.tmp 95,.tmp 96]) rfl kN115 (.cons (ze hg rfl) (.cons (ze hg rfl) .nil)) (Q5 (gh hg p165)))<|rg rfl rfl rfl (λ hg=>zo (l:=[.tmp 90,.tmp 94,.tmp 97]) rfl kN136 (.cons (ze hg rfl) (.cons (ze hg rfl) (.cons (ze hg rfl) .nil))) (spec_hasDir_w (gh hg p166)))<|rc rfl rfl (yK rfl (tp rfl) (zb rfl))<|.nil)
     refine za ?_
     refine st170.cs rfl h169 (λ _ h171=>wp_region_list ?_) (λ _ h172=>wp_skip (zg (za ?_)))
     ·
      obtain⟨v173,p173,h174⟩:=bs h171
      refine st170.segC 6 [2,3,4,6,13,105] [(5,1),(10,10),(11,11),(12,8),(100,8)] (λ _ _ st175=>?_)
      obtain⟨v178,p178,h179⟩:=bs h174
      refine st175.apA 8 wO p178 [2,3,4,6,13] [5,10,11] (λ g177 _ _ _ st177=>?_)
      have st180:=st177.gn
      refine st180.segA 1 [2,3,4,6,13] [(5,1),(10,10),(11,11),(12,8)] (λ _ _ st181=>wpList_nil (zg (za ?_)))
      exact fl h179
     exact fl h172
    refine zq 2 4095 (λ a w=>∃ M1 q96_0 q96_1 q96_2 q96_3 q96_4 q96_5 q96_6 q96_7 q96_8 q96_9 q96_10 q96_11 q96_12,Sx (Frm.chg w0 G) 115 M M1 [q96_0,q96_1,q96_2,q96_3,q96_4,q96_5,q96_6,q96_7,oneB q96_8,q96_9,q96_10,oneB q96_11,q96_12] [(2,dt x2),(3,dt x3),(4,dt x4),(6,dptr x1),(13,dt s14.2.2.2.2),(36,dt v33.2),(115,dfz c20)] [(11,11,dbox q96_11 0 s14.2.2.1),(12,8,dtip q96_8 3 s14.2.2.2.1),(10,10,dow (Ow.box (owFinder (Ow.row 77 (Ow.frz (α:=Dir))))) q96_10 ⟨s14.2.1⟩),(14,12,dow (Ow.box (owFinder (Ow.row 77 (Ow.frz (α:=Dir))))) q96_12 ⟨zi⟩),(35,2,dow (owFinder (Ow.row 77 (Ow.frz (α:=Dir)))) q96_2 v33.1),(5,1,dbd q96_1 3)] a w) ?_ (λ n96=>?_)
    ·
     rintro a96 w96 ⟨M96,q96_0,q96_1,q96_2,q96_3,q96_4,q96_5,q96_6,q96_7,q96_8,q96_9,q96_10,q96_11,q96_12,st96⟩
     refine aK1 12 ?_
     refine st96.nmB (s:=14) 12 rfl rfl iI [5,10,11,12,35] rfl (λ b183 st183=>?_)
     refine st183.stO (sb:=14) (tv:=35) 12 2 (PV.root.box rfl) rfl rfl rfl kT35 (by simp) (by simp) (by decide) (zG rfl) rfl rfl rfl iI iI [2,3,4,6,13,36,115] rfl [5,10,11,12] rfl rfl rfl (λ _ _ st182=>?_)
     have st184:=st182.gn
     have st185:=st184.unm (s:=14) 12 rfl rfl iI [5,10,11,12] rfl
     exact aHe n108 (st185.fzS (g:=115) rfl)
    refine zq 2 7167 (λ a w=>∃ M1 q102_0 q102_1 q102_3 q102_4 q102_5 q102_6 q102_7 q102_8 q102_9 q102_10 q102_11 q102_12,Sx (Frm.chg w0 G) 115 M M1 [q102_0,q102_1,oneB none,q102_3,q102_4,q102_5,q102_6,q102_7,oneB q102_8,q102_9,q102_10,oneB q102_11,q102_12] [(2,dt x2),(3,dt x3),(4,dt x4),(6,dptr x1),(13,dt s14.2.2.2.2),(26,dex2 (dt v33.2)),(115,dfz c20)] [(11,11,dbox q102_11 0 s14.2.2.1),(12,8,dtip q102_8 3 s14.2.2.2.1),(10,10,dow (Ow.box (owFinder (Ow.row 77 (Ow.frz (α:=Dir))))) q102_10 ⟨s14.2.1⟩),(14,12,dow (Ow.box (owFinder (Ow.row 77 (Ow.frz (α:=Dir))))) q102_12 ⟨v33.1⟩),(5,1,dbd q102_1 3)] a w) ?_ (λ n102=>?_)
    ·
     rintro a102 w102 ⟨M102,q102_0,q102_1,q102_3,q102_4,q102_5,q102_6,q102_7,q102_8,q102_9,q102_10,q102_11,q102_12,st102⟩
     refine aK1 10 ?_
     refine st102.segB 1 (sc rfl (Wi rfl (tp rfl))<|.nil) [2,3,4,6,13,36,115] [(5,1),(10,10),(11,11),(12,8),(14,12)] (λ _ _ st186=>?_)
     exact aHe n108 (st186.fzS (g:=115) rfl)
    refine zq 3 2047 (λ a w=>∃ M1 q81_0 q81_1 q81_2 q81_3 q81_4 q81_5 q81_6 q81_7 q81_8 q81_9 q81_10 q81_11 q81_12,Sx (Frm.chg w0 G) 115 M M1 [q81_0,q81_1,q81_2,q81_3,q81_4,q81_5,q81_6,q81_7,oneB q81_8,q81_9,q81_10,oneB q81_11,q81_12] [(2,dt x2),(3,dt x3),(4,dt x4),(6,dptr x1),(13,dt s14.2.2.2.2),(36,dt v33.2),(115,dfz c20)] [(11,11,dbox q81_11 0 s14.2.2.1),(12,8,dtip q81_8 3 s14.2.2.2.1),(10,10,dow (Ow.box (owFinder (Ow.row 77 (Ow.frz (α:=Dir))))) q81_10 ⟨s14.2.1⟩),(35,2,dow (owFinder (Ow.row 77 (Ow.frz (α:=Dir)))) q81_2 v33.1),(5,1,dbd q81_1 3)] a w) ?_ (λ n81=>?_)
    ·
     rintro a81 w81 ⟨M81,q81_0,q81_1,q81_2,q81_3,q81_4,q81_5,q81_6,q81_7,q81_8,q81_9,q81_10,q81_11,q81_12,st81⟩
     refine aK1 11 ?_
     refine st81.alcW (ow:=(owFinder (Ow.row 77 (Ow.frz (α:=Dir))))) 12 rfl rfl kZ35 (owFinder.z Ow.row_z) (by simp) [2,3,4,6,13,36,115] rfl [5,10,11,12,35] rfl rfl (λ b187 _ _ _ st187=>?_)
     have st188:=st187.gn
     have st189:=st188.unm (s:=14) 12 rfl rfl iI [5,10,11,12,35] rfl
     exact aHe n96 (st189.fzS (g:=115) rfl)
    refine zq 3 3071 (λ a w=>∃ M1 q85_0 q85_1 q85_2 q85_3 q85_4 q85_5 q85_6 q85_7 q85_8 q85_9 q85_10 q85_11 q85_12,Sx (Frm.chg w0 G) 115 M M1 [q85_0,q85_1,q85_2,q85_3,q85_4,q85_5,q85_6,q85_7,oneB q85_8,q85_9,q85_10,oneB q85_11,q85_12] [(2,dt x2),(3,dt x3),(4,dt x4),(6,dptr x1),(13,dt s14.2.2.2.2),(26,dex2 (dt v33.2)),(115,dfz c20)] [(11,11,dbox q85_11 0 s14.2.2.1),(12,8,dtip q85_8 3 s14.2.2.2.1),(10,10,dow (Ow.box (owFinder (Ow.row 77 (Ow.frz (α:=Dir))))) q85_10 ⟨s14.2.1⟩),(14,12,dow (Ow.box (owFinder (Ow.row 77 (Ow.frz (α:=Dir))))) q85_12 ⟨zi⟩),(35,2,dow (owFinder (Ow.row 77 (Ow.frz (α:=Dir)))) q85_2 v33.1),(5,1,dbd q85_1 3)] a w) ?_ (λ n85=>?_)
    ·
     rintro a85 w85 ⟨M85,q85_0,q85_1,q85_2,q85_3,q85_4,q85_5,q85_6,q85_7,q85_8,q85_9,q85_10,q85_11,q85_12,st85⟩
     refine aK2 10 12 ?_ ?_
     ·
      refine st85.segB 1 (sc rfl (Wi rfl (tp rfl))<|.nil) [2,3,4,6,13,36,115] [(5,1),(10,10),(11,11),(12,8),(14,12),(35,2)] (λ _ _ st190=>?_)
      exact aHe n96 (st190.fzS (g:=115) rfl)
     ·
      refine st85.nmB (s:=14) 12 rfl rfl iI [5,10,11,12,35] rfl (λ b192 st192=>?_)
      refine st192.stO (sb:=14) (tv:=35) 12 2 (PV.root.box rfl) rfl rfl rfl kT35 (by simp) (by simp) (by decide) (zG rfl) rfl rfl rfl iI iI [2,3,4,6,13,26,115] rfl [5,10,11,12] rfl rfl rfl (λ _ _ st191=>?_)
      have st193:=st191.gn
      have st194:=st193.unm (s:=14) 12 rfl rfl iI [5,10,11,12] rfl
      exact aHe n102 (st194.fzS (g:=115) rfl)
    refine zq 3 3583 (λ a w=>∃ M1 q90_0 q90_1 q90_2 q90_3 q90_4 q90_5 q90_6 q90_7 q90_8 q90_9 q90_10 q90_11 q90_12,Sx (Frm.chg w0 G) 115 M M1 [q90_0,q90_1,q90_2,q90_3,q90_4,q90_5,q90_6,q90_7,oneB q90_8,q90_9,q90_10,oneB q90_11,q90_12] [(2,dt x2),(3,dt x3),(4,dt x4),(6,dptr x1),(13,dt s14.2.2.2.2),(36,dt v33.2),(115,dfz c20)] [(11,11,dbox q90_11 0 s14.2.2.1),(12,8,dtip q90_8 3 s14.2.2.2.1),(10,10,dow (Ow.box (owFinder (Ow.row 77 (Ow.frz (α:=Dir))))) q90_10 ⟨s14.2.1⟩),(14,12,dow (Ow.box (owFinder (Ow.row 77 (Ow.frz (α:=Dir))))) q90_12 ⟨zi⟩),(5,1,dbd q90_1 3),(26,2,drd (.t2o (owFinder (Ow.row 77 (Ow.frz (α:=Dir)))) v33.1 (dt v33.2)) q90_2)] a w) ?_ (λ n90=>?_)
    ·
     rintro a90 w90 ⟨M90,q90_0,q90_1,q90_2,q90_3,q90_4,q90_5,q90_6,q90_7,q90_8,q90_9,q90_10,q90_11,q90_12,st90⟩
     refine aK1 9 ?_
     refine st90.ex2o (s:=26) 2 rfl rfl rfl rfl iI rfl [5,10,11,12,14] rfl (λ _ st195=>?_)
     exact aHe n96 (st195.fzS (g:=115) rfl)
    refine zq 4 1023 (λ a w=>∃ M1 q72_0 q72_1 q72_2 q72_3 q72_4 q72_5 q72_6 q72_7 q72_8 q72_9 q72_10 q72_11 q72_12,Sx (Frm.chg w0 G) 115 M M1 [q72_0,q72_1,q72_2,q72_3,q72_4,q72_5,q72_6,q72_7,oneB q72_8,q72_9,q72_10,oneB q72_11,q72_12] [(2,dt x2),(3,dt x3),(4,dt x4),(6,dptr x1),(13,dt s14.2.2.2.2),(26,dex2 (dt v33.2)),(115,dfz c20)] [(11,11,dbox q72_11 0 s14.2.2.1),(12,8,dtip q72_8 3 s14.2.2.2.1),(10,10,dow (Ow.box (owFinder (Ow.row 77 (Ow.frz (α:=Dir))))) q72_10 ⟨s14.2.1⟩),(35,2,dow (owFinder (Ow.row 77 (Ow.frz (α:=Dir)))) q72_2 v33.1),(5,1,dbd q72_1 3)] a w) ?_ (λ n72=>?_)
    ·
     rintro a72 w72 ⟨M72,q72_0,q72_1,q72_2,q72_3,q72_4,q72_5,q72_6,q72_7,q72_8,q72_9,q72_10,q72_11,q72_12,st72⟩
     refine aK2 10 11 ?_ ?_
     ·
      refine st72.segB 1 (sc rfl (Wi rfl (tp rfl))<|.nil) [2,3,4,6,13,36,115] [(5,1),(10,10),(11,11),(12,8),(35,2)] (λ _ _ st196=>?_)
      exact aHe n81 (st196.fzS (g:=115) rfl)
     ·
      refine st72.alcW (ow:=(owFinder (Ow.row 77 (Ow.frz (α:=Dir))))) 12 rfl rfl kZ35 (owFinder.z Ow.row_z) (by simp) [2,3,4,6,13,26,115] rfl [5,10,11,12,35] rfl rfl (λ b197 _ _ _ st197=>?_)
      have st198:=st197.gn
      have st199:=st198.unm (s:=14) 12 rfl rfl iI [5,10,11,12,35] rfl
      exact aHe n85 (st199.fzS (g:=115) rfl)
    refine zq 4 1535 (λ a w=>∃ M1 q74_0 q74_1 q74_2 q74_3 q74_4 q74_5 q74_6 q74_7 q74_8 q74_9 q74_10 q74_11 q74_12,Sx (Frm.chg w0 G) 115 M M1 [q74_0,q74_1,q74_2,q74_3,q74_4,q74_5,q74_6,q74_7,oneB q74_8,q74_9,q74_10,oneB q74_11,q74_12] [(2,dt x2),(3,dt x3),(4,dt x4),(6,dptr x1),(13,dt s14.2.2.2.2),(36,dt v33.2),(115,dfz c20)] [(11,11,dbox q74_11 0 s14.2.2.1),(12,8,dtip q74_8 3 s14.2.2.2.1),(10,10,dow (Ow.box (owFinder (Ow.row 77 (Ow.frz (α:=Dir))))) q74_10 ⟨s14.2.1⟩),(5,1,dbd q74_1 3),(26,2,drd (.t2o (owFinder (Ow.row 77 (Ow.frz (α:=Dir)))) v33.1 (dt v33.2)) q74_2)] a w) ?_ (λ n74=>?_)
    ·
     rintro a74 w74 ⟨M74,q74_0,q74_1,q74_2,q74_3,q74_4,q74_5,q74_6,q74_7,q74_8,q74_9,q74_10,q74_11,q74_12,st74⟩
     refine aK2 9 11 ?_ ?_
     ·
      refine st74.ex2o (s:=26) 2 rfl rfl rfl rfl iI rfl [5,10,11,12] rfl (λ _ st200=>?_)
      exact aHe n81 (st200.fzS (g:=115) rfl)
     ·
      refine st74.alcW (ow:=(owFinder (Ow.row 77 (Ow.frz (α:=Dir))))) 12 rfl rfl kZ35 (owFinder.z Ow.row_z) (by simp) [2,3,4,6,13,36,115] rfl [5,10,11,12,26] rfl rfl (λ b201 _ _ _ st201=>?_)
      have st202:=st201.gn
      have st203:=st202.unm (s:=14) 12 rfl rfl iI [5,10,11,12,26] rfl
      exact aHe n90 (st203.fzS (g:=115) rfl)
    refine zq 4 2559 (λ a w=>∃ M1 q78_0 q78_1 q78_2 q78_3 q78_4 q78_5 q78_6 q78_7 q78_8 q78_9 q78_10 q78_11 q78_12,Sx (Frm.chg w0 G) 115 M M1 [q78_0,q78_1,q78_2,q78_3,q78_4,q78_5,q78_6,q78_7,oneB q78_8,q78_9,q78_10,oneB q78_11,q78_12] [(2,dt x2),(3,dt x3),(4,dt x4),(6,dptr x1),(13,dt s14.2.2.2.2),(115,dfz c20)] [(11,11,dbox q78_11 0 s14.2.2.1),(12,8,dtip q78_8 3 s14.2.2.2.1),(10,10,dow (Ow.box (owFinder (Ow.row 77 (Ow.frz (α:=Dir))))) q78_10 ⟨s14.2.1⟩),(14,12,dow (Ow.box (owFinder (Ow.row 77 (Ow.frz (α:=Dir))))) q78_12 ⟨zi⟩),(5,1,dbd q78_1 3),(26,2,drd (.t2o (owFinder (Ow.row 77 (Ow.frz (α:=Dir)))) v33.1 (dt v33.2)) q78_2)] a w) ?_ (λ n78=>?_)
    ·
     rintro a78 w78 ⟨M78,q78_0,q78_1,q78_2,q78_3,q78_4,q78_5,q78_6,q78_7,q78_8,q78_9,q78_10,q78_11,q78_12,st78⟩
     refine aK2 9 10 ?_ ?_
     ·
      refine st78.ex2o (s:=26) 2 rfl rfl rfl rfl iI rfl [5,10,11,12,14] rfl (λ _ st204=>?_)
      exact aHe n85 (st204.fzS (g:=115) rfl)
     ·
      refine st78.segB 1 (sc rfl (xEx2p (s:=26) rfl rfl rfl)<|.nil) [2,3,4,6,13,36,115] [(5,1),(10,10),(11,11),(12,8),(14,12),(26,2)] (λ _ _ st205=>?_)
      exact aHe n90 (st205.fzS (g:=115) rfl)
    refine zq 5 511 (λ a w=>∃ M1 q64_0 q64_1 q64_2 q64_3 q64_4 q64_5 q64_6 q64_7 q64_8 q64_9 q64_10 q64_11 q64_12,Sx (Frm.chg w0 G) 115 M M1 [q64_0,q64_1,q64_2,q64_3,q64_4,q64_5,q64_6,q64_7,oneB q64_8,q64_9,q64_10,oneB q64_11,q64_12] [(2,dt x2),(3,dt x3),(4,dt x4),(6,dptr x1),(13,dt s14.2.2.2.2),(115,dfz c20)] [(11,11,dbox q64_11 0 s14.2.2.1),(12,8,dtip q64_8 3 s14.2.2.2.1),(10,10,dow (Ow.box (owFinder (Ow.row 77 (Ow.frz (α:=Dir))))) q64_10 ⟨s14.2.1⟩),(5,1,dbd q64_1 3),(26,2,drd (.t2o (owFinder (Ow.row 77 (Ow.frz (α:=Dir)))) v33.1 (dt v33.2)) q64_2)] a w) ?_ (λ n64=>?_)
    ·
     rintro a64 w64 ⟨M64,q64_0,q64_1,q64_2,q64_3,q64_4,q64_5,q64_6,q64_7,q64_8,q64_9,q64_10,q64_11,q64_12,st64⟩
     refine aH3 (i:=9) (j:=10) (k:=11) (by decide +kernel) rfl rfl rfl ?_ ?_ ?_
     ·
      refine st64.ex2o (s:=26) 2 rfl rfl rfl rfl iI rfl [5,10,11,12] rfl (λ _ st206=>?_)
      exact aHe n72 (st206.fzS (g:=115) rfl)
     ·
      refine st64.segB 1 (sc rfl (xEx2p (s:=26) rfl rfl rfl)<|.nil) [2,3,4,6,13,36,115] [(5,1),(10,10),(11,11),(12,8),(26,2)] (λ _ _ st207=>?_)
      exact aHe n74 (st207.fzS (g:=115) rfl)
     ·
      refine st64.alcW (ow:=(owFinder (Ow.row 77 (Ow.frz (α:=Dir))))) 12 rfl rfl kZ35 (owFinder.z Ow.row_z) (by simp) [2,3,4,6,13,115] rfl [5,10,11,12,26] rfl rfl (λ b208 _ _ _ st208=>?_)
      have st209:=st208.gn
      have st210:=st209.unm (s:=14) 12 rfl rfl iI [5,10,11,12,26] rfl
      exact aHe n78 (st210.fzS (g:=115) rfl)
    refine zq 5 2303 (λ a w=>∃ M1 q68_0 q68_1 q68_2 q68_3 q68_4 q68_5 q68_6 q68_7 q68_8 q68_9 q68_10 q68_11 q68_12,Sx (Frm.chg w0 G) 115 M M1 [q68_0,q68_1,q68_2,q68_3,q68_4,q68_5,q68_6,q68_7,oneB q68_8,q68_9,q68_10,oneB q68_11,q68_12] [(2,dt x2),(3,dt x3),(4,dt x4),(6,dptr x1),(13,dt s14.2.2.2.2),(115,dfz c20)] [(11,11,dbox q68_11 0 s14.2.2.1),(12,8,dtip q68_8 3 s14.2.2.2.1),(10,10,dow (Ow.box (owFinder (Ow.row 77 (Ow.frz (α:=Dir))))) q68_10 ⟨s14.2.1⟩),(14,12,dow (Ow.box (owFinder (Ow.row 77 (Ow.frz (α:=Dir))))) q68_12 ⟨zi⟩),(5,1,dbd q68_1 3),(34,2,drd (.t2o (owFinder (Ow.row 77 (Ow.frz (α:=Dir)))) v33.1 (dt v33.2)) q68_2)] a w) ?_ (λ n68=>?_)
    ·
     rintro a68 w68 ⟨M68,q68_0,q68_1,q68_2,q68_3,q68_4,q68_5,q68_6,q68_7,q68_8,q68_9,q68_10,q68_11,q68_12,st68⟩
     refine aK1 8 ?_
     refine st68.mvD (s:=34) 2 rfl rfl rfl rfl iI rfl [5,10,11,12,14] rfl (λ _ st211=>?_)
     exact aHe n78 (st211.fzS (g:=115) rfl)
    refine zq 6 255 (λ a w=>∃ M1 q55_0 q55_1 q55_2 q55_3 q55_4 q55_5 q55_6 q55_7 q55_8 q55_9 q55_10 q55_11 q55_12,Sx (Frm.chg w0 G) 115 M M1 [q55_0,q55_1,q55_2,q55_3,q55_4,q55_5,q55_6,q55_7,oneB q55_8,q55_9,q55_10,oneB q55_11,q55_12] [(2,dt x2),(3,dt x3),(4,dt x4),(6,dptr x1),(13,dt s14.2.2.2.2),(115,dfz c20)] [(11,11,dbox q55_11 0 s14.2.2.1),(12,8,dtip q55_8 3 s14.2.2.2.1),(10,10,dow (Ow.box (owFinder (Ow.row 77 (Ow.frz (α:=Dir))))) q55_10 ⟨s14.2.1⟩),(5,1,dbd q55_1 3),(34,2,drd (.t2o (owFinder (Ow.row 77 (Ow.frz (α:=Dir)))) v33.1 (dt v33.2)) q55_2)] a w) ?_ (λ n55=>?_)
    ·
     rintro a55 w55 ⟨M55,q55_0,q55_1,q55_2,q55_3,q55_4,q55_5,q55_6,q55_7,q55_8,q55_9,q55_10,q55_11,q55_12,st55⟩
     refine aK2 8 11 ?_ ?_
     ·
      refine st55.mvD (s:=34) 2 rfl rfl rfl rfl iI rfl [5,10,11,12] rfl (λ _ st212=>?_)
      exact aHe n64 (st212.fzS (g:=115) rfl)
     ·
      refine st55.alcW (ow:=(owFinder (Ow.row 77 (Ow.frz (α:=Dir))))) 12 rfl rfl kZ35 (owFinder.z Ow.row_z) (by simp) [2,3,4,6,13,115] rfl [5,10,11,12,34] rfl rfl (λ b213 _ _ _ st213=>?_)
      have st214:=st213.gn
      have st215:=st214.unm (s:=14) 12 rfl rfl iI [5,10,11,12,34] rfl
      exact aHe n68 (st215.fzS (g:=115) rfl)
    refine zq 6 2175 (λ a w=>∃ M1 q59_0 q59_1 q59_2 q59_3 q59_4 q59_5 q59_6 q59_7 q59_8 q59_9 q59_10 q59_11 q59_12,Sx (Frm.chg w0 G) 115 M M1 [q59_0,q59_1,q59_2,q59_3,q59_4,q59_5,q59_6,q59_7,oneB q59_8,q59_9,q59_10,oneB q59_11,q59_12] [(2,dt x2),(3,dt x3),(4,dt x4),(6,dptr x1),(13,dt s14.2.2.2.2),(28,dt x1),(32,dt v24),(33,dt x3),(115,dfz c20)] [(11,11,dbox q59_11 0 s14.2.2.1),(12,8,dtip q59_8 3 s14.2.2.2.1),(10,10,dow (Ow.box (owFinder (Ow.row 77 (Ow.frz (α:=Dir))))) q59_10 ⟨s14.2.1⟩),(14,12,dow (Ow.box (owFinder (Ow.row 77 (Ow.frz (α:=Dir))))) q59_12 ⟨zi⟩),(27,2,dow (owFinder (Ow.row 77 (Ow.frz (α:=Dir)))) q59_2 s14.1),(5,1,dbd q59_1 3)] a w) ?_ (λ n59=>?_)
    ·
     rintro a59 w59 ⟨M59,q59_0,q59_1,q59_2,q59_3,q59_4,q59_5,q59_6,q59_7,q59_8,q59_9,q59_10,q59_11,q59_12,st59⟩
     refine aK1 7 ?_
     refine st59.cT (sb:=27) (l:=[.tmp 28,.tmp 32,.tmp 33]) 2 rfl rfl kN134 rfl iI (by simp) (.cons (tp rfl) (.cons (tp rfl) (.cons (tp rfl) .nil))) (J3 p33) [2,3,4,6,13,115] rfl [5,10,11,12,14] rfl rfl (λ _ _ _ _ st216=>?_)
     have st217:=st216.gn
     exact aHe n68 (st217.fzS (g:=115) rfl)
    refine zq 7 127 (λ a w=>∃ M1 q48_0 q48_1 q48_2 q48_3 q48_4 q48_5 q48_6 q48_7 q48_8 q48_9 q48_10 q48_11 q48_12,Sx (Frm.chg w0 G) 115 M M1 [q48_0,q48_1,q48_2,q48_3,q48_4,q48_5,q48_6,q48_7,oneB q48_8,q48_9,q48_10,oneB q48_11,q48_12] [(2,dt x2),(3,dt x3),(4,dt x4),(6,dptr x1),(13,dt s14.2.2.2.2),(28,dt x1),(32,dt v24),(33,dt x3),(115,dfz c20)] [(11,11,dbox q48_11 0 s14.2.2.1),(12,8,dtip q48_8 3 s14.2.2.2.1),(10,10,dow (Ow.box (owFinder (Ow.row 77 (Ow.frz (α:=Dir))))) q48_10 ⟨s14.2.1⟩),(27,2,dow (owFinder (Ow.row 77 (Ow.frz (α:=Dir)))) q48_2 s14.1),(5,1,dbd q48_1 3)] a w) ?_ (λ n48=>?_)
    ·
     rintro a48 w48 ⟨M48,q48_0,q48_1,q48_2,q48_3,q48_4,q48_5,q48_6,q48_7,q48_8,q48_9,q48_10,q48_11,q48_12,st48⟩
     refine aK2 7 11 ?_ ?_
     ·
      refine st48.cT (sb:=27) (l:=[.tmp 28,.tmp 32,.tmp 33]) 2 rfl rfl kN134 rfl iI (by simp) (.cons (tp rfl) (.cons (tp rfl) (.cons (tp rfl) .nil))) (J3 p33) [2,3,4,6,13,115] rfl [5,10,11,12] rfl rfl (λ _ _ _ _ st218=>?_)
      have st219:=st218.gn
      exact aHe n55 (st219.fzS (g:=115) rfl)
     ·
      refine st48.alcW (ow:=(owFinder (Ow.row 77 (Ow.frz (α:=Dir))))) 12 rfl rfl kZ35 (owFinder.z Ow.row_z) (by simp) [2,3,4,6,13,28,32,33,115] rfl [5,10,11,12,27] rfl rfl (λ b220 _ _ _ st220=>?_)
      have st221:=st220.gn
      have st222:=st221.unm (s:=14) 12 rfl rfl iI [5,10,11,12,27] rfl
      exact aHe n59 (st222.fzS (g:=115) rfl)
    refine zq 7 2174 (λ a w=>∃ M1 q52_0 q52_1 q52_2 q52_3 q52_4 q52_5 q52_6 q52_7 q52_8 q52_9 q52_10 q52_11 q52_12,Sx (Frm.chg w0 G) 115 M M1 [q52_0,q52_1,q52_2,q52_3,q52_4,q52_5,q52_6,q52_7,oneB q52_8,q52_9,q52_10,oneB q52_11,q52_12] [(2,dt x2),(3,dt x3),(4,dt x4),(6,dptr x1),(13,dt s14.2.2.2.2),(28,dt x1),(32,dt v24),(33,dt x3),(115,dfz c20)] [(11,11,dbox q52_11 0 s14.2.2.1),(12,8,dtip q52_8 3 s14.2.2.2.1),(5,1,dow (Ow.box (owFinder (Ow.row 77 (Ow.frz (α:=Dir))))) q52_1 ⟨s14.1⟩),(10,10,dow (Ow.box (owFinder (Ow.row 77 (Ow.frz (α:=Dir))))) q52_10 ⟨s14.2.1⟩),(14,12,dow (Ow.box (owFinder (Ow.row 77 (Ow.frz (α:=Dir))))) q52_12 ⟨zi⟩)] a w) ?_ (λ n52=>?_)
    ·
     rintro a52 w52 ⟨M52,q52_0,q52_1,q52_2,q52_3,q52_4,q52_5,q52_6,q52_7,q52_8,q52_9,q52_10,q52_11,q52_12,st52⟩
     refine aK1 0 ?_
     refine st52.nmB (s:=5) 1 rfl rfl iI [10,11,12,14] rfl (λ b223 st223=>?_)
     refine st223.ldK (sb:=5) 1 2 rfl rfl kT35 rfl (by simp) (by simp) (by decide) iI [2,3,4,6,13,28,32,33,115] rfl [10,11,12,14] rfl rfl rfl rfl (λ _ H224 _ _ st224=>?_)
     have st225:=st224.gn
     exact aHe n59 (st225.fzS (g:=115) rfl)
    refine aK2 0 11 ?_ ?_
    ·
     refine st28.nmB (s:=5) 1 rfl rfl iI [10,11,12] rfl (λ b226 st226=>?_)
     refine st226.ldK (sb:=5) 1 2 rfl rfl kT35 rfl (by simp) (by simp) (by decide) iI [2,3,4,6,13,28,32,33,115] rfl [10,11,12] rfl rfl rfl rfl (λ _ H227 _ _ st227=>?_)
     have st228:=st227.gn
     exact aHe n48 (st228.fzS (g:=115) rfl)
    ·
     refine st28.alcW (ow:=(owFinder (Ow.row 77 (Ow.frz (α:=Dir))))) 12 rfl rfl kZ35 (owFinder.z Ow.row_z) (by simp) [2,3,4,6,13,28,32,33,115] rfl [5,10,11,12] rfl rfl (λ b229 _ _ _ st229=>?_)
     have st230:=st229.gn
     have st231:=st230.unm (s:=14) 12 rfl rfl iI [5,10,11,12] rfl
     exact aHe n52 (st231.fzS (g:=115) rfl)
   rintro a19 w19 ⟨b19,rfl,⟨M19,q19_0,q19_1,q19_2,q19_3,q19_4,q19_5,q19_6,q19_7,q19_8,q19_9,q19_10,q19_11,q19_12,st19⟩⟩
   have h232:=jn k19
   obtain⟨v233,p233,h234⟩:=bs h232
   refine st19.rgA [2,3,4,6,13] [(5,1),(10,10),(11,11),(12,8)] (λ _ _ st235=>za ?_)
   exact fl h234
  refine za ?_
  have h236:=lo h18 hx14
  exact fl h236
 rintro a10 w10 ⟨b10,rfl,⟨M10,q10_0,q10_1,q10_2,q10_3,q10_4,q10_5,q10_6,q10_7,q10_8,q10_9,q10_10,q10_11,q10_12,st10⟩⟩
 have h237:=jn k10
 refine wp_seq ?_
 refine st10.sqB (sP 1 (r:=by exact sc rfl (op_lenT rfl kL30 (tp rfl))<|segC)) [109] [(5,1),(10,10),(11,11),(12,8)] (λ _ _ st238=>?_)
 refine st238.cs rfl h237 (λ _ h239=>?_) (λ _ h240=>wp_skip (za (wp_seq ?_)))
 ·
  have st241:=st238.frz 8 (s:=12) rfl rfl [109] rfl [5,10,11] rfl
  refine wp_seq (wp_region_list ?_)
  refine st241.nmB (s:=5) 1 rfl rfl iI [10,11] rfl (λ b243 st243=>?_)
  refine st243.ldW (sb:=5) 1 rfl rfl kT35 rfl (by simp) iI [12] rfl [10,11] rfl rfl (λ _ _ st242=>?_)
  refine st242.segB 2 (sP 1 (r:=by exact sc rfl (Zq rfl cI cI (tp rfl))<|.nil)) [112] [(10,10),(11,11),(110,1)] (λ _ _ st244=>?_)
  refine st244.nmB (s:=10) 10 rfl rfl iI [11,110] rfl (λ b246 st246=>?_)
  refine st246.stO (sb:=10) (tv:=110) 10 1 (PV.root.box rfl) rfl rfl rfl kT35 (by simp) (by simp) (by decide) (zG rfl) rfl rfl rfl iI iI [112] rfl [11] rfl rfl rfl (λ _ _ st245=>?_)
  have st247:=st245.gn
  refine st247.stA 11 11 FldS.id (tp rfl) [] [10] (λ _ _ st249=>wpList_nil (za ?_))
  refine wp_ret (zd ?_)
  exact st249.rtCC 10 rfl kT35 kT37 rfl rfl iI h239
 refine st238.nmB (s:=10) 10 rfl rfl iI [5,11,12] rfl (λ b250 st250=>?_)
 refine st250.nmB (s:=5) 1 rfl rfl iI [10,11,12] rfl (λ b251 st251=>?_)
 obtain⟨v253,p253,h254⟩:=bs h240
 refine st251.hdW (s:=5) 1 true (λ _=>(PV.root.box rfl)) rfl rfl iI [10,11,12] rfl (λ cs252 hS252 st252=>?_)
 refine st252.lateO (D:=[_,_,Yv]) (sb:=10) (s4:=5) 10 1 zD 3 2 [[(5,nS)],[],[(10,nS),(113,0)],[(11,nS),(114,1)]] (by decide +kernel) (by decide) (by decide) rfl (
  lc rfl rfl rfl (xLw (sb:=5) (.head _) rfl (hS252 rfl) rfl kT35 (zG rfl) rfl)<|lc rfl rfl rfl (zo (l:=[]) rfl kN51 .nil (X0 p253))<|ll rfl<|.nil) ⟨.inl rfl,⟨.inl rfl,⟨.inl rfl,trivial⟩⟩⟩ rfl rfl rfl rfl kT35 rfl (by simp) (by simp) (by decide) (zG rfl) (tp rfl) (hS252 rfl) rfl iI rfl iI (.head _) rfl [114] rfl [11] rfl rfl rfl rfl (λ _ _ _ st255=>?_)
 have st256:=st255.gn
 refine st256.stA 11 11 FldS.id (tp rfl) [] [10] (λ _ _ st258=>wpList_nil (za (wp_ret ?_)))
 exact st258.rtCC 10 rfl kT35 kT37 rfl rfl iI h254
def jG(x1:Disk)(v9:List Str)(s22:Finder×Finder×Spec×Spec×Int):Option ((Finder×Finder×Spec×Spec×Int)⊕((Finder×Finder×Spec×Spec)⊕(Finder×Spec))):=
if(cmpI .lss s22.2.2.2.2 (v9.length:Int))=true then(if(cmpI .neq s22.2.2.2.1.kind (2:Int)&&cmpI .neq s22.2.2.2.1.kind (3:Int))=true then((Za).bind λ v33=>
some (.inr (.inr (s22.1,v33))))
else((ZQ v9 s22.2.2.2.2).bind λ v45=>
(atI v9 s22.2.2.2.2).bind λ v50=>
(XL v45).bind λ v59=>
(ZX s22.1 x1 s22.2.2.2.1.roots v59 v50).bind λ v62=>
(i64 (s22.2.2.2.2+(1:Int))).bind λ v140=>
some (.inl (v62.1,s22.2.1,s22.2.2.1,v62.2,v140))))
else(some (.inr (.inl (s22.1,s22.2.1,s22.2.2.1,s22.2.2.2.1))))
def Ya(x0:Finder)(x1:Disk)(x2:List Int)(x3:Str):Option (Finder×Spec):=
(qx x3 (UInt8.ofNat 46)).bind λ v9=>
Option.bind (α:=(Finder×Finder×Spec×Spec)⊕(Finder×Spec)) (zS (λ s22=>jG x1 v9 s22) (x0,zi,zO,(⟨(3:Int),(-1:Int),x2⟩:Spec),(0:Int))) (Sum.elim (λ b18=>
some (b18.1,b18.2.2.2)) some)
theorem Y4{x0:Finder}{x1:Disk}{x2:List Int}{x3:Str}{r:Finder×Spec}(h:Ya x0 x1 x2 x3=some r):FnT prog 52 (owFinder (Ow.row 77 (Ow.frz (α:=Dir)))) x0 [dt x1,dt x2,dt x3] (.t2o (owFinder (Ow.row 77 (Ow.frz (α:=Dir)))) r.1 (dt r.2)):=by
 unfold Ya at h
 refine fnT (fn:=f52) 0 9 func52 rfl (oD rfl) rfl (λ M G w0 _ st0=>wp_seq (wp_region_list ?_))
 refine st0.boxW 1 0 rfl rfl rfl (by simp) (by simp) (by decide) iI [1,2,3] rfl [] rfl rfl rfl (λ b1 _ M1 _ _ st1=>?_)
 have st2:=st1.gn
 refine st2.segA 1 [2,3,5] [(4,1)] (λ _ _ st3=>?_)
 refine st3.alcW (ow:=(owFinder (Ow.row 77 (Ow.frz (α:=Dir))))) 6 rfl rfl kZ35 (owFinder.z Ow.row_z) (by simp) [2,3,5] rfl [4] rfl rfl (λ b4 _ _ _ st4=>?_)
 have st5:=st4.gn
 refine st5.alA 7 yz [2,3,5] [4,8] (λ b7 _ _ _ st7=>?_)
 have st8:=st7.gn
 refine wpList_nil (za ?_)
 obtain⟨v9,p9,h10⟩:=bsW h Jm
 refine st8.sqA [2,5,10] [(4,1),(8,6),(9,7)] (λ _ _ st11=>wp_seq (wp_region_list ?_))
 refine st11.segB 2 (sP 1 (r:=by exact sc rfl (Zq rfl cI cI (tp rfl))<|.nil)) [5,10,16] [(4,1),(8,6),(9,7)] (λ _ _ st12=>?_)
 refine st12.alA 8 yz [5,10,16] [4,8,9] (λ b14 _ _ _ st14=>?_)
 have st15:=st14.gn
 refine st15.stA 11 8 FldS.id (tp rfl) [5,10] [4,8,9] (λ _ _ st17=>wpList_nil (za ?_))
 obtain⟨o18,p18,k18⟩:=bs h10
 refine zm (λ a w=>∃ b18,o18=.inl b18/\(∃ M1 q18_0 q18_1 q18_2 q18_3 q18_4 q18_5 q18_6 q18_7 q18_8,Sx (Frm.chg w0 G) 51 M M1 [q18_0,q18_1,q18_2,q18_3,q18_4,q18_5,q18_6,oneB q18_7,oneB q18_8] [] [(9,7,dbox q18_7 0 b18.2.2.1),(11,8,dbox q18_8 0 b18.2.2.2),(4,1,dow (Ow.box (owFinder (Ow.row 77 (Ow.frz (α:=Dir))))) q18_1 ⟨b18.1⟩),(8,6,dow (Ow.box (owFinder (Ow.row 77 (Ow.frz (α:=Dir))))) q18_6 ⟨b18.2.1⟩)] a w)) ?_ ?_
 ·
  refine st17.sqA [5,10,12] [(4,1),(8,6),(9,7),(11,8)] (λ _ _ st19=>wp_block ?_)
  have st20:=st19.unm (s:=4) 1 rfl rfl iI [8,9,11] rfl
  have st21:=st20.unm (s:=8) 6 rfl rfl iI [4,9,11] rfl
  refine zL p18 (λ s22 a w=>∃ M1 q22_0 q22_1 q22_2 q22_3 q22_4 q22_5 q22_6 q22_7 q22_8,Sx (Frm.chg w0 G) 51 M M1 [q22_0,q22_1,q22_2,q22_3,q22_4,q22_5,q22_6,oneB q22_7,oneB q22_8] [(5,dptr x1),(10,dt v9),(12,dt s22.2.2.2.2)] [(9,7,dbox q22_7 0 s22.2.2.1),(11,8,dbox q22_8 0 s22.2.2.2.1),(4,1,dow (Ow.box (owFinder (Ow.row 77 (Ow.frz (α:=Dir))))) q22_1 ⟨s22.1⟩),(8,6,dow (Ow.box (owFinder (Ow.row 77 (Ow.frz (α:=Dir))))) q22_6 ⟨s22.2.1⟩)] a w) fx ?_
  rintro s22 z22 a22 w22 ⟨M22,q22_0,q22_1,q22_2,q22_3,q22_4,q22_5,q22_6,q22_7,q22_8,st22⟩ hs22 hx22
  have h23:jG x1 v9 s22=some z22:=hs22
  unfold jG at h23
  refine wp_seq ?_
  refine st22.sqA [5,10,12,20] [(4,1),(8,6),(9,7),(11,8)] (λ _ _ st24=>?_)
  refine st24.cs rfl h23 (λ _ h25=>wp_skip (za (wp_seq (wp_block (wp_seq ?_))))) (λ _ h26=>wp_exit (zh (zh (zE ?_))))
  ·
   refine st24.sqC [5,10,12,30] [(4,1),(8,6),(9,7),(11,8)] (λ _ _ st27=>?_)
   refine st27.cs rfl h25 (λ _ h28=>wp_seq ?_) (λ _ h29=>wp_skip (za ?_))
   ·
    refine st27.nmB (s:=8) 6 rfl rfl iI [4,9,11] rfl (λ b30 st30=>?_)
    refine st30.nmB (s:=4) 1 rfl rfl iI [8,9,11] rfl (λ b31 st31=>?_)
    obtain⟨v33,p33,h34⟩:=bs h28
    refine st31.hdW (s:=4) 1 true (λ _=>(PV.root.box rfl)) rfl rfl iI [8,9,11] rfl (λ cs32 hS32 st32=>?_)
    refine st32.lateO (D:=[_,_,Yv]) (sb:=8) (s4:=4) 6 1 zD 3 2 [[(4,nS)],[],[(8,nS),(31,0)],[(9,nS),(32,1)]] (by decide +kernel) (by decide) (by decide) rfl (
     lc rfl rfl rfl (xLw (sb:=4) (.head _) rfl (hS32 rfl) rfl kT35 (zG rfl) rfl)<|lc rfl rfl rfl (zo (l:=[]) rfl kN51 .nil (X0 p33))<|ll rfl<|.nil) ⟨.inl rfl,⟨.inl rfl,⟨.inl rfl,trivial⟩⟩⟩ rfl rfl rfl rfl kT35 rfl (by simp) (by simp) (by decide) (zG rfl) (tp rfl) (hS32 rfl) rfl iI rfl iI (.head _) rfl [32] rfl [9] rfl rfl rfl rfl (λ _ _ _ st35=>?_)
    have st36:=st35.gn
    refine st36.stA 9 7 FldS.id (tp rfl) [] [8] (λ _ _ st38=>wpList_nil (za ?_))
    refine wp_ret (zd (zt (zd (zd (zt (zd ?_))))))
    have h39:=lo h34 hx22
    have h40:=jo h39 k18
    exact st38.rtCC 6 rfl kT35 kT37 rfl rfl iI h40
   refine st27.heldF zD (λ c41 _ hz41 st41=>?_)
   refine st41.tkLp (i:=1) rfl rfl (by decide +kernel) (by decide +kernel) (by decide +kernel) (λ _ _ _ _ h=>h) (st41.fzS (g:=51) rfl) hz41 rfl kT45 (tp rfl) (λ _ st42=>?_)
   refine st42.tM 4 10 (st42.fzS (g:=51) rfl) (λ _ st43=>?_)
   refine st43.tM 5 12 (st43.fzS (g:=51) rfl) (λ _ st44=>?_)
   obtain⟨v45,p45,h47⟩:=bs h29
   refine st44.tkSlH (i:=6) rfl rfl (by decide +kernel) (by decide +kernel) (by decide +kernel) (λ _ _ _ _ h=>h) (st44.fzS (g:=51) rfl) rfl kS75 (tp rfl) (tp rfl) p45 (next:=λ a46 st46=>?_)
   refine st46.tM 8 10 (st46.fzS (g:=51) rfl) (λ _ st48=>?_)
   refine st48.tM 9 12 (st48.fzS (g:=51) rfl) (λ _ st49=>?_)
   obtain⟨v50,p50,h52⟩:=bs h47
   refine st49.tkIF (i:=10) rfl rfl (by decide +kernel) (by decide +kernel) (by decide +kernel) (λ _ _ _ _ h=>h) (st49.fzS (g:=51) rfl) rfl kS75 (tp rfl) (tp rfl) p50 (next:=λ a51 st51=>?_)
   refine st51.tkLp (i:=11) rfl rfl (by decide +kernel) (by decide +kernel) (by decide +kernel) (λ _ _ _ _ h=>h) (st51.fzS (g:=51) rfl) hz41 rfl kT9 (tp rfl) (λ _ st53=>?_)
   obtain⟨v59,p59,v62,p62,h73⟩:=bsB h52
   refine zq 1 131071 (λ a w=>∃ M1 q134_0 q134_1 q134_2 q134_4 q134_5 q134_6 q134_7 q134_8,Sx (Frm.chg w0 G) 51 M M1 [q134_0,q134_1,q134_2,oneB none,q134_4,q134_5,q134_6,oneB q134_7,oneB q134_8] [(5,dptr x1),(10,dt v9),(12,dt s22.2.2.2.2),(48,dt v62.2),(51,dfz c41)] [(9,7,dbox q134_7 0 s22.2.2.1),(11,8,dbox q134_8 0 s22.2.2.2.1),(4,1,dow (Ow.box (owFinder (Ow.row 77 (Ow.frz (α:=Dir))))) q134_1 ⟨v62.1⟩),(8,6,dow (Ow.box (owFinder (Ow.row 77 (Ow.frz (α:=Dir))))) q134_6 ⟨s22.2.1⟩)] a w) ?_ (λ n134=>?_)
   ·
    rintro a134 w134 ⟨M134,q134_0,q134_1,q134_2,q134_4,q134_5,q134_6,q134_7,q134_8,st134⟩
    refine aK1 17 ?_
    refine st134.stA 11 8 FldS.id (tp rfl) [5,10,12,51] [4,8,9] (λ _ _ st139=>?_)
    refine aHN (st139.fzS (g:=51) rfl) ?_
    refine aK0 (zg (za ?_))
    obtain⟨v140,p140,h141⟩:=bs h73
    refine st139.rgA [5,10,12] [(4,1),(8,6),(9,7),(11,8)] (λ _ _ st142=>za ?_)
    exact fl h141
   refine zq 2 65535 (λ a w=>∃ M1 q127_0 q127_1 q127_2 q127_3 q127_4 q127_5 q127_6 q127_7 q127_8,Sx (Frm.chg w0 G) 51 M M1 [q127_0,q127_1,q127_2,q127_3,q127_4,q127_5,q127_6,oneB q127_7,oneB q127_8] [(5,dptr x1),(10,dt v9),(12,dt s22.2.2.2.2),(48,dt v62.2),(51,dfz c41)] [(9,7,dbox q127_7 0 s22.2.2.1),(11,8,dbox q127_8 0 s22.2.2.2.1),(8,6,dow (Ow.box (owFinder (Ow.row 77 (Ow.frz (α:=Dir))))) q127_6 ⟨s22.2.1⟩),(47,3,dow (owFinder (Ow.row 77 (Ow.frz (α:=Dir)))) q127_3 v62.1),(4,1,dbd q127_1 3)] a w) ?_ (λ n127=>?_)
   ·
    rintro a127 w127 ⟨M127,q127_0,q127_1,q127_2,q127_3,q127_4,q127_5,q127_6,q127_7,q127_8,st127⟩
    refine aK1 16 ?_
    refine st127.stRv (sb:=4) (tv:=47) 1 3 rfl rfl rfl kT35 (by simp) (by simp) (by decide) rfl rfl iI rfl iI [5,10,12,48,51] rfl [8,9,11] rfl rfl rfl (λ _ _ st143=>?_)
    have st144:=st143.gn
    exact aHe n134 (st144.fzS (g:=51) rfl)
   refine zq 2 98303 (λ a w=>∃ M1 q130_0 q130_1 q130_2 q130_4 q130_5 q130_6 q130_7 q130_8,Sx (Frm.chg w0 G) 51 M M1 [q130_0,q130_1,q130_2,oneB none,q130_4,q130_5,q130_6,oneB q130_7,oneB q130_8] [(5,dptr x1),(10,dt v9),(12,dt s22.2.2.2.2),(33,dex2 (dt v62.2)),(51,dfz c41)] [(9,7,dbox q130_7 0 s22.2.2.1),(11,8,dbox q130_8 0 s22.2.2.2.1),(4,1,dow (Ow.box (owFinder (Ow.row 77 (Ow.frz (α:=Dir))))) q130_1 ⟨v62.1⟩),(8,6,dow (Ow.box (owFinder (Ow.row 77 (Ow.frz (α:=Dir))))) q130_6 ⟨s22.2.1⟩)] a w) ?_ (λ n130=>?_)
   ·
    rintro a130 w130 ⟨M130,q130_0,q130_1,q130_2,q130_4,q130_5,q130_6,q130_7,q130_8,st130⟩
    refine aK1 15 ?_
    refine st130.segB 1 (sc rfl (Wi rfl (tp rfl))<|.nil) [5,10,12,48,51] [(4,1),(8,6),(9,7),(11,8)] (λ _ _ st145=>?_)
    exact aHe n134 (st145.fzS (g:=51) rfl)
   refine zq 3 32767 (λ a w=>∃ M1 q123_0 q123_1 q123_2 q123_3 q123_4 q123_5 q123_6 q123_7 q123_8,Sx (Frm.chg w0 G) 51 M M1 [q123_0,q123_1,q123_2,q123_3,q123_4,q123_5,q123_6,oneB q123_7,oneB q123_8] [(5,dptr x1),(10,dt v9),(12,dt s22.2.2.2.2),(33,dex2 (dt v62.2)),(51,dfz c41)] [(9,7,dbox q123_7 0 s22.2.2.1),(11,8,dbox q123_8 0 s22.2.2.2.1),(8,6,dow (Ow.box (owFinder (Ow.row 77 (Ow.frz (α:=Dir))))) q123_6 ⟨s22.2.1⟩),(47,3,dow (owFinder (Ow.row 77 (Ow.frz (α:=Dir)))) q123_3 v62.1),(4,1,dbd q123_1 3)] a w) ?_ (λ n123=>?_)
   ·
    rintro a123 w123 ⟨M123,q123_0,q123_1,q123_2,q123_3,q123_4,q123_5,q123_6,q123_7,q123_8,st123⟩
    refine aK2 15 16 ?_ ?_
    ·
     refine st123.segB 1 (sc rfl (Wi rfl (tp rfl))<|.nil) [5,10,12,48,51] [(4,1),(8,6),(9,7),(11,8),(47,3)] (λ _ _ st146=>?_)
     exact aHe n127 (st146.fzS (g:=51) rfl)
    ·
     refine st123.stRv (sb:=4) (tv:=47) 1 3 rfl rfl rfl kT35 (by simp) (by simp) (by decide) rfl rfl iI rfl iI [5,10,12,33,51] rfl [8,9,11] rfl rfl rfl (λ _ _ st147=>?_)
     have st148:=st147.gn
     exact aHe n130 (st148.fzS (g:=51) rfl)
   refine zq 3 49151 (λ a w=>∃ M1 q125_0 q125_1 q125_2 q125_3 q125_4 q125_5 q125_6 q125_7 q125_8,Sx (Frm.chg w0 G) 51 M M1 [q125_0,q125_1,q125_2,q125_3,q125_4,q125_5,q125_6,oneB q125_7,oneB q125_8] [(5,dptr x1),(10,dt v9),(12,dt s22.2.2.2.2),(48,dt v62.2),(51,dfz c41)] [(9,7,dbox q125_7 0 s22.2.2.1),(11,8,dbox q125_8 0 s22.2.2.2.1),(8,6,dow (Ow.box (owFinder (Ow.row 77 (Ow.frz (α:=Dir))))) q125_6 ⟨s22.2.1⟩),(4,1,dbd q125_1 3),(33,3,drd (.t2o (owFinder (Ow.row 77 (Ow.frz (α:=Dir)))) v62.1 (dt v62.2)) q125_3)] a w) ?_ (λ n125=>?_)
   ·
    rintro a125 w125 ⟨M125,q125_0,q125_1,q125_2,q125_3,q125_4,q125_5,q125_6,q125_7,q125_8,st125⟩
    refine aK1 14 ?_
    refine st125.ex2o (s:=33) 3 rfl rfl rfl rfl iI rfl [4,8,9,11] rfl (λ _ st149=>?_)
    exact aHe n127 (st149.fzS (g:=51) rfl)
   refine zq 4 16383 (λ a w=>∃ M1 q121_0 q121_1 q121_2 q121_3 q121_4 q121_5 q121_6 q121_7 q121_8,Sx (Frm.chg w0 G) 51 M M1 [q121_0,q121_1,q121_2,q121_3,q121_4,q121_5,q121_6,oneB q121_7,oneB q121_8] [(5,dptr x1),(10,dt v9),(12,dt s22.2.2.2.2),(51,dfz c41)] [(9,7,dbox q121_7 0 s22.2.2.1),(11,8,dbox q121_8 0 s22.2.2.2.1),(8,6,dow (Ow.box (owFinder (Ow.row 77 (Ow.frz (α:=Dir))))) q121_6 ⟨s22.2.1⟩),(4,1,dbd q121_1 3),(33,3,drd (.t2o (owFinder (Ow.row 77 (Ow.frz (α:=Dir)))) v62.1 (dt v62.2)) q121_3)] a w) ?_ (λ n121=>?_)
   ·
    rintro a121 w121 ⟨M121,q121_0,q121_1,q121_2,q121_3,q121_4,q121_5,q121_6,q121_7,q121_8,st121⟩
    refine aK2 14 15 ?_ ?_
    ·
     refine st121.ex2o (s:=33) 3 rfl rfl rfl rfl iI rfl [4,8,9,11] rfl (λ _ st150=>?_)
     exact aHe n123 (st150.fzS (g:=51) rfl)
    ·
     refine st121.segB 1 (sc rfl (xEx2p (s:=33) rfl rfl rfl)<|.nil) [5,10,12,48,51] [(4,1),(8,6),(9,7),(11,8),(33,3)] (λ _ _ st151=>?_)
     exact aHe n125 (st151.fzS (g:=51) rfl)
   refine zq 5 8191 (λ a w=>∃ M1 q119_0 q119_1 q119_2 q119_3 q119_4 q119_5 q119_6 q119_7 q119_8,Sx (Frm.chg w0 G) 51 M M1 [q119_0,q119_1,q119_2,q119_3,q119_4,q119_5,q119_6,oneB q119_7,oneB q119_8] [(5,dptr x1),(10,dt v9),(12,dt s22.2.2.2.2),(51,dfz c41)] [(9,7,dbox q119_7 0 s22.2.2.1),(11,8,dbox q119_8 0 s22.2.2.2.1),(8,6,dow (Ow.box (owFinder (Ow.row 77 (Ow.frz (α:=Dir))))) q119_6 ⟨s22.2.1⟩),(4,1,dbd q119_1 3),(46,3,drd (.t2o (owFinder (Ow.row 77 (Ow.frz (α:=Dir)))) v62.1 (dt v62.2)) q119_3)] a w) ?_ (λ n119=>?_)
   ·
    rintro a119 w119 ⟨M119,q119_0,q119_1,q119_2,q119_3,q119_4,q119_5,q119_6,q119_7,q119_8,st119⟩
    refine aK1 13 ?_
    refine st119.mvD (s:=46) 3 rfl rfl rfl rfl iI rfl [4,8,9,11] rfl (λ _ st152=>?_)
    exact aHe n121 (st152.fzS (g:=51) rfl)
   refine zq 6 4095 (λ a w=>∃ M1 q112_0 q112_1 q112_2 q112_3 q112_4 q112_5 q112_6 q112_7 q112_8,Sx (Frm.chg w0 G) 51 M M1 [q112_0,q112_1,q112_2,q112_3,q112_4,q112_5,q112_6,oneB q112_7,oneB q112_8] [(5,dptr x1),(10,dt v9),(12,dt s22.2.2.2.2),(35,dt x1),(37,dt s22.2.2.2.1.roots),(41,dt v59),(45,dt v50),(51,dfz c41)] [(9,7,dbox q112_7 0 s22.2.2.1),(11,8,dbox q112_8 0 s22.2.2.2.1),(8,6,dow (Ow.box (owFinder (Ow.row 77 (Ow.frz (α:=Dir))))) q112_6 ⟨s22.2.1⟩),(34,3,dow (owFinder (Ow.row 77 (Ow.frz (α:=Dir)))) q112_3 s22.1),(4,1,dbd q112_1 3)] a w) ?_ (λ n112=>?_)
   ·
    rintro a112 w112 ⟨M112,q112_0,q112_1,q112_2,q112_3,q112_4,q112_5,q112_6,q112_7,q112_8,st112⟩
    refine aK1 12 ?_
    refine st112.cT (sb:=34) (l:=[.tmp 35,.tmp 37,.tmp 41,.tmp 45]) 3 rfl rfl kN97 rfl iI (by simp) (.cons (tp rfl) (.cons (tp rfl) (.cons (tp rfl) (.cons (tp rfl) .nil)))) (spec_seenIn_w p62) [5,10,12,51] rfl [4,8,9,11] rfl rfl (λ _ _ _ _ st153=>?_)
    have st154:=st153.gn
    exact aHe n119 (st154.fzS (g:=51) rfl)
   refine zq 7 3967 (λ a w=>∃ M1 q98_0 q98_1 q98_2 q98_3 q98_4 q98_5 q98_6 q98_7 q98_8,Sx (Frm.chg w0 G) 51 M M1 [q98_0,q98_1,q98_2,q98_3,q98_4,q98_5,q98_6,oneB q98_7,oneB q98_8] [(5,dptr x1),(10,dt v9),(12,dt s22.2.2.2.2),(35,dt x1),(37,dt s22.2.2.2.1.roots),(40,dt v45),(45,dt v50),(51,dfz c41)] [(9,7,dbox q98_7 0 s22.2.2.1),(11,8,dbox q98_8 0 s22.2.2.2.1),(8,6,dow (Ow.box (owFinder (Ow.row 77 (Ow.frz (α:=Dir))))) q98_6 ⟨s22.2.1⟩),(34,3,dow (owFinder (Ow.row 77 (Ow.frz (α:=Dir)))) q98_3 s22.1),(4,1,dbd q98_1 3)] a w) ?_ (λ n98=>?_)
   ·
    rintro a98 w98 ⟨M98,q98_0,q98_1,q98_2,q98_3,q98_4,q98_5,q98_6,q98_7,q98_8,st98⟩
    refine aK1 7 ?_
    refine st98.segB 1 (sc rfl (oK (Z9 p59))<|.nil) [5,10,12,35,37,41,45,51] [(4,1),(8,6),(9,7),(11,8),(34,3)] (λ _ _ st155=>?_)
    exact aHe n112 (st155.fzS (g:=51) rfl)
   refine zq 7 4087 (λ a w=>∃ M1 q100_0 q100_1 q100_2 q100_3 q100_4 q100_5 q100_6 q100_7 q100_8,Sx (Frm.chg w0 G) 51 M M1 [q100_0,q100_1,q100_2,q100_3,q100_4,q100_5,q100_6,oneB q100_7,oneB q100_8] [(5,dptr x1),(10,dt v9),(12,dt s22.2.2.2.2),(35,dt x1),(41,dt v59),(45,dt v50),(51,dfz c41)] [(9,7,dbox q100_7 0 s22.2.2.1),(11,8,dbox q100_8 0 s22.2.2.2.1),(8,6,dow (Ow.box (owFinder (Ow.row 77 (Ow.frz (α:=Dir))))) q100_6 ⟨s22.2.1⟩),(34,3,dow (owFinder (Ow.row 77 (Ow.frz (α:=Dir)))) q100_3 s22.1),(4,1,dbd q100_1 3),(36,8,dbox q100_8 (0+2) s22.2.2.2.1.roots)] a w) ?_ (λ n100=>?_)
   ·
    rintro a100 w100 ⟨M100,q100_0,q100_1,q100_2,q100_3,q100_4,q100_5,q100_6,q100_7,q100_8,st100⟩
    refine aK1 3 ?_
    refine st100.segC 1 [5,10,12,35,37,41,45,51] [(4,1),(8,6),(9,7),(11,8),(34,3)] (λ _ _ st156=>?_)
    exact aHe n112 (st156.fzS (g:=51) rfl)
   refine zq 7 4094 (λ a w=>∃ M1 q106_0 q106_1 q106_2 q106_3 q106_4 q106_5 q106_6 q106_7 q106_8,Sx (Frm.chg w0 G) 51 M M1 [q106_0,q106_1,q106_2,q106_3,q106_4,q106_5,q106_6,oneB q106_7,oneB q106_8] [(5,dptr x1),(10,dt v9),(12,dt s22.2.2.2.2),(35,dt x1),(37,dt s22.2.2.2.1.roots),(41,dt v59),(45,dt v50),(51,dfz c41)] [(9,7,dbox q106_7 0 s22.2.2.1),(11,8,dbox q106_8 0 s22.2.2.2.1),(4,1,dow (Ow.box (owFinder (Ow.row 77 (Ow.frz (α:=Dir))))) q106_1 ⟨s22.1⟩),(8,6,dow (Ow.box (owFinder (Ow.row 77 (Ow.frz (α:=Dir))))) q106_6 ⟨s22.2.1⟩)] a w) ?_ (λ n106=>?_)
   ·
    rintro a106 w106 ⟨M106,q106_0,q106_1,q106_2,q106_3,q106_4,q106_5,q106_6,q106_7,q106_8,st106⟩
    refine aK1 0 ?_
    refine st106.nmB (s:=4) 1 rfl rfl iI [8,9,11] rfl (λ b157 st157=>?_)
    refine st157.ldK (sb:=4) 1 3 rfl rfl kT35 rfl (by simp) (by simp) (by decide) iI [5,10,12,35,37,41,45,51] rfl [8,9,11] rfl rfl rfl rfl (λ _ H158 _ _ st158=>?_)
    have st159:=st158.gn
    exact aHe n112 (st159.fzS (g:=51) rfl)
   refine zq 8 3959 (λ a w=>∃ M1 q83_0 q83_1 q83_2 q83_3 q83_4 q83_5 q83_6 q83_7 q83_8,Sx (Frm.chg w0 G) 51 M M1 [q83_0,q83_1,q83_2,q83_3,q83_4,q83_5,q83_6,oneB q83_7,oneB q83_8] [(5,dptr x1),(10,dt v9),(12,dt s22.2.2.2.2),(35,dt x1),(40,dt v45),(45,dt v50),(51,dfz c41)] [(9,7,dbox q83_7 0 s22.2.2.1),(11,8,dbox q83_8 0 s22.2.2.2.1),(8,6,dow (Ow.box (owFinder (Ow.row 77 (Ow.frz (α:=Dir))))) q83_6 ⟨s22.2.1⟩),(34,3,dow (owFinder (Ow.row 77 (Ow.frz (α:=Dir)))) q83_3 s22.1),(4,1,dbd q83_1 3),(36,8,dbox q83_8 (0+2) s22.2.2.2.1.roots)] a w) ?_ (λ n83=>?_)
   ·
    rintro a83 w83 ⟨M83,q83_0,q83_1,q83_2,q83_3,q83_4,q83_5,q83_6,q83_7,q83_8,st83⟩
    refine aK2 3 7 ?_ ?_
    ·
     refine st83.segC 1 [5,10,12,35,37,40,45,51] [(4,1),(8,6),(9,7),(11,8),(34,3)] (λ _ _ st160=>?_)
     exact aHe n98 (st160.fzS (g:=51) rfl)
    ·
     refine st83.segB 1 (sc rfl (oK (Z9 p59))<|.nil) [5,10,12,35,41,45,51] [(4,1),(8,6),(9,7),(11,8),(34,3),(36,8)] (λ _ _ st161=>?_)
     exact aHe n100 (st161.fzS (g:=51) rfl)
   refine zq 8 4083 (λ a w=>∃ M1 q85_0 q85_1 q85_2 q85_3 q85_4 q85_5 q85_6 q85_7 q85_8,Sx (Frm.chg w0 G) 51 M M1 [q85_0,q85_1,q85_2,q85_3,q85_4,q85_5,q85_6,oneB q85_7,oneB q85_8] [(5,dptr x1),(10,dt v9),(12,dt s22.2.2.2.2),(35,dt x1),(41,dt v59),(45,dt v50),(51,dfz c41)] [(9,7,dbox q85_7 0 s22.2.2.1),(11,8,dbox q85_8 0 s22.2.2.2.1),(8,6,dow (Ow.box (owFinder (Ow.row 77 (Ow.frz (α:=Dir))))) q85_6 ⟨s22.2.1⟩),(34,3,dow (owFinder (Ow.row 77 (Ow.frz (α:=Dir)))) q85_3 s22.1),(4,1,dbd q85_1 3)] a w) ?_ (λ n85=>?_)
   ·
    rintro a85 w85 ⟨M85,q85_0,q85_1,q85_2,q85_3,q85_4,q85_5,q85_6,q85_7,q85_8,st85⟩
    refine aK1 2 ?_
    refine st85.segC 1 [5,10,12,35,41,45,51] [(4,1),(8,6),(9,7),(11,8),(34,3),(36,8)] (λ _ _ st162=>?_)
    exact aHe n100 (st162.fzS (g:=51) rfl)
   refine zq 8 3966 (λ a w=>∃ M1 q90_0 q90_1 q90_2 q90_3 q90_4 q90_5 q90_6 q90_7 q90_8,Sx (Frm.chg w0 G) 51 M M1 [q90_0,q90_1,q90_2,q90_3,q90_4,q90_5,q90_6,oneB q90_7,oneB q90_8] [(5,dptr x1),(10,dt v9),(12,dt s22.2.2.2.2),(35,dt x1),(37,dt s22.2.2.2.1.roots),(40,dt v45),(45,dt v50),(51,dfz c41)] [(9,7,dbox q90_7 0 s22.2.2.1),(11,8,dbox q90_8 0 s22.2.2.2.1),(4,1,dow (Ow.box (owFinder (Ow.row 77 (Ow.frz (α:=Dir))))) q90_1 ⟨s22.1⟩),(8,6,dow (Ow.box (owFinder (Ow.row 77 (Ow.frz (α:=Dir))))) q90_6 ⟨s22.2.1⟩)] a w) ?_ (λ n90=>?_)
   ·
    rintro a90 w90 ⟨M90,q90_0,q90_1,q90_2,q90_3,q90_4,q90_5,q90_6,q90_7,q90_8,st90⟩
    refine aK2 0 7 ?_ ?_
    ·
     refine st90.nmB (s:=4) 1 rfl rfl iI [8,9,11] rfl (λ b163 st163=>?_)
     refine st163.ldK (sb:=4) 1 3 rfl rfl kT35 rfl (by simp) (by simp) (by decide) iI [5,10,12,35,37,40,45,51] rfl [8,9,11] rfl rfl rfl rfl (λ _ H164 _ _ st164=>?_)
     have st165:=st164.gn
     exact aHe n98 (st165.fzS (g:=51) rfl)
    ·
     refine st90.segB 1 (sc rfl (oK (Z9 p59))<|.nil) [5,10,12,35,37,41,45,51] [(4,1),(8,6),(9,7),(11,8)] (λ _ _ st166=>?_)
     exact aHe n106 (st166.fzS (g:=51) rfl)
   refine zq 8 4086 (λ a w=>∃ M1 q92_0 q92_1 q92_2 q92_3 q92_4 q92_5 q92_6 q92_7 q92_8,Sx (Frm.chg w0 G) 51 M M1 [q92_0,q92_1,q92_2,q92_3,q92_4,q92_5,q92_6,oneB q92_7,oneB q92_8] [(5,dptr x1),(10,dt v9),(12,dt s22.2.2.2.2),(35,dt x1),(41,dt v59),(45,dt v50),(51,dfz c41)] [(9,7,dbox q92_7 0 s22.2.2.1),(11,8,dbox q92_8 0 s22.2.2.2.1),(4,1,dow (Ow.box (owFinder (Ow.row 77 (Ow.frz (α:=Dir))))) q92_1 ⟨s22.1⟩),(8,6,dow (Ow.box (owFinder (Ow.row 77 (Ow.frz (α:=Dir))))) q92_6 ⟨s22.2.1⟩),(36,8,dbox q92_8 (0+2) s22.2.2.2.1.roots)] a w) ?_ (λ n92=>?_)
   ·
    rintro a92 w92 ⟨M92,q92_0,q92_1,q92_2,q92_3,q92_4,q92_5,q92_6,q92_7,q92_8,st92⟩
    refine aK2 0 3 ?_ ?_
    ·
     refine st92.nmB (s:=4) 1 rfl rfl iI [8,9,11,36] rfl (λ b167 st167=>?_)
     refine st167.ldK (sb:=4) 1 3 rfl rfl kT35 rfl (by simp) (by simp) (by decide) iI [5,10,12,35,41,45,51] rfl [8,9,11,36] rfl rfl rfl rfl (λ _ H168 _ _ st168=>?_)
     have st169:=st168.gn
     exact aHe n100 (st169.fzS (g:=51) rfl)
    ·
     refine st92.segC 1 [5,10,12,35,37,41,45,51] [(4,1),(8,6),(9,7),(11,8)] (λ _ _ st170=>?_)
     exact aHe n106 (st170.fzS (g:=51) rfl)
   refine zq 9 3955 (λ a w=>∃ M1 q77_0 q77_1 q77_2 q77_3 q77_4 q77_5 q77_6 q77_7 q77_8,Sx (Frm.chg w0 G) 51 M M1 [q77_0,q77_1,q77_2,q77_3,q77_4,q77_5,q77_6,oneB q77_7,oneB q77_8] [(5,dptr x1),(10,dt v9),(12,dt s22.2.2.2.2),(35,dt x1),(40,dt v45),(45,dt v50),(51,dfz c41)] [(9,7,dbox q77_7 0 s22.2.2.1),(11,8,dbox q77_8 0 s22.2.2.2.1),(8,6,dow (Ow.box (owFinder (Ow.row 77 (Ow.frz (α:=Dir))))) q77_6 ⟨s22.2.1⟩),(34,3,dow (owFinder (Ow.row 77 (Ow.frz (α:=Dir)))) q77_3 s22.1),(4,1,dbd q77_1 3)] a w) ?_ (λ n77=>?_)
   ·
    rintro a77 w77 ⟨M77,q77_0,q77_1,q77_2,q77_3,q77_4,q77_5,q77_6,q77_7,q77_8,st77⟩
    refine aK2 2 7 ?_ ?_
    ·
     refine st77.segC 1 [5,10,12,35,40,45,51] [(4,1),(8,6),(9,7),(11,8),(34,3),(36,8)] (λ _ _ st171=>?_)
     exact aHe n83 (st171.fzS (g:=51) rfl)
    ·
     refine st77.segB 1 (sc rfl (oK (Z9 p59))<|.nil) [5,10,12,35,41,45,51] [(4,1),(8,6),(9,7),(11,8),(34,3)] (λ _ _ st172=>?_)
     exact aHe n85 (st172.fzS (g:=51) rfl)
   refine zq 9 3958 (λ a w=>∃ M1 q79_0 q79_1 q79_2 q79_3 q79_4 q79_5 q79_6 q79_7 q79_8,Sx (Frm.chg w0 G) 51 M M1 [q79_0,q79_1,q79_2,q79_3,q79_4,q79_5,q79_6,oneB q79_7,oneB q79_8] [(5,dptr x1),(10,dt v9),(12,dt s22.2.2.2.2),(35,dt x1),(40,dt v45),(45,dt v50),(51,dfz c41)] [(9,7,dbox q79_7 0 s22.2.2.1),(11,8,dbox q79_8 0 s22.2.2.2.1),(4,1,dow (Ow.box (owFinder (Ow.row 77 (Ow.frz (α:=Dir))))) q79_1 ⟨s22.1⟩),(8,6,dow (Ow.box (owFinder (Ow.row 77 (Ow.frz (α:=Dir))))) q79_6 ⟨s22.2.1⟩),(36,8,dbox q79_8 (0+2) s22.2.2.2.1.roots)] a w) ?_ (λ n79=>?_)
   ·
    rintro a79 w79 ⟨M79,q79_0,q79_1,q79_2,q79_3,q79_4,q79_5,q79_6,q79_7,q79_8,st79⟩
    refine aH3 (i:=0) (j:=3) (k:=7) (by decide +kernel) rfl rfl rfl ?_ ?_ ?_
    ·
     refine st79.nmB (s:=4) 1 rfl rfl iI [8,9,11,36] rfl (λ b173 st173=>?_)
     refine st173.ldK (sb:=4) 1 3 rfl rfl kT35 rfl (by simp) (by simp) (by decide) iI [5,10,12,35,40,45,51] rfl [8,9,11,36] rfl rfl rfl rfl (λ _ H174 _ _ st174=>?_)
     have st175:=st174.gn
     exact aHe n83 (st175.fzS (g:=51) rfl)
    ·
     refine st79.segC 1 [5,10,12,35,37,40,45,51] [(4,1),(8,6),(9,7),(11,8)] (λ _ _ st176=>?_)
     exact aHe n90 (st176.fzS (g:=51) rfl)
    ·
     refine st79.segB 1 (sc rfl (oK (Z9 p59))<|.nil) [5,10,12,35,41,45,51] [(4,1),(8,6),(9,7),(11,8),(36,8)] (λ _ _ st177=>?_)
     exact aHe n92 (st177.fzS (g:=51) rfl)
   refine zq 9 4082 (λ a w=>∃ M1 q81_0 q81_1 q81_2 q81_3 q81_4 q81_5 q81_6 q81_7 q81_8,Sx (Frm.chg w0 G) 51 M M1 [q81_0,q81_1,q81_2,q81_3,q81_4,q81_5,q81_6,oneB q81_7,oneB q81_8] [(5,dptr x1),(10,dt v9),(12,dt s22.2.2.2.2),(35,dt x1),(41,dt v59),(45,dt v50),(51,dfz c41)] [(9,7,dbox q81_7 0 s22.2.2.1),(11,8,dbox q81_8 0 s22.2.2.2.1),(4,1,dow (Ow.box (owFinder (Ow.row 77 (Ow.frz (α:=Dir))))) q81_1 ⟨s22.1⟩),(8,6,dow (Ow.box (owFinder (Ow.row 77 (Ow.frz (α:=Dir))))) q81_6 ⟨s22.2.1⟩)] a w) ?_ (λ n81=>?_)
   ·
    rintro a81 w81 ⟨M81,q81_0,q81_1,q81_2,q81_3,q81_4,q81_5,q81_6,q81_7,q81_8,st81⟩
    refine aK2 0 2 ?_ ?_
    ·
     refine st81.nmB (s:=4) 1 rfl rfl iI [8,9,11] rfl (λ b178 st178=>?_)
     refine st178.ldK (sb:=4) 1 3 rfl rfl kT35 rfl (by simp) (by simp) (by decide) iI [5,10,12,35,41,45,51] rfl [8,9,11] rfl rfl rfl rfl (λ _ H179 _ _ st179=>?_)
     have st180:=st179.gn
     exact aHe n85 (st180.fzS (g:=51) rfl)
    ·
     refine st81.segC 1 [5,10,12,35,41,45,51] [(4,1),(8,6),(9,7),(11,8),(36,8)] (λ _ _ st181=>?_)
     exact aHe n92 (st181.fzS (g:=51) rfl)
   refine aH3 (i:=0) (j:=2) (k:=7) (by decide +kernel) rfl rfl rfl ?_ ?_ ?_
   ·
    refine st53.nmB (s:=4) 1 rfl rfl iI [8,9,11] rfl (λ b182 st182=>?_)
    refine st182.ldK (sb:=4) 1 3 rfl rfl kT35 rfl (by simp) (by simp) (by decide) iI [5,10,12,35,40,45,51] rfl [8,9,11] rfl rfl rfl rfl (λ _ H183 _ _ st183=>?_)
    have st184:=st183.gn
    exact aHe n77 (st184.fzS (g:=51) rfl)
   ·
    refine st53.segC 1 [5,10,12,35,40,45,51] [(4,1),(8,6),(9,7),(11,8),(36,8)] (λ _ _ st185=>?_)
    exact aHe n79 (st185.fzS (g:=51) rfl)
   ·
    refine st53.segB 1 (sc rfl (oK (Z9 p59))<|.nil) [5,10,12,35,41,45,51] [(4,1),(8,6),(9,7),(11,8)] (λ _ _ st186=>?_)
    exact aHe n81 (st186.fzS (g:=51) rfl)
  refine za ?_
  have h187:=lo h26 hx22
  exact fl h187
 rintro a18 w18 ⟨b18,rfl,⟨M18,q18_0,q18_1,q18_2,q18_3,q18_4,q18_5,q18_6,q18_7,q18_8,st18⟩⟩
 have h188:=jn k18
 refine wp_seq ?_
 refine st18.nmB (s:=8) 6 rfl rfl iI [4,9,11] rfl (λ b189 st189=>?_)
 refine st189.nmB (s:=4) 1 rfl rfl iI [8,9,11] rfl (λ b190 st190=>?_)
 refine st190.hdW (s:=4) 1 true (λ _=>(PV.root.box rfl)) rfl rfl iI [8,9,11] rfl (λ cs191 hS191 st191=>?_)
 refine st191.lateO (D:=[_,_,Yv]) (sb:=8) (s4:=4) 6 1 zD 3 2 [[(4,nS)],[(11,nS)],[(8,nS),(49,0)],[(9,nS),(50,1)]] (by decide +kernel) (by decide) (by decide) rfl (
  lc rfl rfl rfl (xLw (sb:=4) (.head _) rfl (hS191 rfl) rfl kT35 (zG rfl) rfl)<|lc rfl rfl rfl (zf rfl kT37 (tp rfl))<|ll rfl<|.nil) ⟨.inl rfl,⟨.inl rfl,⟨.inl rfl,trivial⟩⟩⟩ rfl rfl rfl rfl kT35 rfl (by simp) (by simp) (by decide) (zG rfl) (tp rfl) (hS191 rfl) rfl iI rfl iI (.head _) rfl [50] rfl [9] rfl rfl rfl rfl (λ _ _ _ st192=>?_)
 have st193:=st192.gn
 refine st193.stA 9 7 FldS.id (tp rfl) [] [8] (λ _ _ st195=>wpList_nil (za (wp_ret ?_)))
 exact st195.rtCC 6 rfl kT35 kT37 rfl rfl iI h188
def xw(x0:Finder)(x1:Disk)(x2:List Int)(x3:Str):Option (Finder×Spec):=
(wD x0).bind λ v8=>
(gO ((!v8) == false) (xn x1)).bind λ v9=>
(gO (((!v8)||(!v9)) == false) (ZF x2)).bind λ v10=>
(gO ((((!v8)||(!v9))||(!v10)) == false) (ZE x3)).bind λ v11=>
if((((!v8)||(!v9))||(!v10))||(!v11))=true then((Za).bind λ v19=>
some ((⟨[],0,0⟩:Finder),v19))
else((wW x0).bind λ v32=>
(Ya v32 x1 x2 x3).bind λ v36=>
(appO 8 [] v36.2.roots).bind λ v218=>
some (v36.1,{ v36.2 with roots:=v218 }))
theorem Ym{x0:Finder}{x1:Disk}{x2:List Int}{x3:Str}{r:Finder×Spec}(h:xw x0 x1 x2 x3=some r):Fn prog 10 [dt x0,dt x1,dt x2,dt x3] (dtup [dt r.1,dt r.2]):=by
 unfold xw at h
 refine fnx (fn:=f10) 7 func10 rfl (oD rfl) rfl (λ M w0 _ st0=>wp_seq (wp_region_list ?_))
 refine st0.segA 2 [2,3,4,5] [] (λ _ _ st1=>?_)
 refine st1.alA 3 yB [2,3,4,5] [] (λ b3 _ _ _ st3=>?_)
 have st4:=st3.gn
 refine st4.alA 4 yz [2,3,4,5] [8] (λ b6 _ _ _ st6=>?_)
 have st7:=st6.gn
 refine wpList_nil (za (wp_seq ?_))
 obtain⟨v8,p8,v9,p9,v10,p10,v11,p11,h15⟩:=bsD h
 refine st7.sqB (sP 1 (r:=by exact sc rfl (oK (XD p8))<|sP 3 (r:=by exact sg rfl rfl (λ hg=>oK (qz (gh hg p9)))<|sP 4 (r:=by exact sg rfl rfl (λ hg=>oK (zaL (gh hg p10)))<|sP 4 (r:=by exact sg rfl rfl (λ hg=>oK (zaK (gh hg p11)))<|segC))))) [2,3,4,5,29] [(8,3),(9,4)] (λ _ _ st16=>?_)
 refine st16.cs rfl h15 (λ _ h17=>wp_seq (wp_region_list ?_)) (λ _ h18=>wp_skip (za (wp_seq ?_)))
 ·
  obtain⟨v19,p19,h20⟩:=bs h17
  refine st16.segB 2 (sc rfl (yw (parts:=[]) (ns:=[1,1,1]) (zs:=Xw) rfl rfl kB35 kC35 (λ w a hl=>by simp) (λ w a hl=>Finder.parts (x:=(⟨[],0,0⟩:Finder)) xI ⟨rfl,trivial⟩ ⟨rfl,trivial⟩))<|sc rfl (oK (X0 p19))<|.nil) [30,31] [(8,3),(9,4)] (λ _ _ st21=>?_)
  refine st21.stA 8 3 FldS.id (tp rfl) [31] [9] (λ _ _ st23=>?_)
  refine st23.stA 9 4 FldS.id (tp rfl) [] [8] (λ _ _ st25=>wpList_nil (za ?_))
  refine wp_ret (zd ?_)
  obtain rfl:=Option.some.inj h20
  exact st25.ret2cc rfl kT35 kT37 rfl rfl   rfl
 refine st16.heldF zD (λ c26 _ hz26 st26=>?_)
 refine st26.tkLp (i:=0) rfl rfl (by decide +kernel) (by decide +kernel) (by decide +kernel) (λ _ _ _ _ h=>h) (st26.fzS (g:=48) rfl) hz26 rfl kT35 (tp rfl) (λ _ st27=>?_)
 refine st27.tkLp (i:=2) rfl rfl (by decide +kernel) (by decide +kernel) (by decide +kernel) (λ _ _ _ _ h=>h) (st27.fzS (g:=48) rfl) hz26 rfl kT45 (tp rfl) (λ _ st28=>?_)
 refine st28.tM 3 2 (st28.fzS (g:=48) rfl) (λ _ st29=>?_)
 refine st29.tM 4 3 (st29.fzS (g:=48) rfl) (λ _ st30=>?_)
 obtain⟨v32,p32,v36,p36,h52⟩:=bsB h18
 refine zq 1 4095 (λ a w=>∃ M1 q209_3 q209_4 q209_5 q209_6,Sx (Frm.of w0) 48 M M1 [oneB none,oneB none,oneB none,oneB q209_3,oneB q209_4,q209_5,oneB q209_6] [(40,dt v36.2),(48,dfz c26)] [(8,3,dbox q209_3 0 zi),(9,4,dbox q209_4 0 zO),(11,6,dbox q209_6 0 zO),(10,5,dow (Ow.box (owFinder (Ow.row 77 (Ow.frz (α:=Dir))))) q209_5 ⟨v36.1⟩)] a w) ?_ (λ n209=>?_)
 ·
  rintro a209 w209 ⟨M209,q209_3,q209_4,q209_5,q209_6,st209⟩
  refine aK1 12 ?_
  refine st209.stA 11 6 FldS.id (tp rfl) [48] [8,9,10] (λ _ _ st214=>?_)
  refine aHN (st214.fzS (g:=48) rfl) ?_
  refine aK0 (za (wp_seq (wp_region_list ?_)))
  refine st214.segB 3 (sc rfl (wT (α:=Int) (e:=3) rfl kS30)<|segC) [43] [(8,3),(9,4),(10,5),(11,6),(41,2)] (λ _ _ st215=>?_)
  obtain⟨v218,p218,h219⟩:=bs h52
  refine st215.apA 2 wO p218 [] [8,9,10,11] (λ g217 _ _ _ st217=>?_)
  have st220:=st217.gn
  refine st220.segC 1 [] [(8,3),(9,4),(10,5),(11,6),(44,2),(45,6)] (λ _ _ st221=>?_)
  have st224:=st221.frz 2 (s:=44) rfl rfl [] rfl [8,9,10,11,45] rfl
  refine st224.stA 11 6 Spec.set2 (tp rfl) [] [8,9,10] (λ _ _ st223=>?_)
  have st225:=st223.gn
  refine wpList_nil (za (wp_seq ?_))
  have st226:=st225.frzB (s:=10) 5 rfl (by simp) iI [] rfl [8,9,11] rfl rfl
  refine st226.lateB (D:=[_,_,Yv]) (sb:=8) 3 FldS.id zD 3 2 [[(10,nS)],[(11,nS)],[(8,nS),(46,0)],[(9,nS),(47,1)]] (by decide +kernel) (by decide) (by decide) rfl (
   lc rfl rfl rfl (zp rfl kT35 (tp rfl))<|lc rfl rfl rfl (zf rfl kT37 (tp rfl))<|ll rfl<|.nil) ⟨.inl rfl,⟨.inl rfl,⟨.inl rfl,trivial⟩⟩⟩ rfl rfl rfl rfl kT35 rfl rfl (tp rfl) rfl rfl [47] rfl [9] rfl rfl rfl (λ _ _ st227=>?_)
  refine st227.stA 9 4 FldS.id (tp rfl) [] [8] (λ _ _ st229=>wpList_nil (za (wp_ret ?_)))
  obtain rfl:=Option.some.inj h219
  exact st229.ret2cc rfl kT35 kT37 rfl rfl   rfl
 refine zq 2 2047 (λ a w=>∃ M1 q194_0 q194_3 q194_4 q194_5 q194_6,Sx (Frm.of w0) 48 M M1 [q194_0,oneB none,oneB none,oneB q194_3,oneB q194_4,q194_5,oneB q194_6] [(40,dt v36.2),(48,dfz c26)] [(8,3,dbox q194_3 0 zi),(9,4,dbox q194_4 0 zO),(11,6,dbox q194_6 0 zO),(10,5,dow (Ow.box (owFinder (Ow.row 77 (Ow.frz (α:=Dir))))) q194_5 ⟨zi⟩),(39,0,dow (owFinder (Ow.row 77 (Ow.frz (α:=Dir)))) q194_0 v36.1)] a w) ?_ (λ n194=>?_)
 ·
  rintro a194 w194 ⟨M194,q194_0,q194_3,q194_4,q194_5,q194_6,st194⟩
  refine aK1 11 ?_
  refine st194.nmB (s:=10) 5 rfl rfl iI [8,9,11,39] rfl (λ b231 st231=>?_)
  refine st231.stO (sb:=10) (tv:=39) 5 0 (PV.root.box rfl) rfl rfl rfl kT35 (by simp) (by simp) (by decide) (zG rfl) rfl rfl rfl iI iI [40,48] rfl [8,9,11] rfl rfl rfl (λ _ _ st230=>?_)
  have st232:=st230.gn
  have st233:=st232.unm (s:=10) 5 rfl rfl iI [8,9,11] rfl
  exact aHe n209 (st233.fzS (g:=48) rfl)
 refine zq 2 3839 (λ a w=>∃ M1 q203_3 q203_4 q203_5 q203_6,Sx (Frm.of w0) 48 M M1 [oneB none,oneB none,oneB none,oneB q203_3,oneB q203_4,q203_5,oneB q203_6] [(32,dex2 (dt v36.2)),(48,dfz c26)] [(8,3,dbox q203_3 0 zi),(9,4,dbox q203_4 0 zO),(11,6,dbox q203_6 0 zO),(10,5,dow (Ow.box (owFinder (Ow.row 77 (Ow.frz (α:=Dir))))) q203_5 ⟨v36.1⟩)] a w) ?_ (λ n203=>?_)
 ·
  rintro a203 w203 ⟨M203,q203_3,q203_4,q203_5,q203_6,st203⟩
  refine aK1 8 ?_
  refine st203.segB 1 (sc rfl (Wi rfl (tp rfl))<|.nil) [40,48] [(8,3),(9,4),(10,5),(11,6)] (λ _ _ st234=>?_)
  exact aHe n209 (st234.fzS (g:=48) rfl)
 refine zq 3 1023 (λ a w=>∃ M1 q166_0 q166_3 q166_4 q166_5,Sx (Frm.of w0) 48 M M1 [q166_0,oneB none,oneB none,oneB q166_3,oneB q166_4,q166_5,oneB none] [(40,dt v36.2),(48,dfz c26)] [(8,3,dbox q166_3 0 zi),(9,4,dbox q166_4 0 zO),(10,5,dow (Ow.box (owFinder (Ow.row 77 (Ow.frz (α:=Dir))))) q166_5 ⟨zi⟩),(39,0,dow (owFinder (Ow.row 77 (Ow.frz (α:=Dir)))) q166_0 v36.1)] a w) ?_ (λ n166=>?_)
 ·
  rintro a166 w166 ⟨M166,q166_0,q166_3,q166_4,q166_5,st166⟩
  refine aK1 10 ?_
  refine st166.alA 6 yz [40,48] [8,9,10,39] (λ b236 _ _ _ st236=>?_)
  have st237:=st236.gn
  exact aHe n194 (st237.fzS (g:=48) rfl)
 refine zq 3 1535 (λ a w=>∃ M1 q170_0 q170_3 q170_4 q170_6,Sx (Frm.of w0) 48 M M1 [q170_0,oneB none,oneB none,oneB q170_3,oneB q170_4,oneB none,oneB q170_6] [(40,dt v36.2),(48,dfz c26)] [(8,3,dbox q170_3 0 zi),(9,4,dbox q170_4 0 zO),(11,6,dbox q170_6 0 zO),(39,0,dow (owFinder (Ow.row 77 (Ow.frz (α:=Dir)))) q170_0 v36.1)] a w) ?_ (λ n170=>?_)
 ·
  rintro a170 w170 ⟨M170,q170_0,q170_3,q170_4,q170_6,st170⟩
  refine aK1 9 ?_
  refine st170.alcW (ow:=(owFinder (Ow.row 77 (Ow.frz (α:=Dir))))) 5 rfl rfl kZ35 (owFinder.z Ow.row_z) (by simp) [40,48] rfl [8,9,11,39] rfl rfl (λ b238 _ _ _ st238=>?_)
  have st239:=st238.gn
  have st240:=st239.unm (s:=10) 5 rfl rfl iI [8,9,11,39] rfl
  exact aHe n194 (st240.fzS (g:=48) rfl)
 refine zq 3 1791 (λ a w=>∃ M1 q175_0 q175_3 q175_4 q175_5 q175_6,Sx (Frm.of w0) 48 M M1 [q175_0,oneB none,oneB none,oneB q175_3,oneB q175_4,q175_5,oneB q175_6] [(32,dex2 (dt v36.2)),(48,dfz c26)] [(8,3,dbox q175_3 0 zi),(9,4,dbox q175_4 0 zO),(11,6,dbox q175_6 0 zO),(10,5,dow (Ow.box (owFinder (Ow.row 77 (Ow.frz (α:=Dir))))) q175_5 ⟨zi⟩),(39,0,dow (owFinder (Ow.row 77 (Ow.frz (α:=Dir)))) q175_0 v36.1)] a w) ?_ (λ n175=>?_)
 ·
  rintro a175 w175 ⟨M175,q175_0,q175_3,q175_4,q175_5,q175_6,st175⟩
  refine aK2 8 11 ?_ ?_
  ·
   refine st175.segB 1 (sc rfl (Wi rfl (tp rfl))<|.nil) [40,48] [(8,3),(9,4),(10,5),(11,6),(39,0)] (λ _ _ st241=>?_)
   exact aHe n194 (st241.fzS (g:=48) rfl)
  ·
   refine st175.nmB (s:=10) 5 rfl rfl iI [8,9,11,39] rfl (λ b243 st243=>?_)
   refine st243.stO (sb:=10) (tv:=39) 5 0 (PV.root.box rfl) rfl rfl rfl kT35 (by simp) (by simp) (by decide) (zG rfl) rfl rfl rfl iI iI [32,48] rfl [8,9,11] rfl rfl rfl (λ _ _ st242=>?_)
   have st244:=st242.gn
   have st245:=st244.unm (s:=10) 5 rfl rfl iI [8,9,11] rfl
   exact aHe n203 (st245.fzS (g:=48) rfl)
 refine zq 3 1919 (λ a w=>∃ M1 q184_0 q184_3 q184_4 q184_5 q184_6,Sx (Frm.of w0) 48 M M1 [q184_0,oneB none,oneB none,oneB q184_3,oneB q184_4,q184_5,oneB q184_6] [(40,dt v36.2),(48,dfz c26)] [(8,3,dbox q184_3 0 zi),(9,4,dbox q184_4 0 zO),(11,6,dbox q184_6 0 zO),(10,5,dow (Ow.box (owFinder (Ow.row 77 (Ow.frz (α:=Dir))))) q184_5 ⟨zi⟩),(32,0,drd (.t2o (owFinder (Ow.row 77 (Ow.frz (α:=Dir)))) v36.1 (dt v36.2)) q184_0)] a w) ?_ (λ n184=>?_)
 ·
  rintro a184 w184 ⟨M184,q184_0,q184_3,q184_4,q184_5,q184_6,st184⟩
  refine aK1 7 ?_
  refine st184.ex2o (s:=32) 0 rfl rfl rfl rfl iI rfl [8,9,10,11] rfl (λ _ st246=>?_)
  exact aHe n194 (st246.fzS (g:=48) rfl)
 refine zq 4 511 (λ a w=>∃ M1 q133_0 q133_3 q133_4,Sx (Frm.of w0) 48 M M1 [q133_0,oneB none,oneB none,oneB q133_3,oneB q133_4,oneB none,oneB none] [(40,dt v36.2),(48,dfz c26)] [(8,3,dbox q133_3 0 zi),(9,4,dbox q133_4 0 zO),(39,0,dow (owFinder (Ow.row 77 (Ow.frz (α:=Dir)))) q133_0 v36.1)] a w) ?_ (λ n133=>?_)
 ·
  rintro a133 w133 ⟨M133,q133_0,q133_3,q133_4,st133⟩
  refine aK2 9 10 ?_ ?_
  ·
   refine st133.alcW (ow:=(owFinder (Ow.row 77 (Ow.frz (α:=Dir))))) 5 rfl rfl kZ35 (owFinder.z Ow.row_z) (by simp) [40,48] rfl [8,9,39] rfl rfl (λ b247 _ _ _ st247=>?_)
   have st248:=st247.gn
   have st249:=st248.unm (s:=10) 5 rfl rfl iI [8,9,39] rfl
   exact aHe n166 (st249.fzS (g:=48) rfl)
  ·
   refine st133.alA 6 yz [40,48] [8,9,39] (λ b251 _ _ _ st251=>?_)
   have st252:=st251.gn
   exact aHe n170 (st252.fzS (g:=48) rfl)
 refine zq 4 767 (λ a w=>∃ M1 q137_0 q137_3 q137_4 q137_5,Sx (Frm.of w0) 48 M M1 [q137_0,oneB none,oneB none,oneB q137_3,oneB q137_4,q137_5,oneB none] [(32,dex2 (dt v36.2)),(48,dfz c26)] [(8,3,dbox q137_3 0 zi),(9,4,dbox q137_4 0 zO),(10,5,dow (Ow.box (owFinder (Ow.row 77 (Ow.frz (α:=Dir))))) q137_5 ⟨zi⟩),(39,0,dow (owFinder (Ow.row 77 (Ow.frz (α:=Dir)))) q137_0 v36.1)] a w) ?_ (λ n137=>?_)
 ·
  rintro a137 w137 ⟨M137,q137_0,q137_3,q137_4,q137_5,st137⟩
  refine aK2 8 10 ?_ ?_
  ·
   refine st137.segB 1 (sc rfl (Wi rfl (tp rfl))<|.nil) [40,48] [(8,3),(9,4),(10,5),(39,0)] (λ _ _ st253=>?_)
   exact aHe n166 (st253.fzS (g:=48) rfl)
  ·
   refine st137.alA 6 yz [32,48] [8,9,10,39] (λ b255 _ _ _ st255=>?_)
   have st256:=st255.gn
   exact aHe n175 (st256.fzS (g:=48) rfl)
 refine zq 4 1279 (λ a w=>∃ M1 q141_0 q141_3 q141_4 q141_6,Sx (Frm.of w0) 48 M M1 [q141_0,oneB none,oneB none,oneB q141_3,oneB q141_4,oneB none,oneB q141_6] [(32,dex2 (dt v36.2)),(48,dfz c26)] [(8,3,dbox q141_3 0 zi),(9,4,dbox q141_4 0 zO),(11,6,dbox q141_6 0 zO),(39,0,dow (owFinder (Ow.row 77 (Ow.frz (α:=Dir)))) q141_0 v36.1)] a w) ?_ (λ n141=>?_)
 ·
  rintro a141 w141 ⟨M141,q141_0,q141_3,q141_4,q141_6,st141⟩
  refine aK2 8 9 ?_ ?_
  ·
   refine st141.segB 1 (sc rfl (Wi rfl (tp rfl))<|.nil) [40,48] [(8,3),(9,4),(11,6),(39,0)] (λ _ _ st257=>?_)
   exact aHe n170 (st257.fzS (g:=48) rfl)
  ·
   refine st141.alcW (ow:=(owFinder (Ow.row 77 (Ow.frz (α:=Dir))))) 5 rfl rfl kZ35 (owFinder.z Ow.row_z) (by simp) [32,48] rfl [8,9,11,39] rfl rfl (λ b258 _ _ _ st258=>?_)
   have st259:=st258.gn
   have st260:=st259.unm (s:=10) 5 rfl rfl iI [8,9,11,39] rfl
   exact aHe n175 (st260.fzS (g:=48) rfl)
 refine zq 4 895 (λ a w=>∃ M1 q146_0 q146_3 q146_4 q146_5,Sx (Frm.of w0) 48 M M1 [q146_0,oneB none,oneB none,oneB q146_3,oneB q146_4,q146_5,oneB none] [(40,dt v36.2),(48,dfz c26)] [(8,3,dbox q146_3 0 zi),(9,4,dbox q146_4 0 zO),(10,5,dow (Ow.box (owFinder (Ow.row 77 (Ow.frz (α:=Dir))))) q146_5 ⟨zi⟩),(32,0,drd (.t2o (owFinder (Ow.row 77 (Ow.frz (α:=Dir)))) v36.1 (dt v36.2)) q146_0)] a w) ?_ (λ n146=>?_)
 ·
  rintro a146 w146 ⟨M146,q146_0,q146_3,q146_4,q146_5,st146⟩
  refine aK2 7 10 ?_ ?_
  ·
   refine st146.ex2o (s:=32) 0 rfl rfl rfl rfl iI rfl [8,9,10] rfl (λ _ st261=>?_)
   exact aHe n166 (st261.fzS (g:=48) rfl)
  ·
   refine st146.alA 6 yz [40,48] [8,9,10,32] (λ b263 _ _ _ st263=>?_)
   have st264:=st263.gn
   exact aHe n184 (st264.fzS (g:=48) rfl)
 refine zq 4 1407 (λ a w=>∃ M1 q150_0 q150_3 q150_4 q150_6,Sx (Frm.of w0) 48 M M1 [q150_0,oneB none,oneB none,oneB q150_3,oneB q150_4,oneB none,oneB q150_6] [(40,dt v36.2),(48,dfz c26)] [(8,3,dbox q150_3 0 zi),(9,4,dbox q150_4 0 zO),(11,6,dbox q150_6 0 zO),(32,0,drd (.t2o (owFinder (Ow.row 77 (Ow.frz (α:=Dir)))) v36.1 (dt v36.2)) q150_0)] a w) ?_ (λ n150=>?_)
 ·
  rintro a150 w150 ⟨M150,q150_0,q150_3,q150_4,q150_6,st150⟩
  refine aK2 7 9 ?_ ?_
  ·
   refine st150.ex2o (s:=32) 0 rfl rfl rfl rfl iI rfl [8,9,11] rfl (λ _ st265=>?_)
   exact aHe n170 (st265.fzS (g:=48) rfl)
  ·
   refine st150.alcW (ow:=(owFinder (Ow.row 77 (Ow.frz (α:=Dir))))) 5 rfl rfl kZ35 (owFinder.z Ow.row_z) (by simp) [40,48] rfl [8,9,11,32] rfl rfl (λ b266 _ _ _ st266=>?_)
   have st267:=st266.gn
   have st268:=st267.unm (s:=10) 5 rfl rfl iI [8,9,11,32] rfl
   exact aHe n184 (st268.fzS (g:=48) rfl)
 refine zq 4 1663 (λ a w=>∃ M1 q156_0 q156_3 q156_4 q156_5 q156_6,Sx (Frm.of w0) 48 M M1 [q156_0,oneB none,oneB none,oneB q156_3,oneB q156_4,q156_5,oneB q156_6] [(48,dfz c26)] [(8,3,dbox q156_3 0 zi),(9,4,dbox q156_4 0 zO),(11,6,dbox q156_6 0 zO),(10,5,dow (Ow.box (owFinder (Ow.row 77 (Ow.frz (α:=Dir))))) q156_5 ⟨zi⟩),(32,0,drd (.t2o (owFinder (Ow.row 77 (Ow.frz (α:=Dir)))) v36.1 (dt v36.2)) q156_0)] a w) ?_ (λ n156=>?_)
 ·
  rintro a156 w156 ⟨M156,q156_0,q156_3,q156_4,q156_5,q156_6,st156⟩
  refine aK2 7 8 ?_ ?_
  ·
   refine st156.ex2o (s:=32) 0 rfl rfl rfl rfl iI rfl [8,9,10,11] rfl (λ _ st269=>?_)
   exact aHe n175 (st269.fzS (g:=48) rfl)
  ·
   refine st156.segB 1 (sc rfl (xEx2p (s:=32) rfl rfl rfl)<|.nil) [40,48] [(8,3),(9,4),(10,5),(11,6),(32,0)] (λ _ _ st270=>?_)
   exact aHe n184 (st270.fzS (g:=48) rfl)
 refine zq 5 255 (λ a w=>∃ M1 q110_0 q110_3 q110_4,Sx (Frm.of w0) 48 M M1 [q110_0,oneB none,oneB none,oneB q110_3,oneB q110_4,oneB none,oneB none] [(32,dex2 (dt v36.2)),(48,dfz c26)] [(8,3,dbox q110_3 0 zi),(9,4,dbox q110_4 0 zO),(39,0,dow (owFinder (Ow.row 77 (Ow.frz (α:=Dir)))) q110_0 v36.1)] a w) ?_ (λ n110=>?_)
 ·
  rintro a110 w110 ⟨M110,q110_0,q110_3,q110_4,st110⟩
  refine aH3 (i:=8) (j:=9) (k:=10) (by decide +kernel) rfl rfl rfl ?_ ?_ ?_
  ·
   refine st110.segB 1 (sc rfl (Wi rfl (tp rfl))<|.nil) [40,48] [(8,3),(9,4),(39,0)] (λ _ _ st271=>?_)
   exact aHe n133 (st271.fzS (g:=48) rfl)
  ·
   refine st110.alcW (ow:=(owFinder (Ow.row 77 (Ow.frz (α:=Dir))))) 5 rfl rfl kZ35 (owFinder.z Ow.row_z) (by simp) [32,48] rfl [8,9,39] rfl rfl (λ b272 _ _ _ st272=>?_)
   have st273:=st272.gn
   have st274:=st273.unm (s:=10) 5 rfl rfl iI [8,9,39] rfl
   exact aHe n137 (st274.fzS (g:=48) rfl)
  ·
   refine st110.alA 6 yz [32,48] [8,9,39] (λ b276 _ _ _ st276=>?_)
   have st277:=st276.gn
   exact aHe n141 (st277.fzS (g:=48) rfl)
 refine zq 5 383 (λ a w=>∃ M1 q112_0 q112_3 q112_4,Sx (Frm.of w0) 48 M M1 [q112_0,oneB none,oneB none,oneB q112_3,oneB q112_4,oneB none,oneB none] [(40,dt v36.2),(48,dfz c26)] [(8,3,dbox q112_3 0 zi),(9,4,dbox q112_4 0 zO),(32,0,drd (.t2o (owFinder (Ow.row 77 (Ow.frz (α:=Dir)))) v36.1 (dt v36.2)) q112_0)] a w) ?_ (λ n112=>?_)
 ·
  rintro a112 w112 ⟨M112,q112_0,q112_3,q112_4,st112⟩
  refine aH3 (i:=7) (j:=9) (k:=10) (by decide +kernel) rfl rfl rfl ?_ ?_ ?_
  ·
   refine st112.ex2o (s:=32) 0 rfl rfl rfl rfl iI rfl [8,9] rfl (λ _ st278=>?_)
   exact aHe n133 (st278.fzS (g:=48) rfl)
  ·
   refine st112.alcW (ow:=(owFinder (Ow.row 77 (Ow.frz (α:=Dir))))) 5 rfl rfl kZ35 (owFinder.z Ow.row_z) (by simp) [40,48] rfl [8,9,32] rfl rfl (λ b279 _ _ _ st279=>?_)
   have st280:=st279.gn
   have st281:=st280.unm (s:=10) 5 rfl rfl iI [8,9,32] rfl
   exact aHe n146 (st281.fzS (g:=48) rfl)
  ·
   refine st112.alA 6 yz [40,48] [8,9,32] (λ b283 _ _ _ st283=>?_)
   have st284:=st283.gn
   exact aHe n150 (st284.fzS (g:=48) rfl)
 refine zq 5 639 (λ a w=>∃ M1 q116_0 q116_3 q116_4 q116_5,Sx (Frm.of w0) 48 M M1 [q116_0,oneB none,oneB none,oneB q116_3,oneB q116_4,q116_5,oneB none] [(48,dfz c26)] [(8,3,dbox q116_3 0 zi),(9,4,dbox q116_4 0 zO),(10,5,dow (Ow.box (owFinder (Ow.row 77 (Ow.frz (α:=Dir))))) q116_5 ⟨zi⟩),(32,0,drd (.t2o (owFinder (Ow.row 77 (Ow.frz (α:=Dir)))) v36.1 (dt v36.2)) q116_0)] a w) ?_ (λ n116=>?_)
 ·
  rintro a116 w116 ⟨M116,q116_0,q116_3,q116_4,q116_5,st116⟩
  refine aH3 (i:=7) (j:=8) (k:=10) (by decide +kernel) rfl rfl rfl ?_ ?_ ?_
  ·
   refine st116.ex2o (s:=32) 0 rfl rfl rfl rfl iI rfl [8,9,10] rfl (λ _ st285=>?_)
   exact aHe n137 (st285.fzS (g:=48) rfl)
  ·
   refine st116.segB 1 (sc rfl (xEx2p (s:=32) rfl rfl rfl)<|.nil) [40,48] [(8,3),(9,4),(10,5),(32,0)] (λ _ _ st286=>?_)
   exact aHe n146 (st286.fzS (g:=48) rfl)
  ·
   refine st116.alA 6 yz [48] [8,9,10,32] (λ b288 _ _ _ st288=>?_)
   have st289:=st288.gn
   exact aHe n156 (st289.fzS (g:=48) rfl)
 refine zq 5 1151 (λ a w=>∃ M1 q120_0 q120_3 q120_4 q120_6,Sx (Frm.of w0) 48 M M1 [q120_0,oneB none,oneB none,oneB q120_3,oneB q120_4,oneB none,oneB q120_6] [(48,dfz c26)] [(8,3,dbox q120_3 0 zi),(9,4,dbox q120_4 0 zO),(11,6,dbox q120_6 0 zO),(32,0,drd (.t2o (owFinder (Ow.row 77 (Ow.frz (α:=Dir)))) v36.1 (dt v36.2)) q120_0)] a w) ?_ (λ n120=>?_)
 ·
  rintro a120 w120 ⟨M120,q120_0,q120_3,q120_4,q120_6,st120⟩
  refine aH3 (i:=7) (j:=8) (k:=9) (by decide +kernel) rfl rfl rfl ?_ ?_ ?_
  ·
   refine st120.ex2o (s:=32) 0 rfl rfl rfl rfl iI rfl [8,9,11] rfl (λ _ st290=>?_)
   exact aHe n141 (st290.fzS (g:=48) rfl)
  ·
   refine st120.segB 1 (sc rfl (xEx2p (s:=32) rfl rfl rfl)<|.nil) [40,48] [(8,3),(9,4),(11,6),(32,0)] (λ _ _ st291=>?_)
   exact aHe n150 (st291.fzS (g:=48) rfl)
  ·
   refine st120.alcW (ow:=(owFinder (Ow.row 77 (Ow.frz (α:=Dir))))) 5 rfl rfl kZ35 (owFinder.z Ow.row_z) (by simp) [48] rfl [8,9,11,32] rfl rfl (λ b292 _ _ _ st292=>?_)
   have st293:=st292.gn
   have st294:=st293.unm (s:=10) 5 rfl rfl iI [8,9,11,32] rfl
   exact aHe n156 (st294.fzS (g:=48) rfl)
 refine zq 5 1599 (λ a w=>∃ M1 q125_0 q125_3 q125_4 q125_5 q125_6,Sx (Frm.of w0) 48 M M1 [q125_0,oneB none,oneB none,oneB q125_3,oneB q125_4,q125_5,oneB q125_6] [(48,dfz c26)] [(8,3,dbox q125_3 0 zi),(9,4,dbox q125_4 0 zO),(11,6,dbox q125_6 0 zO),(10,5,dow (Ow.box (owFinder (Ow.row 77 (Ow.frz (α:=Dir))))) q125_5 ⟨zi⟩),(38,0,drd (.t2o (owFinder (Ow.row 77 (Ow.frz (α:=Dir)))) v36.1 (dt v36.2)) q125_0)] a w) ?_ (λ n125=>?_)
 ·
  rintro a125 w125 ⟨M125,q125_0,q125_3,q125_4,q125_5,q125_6,st125⟩
  refine aK1 6 ?_
  refine st125.mvD (s:=38) 0 rfl rfl rfl rfl iI rfl [8,9,10,11] rfl (λ _ st295=>?_)
  exact aHe n156 (st295.fzS (g:=48) rfl)
 refine zq 6 127 (λ a w=>∃ M1 q87_0 q87_3 q87_4,Sx (Frm.of w0) 48 M M1 [q87_0,oneB none,oneB none,oneB q87_3,oneB q87_4,oneB none,oneB none] [(48,dfz c26)] [(8,3,dbox q87_3 0 zi),(9,4,dbox q87_4 0 zO),(32,0,drd (.t2o (owFinder (Ow.row 77 (Ow.frz (α:=Dir)))) v36.1 (dt v36.2)) q87_0)] a w) ?_ (λ n87=>?_)
 ·
  rintro a87 w87 ⟨M87,q87_0,q87_3,q87_4,st87⟩
  refine aH4 (i:=7) (j:=8) (k:=9) (l:=10) (by decide +kernel) rfl rfl rfl rfl ?_ ?_ ?_ ?_
  ·
   refine st87.ex2o (s:=32) 0 rfl rfl rfl rfl iI rfl [8,9] rfl (λ _ st296=>?_)
   exact aHe n110 (st296.fzS (g:=48) rfl)
  ·
   refine st87.segB 1 (sc rfl (xEx2p (s:=32) rfl rfl rfl)<|.nil) [40,48] [(8,3),(9,4),(32,0)] (λ _ _ st297=>?_)
   exact aHe n112 (st297.fzS (g:=48) rfl)
  ·
   refine st87.alcW (ow:=(owFinder (Ow.row 77 (Ow.frz (α:=Dir))))) 5 rfl rfl kZ35 (owFinder.z Ow.row_z) (by simp) [48] rfl [8,9,32] rfl rfl (λ b298 _ _ _ st298=>?_)
   have st299:=st298.gn
   have st300:=st299.unm (s:=10) 5 rfl rfl iI [8,9,32] rfl
   exact aHe n116 (st300.fzS (g:=48) rfl)
  ·
   refine st87.alA 6 yz [48] [8,9,32] (λ b302 _ _ _ st302=>?_)
   have st303:=st302.gn
   exact aHe n120 (st303.fzS (g:=48) rfl)
 refine zq 6 575 (λ a w=>∃ M1 q91_0 q91_3 q91_4 q91_5,Sx (Frm.of w0) 48 M M1 [q91_0,oneB none,oneB none,oneB q91_3,oneB q91_4,q91_5,oneB none] [(48,dfz c26)] [(8,3,dbox q91_3 0 zi),(9,4,dbox q91_4 0 zO),(10,5,dow (Ow.box (owFinder (Ow.row 77 (Ow.frz (α:=Dir))))) q91_5 ⟨zi⟩),(38,0,drd (.t2o (owFinder (Ow.row 77 (Ow.frz (α:=Dir)))) v36.1 (dt v36.2)) q91_0)] a w) ?_ (λ n91=>?_)
 ·
  rintro a91 w91 ⟨M91,q91_0,q91_3,q91_4,q91_5,st91⟩
  refine aK2 6 10 ?_ ?_
  ·
   refine st91.mvD (s:=38) 0 rfl rfl rfl rfl iI rfl [8,9,10] rfl (λ _ st304=>?_)
   exact aHe n116 (st304.fzS (g:=48) rfl)
  ·
   refine st91.alA 6 yz [48] [8,9,10,38] (λ b306 _ _ _ st306=>?_)
   have st307:=st306.gn
   exact aHe n125 (st307.fzS (g:=48) rfl)
 refine zq 6 1087 (λ a w=>∃ M1 q95_0 q95_3 q95_4 q95_6,Sx (Frm.of w0) 48 M M1 [q95_0,oneB none,oneB none,oneB q95_3,oneB q95_4,oneB none,oneB q95_6] [(48,dfz c26)] [(8,3,dbox q95_3 0 zi),(9,4,dbox q95_4 0 zO),(11,6,dbox q95_6 0 zO),(38,0,drd (.t2o (owFinder (Ow.row 77 (Ow.frz (α:=Dir)))) v36.1 (dt v36.2)) q95_0)] a w) ?_ (λ n95=>?_)
 ·
  rintro a95 w95 ⟨M95,q95_0,q95_3,q95_4,q95_6,st95⟩
  refine aK2 6 9 ?_ ?_
  ·
   refine st95.mvD (s:=38) 0 rfl rfl rfl rfl iI rfl [8,9,11] rfl (λ _ st308=>?_)
   exact aHe n120 (st308.fzS (g:=48) rfl)
  ·
   refine st95.alcW (ow:=(owFinder (Ow.row 77 (Ow.frz (α:=Dir))))) 5 rfl rfl kZ35 (owFinder.z Ow.row_z) (by simp) [48] rfl [8,9,11,38] rfl rfl (λ b309 _ _ _ st309=>?_)
   have st310:=st309.gn
   have st311:=st310.unm (s:=10) 5 rfl rfl iI [8,9,11,38] rfl
   exact aHe n125 (st311.fzS (g:=48) rfl)
 refine zq 6 1567 (λ a w=>∃ M1 q101_0 q101_3 q101_4 q101_5 q101_6,Sx (Frm.of w0) 48 M M1 [q101_0,oneB none,oneB none,oneB q101_3,oneB q101_4,q101_5,oneB q101_6] [(35,dt x1),(36,dt x2),(37,dt x3),(48,dfz c26)] [(8,3,dbox q101_3 0 zi),(9,4,dbox q101_4 0 zO),(11,6,dbox q101_6 0 zO),(10,5,dow (Ow.box (owFinder (Ow.row 77 (Ow.frz (α:=Dir))))) q101_5 ⟨zi⟩),(34,0,dow (owFinder (Ow.row 77 (Ow.frz (α:=Dir)))) q101_0 v32)] a w) ?_ (λ n101=>?_)
 ·
  rintro a101 w101 ⟨M101,q101_0,q101_3,q101_4,q101_5,q101_6,st101⟩
  refine aK1 5 ?_
  refine st101.cT (sb:=34) (l:=[.tmp 35,.tmp 36,.tmp 37]) 0 rfl rfl kN52 rfl iI (by simp) (.cons (tp rfl) (.cons (tp rfl) (.cons (tp rfl) .nil))) (Y4 p36) [48] rfl [8,9,10,11] rfl rfl (λ _ _ _ _ st312=>?_)
  have st313:=st312.gn
  exact aHe n125 (st313.fzS (g:=48) rfl)
 refine zq 7 63 (λ a w=>∃ M1 q66_0 q66_3 q66_4,Sx (Frm.of w0) 48 M M1 [q66_0,oneB none,oneB none,oneB q66_3,oneB q66_4,oneB none,oneB none] [(48,dfz c26)] [(8,3,dbox q66_3 0 zi),(9,4,dbox q66_4 0 zO),(38,0,drd (.t2o (owFinder (Ow.row 77 (Ow.frz (α:=Dir)))) v36.1 (dt v36.2)) q66_0)] a w) ?_ (λ n66=>?_)
 ·
  rintro a66 w66 ⟨M66,q66_0,q66_3,q66_4,st66⟩
  refine aH3 (i:=6) (j:=9) (k:=10) (by decide +kernel) rfl rfl rfl ?_ ?_ ?_
  ·
   refine st66.mvD (s:=38) 0 rfl rfl rfl rfl iI rfl [8,9] rfl (λ _ st314=>?_)
   exact aHe n87 (st314.fzS (g:=48) rfl)
  ·
   refine st66.alcW (ow:=(owFinder (Ow.row 77 (Ow.frz (α:=Dir))))) 5 rfl rfl kZ35 (owFinder.z Ow.row_z) (by simp) [48] rfl [8,9,38] rfl rfl (λ b315 _ _ _ st315=>?_)
   have st316:=st315.gn
   have st317:=st316.unm (s:=10) 5 rfl rfl iI [8,9,38] rfl
   exact aHe n91 (st317.fzS (g:=48) rfl)
  ·
   refine st66.alA 6 yz [48] [8,9,38] (λ b319 _ _ _ st319=>?_)
   have st320:=st319.gn
   exact aHe n95 (st320.fzS (g:=48) rfl)
 refine zq 7 543 (λ a w=>∃ M1 q70_0 q70_3 q70_4 q70_5,Sx (Frm.of w0) 48 M M1 [q70_0,oneB none,oneB none,oneB q70_3,oneB q70_4,q70_5,oneB none] [(35,dt x1),(36,dt x2),(37,dt x3),(48,dfz c26)] [(8,3,dbox q70_3 0 zi),(9,4,dbox q70_4 0 zO),(10,5,dow (Ow.box (owFinder (Ow.row 77 (Ow.frz (α:=Dir))))) q70_5 ⟨zi⟩),(34,0,dow (owFinder (Ow.row 77 (Ow.frz (α:=Dir)))) q70_0 v32)] a w) ?_ (λ n70=>?_)
 ·
  rintro a70 w70 ⟨M70,q70_0,q70_3,q70_4,q70_5,st70⟩
  refine aK2 5 10 ?_ ?_
  ·
   refine st70.cT (sb:=34) (l:=[.tmp 35,.tmp 36,.tmp 37]) 0 rfl rfl kN52 rfl iI (by simp) (.cons (tp rfl) (.cons (tp rfl) (.cons (tp rfl) .nil))) (Y4 p36) [48] rfl [8,9,10] rfl rfl (λ _ _ _ _ st321=>?_)
   have st322:=st321.gn
   exact aHe n91 (st322.fzS (g:=48) rfl)
  ·
   refine st70.alA 6 yz [35,36,37,48] [8,9,10,34] (λ b324 _ _ _ st324=>?_)
   have st325:=st324.gn
   exact aHe n101 (st325.fzS (g:=48) rfl)
 refine zq 7 1055 (λ a w=>∃ M1 q74_0 q74_3 q74_4 q74_6,Sx (Frm.of w0) 48 M M1 [q74_0,oneB none,oneB none,oneB q74_3,oneB q74_4,oneB none,oneB q74_6] [(35,dt x1),(36,dt x2),(37,dt x3),(48,dfz c26)] [(8,3,dbox q74_3 0 zi),(9,4,dbox q74_4 0 zO),(11,6,dbox q74_6 0 zO),(34,0,dow (owFinder (Ow.row 77 (Ow.frz (α:=Dir)))) q74_0 v32)] a w) ?_ (λ n74=>?_)
 ·
  rintro a74 w74 ⟨M74,q74_0,q74_3,q74_4,q74_6,st74⟩
  refine aK2 5 9 ?_ ?_
  ·
   refine st74.cT (sb:=34) (l:=[.tmp 35,.tmp 36,.tmp 37]) 0 rfl rfl kN52 rfl iI (by simp) (.cons (tp rfl) (.cons (tp rfl) (.cons (tp rfl) .nil))) (Y4 p36) [48] rfl [8,9,11] rfl rfl (λ _ _ _ _ st326=>?_)
   have st327:=st326.gn
   exact aHe n95 (st327.fzS (g:=48) rfl)
  ·
   refine st74.alcW (ow:=(owFinder (Ow.row 77 (Ow.frz (α:=Dir))))) 5 rfl rfl kZ35 (owFinder.z Ow.row_z) (by simp) [35,36,37,48] rfl [8,9,11,34] rfl rfl (λ b328 _ _ _ st328=>?_)
   have st329:=st328.gn
   have st330:=st329.unm (s:=10) 5 rfl rfl iI [8,9,11,34] rfl
   exact aHe n101 (st330.fzS (g:=48) rfl)
 refine zq 7 1565 (λ a w=>∃ M1 q80_3 q80_4 q80_5 q80_6,Sx (Frm.of w0) 48 M M1 [oneB none,oneB none,oneB none,oneB q80_3,oneB q80_4,q80_5,oneB q80_6] [(33,dt x0),(35,dt x1),(36,dt x2),(37,dt x3),(48,dfz c26)] [(8,3,dbox q80_3 0 zi),(9,4,dbox q80_4 0 zO),(11,6,dbox q80_6 0 zO),(10,5,dow (Ow.box (owFinder (Ow.row 77 (Ow.frz (α:=Dir))))) q80_5 ⟨zi⟩)] a w) ?_ (λ n80=>?_)
 ·
  rintro a80 w80 ⟨M80,q80_3,q80_4,q80_5,q80_6,st80⟩
  refine aK1 1 ?_
  refine st80.cN (l:=[.tmp 33]) 0 rfl rfl kN53 (.cons (tp rfl) .nil) (xW p32) (by simp) [35,36,37,48] rfl [8,9,10,11] rfl rfl (λ _ _ _ _ st331=>?_)
  have st332:=st331.gn
  exact aHe n101 (st332.fzS (g:=48) rfl)
 refine zq 8 31 (λ a w=>∃ M1 q55_0 q55_3 q55_4,Sx (Frm.of w0) 48 M M1 [q55_0,oneB none,oneB none,oneB q55_3,oneB q55_4,oneB none,oneB none] [(35,dt x1),(36,dt x2),(37,dt x3),(48,dfz c26)] [(8,3,dbox q55_3 0 zi),(9,4,dbox q55_4 0 zO),(34,0,dow (owFinder (Ow.row 77 (Ow.frz (α:=Dir)))) q55_0 v32)] a w) ?_ (λ n55=>?_)
 ·
  rintro a55 w55 ⟨M55,q55_0,q55_3,q55_4,st55⟩
  refine aH3 (i:=5) (j:=9) (k:=10) (by decide +kernel) rfl rfl rfl ?_ ?_ ?_
  ·
   refine st55.cT (sb:=34) (l:=[.tmp 35,.tmp 36,.tmp 37]) 0 rfl rfl kN52 rfl iI (by simp) (.cons (tp rfl) (.cons (tp rfl) (.cons (tp rfl) .nil))) (Y4 p36) [48] rfl [8,9] rfl rfl (λ _ _ _ _ st333=>?_)
   have st334:=st333.gn
   exact aHe n66 (st334.fzS (g:=48) rfl)
  ·
   refine st55.alcW (ow:=(owFinder (Ow.row 77 (Ow.frz (α:=Dir))))) 5 rfl rfl kZ35 (owFinder.z Ow.row_z) (by simp) [35,36,37,48] rfl [8,9,34] rfl rfl (λ b335 _ _ _ st335=>?_)
   have st336:=st335.gn
   have st337:=st336.unm (s:=10) 5 rfl rfl iI [8,9,34] rfl
   exact aHe n70 (st337.fzS (g:=48) rfl)
  ·
   refine st55.alA 6 yz [35,36,37,48] [8,9,34] (λ b339 _ _ _ st339=>?_)
   have st340:=st339.gn
   exact aHe n74 (st340.fzS (g:=48) rfl)
 refine zq 8 541 (λ a w=>∃ M1 q59_3 q59_4 q59_5,Sx (Frm.of w0) 48 M M1 [oneB none,oneB none,oneB none,oneB q59_3,oneB q59_4,q59_5,oneB none] [(33,dt x0),(35,dt x1),(36,dt x2),(37,dt x3),(48,dfz c26)] [(8,3,dbox q59_3 0 zi),(9,4,dbox q59_4 0 zO),(10,5,dow (Ow.box (owFinder (Ow.row 77 (Ow.frz (α:=Dir))))) q59_5 ⟨zi⟩)] a w) ?_ (λ n59=>?_)
 ·
  rintro a59 w59 ⟨M59,q59_3,q59_4,q59_5,st59⟩
  refine aK2 1 10 ?_ ?_
  ·
   refine st59.cN (l:=[.tmp 33]) 0 rfl rfl kN53 (.cons (tp rfl) .nil) (xW p32) (by simp) [35,36,37,48] rfl [8,9,10] rfl rfl (λ _ _ _ _ st341=>?_)
   have st342:=st341.gn
   exact aHe n70 (st342.fzS (g:=48) rfl)
  ·
   refine st59.alA 6 yz [33,35,36,37,48] [8,9,10] (λ b344 _ _ _ st344=>?_)
   have st345:=st344.gn
   exact aHe n80 (st345.fzS (g:=48) rfl)
 refine zq 8 1053 (λ a w=>∃ M1 q63_3 q63_4 q63_6,Sx (Frm.of w0) 48 M M1 [oneB none,oneB none,oneB none,oneB q63_3,oneB q63_4,oneB none,oneB q63_6] [(33,dt x0),(35,dt x1),(36,dt x2),(37,dt x3),(48,dfz c26)] [(8,3,dbox q63_3 0 zi),(9,4,dbox q63_4 0 zO),(11,6,dbox q63_6 0 zO)] a w) ?_ (λ n63=>?_)
 ·
  rintro a63 w63 ⟨M63,q63_3,q63_4,q63_6,st63⟩
  refine aK2 1 9 ?_ ?_
  ·
   refine st63.cN (l:=[.tmp 33]) 0 rfl rfl kN53 (.cons (tp rfl) .nil) (xW p32) (by simp) [35,36,37,48] rfl [8,9,11] rfl rfl (λ _ _ _ _ st346=>?_)
   have st347:=st346.gn
   exact aHe n74 (st347.fzS (g:=48) rfl)
  ·
   refine st63.alcW (ow:=(owFinder (Ow.row 77 (Ow.frz (α:=Dir))))) 5 rfl rfl kZ35 (owFinder.z Ow.row_z) (by simp) [33,35,36,37,48] rfl [8,9,11] rfl rfl (λ b348 _ _ _ st348=>?_)
   have st349:=st348.gn
   have st350:=st349.unm (s:=10) 5 rfl rfl iI [8,9,11] rfl
   exact aHe n80 (st350.fzS (g:=48) rfl)
 refine aH3 (i:=1) (j:=9) (k:=10) (by decide +kernel) rfl rfl rfl ?_ ?_ ?_
 ·
  refine st30.cN (l:=[.tmp 33]) 0 rfl rfl kN53 (.cons (tp rfl) .nil) (xW p32) (by simp) [35,36,37,48] rfl [8,9] rfl rfl (λ _ _ _ _ st351=>?_)
  have st352:=st351.gn
  exact aHe n55 (st352.fzS (g:=48) rfl)
 ·
  refine st30.alcW (ow:=(owFinder (Ow.row 77 (Ow.frz (α:=Dir))))) 5 rfl rfl kZ35 (owFinder.z Ow.row_z) (by simp) [33,35,36,37,48] rfl [8,9] rfl rfl (λ b353 _ _ _ st353=>?_)
  have st354:=st353.gn
  have st355:=st354.unm (s:=10) 5 rfl rfl iI [8,9] rfl
  exact aHe n59 (st355.fzS (g:=48) rfl)
 ·
  refine st30.alA 6 yz [33,35,36,37,48] [8,9] (λ b357 _ _ _ st357=>?_)
  have st358:=st357.gn
  exact aHe n63 (st358.fzS (g:=48) rfl)
def wk(x0:Finder)(x1:Disk)(s13:(List Int)×Int):Option (((List Int)×Int)⊕(List Int)):=
if(cmpI .lss s13.2 (x0.dirs.length:Int))=true then(Option.bind (α:=(List Int)) ((atI x0.dirs s13.2).bind λ v19=>
(xD x1 v19.root v19.pkg).bind λ v26=>
(gO (cmpI .eql v19.stamp v26 == true) (qA x1.tree v19.root v19.pkg)).bind λ v27=>
(gO (cmpI .eql v19.stamp v26 == true) (qB v19.names v27)).bind λ v28=>
if(cmpI .eql v19.stamp v26&&(!v28))=true then((appO 8 s13.1 ([s13.2]:List Int)).bind λ v38=>
some v38)
else(some s13.1)) λ o18=>
(i64 (s13.2+(1:Int))).bind λ v42=>
some (.inl (o18,v42)))
else(some (.inr s13.1))
def jw(x0:Finder)(x1:Disk):Option (List Int):=
(wD x0).bind λ v2=>
(gO ((!v2) == false) (xn x1)).bind λ v3=>
if((!v2)||(!v3))=true then(some [])
else(Option.bind (α:=(List Int)) (zS (λ s13=>wk x0 x1 s13) ([],(0:Int))) λ o11=>
some o11)
theorem Wk{x0:Finder}{x1:Disk}{r:List Int}(h:jw x0 x1=some r):FnOwn prog 39 [dt x0,dt x1] 3 r:=by
 unfold jw at h
 refine fnxO (fn:=f39) 2 func39 rfl (oD rfl) rfl (λ M w0 _ st0=>?_)
 refine st0.sq2 (sP 2 (r:=by exact sc rfl (oA rfl (Zl (α:=Int) (e:=3)))<|.nil)) [2,3] (λ _ _ st1=>wp_seq ?_)
 obtain⟨v2,p2,v3,p3,h5⟩:=bsB h
 refine st1.sq2 (sP 1 (r:=by exact sc rfl (oK (XD p2))<|sP 3 (r:=by exact sg rfl rfl (λ hg=>oK (qz (gh hg p3)))<|segC))) [2,3,15] (λ _ _ st6=>?_)
 refine st6.cs rfl h5 (λ _ h7=>?_) (λ _ h8=>wp_skip (za ?_))
 ·
  refine st6.sqB (sc rfl (oA rfl (Zl (α:=Int) (e:=3)))<|.nil) [] [(4,0)] (λ _ _ st9=>wp_ret (zd ?_))
  exact st9.ret_own 0 rfl rfl iE h7
 refine st6.sqB (sc rfl (wT (α:=Int) (e:=3) rfl kS30)<|segC) [2,3] [(5,0)] (λ _ _ st10=>?_)
 obtain⟨o11,p11,k11⟩:=bs h8
 refine zm (λ a w=>∃ M1 q11_0 q11_1,Sx (Frm.of w0) 56 M M1 [oneB q11_0,oneB q11_1] [] [(5,0,dtip q11_0 3 o11)] a w) ?_ ?_
 ·
  refine st10.sqA [2,3,6] [(5,0)] (λ _ _ st12=>wp_block ?_)
  refine zL p11 (λ s13 a w=>∃ M1 q13_0 q13_1,Sx (Frm.of w0) 56 M M1 [oneB q13_0,oneB q13_1] [(2,dptr x0),(3,dptr x1),(6,dt s13.2)] [(5,0,dtip q13_0 3 s13.1)] a w) fx ?_
  rintro s13 z13 a13 w13 ⟨M13,q13_0,q13_1,st13⟩ hs13 hx13
  have h14:wk x0 x1 s13=some z13:=hs13
  unfold wk at h14
  refine wp_seq ?_
  refine st13.sqA [2,3,6,21] [(5,0)] (λ _ _ st15=>?_)
  refine st15.cs rfl h14 (λ _ h16=>wp_skip (za ?_)) (λ _ h17=>wp_exit (zh (zh (zE ?_))))
  ·
   obtain⟨o18,p18,k18⟩:=bs h16
   refine zm (λ a w=>∃ M1 q18_0 q18_1,Sx (Frm.of w0) 56 M M1 [oneB q18_0,oneB q18_1] [(2,dptr x0),(3,dptr x1),(6,dt s13.2)] [(5,0,dtip q18_0 3 o18)] a w) ?_ ?_
   ·
    refine wp_block (wp_seq (wp_region_list ?_))
    obtain⟨v19,p19,h20⟩:=bs p18
    refine st15.segA 5 [2,3,6,28] [(5,0)] (λ _ _ st21=>?_)
    refine st21.alA 1 zrDir [2,3,6,28] [5] (λ b23 _ _ _ st23=>?_)
    refine st23.stA 7 1 FldS.id (tp rfl) [2,3,6] [5] (λ _ _ st25=>wpList_nil (za (wp_seq ?_)))
    obtain⟨v26,p26,v27,p27,v28,p28,h31⟩:=bsC h20
    refine st25.drA (D:=[_,_,_,_,_,_,_,_,_,_,_,_,_,_,_,_,_,_,_,_,_,_]) zD [[(7,nS)],[(29,0)],[(3,nS)],[(7,nS)],[(32,3)],[(7,nS)],[(34,5)],[(31,2),(33,4),(35,6)],[(30,1),(36,7)],[(37,8)],[(7,nS),(38,9)],[(39,10),(38,9)],[(3,nS),(38,9)],[(41,12),(38,9)],[(7,nS),(38,9)],[(43,14),(38,9)],[(7,nS),(38,9)],[(45,16),(38,9)],[(42,13),(44,15),(46,17),(38,9)],[(40,11),(47,18),(38,9)],[(48,19),(38,9)],[(38,9),(49,20)]] [2,3,6,50] [(5,0)] (λ _ _ st32=>?_) (hs:=rc rfl rfl (zB Dir.fld2 rfl Xb (tp rfl))<|rc rfl rfl (zf rfl kT3 (tp rfl))<|rc rfl rfl (zp rfl kT45 (tp rfl))<|rc rfl rfl (zB Dir.fld0 rfl YF (tp rfl))<|rc rfl rfl (zf rfl kT3 (tp rfl))<|rc rfl rfl (zB Dir.fld1 rfl YG (tp rfl))<|rc rfl rfl (zf rfl kT9 (tp rfl))<|rc rfl rfl (zo (l:=[.tmp 31,.tmp 33,.tmp 35]) rfl kN84 (.cons (tp rfl) (.cons (tp rfl) (.cons (tp rfl) .nil))) (Jo p26))<|rc rfl rfl (oCI rfl (tp rfl) (tp rfl))<|rc rfl rfl (oM rfl (tp rfl))<|rg rfl rfl rfl (λ hg=>zB Dir.fld3 rfl YH (tp rfl))<|rg rfl rfl rfl (λ hg=>zf rfl kT75 (ze hg rfl))<|rg rfl rfl rfl (λ hg=>zv Disk.fld0 rfl Yl (tp rfl))<|rg rfl rfl rfl (λ hg=>zp rfl kT43 (ze hg rfl))<|rg rfl rfl rfl (λ hg=>zB Dir.fld0 rfl YF (tp rfl))<|rg rfl rfl rfl (λ hg=>zf rfl kT3 (ze hg rfl))<|rg rfl rfl rfl (λ hg=>zB Dir.fld1 rfl YG (tp rfl))<|rg rfl rfl rfl (λ hg=>zf rfl kT9 (ze hg rfl))<|rg rfl rfl rfl (λ hg=>zo (l:=[.tmp 42,.tmp 44,.tmp 46]) rfl kN86 (.cons (ze hg rfl) (.cons (ze hg rfl) (.cons (ze hg rfl) .nil))) ((Jp (gh hg p27))).fn)<|rg rfl rfl rfl (λ hg=>zo (l:=[.tmp 40,.tmp 47]) rfl kN85 (.cons (ze hg rfl) (.cons (ze hg rfl) .nil)) (zaP (gh hg p28)))<|rg rfl rfl rfl (λ hg=>yE rfl (ze hg rfl))<|rc rfl rfl (yK rfl (tp rfl) (zb rfl))<|.nil)
    refine za ?_
    refine st32.cs rfl h31 (λ _ h33=>wp_region_list ?_) (λ _ h34=>wp_skip (zg (za ?_)))
    ·
     refine st32.segC 3 [2,3,6,53] [(5,0),(51,0)] (λ _ _ st35=>?_)
     obtain⟨v38,p38,h39⟩:=bs h33
     refine st35.apA 0 wO p38 [2,3,6] [] (λ g37 _ _ _ st37=>?_)
     refine st37.segA 1 [2,3,6] [(5,0)] (λ _ _ st40=>wpList_nil (zg (za ?_)))
     cases h39
     exact fx
    cases h34
    exact fx
   rintro a18 w18 ⟨M18,q18_0,q18_1,st18⟩
   have h41:=k18
   obtain⟨v42,p42,h43⟩:=bs h41
   refine st18.rgA [2,3,6] [(5,0)] (λ _ _ st44=>za ?_)
   exact fl h43
  refine za ?_
  have h45:=lo h17 hx13
  cases h45
  exact fx
 rintro a11 w11 ⟨M11,q11_0,q11_1,st11⟩
 have h46:=k11
 refine st11.sqA [] [(4,0)] (λ _ _ st47=>wp_ret ?_)
 exact st47.ret_own 0 rfl rfl iI h46
end Go.Proofs.YtdoidiipacdbpaaGreatDoor
