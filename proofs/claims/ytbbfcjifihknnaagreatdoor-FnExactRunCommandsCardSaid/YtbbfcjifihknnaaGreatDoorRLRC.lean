import Derived.Test.YtbbfcjifihknnaaGreatDoorRH
import Derived.Test.YtbbfcjifihknnaaGreatDoorRB
import Derived.Test.YtbbfcjifihknnaaGreatDoorRO
import Derived.Test.YtbbfcjifihknnaaGreatDoorRKb
import Derived.Test.YtbbfcjifihknnaaGreatDoorRI
import Derived.Test.YtbbfcjifihknnaaGreatDoorRU
namespace Go.Proofs.YtbbfcjifihknnaaGreatDoor
open Go.RowKit Tryz
attribute [local irreducible] OpRel OpdR
set_option maxRecDepth 10000
set_option maxHeartbeats 1600000
variable{r:Bool}{f x3:Int}{l x2:List GCmd}{p x1:List Int}{R:Rec}{t x0:Tree}
theorem kN13:fnB prog 13=true:=by kernel_rfl
theorem kN18:fnB prog 18=true:=by kernel_rfl
theorem kN20:fnB prog 20=true:=by kernel_rfl
theorem kN21:fnB prog 21=true:=by kernel_rfl
def wu(R:Rec)(x0:Tree)(x1:List Int)(x2:List GCmd)(x3:Int):Option Bool:=
if(cmpI .gtr (x1.length:Int) 1048576)=true then(some true)
else((Yq x0 (1048576:Int)).bind λ v7=>
if cmpI .lss v7 0 then(some true)
else((j4 x2 v7).bind λ v14=>
if cmpI .lss v14 0 then(some true)
else((qh x0).bind λ v21=>
(jt x1).bind λ v22=>
(we x2).bind λ v23=>
(wB R v21 v22 v23 x3).bind λ v24=>
(qh x0).bind λ v37=>
(jt x1).bind λ v46=>
(we x2).bind λ v53=>
(wQ R v37 v46 v53 x3).bind λ v61=>
(xK v61 v24).bind λ v70=>
if(!v70)=true then(some false)
else((qh x0).bind λ v78=>
(Zs v37 v78).bind λ v79=>
if(!v79)=true then(some false)
else((jt x1).bind λ v87=>
(wK v46 v87).bind λ v88=>
if(!v88)=true then(some false)
else((we x2).bind λ v95=>
(wZ v53 v95).bind λ v96=>
if(!v96)=true then(some false)
else((YA v37 (1:Int)).bind λ v107=>
(jc v46 v107.2).bind λ v113=>
(qv v53 v113.2).bind λ v119=>
(gO (cmpI .lss v119.2 0 == false) (xK v61 v24)).bind λ v124=>
if(cmpI .lss v119.2 0||(!v124))=true then(some false)
else((j8 v61 (1:Int)).bind λ v135=>
(xv v135.1 (1:Int)).bind λ v141=>
if cmpI .lss v141 0 then(some false)
else(if cmpI .neq v141 v135.2 then(some false)
else((qh x0).bind λ v153=>
(jt x1).bind λ v154=>
(we x2).bind λ v155=>
(wQ R v153 v154 v155 x3).bind λ v156=>
(xK v156 v24).bind λ v167=>
if(!v167)=true then(some false)
else((xv v135.1 (1:Int)).bind λ v175=>
if cmpI .lss v175 0 then(some false)
else(if cmpI .neq v175 v135.2 then(some false)
else(some true)))))))))))))
theorem WH(hR:R.ok)(h:wu R x0 x1 x2 x3=some r):Fn prog 3 [dt x0,dt x1,dt x2,dt x3] (dt r):=by
 unfold wu at h
 refine fnx (fn:=f3) 8 func3 Z Z λ M _ _ st0=>?_
 refine st0.sq1 [1,2,3,4] (λ _ _ st1=>Kc ?_)
 refine st1.sq1 [1,2,3,4,21] λ _ _ st2=>?_
 refine st2.cs h (λ _ h3=>?_) (λ _ h4=>wp_skip (za ?_))
 ·refine st2.sq1 [8] (λ _ _ st5=>wp_ret (zE ?_))
  exact st5.ret Z Z h3
 refine st2.sq1 [1,2,3,4,9] λ _ _ st6=>?_
 obtain⟨v7,p7,h8⟩:=bsW h4 zay
 refine st6.sq1 [1,2,3,4,9] (λ _ _ st9=>Kc ?_)
 refine st9.sq1 [1,2,3,4,9,26] λ _ _ st10=>?_
 refine st10.cs h8 (λ _ h11=>?_) (λ _ h12=>wp_skip (za ?_))
 ·refine st10.sq1 [8] (λ _ _ st13=>wp_ret (zE ?_))
  exact st13.ret Z Z h11
 obtain⟨v14,p14,h15⟩:=bsW h12 WO
 refine st10.sq1 [1,2,3,4,9] (λ _ _ st16=>Kc ?_)
 refine st16.sq1 [1,2,3,4,31] λ _ _ st17=>?_
 refine st17.cs h15 (λ _ h18=>?_) (λ _ h19=>wp_skip (za (Kc (Ka ?_))))
 ·refine st17.sq1 [8] (λ _ _ st20=>wp_ret (zE ?_))
  exact st20.ret Z Z h18
 obtain⟨v21,p21,v22,p22,v23,p23,v24,p24,h28⟩:=bsD h19
 refine st17.segB 8 (sP 1 (r:=by exact sc Z (oK (FnN.fn<|XA p21))<|sP 1 (r:=by exact sc Z (zC (l:=[.tmp 34]) Z (.cons (tp Z) .nil) ((Xy p22)).fn)<|sP 1 (r:=by exact sc Z (zC (l:=[.tmp 36]) Z (.cons (tp Z) .nil) ((Zy p23)).fn)<|sP 1 (r:=by exact sc Z (oK (zaX hR p24))<|.nil))))) [1,2,3,4,39] [] λ _ _ st29=>?_
 refine st29.alA 4 QY [1,2,3,4,39] [] λ b31 _ _ _ st31=>?_
 have st32:=st31.gn
 refine st32.stA 10 4 FldS.id (tp Z) [1,2,3,4] [] (λ _ _ st34=>Kb (za (Kc (Ka ?_))))
 refine st34.segA 1 [1,2,3,4,40] [(10,4)] λ _ _ st35=>?_
 have⟨v37,p37,h38⟩:=bs h28
 refine st35.cN (l:=[.tmp 40]) 0 (.cons (tp Z) .nil) (XA p37) [1,2,3,4] [10] λ _ _ _ _ st36=>?_
 have st39:=st36.gn
 refine st39.alcW (ow:=(owTree (Ow.row 121 (owFile (Ow.row 175 (Ow.frz (α:=Stmt))))))) 5 (owTree.z Ow.row_z) [1,2,3,4] [10,41] λ b40 _ _ _ st40=>?_
 have st41:=st40.gn
 refine st41.stO (sb:=11) (tv:=41) 5 0 (PV.root.box Z) (zN Z) [1,2,3,4] [10] λ G42 _ st42=>?_
 have st43:=st42.gn
 refine Kb (za (Kc (Ka ?_)))
 refine st43.segA 1 [1,2,3,4,42] [(10,4),(11,5)] λ _ _ st44=>?_
 have⟨v46,p46,h47⟩:=bs h38
 refine st44.cN (l:=[.tmp 42]) 2 (.cons (tp Z) .nil) (Xy p46).n [1,2,3,4] [10,11] λ G45 _ _ _ st45=>?_
 have st48:=st45.gn
 refine st48.nmR (s:=43) 2 [10,11] λ g49 A49 _ hA49 st49=>?_
 refine st49.segA 1 [1,2,3,4] [(10,4),(11,5),(12,2)] (λ _ _ st50=>Kb (za (Kc (Ka ?_))))
 refine st50.segA 1 [1,2,3,4,44] [(10,4),(11,5),(12,2)] λ _ _ st51=>?_
 have⟨v53,p53,h54⟩:=bs h47
 refine st51.cN (l:=[.tmp 44]) 3 (.cons (tp Z) .nil) (Zy p53).n [1,2,3,4] [10,11,12] λ G52 _ _ _ st52=>?_
 have st55:=st52.gn
 refine st55.nmR (s:=45) 3 [10,11,12] λ g56 A56 _ hA56 st56=>?_
 refine st56.segA 1 [1,2,3,4] [(10,4),(11,5),(12,2),(13,3)] (λ _ _ st57=>Kb (za (Kc (Ka ?_))))
 refine st57.hdW (s:=11) 5 true (λ _=>(PV.root.box Z)) [10,12,13] λ cs58 hS58 st58=>?_
 refine st58.segB 4 (sc Z (xLw (sb:=11) (.head _) Z (hS58 Z) Z (zN Z) Z)<|sc Z (oM Z (tp Z))<|sc Z (oM Z (tp Z))<|sc Z (oM Z (tp Z))<|.nil) [1,2,3,4,46,49] [(10,4),(11,5),(12,2),(13,3),(47,2),(48,3)] λ _ _ st59=>?_
 have⟨v61,p61,h62⟩:=bs h54
 refine st59.cNb (l:=[.tmp 46,.tmp 47,.tmp 48,.tmp 49]) 1 Z Z kN13 st59.ob.sub (.cons (Qx (sb:=11) st59.ob 5 (PV.root.box Z) (.head _) Z (Y4 Z (hS58 Z)) (tp Z) Z iI) (.cons (lendN st59.ob 2 iI (tp Z)) (.cons (lendN st59.ob 3 iI (tp Z)) (.cons (xq st59.ob.sub (tp Z)) .nil)))) (XO hR p61) (owGResult.full (Zg XJ) (Zg XJ) (Zg zcA) (Zg (owGMod.full (Zg XJ) (Zg zc2)))) [1,2,3,4] Z [10,11,12,13] Z Z λ G60 _ _ _ st60=>?_
 have st63:=st60.gs (Gs':=[oneB none,G60,G45,G52,oneB (some b31),G42,oneB none,oneB none])
 refine st63.alcW (ow:=(owGResult (Ow.row 3 (Ow.frz (α:=Int))) (Ow.row 3 (Ow.frz (α:=Int))) (Ow.row 160 (Ow.frz (α:=GEvent))) (Ow.row 139 (owGMod (Ow.row 3 (Ow.frz (α:=Int))) oAtt)))) 6 (owGResult.z Ow.row_z Ow.row_z Ow.row_z Ow.row_z) [1,2,3,4] [10,11,12,13,50] λ b64 _ _ _ st64=>?_
 have st65:=st64.gn
 refine st65.stO (sb:=14) (tv:=50) 6 1 (PV.root.box Z) (zN Z) [1,2,3,4] [10,11,12,13] λ _ _ st66=>?_
 have st67:=st66.gn
 refine Kb ?_
 have st68:=st67.ncf (s:=11) 5 [10,12,13,14]
 refine za (Kc ?_)
 have⟨v70,p70,h71⟩:=bs h62
 refine st68.hdW (s:=14) 6 true (λ _=>(PV.root.box Z)) [10,11,12,13] λ cs69 hS69 st69=>?_
 refine st69.sqB (sc Z (xLw (sb:=14) (.head _) Z (hS69 Z) Z (zN Z) Z)<|sP 1 (r:=by exact sc Z (yE (l:=[.tmp 51,.tmp 52]) st69.ob.sub Z (.cons (Qx (sb:=14) st69.ob 6 (PV.root.box Z) (.head _) Z (Y4 Z (hS69 Z)) (tp Z) Z iI) (.cons (xq st69.ob.sub (tp Z)) .nil)) (Yz p70) jv)<|segC)) [1,2,3,4,54] [(10,4),(11,5),(12,2),(13,3),(14,6)] λ _ _ st72=>?_
 have st73:=st72.ncf (s:=14) 6 [10,11,12,13]
 refine st73.cs h71 (λ _ h74=>?_) (λ _ h75=>wp_skip (za (Kc (Kc ?_))))
 ·refine st73.sq1 [8] (λ _ _ st76=>wp_ret (zE ?_))
  exact st76.ret Z Z h74
 obtain⟨v78,p78,v79,p79,h81⟩:=bsB h75
 refine st73.hdW (s:=11) 5 true (λ _=>(PV.root.box Z)) [10,12,13,14] λ cs77 hS77 st77=>?_
 refine st77.drA (D:=[_,_,_,_,_]) zP [[(11,nS)],[(4,nS)],[(56,1)],[(55,0),(57,2),(11,nS)],[(58,3)]] [1,2,3,4,59] [(10,4),(11,5),(12,2),(13,3),(14,6)] (λ _ _ st82=>?_) (hs:=rc Z Z (xLw (sb:=11) (.head _) Z (hS77 Z) Z (zN Z) Z)<|rc Z Z (zr Z (tp Z))<|rc Z Z (zC (l:=[.tmp 56]) Z (.cons (tp Z) .nil) (FnN.fn<|XA p78))<|rc Z Z (yE (l:=[.tmp 55,.tmp 57]) st77.ob.sub Z (.cons (Qx (sb:=11) st77.ob 5 (PV.root.box Z) (.head _) Z (Y4 Z (hS77 Z)) (tp Z) Z iI) (.cons (xq st77.ob.sub (tp Z)) .nil)) (zaA p79) jv)<|rc Z Z (jk Z (tp Z))<|.nil)
 have st83:=st82.ncf (s:=11) 5 [10,12,13,14]
 refine za ?_
 refine st83.cs h81 (λ _ h84=>?_) (λ _ h85=>wp_skip (za (Kc ?_)))
 ·refine st83.sq1 [8] (λ _ _ st86=>wp_ret (zE ?_))
  exact st86.ret Z Z h84
 obtain⟨v87,p87,v88,p88,h90⟩:=bsB h85
 refine st83.sqB (sc Z (oM Z (tp Z))<|sc Z (oM Z (tp Z))<|sc Z (zC (l:=[.tmp 61]) Z (.cons (tp Z) .nil) ((Xy p87)).fn)<|sc Z (yE (l:=[.tmp 60,.tmp 62]) st83.ob.sub Z (.cons (lendN st83.ob 2 iI (tp Z)) (.cons (xq st83.ob.sub (tp Z)) .nil)) (zaB p88) jv)<|sc Z (jk Z (tp Z))<|.nil) [1,2,3,4,64] [(10,4),(11,5),(12,2),(13,3),(14,6)] λ _ _ st91=>?_
 refine st91.cs h90 (λ _ h92=>?_) (λ _ h93=>wp_skip (za (Kc ?_)))
 ·refine st91.sq1 [8] (λ _ _ st94=>wp_ret (zE ?_))
  exact st94.ret Z Z h92
 obtain⟨v95,p95,v96,p96,h98⟩:=bsB h93
 refine st91.sqB (sc Z (oM Z (tp Z))<|sc Z (oM Z (tp Z))<|sc Z (zC (l:=[.tmp 66]) Z (.cons (tp Z) .nil) ((Zy p95)).fn)<|sc Z (yE (l:=[.tmp 65,.tmp 67]) st91.ob.sub Z (.cons (lendN st91.ob 3 iI (tp Z)) (.cons (xq st91.ob.sub (tp Z)) .nil)) (WP p96) jv)<|sc Z (jk Z (tp Z))<|.nil) [1,2,3,4,69] [(10,4),(11,5),(12,2),(13,3),(14,6)] λ _ _ st99=>?_
 refine st99.cs h98 (λ _ h100=>?_) (λ _ h101=>wp_skip (za ?_))
 ·refine st99.sq1 [8] (λ _ _ st102=>wp_ret (zE ?_))
  exact st102.ret Z Z h100
 refine st99.sqA [1,2,3,4,15] [(10,4),(11,5),(12,2),(13,3),(14,6)] (λ _ _ st103=>Kc (Ka ?_))
 refine st103.hdW (s:=11) 5 true (λ _=>(PV.root.box Z)) [10,12,13,14] λ cs104 hS104 st104=>?_
 refine st104.segB 2 (sc Z (xLw (sb:=11) (.head _) Z (hS104 Z) Z (zN Z) Z)<|segC) [1,2,3,4,15,70,71] [(10,4),(11,5),(12,2),(13,3),(14,6)] λ _ _ st105=>?_
 have⟨v107,p107,h108⟩:=bs h101
 refine st105.cSF (l:=[.tmp 71]) 5 (st105.bkH (sb:=11) (PV.root.box Z) (.head _) Z (Y4 Z (hS104 Z)) Z iI) Z Z kN18 (st105.st.has 70 _ Z) (by simp) (.cons (tp Z) .nil) (zcQ p107) [1,2,3,4,15] Z [10,12,13,14] Z Z (by decide) λ _ _ _ _ st106=>?_
 have st109:=st106.gn
 refine st109.segA 1 [1,2,3,4,15] [(10,4),(12,2),(13,3),(14,6)] (λ _ _ st110=>Kb (za (Kc (Ka ?_))))
 refine st110.segA 2 [1,2,3,4,15,74] [(10,4),(13,3),(14,6),(73,2)] λ _ _ st111=>?_
 have⟨v113,p113,h114⟩:=bs h108
 refine st111.cSF (l:=[.tmp 74]) 2 (st111.bkN (s:=73) Z iI) Z Z kN19 Z (by simp) (.cons (tp Z) .nil) (YB p113) [1,2,3,4,15] Z [10,13,14] Z Z (by decide) λ _ _ _ _ st112=>?_
 have st115:=st112.gn
 refine st115.segA 1 [1,2,3,4,15] [(10,4),(13,3),(14,6)] (λ _ _ st116=>Kb (za (Kc (Ka ?_))))
 refine st116.segA 2 [1,2,3,4,15,77] [(10,4),(14,6),(76,3)] λ _ _ st117=>?_
 have⟨v119,p119,h120⟩:=bs h114
 refine st117.cSF (l:=[.tmp 77]) 3 (st117.bkN (s:=76) Z iI) Z Z kN20 Z (by simp) (.cons (tp Z) .nil) (zah p119) [1,2,3,4,15] Z [10,14] Z Z (by decide) λ _ _ _ _ st118=>?_
 have st121:=st118.gn
 refine st121.segA 1 [1,2,3,4,15] [(10,4),(14,6)] (λ _ _ st122=>Kb (za (Kc ?_)))
 have⟨v124,p124,h125⟩:=bs h120
 refine st122.hdW (s:=14) 6 (cmpI .lss v119.2 (0:Int) == false) (λ hg=>(PV.root.box Z)) [10] λ cs123 hS123 st123=>?_
 refine st123.sqB (sP 3 (r:=by exact sg Z Z (λ hg=>xLw (sb:=14) (.head _) hg (hS123 hg) Z (zN Z) Z)<|sP 1 (r:=by exact sg Z Z (λ hg=>yE (l:=[.tmp 82,.tmp 83]) st123.ob.sub Z (.cons (Qx (sb:=14) st123.ob 6 (PV.root.box Z) (.head _) hg (Y4 Z (hS123 hg)) (zp hg Z) Z iI) (.cons (xq st123.ob.sub (zp hg Z)) .nil)) (Yz (gh hg p124)) jv)<|segC))) [1,2,3,4,86] [(10,4),(14,6)] λ _ _ st126=>?_
 have st127:=st126.ncf (s:=14) 6 [10]
 refine st127.cs h125 (λ _ h128=>?_) (λ _ h129=>wp_skip (za ?_))
 ·refine st127.sq1 [8] (λ _ _ st130=>wp_ret (zE ?_))
  exact st130.ret Z Z h128
 refine st127.sqA [1,2,3,4,16] [(10,4),(14,6)] (λ _ _ st131=>Kc (Ka ?_))
 refine st131.hdW (s:=14) 6 true (λ _=>(PV.root.box Z)) [10] λ cs132 hS132 st132=>?_
 refine st132.segB 2 (sc Z (xLw (sb:=14) (.head _) Z (hS132 Z) Z (zN Z) Z)<|segC) [1,2,3,4,16,87,88] [(10,4),(14,6)] λ _ _ st133=>?_
 have⟨v135,p135,h136⟩:=bs h129
 refine st133.cSF (l:=[.tmp 88]) 6 (st133.bkH (sb:=14) (PV.root.box Z) (.head _) Z (Y4 Z (hS132 Z)) Z iI) Z Z kN21 (st133.st.has 87 _ Z) (by simp) (.cons (tp Z) .nil) (zbE p135) [1,2,3,4,16] Z [10] Z Z (by decide) λ _ _ _ _ st134=>?_
 have st137:=st134.gn
 refine st137.segA 1 [1,2,3,4,16] [(10,4),(14,6)] (λ _ _ st138=>Kb (za ?_))
 refine st138.sqA [1,2,3,4,16,17] [(10,4),(14,6)] λ _ _ st139=>?_
 have⟨v141,p141,h142⟩:=bs h136
 refine st139.hdW (s:=14) 6 true (λ _=>(PV.root.box Z)) [10] λ cs140 hS140 st140=>?_
 refine st140.sqB (sc Z (xLw (sb:=14) (.head _) Z (hS140 Z) Z (zN Z) Z)<|sP 1 (r:=by exact sc Z (yE (l:=[.tmp 90,.tmp 91]) st140.ob.sub Z (.cons (Qx (sb:=14) st140.ob 6 (PV.root.box Z) (.head _) Z (Y4 Z (hS140 Z)) (tp Z) Z iI) (.cons (xq st140.ob.sub (tp Z)) .nil)) (Xd p141) xa)<|segC)) [1,2,3,4,16,17] [(10,4),(14,6)] λ _ _ st143=>?_
 have st144:=st143.ncf (s:=14) 6 [10]
 refine Kc ?_
 refine st144.sqA [1,2,3,4,16,17,94] [(10,4),(14,6)] λ _ _ st145=>?_
 refine st145.cs h142 (λ _ h146=>?_) (λ _ h147=>wp_skip (za (Kc ?_)))
 ·refine st145.sq1 [8] (λ _ _ st148=>wp_ret (zE ?_))
  exact st148.ret Z Z h146
 refine st145.sqA [1,2,3,4,16,97] [(10,4),(14,6)] λ _ _ st149=>?_
 refine st149.cs h147 (λ _ h150=>?_) (λ _ h151=>wp_skip (za (Kc (Ka ?_))))
 ·refine st149.sq1 [8] (λ _ _ st152=>wp_ret (zE ?_))
  exact st152.ret Z Z h150
 obtain⟨v153,p153,v154,p154,v155,p155,v156,p156,h160⟩:=bsD h151
 refine st149.segB 8 (sP 1 (r:=by exact sc Z (oK (FnN.fn<|XA p153))<|sP 1 (r:=by exact sc Z (zC (l:=[.tmp 100]) Z (.cons (tp Z) .nil) ((Xy p154)).fn)<|sP 1 (r:=by exact sc Z (zC (l:=[.tmp 102]) Z (.cons (tp Z) .nil) ((Zy p155)).fn)<|sP 1 (r:=by exact sc Z (oK (FnN.fn<|XO hR p156))<|.nil))))) [16,105] [(10,4),(14,6)] λ _ _ st161=>?_
 refine st161.alA 7 QY [16,105] [10,14] λ b163 _ _ _ st163=>?_
 have st164:=st163.gn
 refine st164.stA 18 7 FldS.id (tp Z) [16] [10,14] (λ _ _ st166=>Kb (za (Kc ?_)))
 obtain⟨v167,p167,h168⟩:=bsW h160 Yz
 refine st166.sqC [16,109] [(14,6)] λ _ _ st169=>?_
 refine st169.cs h168 (λ _ h170=>?_) (λ _ h171=>wp_skip (za ?_))
 ·refine st169.sq1 [8] (λ _ _ st172=>wp_ret (zE ?_))
  exact st172.ret Z Z h170
 refine st169.sqA [16,17] [(14,6)] λ _ _ st173=>?_
 have⟨v175,p175,h176⟩:=bs h171
 refine st173.hdW (s:=14) 6 true (λ _=>(PV.root.box Z)) [] λ cs174 hS174 st174=>?_
 refine st174.sq2 (sc Z (xLw (sb:=14) (.head _) Z (hS174 Z) Z (zN Z) Z)<|sP 1 (r:=by exact sc Z (yE (l:=[.tmp 110,.tmp 111]) st174.ob.sub Z (.cons (Qx (sb:=14) st174.ob 6 (PV.root.box Z) (.head _) Z (Y4 Z (hS174 Z)) (tp Z) Z iI) (.cons (xq st174.ob.sub (tp Z)) .nil)) (Xd p175) xa)<|segC)) [16,17] (λ _ _ st177=>Kc ?_)
 refine st177.sq1 [16,17,114] λ _ _ st178=>?_
 refine st178.cs h176 (λ _ h179=>?_) (λ _ h180=>wp_skip (za (Kc ?_)))
 ·refine st178.sq1 [8] (λ _ _ st181=>wp_ret (zE ?_))
  exact st181.ret Z Z h179
 refine st178.sq1 [117] λ _ _ st182=>?_
 refine st182.cs h180 (λ _ h183=>?_) (λ _ h184=>wp_skip (za ?_))
 ·refine st182.sq1 [8] (λ _ _ st185=>wp_ret (zE ?_))
  exact st185.ret Z Z h183
 refine st182.sq1 [8] (λ _ _ st186=>wp_ret ?_)
 exact st186.ret Z Z h184
theorem sm_tree(h:qa t<=1048576):YI t:=by
 have h1:qa t=Z0 t.files+0:=rfl
 have h2:Z0 t.files=t.files.length+sumL q5 t.files:=rfl
 refine⟨by omega,λ f hf=>?_⟩
 have h3:=Wz (f:=q5) hf
 have h4:q5 f=f.pkg.l.length+(f.name.l.length+(Yv f.body+(0))):=rfl
 have h5:Yv f.body=f.body.length+sumL JV f.body:=rfl
 refine⟨by omega,by omega,by omega,λ s hs=>?_⟩
 have h6:=Wz (f:=JV) hs
 have h7:JV s=s.module.l.length+(s.name.l.length+(0)):=rfl
 exact⟨by omega,by omega⟩
theorem runV_sm(hp:p.length<=1048576):ResSm (runV t p l f):=by
 unfold runV
 cases h:okR t p l f with
 | false=>exact⟨Nat.zero_le _,Nat.zero_le _,Nat.zero_le _,Nat.zero_le _,λ m h=>by cases h⟩
 |true=>
  rw[Ke Z]
  obtain⟨_,h2,h3,h4⟩:=cmdsR_ok hp h
  obtain⟨_,_,_,hl,_⟩:=zbR h
  have sm:=RSt.small h4
  exact⟨by show(Yw t p l f).2.length<=_;omega,sm.out,sm.log,sm.mods,λ m hm=>⟨h2.inv.roots m hm,h2.inv.few hm⟩⟩
theorem zcs:wQ R t p l f=YK R t p l f:=rfl
theorem cmds_sho(h:wo l<=1048576):∀ c∈l,sho c.name:=λ c hc=>by
 have:=Wz (f:=Xq) hc
 have e:Xq c=c.name.l.length+0:=rfl
 unfold wo at h
 unfold sho
 omega
theorem za4(ht:Okd t)(hc:Okd l):wu (scc qb) t p l f=some true:=by
 unfold wu
 cases hp:cmpI .gtr (p.length:Int) 1048576 with
 | true=>rw[Ke Z]
 |false=>
  have hp':p.length<=1048576:=by have:=of_decide_eq_false hp;omega
  rw[Kf (by decide),szTree_eq ht (by omega) (by omega),obS]
  cases hs:cmpI .lss (szR (qa t) 1048576) 0 with
  | true=>rw[Ke Z]
  |false=>
   have hs':¬ szR (qa t) 1048576<0:=of_decide_eq_false hs
   obtain⟨h1,h1'⟩:=szR_nn (t:=qa t) (left:=1048576) (by omega)
   rw[Kf (by decide),szCommandS_eq hc (by omega) (by omega),obS]
   cases hs2:cmpI .lss (szR (wo l) (szR (qa t) 1048576)) 0 with
   | true=>rw[Ke Z]
   |false=>
    have hs2':¬ szR (wo l) (szR (qa t) 1048576)<0:=of_decide_eq_false hs2
    obtain⟨h3,_⟩:=szR_nn (t:=wo l) (left:=szR (qa t) 1048576) (by omega)
    have h2:qa t<=1048576:=by omega
    have h4:wo l<=1048576:=by omega
    have hsm:=sm_tree h2
    have hlen:l.length<=1048576:=zdp h4
    have hn:=cmds_sho h4
    have e1:=toTree_eq h2
    have e2:jt p=some p:=toIntS_eq (by unfold totIntS;exact hp')
    have e3:=toCommandS_eq h4
    have e4:wB (scc qb) t p l f=some (runV t p l f):=zai hsm hp' hlen hn f
    have e5:wQ (scc qb) t p l f=some (runV t p l f):=(zcs).trans (zdx hsm hp' hlen hn f)
    have hr:=runV_sm (t:=t) (l:=l) (f:=f) hp'
    have e6:xK (runV t p l f) (runV t p l f)=some true:=zaF hr
    have e7:Zs t t=some true:=by rw[eqTree_eq (by omega)];simp
    have e8:wK p p=some true:=by rw[zaa (by omega)];simp
    have e9:wZ l l=some true:=by rw[eqCommandS_eq (by omega)];simp
    obtain⟨y1,k1,m1,a1,b1⟩:=markTree_ok (x:=t) (k:=1) h2 (by omega) (by omega)
    obtain⟨y2,k2,m2,a2,b2⟩:=WR (x:=p) (k:=k1) (by omega) (by omega) (by omega)
    obtain⟨y3,k3,m3,a3,b3⟩:=zcS (x:=l) (k:=k2) (by omega) (by omega) (by omega)
    have hk:cmpI .lss k3 0=false:=by simp[cmpI];omega
    rw[Kf (by decide),e1,obS,e2,obS,e3,obS,e4,obS,obS,obS,obS,e5,obS,e6,obS,Kf (by decide),obS,e7,obS,Kf (by decide),obS,e8,obS,Kf (by decide),obS,e9,obS,Kf (by decide),m1,obS]
    simp only
    rw[m2,obS]
    simp only
    rw[m3,obS]
    simp only
    rw[hk,show((false == false):Bool)=true from Z,YC,obS,Kf (by decide)]
    exact tail_res hr e5
theorem JA(t:Tree)(p:List Int)(l:List GCmd)(f:Int):Fn prog 3 [dt t,dt p,dt l,dt f] (dt true):=.okd (x:=t) (by simp) λ ht=>.okd (x:=l) (by simp) λ hc=>WH (W6 qb) (za4 ht hc)
end Go.Proofs.YtbbfcjifihknnaaGreatDoor
