import Derived.Test.YtmenakmafojpaaaGreatDoorRB
import Derived.Test.YtmenakmafojpaaaGreatDoorRO
import Derived.Test.YtmenakmafojpaaaGreatDoorRKc
import Derived.Test.YtmenakmafojpaaaGreatDoorRK
import Derived.Test.YtmenakmafojpaaaGreatDoorRQ
namespace Go.Proofs.YtmenakmafojpaaaGreatDoor
open Go.RowKit
attribute [local irreducible] OpRel OpdR
set_option maxRecDepth 10000
set_option maxHeartbeats 1600000
theorem kR47:EqV Tryz.prog 3 47 GAttr/\seB Tryz.prog 47 [(9,0),(45,1)]=true/\Rep.agg GAttr=true/\3<=10000:=⟨(EqV.struct (γ:=GAttr) (ls:=[(9,0),(45,1)]) (λ x=>(x.name,x.value)) (λ x y h=>by cases x;cases y;cases h;rfl) (λ h=>h) rfl (by kernel_rfl) (EqF.cons (by kernel_rfl) ((EqV.str (by kernel_rfl)).mono 1) (EqF.last (by kernel_rfl) (EqV.struct (γ:=GVal) (ls:=[(3,0),(3,1)]) (λ x=>(x.kind,x.num)) (λ x y h=>by cases x;cases y;cases h;rfl) (λ h=>h) rfl (by kernel_rfl) (EqF.cons (by kernel_rfl) (EqV.int (by kernel_rfl)) (EqF.last (by kernel_rfl) (EqV.int (by kernel_rfl)))))))),by kernel_rfl,rfl,by decide⟩
theorem kN22:fnB Tryz.prog 22=true:=by kernel_rfl
theorem kN24:fnB Tryz.prog 24=true:=by kernel_rfl
def wR(x0:List GAttr)(x1:List GAttr)(s8:Int):Option (Int⊕(Unit⊕Bool)):=
if(cmpI .lss s8 (x0.length:Int))=true then((atI x0 s8).bind λ v13=>
(atI x1 s8).bind λ v14=>
if(decide (v13≠v14))=true then(some (.inr (.inr false)))
else((i64 (s8+(1:Int))).bind λ v23=>
some (.inl v23)))
else(some (.inr (.inl ())))
def xo(x0:List GAttr)(x1:List GAttr):Option Bool:=
if(cmpI .neq (x0.length:Int) (x1.length:Int))=true then(some false)
else(Option.bind (α:=Unit⊕Bool) (zO (λ s8=>wR x0 x1 s8) (0:Int)) (Sum.elim (λ _b6=>
some true) some))
theorem XV{x0:List GAttr}{x1:List GAttr}{r:Bool}(h:xo x0 x1=some r):Fn Tryz.prog 23 [dt x0,dt x1] (dt r):=by
 unfold xo at h
 refine fnx (fn:=Tryz.f23) 0 Tryz.func23 rfl (oD rfl) rfl (λ M w0 _ st0=>?_)
 refine st0.sq1 [0,1] (λ _ _ st1=>wp_seq ?_)
 refine st1.sq1 [0,1,10] (λ _ _ st2=>?_)
 refine st2.cs rfl h (λ _ h3=>?_) (λ _ h4=>wp_skip (za ?_))
 ·
  refine st2.sq1 [4] (λ _ _ st5=>wp_ret (zd ?_))
  exact st5.ret rfl rfl h3
 obtain⟨o6,p6,k6⟩:=bs h4
 refine zk (λ a w=>∃ b6,o6=.inl b6/\Sx (Frm.of w0) 26 M M [] [] [] a w) ?_ ?_
 ·
  refine st2.sq1 [0,1,5] (λ _ _ st7=>wp_block ?_)
  refine zF p6 (λ s8 a w=>Sx (Frm.of w0) 26 M M [] [(0,dt x0),(1,dt x1),(5,dt s8)] [] a w) (st7.sel0 [0,1,5] rfl) ?_
  rintro s8 z8 a8 w8 st8 hs8 hx8
  have h9:wR x0 x1 s8=some z8:=hs8
  unfold wR at h9
  refine wp_seq ?_
  refine st8.sq1 [0,1,5,14] (λ _ _ st10=>?_)
  refine st10.cs rfl h9 (λ _ h11=>wp_skip (za (wp_seq (wp_block (wp_seq ?_))))) (λ _ h12=>wp_exit (zj (zj (zA ?_))))
  ·
   obtain⟨v13,p13,h15⟩:=bs h11
   obtain⟨v14,p14,h16⟩:=bs h15
   refine st10.dr (D:=[_,_,_,_,_,_,_,_,_]) zE [[],[],[0,1],[0,1,2],[],[],[4,5],[4,5,6],[0,1,2,3,4,5,6,7]] [[(0,none)],[(5,none)],[(17,some 0),(18,some 1)],[(19,some 2)],[(1,none)],[(5,none)],[(21,some 4),(22,some 5)],[(23,some 6)],[(20,some 3),(24,some 7)]] (by decide +kernel) (
    rc rfl rfl (oM rfl (tp rfl))<|rc rfl rfl (oM rfl (tp rfl))<|rc rfl rfl (xIdx rfl kS39 (tp rfl) (tp rfl) p13)<|rc rfl rfl (zm rfl kT47 (tp rfl))<|rc rfl rfl (oM rfl (tp rfl))<|rc rfl rfl (oM rfl (tp rfl))<|rc rfl rfl (xIdx rfl kS39 (tp rfl) (tp rfl) p14)<|rc rfl rfl (zm rfl kT47 (tp rfl))<|rc rfl rfl (op_neR rfl kR47 (tp rfl) (tp rfl))<|.nil) [0,1,5,25] rfl [] rfl trivial (λ _ _ st17=>?_)
   refine za ?_
   refine st17.cs rfl h16 (λ _ h18=>?_) (λ _ h19=>wp_skip (zf (za ?_)))
   ·
    refine st17.sq1 [4] (λ _ _ st20=>wp_ret (zn (zd (zd (zn (zd ?_))))))
    have h21:=lo h18 hx8
    have h22:=jo h21 k6
    exact st20.ret rfl rfl h22
   obtain⟨v23,p23,h24⟩:=bs h19
   refine st17.rg1 [0,1,5] (λ _ _ st25=>za ?_)
   exact⟨_,(Option.some.inj h24).symm,st25.sel0 [0,1,5] rfl⟩
  refine za ?_
  have h26:=lo h12 hx8
  exact⟨_,(Option.some.inj h26).symm,st10.sel0 [] rfl⟩
 rintro a6 w6 ⟨b6,rfl,st6⟩
 have h27:=jn k6
 refine st6.sq1 [4] (λ _ _ st28=>wp_ret ?_)
 exact st28.ret rfl rfl h27
def wn(_R:Rec)(v14:List GAttr)(s40:Int)(s47:Int):Option (Int⊕(Unit⊕(Int⊕(Unit⊕Bool)))):=
if(cmpI .lss s47 s40)=true then((atI v14 s47).bind λ v52=>
(atI v14 s40).bind λ v53=>
if(decide (v52.name=v53.name))=true then(some (.inr (.inr (.inr (.inr false)))))
else((i64 (s47+(1:Int))).bind λ v64=>
some (.inl v64)))
else(some (.inr (.inl ())))
def xk(R:Rec)(v14:List GAttr)(s40:Int):Option (Int⊕(Unit⊕Bool)):=
if(cmpI .lss s40 (v14.length:Int))=true then(Option.bind (α:=Unit⊕(Int⊕(Unit⊕Bool))) (zO (λ s47=>wn R v14 s40 s47) (0:Int)) (Sum.elim (λ _b45=>
(i64 (s40+(1:Int))).bind λ v69=>
some (.inl v69)) some))
else(some (.inr (.inl ())))
def wo(_R:Rec)(v14:List GAttr)(v35:Int×(List Str))(s76:Int)(s91:Bool×Int):Option ((Bool×Int)⊕Bool):=
if(cmpI .lss s91.2 (v14.length:Int))=true then((gO (s91.1 == false) (atI v14 s91.2)).bind λ v96=>
(gO (s91.1 == false) (atI v35.2 s76)).bind λ v97=>
(gO (s91.1 == false) (wH v97)).bind λ v98=>
(i64 (s91.2+(1:Int))).bind λ v103=>
some (.inl ((s91.1||decide (v96.name=v98)),v103)))
else(some (.inr s91.1))
def xl(R:Rec)(v6:Tree×(List Int)×Str)(v14:List GAttr)(v35:Int×(List Str))(s76:Int):Option (Int⊕(Unit⊕Bool)):=
if(cmpI .lss s76 (v35.2.length:Int))=true then(Option.bind (α:=Unit⊕(Int⊕(Unit⊕Bool))) ((atI v35.2 s76).bind λ v82=>
(yu v82).bind λ v83=>
(gO (decide (v83≠v6.2.2) == false) (wP v35.2 v6.2.2)).bind λ v84=>
Option.bind (α:=Bool) (zO (λ s91=>wo R v14 v35 s76 s91) ((decide (v83≠v6.2.2)||(!v84)),(0:Int))) λ o89=>
if(!o89)=true then(some (.inr (.inr (.inr false))))
else(some (.inl ()))) (Sum.elim (λ _b81=>
(i64 (s76+(1:Int))).bind λ v116=>
some (.inl v116)) some))
else(some (.inr (.inl ())))
def ZC(R:Rec)(x0:List UInt8):Option Bool:=
if(cmpI .gtr (x0.length:Int) (1048576:Int))=true then(some true)
else((jz x0).bind λ v6=>
(Zf R v6.1 v6.2.1 v6.2.2).bind λ v14=>
(qw R v6.1 v6.2.1 v6.2.2).bind λ v17=>
(xo v14 v17).bind λ v18=>
(gO ((!v18) == false) (xJ v6.1)).bind λ v19=>
(gO (((!v18)||(!v19)) == false) (xK v6.2.1)).bind λ v20=>
(gO ((((!v18)||(!v19))||(!v20)) == false) (zU v6.2.2)).bind λ v21=>
if((((!v18)||(!v19))||(!v20))||(!v21))=true then((qw R v6.1 v6.2.1 v6.2.2).bind λ v30=>
(xo v14 v30).bind λ v31=>
some v31)
else((xN R v6.1 v6.2.1 v6.2.2).bind λ v35=>
Option.bind (α:=Unit⊕Bool) (zO (λ s40=>xk R v14 s40) (0:Int)) (Sum.elim (λ _b38=>
Option.bind (α:=Unit⊕Bool) (zO (λ s76=>xl R v6 v14 v35 s76) (0:Int)) (Sum.elim (λ _b74=>
some true) some)) some)))
theorem zaR{R:Rec}(hR:R.ok){x0:List UInt8}{r:Bool}(h:ZC R x0=some r):Fn Tryz.prog 4 [dt x0] (dt r):=by
 unfold ZC at h
 refine fnx (fn:=Tryz.f4) 1 Tryz.func4 rfl (oD rfl) rfl (λ M w0 _ st0=>?_)
 refine st0.sq1 [0] (λ _ _ st1=>wp_seq ?_)
 refine st1.sq1 [0,16] (λ _ _ st2=>?_)
 refine st2.cs rfl h (λ _ h3=>?_) (λ _ h4=>wp_skip (za (wp_seq (wp_region_list ?_))))
 ·
  refine st2.sq1 [2] (λ _ _ st5=>wp_ret (zd ?_))
  exact st5.ret rfl rfl h3
 obtain⟨v6,p6,h7⟩:=bsW h4 Qn
 refine st2.segA 6 [20,21,22] [] (λ _ _ st8=>?_)
 refine st8.alloc 0 rfl rfl kZ25 Xs (by simp) [20,21,22] rfl [] rfl rfl (λ b10 _ _ _ st10=>?_)
 refine st10.store (sb:=3) 0 FldS.id rfl rfl rfl kT25 rfl rfl (tp rfl) rfl [21,22] rfl [] rfl rfl (λ _ _ st12=>?_)
 refine st12.segA 2 [4,5] [(3,0)] (λ _ _ st13=>wpList_nil (za ?_))
 obtain⟨v14,p14,h15⟩:=bs h7
 refine st13.sqB (sP 3 (r:=by exact sc rfl (zH (l:=[.tmp 23,.tmp 24,.tmp 25]) rfl kN22 (.cons (tp rfl) (.cons (tp rfl) (.cons (tp rfl) .nil))) ((zbu hR p14)).fn)<|segC)) [4,5,6] [(3,0)] (λ _ _ st16=>wp_seq ?_)
 obtain⟨v17,p17,h22⟩:=bs h15
 obtain⟨v18,p18,h23⟩:=bs h22
 obtain⟨v19,p19,h24⟩:=bs h23
 obtain⟨v20,p20,h25⟩:=bs h24
 obtain⟨v21,p21,h26⟩:=bs h25
 refine st16.sqB (sP 4 (r:=by exact sc rfl (zH (l:=[.tmp 28,.tmp 29,.tmp 30]) rfl kN24 (.cons (tp rfl) (.cons (tp rfl) (.cons (tp rfl) .nil))) ((Jk hR p17)).fn)<|sc rfl (oK (XV p18))<|sP 3 (r:=by exact sg rfl rfl (λ hg=>oK (Zx (gh hg p19)))<|sP 1 (r:=by exact sc rfl (yt rfl (tp rfl) (zb rfl))<|sP 2 (r:=by exact sg rfl rfl (λ hg=>oK (Zy (gh hg p20)))<|sP 1 (r:=by exact sc rfl (yt rfl (tp rfl) (zb rfl))<|sP 2 (r:=by exact sg rfl rfl (λ hg=>oK (yk (gh hg p21)))<|sP 1 (r:=by exact sc rfl (yt rfl (tp rfl) (zb rfl))<|.nil)))))))) [4,5,6,48] [(3,0)] (λ _ _ st27=>?_)
 refine st27.cs rfl h26 (λ _ h28=>?_) (λ _ h29=>wp_skip (za ?_))
 ·
  obtain⟨v30,p30,h32⟩:=bs h28
  obtain⟨v31,p31,h33⟩:=bs h32
  refine st27.sq2 (sP 4 (r:=by exact sc rfl (zH (l:=[.tmp 50,.tmp 51,.tmp 52]) rfl kN24 (.cons (tp rfl) (.cons (tp rfl) (.cons (tp rfl) .nil))) ((Jk hR p30)).fn)<|sc rfl (oK (XV p31))<|segC)) [2] (λ _ _ st34=>wp_ret (zd ?_))
  exact st34.ret rfl rfl h33
 obtain⟨v35,p35,h36⟩:=bs h29
 refine st27.sq2 (sP 3 (r:=by exact sc rfl (oK (FnN.fn2<|Yx hR p35))<|segC)) [5,6,8] (λ _ _ st37=>?_)
 obtain⟨o38,p38,k38⟩:=bs h36
 refine zk (λ a w=>∃ b38,o38=.inl b38/\(∃ M1 q38_0,Sx (Frm.of w0) 125 M M1 [oneB q38_0] [(5,dt v6.2.2),(6,dt v14),(8,dt v35.2)] [] a w)) ?_ ?_
 ·
  refine st37.sq1 [5,6,8,9] (λ _ _ st39=>wp_block ?_)
  refine zF p38 (λ s40 a w=>∃ M1 q40_0,Sx (Frm.of w0) 125 M M1 [oneB q40_0] [(5,dt v6.2.2),(6,dt v14),(8,dt v35.2),(9,dt s40)] [] a w) fx ?_
  rintro s40 z40 a40 w40 ⟨M40,q40_0,st40⟩ hs40 hx40
  have h41:xk R v14 s40=some z40:=hs40
  unfold xk at h41
  refine wp_seq ?_
  refine st40.sq1 [5,6,8,9,65] (λ _ _ st42=>?_)
  refine st42.cs rfl h41 (λ _ h43=>wp_skip (za ?_)) (λ _ h44=>wp_exit (zj (zj (zA ?_))))
  ·
   obtain⟨o45,p45,k45⟩:=bs h43
   refine zk (λ a w=>∃ b45,o45=.inl b45/\(∃ M1 q45_0,Sx (Frm.of w0) 125 M M1 [oneB q45_0] [(5,dt v6.2.2),(6,dt v14),(8,dt v35.2),(9,dt s40)] [] a w)) ?_ ?_
   ·
    refine wp_block ?_
    refine st42.sq1 [5,6,8,9,10] (λ _ _ st46=>wp_block ?_)
    refine zF p45 (λ s47 a w=>∃ M1 q47_0,Sx (Frm.of w0) 125 M M1 [oneB q47_0] [(5,dt v6.2.2),(6,dt v14),(8,dt v35.2),(9,dt s40),(10,dt s47)] [] a w) fx ?_
    rintro s47 z47 a47 w47 ⟨M47,q47_0,st47⟩ hs47 hx47
    have h48:wn R v14 s40 s47=some z47:=hs47
    unfold wn at h48
    refine wp_seq ?_
    refine st47.sq1 [5,6,8,9,10,70] (λ _ _ st49=>?_)
    refine st49.cs rfl h48 (λ _ h50=>wp_skip (za (wp_seq (wp_block (wp_seq ?_))))) (λ _ h51=>wp_exit (zj (zj (zA ?_))))
    ·
     obtain⟨v52,p52,h54⟩:=bs h50
     obtain⟨v53,p53,h55⟩:=bs h54
     refine st49.dr (D:=[_,_,_,_,_,_,_,_,_,_,_]) zE [[],[],[0,1],[0,1,2],[0,1,2,3],[],[],[5,6],[5,6,7],[5,6,7,8],[0,1,2,3,4,5,6,7,8,9]] [[(6,none)],[(10,none)],[(73,some 0),(74,some 1)],[(75,some 2)],[(76,some 3)],[(6,none)],[(9,none)],[(78,some 5),(79,some 6)],[(80,some 7)],[(81,some 8)],[(77,some 4),(82,some 9)]] (by decide +kernel) (
      rc rfl rfl (oM rfl (tp rfl))<|rc rfl rfl (oM rfl (tp rfl))<|rc rfl rfl (xIdx rfl kS39 (tp rfl) (tp rfl) p52)<|rc rfl rfl (zv GAttr.fld0 rfl kF47_0 (tp rfl))<|rc rfl rfl (zm rfl kT9 (tp rfl))<|rc rfl rfl (oM rfl (tp rfl))<|rc rfl rfl (oM rfl (tp rfl))<|rc rfl rfl (xIdx rfl kS39 (tp rfl) (tp rfl) p53)<|rc rfl rfl (zv GAttr.fld0 rfl kF47_0 (tp rfl))<|rc rfl rfl (zm rfl kT9 (tp rfl))<|rc rfl rfl (jF rfl (tp rfl) (tp rfl))<|.nil) [5,6,8,9,10,83] rfl [] rfl trivial (λ _ _ st56=>?_)
     refine za ?_
     refine st56.cs rfl h55 (λ _ h57=>?_) (λ _ h58=>wp_skip (zf (za ?_)))
     ·
      refine st56.sq1 [2] (λ _ _ st59=>wp_ret (zn (zd (zd (zn (zn (zd (zd (zn (zd ?_))))))))))
      have h60:=lo h57 hx47
      have h61:=jo h60 k45
      have h62:=lo h61 hx40
      have h63:=jo h62 k38
      exact st59.ret rfl rfl h63
     obtain⟨v64,p64,h65⟩:=bs h58
     refine st56.rg1 [5,6,8,9,10] (λ _ _ st66=>za ?_)
     exact fl h65
    refine zf (za ?_)
    have h67:=lo h51 hx47
    exact fl h67
   rintro a45 w45 ⟨b45,rfl,⟨M45,q45_0,st45⟩⟩
   have h68:=jn k45
   obtain⟨v69,p69,h70⟩:=bs h68
   refine st45.rg1 [5,6,8,9] (λ _ _ st71=>za ?_)
   exact fl h70
  refine za ?_
  have h72:=lo h44 hx40
  exact fl h72
 rintro a38 w38 ⟨b38,rfl,⟨M38,q38_0,st38⟩⟩
 have h73:=jn k38
 obtain⟨o74,p74,k74⟩:=bs h73
 refine zk (λ a w=>∃ b74,o74=.inl b74/\(∃ M1 q74_0,Sx (Frm.of w0) 125 M M1 [oneB q74_0] [] [] a w)) ?_ ?_
 ·
  refine st38.sq1 [5,6,8,11] (λ _ _ st75=>wp_block ?_)
  refine zF p74 (λ s76 a w=>∃ M1 q76_0,Sx (Frm.of w0) 125 M M1 [oneB q76_0] [(5,dt v6.2.2),(6,dt v14),(8,dt v35.2),(11,dt s76)] [] a w) fx ?_
  rintro s76 z76 a76 w76 ⟨M76,q76_0,st76⟩ hs76 hx76
  have h77:xl R v6 v14 v35 s76=some z76:=hs76
  unfold xl at h77
  refine wp_seq ?_
  refine st76.sq1 [5,6,8,11,87] (λ _ _ st78=>?_)
  refine st78.cs rfl h77 (λ _ h79=>wp_skip (za ?_)) (λ _ h80=>wp_exit (zj (zj (zA ?_))))
  ·
   obtain⟨o81,p81,k81⟩:=bs h79
   refine zk (λ a w=>∃ b81,o81=.inl b81/\(∃ M1 q81_0,Sx (Frm.of w0) 125 M M1 [oneB q81_0] [(5,dt v6.2.2),(6,dt v14),(8,dt v35.2),(11,dt s76)] [] a w)) ?_ ?_
   ·
    refine wp_block ?_
    obtain⟨v82,p82,h85⟩:=bs p81
    obtain⟨v83,p83,h86⟩:=bs h85
    obtain⟨v84,p84,h87⟩:=bs h86
    refine st78.sq2 (sP 4 (r:=by exact sc rfl (oK (ja p83))<|sP 5 (r:=by exact sg rfl rfl (λ hg=>oK (Xy (gh hg p84)))<|sP 1 (r:=by exact sc rfl (yt rfl (tp rfl) (zb rfl))<|segC)))) [5,6,8,11,12] (λ _ _ st88=>?_)
    obtain⟨o89,p89,k89⟩:=bs h87
    refine zk (λ a w=>∃ M1 q89_0,Sx (Frm.of w0) 125 M M1 [oneB q89_0] [(5,dt v6.2.2),(6,dt v14),(8,dt v35.2),(11,dt s76),(12,dt o89)] [] a w) ?_ ?_
    ·
     refine st88.sq1 [5,6,8,11,12,13] (λ _ _ st90=>wp_block ?_)
     refine zF p89 (λ s91 a w=>∃ M1 q91_0,Sx (Frm.of w0) 125 M M1 [oneB q91_0] [(5,dt v6.2.2),(6,dt v14),(8,dt v35.2),(11,dt s76),(12,dt s91.1),(13,dt s91.2)] [] a w) fx ?_
     rintro s91 z91 a91 w91 ⟨M91,q91_0,st91⟩ hs91 hx91
     have h92:wo R v14 v35 s76 s91=some z91:=hs91
     unfold wo at h92
     refine wp_seq ?_
     refine st91.sq1 [5,6,8,11,12,13,106] (λ _ _ st93=>?_)
     refine st93.cs rfl h92 (λ _ h94=>wp_skip (za (wp_seq (wp_block ?_)))) (λ _ h95=>wp_exit (zj (zj (zA ?_))))
     ·
      obtain⟨v96,p96,h99⟩:=bs h94
      obtain⟨v97,p97,h100⟩:=bs h99
      obtain⟨v98,p98,h101⟩:=bs h100
      refine st93.dr (D:=[_,_,_,_,_,_,_,_,_,_,_,_,_,_,_]) zE [[],[0],[0,1],[0,1],[0,1,2,3],[0,1,2,3,4],[0,1,2,3,4,5],[0,1],[0,1],[0,1,7,8],[0,1,7,8,9],[0,1,7,8,9,10],[0,1,2,3,4,5,6,7,8,9,10,11],[0,1,2,3,4,5,6,7,8,9,10,11,12],[0,1,2,3,4,5,6,7,8,9,10,11,12,13]] [[(12,none)],[(109,some 0)],[(6,none),(110,some 1)],[(13,none),(110,some 1)],[(111,some 2),(112,some 3),(110,some 1)],[(113,some 4),(110,some 1)],[(114,some 5),(110,some 1)],[(8,none),(110,some 1)],[(11,none),(110,some 1)],[(116,some 7),(117,some 8),(110,some 1)],[(118,some 9),(110,some 1)],[(119,some 10),(110,some 1)],[(115,some 6),(120,some 11),(110,some 1)],[(110,some 1),(121,some 12)],[(122,some 13)]] (by decide +kernel) (
       rc rfl rfl (oM rfl (tp rfl))<|rc rfl rfl (oM rfl (tp rfl))<|rg rfl rfl rfl (λ hg=>oM rfl (tp rfl))<|rg rfl rfl rfl (λ hg=>oM rfl (tp rfl))<|rg rfl rfl rfl (λ hg=>xIdx rfl kS39 (zg hg rfl) (zg hg rfl) (gh hg p96))<|rg rfl rfl rfl (λ hg=>zv GAttr.fld0 rfl kF47_0 (zg hg rfl))<|rg rfl rfl rfl (λ hg=>zm rfl kT9 (zg hg rfl))<|rg rfl rfl rfl (λ hg=>oM rfl (tp rfl))<|rg rfl rfl rfl (λ hg=>oM rfl (tp rfl))<|rg rfl rfl rfl (λ hg=>xIdx rfl kS29 (zg hg rfl) (zg hg rfl) (gh hg p97))<|rg rfl rfl rfl (λ hg=>zm rfl kT9 (zg hg rfl))<|rg rfl rfl rfl (λ hg=>zH (l:=[.tmp 119]) rfl kN27 (.cons (zg hg rfl) .nil) (X1 (gh hg p98)))<|rg rfl rfl rfl (λ hg=>jF rfl (zg hg rfl) (zg hg rfl))<|rc rfl rfl (yt rfl (tp rfl) (zb rfl))<|rc rfl rfl (oA rfl (tp rfl))<|.nil) [5,6,8,11,12,13] rfl [] rfl trivial (λ _ _ st102=>?_)
      refine zf (za ?_)
      obtain⟨v103,p103,h104⟩:=bs h101
      refine st102.rg1 [5,6,8,11,12,13] (λ _ _ st105=>za ?_)
      exact fl h104
     refine za ?_
     have h106:=lo h95 hx91
     cases h106
     exact fx
    rintro a89 w89 ⟨M89,q89_0,st89⟩
    have h107:=k89
    refine st89.sq1 [5,6,8,11,124] (λ _ _ st108=>?_)
    refine st108.cs rfl h107 (λ _ h109=>?_) (λ _ h110=>wp_skip (zf (za ?_)))
    ·
     refine st108.sq1 [2] (λ _ _ st111=>wp_ret (zn (zd (zd (zn (zd ?_))))))
     have h112:=jo h109 k81
     have h113:=lo h112 hx76
     have h114:=jo h113 k74
     exact st111.ret rfl rfl h114
    exact fl h110
   rintro a81 w81 ⟨b81,rfl,⟨M81,q81_0,st81⟩⟩
   have h115:=jn k81
   obtain⟨v116,p116,h117⟩:=bs h115
   refine st81.rg1 [5,6,8,11] (λ _ _ st118=>za ?_)
   exact fl h117
  refine za ?_
  have h119:=lo h80 hx76
  exact fl h119
 rintro a74 w74 ⟨b74,rfl,⟨M74,q74_0,st74⟩⟩
 have h120:=jn k74
 refine st74.sq1 [2] (λ _ _ st121=>wp_ret ?_)
 exact st121.ret rfl rfl h120
open Go.RowKit
theorem equalAttrs_eq{x y:List GAttr}(h:x.length<=288230376151711744):xo x y=some (decide (x=y)):=by
 unfold xo
 refine eqS_list (λ k hk hk2=>?_) ?_ (by omega)
 ·
  unfold wR
  simp only[lss_at hk,if_true,atI_at hk,atI_at hk2,obS,zW (show k<4611686018427387904 by omega)]
  by_cases e:x[k]=y[k] <;> simp[e]
 ·
  unfold wR
  rw[lss_end];rfl
variable{t:Tree}{path:List Int}{s:Str}
theorem attrsV_apart(hp:path.length<=1048576):((xU t path s).map (·.name)).Nodup:=by
 unfold xU
 split
 ·
  rename_i h
  obtain⟨hv,_,hs⟩:=j0 h
  obtain⟨_,h1,_⟩:=Y5 hv hp hs
  split
  ·
   simp
  ·
   exact(h1.inv.attrs _).2
 ·
  simp
theorem attrsV_told(hp:path.length<=1048576)(h:okG t path s=true){n:Str}(hn:n∈q5 (ranR t path s).1.mods)(hpn:zo n=s)(hc:s∈q5 (ranR t path s).1.mods):(xU t path s).any (λ a=>decide (a.name=yK n))=true:=by
 obtain⟨hv,_,hs⟩:=j0 h
 have h1:=attrs_told hv hp hs hn hpn hc
 obtain⟨i,m,h2,h3⟩:=Ju.1 hc
 have h4:cmpI .lss (cix (ranR t path s).1 s) 0=false:=by
  rcases xR (ranR t path s).1 s with⟨_,k2⟩ | ⟨k,m',k1,_⟩
  ·
   rw[k2 m (List.mem_of_getElem? h2)] at h3;cases h3
  ·
   rw[k1];exact Yk k
 unfold xU
 rw[if_pos h,h4,if_neg (by decide)]
 obtain⟨a,ha,e⟩:=List.mem_map.1 h1
 exact List.any_eq_true.2 ⟨a,ha,decide_eq_true e⟩
theorem zaS(c:List UInt8):ZC (scc yA) c=some true:=by
 unfold ZC
 refine XU (zbJ c) λ t path s ht hp3 hn=>?_
 have hp:path.length<=1048576:=by omega
 have hla:=attrsV_len (t:=t) (s:=s) hp
 have hnd:=attrsV_apart (t:=t) (s:=s) hp
 have hlc:=zaN (t:=t) (s:=s) hp
 have hE:xo (xU t path s) (xU t path s)=some true:=by rw[equalAttrs_eq (by omega)];simp
 dsimp only
 rw[AttrsOf_eq ht hp hn,obS,zbk ht hp hn,obS,hE,obS,Xd ht,Xe hp,y6 hn]
 have hbad:((some (xU t path s)).bind λ v30=>(xo (xU t path s) v30).bind λ v31=>some v31)=some true:=by rw[obS,hE,obS]
 cases hv:zL t with
 | false=>exact hbad
 |
  true=>
  cases hvp:xp path with
  | false=>exact hbad
  |
   true=>
   cases hs:ze s with
   | false=>exact hbad
   |
    true=>
    have hok:=okG_true hv hvp hs
    have ec:=Jv hok
    have hA:zO (λ s40=>xk (scc yA) (xU t path s) s40) (0:Int)=some (.inl ()):=by
     refine YB (xU t path s).length (λ k=>(k:Int)) (λ k hk=>?_) ?_ (by omega) rfl
     ·
      obtain⟨x,hx,_⟩:=Xz hk
      have hin:zO (λ s47=>wn (scc yA) (xU t path s) (k:Int) s47) (0:Int)=some (.inl ()):=by
       refine YB k (λ j=>(j:Int)) (λ j hj=>?_) ?_ (by omega) rfl
       ·
        obtain⟨y,hy,_⟩:=Xz (l:=xU t path s) (k:=j) (by omega)
        have hne:y.name≠x.name:=λ e=>by
         have e1:((xU t path s).map (·.name))[j]?=some y.name:=by rw[List.getElem?_map,hy];rfl
         have e2:((xU t path s).map (·.name))[k]?=some x.name:=by rw[List.getElem?_map,hx];rfl
         obtain⟨a1,a2⟩:=List.getElem?_eq_some_iff.1 e1
         obtain⟨b1,b2⟩:=List.getElem?_eq_some_iff.1 e2
         have:=(List.getElem_inj hnd).1 (a2.trans (e.trans b2.symm))
         omega
        unfold wn
        rw[zD,if_pos (decide_eq_true hj),zI,hy,obS,zI,hx,obS,decide_eq_false hne,if_neg (by decide),zW (by omega)]
        rfl
       ·
        unfold wn
        rw[zD,if_neg (by simp)]
      unfold xk
      rw[zD,if_pos (decide_eq_true hk),hin,obS,Sum.elim_inl,zW (by omega)]
      rfl
     ·
      unfold xk
      rw[zD,if_neg (by simp)]
    have hB:zO (λ s76=>xl (scc yA) (t,path,s) (xU t path s) (endV t path s,Y9 t path s) s76) (0:Int)=some (.inl ()):=by
     refine YB (Y9 t path s).length (λ k=>(k:Int)) (λ k hk=>?_) ?_ (by omega) rfl
     ·
      obtain⟨n,hx,hm⟩:=Xz hk
      have hm':n∈q5 (ranR t path s).1.mods:=by rw[← ec];exact hm
      have hnv:=cach_valid hv hp hs hm'
      have hin:∀ m0:Bool,zO (λ s91=>wo (scc yA) (xU t path s) (endV t path s,Y9 t path s) (k:Int) s91) (m0,(0:Int))=some (m0||(xU t path s).any λ a=>decide (a.name=yK n)):=λ m0=>by
       refine YB (xU t path s).length (λ j=>(m0||((xU t path s).take j).any (λ a=>decide (a.name=yK n)),(j:Int))) (λ j hj=>?_) ?_ (by omega) (by simp)
       ·
        obtain⟨y,hy,_⟩:=Xz hj
        unfold wo
        dsimp only
        rw[zD,if_pos (decide_eq_true hj),zW (by omega),List.take_add_one,hy,Option.toList_some,List.any_append]
        generalize ((xU t path s).take j).any (λ a=>decide (a.name=yK n))=b
        cases m0 with
        | true=>rfl
        |
         false=>
         cases b with
         | true=>rfl
         |
          false=>
          rw[show(((false||false) == false):Bool)=true from rfl,wt,zI,hy,obS,wt,zI,hx,obS,wt,zaC hnv,obS,obS]
          simp
       ·
        unfold wo
        dsimp only
        rw[zD,if_neg (by simp),List.take_length]
      unfold xl
      dsimp only
      rw[zD,if_pos (decide_eq_true hk),zI,hx,obS,Zr hnv,obS,YC (by omega),xS,obS,hin]
      have hall:((decide (zo n≠s)||!(if(decide (zo n≠s) == false)=true then decide (s∈Y9 t path s) else default))||(xU t path s).any λ a=>decide (a.name=yK n))=true:=by
       by_cases hpn:zo n=s
       ·
        by_cases hc:s∈Y9 t path s
        ·
         rw[attrsV_told hp hok hm' hpn (by rw[← ec];exact hc),Bool.or_true]
        ·
         rw[decide_eq_false hc]
         simp
       ·
        rw[decide_eq_true hpn]
        rfl
      rw[hall,obS,zW (by omega)]
      rfl
     ·
      unfold xl
      dsimp only
      rw[zD,if_neg (by simp)]
    have hgood:((xN (scc yA) t path s).bind λ v35=>
      Option.bind (α:=Unit⊕Bool) (zO (λ s40=>xk (scc yA) (xU t path s) s40) (0:Int)) (Sum.elim (λ b38=>
      Option.bind (α:=Unit⊕Bool) (zO (λ s76=>xl (scc yA) (t,path,s) (xU t path s) v35 s76) (0:Int)) (Sum.elim (λ b74=>some true) some)) some))=some true:=by
     rw[WT ht hp hn,obS,hA,obS,Sum.elim_inl,hB]
     rfl
    exact hgood
theorem zbT(c:List UInt8):Fn Tryz.prog 4 [dt c] (dt true):=zaR (Yy yA) (zaS c)
end Go.Proofs.YtmenakmafojpaaaGreatDoor
