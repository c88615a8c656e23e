import Derived.Test.YtmenakmafojpaaaGreatDoorRB
import Derived.Test.YtmenakmafojpaaaGreatDoorRO
import Derived.Test.YtmenakmafojpaaaGreatDoorRKc
import Derived.Test.YtmenakmafojpaaaGreatDoorRQ
namespace Go.Proofs.YtmenakmafojpaaaGreatDoor
open Go.RowKit Tryz
attribute [local irreducible] OpRel OpdR
set_option maxRecDepth 10000
set_option maxHeartbeats 1600000
theorem kN38:fnB prog 38=true:=by kernel_rfl
theorem kN39:fnB prog 39=true:=by kernel_rfl
theorem kN12:fnB prog 12=true:=by kernel_rfl
def yG(_R:Rec)(v14:List Str)(v35:List Str)(s40:Int):Option (Int⊕(Unit⊕Bool)):=
if(cmpI .lss s40 (v14.length:Int))=true then((atI v14 s40).bind λ v45=>
(wL v35 v45).bind λ v46=>
if(!v46)=true then(some (.inr (.inr false)))
else((i64 (s40+(1:Int))).bind λ v55=>
some (.inl v55)))
else(some (.inr (.inl ())))
def yo(_R:Rec)(v35:List Str)(v60:GResult)(s69:Int):Option (Int⊕(Unit⊕Bool)):=
(gO (cmpI .lss s69 (v35.length:Int) == true) (yA v60.log (2:Int))).bind λ v71=>
if(cmpI .lss s69 (v35.length:Int)&&cmpI .eql v71 (0:Int))=true then((atI v35 s69).bind λ v76=>
(j0 v35 v76).bind λ v77=>
if(cmpI .neq v77 s69)=true then(some (.inr (.inr false)))
else((i64 (s69+(1:Int))).bind λ v86=>
some (.inl v86)))
else(some (.inr (.inl ())))
def jU(R:Rec)(x0:List UInt8):Option Bool:=
if(cmpI .gtr (x0.length:Int) (1048576:Int))=true then(some true)
else((wa x0).bind λ v6=>
(jw R v6.1 v6.2.1 v6.2.2).bind λ v14=>
(ww R v6.1 v6.2.1 v6.2.2).bind λ v17=>
(xx v14 v17).bind λ v18=>
(gO ((!v18) == false) (xM v6.1)).bind λ v19=>
(gO (((!v18)||(!v19)) == false) (xN v6.2.1)).bind λ v20=>
(gO ((((!v18)||(!v19))||(!v20)) == false) (zY v6.2.2)).bind λ v21=>
if((((!v18)||(!v19))||(!v20))||(!v21))=true then((ww R v6.1 v6.2.1 v6.2.2).bind λ v30=>
(xx v14 v30).bind λ v31=>
some v31)
else((xu R v6.1 v6.2.1 v6.2.2).bind λ v35=>
Option.bind (α:=Unit⊕Bool) (zS (λ s40=>yG R v14 v35 s40) (0:Int)) (Sum.elim (λ _b38=>
(wn R v6.1 v6.2.1 v6.2.2).bind λ v60=>
Option.bind (α:=Unit⊕Bool) (zS (λ s69=>yo R v35 v60 s69) (0:Int)) (Sum.elim (λ _b67=>
some true) some)) some)))
theorem Jb{R:Rec}(hR:R.ok){x0:List UInt8}{r:Bool}(h:jU R x0=some r):Fn prog 8 [dt x0] (dt r):=by
 unfold jU at h
 refine fnx (fn:=f8) 2 func8 rfl (oD rfl) rfl (λ M w0 _ st0=>?_)
 refine st0.sq1 [0] (λ _ _ st1=>wp_seq ?_)
 refine st1.sq1 [0,13] (λ _ _ st2=>?_)
 refine st2.cs rfl h (λ _ h3=>?_) (λ _ h4=>wp_skip (za (wp_seq (wp_region_list ?_))))
 ·
  refine st2.sq1 [2] (λ _ _ st5=>wp_ret (zd ?_))
  exact st5.ret rfl rfl h3
 obtain⟨v6,p6,h7⟩:=bsW h4 Wl
 refine st2.segA 6 [17,18,19] [] (λ _ _ st8=>?_)
 refine st8.alloc 0 rfl rfl kZ25 WN (by simp) [17,18,19] rfl [] rfl rfl (λ b10 _ _ _ st10=>?_)
 refine st10.store (sb:=3) 0 FldS.id rfl rfl rfl kT25 rfl rfl (tp rfl) rfl [18,19] rfl [] rfl rfl (λ _ _ st12=>?_)
 refine st12.segA 2 [4,5] [(3,0)] (λ _ _ st13=>wpList_nil (za ?_))
 obtain⟨v14,p14,h15⟩:=bs h7
 refine st13.sqB (sP 3 (r:=by exact sc rfl (zP (l:=[.tmp 20,.tmp 21,.tmp 22]) rfl kN38 (.cons (tp rfl) (.cons (tp rfl) (.cons (tp rfl) .nil))) ((Qe hR p14)).fn)<|segC)) [4,5,6] [(3,0)] (λ _ _ st16=>wp_seq ?_)
 obtain⟨v17,p17,v18,p18,v19,p19,v20,p20,h25⟩:=bsD h15
 obtain⟨v21,p21,h26⟩:=bs h25
 refine st16.sqB (sP 4 (r:=by exact sc rfl (zP (l:=[.tmp 25,.tmp 26,.tmp 27]) rfl kN39 (.cons (tp rfl) (.cons (tp rfl) (.cons (tp rfl) .nil))) ((Y5 hR p17)).fn)<|sc rfl (oK (Xq p18))<|sP 3 (r:=by exact sg rfl rfl (λ hg=>oK (Zd (gh hg p19)))<|sP 1 (r:=by exact sc rfl (yW rfl (tp rfl) (zb rfl))<|sP 2 (r:=by exact sg rfl rfl (λ hg=>oK (Ze (gh hg p20)))<|sP 1 (r:=by exact sc rfl (yW rfl (tp rfl) (zb rfl))<|sP 2 (r:=by exact sg rfl rfl (λ hg=>oK (yv (gh hg p21)))<|sP 1 (r:=by exact sc rfl (yW rfl (tp rfl) (zb rfl))<|.nil)))))))) [4,5,6,45] [(3,0)] (λ _ _ st27=>?_)
 refine st27.cs rfl h26 (λ _ h28=>?_) (λ _ h29=>wp_skip (za ?_))
 ·
  obtain⟨v30,p30,v31,p31,h33⟩:=bsB h28
  refine st27.sq2 (sP 4 (r:=by exact sc rfl (zP (l:=[.tmp 47,.tmp 48,.tmp 49]) rfl kN39 (.cons (tp rfl) (.cons (tp rfl) (.cons (tp rfl) .nil))) ((Y5 hR p30)).fn)<|sc rfl (oK (Xq p31))<|segC)) [2] (λ _ _ st34=>wp_ret (zd ?_))
  exact st34.ret rfl rfl h33
 obtain⟨v35,p35,h36⟩:=bs h29
 refine st27.sqB (sP 3 (r:=by exact sc rfl (oK (FnN.fn<|Xp hR p35))<|segC)) [4,5,6,7] [(3,0)] (λ _ _ st37=>?_)
 obtain⟨o38,p38,k38⟩:=bs h36
 refine zk (λ a w=>∃ b38,o38=.inl b38/\(∃ M1 q38_0 q38_1,Sx (Frm.of w0) 93 M M1 [oneB q38_0,oneB q38_1] [(4,dt v6.2.1),(5,dt v6.2.2),(7,dt v35)] [(3,0,dbox q38_0 0 v6.1)] a w)) ?_ ?_
 ·
  refine st37.sqA [4,5,6,7,8] [(3,0)] (λ _ _ st39=>wp_block ?_)
  refine zK p38 (λ s40 a w=>∃ M1 q40_0 q40_1,Sx (Frm.of w0) 93 M M1 [oneB q40_0,oneB q40_1] [(4,dt v6.2.1),(5,dt v6.2.2),(6,dt v14),(7,dt v35),(8,dt s40)] [(3,0,dbox q40_0 0 v6.1)] a w) fx ?_
  rintro s40 z40 a40 w40 ⟨M40,q40_0,q40_1,st40⟩ hs40 hx40
  have h41:yG R v14 v35 s40=some z40:=hs40
  unfold yG at h41
  refine wp_seq ?_
  refine st40.sqA [4,5,6,7,8,59] [(3,0)] (λ _ _ st42=>?_)
  refine st42.cs rfl h41 (λ _ h43=>wp_skip (za (wp_seq (wp_block ?_)))) (λ _ h44=>wp_exit (zi (zi (zC ?_))))
  ·
   obtain⟨v45,p45,h47⟩:=bs h43
   obtain⟨v46,p46,h48⟩:=bsW h47 WY
   refine st42.sqA [4,5,6,7,8,68] [(3,0)] (λ _ _ st49=>?_)
   refine st49.cs rfl h48 (λ _ h50=>?_) (λ _ h51=>wp_skip (ze (za ?_)))
   ·
    refine st49.sq1 [2] (λ _ _ st52=>wp_ret (zm (zd (zd (zm (zd ?_))))))
    have h53:=lo h50 hx40
    have h54:=jo h53 k38
    exact st52.ret rfl rfl h54
   obtain⟨v55,p55,h56⟩:=bs h51
   refine st49.rgA [4,5,6,7,8] [(3,0)] (λ _ _ st57=>za ?_)
   exact fl h56
  refine za ?_
  have h58:=lo h44 hx40
  exact fl h58
 rintro a38 w38 ⟨b38,rfl,⟨M38,q38_0,q38_1,st38⟩⟩
 have h59:=jn k38
 refine wp_seq (wp_region_list ?_)
 obtain⟨v60,p60,h61⟩:=bsW h59 (Wv hR)
 refine st38.segC 4 [7,72] [] (λ _ _ st62=>?_)
 refine st62.alloc 1 rfl rfl kZ54 XO (by simp) [7,72] rfl [] rfl rfl (λ b64 _ _ _ st64=>?_)
 refine st64.store (sb:=9) 1 FldS.id rfl rfl rfl kT54 rfl rfl (tp rfl) rfl [7] rfl [] rfl rfl (λ _ _ st66=>wpList_nil (za ?_))
 obtain⟨o67,p67,k67⟩:=bs h61
 refine zk (λ a w=>∃ b67,o67=.inl b67/\(∃ M1 q67_0 q67_1,Sx (Frm.of w0) 93 M M1 [oneB q67_0,oneB q67_1] [] [] a w)) ?_ ?_
 ·
  refine st66.sqA [7,10] [(9,1)] (λ _ _ st68=>wp_block ?_)
  refine zK p67 (λ s69 a w=>∃ M1 q69_0 q69_1,Sx (Frm.of w0) 93 M M1 [oneB q69_0,oneB q69_1] [(7,dt v35),(10,dt s69)] [(9,1,dbox q69_1 0 v60)] a w) fx ?_
  rintro s69 z69 a69 w69 ⟨M69,q69_0,q69_1,st69⟩ hs69 hx69
  have h70:yo R v35 v60 s69=some z69:=hs69
  unfold yo at h70
  refine wp_seq ?_
  obtain⟨v71,p71,h72⟩:=bs h70
  refine st69.sqB (sP 7 (r:=by exact sg rfl rfl (λ hg=>oK (Y6 (gh hg p71)))<|sP 1 (r:=by exact sc rfl (zZ rfl (tp rfl) (zb rfl))<|.nil))) [7,10,82] [(9,1)] (λ _ _ st73=>?_)
  refine st73.cs rfl h72 (λ _ h74=>wp_skip (za (wp_seq (wp_block ?_)))) (λ _ h75=>wp_exit (zi (zi (zC ?_))))
  ·
   obtain⟨v76,p76,h78⟩:=bs h74
   obtain⟨v77,p77,h79⟩:=bsW h78 JM
   refine st73.sqA [7,10,92] [(9,1)] (λ _ _ st80=>?_)
   refine st80.cs rfl h79 (λ _ h81=>?_) (λ _ h82=>wp_skip (ze (za ?_)))
   ·
    refine st80.sq1 [2] (λ _ _ st83=>wp_ret (zm (zd (zd (zm (zd ?_))))))
    have h84:=lo h81 hx69
    have h85:=jo h84 k67
    exact st83.ret rfl rfl h85
   obtain⟨v86,p86,h87⟩:=bs h82
   refine st80.rgA [7,10] [(9,1)] (λ _ _ st88=>za ?_)
   exact fl h87
  refine za ?_
  have h89:=lo h75 hx69
  exact fl h89
 rintro a67 w67 ⟨b67,rfl,⟨M67,q67_0,q67_1,st67⟩⟩
 have h90:=jn k67
 refine st67.sq1 [2] (λ _ _ st91=>wp_ret ?_)
 exact st91.ret rfl rfl h90
open Go.RowKit Tryz
theorem Jc(c:List UInt8):jU (scc yt) c=some true:=by
 unfold jU
 refine zaK (Qj c) λ t path s ht hp3 hn=>?_
 have hp:path.length<=1048576:=by omega
 have hl0:=evV_len (t:=t) (s:=s) hp 0
 have hlp:=partV_len (t:=t) (s:=s) hp
 have hE:=same_texts (l:=Xd t path s) (by omega)
 dsimp only
 rw[zbq ht hp hn,obS,Jx ht hp hn,obS,hE,obS,YH ht,YI hp,xk hn]
 have hbad:((some (Xd t path s)).bind λ v30=>(xx (Xd t path s) v30).bind λ v31=>some v31)=some true:=by rw[obS,hE,obS]
 cases hv:zH t with
 | false=>exact hbad
 |
  true=>
  cases hvp:yR path with
  | false=>exact hbad
  |
   true=>
   cases hs:zf s with
   | false=>exact hbad
   |
    true=>
    have hok:=okG_true hv hvp hs
    have hll:=Jo hv hp hs
    have e0:=evV_ok hok 0
    have ep:Xd t path s=(ranR t path s).1.part:=by unfold Xd;rw[if_pos hok]
    have hc:yA (resV (ranR t path s).1 [(ranR t path s).2.2]).log 2=some ((evs 2 (logV t path s)).length:Int):=Ja 2 (by show(logV t path s).length<=_;omega)
    have hA:zS (λ s40=>yG (scc yt) (Xd t path s) (evV 0 t path s) s40) (0:Int)=some (.inl ()):=by
     refine zai (Xd t path s).length (λ k=>(k:Int)) (λ k hk=>?_) ?_ (by omega) rfl
     ·
      obtain⟨x,hx,hm⟩:=QS hk
      unfold yG
      rw[zE,if_pos (decide_eq_true hk),zJ,hx,obS,XZ (by omega),e0,decide_eq_true (part_started hv hp hs (by rw[← ep];exact hm)),obS,zR (by omega)]
      rfl
     ·
      unfold yG
      rw[zE,if_neg (by simp)]
    have hB:zS (λ s69=>yo (scc yt) (evV 0 t path s) (resV (ranR t path s).1 [(ranR t path s).2.2]) s69) (0:Int)=some (.inl ()):=by
     by_cases hev:evs 2 (logV t path s)=[]
     ·
      have hc0:yA (resV (ranR t path s).1 [(ranR t path s).2.2]).log 2=some 0:=by rw[hc,hev];rfl
      have hnd:=starts_apart hv hp hs hev
      rw[← e0] at hnd
      refine zai (evV 0 t path s).length (λ k=>(k:Int)) (λ k hk=>?_) ?_ (by omega) rfl
      ·
       obtain⟨x,hx,hm⟩:=QS hk
       have n0:cmpI .neq (k:Int) (k:Int)=false:=by simp[cmpI]
       unfold yo
       rw[zE,decide_eq_true hk,show((true:Bool) == true)=true from rfl,qr,hc0,obS,if_pos (by decide),zJ,hx,obS,zbs (by omega),idxOf_nodup hnd hx,obS,n0,if_neg (by decide),zR (by omega)]
       rfl
      ·
       unfold yo
       rw[zE,decide_eq_false (Nat.lt_irrefl _)]
       rfl
     ·
      refine jT (m:=1) (yK ?_) (by decide)
      have hz:cmpI .eql ((evs 2 (logV t path s)).length:Int) 0=false:=by
       have:(evs 2 (logV t path s)).length≠0:=λ e=>hev (List.eq_nil_of_length_eq_zero e)
       simp[cmpI]
       exact hev
      unfold yo
      rw[hc]
      cases cmpI .lss (0:Int) ((evV 0 t path s).length:Int) with
      | false=>rfl
      |
       true=>
       rw[show((true:Bool) == true)=true from rfl,qr,obS,hz]
       rfl
    have hgood:((xu (scc yt) t path s).bind λ v35=>
      Option.bind (α:=Unit⊕Bool) (zS (λ s40=>yG (scc yt) (Xd t path s) v35 s40) (0:Int)) (Sum.elim (λ b38=>
      (wn (scc yt) t path s).bind λ v60=>
      Option.bind (α:=Unit⊕Bool) (zS (λ s69=>yo (scc yt) v35 v60 s69) (0:Int)) (Sum.elim (λ b67=>some true) some)) some))=some true:=by
     rw[JT ht hp hn,obS,hA,obS,Sum.elim_inl,zaL ht hp hn hok,obS,hB]
     rfl
    exact hgood
theorem Ql(c:List UInt8):Fn prog 8 [dt c] (dt true):=Jb (Y4 yt) (Jc c)
end Go.Proofs.YtmenakmafojpaaaGreatDoor
