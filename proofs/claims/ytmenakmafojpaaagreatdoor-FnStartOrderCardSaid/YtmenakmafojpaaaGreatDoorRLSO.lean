import Derived.Test.YtmenakmafojpaaaGreatDoorRB
import Derived.Test.YtmenakmafojpaaaGreatDoorRO
import Derived.Test.YtmenakmafojpaaaGreatDoorRKc
import Derived.Test.YtmenakmafojpaaaGreatDoorRK
import Derived.Test.YtmenakmafojpaaaGreatDoorRQ
namespace Go.Proofs.YtmenakmafojpaaaGreatDoor
open Go.RowKit
attribute [local irreducible] OpRel OpdR
set_option maxRecDepth 10000
set_option maxHeartbeats 1600000
theorem kN14:fnB Tryz.prog 14=true:=by kernel_rfl
def yP(_R:Rec)(v14:List Str)(s37:Int):Option (Int⊕(Unit⊕Bool)):=
if(cmpI .lss s37 (v14.length:Int))=true then((atI v14 s37).bind λ v42=>
(yu v42).bind λ v43=>
(gO (decide (v43≠(⟨[]⟩:Str)) == true) (ji v14 v43)).bind λ v47=>
(gO ((decide (v43≠(⟨[]⟩:Str)) == true)&&(cmpI .lss v47 (0:Int) == false)) (ji v14 v43)).bind λ v48=>
if(decide (v43≠(⟨[]⟩:Str))&&(cmpI .lss v47 (0:Int)||cmpI .gtr v48 s37))=true then(some (.inr (.inr false)))
else((i64 (s37+(1:Int))).bind λ v57=>
some (.inl v57)))
else(some (.inr (.inl ())))
def qh(R:Rec)(x0:List UInt8):Option Bool:=
if(cmpI .gtr (x0.length:Int) (1048576:Int))=true then(some true)
else((ww x0).bind λ v6=>
(jW R v6.1 v6.2.1 v6.2.2).bind λ v14=>
(wU R v6.1 v6.2.1 v6.2.2).bind λ v17=>
(yn v14 v17).bind λ v18=>
(gO ((!v18) == false) (xJ v6.1)).bind λ v19=>
(gO (((!v18)||(!v19)) == false) (xK v6.2.1)).bind λ v20=>
(gO ((((!v18)||(!v19))||(!v20)) == false) (zU v6.2.2)).bind λ v21=>
if((((!v18)||(!v19))||(!v20))||(!v21))=true then((wU R v6.1 v6.2.1 v6.2.2).bind λ v30=>
(yn v14 v30).bind λ v31=>
some v31)
else(Option.bind (α:=Unit⊕Bool) (zO (λ s37=>yP R v14 s37) (0:Int)) (Sum.elim (λ _b35=>
(gO (cmpI .eql (v14.length:Int) (0:Int) == false) (atI v14 (0:Int))).bind λ v62=>
(gO (cmpI .eql (v14.length:Int) (0:Int) == false) (yY v6.2.2)).bind λ v63=>
(gO (cmpI .eql (v14.length:Int) (0:Int) == false) (atI v63 (0:Int))).bind λ v64=>
some (cmpI .eql (v14.length:Int) (0:Int)||decide (v62=v64))) some)))
theorem JL{R:Rec}(hR:R.ok){x0:List UInt8}{r:Bool}(h:qh R x0=some r):Fn Tryz.prog 3 [dt x0] (dt r):=by
 unfold qh at h
 refine fnx (fn:=Tryz.f3) 1 Tryz.func3 rfl (oD rfl) rfl (λ M w0 _ st0=>?_)
 refine st0.sq1 [0] (λ _ _ st1=>wp_seq ?_)
 refine st1.sq1 [0,11] (λ _ _ st2=>?_)
 refine st2.cs rfl h (λ _ h3=>?_) (λ _ h4=>wp_skip (za (wp_seq (wp_region_list ?_))))
 ·
  refine st2.sq1 [2] (λ _ _ st5=>wp_ret (zd ?_))
  exact st5.ret rfl rfl h3
 obtain⟨v6,p6,h7⟩:=bsW h4 WZ
 refine st2.segA 6 [15,16,17] [] (λ _ _ st8=>?_)
 refine st8.alloc 0 rfl rfl kZ25 Xs (by simp) [15,16,17] rfl [] rfl rfl (λ b10 _ _ _ st10=>?_)
 refine st10.store (sb:=3) 0 FldS.id rfl rfl rfl kT25 rfl rfl (tp rfl) rfl [16,17] rfl [] rfl rfl (λ _ _ st12=>?_)
 refine st12.segA 2 [4,5] [(3,0)] (λ _ _ st13=>wpList_nil (za ?_))
 obtain⟨v14,p14,h15⟩:=bs h7
 refine st13.sqB (sP 3 (r:=by exact sc rfl (oK (FnN.fn<|Q2 hR p14))<|segC)) [4,5,6] [(3,0)] (λ _ _ st16=>wp_seq ?_)
 obtain⟨v17,p17,h22⟩:=bs h15
 obtain⟨v18,p18,h23⟩:=bs h22
 obtain⟨v19,p19,h24⟩:=bs h23
 obtain⟨v20,p20,h25⟩:=bs h24
 obtain⟨v21,p21,h26⟩:=bs h25
 refine st16.sqB (sP 4 (r:=by exact sc rfl (zH (l:=[.tmp 23,.tmp 24,.tmp 25]) rfl kN14 (.cons (tp rfl) (.cons (tp rfl) (.cons (tp rfl) .nil))) ((XQ hR p17)).fn)<|sc rfl (oK (wV p18))<|sP 3 (r:=by exact sg rfl rfl (λ hg=>oK (Zx (gh hg p19)))<|sP 1 (r:=by exact sc rfl (yt rfl (tp rfl) (zb rfl))<|sP 2 (r:=by exact sg rfl rfl (λ hg=>oK (Zy (gh hg p20)))<|sP 1 (r:=by exact sc rfl (yt rfl (tp rfl) (zb rfl))<|sP 2 (r:=by exact sg rfl rfl (λ hg=>oK (yk (gh hg p21)))<|sP 1 (r:=by exact sc rfl (yt rfl (tp rfl) (zb rfl))<|.nil)))))))) [4,5,6,43] [(3,0)] (λ _ _ st27=>?_)
 refine st27.cs rfl h26 (λ _ h28=>?_) (λ _ h29=>wp_skip (za ?_))
 ·
  obtain⟨v30,p30,h32⟩:=bs h28
  obtain⟨v31,p31,h33⟩:=bs h32
  refine st27.sq2 (sP 4 (r:=by exact sc rfl (zH (l:=[.tmp 45,.tmp 46,.tmp 47]) rfl kN14 (.cons (tp rfl) (.cons (tp rfl) (.cons (tp rfl) .nil))) ((XQ hR p30)).fn)<|sc rfl (oK (wV p31))<|segC)) [2] (λ _ _ st34=>wp_ret (zd ?_))
  exact st34.ret rfl rfl h33
 obtain⟨o35,p35,k35⟩:=bs h29
 refine zk (λ a w=>∃ b35,o35=.inl b35/\(∃ M1 q35_0,Sx (Frm.of w0) 89 M M1 [oneB q35_0] [(5,dt v6.2.2),(6,dt v14)] [] a w)) ?_ ?_
 ·
  refine st27.sq1 [5,6,7] (λ _ _ st36=>wp_block ?_)
  refine zF p35 (λ s37 a w=>∃ M1 q37_0,Sx (Frm.of w0) 89 M M1 [oneB q37_0] [(5,dt v6.2.2),(6,dt v14),(7,dt s37)] [] a w) fx ?_
  rintro s37 z37 a37 w37 ⟨M37,q37_0,st37⟩ hs37 hx37
  have h38:yP R v14 s37=some z37:=hs37
  unfold yP at h38
  refine wp_seq ?_
  refine st37.sq1 [5,6,7,53] (λ _ _ st39=>?_)
  refine st39.cs rfl h38 (λ _ h40=>wp_skip (za (wp_seq (wp_block ?_)))) (λ _ h41=>wp_exit (zj (zj (zA ?_))))
  ·
   obtain⟨v42,p42,h44⟩:=bs h40
   obtain⟨v43,p43,h45⟩:=bsW h44 ja
   refine st39.sq1 [5,6,7,8] (λ _ _ st46=>?_)
   obtain⟨v47,p47,h49⟩:=bs h45
   obtain⟨v48,p48,h50⟩:=bs h49
   refine st46.sq2 (sP 5 (r:=by exact sg rfl rfl (λ hg=>oK (X7 (gh hg p47)))<|sP 1 (r:=by exact sg rfl rfl (λ hg=>oM rfl (zg hg rfl))<|sgg rfl rfl (λ hg=>oM rfl (tp rfl))<|sgg rfl rfl (λ hg=>oM rfl (tp rfl))<|sgg rfl rfl (λ hg=>zH (l:=[.tmp 69,.tmp 70]) rfl kN19 (.cons (zg hg rfl) (.cons (zg hg rfl) .nil)) (X7 (gh hg p48)))<|sgg rfl rfl (λ hg=>oM rfl (tp rfl))<|sgg rfl rfl (λ hg=>oCI rfl (zg hg rfl) (zg hg rfl))<|sg rfl rfl (λ hg=>yt rfl (zg hg rfl) (Wz hg rfl))<|sc rfl (zX rfl (tp rfl) (zb rfl))<|.nil))) [5,6,7,75] (λ _ _ st51=>?_)
   refine st51.cs rfl h50 (λ _ h52=>?_) (λ _ h53=>wp_skip (zf (za ?_)))
   ·
    refine st51.sq1 [2] (λ _ _ st54=>wp_ret (zn (zd (zd (zn (zd ?_))))))
    have h55:=lo h52 hx37
    have h56:=jo h55 k35
    exact st54.ret rfl rfl h56
   obtain⟨v57,p57,h58⟩:=bs h53
   refine st51.rg1 [5,6,7] (λ _ _ st59=>za ?_)
   exact fl h58
  refine za ?_
  have h60:=lo h41 hx37
  exact fl h60
 rintro a35 w35 ⟨b35,rfl,⟨M35,q35_0,st35⟩⟩
 have h61:=jn k35
 refine wp_seq ?_
 obtain⟨v62,p62,h65⟩:=bs h61
 obtain⟨v63,p63,h66⟩:=bs h65
 obtain⟨v64,p64,h67⟩:=bs h66
 refine st35.dr (D:=[_,_,_,_,_,_,_,_,_,_,_,_,_,_]) zE [[],[0],[0,1],[0,1,2],[0,1,2,3],[0,1,2,3,4],[0,1,2,3,4,5],[0,1,2,3],[0,1,2,3,7],[0,1,2,3,7,8],[0,1,2,3,7,8,9],[0,1,2,3,4,5,6,7,8,9,10],[0,1,2,3,4,5,6,7,8,9,10,11],[0,1,2,3,4,5,6,7,8,9,10,11,12]] [[(6,none)],[(76,some 0)],[(77,some 1)],[(78,some 2)],[(6,none),(79,some 3)],[(80,some 4),(79,some 3)],[(81,some 5),(79,some 3)],[(5,none),(79,some 3)],[(83,some 7),(79,some 3)],[(84,some 8),(79,some 3)],[(85,some 9),(79,some 3)],[(82,some 6),(86,some 10),(79,some 3)],[(79,some 3),(87,some 11)],[(88,some 12)]] (by decide +kernel) (
  rc rfl rfl (oM rfl (tp rfl))<|rc rfl rfl (Z2 rfl kL29 (tp rfl))<|rc rfl rfl (oCI rfl (tp rfl) cI)<|rc rfl rfl (oM rfl (tp rfl))<|rg rfl rfl rfl (λ hg=>oM rfl (tp rfl))<|rg rfl rfl rfl (λ hg=>xIdx rfl kS29 (zg hg rfl) cI (gh hg p62))<|rg rfl rfl rfl (λ hg=>zm rfl kT9 (zg hg rfl))<|rg rfl rfl rfl (λ hg=>oM rfl (tp rfl))<|rg rfl rfl rfl (λ hg=>zH (l:=[.tmp 83]) rfl kN20 (.cons (zg hg rfl) .nil) ((Yb (gh hg p63))).fn)<|rg rfl rfl rfl (λ hg=>xIdx rfl kS29 (zg hg rfl) cI (gh hg p64))<|rg rfl rfl rfl (λ hg=>zm rfl kT9 (zg hg rfl))<|rg rfl rfl rfl (λ hg=>jF rfl (zg hg rfl) (zg hg rfl))<|rc rfl rfl (yt rfl (tp rfl) (zb rfl))<|rc rfl rfl (oA rfl (tp rfl))<|.nil) [2] rfl [] rfl trivial (λ _ _ st68=>?_)
 refine za (wp_ret ?_)
 exact st68.ret rfl rfl h67
open Go.RowKit
theorem JM(c:List UInt8):qh (scc yA) c=some true:=by
 unfold qh
 refine XU (Q8 c) λ t path s ht hp3 hn=>?_
 have hp:path.length<=1048576:=by omega
 have hl0:=evV_len (t:=t) (s:=s) hp 0
 have hE:=Qw (l:=evV 0 t path s) (by omega)
 dsimp only
 rw[StartOrder_eq ht hp hn,obS,Qv ht hp hn,obS,hE,obS,Xd ht,Xe hp,y6 hn]
 have hbad:((some (evV 0 t path s)).bind λ v30=>(yn (evV 0 t path s) v30).bind λ v31=>some v31)=some true:=by rw[obS,hE,obS]
 cases hv:zL t with
 | false=>exact hbad
 |
  true=>
  cases hvp:xp path with
  | false=>exact hbad
  |
   true=>
   cases hs:ze s with
   | false=>exact hbad
   |
    true=>
    have hok:=okG_true hv hvp hs
    have e0:=evV_ok hok 0
    have hl:zO (λ s37=>yP (scc yA) (evV 0 t path s) s37) (0:Int)=some (.inl ()):=by
     refine YB (evV 0 t path s).length (λ k=>(k:Int)) (λ k hk=>?_) ?_ (by omega) rfl
     ·
      obtain⟨x,hx,hm⟩:=Xz hk
      have hxv:=start_valid hv hp hs (by rw[← e0];exact hm)
      unfold yP
      rw[zD,if_pos (decide_eq_true hk),zI,hx,obS,Zr hxv,obS,zW (by omega)]
      by_cases hpe:zo x=emptyS
      ·
       rw[show decide (zo x≠(⟨[]⟩:Str))=false from decide_eq_false (λ h=>h hpe)]
       rfl
      ·
       obtain⟨j,j1,j2⟩:=starts_order hv hp hs (by rw[← e0];exact hx) hpe
       obtain⟨i,i1,i2⟩:=idxOf_upto (l:=evV 0 t path s) (x:=zo x) (j:=j) (by rw[e0];exact j2)
       have h2:cmpI .gtr (i:Int) (k:Int)=false:=by simp[cmpI];omega
       rw[show decide (zo x≠(⟨[]⟩:Str))=true from decide_eq_true hpe,zbS (by omega),i1,show((true:Bool) == true)=true from rfl,wt,obS,Yk,show((true&&(false == false)):Bool)=true from rfl,wt,obS,h2]
       rfl
     ·
      unfold yP
      rw[zD,if_neg (by simp)]
    have hgood:(Option.bind (α:=Unit⊕Bool) (zO (λ s37=>yP (scc yA) (evV 0 t path s) s37) (0:Int)) (Sum.elim (λ b35=>
      (gO (cmpI .eql ((evV 0 t path s).length:Int) (0:Int) == false) (atI (evV 0 t path s) (0:Int))).bind λ v62=>
      (gO (cmpI .eql ((evV 0 t path s).length:Int) (0:Int) == false) (yY s)).bind λ v63=>
      (gO (cmpI .eql ((evV 0 t path s).length:Int) (0:Int) == false) (atI v63 (0:Int))).bind λ v64=>
      some (cmpI .eql ((evV 0 t path s).length:Int) (0:Int)||decide (v62=v64))) some))=some true:=by
     rw[hl,obS,Sum.elim_inl]
     cases hz:cmpI .eql ((evV 0 t path s).length:Int) 0 with
     | true=>rfl
     |
      false=>
      have h0:0<(evV 0 t path s).length:=Nat.pos_of_ne_zero λ e=>by rw[e] at hz;cases hz
      obtain⟨x,hx,_⟩:=Xz h0
      have hx':=starts_head hv hp hs (n:=x) (by rw[← e0];exact hx)
      rw[show((false:Bool) == false)=true from rfl,wt,wt,show atI (evV 0 t path s) 0=(evV 0 t path s)[0]? from zI _ 0,hx,obS,Wa hs,obS,wt,show atI (jE s) 0=(jE s)[0]? from zI _ 0,zaP,obS,hx']
      simp
    exact hgood
theorem zag(c:List UInt8):Fn Tryz.prog 3 [dt c] (dt true):=JL (Yy yA) (JM c)
end Go.Proofs.YtmenakmafojpaaaGreatDoor
