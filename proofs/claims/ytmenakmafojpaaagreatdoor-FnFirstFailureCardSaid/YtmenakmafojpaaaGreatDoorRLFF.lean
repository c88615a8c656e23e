import Derived.Test.YtmenakmafojpaaaGreatDoorRB
import Derived.Test.YtmenakmafojpaaaGreatDoorRO
import Derived.Test.YtmenakmafojpaaaGreatDoorRKc
import Derived.Test.YtmenakmafojpaaaGreatDoorRQ
namespace Go.Proofs.YtmenakmafojpaaaGreatDoor
open Go.RowKit Tryz
attribute [local irreducible] OpRel OpdR
set_option maxRecDepth 10000
set_option maxHeartbeats 1600000
theorem kF54_0:fldB prog 54 0 0=true:=by kernel_rfl
theorem kN12:fnB prog 12=true:=by kernel_rfl
def jz(R:Rec)(x0:List UInt8):Option Bool:=
if(cmpI .gtr (x0.length:Int) (1048576:Int))=true then(some true)
else((xR x0).bind λ v6=>
(wY R v6.1 v6.2.1 v6.2.2).bind λ v14=>
(wl R v6.1 v6.2.1 v6.2.2).bind λ v17=>
(gO (decide (v14≠v17) == false) (xM v6.1)).bind λ v18=>
(gO ((decide (v14≠v17)||(!v18)) == false) (xN v6.2.1)).bind λ v19=>
(gO (((decide (v14≠v17)||(!v18))||(!v19)) == false) (zY v6.2.2)).bind λ v20=>
if(((decide (v14≠v17)||(!v18))||(!v19))||(!v20))=true then((wl R v6.1 v6.2.1 v6.2.2).bind λ v28=>
some (decide (v14=v28)))
else((wn R v6.1 v6.2.1 v6.2.2).bind λ v31=>
(yA v31.log (2:Int)).bind λ v38=>
(gO (((decide (v14≠(⟨[]⟩:Str)) == cmpI .gtr v38 (0:Int)) == true)&&(decide (v14=(⟨[]⟩:Str)) == false)) (atI v31.ends (0:Int))).bind λ v41=>
(gO ((((decide (v14≠(⟨[]⟩:Str)) == cmpI .gtr v38 (0:Int)) == true)&&(decide (v14=(⟨[]⟩:Str)) == false))&&(cmpI .neq v41 (0:Int) == true)) (xu R v6.1 v6.2.1 v6.2.2)).bind λ v42=>
(gO ((((decide (v14≠(⟨[]⟩:Str)) == cmpI .gtr v38 (0:Int)) == true)&&(decide (v14=(⟨[]⟩:Str)) == false))&&(cmpI .neq v41 (0:Int) == true)) (wL v42 v14)).bind λ v43=>
some ((decide (v14≠(⟨[]⟩:Str)) == cmpI .gtr v38 (0:Int))&&(decide (v14=(⟨[]⟩:Str))||(cmpI .neq v41 (0:Int)&&v43)))))
theorem WC{R:Rec}(hR:R.ok){x0:List UInt8}{r:Bool}(h:jz R x0=some r):Fn prog 7 [dt x0] (dt r):=by
 unfold jz at h
 refine fnx (fn:=f7) 2 func7 rfl (oD rfl) rfl (λ M _ _ st0=>?_)
 refine st0.sq1 [0] (λ _ _ st1=>wp_seq ?_)
 refine st1.sq1 [0,11] (λ _ _ st2=>?_)
 refine st2.cs rfl h (λ _ h3=>?_) (λ _ h4=>wp_skip (za (wp_seq (wp_region_list ?_))))
 ·
  refine st2.sq1 [2] (λ _ _ st5=>wp_ret (zd ?_))
  exact st5.ret rfl rfl h3
 obtain⟨v6,p6,h7⟩:=bsW h4 XY
 refine st2.segA 6 [15,16,17] [] (λ _ _ st8=>?_)
 refine st8.alloc 0 rfl rfl kZ25 WN (by simp) [15,16,17] rfl [] rfl rfl (λ b10 _ _ _ st10=>?_)
 refine st10.store (sb:=3) 0 FldS.id rfl rfl rfl kT25 rfl rfl (tp rfl) rfl [16,17] rfl [] rfl rfl (λ _ _ st12=>?_)
 refine st12.segA 2 [4,5] [(3,0)] (λ _ _ st13=>wpList_nil (za ?_))
 obtain⟨v14,p14,h15⟩:=bsW h7 (Jv hR)
 refine st13.sqC [4,5,6] [(3,0)] (λ _ _ st16=>wp_seq ?_)
 obtain⟨v17,p17,v18,p18,v19,p19,v20,p20,h24⟩:=bsD h15
 refine st16.sqB (sP 4 (r:=by exact sc rfl (oK (YC hR p17))<|sP 3 (r:=by exact sg rfl rfl (λ hg=>oK (Zd (gh hg p18)))<|sP 1 (r:=by exact sc rfl (yW rfl (tp rfl) (zb rfl))<|sP 2 (r:=by exact sg rfl rfl (λ hg=>oK (Ze (gh hg p19)))<|sP 1 (r:=by exact sc rfl (yW rfl (tp rfl) (zb rfl))<|sP 2 (r:=by exact sg rfl rfl (λ hg=>oK (yv (gh hg p20)))<|sP 1 (r:=by exact sc rfl (yW rfl (tp rfl) (zb rfl))<|.nil)))))))) [4,5,6,42] [(3,0)] (λ _ _ st25=>?_)
 refine st25.cs rfl h24 (λ _ h26=>?_) (λ _ h27=>wp_skip (za (wp_seq (wp_region_list ?_))))
 ·
  obtain⟨v28,p28,h29⟩:=bsW h26 (YC hR)
  refine st25.sq3 [2] (λ _ _ st30=>wp_ret (zd ?_))
  exact st30.ret rfl rfl h29
 obtain⟨v31,p31,h32⟩:=bsW h27 (Wv hR)
 refine st25.segC 4 [4,5,6,52] [(3,0)] (λ _ _ st33=>?_)
 refine st33.alloc 1 rfl rfl kZ54 XO (by simp) [4,5,6,52] rfl [3] rfl rfl (λ b35 _ _ _ st35=>?_)
 refine st35.store (sb:=7) 1 FldS.id rfl rfl rfl kT54 rfl rfl (tp rfl) rfl [4,5,6] rfl [3] rfl rfl (λ _ _ st37=>wpList_nil (za ?_))
 obtain⟨v38,p38,h39⟩:=bsW h32 Y6
 refine st37.sqC [4,5,6,8] [(3,0),(7,1)] (λ _ _ st40=>?_)
 obtain⟨v41,p41,v42,p42,v43,p43,h46⟩:=bsC h39
 refine st40.sq2 (sP 4 (r:=by exact sc rfl (op_eqT rfl kV4 (tp rfl) (tp rfl))<|sP 3 (r:=by exact sg rfl rfl (λ hg=>oM rfl (zh hg rfl))<|sgg rfl rfl (λ hg=>wF GResult.fld0 rfl kF54_0 (tp rfl))<|sgg rfl rfl (λ hg=>yL rfl kT26 (zh hg rfl))<|sgg rfl rfl (λ hg=>xIdx rfl kS26 (zh hg rfl) cI (gh hg p41))<|sgg rfl rfl (λ hg=>zn rfl kT3 (zh hg rfl))<|sgg rfl rfl (λ hg=>oCI rfl (zh hg rfl) cI)<|sgg rfl rfl (λ hg=>oM rfl (zh hg rfl))<|sgg rfl rfl (λ hg=>yL rfl kT25 (tp rfl))<|sgg rfl rfl (λ hg=>oM rfl (tp rfl))<|sgg rfl rfl (λ hg=>oM rfl (tp rfl))<|sgg rfl rfl (λ hg=>zP (l:=[.tmp 71,.tmp 72,.tmp 73]) rfl kN12 (.cons (zh hg rfl) (.cons (zh hg rfl) (.cons (zh hg rfl) .nil))) (FnN.fn<|Xp hR (gh hg p42)))<|sgg rfl rfl (λ hg=>oM rfl (tp rfl))<|sgg rfl rfl (λ hg=>zP (l:=[.tmp 74,.tmp 75]) rfl kN26 (.cons (zh hg rfl) (.cons (zh hg rfl) .nil)) (WY (gh hg p43)))<|sgg rfl rfl (λ hg=>zZ rfl (zh hg rfl) (Xv hg rfl))<|sg rfl rfl (λ hg=>yW rfl (zh hg rfl) (Xv hg rfl))<|sc rfl (zZ rfl (tp rfl) (zb rfl))<|segC))) [2] (λ _ _ st47=>wp_ret ?_)
 exact st47.ret rfl rfl h46
open Go.RowKit Tryz
theorem WD(c:List UInt8):jz (scc yt) c=some true:=by
 unfold jz
 refine zaK (Jw c) λ t path s ht hp3 hn=>?_
 have hp:path.length<=1048576:=by omega
 have hl0:=evV_len (t:=t) (s:=s) hp 0
 have n0:decide (ZN t path s≠ZN t path s)=false:=by simp
 dsimp only
 rw[zaX ht hp hn,obS,W8 ht hp hn,obS,n0,YH ht,YI hp,xk hn]
 have hbad:((some (ZN t path s)).bind λ v28=>some (decide (ZN t path s=v28)))=some true:=by rw[obS];simp
 cases hv:zH t with
 | false=>exact hbad
 |
  true=>
  cases hvp:yR path with
  | false=>exact hbad
  |
   true=>
   cases hs:zf s with
   | false=>exact hbad
   |
    true=>
    have hok:=okG_true hv hvp hs
    have hll:=Jo hv hp hs
    have e0:=evV_ok hok 0
    have e2:=evV_ok hok 2
    have hc:yA (resV (ranR t path s).1 [(ranR t path s).2.2]).log 2=some ((evs 2 (logV t path s)).length:Int):=Ja 2 (by show(logV t path s).length<=_;omega)
    have hgood:((wn (scc yt) t path s).bind λ v31=>
      (yA v31.log (2:Int)).bind λ v38=>
      (gO (((decide (ZN t path s≠(⟨[]⟩:Str)) == cmpI .gtr v38 (0:Int)) == true)&&(decide (ZN t path s=(⟨[]⟩:Str)) == false)) (atI v31.ends (0:Int))).bind λ v41=>
      (gO ((((decide (ZN t path s≠(⟨[]⟩:Str)) == cmpI .gtr v38 (0:Int)) == true)&&(decide (ZN t path s=(⟨[]⟩:Str)) == false))&&(cmpI .neq v41 (0:Int) == true)) (xu (scc yt) t path s)).bind λ v42=>
      (gO ((((decide (ZN t path s≠(⟨[]⟩:Str)) == cmpI .gtr v38 (0:Int)) == true)&&(decide (ZN t path s=(⟨[]⟩:Str)) == false))&&(cmpI .neq v41 (0:Int) == true)) (wL v42 (ZN t path s))).bind λ v43=>
      some ((decide (ZN t path s≠(⟨[]⟩:Str)) == cmpI .gtr v38 (0:Int))&&(decide (ZN t path s=(⟨[]⟩:Str))||(cmpI .neq v41 (0:Int)&&v43))))=some true:=by
     rw[zaL ht hp hn hok,obS,hc,obS]
     have hf:ZN t path s=(evs 2 (logV t path s)).headD emptyS:=by unfold ZN;rw[e2]
     rw[hf]
     cases hev:evs 2 (logV t path s) with
     | nil=>rfl
     |
      cons a l=>
      have ha:a∈evs 0 (logV t path s):=(ran_bal hv hp hs).1.sub a (.inr (by rw[hev];exact List.mem_cons_self ..))
      have hne:=valid_ne (start_valid hv hp hs ha)
      have he:cmpI .neq (ranR t path s).2.2 0=true:=by
       have:=fail_end hv hp hs (by rw[hev];exact List.cons_ne_nil _ _)
       simpa[cmpI] using this
      have hg:cmpI .gtr (((a::l).length:Nat):Int) 0=true:=by simp[cmpI]
      rw[show(a::l).headD emptyS=a from rfl,show decide (a≠(⟨[]⟩:Str))=true from decide_eq_true hne,show decide (a=(⟨[]⟩:Str))=false from decide_eq_false hne,hg,show(((true == true) == true)&&(false == false):Bool)=true from rfl,qr,show atI (resV (ranR t path s).1 [(ranR t path s).2.2]).ends 0=some (ranR t path s).2.2 from rfl,obS,he,show((true&&(true == true)):Bool)=true from rfl,qr,JT ht hp hn,obS,qr,XZ (by omega),e0,decide_eq_true ha]
      rfl
    exact hgood
theorem Jy(c:List UInt8):Fn prog 7 [dt c] (dt true):=WC (Y4 yt) (WD c)
end Go.Proofs.YtmenakmafojpaaaGreatDoor
