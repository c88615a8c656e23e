import Derived.Test.YtmenakmafojpaaaGreatDoorRB
import Derived.Test.YtmenakmafojpaaaGreatDoorRO
import Derived.Test.YtmenakmafojpaaaGreatDoorRKc
import Derived.Test.YtmenakmafojpaaaGreatDoorRK
import Derived.Test.YtmenakmafojpaaaGreatDoorRQ
namespace Go.Proofs.YtmenakmafojpaaaGreatDoor
open Go.RowKit
attribute [local irreducible] OpRel OpdR
set_option maxRecDepth 10000
set_option maxHeartbeats 1600000
theorem kN30:fnB Tryz.prog 30=true:=by kernel_rfl
def qI(R:Rec)(x0:List UInt8):Option Bool:=
if(cmpI .gtr (x0.length:Int) (1048576:Int))=true then(some true)
else((xQ x0).bind λ v6=>
(xN R v6.1 v6.2.1 v6.2.2).bind λ v14=>
(jq R v6.1 v6.2.1 v6.2.2).bind λ v17=>
(gO (cmpI .neq v14.1 v17.1 == false) (yn v14.2 v17.2)).bind λ v20=>
if((cmpI .neq v14.1 v17.1||(!v20))||cmpI .lss v14.1 (0:Int))=true then((gO (cmpI .eql v14.1 v17.1 == true) (yn v14.2 v17.2)).bind λ v25=>
some (cmpI .eql v14.1 v17.1&&v25))
else(if(cmpI .neq v14.1 (0:Int))=true then((yu v6.2.2).bind λ v31=>
(gO (decide (v31≠(⟨[]⟩:Str)) == false) (wP v14.2 v6.2.2)).bind λ v32=>
some (decide (v31≠(⟨[]⟩:Str))||(!v32)))
else((yY v6.2.2).bind λ v36=>
(xH v36 v14.2).bind λ v37=>
(gO (v37 == true) (qr v6.1 v6.2.1 v6.2.2)).bind λ v38=>
some (v37&&v38))))
theorem Qx{R:Rec}(hR:R.ok){x0:List UInt8}{r:Bool}(h:qI R x0=some r):Fn Tryz.prog 5 [dt x0] (dt r):=by
 unfold qI at h
 refine fnx (fn:=Tryz.f5) 1 Tryz.func5 rfl (oD rfl) rfl (λ M _ _ st0=>?_)
 refine st0.sq1 [0] (λ _ _ st1=>wp_seq ?_)
 refine st1.sq1 [0,12] (λ _ _ st2=>?_)
 refine st2.cs rfl h (λ _ h3=>?_) (λ _ h4=>wp_skip (za (wp_seq (wp_region_list ?_))))
 ·
  refine st2.sq1 [2] (λ _ _ st5=>wp_ret (zd ?_))
  exact st5.ret rfl rfl h3
 obtain⟨v6,p6,h7⟩:=bsW h4 YX
 refine st2.segA 6 [16,17,18] [] (λ _ _ st8=>?_)
 refine st8.alloc 0 rfl rfl kZ25 Xs (by simp) [16,17,18] rfl [] rfl rfl (λ b10 _ _ _ st10=>?_)
 refine st10.store (sb:=3) 0 FldS.id rfl rfl rfl kT25 rfl rfl (tp rfl) rfl [17,18] rfl [] rfl rfl (λ _ _ st12=>?_)
 refine st12.segA 2 [4,5] [(3,0)] (λ _ _ st13=>wpList_nil (za ?_))
 obtain⟨v14,p14,h15⟩:=bs h7
 refine st13.sqB (sP 3 (r:=by exact sc rfl (oK (FnN.fn2<|Yx hR p14))<|segC)) [4,5,6,7] [(3,0)] (λ _ _ st16=>?_)
 obtain⟨v17,p17,h18⟩:=bsW h15 (Wl hR)
 refine st16.sqC [4,5,6,7,8,9] [(3,0)] (λ _ _ st19=>wp_seq ?_)
 obtain⟨v20,p20,h21⟩:=bs h18
 refine st19.sqB (sP 6 (r:=by exact sg rfl rfl (λ hg=>oK (wV (gh hg p20)))<|sP 1 (r:=by exact sc rfl (yt rfl (tp rfl) (zb rfl))<|sP 3 (r:=by exact sc rfl (yt rfl (tp rfl) (zb rfl))<|.nil)))) [4,5,6,7,8,9,45] [(3,0)] (λ _ _ st22=>?_)
 refine st22.cs rfl h21 (λ _ h23=>?_) (λ _ h24=>wp_skip (za (wp_seq ?_)))
 ·
  obtain⟨v25,p25,h26⟩:=bs h23
  refine st22.sq2 (sP 6 (r:=by exact sg rfl rfl (λ hg=>oK (wV (gh hg p25)))<|sc rfl (zX rfl (tp rfl) (zb rfl))<|segC)) [2] (λ _ _ st27=>wp_ret (zd ?_))
  exact st27.ret rfl rfl h26
 refine st22.sqA [4,5,7,55] [(3,0)] (λ _ _ st28=>?_)
 refine st28.cs rfl h24 (λ _ h29=>?_) (λ _ h30=>wp_skip (za ?_))
 ·
  obtain⟨v31,p31,h33⟩:=bs h29
  obtain⟨v32,p32,h34⟩:=bs h33
  refine st28.sq2 (sP 1 (r:=by exact sc rfl (oK (ja p31))<|sP 4 (r:=by exact sg rfl rfl (λ hg=>oK (Xy (gh hg p32)))<|sP 1 (r:=by exact sc rfl (yt rfl (tp rfl) (zb rfl))<|segC)))) [2] (λ _ _ st35=>wp_ret (zd ?_))
  exact st35.ret rfl rfl h34
 obtain⟨v36,p36,h39⟩:=bs h30
 obtain⟨v37,p37,h40⟩:=bs h39
 obtain⟨v38,p38,h41⟩:=bs h40
 refine st28.sq2 (sc rfl (oM rfl (tp rfl))<|sc rfl (zH (l:=[.tmp 65]) rfl kN20 (.cons (tp rfl) .nil) ((Yb p36)).fn)<|sc rfl (oM rfl (tp rfl))<|sc rfl (zH (l:=[.tmp 66,.tmp 67]) rfl kN30 (.cons (tp rfl) (.cons (tp rfl) .nil)) (Qm p37))<|sc rfl (oM rfl (tp rfl))<|sg rfl rfl (λ hg=>yq rfl kT25 (tp rfl))<|sg rfl rfl (λ hg=>oM rfl (tp rfl))<|sg rfl rfl (λ hg=>oM rfl (tp rfl))<|sg rfl rfl (λ hg=>zH (l:=[.tmp 70,.tmp 71,.tmp 72]) rfl kN31 (.cons (zg hg rfl) (.cons (zg hg rfl) (.cons (zg hg rfl) .nil))) (Je (gh hg p38)))<|sc rfl (zX rfl (tp rfl) (zb rfl))<|sc rfl (oA rfl (tp rfl))<|.nil) [2] (λ _ _ st42=>wp_ret ?_)
 exact st42.ret rfl rfl h41
open Go.RowKit
theorem Qy(c:List UInt8):qI (scc yA) c=some true:=by
 unfold qI
 refine XU (Wo c) λ t path s ht hp3 hn=>?_
 have hp:path.length<=1048576:=by omega
 have hlc:=zaN (t:=t) (s:=s) hp
 have hE:=Qw (l:=Y9 t path s) (by omega)
 have n0:cmpI .neq (endV t path s) (endV t path s)=false:=by simp[cmpI]
 have q0:cmpI .eql (endV t path s) (endV t path s)=true:=by simp[cmpI]
 dsimp only
 rw[WT ht hp hn,obS,XT ht hp hn,obS]
 dsimp only
 rw[n0,q0,show((false:Bool) == false)=true from rfl,wt,hE,obS]
 cases hneg:cmpI .lss (endV t path s) 0 with
 | true=>rfl
 |
  false=>
  have hok:okG t path s=true:=by
   cases h:okG t path s with
   | true=>rfl
   | false=>rw[endV_off h] at hneg;cases hneg
  obtain⟨hv,hvp,hs⟩:=j0 hok
  rw[if_neg (by decide),endV_ok hok,Jv hok]
  have hlc':(q5 (ranR t path s).1.mods).length<=12012:=by rw[← Jv hok];exact hlc
  have h3:=zbL hs
  cases he:cmpI .neq (ranR t path s).2.2 0 with
  |
   true=>
   have he':(ranR t path s).2.2≠0:=by simpa[cmpI] using he
   rw[if_pos rfl,Zr hs,obS]
   by_cases hpe:zo s=emptyS
   ·
    rw[show decide (zo s≠(⟨[]⟩:Str))=false from decide_eq_false (λ h=>h hpe),YC (by omega),decide_eq_false (end_out hv hp hs he' hpe)]
    rfl
   ·
    rw[show decide (zo s≠(⟨[]⟩:Str))=true from decide_eq_true hpe]
    rfl
  |
   false=>
   have he':(ranR t path s).2.2=0:=by simpa[cmpI] using he
   have hw:xH (jE s) (q5 (ranR t path s).1.mods)=some true:=within_all (by omega) (by omega) λ y hy=>end_above hv hp hs he' hy
   have hf:cmpI .neq (find t.files path s).kind 0=true:=by simpa[cmpI] using end_found hv hp hs he'
   rw[if_neg (by decide),Wa hs,obS,hw,obS,show((true:Bool) == true)=true from rfl,wt,zbH ht hp hn,findOf_ok hok,hf]
   rfl
theorem zaQ(c:List UInt8):Fn Tryz.prog 5 [dt c] (dt true):=Qx (Yy yA) (Qy c)
end Go.Proofs.YtmenakmafojpaaaGreatDoor
