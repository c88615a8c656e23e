import Derived.Test.YtmenakmafojpaaaGreatDoorRB
import Derived.Test.YtmenakmafojpaaaGreatDoorRO
import Derived.Test.YtmenakmafojpaaaGreatDoorRKc
import Derived.Test.YtmenakmafojpaaaGreatDoorRK
import Derived.Test.YtmenakmafojpaaaGreatDoorRQ
namespace Go.Proofs.YtmenakmafojpaaaGreatDoor
open Go.RowKit
attribute [local irreducible] OpRel OpdR
set_option maxRecDepth 10000
set_option maxHeartbeats 1600000
def wu(R:Rec)(x0:List UInt8):Option Bool:=
if(cmpI .gtr (x0.length:Int) (1048576:Int))=true then(some true)
else((xQ x0).bind λ v6=>
(xN R v6.1 v6.2.1 v6.2.2).bind λ v14=>
(jq R v6.1 v6.2.1 v6.2.2).bind λ v17=>
(gO (cmpI .neq v14.1 v17.1 == false) (yn v14.2 v17.2)).bind λ v20=>
if((cmpI .neq v14.1 v17.1||(!v20))||cmpI .lss v14.1 (0:Int))=true then((gO (cmpI .eql v14.1 v17.1 == true) (yn v14.2 v17.2)).bind λ v25=>
some (cmpI .eql v14.1 v17.1&&v25))
else((yY v6.2.2).bind λ v28=>
(atI v28 (0:Int)).bind λ v29=>
(qr v6.1 v6.2.1 v29).bind λ v30=>
some (v30||(cmpI .eql v14.1 (1:Int)&&cmpI .eql (v14.2.length:Int) (0:Int)))))
theorem XG{R:Rec}(hR:R.ok){x0:List UInt8}{r:Bool}(h:wu R x0=some r):Fn Tryz.prog 6 [dt x0] (dt r):=by
 unfold wu at h
 refine fnx (fn:=Tryz.f6) 1 Tryz.func6 rfl (oD rfl) rfl (λ M _ _ st0=>?_)
 refine st0.sq1 [0] (λ _ _ st1=>wp_seq ?_)
 refine st1.sq1 [0,12] (λ _ _ st2=>?_)
 refine st2.cs rfl h (λ _ h3=>?_) (λ _ h4=>wp_skip (za (wp_seq (wp_region_list ?_))))
 ·
  refine st2.sq1 [2] (λ _ _ st5=>wp_ret (zd ?_))
  exact st5.ret rfl rfl h3
 obtain⟨v6,p6,h7⟩:=bsW h4 YX
 refine st2.segA 6 [16,17,18] [] (λ _ _ st8=>?_)
 refine st8.alloc 0 rfl rfl kZ25 Xs (by simp) [16,17,18] rfl [] rfl rfl (λ b10 _ _ _ st10=>?_)
 refine st10.store (sb:=3) 0 FldS.id rfl rfl rfl kT25 rfl rfl (tp rfl) rfl [17,18] rfl [] rfl rfl (λ _ _ st12=>?_)
 refine st12.segA 2 [4,5] [(3,0)] (λ _ _ st13=>wpList_nil (za ?_))
 obtain⟨v14,p14,h15⟩:=bs h7
 refine st13.sqB (sP 3 (r:=by exact sc rfl (oK (FnN.fn2<|Yx hR p14))<|segC)) [4,5,6,7] [(3,0)] (λ _ _ st16=>?_)
 obtain⟨v17,p17,h18⟩:=bsW h15 (Wl hR)
 refine st16.sqC [4,5,6,7,8,9] [(3,0)] (λ _ _ st19=>wp_seq ?_)
 obtain⟨v20,p20,h21⟩:=bs h18
 refine st19.sqB (sP 6 (r:=by exact sg rfl rfl (λ hg=>oK (wV (gh hg p20)))<|sP 1 (r:=by exact sc rfl (yt rfl (tp rfl) (zb rfl))<|sP 3 (r:=by exact sc rfl (yt rfl (tp rfl) (zb rfl))<|.nil)))) [4,5,6,7,8,9,45] [(3,0)] (λ _ _ st22=>?_)
 refine st22.cs rfl h21 (λ _ h23=>?_) (λ _ h24=>wp_skip (za (wp_seq ?_)))
 ·
  obtain⟨v25,p25,h26⟩:=bs h23
  refine st22.sq2 (sP 6 (r:=by exact sg rfl rfl (λ hg=>oK (wV (gh hg p25)))<|sc rfl (zX rfl (tp rfl) (zb rfl))<|segC)) [2] (λ _ _ st27=>wp_ret (zd ?_))
  exact st27.ret rfl rfl h26
 obtain⟨v28,p28,h31⟩:=bs h24
 obtain⟨v29,p29,h32⟩:=bs h31
 obtain⟨v30,p30,h33⟩:=bs h32
 refine st22.dr (D:=[_,_,_,_,_,_,_,_,_,_,_,_,_,_,_,_,_]) zE [[],[],[],[2],[2,3],[2,3,4],[0,1,2,3,4,5],[0,1,2,3,4,5,6],[0,1,2,3,4,5,6,7],[0,1,2,3,4,5,6,7,8],[0,1,2,3,4,5,6,7,8,9],[0,1,2,3,4,5,6,7,8,9,10],[0,1,2,3,4,5,6,7,8,9,10,11],[0,1,2,3,4,5,6,7,8,9,10,11,12],[0,1,2,3,4,5,6,7,8,9,10,11,12,13],[0,1,2,3,4,5,6,7,8,9,10,11,12,13,14],[0,1,2,3,4,5,6,7,8,9,10,11,12,13,14,15]] [[(3,none)],[(4,none)],[(5,none)],[(56,some 2)],[(57,some 3)],[(58,some 4)],[(54,some 0),(55,some 1),(59,some 5)],[(60,some 6)],[(6,none),(61,some 7)],[(62,some 8),(61,some 7)],[(63,some 9),(61,some 7)],[(7,none),(64,some 10)],[(65,some 11),(64,some 10)],[(66,some 12),(64,some 10)],[(64,some 10),(67,some 13),(61,some 7)],[(61,some 7),(68,some 14)],[(69,some 15)]] (by decide +kernel) (
  rc rfl rfl (yq rfl kT25 (tp rfl))<|rc rfl rfl (oM rfl (tp rfl))<|rc rfl rfl (oM rfl (tp rfl))<|rc rfl rfl (zH (l:=[.tmp 56]) rfl kN20 (.cons (tp rfl) .nil) ((Yb p28)).fn)<|rc rfl rfl (xIdx rfl kS29 (tp rfl) cI p29)<|rc rfl rfl (zm rfl kT9 (tp rfl))<|rc rfl rfl (zH (l:=[.tmp 54,.tmp 55,.tmp 59]) rfl kN31 (.cons (tp rfl) (.cons (tp rfl) (.cons (tp rfl) .nil))) (Je p30))<|rc rfl rfl (oM rfl (tp rfl))<|rg rfl rfl rfl (λ hg=>oM rfl (tp rfl))<|rg rfl rfl rfl (λ hg=>oCI rfl (zg hg rfl) cI)<|rg rfl rfl rfl (λ hg=>oM rfl (zg hg rfl))<|rgg rfl rfl rfl (λ hg=>oM rfl (tp rfl))<|rgg rfl rfl rfl (λ hg=>Z2 rfl kL29 (zg hg rfl))<|rgg rfl rfl rfl (λ hg=>oCI rfl (zg hg rfl) cI)<|rg rfl rfl rfl (λ hg=>zX rfl (zg hg rfl) (Wz hg rfl))<|rc rfl rfl (yt rfl (tp rfl) (zb rfl))<|rc rfl rfl (oA rfl (tp rfl))<|.nil) [2] rfl [] rfl trivial (λ _ _ st34=>?_)
 refine za (wp_ret ?_)
 exact st34.ret rfl rfl h33
open Go.RowKit
theorem XH(c:List UInt8):wu (scc yA) c=some true:=by
 unfold wu
 refine XU (Wo c) λ t path s ht hp3 hn=>?_
 have hp:path.length<=1048576:=by omega
 have hlc:=zaN (t:=t) (s:=s) hp
 have hE:=Qw (l:=Y9 t path s) (by omega)
 have n0:cmpI .neq (endV t path s) (endV t path s)=false:=by simp[cmpI]
 have q0:cmpI .eql (endV t path s) (endV t path s)=true:=by simp[cmpI]
 dsimp only
 rw[WT ht hp hn,obS,XT ht hp hn,obS]
 dsimp only
 rw[n0,q0,show((false:Bool) == false)=true from rfl,wt,hE,obS]
 cases hneg:cmpI .lss (endV t path s) 0 with
 | true=>rfl
 |
  false=>
  have hok:okG t path s=true:=by
   cases h:okG t path s with
   | true=>rfl
   | false=>rw[endV_off h] at hneg;cases hneg
  obtain⟨hv,hvp,hs⟩:=j0 hok
  rw[if_neg (by decide),endV_ok hok,Jv hok]
  have hlc':(q5 (ranR t path s).1.mods).length<=12012:=by rw[← Jv hok];exact hlc
  have h3:=zbL hs
  have htv:=top_valid hs
  rw[Wa hs,obS,show atI (jE s) 0=(jE s)[0]? from zI _ 0,zaP,obS,zbH ht hp (xx htv),findOf_ok (okG_true hv hvp htv),obS]
  by_cases hk:(find t.files path (Yo s)).kind=0
  ·
   obtain⟨h1,h2⟩:=end_missing hv hp hs hk
   rw[h1,h2,hk]
   rfl
  ·
   rw[show cmpI .neq (find t.files path (Yo s)).kind 0=true from by simpa[cmpI] using hk]
   rfl
theorem Wv(c:List UInt8):Fn Tryz.prog 6 [dt c] (dt true):=XG (Yy yA) (XH c)
end Go.Proofs.YtmenakmafojpaaaGreatDoor
