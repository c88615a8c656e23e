/-
  Models of functions, and their walks: printed by a program of our own (wip/mxo.py).
  Laws of the kind: the program returns what the reference returns.
-/
import Derived.Test.YtiiiokblnnlapaaGreatDoorRKFF
import Derived.Test.YtiiiokblnnlapaaGreatDoorRQFF
import Derived.Test.YtiiiokblnnlapaaGreatDoorRPFF
namespace Go.Proofs.YtiiiokblnnlapaaGreatDoor
open Go.RowKit
set_option maxRecDepth 10000
set_option maxHeartbeats 1600000
theorem kT24:tyB Tryz.prog 24 true 1=true:=by kernel_rfl
theorem kN15:fnB Tryz.prog 15=true:=by kernel_rfl
theorem kN17:fnB Tryz.prog 17=true:=by kernel_rfl
theorem kN18:fnB Tryz.prog 18=true:=by kernel_rfl
theorem kN16:fnB Tryz.prog 16=true:=by kernel_rfl
theorem kN19:fnB Tryz.prog 19=true:=by kernel_rfl
theorem kN20:fnB Tryz.prog 20=true:=by kernel_rfl
def xw(R:Rec)(x0:Tree)(x1:List Int)(x2:Str):Option Bool:=
if(cmpI .gtr (x1.length:Int) (1048576:Int))=true then(some true)
else(if(cmpI .gtr (x2.l.length:Int) (1048576:Int))=true then(some true)
else((qD x0 (1048576:Int)).bind λ v11=>
if(cmpI .lss v11 (0:Int))=true then(some true)
else((jg x0).bind λ v18=>
(wo x1).bind λ v19=>
(xF R v18 v19 x2).bind λ v20=>
(jg x0).bind λ v25=>
(wo x1).bind λ v32=>
(xE R v25 v32 x2).bind λ v35=>
if(decide (v35≠v20))=true then(some false)
else((jg x0).bind λ v42=>
(jM v25 v42).bind λ v43=>
if(!v43)=true then(some false)
else((wo x1).bind λ v50=>
(jN v32 v50).bind λ v51=>
if(!v51)=true then(some false)
else(some true))))))
theorem Yi{R:Rec}(hR:R.ok){x0:Tree}{x1:List Int}{x2:Str}{r:Bool}(h:xw R x0 x1 x2=some r):Fn Tryz.prog 3 [dt x0,dt x1,dt x2] (dt r):=by
 unfold xw at h
 refine fnx (fn:=Tryz.f3) 1 Tryz.func3 rfl (of_decide_eq_true rfl) rfl (λ M w0 a0 st0=>?_)
 refine st0.sq0 (
  sc rfl (z7 rfl (tp rfl))<|
  sc rfl (oA rfl cB)<|.nil) [1,2,3] rfl (λ a1 w1 st1=>?_)
 refine wp_seq ?_
 refine st1.sq0 (
  sc rfl (oM rfl (tp rfl))<|
  sc rfl (zL rfl kL25 (tp rfl))<|
  sc rfl (oCI rfl (tp rfl) cI)<|.nil) [1,2,3,14] rfl (λ a2 w2 st2=>?_)
 refine st2.cs (c:=14) rfl h (λ c3 h3=>?_) (λ c4 h4=>?_)
 ·
  refine st2.sq0 (
   sc rfl (oA rfl cB)<|.nil) [6] rfl (λ a5 w5 st5=>?_)
  refine wp_ret (ze ?_)
  exact st5.ret rfl rfl h3
 ·
  refine wp_skip (za (wp_seq ?_))
  refine st2.sq0 (
   sc rfl (oM rfl (tp rfl))<|
   sc rfl (xU rfl kX9 (tp rfl))<|
   sc rfl (oCI rfl (tp rfl) cI)<|.nil) [1,2,3,17] rfl (λ a6 w6 st6=>?_)
  refine st6.cs (c:=17) rfl h4 (λ c7 h7=>?_) (λ c8 h8=>?_)
  ·
   refine st6.sq0 (
    sc rfl (oA rfl cB)<|.nil) [6] rfl (λ a9 w9 st9=>?_)
   refine wp_ret (ze ?_)
   exact st9.ret rfl rfl h7
  ·
   refine wp_skip (za ?_)
   refine st6.sq0 (
    sc rfl (oA rfl cI)<|.nil) [1,2,3,7] rfl (λ a10 w10 st10=>?_)
   obtain⟨v11,p11,h12⟩:=bs h8
   refine st10.sq0 (
    sc rfl (zd rfl kT24 (tp rfl))<|
    sc rfl (oM rfl (tp rfl))<|
    sc rfl (zj (l:=[.tmp 18,.tmp 19]) rfl kN15 (.cons (tp rfl) (.cons (tp rfl) .nil)) (laws_szTree_w p11))<|
    sc rfl (oA rfl (tp rfl))<|.nil) [1,2,3,7] rfl (λ a13 w13 st13=>?_)
   refine wp_seq ?_
   refine st13.sq0 (
    sc rfl (oM rfl (tp rfl))<|
    sc rfl (oCI rfl (tp rfl) cI)<|.nil) [1,2,3,22] rfl (λ a14 w14 st14=>?_)
   refine st14.cs (c:=22) rfl h12 (λ c15 h15=>?_) (λ c16 h16=>?_)
   ·
    refine st14.sq0 (
     sc rfl (oA rfl cB)<|.nil) [6] rfl (λ a17 w17 st17=>?_)
    refine wp_ret (ze ?_)
    exact st17.ret rfl rfl h15
   ·
    refine wp_skip (za ?_)
    obtain⟨v18,p18,h21⟩:=bs h16
    obtain⟨v19,p19,h22⟩:=bs h21
    obtain⟨v20,p20,h23⟩:=bs h22
    refine st14.sq0 (
     sc rfl (zd rfl kT24 (tp rfl))<|
     sc rfl (zj (l:=[.tmp 23]) rfl kN17 (.cons (tp rfl) .nil) (FnN.fn<|YG p18))<|
     sc rfl (oM rfl (tp rfl))<|
     sc rfl (zj (l:=[.tmp 25]) rfl kN18 (.cons (tp rfl) .nil) ((YH p19)).fn)<|
     sc rfl (oM rfl (tp rfl))<|
     sc rfl (zj (l:=[.tmp 24,.tmp 26,.tmp 27]) rfl kN16 (.cons (tp rfl) (.cons (tp rfl) (.cons (tp rfl) .nil))) (Wb hR p20))<|
     sc rfl (oA rfl (tp rfl))<|.nil) [1,2,3,8] rfl (λ a24 w24 st24=>?_)
    refine wp_seq (wp_region_list ?_)
    obtain⟨v25,p25,h26⟩:=bs h23
    refine st24.seg 2 (
     sc rfl (zd rfl kT24 (tp rfl))<|
     sc rfl (zj (l:=[.tmp 29]) rfl kN17 (.cons (tp rfl) .nil) (FnN.fn<|YG p25))<|.nil) [1,2,3,8,30] rfl [] rfl trivial (λ a27 w27 st27=>?_)
    refine st27.alloc 0 rfl rfl kZ30 zrTree (by simp) [1,2,3,8,30] rfl [] rfl rfl (λ b29 M29 a29 w29 st29=>?_)
    refine st29.store (sb:=9) 0 FldS.id rfl rfl rfl kT30 rfl rfl (tp rfl) rfl [1,2,3,8] rfl [] rfl rfl (λ M31 w31 st31=>?_)
    refine wpList_nil (za ?_)
    obtain⟨v32,p32,h33⟩:=bs h26
    refine st31.sq (
     sc rfl (oM rfl (tp rfl))<|
     sc rfl (zj (l:=[.tmp 31]) rfl kN18 (.cons (tp rfl) .nil) ((YH p32)).fn)<|
     sc rfl (oA rfl (tp rfl))<|.nil) [1,2,3,8,10] rfl [(9,0)] rfl ⟨iI,trivial⟩ (λ a34 w34 st34=>?_)
    obtain⟨v35,p35,h36⟩:=bs h33
    refine st34.sq (
     sc rfl (zP rfl kT30 (tp rfl))<|
     sc rfl (oM rfl (tp rfl))<|
     sc rfl (oM rfl (tp rfl))<|
     sc rfl (zj (l:=[.tmp 33,.tmp 34,.tmp 35]) rfl kN19 (.cons (tp rfl) (.cons (tp rfl) (.cons (tp rfl) .nil))) (Wa hR p35))<|
     sc rfl (oA rfl (tp rfl))<|.nil) [1,3,8,10,11] rfl [(9,0)] rfl ⟨iI,trivial⟩ (λ a37 w37 st37=>?_)
    refine wp_seq ?_
    refine st37.sq (
     sc rfl (oM rfl (tp rfl))<|
     sc rfl (oM rfl (tp rfl))<|
     sc rfl (jQ rfl (tp rfl) (tp rfl))<|.nil) [1,3,10,39] rfl [(9,0)] rfl ⟨iI,trivial⟩ (λ a38 w38 st38=>?_)
    refine st38.cs (c:=39) rfl h36 (λ c39 h39=>?_) (λ c40 h40=>?_)
    ·
     refine st38.sq0 (
      sc rfl (oA rfl cB)<|.nil) [6] rfl (λ a41 w41 st41=>?_)
     refine wp_ret (ze ?_)
     exact st41.ret rfl rfl h39
    ·
     refine wp_skip (za (wp_seq (wp_seq ?_)))
     obtain⟨v42,p42,h44⟩:=bs h40
     obtain⟨v43,p43,h45⟩:=bs h44
     refine st38.dr (D:=[_,_,_,_,_]) zJ [[],[],[1],[0,1,2],[0,1,2,3]] [[(9,none)],[(3,none)],[(41,some 1)],[(40,some 0),(42,some 2)],[(43,some 3)]] (by decide +kernel) (
      rc rfl rfl (zP rfl kT30 (tp rfl))<|
      rc rfl rfl (zd rfl kT24 (tp rfl))<|
      rc rfl rfl (zj (l:=[.tmp 41]) rfl kN17 (.cons (tp rfl) .nil) (FnN.fn<|YG p42))<|
      rc rfl rfl (zj (l:=[.tmp 40,.tmp 42]) rfl kN20 (.cons (tp rfl) (.cons (tp rfl) .nil)) (laws_eqTree_w p43))<|
      rc rfl rfl (ye rfl (tp rfl))<|.nil) [1,10,44] rfl [] rfl trivial (λ a46 w46 st46=>?_)
     refine za ?_
     refine st46.cs (c:=44) rfl h45 (λ c47 h47=>?_) (λ c48 h48=>?_)
     ·
      refine st46.sq0 (
       sc rfl (oA rfl cB)<|.nil) [6] rfl (λ a49 w49 st49=>?_)
      refine wp_ret (ze ?_)
      exact st49.ret rfl rfl h47
     ·
      refine wp_skip (za (wp_seq ?_))
      obtain⟨v50,p50,h52⟩:=bs h48
      obtain⟨v51,p51,h53⟩:=bs h52
      refine st46.sq0 (
       sc rfl (oM rfl (tp rfl))<|
       sc rfl (oM rfl (tp rfl))<|
       sc rfl (zj (l:=[.tmp 46]) rfl kN18 (.cons (tp rfl) .nil) ((YH p50)).fn)<|
       sc rfl (zj (l:=[.tmp 45,.tmp 47]) rfl kN21 (.cons (tp rfl) (.cons (tp rfl) .nil)) (laws_eqIntS_w p51))<|
       sc rfl (ye rfl (tp rfl))<|.nil) [49] rfl (λ a54 w54 st54=>?_)
      refine st54.cs (c:=49) rfl h53 (λ c55 h55=>?_) (λ c56 h56=>?_)
      ·
       refine st54.sq0 (
        sc rfl (oA rfl cB)<|.nil) [6] rfl (λ a57 w57 st57=>?_)
       refine wp_ret (ze ?_)
       exact st57.ret rfl rfl h55
      ·
       refine wp_skip (za ?_)
       refine st54.sq0 (
        sc rfl (oA rfl cB)<|.nil) [6] rfl (λ a58 w58 st58=>?_)
       refine wp_ret ?_
       exact st58.ret rfl rfl h56
open Go.RowKit
theorem JS{t:Tree}{p:List Int}{s:Str}(ht:Okd t):xw (scc ji) t p s=some true:=by
 unfold xw
 cases hp:cmpI .gtr (p.length:Int) 1048576 with
 | true=>rw[if_pos rfl]
 |
  false=>
  have hp':p.length<=1048576:=by have:=of_decide_eq_false hp;omega
  rw[if_neg (by decide)]
  cases hq:cmpI .gtr (s.l.length:Int) 1048576 with
  | true=>rw[if_pos rfl]
  |
   false=>
   have hq':s.l.length<=1048576:=by have:=of_decide_eq_false hq;omega
   have hsh:sho s:=by unfold sho;omega
   rw[if_neg (by decide),szTree_eq ht (by omega) (by omega),Option.bind_some]
   cases hs:cmpI .lss (szR (qN t) 1048576) 0 with
   | true=>rw[if_pos rfl]
   |
    false=>
    have hs':¬ szR (qN t) 1048576<0:=of_decide_eq_false hs
    obtain⟨h1,_⟩:=szR_nn (t:=qN t) (left:=1048576) (by omega)
    have h2:qN t<=1048576:=by omega
    have hsm:=sm_tree h2
    have e1:=toTree_eq h2
    have e2:wo p=some p:=toIntS_eq (by unfold totIntS;exact hp')
    have e3:xF (scc ji) t p s=some (failV t p s):=XZ hsm hp' hsh
    have e4:xE (scc ji) t p s=some (failV t p s):=Qa hsm hp' hsh
    have e6:jM t t=some true:=by rw[eqTree_eq (by omega)];simp
    have e7:jN p p=some true:=by rw[eqIntS_eq (by omega)];simp
    rw[if_neg (by decide),e1,Option.bind_some,e2,Option.bind_some,e3,Option.bind_some,Option.bind_some,Option.bind_some,e4,Option.bind_some,if_neg (by simp),Option.bind_some,e6,Option.bind_some,if_neg (by decide),Option.bind_some,e7,Option.bind_some,if_neg (by decide)]
theorem YK(t:Tree)(p:List Int)(s:Str):Fn Tryz.prog 3 [dt t,dt p,dt s] (dt true):=.okd (x:=t) (by simp) λ ht=>Yi (YF ji) (JS ht)
end Go.Proofs.YtiiiokblnnlapaaGreatDoor
