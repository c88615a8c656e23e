import Derived.Test.YtandbaloaenciaaGreatDoorRH
import Derived.Test.YtandbaloaenciaaGreatDoorRB
import Derived.Test.YtandbaloaenciaaGreatDoorRO
import Derived.Test.YtandbaloaenciaaGreatDoorRKc
import Derived.Test.YtandbaloaenciaaGreatDoorRU
import Derived.Test.YtandbaloaenciaaGreatDoorRV
import Derived.Test.YtandbaloaenciaaGreatDoorRI
namespace Go.Proofs.YtandbaloaenciaaGreatDoor
open Go.RowKit Tryz
attribute [local irreducible] OpRel OpdR
set_option maxRecDepth 10000
set_option maxHeartbeats 1600000
variable{r:Bool}{d:Disk}{F G:Disk->Str->List Int}{run:Disk->Str->Option (List Int)}{s:Disk×List (List Int)}{a:GAct}{t ticks x2:Int}{l x0:List GAct}{p path x1:List Int}{k:Nat}{R:Rec}
theorem kN23:fnB prog 23=true:=by kernel_rfl
theorem kN33:fnB prog 33=true:=by kernel_rfl
theorem kN34:fnB prog 34=true:=by kernel_rfl
def ju(R:Rec)(x0:List GAct)(x1:List Int)(x2:Int):Option Bool:=
if(cmpI .gtr (x1.length:Int) 1048576)=true then(some true)
else((YQ x0 (1048576:Int)).bind λ v7=>
if cmpI .lss v7 0 then(some true)
else((qE x0).bind λ v14=>
(jw x1).bind λ v15=>
(ZJ R v14 v15 x2).bind λ v16=>
(qE x0).bind λ v23=>
(jw x1).bind λ v29=>
(qm R v23 v29 x2).bind λ v35=>
(wk v35 v16).bind λ v39=>
if(!v39)=true then(some false)
else((qE x0).bind λ v45=>
(ZU v23 v45).bind λ v46=>
if(!v46)=true then(some false)
else((jw x1).bind λ v53=>
(qD v29 v53).bind λ v54=>
if(!v54)=true then(some false)
else((YU v23 (1:Int)).bind λ v64=>
(ZK v29 v64.2).bind λ v69=>
(gO (cmpI .lss v69.2 0 == false) (wk v35 v16)).bind λ v72=>
if(cmpI .lss v69.2 0||(!v72))=true then(some false)
else((Zp v35 (1:Int)).bind λ v81=>
(xZ v81.1 (1:Int)).bind λ v85=>
if cmpI .lss v85 0 then(some false)
else(if cmpI .neq v85 v81.2 then(some false)
else((qE x0).bind λ v96=>
(jw x1).bind λ v97=>
(qm R v96 v97 x2).bind λ v98=>
(wk v98 v16).bind λ v103=>
if(!v103)=true then(some false)
else((xZ v81.1 (1:Int)).bind λ v110=>
if cmpI .lss v110 0 then(some false)
else(if cmpI .neq v110 v81.2 then(some false)
else(some true)))))))))))
theorem QB(hR:R.ok)(h:ju R x0 x1 x2=some r):Fn prog 5 [dt x0,dt x1,dt x2] (dt r):=by
 unfold ju at h
 refine fnx (fn:=f5) 3 func5 Z Z λ M _ _ st0=>?_
 refine st0.sq1 [0,1,2] (λ _ _ st1=>Kc ?_)
 refine st1.sq1 [0,1,2,18] λ _ _ st2=>?_
 refine st2.cs h (λ _ h3=>?_) (λ _ h4=>wp_skip (za ?_))
 ·refine st2.sq1 [6] (λ _ _ st5=>wp_ret (zJ ?_))
  exact st5.ret Z Z h3
 refine st2.sq1 [0,1,2,7] λ _ _ st6=>?_
 obtain⟨v7,p7,h8⟩:=bsW h4 za6
 refine st6.sq1 [0,1,2,7] (λ _ _ st9=>Kc ?_)
 refine st9.sq1 [0,1,2,23] λ _ _ st10=>?_
 refine st10.cs h8 (λ _ h11=>?_) (λ _ h12=>wp_skip (za ?_))
 ·refine st10.sq1 [6] (λ _ _ st13=>wp_ret (zJ ?_))
  exact st13.ret Z Z h11
 obtain⟨v14,p14,v15,p15,v16,p16,h19⟩:=bsC h12
 refine st10.sq2 (sP 1 (r:=by exact sc Z (oK (FnN.fn<|X7 p14))<|sP 1 (r:=by exact sc Z (zF (l:=[.tmp 26]) Z (.cons (tp Z) .nil) ((X5 p15)).fn)<|sP 1 (r:=by exact sc Z (zF (l:=[.tmp 25,.tmp 27,.tmp 28]) Z (.cons (tp Z) (.cons (tp Z) (.cons (tp Z) .nil))) ((zdm hR p16)).fn)<|segC)))) [0,1,2,8] (λ _ _ st20=>Kc (Ka ?_))
 refine st20.segA 1 [0,1,2,8,30] [] λ _ _ st21=>?_
 have⟨v23,p23,h24⟩:=bs h19
 refine st21.cN (l:=[.tmp 30]) 0 (.cons (tp Z) .nil) (X7 p23) [0,1,2,8] [] λ _ _ _ _ st22=>?_
 refine st22.nmR (s:=31) 0 [] λ g25 A25 _ hA25 st25=>?_
 refine st25.segA 1 [0,1,2,8] [(9,0)] (λ _ _ st26=>Kb (za (Kc (Ka ?_))))
 refine st26.segA 1 [0,1,2,8,32] [(9,0)] λ _ _ st27=>?_
 have⟨v29,p29,h30⟩:=bs h24
 refine st27.cN (l:=[.tmp 32]) 1 (.cons (tp Z) .nil) (X5 p29).n [0,1,2,8] [9] λ _ _ _ _ st28=>?_
 refine st28.nmR (s:=33) 1 [9] λ g31 A31 _ hA31 st31=>?_
 refine st31.segA 1 [0,1,2,8] [(9,0),(10,1)] (λ _ _ st32=>Kb (za (Kc (Ka ?_))))
 refine st32.segA 3 [0,1,2,8,36] [(9,0),(10,1),(34,0),(35,1)] λ _ _ st33=>?_
 have⟨v35,p35,h36⟩:=bs h30
 refine st33.cNb (l:=[.tmp 34,.tmp 35,.tmp 36]) 2 Z Z kN23 st33.ob.sub (.cons (lendN st33.ob 0 iI (tp Z)) (.cons (lendN st33.ob 1 iI (tp Z)) (.cons (xA st33.ob.sub (tp Z)) .nil))) (Js hR p35) (full_row (full_row full_int)) [0,1,2,8] Z [9,10] Z Z λ _ _ _ _ st34=>?_
 refine st34.nmR (s:=37) 2 [9,10] λ g37 A37 _ hA37 st37=>?_
 refine st37.segA 1 [0,1,2,8] [(9,0),(10,1),(11,2)] (λ _ _ st38=>Kb (za (Kc ?_)))
 have⟨v39,p39,h40⟩:=bs h36
 refine st38.sqB (sc Z (oM Z (tp Z))<|sc Z (oM Z (tp Z))<|sc Z (yH (l:=[.tmp 38,.tmp 39]) st38.ob.sub Z (.cons (lendN st38.ob 2 iI (tp Z)) (.cons (xA st38.ob.sub (tp Z)) .nil)) (Xz p39) w8)<|sc Z (jY Z (tp Z))<|.nil) [0,1,2,8,41] [(9,0),(10,1),(11,2)] λ _ _ st41=>?_
 refine st41.cs h40 (λ _ h42=>?_) (λ _ h43=>wp_skip (za (Kc ?_)))
 ·refine st41.sq1 [6] (λ _ _ st44=>wp_ret (zJ ?_))
  exact st44.ret Z Z h42
 obtain⟨v45,p45,v46,p46,h48⟩:=bsB h43
 refine st41.sqB (sc Z (oM Z (tp Z))<|sc Z (oM Z (tp Z))<|sc Z (zF (l:=[.tmp 43]) Z (.cons (tp Z) .nil) (FnN.fn<|X7 p45))<|sc Z (yH (l:=[.tmp 42,.tmp 44]) st41.ob.sub Z (.cons (lendN st41.ob 0 iI (tp Z)) (.cons (xA st41.ob.sub (tp Z)) .nil)) (za7 p46) w8)<|sc Z (jY Z (tp Z))<|.nil) [0,1,2,8,46] [(9,0),(10,1),(11,2)] λ _ _ st49=>?_
 refine st49.cs h48 (λ _ h50=>?_) (λ _ h51=>wp_skip (za (Kc ?_)))
 ·refine st49.sq1 [6] (λ _ _ st52=>wp_ret (zJ ?_))
  exact st52.ret Z Z h50
 obtain⟨v53,p53,v54,p54,h56⟩:=bsB h51
 refine st49.sqB (sc Z (oM Z (tp Z))<|sc Z (oM Z (tp Z))<|sc Z (zF (l:=[.tmp 48]) Z (.cons (tp Z) .nil) ((X5 p53)).fn)<|sc Z (yH (l:=[.tmp 47,.tmp 49]) st49.ob.sub Z (.cons (lendN st49.ob 1 iI (tp Z)) (.cons (xA st49.ob.sub (tp Z)) .nil)) (za5 p54) w8)<|sc Z (jY Z (tp Z))<|.nil) [0,1,2,8,51] [(9,0),(10,1),(11,2)] λ _ _ st57=>?_
 refine st57.cs h56 (λ _ h58=>?_) (λ _ h59=>wp_skip (za ?_))
 ·refine st57.sq1 [6] (λ _ _ st60=>wp_ret (zJ ?_))
  exact st60.ret Z Z h58
 refine st57.sqA [0,1,2,8,12] [(9,0),(10,1),(11,2)] (λ _ _ st61=>Kc (Ka ?_))
 refine st61.segA 2 [0,1,2,8,12,53] [(10,1),(11,2),(52,0)] λ _ _ st62=>?_
 have⟨v64,p64,h65⟩:=bs h59
 refine st62.cSF (l:=[.tmp 53]) 0 (st62.bkN (s:=52) Z iI) Z Z kN33 Z (by simp) (.cons (tp Z) .nil) (zdo p64) [0,1,2,8,12] Z [10,11] Z Z (by decide) λ _ _ _ _ st63=>?_
 refine st63.segA 1 [0,1,2,8,12] [(10,1),(11,2)] (λ _ _ st66=>Kb (za (Kc (Ka ?_))))
 refine st66.segA 2 [0,1,2,8,12,56] [(11,2),(55,1)] λ _ _ st67=>?_
 have⟨v69,p69,h70⟩:=bs h65
 refine st67.cSF (l:=[.tmp 56]) 1 (st67.bkN (s:=55) Z iI) Z Z kN18 Z (by simp) (.cons (tp Z) .nil) (QM p69) [0,1,2,8,12] Z [11] Z Z (by decide) λ _ _ _ _ st68=>?_
 refine st68.segA 1 [0,1,2,8,12] [(11,2)] (λ _ _ st71=>Kb (za (Kc ?_)))
 have⟨v72,p72,h73⟩:=bs h70
 refine st71.sqB (sP 5 (r:=by exact sg Z Z (λ hg=>yH (l:=[.tmp 61,.tmp 62]) st71.ob.sub Z (.cons (lendN st71.ob 2 iI (zk hg Z)) (.cons (xA st71.ob.sub (zk hg Z)) .nil)) (Xz (gh hg p72)) w8)<|segC)) [0,1,2,8,65] [(11,2)] λ _ _ st74=>?_
 refine st74.cs h73 (λ _ h75=>?_) (λ _ h76=>wp_skip (za ?_))
 ·refine st74.sq1 [6] (λ _ _ st77=>wp_ret (zJ ?_))
  exact st77.ret Z Z h75
 refine st74.sqA [0,1,2,8,13] [(11,2)] (λ _ _ st78=>Kc (Ka ?_))
 refine st78.segA 2 [0,1,2,8,13,67] [(11,2),(66,2)] λ _ _ st79=>?_
 have⟨v81,p81,h82⟩:=bs h76
 refine st79.cSF (l:=[.tmp 67]) 2 (st79.bkN (s:=11) Z iI) Z Z kN34 ((st79.st.has 66 _ Z).1.trans (st79.st.has 11 _ Z).1.symm) (by simp) (.cons (tp Z) .nil) (zcR p81) [0,1,2,8,13] Z [] Z Z (by decide) λ _ _ _ _ st80=>?_
 refine st80.segA 1 [0,1,2,8,13] [(11,2)] (λ _ _ st83=>Kb (za ?_))
 refine st83.sqA [0,1,2,8,13,14] [(11,2)] λ _ _ st84=>?_
 have⟨v85,p85,h86⟩:=bs h82
 refine st84.sqB (sc Z (oM Z (tp Z))<|sc Z (oM Z (tp Z))<|sc Z (yH (l:=[.tmp 69,.tmp 70]) st84.ob.sub Z (.cons (lendN st84.ob 2 iI (tp Z)) (.cons (xA st84.ob.sub (tp Z)) .nil)) (XW p85) wE)<|sc Z (oA Z (tp Z))<|.nil) [0,1,2,8,13,14] [(11,2)] (λ _ _ st87=>Kc ?_)
 refine st87.sqA [0,1,2,8,13,14,73] [(11,2)] λ _ _ st88=>?_
 refine st88.cs h86 (λ _ h89=>?_) (λ _ h90=>wp_skip (za (Kc ?_)))
 ·refine st88.sq1 [6] (λ _ _ st91=>wp_ret (zJ ?_))
  exact st91.ret Z Z h89
 refine st88.sqA [0,1,2,8,13,76] [(11,2)] λ _ _ st92=>?_
 refine st92.cs h90 (λ _ h93=>?_) (λ _ h94=>wp_skip (za ?_))
 ·refine st92.sq1 [6] (λ _ _ st95=>wp_ret (zJ ?_))
  exact st95.ret Z Z h93
 obtain⟨v96,p96,v97,p97,v98,p98,h101⟩:=bsC h94
 refine st92.sqB (sP 1 (r:=by exact sc Z (oK (FnN.fn<|X7 p96))<|sP 1 (r:=by exact sc Z (zF (l:=[.tmp 79]) Z (.cons (tp Z) .nil) ((X5 p97)).fn)<|sP 1 (r:=by exact sc Z (oK (FnN.fn<|Js hR p98))<|segC)))) [8,13,15] [(11,2)] (λ _ _ st102=>Kc ?_)
 obtain⟨v103,p103,h104⟩:=bsW h101 Xz
 refine st102.sqA [13,86] [(11,2)] λ _ _ st105=>?_
 refine st105.cs h104 (λ _ h106=>?_) (λ _ h107=>wp_skip (za ?_))
 ·refine st105.sq1 [6] (λ _ _ st108=>wp_ret (zJ ?_))
  exact st108.ret Z Z h106
 refine st105.sqA [13,14] [(11,2)] λ _ _ st109=>?_
 have⟨v110,p110,h111⟩:=bs h107
 refine st109.sq2 (sc Z (oM Z (tp Z))<|sc Z (oM Z (tp Z))<|sc Z (yH (l:=[.tmp 87,.tmp 88]) st109.ob.sub Z (.cons (lendN st109.ob 2 iI (tp Z)) (.cons (xA st109.ob.sub (tp Z)) .nil)) (XW p110) wE)<|sc Z (oA Z (tp Z))<|.nil) [13,14] (λ _ _ st112=>Kc ?_)
 refine st112.sq1 [13,14,91] λ _ _ st113=>?_
 refine st113.cs h111 (λ _ h114=>?_) (λ _ h115=>wp_skip (za (Kc ?_)))
 ·refine st113.sq1 [6] (λ _ _ st116=>wp_ret (zJ ?_))
  exact st116.ret Z Z h114
 refine st113.sq1 [94] λ _ _ st117=>?_
 refine st117.cs h115 (λ _ h118=>?_) (λ _ h119=>wp_skip (za ?_))
 ·refine st117.sq1 [6] (λ _ _ st120=>wp_ret (zJ ?_))
  exact st120.ret Z Z h118
 refine st117.sq1 [6] (λ _ _ st121=>wp_ret ?_)
 exact st121.ret Z Z h119
def ansV(path:List Int)(d:Disk)(s:Str):List Int:=(ranR d.tree path s).2.2::(ranR d.tree path s).1.out
def actP(F:Disk->Str->List Int)(ticks:Int)(d:Disk)(a:GAct):Disk×List Int:=
 if a.kind=3 then(d,F d a.name) else match wT d a ticks with
  | some (d',true)=>(d',[1])
  | _=>(d,[0])
def sesG(F:Disk->Str->List Int)(ticks:Int)(s:Disk×List (List Int))(a:GAct):Disk×List (List Int):=((actP F ticks s.1 a).1,s.2++[(actP F ticks s.1 a).2])
def sesR(F:Disk->Str->List Int)(ticks:Int)(l:List GAct):Disk×List (List Int):=l.foldl (sesG F ticks) (zbz,[])
def SesI(k:Nat)(s:Disk×List (List Int)):Prop:=DiskOk s.1/\s.1.clock<=4*(k:Int)/\s.2.length=k
theorem okAct_hf(h:Zs a=true):a.kind=0->smFile a.file/\zi a.file.pkg=true:=λ e=>by
 unfold Zs at h
 rw[e,Ke (by rfl)] at h
 exact⟨zcw h,YR h⟩
theorem okAct_hb(h:Zs a=true)(hs:XH a)(h3:a.kind≠3):a.kind≠0->a.kind≠1->yc a.file.body=true/\yO a.file.body=some (yc a.file.body):=λ h0 h1=>by
 unfold Zs at h
 rw[Kf (by rw[xR h0];decide),Kf (by rw[xR h1];decide)] at h
 split at h
 ·exact⟨h,JO hs.1.2.2.1 hs.1.2.2.2⟩
 ·rw[Kf (by rw[xR h3];decide)] at h;cases h
theorem zbA(h:Zs a=true)(h3:a.kind=3):zj a.name=true:=by
 unfold Zs at h
 rw[h3,Kf (by decide),Kf (by decide),Kf (by decide),Ke (by rfl)] at h
 exact h
theorem okActs_spec(h:QA l=true):(∀ a∈l,Zs a=true)/\l.length<=20:=by
 unfold QA at h
 rw[Bool.and_eq_true] at h
 exact⟨List.all_eq_true.1 h.1,by have:=h.2;simp[cmpI] at this;omega⟩
section
theorem zbB(hi:SesI k s)(hk:k<20)(h:Zs a=true)(hs:XH a)(h3:a.kind≠3)(h0:0<=ticks)(h1:ticks<=4):
  ∃ z,qC s.1 a ticks=some z/\wT s.1 a ticks=some z/\actP F ticks s.1 a=(if z.2=true then(z.1,[1]) else(s.1,[0]))/\(z.2=true->DiskOk z.1/\z.1.clock=s.1.clock+ticks):=by
 have hc:=hi.2.1
 obtain⟨z,e1,e2⟩:=change_after (a:=a) hi.1 (by omega) h0 h1 (okAct_hf h) (okAct_hb h hs h3)
 have e3:=change_same (a:=a) hi.1 (by omega) h0 h1 (okAct_hf h) (okAct_hb h hs h3)
 refine⟨z,e3.trans e1,e1,?_,e2⟩
 unfold actP
 rw[Kf h3,e1]
 obtain⟨d,b⟩:=z
 cases b <;> rfl
theorem SesI.next(hi:SesI k s)(hk:k<20)(h:Zs a=true)(hs:XH a)(h0:0<=ticks)(h1:ticks<=4):SesI (k+1) (sesG F ticks s a):=by
 obtain⟨i1,i2,i3⟩:=hi
 have hl:(sesG F ticks s a).2.length=k+1:=by show(s.2++_).length=_;simp[i3]
 by_cases h3:a.kind=3
 ·have:(sesG F ticks s a).1=s.1:=by show(actP F ticks s.1 a).1=s.1;unfold actP;rw[Ke h3]
  exact⟨by rw[this];exact i1,by rw[this];omega,hl⟩
 ·obtain⟨z,_,_,e,e2⟩:=zbB (F:=F) ⟨i1,i2,i3⟩ hk h hs h3 h0 h1
  have:(sesG F ticks s a).1=if z.2=true then z.1 else s.1:=by show(actP F ticks s.1 a).1=_;rw[e];cases z.2 <;> rfl
  refine⟨?_,?_,hl⟩
  ·rw[this]
   split
   ·exact(e2 (by assumption)).1
   ·exact i1
  ·rw[this]
   split
   ·rename_i hz;rw[(e2 hz).2];omega
   ·omega
end
theorem zcz(hv:∀ a∈l,Zs a=true)(hs:∀ a∈l,XH a)(hl:l.length<=20)(h0:0<=ticks)(h1:ticks<=4):SesI l.length (sesR F ticks l):=by
 unfold sesR
 have key:∀ (m:List GAct) (k:Nat) (s:Disk×List (List Int)),(∀ a∈m,Zs a=true)->(∀ a∈m,XH a)->k+m.length<=20->SesI k s->SesI (k+m.length) (m.foldl (sesG F ticks) s):=by
  intro m
  induction m with
  | nil=>intro k s _ _ _ hi;exact hi
  |cons a m ih=>
   intro k s hv hs hk hi
   simp only[List.length_cons] at hk ⊢
   rw[List.foldl_cons,show k+(m.length+1)=k+1+m.length by omega]
   exact ih (k+1) _ (λ x hx=>hv x (List.mem_cons_of_mem _ hx)) (λ x hx=>hs x (List.mem_cons_of_mem _ hx)) (by omega) (hi.next (by omega) (hv a (List.mem_cons_self ..)) (hs a (List.mem_cons_self ..)) h0 h1)
 have:=key l 0 (zbz,[]) hv hs (by omega) ⟨zc1,by decide,Z⟩
 simpa using this
theorem walk_eq(hv:∀ a∈l,Zs a=true)(hs:∀ a∈l,XH a)(hl:l.length<=20)(h0:0<=ticks)(h1:ticks<=4)
  (hrun:∀ d s,DiskOk d->zj s=true->run d s=some (F d s)):Wm l ticks run=some (sesR F ticks l):=by
 unfold Wm
 have key:=zaI (step:=λ s14=>jQ l ticks run s14) l (λ(s:Disk×List (List Int)) j=>(s.1,s.2,(j:Int))) (sesG F ticks) (λ s=>s) (λ k s=>SesI k s)
  (λ k s a ha hlt hi=>by
   have hva:=hv a (List.mem_of_getElem? ha)
   have hsa:=hs a (List.mem_of_getElem? ha)
   have hk:k<20:=by omega
   refine⟨?_,hi.next hk hva hsa h0 h1⟩
   have hl2:s.2.length=k:=hi.2.2
   have happ:∀ x:List Int,appO 24 s.2 [x]=some (s.2++[x]):=λ x=>yu (by simp;omega) (by simp;omega)
   unfold jQ
   simp only
   rw[zC,Ke (decide_eq_true hlt),zH,ha,obS]
   by_cases h3:a.kind=3
   ·rw[Ke (jg h3),hrun _ _ hi.1 (zbA hva h3),obS,happ,obS,obS,zG (by omega),obS]
    unfold sesG actP
    rw[Ke h3]
   ·obtain⟨z,e1,_,e3,_⟩:=zbB (F:=F) hi hk hva hsa h3 h0 h1
    rw[Kf (by rw[xR h3];decide),e1,obS]
    unfold sesG
    rw[e3]
    cases z.2 with
    | true=>rw[Ke Z,Ke Z,happ,obS,obS,zG (by omega),obS]
    | false=>rw[Kf (by decide),Kf (by decide),happ,obS,obS,zG (by omega),obS])
  (λ s hi=>by
   unfold jQ
   simp only
   rw[zC,Kf (by simp)]) (s0:=(zbz,[])) ⟨zc1,by decide,Z⟩ (by omega)
 have key':zE (λ s14=>jQ l ticks run s14) ((⟨(⟨([]:List File)⟩:Tree),(0:Int),([]:List Dir)⟩:Disk),[],(0:Int))=some (sesR F ticks l):=key
 rw[key',obS]
theorem fresh_run(hp:path.length<=1048576)(hd:DiskOk d){s:Str}(hs:zj s=true):jc (scc YX) d s path=some (ansV path d s):=by
 have hpl:=jT hs
 have ht:=wV hd.tree
 obtain⟨h1,_,hz⟩:=ran_ok hd.tree hp hs
 have h2:=scc_load ⟨ht,hd.tree⟩ hp 483 YX (by decide) st0 s _ st0_inv hs (by show 4*120+_<=_;omega) (by decide) h1
 have ho:(ranR d.tree path s).1.out.length<=12012:=by unfold RSt.size at hz;omega
 unfold jc
 rw[show Xn d.tree path 120=some (mach d.tree path st0) from Z,obS,h2,obS]
 simp only
 rw[show(mach d.tree path (ranR d.tree path s).1).out=(ranR d.tree path s).1.out from Z,yu (by simp;omega) (by simp;omega),obS]
 rfl
theorem answer_eq(hp:path.length<=1048576)(hi:SesI k s)(hk:k<20)(h:Zs a=true)(hs:XH a)(h0:0<=ticks)(h1:ticks<=4):
  ZI (scc YX) s.1 path a ticks ⟨false,yC,jW,[],0⟩=some (actP (ansV path) ticks s.1 a):=by
 unfold ZI
 by_cases h3:a.kind=3
 ·have hn:=zbA h h3
  have hpl:=jT hn
  have hd:=hi.1
  obtain⟨j1,_,hz⟩:=ran_ok hd.tree hp hn
  have h2:=scc_imp (d:=s.1) hd.tree hp 483 YX (by decide) st0 a.name _ st0_inv hn (by show 4*120+_<=_;omega) (by decide) j1
  have ho:(ranR s.1.tree path a.name).1.out.length<=12012:=by unfold RSt.size at hz;omega
  have hr:({ rnr s.1.tree path yC st0 0 with warm:=⟨{ (⟨false,yC,jW,[],0⟩:Warmth) with disk:=s.1 }⟩ }:Runner)=rnr s.1.tree path s.1 st0 0:=rfl
  rw[Kf (by rw[h3];decide),show XP s.1.tree path 120=some (rnr s.1.tree path yC st0 0) from Z,obS,hr,h2,obS]
  simp only
  rw[show(rnr s.1.tree path s.1 (ranR s.1.tree path a.name).1 (ranR s.1.tree path a.name).2.2).out=(ranR s.1.tree path a.name).1.out from Z,yu (by simp;omega) (by simp;omega),obS]
  unfold actP
  rw[Ke h3]
  rfl
 ·obtain⟨z,_,e2,e3,_⟩:=zbB (F:=ansV path) hi hk h hs h3 h0 h1
  rw[Ke (by simp[cmpI,h3]),e2,obS,e3]
  cases z.2 <;> rfl
theorem spec_fresh(hp:path.length<=1048576)(hv:∀ a∈l,Zs a=true)(hs:∀ a∈l,XH a)(hl:l.length<=20)(h0:0<=ticks)(h1:ticks<=4):
  zE (λ s23=>xQ (scc YX) l path ticks s23) (([]:List (List Int)),zbz,(0:Int))=some (sesR (ansV path) ticks l).2:=by
 have key:=zaI (step:=λ s23=>xQ (scc YX) l path ticks s23) l (λ(s:Disk×List (List Int)) j=>(s.2,s.1,(j:Int))) (sesG (ansV path) ticks) (λ s=>s.2) (λ k s=>SesI k s)
  (λ k s a ha hlt hi=>by
   have hva:=hv a (List.mem_of_getElem? ha)
   have hsa:=hs a (List.mem_of_getElem? ha)
   have hk:k<20:=by omega
   refine⟨?_,hi.next hk hva hsa h0 h1⟩
   have hl2:s.2.length=k:=hi.2.2
   unfold xQ
   simp only
   rw[zC,Ke (decide_eq_true hlt),zH,ha,obS,answer_eq hp hi hk hva hsa h0 h1,obS,yu (by simp;omega) (by simp;omega),obS,zG (by omega),obS]
   rfl)
  (λ s hi=>by
   unfold xQ
   simp only
   rw[zC,Kf (by simp)]) (s0:=(zbz,[])) ⟨zc1,by decide,Z⟩ (by omega)
 exact key
def zbg(l:List GAct)(path:List Int)(ticks:Int):Bool:=QA l&&jy path&&inR ticks 0 4
def Ji(l:List GAct)(path:List Int)(ticks:Int):List (List Int):=if zbg l path ticks=true then(sesR (ansV path) ticks l).2 else[]
theorem zbC(h:zbg l path ticks=true):((∀ a∈l,Zs a=true)/\l.length<=20)/\jy path=true/\0<=ticks/\ticks<=4:=by
 unfold zbg at h
 simp only[Bool.and_eq_true] at h
 refine⟨okActs_spec h.1.1,h.1.2,?_⟩
 have:=h.2
 unfold inR at this
 simpa[cmpI] using this
theorem RunFresh_eq(hp:path.length<=1048576)(hlen:l.length<=1048576)(hs:∀ a∈l,XH a):Wv (scc YX) l path ticks=some (Ji l path ticks):=by
 unfold Wv ZR Ji
 rw[ValidActs_eq hlen hs,obS,ZV,zY,obS,obS,ValidPath_eq hp,zY,obS]
 cases ho:zbg l path ticks with
 |true=>
  obtain⟨⟨hv,hl⟩,hpv,h0,h1⟩:=zbC ho
  unfold zbg at ho
  simp only[Bool.and_eq_true] at ho
  rw[walk_eq (F:=ansV path) hv hs hl h0 h1 λ d s hd hn=>fresh_run hp hd hn,obS,Ke Z]
  rw[ho.1.1,ho.2,ho.1.2]
  rfl
 |false=>
  refine Eq.trans ?_ (congrArg some (Kf (by decide)).symm)
  unfold zbg at ho
  revert ho
  cases QA l <;> cases jy path <;> cases inR ticks 0 4 <;> intro ho <;> first | rfl | cases ho
theorem zc2(hp:path.length<=1048576)(hlen:l.length<=1048576)(hs:∀ a∈l,XH a):ZJ (scc YX) l path ticks=some (Ji l path ticks):=by
 unfold ZJ Ji
 rw[validActs_eq' hlen hs,obS,show jC path=some (jy path) from Ke trivial,zY,obS,xy,zY,obS]
 cases ho:zbg l path ticks with
 |true=>
  obtain⟨⟨hv,hl⟩,hpv,h0,h1⟩:=zbC ho
  unfold zbg at ho
  simp only[Bool.and_eq_true] at ho
  have hn:Xt=some zbz:=rfl
  rw[hn,obS,spec_fresh hp hv hs hl h0 h1,obS,Ke Z]
  rw[ho.1.1,ho.2,ho.1.2]
  rfl
 |false=>
  refine Eq.trans ?_ (congrArg some (Kf (by decide)).symm)
  unfold zbg at ho
  revert ho
  cases QA l <;> cases jy path <;> cases inR ticks 0 4 <;> intro ho <;> first | rfl | cases ho
section
theorem ses_grow(m:List GAct):∀ s:Disk×List (List Int),∃ x,(m.foldl (sesG F ticks) s).2=s.2++x:=by
 induction m with
 | nil=>intro s;exact⟨[],by simp⟩
 |cons a m ih=>
  intro s
  obtain⟨x,hx⟩:=ih (sesG F ticks s a)
  exact⟨[(actP F ticks s.1 a).2]++x,by rw[List.foldl_cons,hx];show(s.2++_)++x=_;rw[List.append_assoc]⟩
theorem take_ok(hv:(∀ a∈l,Zs a=true)/\l.length<=20)(k:Nat):(∀ a∈l.take k,Zs a=true)/\(l.take k).length<=20:=⟨λ a ha=>hv.1 a (List.mem_of_mem_take ha),by rw[List.length_take];omega⟩
theorem ses_take(hv:(∀ a∈l,Zs a=true)/\l.length<=20)(hs:∀ a∈l,XH a)(h0:0<=ticks)(h1:ticks<=4)(hk:k<=l.length):(sesR F ticks l).2.take k=(sesR F ticks (l.take k)).2:=by
 have hw:=take_ok hv k
 have hi:=zcz (F:=F) hw.1 (λ a ha=>hs a (List.mem_of_mem_take ha)) hw.2 h0 h1
 have hlen:(sesR F ticks (l.take k)).2.length=k:=by rw[hi.2.2,List.length_take];omega
 have e:sesR F ticks l=(l.drop k).foldl (sesG F ticks) (sesR F ticks (l.take k)):=by
  unfold sesR
  rw[← List.foldl_append,List.take_append_drop]
 obtain⟨x,hx⟩:=ses_grow (F:=F) (ticks:=ticks) (l.drop k) (sesR F ticks (l.take k))
 rw[e,hx,List.take_left' hlen]
theorem ses_at(hv:(∀ a∈l,Zs a=true)/\l.length<=20)(hs:∀ a∈l,XH a)(h0:0<=ticks)(h1:ticks<=4)(ha:l[k]?=some a):(sesR F ticks l).2[k]?=some (actP F ticks (sesR F ticks (l.take k)).1 a).2:=by
 have hk:k<l.length:=(List.getElem?_eq_some_iff.1 ha).1
 have h2:=ses_take (F:=F) hv hs h0 h1 (k:=k+1) (by omega)
 have hw:=take_ok hv k
 have hi:=zcz (F:=F) hw.1 (λ a ha=>hs a (List.mem_of_mem_take ha)) hw.2 h0 h1
 have hlen:(sesR F ticks (l.take k)).2.length=k:=by rw[hi.2.2,List.length_take];omega
 have e:sesR F ticks (l.take (k+1))=sesG F ticks (sesR F ticks (l.take k)) a:=by
  unfold sesR
  rw[List.take_add_one,ha,List.foldl_append]
  rfl
 have h3:(sesR F ticks l).2[k]?=((sesR F ticks l).2.take (k+1))[k]?:=by rw[List.getElem?_take,Ke (by omega)]
 rw[h3,h2,e]
 show((sesR F ticks (l.take k)).2++[_])[k]?=_
 rw[List.getElem?_append_right (by omega),hlen,Nat.sub_self]
 rfl
theorem ses_len(hF:∀ d s,DiskOk d->zj s=true->(F d s).length<=20000)(hv:(∀ a∈l,Zs a=true)/\l.length<=20)(hs:∀ a∈l,XH a)(h0:0<=ticks)(h1:ticks<=4):∀ z∈(sesR F ticks l).2,z.length<=20000:=λ z hz=>by
 obtain⟨k,hk⟩:=List.getElem?_of_mem hz
 have hi:=zcz (F:=F) hv.1 hs hv.2 h0 h1
 have hlt:k<l.length:=by rw[← hi.2.2];exact(List.getElem?_eq_some_iff.1 hk).1
 have ha:l[k]?=some l[k]:=List.getElem?_eq_getElem hlt
 rw[ses_at hv hs h0 h1 ha] at hk
 injection hk with hk
 rw[← hk]
 have hw:=take_ok hv k
 have hd:=(zcz (F:=F) hw.1 (λ a ha=>hs a (List.mem_of_mem_take ha)) hw.2 h0 h1).1
 unfold actP
 split
 ·rename_i h3;exact hF _ _ hd (zbA (hv.1 _ (List.getElem_mem hlt)) h3)
 ·split <;> simp
theorem ansV_len(hp:path.length<=1048576)(hd:DiskOk d){s:Str}(hs:zj s=true):(ansV path d s).length<=20000:=by
 obtain⟨_,_,hz⟩:=ran_ok hd.tree hp hs
 unfold ansV
 unfold RSt.size at hz
 simp only[List.length_cons]
 omega
end
theorem totAct_sm(h:Y1 a<=1048576):XH a:=by
 unfold Y1 Ju XA at h
 refine⟨⟨by omega,by omega,by omega,λ s hs=>?_⟩,by unfold sho;omega⟩
 have:=J8 (f:=zaJ) hs
 have e:zaJ s=s.module.l.length+(s.name.l.length+0):=rfl
 exact⟨by omega,by omega⟩
theorem fresh_rows(hp:p.length<=1048576)(hs:∀ a∈l,XH a):(Ji l p t).length<=1048576/\∀ z∈Ji l p t,z.length<=1048576:=by
 unfold Ji
 cases ho:zbg l p t with
 | false=>exact⟨Nat.zero_le _,λ z h=>by cases h⟩
 |true=>
  obtain⟨hv,_,h0,h1⟩:=zbC ho
  rw[Ke Z]
  have hi:=zcz (F:=ansV p) hv.1 hs hv.2 h0 h1
  refine⟨by have:=hi.2.2;have:=hv.2;omega,λ z hz=>?_⟩
  have:=ses_len (F:=ansV p) (λ d s hd hn=>ansV_len hp hd hn) hv hs h0 h1 z hz
  omega
theorem RunFresh_n_eq:qm R l p t=Wv R l p t:=rfl
theorem zds(hl:Okd l):ju (scc YX) l p t=some true:=by
 unfold ju
 cases hp:cmpI .gtr (p.length:Int) 1048576 with
 | true=>rw[Ke Z]
 |false=>
  have hp':p.length<=1048576:=by have:=of_decide_eq_false hp;omega
  rw[Kf (by decide),szActS_eq hl (by omega) (by omega),obS]
  cases hs:cmpI .lss (szR (Zy l) 1048576) 0 with
  | true=>rw[Ke Z]
  |false=>
   have hs':¬ szR (Zy l) 1048576<0:=of_decide_eq_false hs
   obtain⟨h1,_⟩:=szR_nn (t:=Zy l) (left:=1048576) (by omega)
   have h2:Zy l<=1048576:=by omega
   have hlen:l.length<=1048576:=lenActS_le h2
   have hsm:∀ a∈l,XH a:=λ a ha=>totAct_sm (by have:=J8 (f:=Y1) ha;unfold Zy at h2;omega)
   have e1:=toActS_eq h2
   have e2:jw p=some p:=toIntS_eq (by unfold totIntS;exact hp')
   have e3:ZJ (scc YX) l p t=some (Ji l p t):=zc2 hp' hlen hsm
   have e4:qm (scc YX) l p t=some (Ji l p t):=(RunFresh_n_eq).trans (RunFresh_eq hp' hlen hsm)
   obtain⟨g1,g2⟩:=fresh_rows (t:=t) hp' hsm
   have e5:wk (Ji l p t) (Ji l p t)=some true:=by rw[eqII_eq g1 g2];simp
   have e6:ZU l l=some true:=by rw[eqActS_eq (by omega)];simp
   have e7:qD p p=some true:=by rw[eqIntS_eq (by omega)];simp
   obtain⟨y1,k1,m1,a1,b1⟩:=markActS_ok (x:=l) (k:=1) h2 (by omega) (by omega)
   obtain⟨y2,k2,m2,a2,b2⟩:=zdc (x:=p) (k:=k1) (by omega) (by omega) (by omega)
   have hk:cmpI .lss k2 0=false:=by simp[cmpI];omega
   rw[Kf (by decide),e1,obS,e2,obS,e3,obS,obS,obS,e4,obS,e5,obS,Kf (by decide),obS,e6,obS,Kf (by decide),obS,e7,obS,Kf (by decide),m1,obS]
   simp only
   rw[m2,obS]
   simp only
   rw[hk,show((false == false):Bool)=true from Z,qt,obS,Kf (by decide)]
   exact tail_ints g1 g2 e4
theorem zay(l:List GAct)(p:List Int)(t:Int):Fn prog 5 [dt l,dt p,dt t] (dt true):=.okd (x:=l) (by simp) λ hl=>QB (JK YX) (zds hl)
end Go.Proofs.YtandbaloaenciaaGreatDoor
