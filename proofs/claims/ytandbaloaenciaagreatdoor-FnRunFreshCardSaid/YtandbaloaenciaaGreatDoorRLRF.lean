import Derived.Test.YtandbaloaenciaaGreatDoorRH
import Derived.Test.YtandbaloaenciaaGreatDoorRB
import Derived.Test.YtandbaloaenciaaGreatDoorRO
import Derived.Test.YtandbaloaenciaaGreatDoorRKc
import Derived.Test.YtandbaloaenciaaGreatDoorRU
import Derived.Test.YtandbaloaenciaaGreatDoorRV
namespace Go.Proofs.YtandbaloaenciaaGreatDoor
open Go.RowKit Tryz
attribute [local irreducible] OpRel OpdR
set_option maxRecDepth 10000
set_option maxHeartbeats 1600000
variable{d:Disk}{F G:Disk->Str->List Int}{run:Disk->Str->Option (List Int)}{s:Disk×List (List Int)}{f:File}{a:GAct}{ticks:Int}{x:List (List Int)}{l:List GAct}{path:List Int}{x0:List UInt8}{k:Nat}{r:Reader}{R:Rec}{t:Tree}
theorem kF32_0:fldB prog 32 0 0=true:=by kernel_rfl
theorem kF32_1:fldB prog 32 1 1=true:=by kernel_rfl
def xq(R:Rec)(v6:(List GAct)×(List Int)×Int)(v9:List (List Int))(s34:Int):Option (Int⊕(Unit⊕Bool)):=
if(cmpI .lss s34 (v6.1.length:Int))=true then(Option.bind (α:=Unit⊕(Int⊕(Unit⊕Bool))) ((atI v6.1 s34).bind λ v40=>
if cmpI .neq v40.kind 3 then(some (.inl ()))
else((ZX v6.1 s34).bind λ v45=>
(Zd v45 v6.2.2).bind λ v46=>
(atI v6.1 s34).bind λ v54=>
(YV R v46.tree v6.2.1 v54.name).bind λ v55=>
(atI v9 s34).bind λ v66=>
(atI v55.ends 0).bind λ v72=>
(appO 8 [v72] v55.out).bind λ v83=>
(wW v66 v83).bind λ v85=>
if(!v85)=true then(some (.inr (.inr (.inr false))))
else(some (.inl ())))) (Sum.elim (λ _b39=>
(i64 (s34+(1:Int))).bind λ v104=>
some (.inl v104)) some))
else(some (.inr (.inl ())))
def Z1(R:Rec)(x0:List UInt8):Option Bool:=
if(cmpI .gtr (x0.length:Int) 1048576)=true then(some true)
else((jw x0).bind λ v6=>
(ZH R v6.1 v6.2.1 v6.2.2).bind λ v9=>
(ZL R v6.1 v6.2.1 v6.2.2).bind λ v12=>
(xI v9 v12).bind λ v13=>
if((!v13)||cmpI .eql (v9.length:Int) 0)=true then((ZL R v6.1 v6.2.1 v6.2.2).bind λ v19=>
(xI v9 v19).bind λ v20=>
some v20)
else((divO (v6.1.length:Int) (2:Int)).bind λ v24=>
(ZX v6.1 v24).bind λ v27=>
(ZH R v27 v6.2.1 v6.2.2).bind λ v28=>
Option.bind (α:=Unit⊕Bool) (zI (λ s34=>xq R v6 v9 s34) (0:Int)) (Sum.elim (λ _b32=>
(gO (cmpI .eql (v9.length:Int) (v6.1.length:Int) == true) (ZX v9 v24)).bind λ v109=>
(gO (cmpI .eql (v9.length:Int) (v6.1.length:Int) == true) (xI v109 v28)).bind λ v110=>
some (cmpI .eql (v9.length:Int) (v6.1.length:Int)&&v110)) some)))
theorem zb2(hR:R.ok){r:Bool}(h:Z1 R x0=some r):Fn prog 4 [dt x0] (dt r):=by
 unfold Z1 at h
 refine fnx (fn:=f4) 3 func4 Z Z λ M w0 _ st0=>?_
 refine st0.sq1 [0] (λ _ _ st1=>Kc ?_)
 refine st1.sq1 [0,14] λ _ _ st2=>?_
 refine st2.cs h (λ _ h3=>?_) (λ _ h4=>wp_skip (za ?_))
 ·refine st2.sq1 [2] (λ _ _ st5=>wp_ret (zL ?_))
  exact st5.ret Z Z h3
 obtain⟨v6,p6,h7⟩:=bsW h4 Wp
 refine st2.sq1 [3,4,5] λ _ _ st8=>?_
 obtain⟨v9,p9,h10⟩:=bsW h7 (Qq hR)
 refine st8.sq1 [3,4,5,6] (λ _ _ st11=>Kc ?_)
 obtain⟨v12,p12,v13,p13,h15⟩:=bsB h10
 refine st11.sq2 (sP 4 (r:=by exact sc Z (zJ (l:=[.tmp 26,.tmp 27,.tmp 28]) Z (.cons (tp Z) (.cons (tp Z) (.cons (tp Z) .nil))) ((Qt hR p12)).fn)<|sc Z (oK (ZZ p13))<|segC)) [3,4,5,6,36] λ _ _ st16=>?_
 refine st16.cs h15 (λ _ h17=>?_) (λ _ h18=>wp_skip (za ?_))
 ·obtain⟨v19,p19,v20,p20,h22⟩:=bsB h17
  refine st16.sq2 (sP 4 (r:=by exact sc Z (zJ (l:=[.tmp 38,.tmp 39,.tmp 40]) Z (.cons (tp Z) (.cons (tp Z) (.cons (tp Z) .nil))) ((Qt hR p19)).fn)<|sc Z (oK (ZZ p20))<|segC)) [2] (λ _ _ st23=>wp_ret (zL ?_))
  exact st23.ret Z Z h22
 have⟨v24,p24,h25⟩:=bs h18
 refine st16.sq2 (sP 2 (r:=by exact sc Z (xDiv Z (tp Z) cI p24)<|segC)) [3,4,5,6,7] λ _ _ st26=>?_
 obtain⟨v27,p27,v28,p28,h30⟩:=bsB h25
 refine st26.sq2 (sP 2 (r:=by exact sc Z (Qk Z (tp Z) (tp Z) p27)<|sP 2 (r:=by exact sc Z (oK (Qq hR p28))<|segC))) [3,4,5,6,7,8] λ _ _ st31=>?_
 have⟨o32,p32,k32⟩:=bs h30
 refine jF (λ a w=>∃ b32,o32=.inl b32/\(∃ M1 q32_0 q32_1 q32_2,Sx (Frm.of w0) 104 M M1 [q32_0,oneB q32_1,oneB q32_2] [(3,dt v6.1),(6,dt v9),(7,dt v24),(8,dt v28)] [] a w)) ?_ ?_
 ·refine st31.sq1 [3,4,5,6,7,8,9] (λ _ _ st33=>wp_block ?_)
  refine WI p32 (λ s34 a w=>∃ M1 q34_0 q34_1 q34_2,Sx (Frm.of w0) 104 M M1 [q34_0,oneB q34_1,oneB q34_2] [(3,dt v6.1),(4,dt v6.2.1),(5,dt v6.2.2),(6,dt v9),(7,dt v24),(8,dt v28),(9,dt s34)] [] a w) fx ?_
  rintro s34 z34 a34 w34 ⟨M34,q34_0,q34_1,q34_2,st34⟩ hs34 hx34
  have h35:xq R v6 v9 s34=some z34:=hs34
  unfold xq at h35
  refine Kc ?_
  refine st34.sq1 [3,4,5,6,7,8,9,55] λ _ _ st36=>?_
  refine st36.cs h35 (λ _ h37=>wp_skip (za ?_)) λ _ h38=>?_
  ·have⟨o39,p39,k39⟩:=bs h37
   refine jF (λ a w=>∃ b39,o39=.inl b39/\(∃ M1 q39_0 q39_1 q39_2,Sx (Frm.of w0) 104 M M1 [q39_0,oneB q39_1,oneB q39_2] [(3,dt v6.1),(4,dt v6.2.1),(5,dt v6.2.2),(6,dt v9),(7,dt v24),(8,dt v28),(9,dt s34)] [] a w)) ?_ ?_
   ·refine wp_block (Kc ?_)
    have⟨v40,p40,h41⟩:=bs p39
    refine st36.sq1 [3,4,5,6,7,8,9,63] λ _ _ st42=>?_
    refine st42.cs h41 (λ _ h43=>wp_exit (yq (xX ?_))) (λ _ h44=>wp_skip (za (Kc (Ka ?_))))
    ·refine za ?_
     exact fl h43
    obtain⟨v45,p45,v46,p46,h48⟩:=bsB h44
    refine st42.segB 5 (sP 2 (r:=by exact sc Z (Qk Z (tp Z) (tp Z) p45)<|sP 1 (r:=by exact sc Z (oK (JM p46))<|.nil))) [3,4,5,6,7,8,9,68] [] λ _ _ st49=>?_
    refine st49.alA 1 xT [3,4,5,6,7,8,9,68] [] λ b51 _ _ _ st51=>?_
    refine st51.stA 10 1 FldS.id (tp Z) [3,4,5,6,7,8,9] [] (λ _ _ st53=>Kb (za (Kc ?_)))
    obtain⟨v54,p54,v55,p55,h57⟩:=bsB h48
    refine st53.alc (D:=[_,_,_,_,_,_,_,_,_,JC]) [mkBox 9 11 32 JB 2 X4 zae] zH 10 [[(10,nS)],[(69,0)],[(4,nS)],[(3,nS)],[(9,nS)],[(72,3),(73,4)],[(74,5)],[(75,6)],[(70,1),(71,2),(76,7)],[],[(11,9),(77,8)]] (by decide +kernel) (by decide) (by decide +kernel) ⟨kZ32,trivial⟩ (by decide) (by decide) (by simp[mkBox]) (λ M58 hM58=>
     ac Z Z Z (Z2 Disk.fld0 Z (tp Z))<|ac Z Z Z (wh Z (tp Z))<|ac Z Z Z (oM Z (tp Z))<|ac Z Z Z (oM Z (tp Z))<|ac Z Z Z (oM Z (tp Z))<|ac Z Z Z (xIdx Z (tp Z) (tp Z) p54)<|ac Z Z Z (zB GAct.fld3 Z (tp Z))<|ac Z Z Z (zr Z (tp Z))<|ac Z Z Z (zJ (l:=[.tmp 70,.tmp 71,.tmp 76]) Z (.cons (tp Z) (.cons (tp Z) (.cons (tp Z) .nil))) (zcZ hR p55))<|al Z Z<|.nil) [3,4,5,6,7,8,9,77] Z [] Z Z Z Z (λ β58 M58 _ _ st58=>?_)
    have st59:=st58.gs (Gs':=[q34_0,oneB (some b51),oneB (some (β58 9))])
    refine st59.store (sb:=11) 2 FldS.id Z Z Z kT32 Z Z (tp Z) Z [3,4,5,6,7,8,9] Z [] Z Z λ _ _ st61=>?_
    have st62:=st61.frzX 2 (s:=11) [3,4,5,6,7,8,9] []
    refine Kb (za (Kc ?_))
    refine st62.heldF zH λ _ _ hz63 st63=>?_
    refine st63.tM 0 6 (st63.fzS (g:=104)) λ _ st64=>?_
    refine st64.tM 1 9 (st64.fzS (g:=104)) λ _ st65=>?_
    have⟨v66,p66,h68⟩:=bs h57
    refine st65.tkIF (i:=2) (st65.fzS (g:=104)) kS54 (tp Z) (tp Z) p66 (next:=λ a67 st67=>?_)
    refine st67.tkLp (i:=3) (st67.fzS (g:=104)) hz63 (tp Z) λ _ st69=>?_
    refine st69.tkFp (i:=4) (st69.fzS (g:=104)) GResult.fld0 kF32_0 (tp Z) (next:=λ a70 st70=>?_)
    refine st70.tkLp (i:=5) (st70.fzS (g:=104)) hz63 (tp Z) λ _ st71=>?_
    have⟨v72,p72,h74⟩:=bs h68
    refine st71.tkIF (i:=6) (st71.fzS (g:=104)) kS25 (tp Z) cI p72 (next:=λ a73 st73=>?_)
    refine st73.tkLp (i:=7) (st73.fzS (g:=104)) hz63 (tp Z) λ _ st75=>?_
    refine st75.tkFp (i:=9) (st75.fzS (g:=104)) GResult.fld1 kF32_1 (tp Z) (next:=λ a76 st76=>?_)
    refine st76.tkLp (i:=10) (st76.fzS (g:=104)) hz63 (tp Z) λ _ st77=>?_
    obtain⟨v83,p83,v85,p85,h89⟩:=bsB h74
    refine aK1 8 ?_
    refine st77.litW (oe:=(Ow.frz (α:=Int))) (opds:=[.tmp 85]) (xs:=[v72]) 0 [] kI25 kY25 (YG (oe:=(Ow.frz (α:=Int))) (G1:=noB) (jI (st77.st.has 85 _ Z)) (λ _ h=>h.elim)) (λ q hq=>by
 simp only[List.mem_cons,List.not_mem_nil,or_false] at hq
 subst hq
 exact Rep.len (jI (st77.st.has 85 _ Z))) [3,4,5,6,7,8,9,81,88,104] [] (λ _ _ _ _ st90=>?_)
    refine aHN (st90.fzS (g:=104)) ?_
    refine aK1 11 ?_
    refine st90.tipR (s:=86) 0 (by first | (simp;done) | exact oD rfl) [] λ g92 st92=>?_
    refine st92.apA 0 yA p83 [3,4,5,6,7,8,9,81,104] [] λ g94 _ _ _ st94=>?_
    refine aHN (st94.fzS (g:=104)) ?_
    refine aK1 12 ?_
    refine st94.segB 1 (sc Z (xh (l:=[.tmp 81,.tmp 89]) st94.ob.sub Z (.cons (wY st94.ob.sub (tp Z)) (.cons (borrow st94.ob 0 Z (tp Z)) .nil)) (JP p85) qR)<|.nil) [3,4,5,6,7,8,9,90,104] [] λ _ _ st95=>?_
    refine aHN (st95.fzS (g:=104)) ?_
    refine aK1 13 ?_
    refine st95.segA 1 [3,4,5,6,7,8,9,91,104] [] λ _ _ st96=>?_
    refine aHN (st96.fzS (g:=104)) ?_
    refine aK0 (za ?_)
    refine st96.cs h89 (λ _ h97=>?_) (λ _ h98=>wp_skip (yx (za ?_)))
    ·refine st96.sq1 [2] (λ _ _ st99=>wp_ret (yV (zL (zL (yV (zL ?_))))))
     have h100:=jo h97 k39
     have h101:=lo h100 hx34
     have h102:=jo h101 k32
     exact st99.ret Z Z h102
    exact fl h98
   rintro a39 w39 ⟨b39,rfl,⟨M39,q39_0,q39_1,q39_2,st39⟩⟩
   have h103:=jn k39
   have⟨v104,p104,h105⟩:=bs h103
   refine st39.rg1 [3,4,5,6,7,8,9] (λ _ _ st106=>za ?_)
   exact fl h105
  refine wp_exit (yq (yq (xX ?_)))
  refine za ?_
  have h107:=lo h38 hx34
  exact fl h107
 rintro a32 w32 ⟨b32,rfl,⟨M32,q32_0,q32_1,q32_2,st32⟩⟩
 have h108:=jn k32
 obtain⟨v109,p109,v110,p110,h112⟩:=bsB h108
 refine st32.sq2 (sP 8 (r:=by exact sg Z Z (λ hg=>Qk Z (zk hg Z) (zk hg Z) (gh hg p109))<|sP 1 (r:=by exact sg Z Z (λ hg=>oK (ZZ (gh hg p110)))<|segC))) [2] (λ _ _ st113=>wp_ret ?_)
 exact st113.ret Z Z h112
def ansV(path:List Int)(d:Disk)(s:Str):List Int:=(ranR d.tree path s).2.2::(ranR d.tree path s).1.out
def actP(F:Disk->Str->List Int)(ticks:Int)(d:Disk)(a:GAct):Disk×List Int:=
 if a.kind=3 then(d,F d a.name) else match wg d a ticks with
  | some (d',true)=>(d',[1])
  | _=>(d,[0])
def sesG(F:Disk->Str->List Int)(ticks:Int)(s:Disk×List (List Int))(a:GAct):Disk×List (List Int):=((actP F ticks s.1 a).1,s.2++[(actP F ticks s.1 a).2])
def sesR(F:Disk->Str->List Int)(ticks:Int)(l:List GAct):Disk×List (List Int):=l.foldl (sesG F ticks) (za4,[])
def SesI(k:Nat)(s:Disk×List (List Int)):Prop:=DiskOk s.1/\s.1.clock<=4*(k:Int)/\s.2.length=k
theorem okAct_hf(h:Zm a=true):a.kind=0->smFile a.file/\zj a.file.pkg=true:=λ e=>by
 unfold Zm at h
 rw[e,Ke (by rfl)] at h
 exact⟨zbY h,YN h⟩
theorem okAct_hb(h:Zm a=true)(hs:Xw a)(h3:a.kind≠3):a.kind≠0->a.kind≠1->yk a.file.body=true/\yU a.file.body=some (yk a.file.body):=λ h0 h1=>by
 unfold Zm at h
 rw[Kf (by rw[xW h0];decide),Kf (by rw[xW h1];decide)] at h
 split at h
 ·exact⟨h,Jt hs.1.2.2.1 hs.1.2.2.2⟩
 ·rw[Kf (by rw[xW h3];decide)] at h;cases h
theorem Qh(h:Zm a=true)(h3:a.kind=3):zi a.name=true:=by
 unfold Zm at h
 rw[h3,Kf (by decide),Kf (by decide),Kf (by decide),Ke (by rfl)] at h
 exact h
theorem zcL(h:XR l=true):(∀ a∈l,Zm a=true)/\l.length<=20:=by
 unfold XR at h
 rw[Bool.and_eq_true] at h
 exact⟨List.all_eq_true.1 h.1,by have:=h.2;simp[cmpI] at this;omega⟩
section
theorem za5(hi:SesI k s)(hk:k<20)(h:Zm a=true)(hs:Xw a)(h3:a.kind≠3)(h0:0<=ticks)(h1:ticks<=4):
  ∃ z,ZU s.1 a ticks=some z/\wg s.1 a ticks=some z/\actP F ticks s.1 a=(if z.2=true then(z.1,[1]) else(s.1,[0]))/\(z.2=true->DiskOk z.1/\z.1.clock=s.1.clock+ticks):=by
 have hc:=hi.2.1
 obtain⟨z,e1,e2⟩:=change_after (a:=a) hi.1 (by omega) h0 h1 (okAct_hf h) (okAct_hb h hs h3)
 have e3:=change_same (a:=a) hi.1 (by omega) h0 h1 (okAct_hf h) (okAct_hb h hs h3)
 refine⟨z,e3.trans e1,e1,?_,e2⟩
 unfold actP
 rw[Kf h3,e1]
 obtain⟨d,b⟩:=z
 cases b <;> rfl
theorem SesI.next(hi:SesI k s)(hk:k<20)(h:Zm a=true)(hs:Xw a)(h0:0<=ticks)(h1:ticks<=4):SesI (k+1) (sesG F ticks s a):=by
 obtain⟨i1,i2,i3⟩:=hi
 have hl:(sesG F ticks s a).2.length=k+1:=by show(s.2++_).length=_;simp[i3]
 by_cases h3:a.kind=3
 ·have:(sesG F ticks s a).1=s.1:=by show(actP F ticks s.1 a).1=s.1;unfold actP;rw[Ke h3]
  exact⟨by rw[this];exact i1,by rw[this];omega,hl⟩
 ·obtain⟨z,_,_,e,e2⟩:=za5 (F:=F) ⟨i1,i2,i3⟩ hk h hs h3 h0 h1
  have:(sesG F ticks s a).1=if z.2=true then z.1 else s.1:=by show(actP F ticks s.1 a).1=_;rw[e];cases z.2 <;> rfl
  refine⟨?_,?_,hl⟩
  ·rw[this]
   split
   ·exact(e2 (by assumption)).1
   ·exact i1
  ·rw[this]
   split
   ·rename_i hz;rw[(e2 hz).2];omega
   ·omega
end
theorem Qi(hv:∀ a∈l,Zm a=true)(hs:∀ a∈l,Xw a)(hl:l.length<=20)(h0:0<=ticks)(h1:ticks<=4):SesI l.length (sesR F ticks l):=by
 unfold sesR
 have key:∀ (m:List GAct) (k:Nat) (s:Disk×List (List Int)),(∀ a∈m,Zm a=true)->(∀ a∈m,Xw a)->k+m.length<=20->SesI k s->SesI (k+m.length) (m.foldl (sesG F ticks) s):=by
  intro m
  induction m with
  | nil=>intro k s _ _ _ hi;exact hi
  |cons a m ih=>
   intro k s hv hs hk hi
   simp only[List.length_cons] at hk ⊢
   rw[List.foldl_cons,show k+(m.length+1)=k+1+m.length by omega]
   exact ih (k+1) _ (λ x hx=>hv x (List.mem_cons_of_mem _ hx)) (λ x hx=>hs x (List.mem_cons_of_mem _ hx)) (by omega) (hi.next (by omega) (hv a (List.mem_cons_self ..)) (hs a (List.mem_cons_self ..)) h0 h1)
 have:=key l 0 (za4,[]) hv hs (by omega) ⟨zcw,by decide,Z⟩
 simpa using this
theorem walk_eq(hv:∀ a∈l,Zm a=true)(hs:∀ a∈l,Xw a)(hl:l.length<=20)(h0:0<=ticks)(h1:ticks<=4)
  (hrun:∀ d s,DiskOk d->zi s=true->run d s=some (F d s)):Wb l ticks run=some (sesR F ticks l):=by
 unfold Wb
 have key:=JQ (step:=λ s14=>jZ l ticks run s14) l (λ(s:Disk×List (List Int)) j=>(s.1,s.2,(j:Int))) (sesG F ticks) (λ s=>s) (λ k s=>SesI k s)
  (λ k s a ha hlt hi=>by
   have hva:=hv a (List.mem_of_getElem? ha)
   have hsa:=hs a (List.mem_of_getElem? ha)
   have hk:k<20:=by omega
   refine⟨?_,hi.next hk hva hsa h0 h1⟩
   have hl2:s.2.length=k:=hi.2.2
   have happ:∀ x:List Int,appO 24 s.2 [x]=some (s.2++[x]):=λ x=>yg (by simp;omega) (by simp;omega)
   unfold jZ
   simp only
   rw[zD,Ke (decide_eq_true hlt),zG,ha,obS]
   by_cases h3:a.kind=3
   ·rw[Ke (jr h3),hrun _ _ hi.1 (Qh hva h3),obS,happ,obS,obS,zQ (by omega),obS]
    unfold sesG actP
    rw[Ke h3]
   ·obtain⟨z,e1,_,e3,_⟩:=za5 (F:=F) hi hk hva hsa h3 h0 h1
    rw[Kf (by rw[xW h3];decide),e1,obS]
    unfold sesG
    rw[e3]
    cases z.2 with
    | true=>rw[Ke Z,Ke Z,happ,obS,obS,zQ (by omega),obS]
    | false=>rw[Kf (by decide),Kf (by decide),happ,obS,obS,zQ (by omega),obS])
  (λ s hi=>by
   unfold jZ
   simp only
   rw[zD,Kf (by simp)]) (s0:=(za4,[])) ⟨zcw,by decide,Z⟩ (by omega)
 have key':zI (λ s14=>jZ l ticks run s14) ((⟨(⟨([]:List File)⟩:Tree),(0:Int),([]:List Dir)⟩:Disk),[],(0:Int))=some (sesR F ticks l):=key
 rw[key',obS]
theorem fresh_run(hp:path.length<=1048576)(hd:DiskOk d){s:Str}(hs:zi s=true):qr (scc qv) d s path=some (ansV path d s):=by
 have hpl:=jy hs
 have ht:=wu hd.tree
 obtain⟨h1,_,hz⟩:=ran_ok hd.tree hp hs
 have h2:=zbU ⟨ht,hd.tree⟩ hp 483 qv (by decide) st0 s _ st0_inv hs (by show 4*120+_<=_;omega) (by decide) h1
 have ho:(ranR d.tree path s).1.out.length<=12012:=by unfold RSt.size at hz;omega
 unfold qr
 rw[show qk d.tree path 120=some (mach d.tree path st0) from Z,obS,h2,obS]
 simp only
 rw[show(mach d.tree path (ranR d.tree path s).1).out=(ranR d.tree path s).1.out from Z,yg (by simp;omega) (by simp;omega),obS]
 rfl
theorem answer_eq(hp:path.length<=1048576)(hi:SesI k s)(hk:k<20)(h:Zm a=true)(hs:Xw a)(h0:0<=ticks)(h1:ticks<=4):
  ZK (scc qv) s.1 path a ticks ⟨false,yM,j6,[],0⟩=some (actP (ansV path) ticks s.1 a):=by
 unfold ZK
 by_cases h3:a.kind=3
 ·have hn:=Qh h h3
  have hpl:=jy hn
  have hd:=hi.1
  obtain⟨j1,_,hz⟩:=ran_ok hd.tree hp hn
  have h2:=scc_imp (d:=s.1) hd.tree hp 483 qv (by decide) st0 a.name _ st0_inv hn (by show 4*120+_<=_;omega) (by decide) j1
  have ho:(ranR s.1.tree path a.name).1.out.length<=12012:=by unfold RSt.size at hz;omega
  have hr:({ rnr s.1.tree path yM st0 0 with warm:=⟨{ (⟨false,yM,j6,[],0⟩:Warmth) with disk:=s.1 }⟩ }:Runner)=rnr s.1.tree path s.1 st0 0:=rfl
  rw[Kf (by rw[h3];decide),show XF s.1.tree path 120=some (rnr s.1.tree path yM st0 0) from Z,obS,hr,h2,obS]
  simp only
  rw[show(rnr s.1.tree path s.1 (ranR s.1.tree path a.name).1 (ranR s.1.tree path a.name).2.2).out=(ranR s.1.tree path a.name).1.out from Z,yg (by simp;omega) (by simp;omega),obS]
  unfold actP
  rw[Ke h3]
  rfl
 ·obtain⟨z,_,e2,e3,_⟩:=za5 (F:=ansV path) hi hk h hs h3 h0 h1
  rw[Ke (by simp[cmpI,h3]),e2,obS,e3]
  cases z.2 <;> rfl
theorem spec_fresh(hp:path.length<=1048576)(hv:∀ a∈l,Zm a=true)(hs:∀ a∈l,Xw a)(hl:l.length<=20)(h0:0<=ticks)(h1:ticks<=4):
  zI (λ s23=>xV (scc qv) l path ticks s23) (([]:List (List Int)),za4,(0:Int))=some (sesR (ansV path) ticks l).2:=by
 have key:=JQ (step:=λ s23=>xV (scc qv) l path ticks s23) l (λ(s:Disk×List (List Int)) j=>(s.2,s.1,(j:Int))) (sesG (ansV path) ticks) (λ s=>s.2) (λ k s=>SesI k s)
  (λ k s a ha hlt hi=>by
   have hva:=hv a (List.mem_of_getElem? ha)
   have hsa:=hs a (List.mem_of_getElem? ha)
   have hk:k<20:=by omega
   refine⟨?_,hi.next hk hva hsa h0 h1⟩
   have hl2:s.2.length=k:=hi.2.2
   unfold xV
   simp only
   rw[zD,Ke (decide_eq_true hlt),zG,ha,obS,answer_eq hp hi hk hva hsa h0 h1,obS,yg (by simp;omega) (by simp;omega),obS,zQ (by omega),obS]
   rfl)
  (λ s hi=>by
   unfold xV
   simp only
   rw[zD,Kf (by simp)]) (s0:=(za4,[])) ⟨zcw,by decide,Z⟩ (by omega)
 exact key
def Je(l:List GAct)(path:List Int)(ticks:Int):Bool:=XR l&&wM path&&inR ticks 0 4
def Zn(l:List GAct)(path:List Int)(ticks:Int):List (List Int):=if Je l path ticks=true then(sesR (ansV path) ticks l).2 else[]
theorem Qj(h:Je l path ticks=true):((∀ a∈l,Zm a=true)/\l.length<=20)/\wM path=true/\0<=ticks/\ticks<=4:=by
 unfold Je at h
 simp only[Bool.and_eq_true] at h
 refine⟨zcL h.1.1,h.1.2,?_⟩
 have:=h.2
 unfold inR at this
 simpa[cmpI] using this
theorem zcM(hp:path.length<=1048576)(hlen:l.length<=1048576)(hs:∀ a∈l,Xw a):ZH (scc qv) l path ticks=some (Zn l path ticks):=by
 unfold ZH ZT Zn
 rw[zb1 hlen hs,obS,Zk,zV,obS,obS,zbK hp,zV,obS]
 cases ho:Je l path ticks with
 |true=>
  obtain⟨⟨hv,hl⟩,hpv,h0,h1⟩:=Qj ho
  unfold Je at ho
  simp only[Bool.and_eq_true] at ho
  rw[walk_eq (F:=ansV path) hv hs hl h0 h1 λ d s hd hn=>fresh_run hp hd hn,obS,Ke Z]
  rw[ho.1.1,ho.2,ho.1.2]
  rfl
 |false=>
  refine Eq.trans ?_ (congrArg some (Kf (by decide)).symm)
  unfold Je at ho
  revert ho
  cases XR l <;> cases wM path <;> cases inR ticks 0 4 <;> intro ho <;> first | rfl | cases ho
theorem zcx(hp:path.length<=1048576)(hlen:l.length<=1048576)(hs:∀ a∈l,Xw a):ZL (scc qv) l path ticks=some (Zn l path ticks):=by
 unfold ZL Zn
 rw[validActs_eq' hlen hs,obS,show jM path=some (wM path) from Ke trivial,zV,obS,xB,zV,obS]
 cases ho:Je l path ticks with
 |true=>
  obtain⟨⟨hv,hl⟩,hpv,h0,h1⟩:=Qj ho
  unfold Je at ho
  simp only[Bool.and_eq_true] at ho
  have hn:Xq=some za4:=rfl
  rw[hn,obS,spec_fresh hp hv hs hl h0 h1,obS,Ke Z]
  rw[ho.1.1,ho.2,ho.1.2]
  rfl
 |false=>
  refine Eq.trans ?_ (congrArg some (Kf (by decide)).symm)
  unfold Je at ho
  revert ho
  cases XR l <;> cases wM path <;> cases inR ticks 0 4 <;> intro ho <;> first | rfl | cases ho
theorem loop_down3{σ τ:Type}{step:Reader×σ×τ×Int->Option ((Reader×σ×τ×Int)⊕(Reader×σ))}(K:Nat->Int)(P:Nat->σ×τ->Prop)(m:Nat)(hK:∀ i j,i<=j->K i<=K j)
  (h:∀ j r x y n,j<m->Rok (K j) r->P j (x,y)->0<n->n+(j:Int)<=m->∃ r' x' y',step (r,x,y,n)=some (.inl (r',x',y',n - 1))/\Rok (K (j+1)) r'/\P (j+1) (x',y'))
  (hend:∀ r x y n,n<=0->step (r,x,y,n)=some (.inr (r,x))) (hm:m<=1000)  {x:σ} {y:τ} {n:Int} (h0:Rok (K 0) r) (hx:P 0 (x,y)) (hn:n<=m):Dr (K m) (zI step (r,x,y,n)) (λ z=>∃ j u,j<=m/\P j (z,u)):=by
 have key:∀ q j r x y n,j+q=m->Rok (K j) r->P j (x,y)->n<=(q:Int)->∃ r' z,jt step (q+1) (r,x,y,n)=some (r',z)/\Rok (K m) r'/\∃ j' u,j'<=m/\P j' (z,u):=by
  intro q
  induction q with
  | zero=>intro j r x y n hj hr hx hn;exact⟨r,x,yD (hend r x y n (by omega)),hr.le (hK _ _ (by omega)),j,y,by omega,hx⟩
  |succ q ih=>
   intro j r x y n hj hr hx hn
   by_cases hn0:n<=0
   ·exact⟨r,x,yD (hend r x y n hn0),hr.le (hK _ _ (by omega)),j,y,by omega,hx⟩
   ·obtain⟨r',x',y',h1,h2,h3⟩:=h j r x y n (by omega) hr hx (by omega) (by omega)
    rw[wX h1]
    exact ih (j+1) r' x' y' (n - 1) (by omega) h2 h3 (by omega)
 obtain⟨r',z,h1,h2,h3⟩:=key m 0 r x y n (by omega) h0 hx hn
 exact⟨r',z,qt h1 (by omega),h2,h3⟩
theorem smF_sm(h:smF 4 f):smFile f:=by
 obtain⟨f1,f2,f3,f4⟩:=h
 exact⟨by omega,by omega,by omega,λ s hs=>⟨by have:=(f4 s hs).1;omega,by have:=(f4 s hs).2;omega⟩⟩
def smL(n:Nat)(l:List GAct):Prop:=l.length<=n/\∀ a∈l,Xw a
theorem smL.app{n:Nat}(h:smL n l)(ha:Xw a):smL (n+1) (l++[a]):=⟨by have:=h.1;simp;omega,λ x hx=>(List.mem_append.1 hx).elim (h.2 x) λ hx=>by rw[List.mem_singleton.1 hx];exact ha⟩
theorem smL.up{n:Nat}(h:smL n l):smL (n+1) l:=⟨Nat.le_succ_of_le h.1,h.2⟩
theorem zFile_sm:smFile JA:=⟨Nat.zero_le _,Nat.zero_le _,Nat.zero_le _,λ s h=>by cases h⟩
theorem sho_nil:sho (⟨[]⟩:Str):=Nat.zero_le _
theorem someActs_ok{k:Int}(h:Rok k r)(hk:k<=100000):Dr (k+5000) (YU r) (smL 16):=by
 unfold YU
 refine .bind (k:=k+4900) (P:=smL 16) ?_ λ r4 l h4 hl=>?_
 ·refine .bind (za0 (λ n=>n<=16) h (by omega)) λ r2 n h2 hn=>?_
  refine(loop_down3 (λ j=>k+1+300*j) (λ j (v:List GAct×Int)=>smL j v.1/\0<=v.2/\v.2<=(j:Int)) 16 (λ i j hij=>by omega) (λ j r x y n hj hr hx hn hb=>?_) (λ r x y n hn=>?_) (by omega) (h2.le (by show k+1<=k+1+300*((0:Nat):Int);omega)) ⟨⟨Nat.le_refl _,λ _ h=>by cases h⟩,Int.le_refl _,Int.le_refl _⟩ (by exact hn)).mono (by show k+1+300*((16:Nat):Int)<=k+4900;omega) (λ z ⟨j,u,hj,hy⟩=>⟨Nat.le_trans hy.1.1 hj,hy.1.2⟩)
  ·obtain⟨hxl,hy0,hyj⟩:=hx
   have hxl:smL j x:=hxl
   have hy0:0<=y:=hy0
   have hyj:y<=(j:Int):=hyj
   have hxn:=hxl.1
   suffices hs:∃ z,wV (r,x,y,n)=Option.some z/\∃ r' x' y',z=.inl (r',x',y',n - 1)/\Rok (k+1+300*((j+1:Nat):Int)) r'/\smL (j+1) x'/\0<=y'/\y'<=((j+1:Nat):Int) by
    obtain⟨z,e,r',x',y',rfl,e2,e3⟩:=hs
    exact⟨r',x',y',e,e2,e3⟩
   have happ:∀ a:GAct,appO 112 x [a]=Option.some (x++[a]):=λ a=>yg (by simp;omega) (by simp;omega)
   unfold wV
   rw[Ke (by simp[cmpI];omega)]
   refine Dr.step (k:=k+1+300*j+300) (P:=λ(v:List GAct×Int)=>smL (j+1) v.1/\0<=v.2/\v.2<=((j+1:Nat):Int)) ?_ λ r4 v h4 hv=>?_
   ·dsimp only
    refine .bind (jk 8 hr (by omega)) λ r5 v5 h5 _=>.any (by split;exact⟨_,Z⟩;split <;> exact⟨_,Z⟩) λ o=>.ite (λ _=>?_) λ _=>.ite (λ _=>?_) λ _=>.ite (λ _=>?_) λ _=>?_
    ·refine .bind (someFile_ok h5 (by omega)) λ r6 f h6 hf=>.some (happ _) (.some (xb (by omega) (by omega)) (.pure (h6.le (by omega)) ⟨hxl.app ⟨smF_sm hf,sho_nil⟩,by dsimp only;omega,by dsimp only;omega⟩))
    ·refine .some (xb (by omega) (by omega)) (.bind (jk _ h5 (by omega)) λ r6 v6 h6 _=>.bind (zcJ h6 (by omega)) λ r7 b h7 hb=>.some (happ _) (.pure (h7.le (by omega)) ⟨hxl.app ⟨⟨Nat.zero_le _,Nat.zero_le _,by have:=hb.1;dsimp only;omega,λ s hs=>⟨by have:=(hb.2 s hs).1;omega,by have:=(hb.2 s hs).2;omega⟩⟩,sho_nil⟩,by dsimp only;omega,by dsimp only;omega⟩))
    ·refine .bind (jk 2 h5 (by omega)) λ r6 v6 h6 _=>.ite (λ _=>?_) λ _=>.pure (h6.le (by omega)) ⟨hxl.up,by dsimp only;omega,by dsimp only;omega⟩
     exact .some (xb (by omega) (by omega)) (.bind (jk _ h6 (by omega)) λ r7 v7 h7 _=>.some (happ _) (.pure (h7.le (by omega)) ⟨hxl.app ⟨zFile_sm,sho_nil⟩,by dsimp only;omega,by dsimp only;omega⟩))
    ·exact .bind (zbM h5 (by omega)) λ r6 s h6 hs=>.some (happ _) (.pure (h6.le (by omega)) ⟨hxl.app ⟨zFile_sm,by unfold sho;dsimp only;omega⟩,by dsimp only;omega,by dsimp only;omega⟩)
   ·exact⟨_,by dsimp only;rw[xb (by omega) (by omega),obS],r4,v.1,v.2,Z,h4.le (by omega),hv⟩
  ·unfold wV
   dsimp only
   rw[Kf (by simp[cmpI];omega)]
 ·refine .bind (k:=k+5000) (P:=smL 16) ?_ λ r5 m h5 hm=>.pure h5 hm
  dsimp only
  cases hc:cmpI .gtr (l.length:Int) 0 with
  |false=>
   rw[show(false == true)=false from Z,Xs,obS,Bool.false_and,Kf (show ¬ (false=true) by decide),Kf (show ¬ (false=true) by decide)]
   exact .pure (h4.le (by omega)) hl
  |true=>
   rw[show(true == true)=true from Z,jD]
   refine .bind (jk 20 h4 (by omega)) λ r6 v6 h6 _=>.ite (λ _=>?_) λ _=>?_
   ·rw[Ke Z]
    refine .bind (za0 (λ _=>True) h6 (by omega) (hP:=(λ _ _=>trivial))) λ r7 v7 h7 _=>?_
    obtain⟨a,ha,hm⟩:=Qa (l:=l) (i:=0) (by omega) (by simp[cmpI] at hc;omega)
    exact .some ha (.pure (h7.le (by omega)) ⟨by simp;exact hl.1,λ y hy=>(List.mem_or_eq_of_mem_set hy).elim (hl.2 y) λ hy=>by rw[hy];exact⟨(hl.2 a hm).1,(hl.2 a hm).2⟩⟩)
   ·rw[Ke Z];exact .pure (h6.le (by omega)) hl
theorem zc3(c:List UInt8):∃ l path t,jw c=some (l,path,t)/\smL 16 l/\path.length<=3:=by
 obtain⟨r,h1,h2⟩:=newReader_ok c
 obtain⟨r1,l,e1,k1,p1⟩:=someActs_ok h2 (by omega)
 obtain⟨r2,q,e2,k2,p2⟩:=anyPath_ok k1 (by omega)
 obtain⟨r3,t,e3,k3,p3⟩:=za0 (λ _=>True) (l:=[(1:Int),(0:Int),(2:Int),(4:Int),(5:Int),(-1:Int)]) k2 (by omega) (hP:=(λ _ _=>trivial))
 refine⟨l,q,t,?_,p1,p2⟩
 unfold jw
 rw[h1,obS,e1,obS,e2,obS,e3,obS]
section
theorem ses_grow(m:List GAct):∀ s:Disk×List (List Int),∃ x,(m.foldl (sesG F ticks) s).2=s.2++x:=by
 induction m with
 | nil=>intro s;exact⟨[],by simp⟩
 |cons a m ih=>
  intro s
  obtain⟨x,hx⟩:=ih (sesG F ticks s a)
  exact⟨[(actP F ticks s.1 a).2]++x,by rw[List.foldl_cons,hx];show(s.2++_)++x=_;rw[List.append_assoc]⟩
theorem ses_disk(m:List GAct):∀ s t:Disk×List (List Int),s.1=t.1->(m.foldl (sesG F ticks) s).1=(m.foldl (sesG G ticks) t).1:=by
 induction m with
 | nil=>intro s t h;exact h
 |cons a m ih=>
  intro s t h
  refine ih _ _ ?_
  show(actP F ticks s.1 a).1=(actP G ticks t.1 a).1
  rw[h]
  unfold actP
  split
  ·rfl
  ·cases wg t.1 a ticks with
   | none=>rfl
   | some z=>obtain⟨d,b⟩:=z;cases b <;> rfl
theorem zb3(hv:(∀ a∈l,Zm a=true)/\l.length<=20)(k:Nat):(∀ a∈l.take k,Zm a=true)/\(l.take k).length<=20:=⟨λ a ha=>hv.1 a (List.mem_of_mem_take ha),by rw[List.length_take];omega⟩
theorem ses_take(hv:(∀ a∈l,Zm a=true)/\l.length<=20)(hs:∀ a∈l,Xw a)(h0:0<=ticks)(h1:ticks<=4)(hk:k<=l.length):(sesR F ticks l).2.take k=(sesR F ticks (l.take k)).2:=by
 have hw:=zb3 hv k
 have hi:=Qi (F:=F) hw.1 (λ a ha=>hs a (List.mem_of_mem_take ha)) hw.2 h0 h1
 have hlen:(sesR F ticks (l.take k)).2.length=k:=by rw[hi.2.2,List.length_take];omega
 have e:sesR F ticks l=(l.drop k).foldl (sesG F ticks) (sesR F ticks (l.take k)):=by
  unfold sesR
  rw[← List.foldl_append,List.take_append_drop]
 obtain⟨x,hx⟩:=ses_grow (F:=F) (ticks:=ticks) (l.drop k) (sesR F ticks (l.take k))
 rw[e,hx,List.take_left' hlen]
theorem ses_at(hv:(∀ a∈l,Zm a=true)/\l.length<=20)(hs:∀ a∈l,Xw a)(h0:0<=ticks)(h1:ticks<=4)(ha:l[k]?=some a):(sesR F ticks l).2[k]?=some (actP F ticks (sesR F ticks (l.take k)).1 a).2:=by
 have hk:k<l.length:=(List.getElem?_eq_some_iff.1 ha).1
 have h2:=ses_take (F:=F) hv hs h0 h1 (k:=k+1) (by omega)
 have hw:=zb3 hv k
 have hi:=Qi (F:=F) hw.1 (λ a ha=>hs a (List.mem_of_mem_take ha)) hw.2 h0 h1
 have hlen:(sesR F ticks (l.take k)).2.length=k:=by rw[hi.2.2,List.length_take];omega
 have e:sesR F ticks (l.take (k+1))=sesG F ticks (sesR F ticks (l.take k)) a:=by
  unfold sesR
  rw[List.take_add_one,ha,List.foldl_append]
  rfl
 have h3:(sesR F ticks l).2[k]?=((sesR F ticks l).2.take (k+1))[k]?:=by rw[List.getElem?_take,Ke (by omega)]
 rw[h3,h2,e]
 show((sesR F ticks (l.take k)).2++[_])[k]?=_
 rw[List.getElem?_append_right (by omega),hlen,Nat.sub_self]
 rfl
theorem ses_len(hF:∀ d s,DiskOk d->zi s=true->(F d s).length<=20000)(hv:(∀ a∈l,Zm a=true)/\l.length<=20)(hs:∀ a∈l,Xw a)(h0:0<=ticks)(h1:ticks<=4):∀ z∈(sesR F ticks l).2,z.length<=20000:=λ z hz=>by
 obtain⟨k,hk⟩:=List.getElem?_of_mem hz
 have hi:=Qi (F:=F) hv.1 hs hv.2 h0 h1
 have hlt:k<l.length:=by rw[← hi.2.2];exact(List.getElem?_eq_some_iff.1 hk).1
 have ha:l[k]?=some l[k]:=List.getElem?_eq_getElem hlt
 rw[ses_at hv hs h0 h1 ha] at hk
 injection hk with hk
 rw[← hk]
 have hw:=zb3 hv k
 have hd:=(Qi (F:=F) hw.1 (λ a ha=>hs a (List.mem_of_mem_take ha)) hw.2 h0 h1).1
 unfold actP
 split
 ·rename_i h3;exact hF _ _ hd (Qh (hv.1 _ (List.getElem_mem hlt)) h3)
 ·split <;> simp
theorem ansV_len(hp:path.length<=1048576)(hd:DiskOk d){s:Str}(hs:zi s=true):(ansV path d s).length<=20000:=by
 obtain⟨_,_,hz⟩:=ran_ok hd.tree hp hs
 unfold ansV
 unfold RSt.size at hz
 simp only[List.length_cons]
 omega
theorem DiskAfter_eq(hlen:l.length<=1048576)(hs:∀ a∈l,Xw a)(ho:XR l=true)(h0:0<=ticks)(h1:ticks<=4):Zd l ticks=some (sesR (ansV path) ticks l).1:=by
 obtain⟨hv,hl⟩:=zcL ho
 unfold Zd ZT
 rw[zb1 hlen hs,obS,Zk,zV,obS,obS,ho,show(true == true)=true from Z,Ke Z,show inR ticks 0 4=true by unfold inR;simp[cmpI];omega,Kf (by decide),walk_eq (F:=λ _ _=>[]) (run:=Zw) hv hs hl h0 h1 λ _ _ _ _=>Z,obS]
 exact congrArg some (ses_disk l _ _ Z)
end
theorem ints_same{x:List Int}(h:x.length<=288230376151711744):wW x x=some true:=by
 have:wW x x=some (decide (x=x)):=by
  unfold wW
  refine eqS_list (λ k hk hk2=>?_) ?_ (by omega)
  ·unfold jx
   simp only[lss_at hk,if_true,atI_at hk,obS,zQ (show k<4611686018427387904 by omega)]
   simp[cmpI]
  ·unfold jx
   rw[lss_end];rfl
 rw[this];simp
theorem za6(h:x.length<=288230376151711744)(hz:∀ z∈x,z.length<=20000):xI x x=some true:=by
 have:xI x x=some (decide (x=x)):=by
  unfold xI
  refine eqS_list (λ k hk hk2=>?_) ?_ (by omega)
  ·unfold jh
   simp only[lss_at hk,if_true,atI_at hk,obS,zQ (show k<4611686018427387904 by omega),ints_same (x:=x[k]) (by have:=hz x[k] (List.getElem_mem hk);omega)]
   simp
  ·unfold jh
   rw[lss_end];rfl
 rw[this];simp
section
variable{s:Str}
theorem one_import(ht:jl t)(hp:path.length<=1048576)(hn:sho s)(h:okG t path s=true):YV (scc qv) t path s=some (resV (ranR t path s).1 [(ranR t path s).2.2]):=by
 unfold YV
 rw[one_import0 ht hp hn h,obS]
end
theorem zb4(c:List UInt8):Z1 (scc qv) c=some true:=by
 unfold Z1
 split
 ·rfl
 obtain⟨l,path,ticks,hd,⟨hl,hs⟩,hp⟩:=zc3 c
 have hp':path.length<=1048576:=by omega
 rw[hd,obS]
 simp only
 rw[zcM hp' (by omega) hs,obS,zcx hp' (by omega) hs,obS]
 have hF:∀ d s,DiskOk d->zi s=true->(ansV path d s).length<=20000:=λ d s hd hn=>ansV_len hp' hd hn
 have hfl:(Zn l path ticks).length<=16/\∀ z∈Zn l path ticks,z.length<=20000:=by
  unfold Zn
  split
  ·rename_i ho
   obtain⟨hv,_,h0,h1⟩:=Qj ho
   exact⟨by rw[(Qi hv.1 hs hv.2 h0 h1).2.2];exact hl,ses_len hF hv hs h0 h1⟩
  ·exact⟨Nat.zero_le _,λ z h=>by cases h⟩
 rw[za6 (by omega) hfl.2,obS]
 by_cases hz:(Zn l path ticks).length=0
 ·rw[Ke (by rw[hz];rfl),obS,za6 (by omega) hfl.2,obS]
 ·rw[Kf (by simp[cmpI];intro e;exact hz (by rw[e];rfl))]
  have ho:Je l path ticks=true:=by
   cases h:Je l path ticks with
   | true=>rfl
   | false=>exact absurd (show(Zn l path ticks).length=0 by unfold Zn;rw[h];rfl) hz
  have hfv:Zn l path ticks=(sesR (ansV path) ticks l).2:=by unfold Zn;rw[Ke ho]
  obtain⟨hv,hpv,h0,h1⟩:=Qj ho
  have hfn:(Zn l path ticks).length=l.length:=by rw[hfv];exact(Qi hv.1 hs hv.2 h0 h1).2.2
  have hoa:XR l=true:=by unfold Je at ho;simp only[Bool.and_eq_true] at ho;exact ho.1.1
  have hot:∀ k,XR (l.take k)=true:=λ k=>by
   have hw:=zb3 hv k
   unfold XR
   rw[Bool.and_eq_true]
   exact⟨List.all_eq_true.2 hw.1,by have:=hw.2;simp only[cmpI,decide_eq_true_eq];omega⟩
  have hst:∀ k,∀ a∈l.take k,Xw a:=λ k a ha=>hs a (List.mem_of_mem_take ha)
  have hk:l.length / 2<=l.length:=Nat.div_le_self ..
  have hdv:divO (l.length:Int) 2=some ((l.length / 2:Nat):Int):=by
   unfold divO
   simp
   omega
  have hsli:∀ {α:Type} (xs:List α) (k:Nat),k<=xs.length->ZX xs (k:Int)=some (xs.take k):=λ xs k hk=>by
   unfold ZX
   rw[Ke ⟨by omega,by omega⟩,Int.toNat_natCast]
  have hbk:Zn (l.take (l.length / 2)) path ticks=(Zn l path ticks).take (l.length / 2):=by
   have hok:Je (l.take (l.length / 2)) path ticks=true:=by
    unfold Je at ho ⊢
    simp only[Bool.and_eq_true] at ho ⊢
    exact⟨⟨hot _,ho.1.2⟩,ho.2⟩
   rw[hfv,ses_take hv hs h0 h1 hk]
   unfold Zn
   rw[Ke hok]
  rw[hdv,obS,hsli l _ hk,obS,zcM hp' (by rw[List.length_take];omega) (hst _),obS]
  have hloop:zI (λ s34=>xq (scc qv) (l,path,ticks) (Zn l path ticks) s34) (0:Int)=some (.inl ()):=by
   refine XO l.length (λ k=>(k:Int)) (λ k hk=>?_) ?_ (by omega) Z
   ·have ha:l[k]?=some l[k]:=List.getElem?_eq_getElem hk
    have hva:=hv.1 _ (List.getElem_mem hk)
    have hsa:=hs _ (List.getElem_mem hk)
    unfold xq
    simp only
    rw[zD,Ke (decide_eq_true hk),zG,ha,obS]
    by_cases h3:l[k].kind=3
    ·have hw:=zb3 hv k
     have hi:=Qi (F:=ansV path) hw.1 (hst k) hw.2 h0 h1
     have hn:=Qh hva h3
     have hog:okG (sesR (ansV path) ticks (l.take k)).1.tree path l[k].name=true:=by unfold okG;rw[hi.1.tree,hpv,hn];rfl
     have hat:(Zn l path ticks)[k]?=some (ansV path (sesR (ansV path) ticks (l.take k)).1 l[k].name):=by
      rw[hfv,ses_at hv hs h0 h1 ha]
      unfold actP
      rw[Ke h3]
     have hal:=ansV_len hp' hi.1 hn
     have hol:(ranR (sesR (ansV path) ticks (l.take k)).1.tree path l[k].name).1.out.length<=20000:=by
      have e:(ansV path (sesR (ansV path) ticks (l.take k)).1 l[k].name).length=(ranR (sesR (ansV path) ticks (l.take k)).1.tree path l[k].name).1.out.length+1:=rfl
      omega
     rw[Kf (by rw[h3];decide),hsli l k (by omega),obS,DiskAfter_eq (path:=path) (by rw[List.length_take];omega) (hst k) (hot k) h0 h1,obS,obS,
      one_import (wu hi.1.tree) hp' hsa.2 hog,obS,zG,hat,obS]
     rw[show atI (resV (ranR (sesR (ansV path) ticks (l.take k)).1.tree path l[k].name).1 [(ranR (sesR (ansV path) ticks (l.take k)).1.tree path l[k].name).2.2]).ends (0:Int)=some (ranR (sesR (ansV path) ticks (l.take k)).1.tree path l[k].name).2.2 from Z,obS]
     rw[show(resV (ranR (sesR (ansV path) ticks (l.take k)).1.tree path l[k].name).1 [(ranR (sesR (ansV path) ticks (l.take k)).1.tree path l[k].name).2.2]).out=(ranR (sesR (ansV path) ticks (l.take k)).1.tree path l[k].name).1.out from Z,yg (by simp;omega) (by simp;omega),obS]
     rw[show[(ranR (sesR (ansV path) ticks (l.take k)).1.tree path l[k].name).2.2]++(ranR (sesR (ansV path) ticks (l.take k)).1.tree path l[k].name).1.out=ansV path (sesR (ansV path) ticks (l.take k)).1 l[k].name from Z,ints_same (by omega),obS,Kf (by decide),obS]
     rw[Sum.elim_inl,zQ (by omega)]
     rfl
    ·rw[Ke (by simp[cmpI,h3]),obS]
     rw[Sum.elim_inl,zQ (by omega)]
     rfl
   ·unfold xq
    simp only
    rw[zD,Kf (by simp)]
  have hloop':zI (λ s34=>xq (scc qv) (l,path,ticks) (Zn l path ticks) s34) (0:Int)=some (Sum.inl ()):=hloop
  rw[hloop',obS]
  show((gO _ _).bind _:Option Bool)=_
  have heq:cmpI .eql ((Zn l path ticks).length:Int) (l.length:Int)=true:=by rw[hfn];simp[cmpI]
  rw[heq,show(true == true)=true from Z,jD,hsli _ _ (by omega),obS,jD,hbk,za6 (by rw[List.length_take];omega) (λ z hz=>hfl.2 z (List.mem_of_mem_take hz)),obS]
  rfl
theorem zc4(c:List UInt8):Fn prog 4 [dt c] (dt true):=zb2 (Jq qv) (zb4 c)
end Go.Proofs.YtandbaloaenciaaGreatDoor
