import Derived.Test.YtoomehfflopakaaGreatDoorTU
namespace Go.Proofs.YtoomehfflopakaaGreatDoor
open Go.RowKit
variable{d:eK}{f:fj}{a:GAct}{m:eZ}{mode ticks:Int}{c:List eU}{l:List GAct}{path rs:List Int}{j k:Nat}{I:kR}{st:eL}{v:eL×fu×Int}{q r:eL×Int}{R:Rec}{x:Stmt}{nm s:Str}
variable(d:eK)(mode:Int)(path:List Int)
def fA(st:eL)(e:Int):Runner:=⟨d.tree,path,st.mods,st.log,st.out,e,st.left,⟨⟨true,d,st.fin,st.sto,mode⟩⟩⟩
variable{d mode path}{n:Nat}
theorem JS(h:st.mods.length<=1048576)(e:Int)(s:Str):wH (fA d mode path st e) s=some (fA d mode path st e,iA st s):=by
 unfold wH;have hl:zE (λ s4=>Za (fA d mode path st e) s s4) 0=some (match st.mods.findIdx? (hits s) with | some i=>(Sum.inr (fA d mode path st e,(i:Int)):Unit⊕_) | none=>Sum.inl ()):=by
  refine YL st.mods _ (λ i=>Sum.inr _) _ (λ k x hx hlt=>?_) ?_ (by omega) Z
  .unfold Za;rw[show(fA d mode path st e).mods=st.mods from Z,zx,Ke (ab hlt),zA,hx,Kd,gd,Kd,fF (by omega)];unfold hits;cases decide (x.name=s) with
   |true=>rw[Ke (show(true == true)=true from Z)];cases x.cached <;> rfl
   | false=>rfl
  .unfold Za;rw[show(fA d mode path st e).mods=st.mods from Z,zx,Kf (by simp)]
 rw[hl];unfold iA xo
 grind
theorem tO(h:st.log.length<=1048576)(e k:Int)(s:Str):jL (fA d mode path st e) k s=some (fA d mode path (st.note k s) e):=by
 unfold jL;rw[show(fA d mode path st e).log=st.log from Z,yj (by show(st.log.length+1)*24<=_;omega) (by show st.log.length+1<=_;omega),Kd];rfl
theorem Dz{l:List fI}(h:l.length<=16777216)(s:Str):ZC l s=some (iX l s):=by
 unfold ZC;have hl:zE (λ s4=>qC l s s4) 0=some (match l.findIdx? (λ a=>decide (a.name=s)) with | some i=>(Sum.inr (i:Int):Unit⊕Int) | none=>Sum.inl ()):=by
  refine YL l (λ a=>decide _) (λ i=>Sum.inr i) _ (λ k x hx hlt=>?_) ?_ (by omega) Z
  .unfold qC;rw[zx,Ke (ab hlt),zA,hx,Kd,fF (by omega),Kd];cases decide (x.name=s) <;> rfl
  .unfold qC;rw[zx,Kf (by simp)]
 rw[hl];unfold iX xo
 grind
theorem QU(h:Inv st)(hm:st.mods[k]?=some m)(e:Int)(s:Str)(v:fu):wI (fA d mode path st e) (k:Int) s v=some (fA d mode path (st.il k s v) e):=by
 have hi:=h.at_ hm;unfold wI;rw[show(fA d mode path st e).mods=st.mods from Z,zA,hm,Kd,Dz hi.2.2.1,Kd,Kd,ak];have hg:fA d mode path (st.il k s v) e={ fA d mode path st e with mods:=st.mods.set k { m with attrs:=Yv m.attrs s v } }:=by rw[Cf hm];rfl
 rw[hg];unfold Yv;rcases tl m.attrs s with⟨h1,_⟩ | ⟨j,a,h1,_,h3,_⟩
 .rw[h1,sH,Kf (by decide),Kf (by decide),Kd,yj (by show(m.attrs.length+1)*32<=_;omega) (by show m.attrs.length+1<=_;omega),Kd,Kd]
 .rw[h1,Yx,Ke (show true=true from Z),Ke (show true=true from Z),zA,h3,Kd,ak,Qj _ h3]
theorem SI(h:zm m.name=true):Yf m=some (if m.kind=1 then yb m.name else m.name):=by
 unfold Yf;by_cases hk:m.kind=1
 .rw[Ke (by simp[ez,hk]),Ke hk,show wd m.name=some _ from Ke (jF h).mid];rfl
 .rw[Kf (by simp[ez,hk]),Kf hk]
theorem KC(hdk:gg d)(ht:Good d.tree)(h:Inv st)(e:Int)(hr:yu rs){p:Str}(hp:zi p=true)(hs:fW s=true)(hc:zm (child p s)=true):YH (fA d mode path st e) rs p s=some (fA d mode path (sO d st rs p s).1 e,(sO d st rs p s).2):=by
 unfold YH;rw[Kf (show ¬ _=true from λ h=>by cases h),show(fA d mode path st e).warm.x.finder=st.fin from rfl,show(fA d mode path st e).warm.x.disk=d from rfl,Sw h.fin hdk ht.sm hr.1 hr.2 hp hs hc,Kd];rfl
theorem Hc(hdk:gg d)(ht:Good d.tree)(hp:yu path)(h:Inv st)(hs:Small st)(e:Int)(hv:zm s=true):ZD (fA d mode path st e) s=some (fA d mode path (X9 d path st s).1 e,(X9 d path st s).2):=by
 have hl:=yt hv;have hn:=Ge hv;unfold ZD X9;rw[show wd s=some _ from Ke (jF hv).mid,Kd];by_cases he:yb s=fG
 .have hls:qG s=s:=by
   rw[he] at hn;unfold child at hn;rw[Ke Z] at hn;exact hn.symm
  rw[Ke (ab (show yb s=(⟨[]⟩:Str) from he)),Ke he,show(fA d mode path st e).path=path from Z,KC hdk ht h e hp (p:=(⟨[]⟩:Str)) (by rfl) (by rw[<-hls];exact Jp hv) (show zm (child fG s)=true by unfold child;rw[Ke Z];exact hv),Kd];rfl
 .have he':¬ yb s=(⟨[]⟩:Str):=he;have hpp:=(XG hv he).2;have hpl:=yt hpp;have hla:=B4 (Jp hv);rw[Kf (by simp[he']),Kf he,JS hs.mods,Kd];rcases XI st _ with⟨h1,_⟩ | ⟨k,m,h1,h2,h3,_⟩
  .rw[h1,u7];rw[show((true == false):Bool)=false from Z,Zu,Kd,Ke (by simp),Ke Z];rfl
  .rw[h1,Ad,show((false == false):Bool)=true from Z,wj,show(fA d mode path st e).mods=st.mods from Z,zA,h2,Kd,dd,Kf (by decide:¬ (false=true)),ak,Qp h2,KE h2];by_cases hk:m.kind=1
   .rw[Ke (by simp[ez,hk]),Ke hk];rfl
   .rw[Kf (by simp[ez,hk]),Kf hk,Kd,show Yp s=some _ from Ke (jF hv).mid,Kd,KC hdk ht h e (h.at_ h2).2.2.2 (ql hpp) (Jp hv) (by rw[<-hn];exact hv),Kd]
def pe(d:eK)(mode:Int)(path:List Int)(n:Nat)(R:Rec)(I:kR):Prop:=
 ∀ st s r,Inv st->zm s=true->4*st.left.toNat+(zC s dot).length<=n->st.size<=20000->I st s=some r->R.spec_importName (fA d mode path st 0) s=some (fA d mode path r.1 r.2.2,r.2.1)
def MC(d:eK)(mode:Int)(path:List Int)(n:Nat)(R:Rec)(I:kR):Prop:=
 ∀ st j m s v,Inv st->st.mods[j]?=some m->fW s=true->4*st.left.toNat+3<=n->st.size<=20000->oL d path I st j s=some v->R.spec_fromName (fA d mode path st 0) j s=some (fA d mode path v.1 v.2.2,v.2.1)
theorem TI(hdk:gg d)(ht:Good d.tree)(hp:yu path)(hL:pe d mode path n R I)(hI:Xu n I)(h:Inv st)(hn:4*st.left.toNat+3<=n)(hsz:st.size<=20000)(hj:st.mods[j]?=some m)(hnm:fW nm=true)(hv:oL d path I st j nm=some v):
  Wf R (fA d mode path st 0) (j:Int) nm=some (fA d mode path v.1 v.2.2,v.2.1):=by
 have hi:=h.at_ hj;have hnl:=yt hi.2.1;have hnp:=B4 hnm;have hcl:=Dk m.name nm;have sm:=eL.small hsz;unfold oL at hv;rw[Jq hj,Qp hj,vT hj] at hv;unfold Wf;rw[show(fA d mode path st 0).mods=st.mods from Z,zA,hj,Kd,Dz hi.2.2.1,Kd];rcases tl m.attrs nm with⟨h1,_⟩ | ⟨k,a,h1,_,h3,_⟩
 .rw[h1,sH,Kf (by decide)] at hv;have hvn:yz (child m.name nm)=some _:=Ke (by unfold gM;omega);rw[h1,sH,Kf (by decide),Kd,show wi m.name nm=some _ from Ke (by omega),Kd,Kd,hvn,gd,Kd];by_cases hk:m.kind=1
  .rw[Ke (.inl hk)] at hv;cases hv;rw[jY hk,Ke (by rfl)];rfl
  .rw[wm hk,show(false == false)=true from Z,Ke (show true=true from Z),dd];cases hc:zm _ with
   |false=>rw[Ke (.inr hc)] at hv;cases hv;rw[Ke (by rfl)];rfl
   |true=>
    have hpl:=qQ hc;rw[Kf (λ e=>e.elim hk λ e=>by rw[hc] at e;cases e)] at hv;rw[Kf (by decide),JS sm.mods,Kd];cases hl:ez .lss _ 0 with
    |true=>
     obtain⟨li,_,ll,lz,_,_,_⟩:=rM hdk h hp hc;rw[Ke hl] at hv;rw[show(true == true)=true from Z,wj,Hc hdk ht hp h sm 0 hc,Kd,bA,Ke (show true=true from Z)];generalize X9 d path st _=w at*;obtain⟨w1,w2⟩:=w;dsimp only at li ll lz hv ⊢;by_cases hz:w2.kind=0
     .rw[Ke hz] at hv;cases hv;rw[Ke (jY hz)];rfl
     .obtain⟨q,hq,hqp⟩:=hI w1 _ li hc (by rw[ll];omega);have hld:=hL w1 _ q li hc (by rw[ll];omega) (by omega) hq;rw[Kf hz,hq,Kd] at hv;cases hv;rw[Kf (by rw[wm hz];decide),hld,Kd]
    |false=>obtain⟨q,hq,hqp⟩:=hI st _ h hc (by omega);have hld:=hL st _ q h hc (by omega) hsz hq;rw[Kf (by rw[hl];decide),hq,Kd] at hv;cases hv;rw[show(false == true)=false from Z,Zu,Kd,cp,Kf (by decide),Kf (by decide),hld,Kd]
 .rw[h1,Yx,Ke (show true=true from Z),ak,h3] at hv;cases hv;rw[h1,Yx,Ke (show true=true from Z),Kd,zA,h3,Kd];rfl
theorem S6(hk':∃ m,st.mods[k]?=some m)(l:List fI)(h:Inv st)(hl:∀ a∈l,fW a.name=true)(hb:l.length<=16777216):
  zE (λ a8=>wJ R (k:Int) l a8) (fA d mode path st 0,(0:Int))=some (fA d mode path (pA k l st) 0):=by
 obtain⟨m0,hm0⟩:=hk';have key:=XC l (λ(s:eL) j=>_) (λ s a=>if _=true then s else s.il k a.name a.value) (λ s=>fA d mode path s 0) (λ _ s=>Inv s/\∃ m,s.mods[k]?=some m)
  (λ j s a ha hlt ⟨hi,m1,hm1⟩=>by
   have hva:=hl a (ae ha);have hne:a.name.l[0]?=some (a.name.l.headD 0):=by
    rcases vM hva with⟨c,e,_⟩ | ⟨c,d,e,_⟩ | ⟨c,d,e',e,_⟩ <;> rw[e] <;> rfl
   have hat:eN a.name.l (0:Int)=some _:=hne;have hgr:=gz.il (st:=s) k a.name a.value;obtain⟨m2,hm2⟩:=hgr.at_ hm1;have hs:wJ R (k:Int) l (fA d mode path s 0,(j:Int))=some (.inl (fA d mode path (if(a.name.l.headD 0 == 122)=true then s else s.il k a.name a.value) 0,((j+1:Nat):Int))):=by
    unfold wJ;simp only;rw[zx,Ke (ab hlt),zA,ha,Kd,hat,Kd,fF (by omega)];cases hz:(a.name.l.headD 0 == 122) with
    |true=>rw[Kf (by simp[gT] at hz ⊢;exact hz),Ke Z];rfl
    |false=>rw[Ke (by simp[gT] at hz ⊢;exact hz),Kd,Kd,QU hi hm1,Kf (by decide)];rfl
   refine⟨hs,?_⟩;split
   .exact⟨hi,m1,hm1⟩
   .exact⟨hi.il k _ hva,m2,hm2⟩)
  (λ s _=>by
   unfold wJ;simp only;rw[zx,Kf (by simp)]) ⟨h,m0,hm0⟩ (by omega)
 exact key
variable{n:Nat}
theorem N7(hdk:gg d)(hp:yu path)(hI:Xu n I)(hL:pe d mode path n R I)(hV:MC d mode path n R I)(h:Inv st)(hn:4*st.left.toNat+3<=n)(hsz:st.size<=19950)(hk:st.mods[k]?=some m)(hx:zM x=true)(hkd:x.kind=1)(hr:Xt d path I st k x=some r):
  WP R (fA d mode path st 0) (k:Int) x=some (fA d mode path r.1 r.2):=by
 have hi:=h.at_ hk;have hsx:zi x.module=true/\0<=x.level/\x.level<=3:=by
  rcases Wh hx with h1 | h1 | h1
  .exact absurd h1.1 (by omega)
  .exact⟨h1.2.1,h1.2.2.1,h1.2.2.2⟩
  .exact absurd hkd h1.2.1
 have hnm:=th hx (.inl hkd);unfold Xt at hr;have hpk:pG st k=if m.kind=1 then yb m.name else m.name:=by unfold pG;rw[Qp hk,vT hk]
 rw[Kf (by omega),Ke hkd,hpk] at hr;have hpv:zi (if m.kind=1 then yb m.name else m.name)=true:=by
  split
  .exact QO (ql hi.2.1)
  .exact ql hi.2.1
 have hsh:ia (Xr (if m.kind=1 then yb m.name else m.name) x.level x.module):=by
  have:=S2 hpv hx;unfold Ci at this;rw[Kf (by simp[ez,hkd]),Ke (by simp[ez,hkd])] at this;exact this
 unfold WP;rw[show(fA d mode path st 0).mods=st.mods from Z,zA,hk,Kd,SI hi.2.1,Kd,Vg hpv hsx.2.1 (by omega) (vl hsx.1),Kd];generalize Xr _ x.level x.module=s1 at*;rw[show yz s1=some _ from Ke hsh.mid,Kd];cases hv:zm s1 with
 |false=>rw[Ke hv] at hr;cases hr;rw[Ke (by rfl)];rfl
 |true=>
  rw[Kf (by rw[hv];decide)] at hr;have hpl:=qQ hv;obtain⟨q,hq,hqp⟩:=hI st s1 h hv (by omega);have hqs:=hqp.size;have hld:=hL st s1 q h hv (by omega) (by omega) hq;rw[hq,Kd] at hr;rw[Kf (by decide),hld,Kd];by_cases he:q.2.2=0
  .rw[Kf (by simp[he])] at hr;obtain⟨m',hm'⟩:=hqp.grow.at_ hk;obtain⟨m2,hm2,hmn,h0⟩:=hqp.good he;have hlq:=hqp.grow.left;obtain⟨j,hj⟩:∃ j:Nat,q.2.1=j:=⟨_,(bN h0).symm⟩;rw[hj,ak] at hm2;rw[hj,ak] at hr;have hn':4*q.1.left.toNat+3<=n:=by have:=h.left;have:=hqp.inv.left;omega
   obtain⟨v,hve,hvb⟩:=Cr hdk hp hI hqp.inv hn' j x.name hnm;have hval:=hV q.1 j m2 x.name v hqp.inv hm2 hnm hn' (by omega) hve;rw[hve,Kd] at hr;obtain⟨m3,hm3⟩:=hvb.grow.at_ hm';simp only;rw[show(fA d mode path q.1 q.2.2).fin=q.2.2 from Z,he,Kf (by decide),hj,hval,Kd];by_cases hz:v.2.2=0
   .rw[Kf (by simp[hz])] at hr;cases hr;simp only;rw[show(fA d mode path v.1 v.2.2).fin=v.2.2 from Z,Ke (jY hz),QU hvb.inv hm3,hz];rfl
   .rw[Ke hz] at hr;cases hr;simp only;rw[show(fA d mode path v.1 v.2.2).fin=v.2.2 from Z,Kf (by rw[wm hz];decide)]
  .rw[Ke he] at hr;cases hr;simp only;rw[show(fA d mode path q.1 q.2.2).fin=q.2.2 from Z,Ke (mB he)]
theorem S5(hI:Xu n I)(hL:pe d mode path n R I)(h:Inv st)(hn:4*st.left.toNat+3<=n)(hsz:st.size<=19950)(hk:st.mods[k]?=some m)(hx:zM x=true)(hkd:x.kind=2)(hr:Xt d path I st k x=some r):
  Xn R (fA d mode path st 0) (k:Int) x=some (fA d mode path r.1 r.2):=by
 have hv:=Wv hx (.inr hkd);have hpl:=qQ hv;obtain⟨q,hq,hp⟩:=hI st x.module h hv (by omega);have hqs:=hp.size;unfold Xt at hr;rw[Kf (by omega),Kf (by omega),Ke hkd,hq,Kd] at hr;have hld:=hL st x.module q h hv (by omega) (by omega) hq;unfold Xn;rw[hld,Kd];by_cases he:q.2.2=0
 .rw[Kf (by simp[he])] at hr;obtain⟨m',hm'⟩:=hp.grow.at_ hk;obtain⟨m2,hm2,_,h0⟩:=hp.good he;have hi2:=hp.inv.at_ hm2;obtain⟨j,hj⟩:∃ j:Nat,q.2.1=j:=⟨_,(bN h0).symm⟩;rw[hj,ak] at hm2;rw[hj,ak,Jq hm2] at hr;cases hr;simp only;rw[show(fA d mode path q.1 q.2.2).fin=q.2.2 from Z,he,Kf (by decide),hj,show(fA d mode path q.1 0).mods=q.1.mods from Z,zA,hm2,Kd,
   yj (by simp;omega) (by simp;omega),Kd,bb,S6 ⟨m',hm'⟩ m2.attrs hp.inv (hp.inv.parts m2 hi2.1) hi2.2.2.1]
 .rw[Ke he] at hr;cases hr;simp only;rw[show(fA d mode path q.1 q.2.2).fin=q.2.2 from Z,Ke (mB he)]
def sA(d:eK)(mode:Int)(path:List Int)(n:Nat)(F:Runner->Int->Stmt->Option Runner)(I:kR)(P:Int->Prop):Prop:=
 ∀ st k m x r,Inv st->st.mods[k]?=some m->zM x=true->P x.kind->4*st.left.toNat+3<=n->st.size<=19950->Xt d path I st k x=some r->F (fA d mode path st 0) k x=some (fA d mode path r.1 r.2)
theorem NY(s:Str):(zC s dot)[0]?=some (Wi s):=by
 have:=Wu s;unfold Wi;cases h:zC s dot with
 | nil=>rw[h] at this;simp at this
 | cons a l=>rfl
theorem S1(hI:Xu n I)(hL:pe d mode path n R I)(hF:sA d mode path n R.spec_runFrom I (·=1))(hS:sA d mode path n R.spec_runStar I (·=2))(h:Inv st)(hn:4*st.left.toNat+3<=n)(hsz:st.size<=19950)(hk:st.mods[k]?=some m)(hx:zM x=true)(hr:Xt d path I st k x=some r):
  WO R (fA d mode path st 0) (k:Int) x=some (fA d mode path r.1 r.2):=by
 have hi:=h.at_ hk;unfold WO;by_cases h0:x.kind=0
 .have hv:=Wv hx (.inl h0);have hpl:=qQ hv;obtain⟨q,hq,hp⟩:=hI st x.module h hv (by omega);have hqs:=hp.size;unfold Xt at hr;rw[Ke h0,hq,Kd] at hr;have hld:=hL st x.module q h hv (by omega) (by omega) hq;have smq:=eL.small (st:=q.1) (n:=20000) (by omega);rw[Ke (jY h0),hld,Kd,show qJ x.module (UInt8.ofNat 46)=some (zC x.module dot) from Ke (jF hv).mid,Kd,show eN _ (0:Int)=_[0]? from Z,NY,Kd];simp only;rw[show(fA d mode path q.1 q.2.2).fin=q.2.2 from Z];by_cases he:q.2.2=0
  .rw[Kf (by simp[he])] at hr;obtain⟨m',hm'⟩:=hp.grow.at_ hk;rw[he,Kf (by decide),JS smq.mods,Kd];cases hc:ez .lss _ 0 with
   |true=>rw[Ke hc] at hr;cases hr;rw[Ke (show true=true from Z)];rfl
   |false=>rw[Kf (by simp[hc])] at hr;cases hr;rw[Kf (by decide),JS smq.mods,Kd,QU hp.inv hm'];rfl
  .rw[Ke he] at hr;cases hr;rw[Ke (mB he)]
 .rw[Kf (by rw[wm h0];decide)];by_cases h1:x.kind=1
  .rw[Ke (jY h1),hF st k m x r h hk hx h1 hn hsz hr];rfl
  .rw[Kf (by rw[wm h1];decide)];by_cases h2:x.kind=2
   .rw[Ke (jY h2),hS st k m x r h hk hx h2 hn hsz hr];rfl
   .unfold Xt at hr;rw[Kf h0,Kf h1,Kf h2] at hr;rw[Kf (by rw[wm h2];decide)];by_cases h3:x.kind=3
    .rw[Ke h3] at hr;cases hr;rw[Ke (jY h3),QU h hk];rfl
    .rw[Kf h3] at hr;rw[Kf (by rw[wm h3];decide)];by_cases h4:x.kind=4
     .rw[Ke h4,Jq hk] at hr;rw[Ke (jY h4),show(fA d mode path st 0).mods=st.mods from Z,zA,hk,Kd,Dz hi.2.2.1,Kd];rcases tl m.attrs x.name with⟨k1,_⟩ | ⟨j,a,k1,_,k3,_⟩
      .rw[k1,u7,Ke (show true=true from Z)] at hr;cases hr;rw[k1,u7,Ke (show true=true from Z)];rfl
      .rw[k1,Ad,Kf (by decide),ak,k3] at hr;cases hr;have ho:st.out.length<=19950:=by unfold eL.size at hsz;omega
       rw[k1,Ad,Kf (by decide),Kd,zA,k3,Kd];have hsh:WN a.value=some (if a.value.kind=1 then -1 else a.value.num):=by
        unfold WN;by_cases hz:a.value.kind=1
        .rw[Ke (jY hz),Ke hz]
        .rw[Kf (by rw[wm hz];decide),Kf hz]
       rw[hsh,Kd,show(fA d mode path st 0).out=st.out from Z,yj (by show(st.out.length+1)*8<=_;omega) (by show st.out.length+1<=_;omega),Kd];rfl
     .rw[Kf h4] at hr;rw[Kf (by rw[wm h4];decide)];by_cases h5:x.kind=5
      .rw[Ke h5] at hr;cases hr;rw[Ke (jY h5)];rfl
      .rw[Kf h5] at hr;cases hr;rw[Kf (by rw[wm h5];decide)]
theorem KF(hdk:gg d)(hp:yu path)(hI:Xu n I)(hD:sA d mode path n R.spec_runStmt I (λ _=>True))(k:Nat)(l:List Stmt)(hl:∀ x∈l,zM x=true)(hlen:l.length<1000000000):∀ (m i:Nat) (st:eL) (r:eL×Int),i+m=l.length->Inv st->(∃ mm,st.mods[k]?=some mm)->4*st.left.toNat<=n+1->st.left<=1000000->st.size<=20050->mA d path I k (l.drop i) st=some r->
  wC (λ s2=>xW R (k:Int) l s2) (m+1) (fA d mode path st 0,(i:Int))=some (fA d mode path r.1 r.2)
 |0,i,st,r,hi,_,_,_,_,_,hr=>by
  have:i=l.length:=by omega
  subst this;rw[bX] at hr;unfold mA at hr;cases hr;refine yD ?_;unfold xW;simp only;rw[zx,Kf (by simp)]
 |m+1,i,st,r,hi,h,⟨mm,hmm⟩,hn,hle,hsz,hr=>by
  have hlt:i<l.length:=by omega
  have hx:l[i]?=some l[i]:=aa hlt;have hv:=hl l[i] (ba hlt);rw[bt hlt] at hr;unfold mA at hr;have hl0:=h.left;by_cases hz:st.left=0
  .rw[Ke hz] at hr;cases hr;refine yD ?_;unfold xW;simp only;rw[zx,Ke (ab hlt),show(fA d mode path st 0).left=st.left from Z,Ke (jY hz)];rfl
  .rw[Kf hz] at hr;have ht:=h.tick hz;have hts:=Ha h hz;have htl:st.tick.left=st.left - 1:=rfl;obtain⟨q,hq,hb⟩:=Ck hdk hp hI ht (by rw[htl];omega) k hv;have hbs:=hb.size;have hbl:=hb.grow.left;have hbi:=hb.inv.left;obtain⟨m2,hm2⟩:=hb.grow.at_ (show st.tick.mods[k]?=some mm from hmm);have hd:=hD st.tick k mm l[i] q ht hmm hv trivial (by rw[htl];omega) (by omega) hq;rw[show Xt d path I { st with left:=st.left - 1 } k l[i]=some q from hq,Kd] at hr;have hs:xW R (k:Int) l (fA d mode path st 0,(i:Int))=some (if q.2≠0 then .inr (fA d mode path q.1 q.2) else .inl (fA d mode path q.1 q.2,((i+1:Nat):Int))):=by
    unfold xW;simp only;rw[zx,Ke (ab hlt),show(fA d mode path st 0).left=st.left from Z,Kf (by rw[wm hz];decide),xa (by omega) (by omega),Kd,zA,hx,Kd,
     show({ fA d mode path st 0 with left:=st.left - 1 }:Runner)=fA d mode path st.tick 0 from Z,hd,Kd,fF (by omega),Kd,show(fA d mode path q.1 q.2).fin=q.2 from Z]
    by_cases he:q.2=0
    .rw[he,Kf (by decide),Kf (by simp)]
    .rw[Ke (mB he),Ke he]
   by_cases he:q.2=0
   .rw[Kf (by simp[he])] at hr;rw[Kf (by simp[he]),he] at hs;rw[x9 hs];exact KF hdk hp hI hD k l hl hlen m (i+1) q.1 r (by omega) hb.inv ⟨m2,hm2⟩ (by rw[htl] at hbl;omega) (by rw[htl] at hbl;omega) (by omega) hr
   .rw[Ke he] at hr;cases hr;rw[Ke he] at hs;exact yD hs
def uz(d:eK)(mode:Int)(path:List Int)(n:Nat)(R:Rec)(I:kR):Prop:=
 ∀ st k m l r,Inv st->st.mods[k]?=some m->(∀ x∈l,zM x=true)->l.length<1000000000->4*st.left.toNat<=n+1->st.left<=1000000->st.size<=20050->mA d path I k l st=some r->R.spec_runBody (fA d mode path st 0) k l=some (fA d mode path r.1 r.2)
theorem Su(hdk:gg d)(hp:yu path)(hI:Xu n I)(hD:sA d mode path n R.spec_runStmt I (λ _=>True))(h:Inv st)(hk:st.mods[k]?=some m){l:List Stmt}(hl:∀ x∈l,zM x=true)(hlen:l.length<1000000000)(hn:4*st.left.toNat<=n+1)(hle:st.left<=1000000)(hsz:st.size<=20050)(hr:mA d path I k l st=some r):QN R (fA d mode path st 0) (k:Int) l=some (fA d mode path r.1 r.2):=
 jN (KF hdk hp hI hD k l hl hlen l.length 0 st r (by omega) h ⟨m,hk⟩ hn hle hsz (by rw[bR];exact hr)) (by omega)
variable{n:Nat}
theorem S0(hdk:gg d)(ht:Good d.tree)(hm2:eR mode 0 2=true)(hB:uz d mode path n R I)(h:Inv st)(hm:st.mods[k]?=some m)(hn:4*st.left.toNat<=n+1)(hle:st.left<=1000000)(hsz:st.size<=20050){sp:Spec}(hf:sp.file<0\/∃ f,d.tree.files[sp.file.toNat]?=some f)(hq:ou d mode path I st k sp=some q):
  (if(ez .geq sp.file (0:Int))=true then((YT (fA d mode path st 0) sp.file).bind λ a8=>
(R.spec_runBody a8.1 (k:Int) a8.2).bind λ a9=>
 some a9)
else(some (fA d mode path st 0)))=some (fA d mode path q.1 q.2):=by
 unfold ou at hq;cases hg:ez .geq sp.file 0 with
 |false=>rw[hg,Kf (by decide)] at hq;cases hq;rw[Kf (by decide)]
 |true=>
  have h0:=oD hg;rw[hg,Ke (show true=true from Z)] at hq;obtain⟨f,hf⟩:=hf.resolve_left (by omega);have hfm:=ae hf;have hfv:=jO ht.ok hfm;have hfs:=ht.sm.2 f hfm;rw[show oP d.tree.files sp.file=f by unfold oP;rw[hf];rfl] at hq;obtain⟨l1,l2⟩:=BW h.sto hfv hm2;have hbv:=Dc l2;have hbl:(QS st.sto f mode).1.length<=8:=by
   unfold gG at l2;simp[ez] at l2;omega
  have hi3:Inv (nC mode st f).1:=⟨h.names,h.roots,h.parts,h.apart,h.left,h.fin,l1⟩;have hbo:YT (fA d mode path st 0) sp.file=some (fA d mode path (nC mode st f).1 0,(QS st.sto f mode).1):=by
   unfold YT;rw[Kf (show ¬ _=true from λ h=>by cases h),show(fA d mode path st 0).t=d.tree from rfl,show eN d.tree.files sp.file=some f by rw[<-bN h0,zA,hf],Kd,show(fA d mode path st 0).warm.x.store=st.sto from rfl,show(fA d mode path st 0).warm.x.mode=mode from rfl,Vr h.sto hfv hfs,Kd,yj (by simp;omega) (by simp;omega),Kd,bb];rfl
  rw[Ke (show true=true from Z),hbo,Kd,hB (nC mode st f).1 k m _ q hi3 hm hbv (by omega) hn hle (by exact hsz) hq,Kd]
theorem Ft(hdk:gg d)(ht:Good d.tree)(hm2:eR mode 0 2=true)(hp:yu path)(hI:Xu n I)(hB:uz d mode path n R I)(h:Inv st)(hn:4*st.left.toNat<=n+1)(hle:st.left<=1000000)(hsz:st.size<=20020)(hs:zm s=true){r:eL×Int×Int}(hr:pw d mode path I (X9 d path st s).1 s (X9 d path st s).2=some r):
  ((ZD (fA d mode path st 0) s).bind λ a8=>
 if(ez .eql a8.2.kind (0:Int))=true then(some ({ a8.1 with fin:=(1:Int) },(-1:Int)))
else(Option.bind (α:=Runner) ((fE 80 a8.1.mods [(⟨s,a8.2.kind,a8.2.roots,true,false,[]⟩:eZ)]).bind λ d5=>
 some ({ a8.1 with mods:=d5 })) λ d6=>
(jL d6 (0:Int) s).bind λ b5=>
 Option.bind (α:=Runner) (if(ez .geq a8.2.file (0:Int))=true then((YT b5 a8.2.file).bind λ b6=>
(R.spec_runBody b6.1 (a8.1.mods.length:Int) b6.2).bind λ b7=>
 some b7)
else(some b5)) λ a9=>
 if(ez .neq a9.fin (0:Int))=true then((eN a9.mods (a8.1.mods.length:Int)).bind λ b8=>
(jL ({ a9 with mods:=(a9.mods.set (a8.1.mods.length:Int).toNat ({ b8 with cached:=false })) }) (2:Int) s).bind λ b9=>
 some (b9,(-1:Int)))
else((eN a9.mods (a8.1.mods.length:Int)).bind λ c8=>
(jL ({ a9 with mods:=(a9.mods.set (a8.1.mods.length:Int).toNat ({ c8 with done:=true })) }) (1:Int) s).bind λ d1=>
 Option.bind (α:=Runner) ((wH d1 (yb s)).bind λ b3=>
 if(ez .geq b3.2 (0:Int))=true then((Yp s).bind λ d2=>
(wI b3.1 b3.2 d2 (⟨(1:Int),(a8.1.mods.length:Int)⟩:fu)).bind λ d3=>
 some d3)
else(some b3.1)) λ d4=>
 some (d4,(a8.1.mods.length:Int)))))=some (fA d mode path r.1 r.2.2,r.2.1):=by
 have sm:=eL.small hsz;obtain⟨li,lm,ll,lz,_,hlr,hlf⟩:=rM hdk h hp hs;rw[Hc hdk ht hp h sm 0 hs,Kd];unfold pw at hr;generalize X9 d path st s=w at*;obtain⟨st,sp⟩:=w;dsimp only at li lm ll lz hlr hlf hr ⊢;rw[<-ll] at hn hle;rw[<-lz] at hsz
 clear h sm lm ll lz
 have h:=li;have sm:=eL.small hsz;by_cases hk:sp.kind=0
 .rw[Ke hk] at hr;cases hr;rw[Ke (jY hk)];rfl
 .rw[Kf hk] at hr;have hbi:=h.begin hs hlr;have hbz:(st.begin s sp).size=st.size+2:=by unfold eL.size eL.begin;simp;omega
  have hbm:(st.begin s sp).mods[st.mods.length]?=some ⟨s,sp.kind,sp.roots,true,false,[]⟩:=by unfold eL.begin;simp
  obtain⟨q,hq,hb⟩:=vq hdk hm2 hp hI hbi (by exact hn) st.mods.length sp hlf;have hqs:=hb.size;rw[hq,Kd] at hr;obtain⟨m,hm⟩:=hb.grow.at_ hbm;have hrun:=S0 hdk ht hm2 hB hbi hbm (by exact hn) hle (by omega) hlf hq;rw[Kf (by rw[wm hk];decide),show(fA d mode path st 0).mods=st.mods from Z,yj (by have:=sm.mods;show(st.mods.length+1)*80<=_;omega) (by have:=sm.mods;show st.mods.length+1<=_;omega),Kd,Kd,
   show({ fA d mode path st 0 with mods:=st.mods++[⟨s,sp.kind,sp.roots,true,false,[]⟩] }:Runner)=fA d mode path (st.grown s sp) 0 from Z,tO (st:=st.grown s sp) sm.log,Kd,show(st.grown s sp).note 0 s=st.begin s sp from Z]
  rw[hrun,Kd,ak,show(fA d mode path q.1 q.2).fin=q.2 from Z,show(fA d mode path q.1 q.2).mods=q.1.mods from Z,zA,hm,Kd];have smq:=eL.small (st:=q.1) (n:=20100) (by omega);by_cases he:q.2=0
  .rw[Kf (by simp[he])] at hr;cases hr;rw[he,Kf (by decide),Kd];have hid:=hb.inv.done st.mods.length s;have hdz:(q.1.done st.mods.length s).size=q.1.size+1:=by unfold eL.size eL.done;simp[tq];omega
   have hdn:eL.note { q.1 with mods:=q.1.mods.set st.mods.length { m with done:=true } } 1 s=q.1.done st.mods.length s:=by unfold eL.done;rw[Qj _ hm];rfl
   have hn2:=tO (d:=d) (mode:=mode) (path:=path) (st:={ q.1 with mods:=q.1.mods.set st.mods.length { m with done:=true } }) smq.log 0 1 s;rw[hdn] at hn2;refine(congrFun (bu Option.bind hn2) _).trans ?_;rw[Kd,JS (eL.small (n:=20100) (by omega)).mods,Kd];unfold eL.tell;rcases XI _ _ with⟨h1,_⟩ | ⟨k,m2,h1,h2,h3,_⟩
   .simp only;rw[h1,sH,Kf (by decide),Kf (by decide),Kd]
   .simp only;rw[h1,Yx,Ke (show true=true from Z),Ke (show true=true from Z),show Yp s=some _ from Ke (jF hs).mid,Kd,QU hid h2,Kd,Kd,ak]
  .rw[Ke he] at hr;cases hr;have hdn:eL.note { q.1 with mods:=q.1.mods.set st.mods.length { m with cached:=false } } 2 s=q.1.fail st.mods.length s:=by unfold eL.fail;rw[Qj _ hm];rfl
   have hn2:=tO (d:=d) (mode:=mode) (path:=path) (st:={ q.1 with mods:=q.1.mods.set st.mods.length { m with cached:=false } }) smq.log q.2 2 s;rw[hdn] at hn2;rw[Ke (mB he)];refine(congrFun (bu Option.bind hn2) _).trans ?_;rfl
theorem SE(hdk:gg d)(ht:Good d.tree)(hm2:eR mode 0 2=true)(hp:yu path)(hI:Xu n I)(hL:pe d mode path n R I)(hB:uz d mode path n R I)(h:Inv st)(hs:zm s=true)(hn:4*st.left.toNat+(zC s dot).length<=n+1)(hle:st.left<=1000000)(hsz:st.size<=20000){r:eL×Int×Int}(hr:rh d mode path I st s=some r):
  Y5 R (fA d mode path st 0) s=some (fA d mode path r.1 r.2.2,r.2.1):=by
 have sm:=eL.small hsz;have hpp:=Wu s;have hpl:=qQ hs;unfold rh at hr;unfold Y5;rw[JS sm.mods,Kd];simp only;rcases XI st s with⟨h1,_⟩ | ⟨k,m,h1,h2,h3,_⟩
 .rw[h1,Kf (by decide)] at hr;rw[h1,Kf (by decide),show wd s=some _ from Ke (jF hs).mid,Kd];by_cases he:yb s=fG
  .rw[Ke he,Kd,Kf (by simp)] at hr;simp only at hr;rw[h1,Kf (by decide)] at hr;have hd:decide (yb s≠(⟨[]⟩:Str))=false:=by rw[show yb s=_ from he];rfl
   rw[hd,show(false == true)=false from Z,Zu,Kd,cp,Kf (by decide),Kf (by decide),JS sm.mods,Kd];simp only;rw[h1,Kf (by decide)];exact Ft hdk ht hm2 hp hI hB h (by omega) hle (by omega) hs hr
  .have he':¬ yb s=(⟨[]⟩:Str):=he;obtain⟨e1,e2⟩:=XG hs he;obtain⟨q,hq,hqp⟩:=hI st _ h e2 (by omega);have hqs:=hqp.size;have hql:=hqp.grow.left;have hqi:=hqp.inv.left;have hl0:=h.left;have hld:=hL st _ q h e2 (by omega) hsz hq;rw[Kf he,hq,Kd] at hr;have hd:=ab he';rw[hd,show(true == true)=true from Z,wj,hld,Kd,bA,Ke (show true=true from Z)];simp only;by_cases hz:q.2.2=0
   .rw[Kf (by simp[hz])] at hr;obtain⟨_,_,_,h0⟩:=hqp.good hz;rw[Kf (by simp[ez];omega),hz,JS (eL.small (n:=20100) (by omega)).mods,Kd];simp only;rcases XI q.1 s with⟨k1,_⟩ | ⟨k,m,k1,k2,k3,_⟩
    .rw[k1,Kf (by decide)] at hr;rw[k1,Kf (by decide)];exact Ft hdk ht hm2 hp hI hB hqp.inv (by omega) (by omega) (by omega) hs hr
    .have smq:=eL.small (st:=q.1) (n:=20100) (by omega);rw[k1,Ke (Yx k),ak] at hr;cases hr;rw[k1,Ke (Yx k),tO smq.log,Kd];rfl
   .have hb:=hqp.bad hz;rw[Ke hz] at hr;cases hr;rw[Ke (by rw[hb];decide)]
 .rw[h1,Ke (Yx k),ak] at hr;cases hr;rw[h1,Ke (Yx k),tO sm.log,Kd];rfl
theorem Sv(hdk:gg d)(ht:Good d.tree)(hm2:eR mode 0 2=true)(hp:yu path){M:Nat}(hL:∀ j,pe d mode path k (scc (M+j)) (imp d mode path k)):uz d mode path k (scc (M+4)) (imp d mode path k):=
 have hI:=pO hdk hm2 hp k;have hV:=λ _ _ _ _ _ h hm hs hn hsz hv=>TI hdk ht hp (hL 0) hI h hn hsz hm hs hv
 have hF:=λ _ _ _ _ _ h hm hx hk hn hsz hr=>N7 hdk hp hI (hL 1) hV h hn hsz hm hx hk hr
 have hS:=λ _ _ _ _ _ h hm hx hk hn hsz hr=>S5 hI (hL 1) h hn hsz hm hx hk hr
 have hD:sA d mode path k (scc (M+3)).spec_runStmt _ (λ _=>True):=λ _ _ _ _ _ h hm hx _ hn hsz hr=>S1 hI (hL 2) hF hS h hn hsz hm hx hr
 λ _ _ _ _ _ h hm hl hlen hn hle hsz hr=>Su hdk hp hI hD h hm hl hlen hn hle hsz hr
theorem Cc(hdk:gg d)(ht:Good d.tree)(hm2:eR mode 0 2=true)(hp:yu path):∀ (k N:Nat),5*k<=N->pe d mode path k (scc N) (imp d mode path k)
 | 0,_,_=>λ _ _ _ _ _ _ _ hr=>by cases hr
 |k+1,N,hN=>λ st s r h hs hn hsz hr=>by
  obtain⟨M,rfl⟩:∃ M,N=M+5:=⟨N - 5,by omega⟩;exact SE hdk ht hm2 hp (pO hdk hm2 hp k) (Cc hdk ht hm2 hp k (M+4) (by omega)) (Sv hdk ht hm2 hp λ j=>Cc hdk ht hm2 hp k (M+j) (by omega)) h hs hn (F4 h hsz) hsz hr
def fK(f:fj)(c:List eU):eL:=⟨[],[],[],120,[],f,c⟩
def Yy:Nat:=2420
section
theorem Cg(hf:km f)(hc:lC c):Inv (fK f c):=⟨(λ _ h=>by cases h),(λ _ h=>by cases h),(λ _ h=>by cases h),(λ _ h=>by cases h),by show(0:Int)<=120;decide,hf,hc⟩
theorem Ch:(fK f c).size=12000:=by unfold eL.size fK;simp
def kj(d:eK)(mode:Int)(path:List Int)(f:fj)(c:List eU)(s:Str):eL×Int×Int:=(imp d mode path 483 (fK f c) s).getD (fK f c,0,0)
theorem vm(hdk:gg d)(hm:eR mode 0 2=true)(hp:yu path)(hf:km f)(hc:lC c)(hs:zm s=true):imp d mode path 483 (fK f c) s=some (kj d mode path f c s)/\su (fK f c) s (kj d mode path f c s)/\(kj d mode path f c s).1.size<=12012:=by
 have hpl:=qQ hs;obtain⟨r,hr,hk⟩:=pO hdk hm hp 483 (fK f c) s (Cg hf hc) hs (by show 4*120+_<=_;omega);have:kj d mode path f c s=r:=by unfold kj;rw[hr];rfl
 rw[this];have h1:=hk.size;rw[Ch] at h1;exact⟨hr,hk,by omega⟩
theorem Gj(h:XK a=true):a.kind=0->iC a.file/\zi a.file.pkg=true:=λ e=>by
 unfold XK at h;rw[e,Ke (by rfl)] at h;exact⟨I5 h,qk h⟩
theorem Gi(h:XK a=true)(hs:QR a)(h3:a.kind≠3):a.kind≠0->a.kind≠1->gG a.file.body=true/\y9 a.file.body=some (gG a.file.body):=λ h0 h1=>by
 unfold XK at h;rw[Kf (by rw[wm h0];decide),Kf (by rw[wm h1];decide)] at h;split at h
 .exact⟨h,CI hs.1.2.2.1 hs.1.2.2.2⟩
 .rw[Kf (by rw[wm h3];decide)] at h;cases h
theorem vN(h:XK a=true)(h3:a.kind=3):zm a.name=true:=by
 unfold XK at h;rw[h3,Kf (by decide),Kf (by decide),Kf (by decide),Ke (by rfl)] at h;exact h
theorem RA(h:nM l=true):(∀ a∈l,XK a=true)/\l.length<=20:=by
 unfold nM at h;rw[ac] at h;exact⟨am.1 h.1,by have:=h.2;simp[ez] at this;omega⟩
end
structure mU where
 d:eK
 f:fj
 c:List eU
 o:List (List Int)
def lD(mode:Int)(path:List Int)(ticks:Int)(s:mU)(a:GAct):mU:=
 if a.kind=3 then⟨s.d,(kj s.d mode path s.f s.c a.name).1.fin,(kj s.d mode path s.f s.c a.name).1.sto,s.o++[(kj s.d mode path s.f s.c a.name).2.2::(kj s.d mode path s.f s.c a.name).1.out]⟩
 else match jD s.d a ticks with
  | some (d',true)=>⟨d',s.f,s.c,s.o++[[1]]⟩
  | _=>⟨s.d,s.f,s.c,s.o++[[0]]⟩
def sS:mU:=⟨uI,⟨[],0,0⟩,[],[]⟩
def ov(mode:Int)(path:List Int)(ticks:Int)(l:List GAct):mU:=l.foldl (lD mode path ticks) sS
structure lR(k:Nat)(s:mU):Prop where
 disk:gg s.d
 clock:s.d.clock<=4*(k:Int)
 fin:km s.f
 sto:lC s.c
 len:s.o.length=k
 each:∀ z∈s.o,z.length<=20000
theorem Ce:lR 0 sS:=⟨NK,by decide,NL,lC.nil,Z,λ _ h=>by cases h⟩
section
variable{s:mU}
theorem Dd(hi:lR k s)(hk:k<20)(h:XK a=true)(hs:QR a)(h3:a.kind≠3)(h0:0<=ticks)(h1:ticks<=4):
  ∃ z,YQ s.d a ticks=some z/\jD s.d a ticks=some z/\lD mode path ticks s a=(if z.2=true then⟨z.1,s.f,s.c,s.o++[[1]]⟩ else⟨s.d,s.f,s.c,s.o++[[0]]⟩)/\(z.2=true->gg z.1/\z.1.clock=s.d.clock+ticks):=by
 have hc:=hi.clock;obtain⟨z,e1,e2⟩:=Nd (a:=a) hi.disk (by omega) h0 h1 (Gj h) (Gi h hs h3);have e3:=Nf (a:=a) hi.disk (by omega) h0 h1 (Gj h) (Gi h hs h3);refine⟨z,e3.trans e1,e1,?_,e2⟩;unfold lD;rw[Kf h3,e1];obtain⟨d,b⟩:=z;cases b <;> rfl
theorem B3(hm:eR mode 0 2=true)(hp:yu path)(hi:lR k s)(h:XK a=true)(h3:a.kind=3):(kj s.d mode path s.f s.c a.name).1.out.length<=12012:=by
 obtain⟨_,_,hz⟩:=vm hi.disk hm hp hi.fin hi.sto (vN h h3);unfold eL.size at hz;omega
theorem lR.next(hm:eR mode 0 2=true)(hp:yu path)(hi:lR k s)(hk:k<20)(h:XK a=true)(hs:QR a)(h0:0<=ticks)(h1:ticks<=4):lR (k+1) (lD mode path ticks s a):=by
 have hc:=hi.clock;have hl:=hi.len;have he:∀ (x:List Int),x.length<=20000->∀ z∈s.o++[x],z.length<=20000:=λ x hx z hz=>(bg.1 hz).elim (hi.each z) λ e=>by rw[aH.1 e];exact hx
 by_cases h3:a.kind=3
 .have ho:=B3 hm hp hi h h3;obtain⟨_,hr,_⟩:=vm hi.disk hm hp hi.fin hi.sto (vN h h3);unfold lD;rw[Ke h3];exact⟨hi.disk,by show s.d.clock<=_;omega,hr.inv.fin,hr.inv.sto,by show(s.o++_).length=_;simp[hl],he _ (by rw[aW];omega)⟩
 .obtain⟨z,_,_,e,e2⟩:=Dd (mode:=mode) (path:=path) hi hk h hs h3 h0 h1;rw[e];split
  .rename_i hz;exact⟨(e2 hz).1,by show z.1.clock<=_;rw[(e2 hz).2];omega,hi.fin,hi.sto,by show(s.o++_).length=_;simp[hl],he _ (by decide)⟩
  .exact⟨hi.disk,by show s.d.clock<=_;omega,hi.fin,hi.sto,by show(s.o++_).length=_;simp[hl],he _ (by decide)⟩
theorem SA(hm:eR mode 0 2=true)(hp:yu path)(hv:∀ a∈l,XK a=true)(hs:∀ a∈l,QR a)(hl:l.length<=20)(h0:0<=ticks)(h1:ticks<=4):lR l.length (ov mode path ticks l):=by
 unfold ov;have key:∀ (m:List GAct) (k:Nat) (s:mU),(∀ a∈m,XK a=true)->(∀ a∈m,QR a)->k+m.length<=20->lR k s->lR (k+m.length) (m.foldl (lD mode path ticks) s):=by
  intro m
  induction m with
  | nil=>intro k s _ _ _ hi;exact hi
  |cons a m ih=>intro k s hv hs hk hi;simp only[aW] at hk ⊢;rw[bP,show k+(m.length+1)=k+1+m.length by omega];exact ih (k+1) _ (λ x hx=>hv x (bD _ hx)) (λ x hx=>hs x (bD _ hx)) (by omega) (hi.next hm hp (by omega) (hv a (bF ..)) (hs a (bF ..)) h0 h1)
 have:=key l 0 sS hv hs (by omega) Ce;simpa using this
theorem Sq(hm:eR mode 0 2=true)(hp:yu path)(hi:lR k s)(h:XK a=true)(h3:a.kind=3):
  sC (scc Yy) ⟨path,⟨s.f⟩,s.c,mode⟩ s.d a.name=some (⟨path,⟨(kj s.d mode path s.f s.c a.name).1.fin⟩,(kj s.d mode path s.f s.c a.name).1.sto,mode⟩,(kj s.d mode path s.f s.c a.name).2.2::(kj s.d mode path s.f s.c a.name).1.out):=by
 have hn:=vN h h3;have hpl:=qQ hn;have ho:=B3 hm hp hi h h3;have ht:=wM hi.disk.tree;obtain⟨j1,_,_⟩:=vm hi.disk hm hp hi.fin hi.sto hn;have h2:=Cd hi.disk ⟨ht,hi.disk.tree⟩ hm hp 483 Yy (by decide) (fK s.f s.c) a.name _ (Cg hi.fin hi.sto) hn (by show 4*120+_<=_;omega) (by rw[Ch];decide) j1;unfold sC Jx;have hnew:(Y4 s.d.tree path 120).bind (λ v4=>(scc Yy).impl_machine_load1 ({ v4 with known:=(⟨some ((⟨s.d⟩:C1 eK),⟨s.f⟩)⟩:iP),load:=(⟨some ((⟨mode⟩:C1 Int),s.c)⟩:lA) }) a.name)=some (fh s.d mode path (kj s.d mode path s.f s.c a.name).1,(kj s.d mode path s.f s.c a.name).2.1,(kj s.d mode path s.f s.c a.name).2.2):=h2;unfold Y4 at hnew ⊢;rw[Kd] at hnew ⊢;dsimp only at hnew ⊢;rw[hnew,Kd];dsimp only;rw[show(fh s.d mode path (kj s.d mode path s.f s.c a.name).1).out=(kj s.d mode path s.f s.c a.name).1.out from Z,yj (by simp;omega) (by simp;omega),Kd];rfl
theorem MQ(hm:eR mode 0 2=true)(hp:yu path)(hi:lR k s)(hk:k<20)(h:XK a=true)(hs:QR a)(h0:0<=ticks)(h1:ticks<=4)(e:eK):
  ∃ (e':eK) (x:List Int),YI (scc Yy) s.d path a ticks ⟨true,e,s.f,s.c,mode⟩=some (⟨true,e',(lD mode path ticks s a).f,(lD mode path ticks s a).c,mode⟩,(lD mode path ticks s a).d,x)/\(lD mode path ticks s a).o=s.o++[x]:=by
 unfold YI;by_cases h3:a.kind=3
 .have hn:=vN h h3;have hpl:=qQ hn;have ho:=B3 hm hp hi h h3;have ht:=wM hi.disk.tree;obtain⟨j1,_,_⟩:=vm hi.disk hm hp hi.fin hi.sto hn;have h2:=Cc hi.disk ⟨ht,hi.disk.tree⟩ hm hp 483 Yy (by decide) (fK s.f s.c) a.name _ (Cg hi.fin hi.sto) hn (by show 4*120+_<=_;omega) (by rw[Ch];decide) j1;refine⟨s.d,(kj s.d mode path s.f s.c a.name).2.2::(kj s.d mode path s.f s.c a.name).1.out,?_,by unfold lD;rw[Ke h3]⟩;rw[Kf (by rw[h3];decide)];unfold Jk;rw[Kd];refine(congrFun (bu Option.bind h2) _).trans ?_;rw[Kd];dsimp only;rw[show(fA s.d mode path (kj s.d mode path s.f s.c a.name).1 (kj s.d mode path s.f s.c a.name).2.2).out=(kj s.d mode path s.f s.c a.name).1.out from Z,yj (by simp;omega) (by simp;omega),Kd];unfold lD;rw[Ke h3];rfl
 .obtain⟨z,_,e2,e3,_⟩:=Dd (mode:=mode) (path:=path) hi hk h hs h3 h0 h1;refine⟨e,if z.2=true then[1] else[0],?_,?_⟩
  .rw[Ke (by simp[ez,h3]),e2,Kd,e3];cases z.2 <;> rfl
  .rw[e3];cases z.2 <;> rfl
theorem TV(hm:eR mode 0 2=true)(hp:yu path)(hv:∀ a∈l,XK a=true)(hs:∀ a∈l,QR a)(hl:l.length<=20)(h0:0<=ticks)(h1:ticks<=4):
  XX (scc Yy) l ticks ⟨path,⟨⟨[],0,0⟩⟩,[],mode⟩=some (⟨path,⟨(ov mode path ticks l).f⟩,(ov mode path ticks l).c,mode⟩,(ov mode path ticks l).d,(ov mode path ticks l).o):=by
 unfold XX;have key:=XC (step:=λ a8=>qy (scc Yy) l ticks a8) l (λ(s:mU) j=>((⟨path,⟨s.f⟩,s.c,mode⟩:lq),s.d,s.o,(j:Int))) (lD mode path ticks) (λ s=>((⟨path,⟨s.f⟩,s.c,mode⟩:lq),s.d,s.o)) (λ k s=>lR k s)
  (λ k s a ha hlt hi=>by
   have hva:=hv a (ae ha);have hsa:=hs a (ae ha);have hk:k<20:=by omega
   refine⟨?_,hi.next hm hp hk hva hsa h0 h1⟩;have hl2:s.o.length=k:=hi.len;have happ:∀ x:List Int,fE 24 s.o [x]=some (s.o++[x]):=λ x=>yj (by simp;omega) (by simp;omega)
   unfold qy;dsimp only;rw[zx,Ke (ab hlt),zA,ha,Kd];by_cases h3:a.kind=3
   .rw[Ke (jY h3),Sq hm hp hi hva h3,Kd,happ,Kd,Kd,fF (by omega),Kd];unfold lD;rw[Ke h3]
   .obtain⟨z,e1,_,e3,_⟩:=Dd (mode:=mode) (path:=path) hi hk hva hsa h3 h0 h1;rw[Kf (by rw[wm h3];decide),e1,Kd,e3];cases z.2 with
    | true=>rw[Ke Z,Ke Z,happ,Kd,Kd,fF (by omega),Kd]
    | false=>rw[Kf (by decide),Kf (by decide),happ,Kd,Kd,fF (by omega),Kd])
  (λ s hi=>by
   unfold qy;dsimp only;rw[zx,Kf (by simp)]) (s0:=sS) Ce (by omega)
 refine(congrFun (bu Option.bind key) _).trans ?_;rfl
def nj(l:List GAct)(path:List Int)(ticks:Int):Bool:=nM l&&xY path&&eR ticks 0 4
theorem De(h:nj l path ticks=true):((∀ a∈l,XK a=true)/\l.length<=20)/\xY path=true/\0<=ticks/\ticks<=4:=by
 unfold nj at h;simp only[ac] at h;refine⟨RA h.1.1,h.1.2,?_⟩;have:=h.2;unfold eR at this;simpa[ez] using this
theorem Df(h:xY path=true):yu path:=⟨by have:=TP h;omega,GB h⟩
end
section
variable{s:mU}
def mR(l:List GAct)(path:List Int)(ticks mode:Int):List (List Int):=if(nj l path ticks&&eR mode 0 2)=true then(ov mode path ticks l).o else[]
theorem Mz(hp:path.length<=1048576)(hlen:l.length<=1048576)(hs:∀ a∈l,QR a):Z9 (scc Yy) l path ticks mode=some (mR l path ticks mode):=by
 unfold Z9 Jw mR;rw[MD hlen hs,Kd,Zc,gd,Kd,Kd,ME hp,gd,Kd,vS,gd,Kd];cases ho:nj l path ticks&&eR mode 0 2 with
 |true=>rw[ac] at ho;obtain⟨ho,hm⟩:=ho;obtain⟨⟨hv,hl⟩,hpv,h0,h1⟩:=De ho;unfold nj at ho;simp only[ac] at ho;unfold CO;rw[TV hm (Df hpv) hv hs hl h0 h1,Kd,Kd,Ke Z];rw[ho.1.1,ho.2,ho.1.2,hm];rfl
 |false=>
  refine ek ?_ (bu some (Kf (by decide)).symm);unfold nj at ho
  revert ho
  cases nM l <;> cases xY path <;> cases eR ticks 0 4 <;> cases eR mode 0 2 <;> intro ho <;> first | rfl | cases ho
theorem SR(hm:eR mode 0 2=true)(hp:yu path)(hv:∀ a∈l,XK a=true)(hs:∀ a∈l,QR a)(hl:l.length<=20)(h0:0<=ticks)(h1:ticks<=4):
  zE (λ a8=>wK (scc Yy) l path ticks a8) ([],uI,(⟨true,xc,xb,[],mode⟩:ga),(0:Int))=some (ov mode path ticks l).o:=by
 have key:∀ (m k:Nat) (s:mU) (e:eK),k+m=l.length->lR k s->wC (λ a8=>wK (scc Yy) l path ticks a8) (m+1) (s.o,s.d,(⟨true,e,s.f,s.c,mode⟩:ga),(k:Int))=some ((l.drop k).foldl (lD mode path ticks) s).o:=by
  intro m
  induction m with
  |zero=>
   intro k s e hk hi;have:k=l.length:=by omega
   subst this;rw[bX];refine yD ?_;unfold wK;dsimp only;rw[zx,Kf (by simp)];rfl
  |succ m ih=>
   intro k s e hk hi;have hlt:k<l.length:=by omega
   have ha:l[k]?=some l[k]:=aa hlt;have hva:=hv _ (ba hlt);have hsa:=hs _ (ba hlt);have hlo:=hi.len;obtain⟨e1,x,h2,h3⟩:=MQ (mode:=mode) hm hp hi (by omega) hva hsa h0 h1 e;have h4:=ih (k+1) _ e1 (by omega) (hi.next (mode:=mode) hm hp (by omega) hva hsa h0 h1);rw[bt hlt,bP];refine(x9 ?_).trans h4;unfold wK;dsimp only;rw[zx,Ke (ab hlt),zA,ha,Kd,h2,Kd];dsimp only;rw[yj (by simp;omega) (by simp;omega),Kd,fF (by omega),Kd,h3]
 exact jN (m:=l.length+1) (key l.length 0 sS xc (by omega) Ce) (by omega)
theorem Vj(hlen:l.length<=1048576)(hs:∀ a∈l,QR a):Yg (scc Yy) l path ticks mode=some (mR l path ticks mode):=by
 unfold Yg mR;rw[TJ hlen hs,Kd,show Z5 path=some (xY path) from Ke trivial,gd,Kd,xH,gd,Kd,xH,gd,Kd];cases ho:nj l path ticks&&eR mode 0 2 with
 |true=>rw[ac] at ho;obtain⟨ho,hm⟩:=ho;obtain⟨⟨hv,hl⟩,hpv,h0,h1⟩:=De ho;unfold nj at ho;simp only[ac] at ho;have hn:WJ=some uI:=rfl;rw[hn,Kd,SR hm (Df hpv) hv hs hl h0 h1,Kd,Ke Z];rw[ho.1.1,ho.2,ho.1.2,hm];rfl
 |false=>
  refine ek ?_ (bu some (Kf (by decide)).symm);unfold nj at ho
  revert ho
  cases nM l <;> cases xY path <;> cases eR ticks 0 4 <;> cases eR mode 0 2 <;> intro ho <;> first | rfl | cases ho
theorem TX(hs:∀ a∈l,QR a):(mR l path ticks mode).length<=1048576/\∀ z∈mR l path ticks mode,z.length<=1048576:=by
 unfold mR;cases ho:nj l path ticks&&eR mode 0 2 with
 | false=>exact⟨aq _,λ z h=>by cases h⟩
 |true=>rw[ac] at ho;obtain⟨ho,hm⟩:=ho;obtain⟨⟨hv,hl⟩,hpv,h0,h1⟩:=De ho;rw[Ke Z];have hi:=SA hm (Df hpv) hv hs hl h0 h1;refine⟨by have:=hi.len;omega,λ z hz=>?_⟩;have:=hi.each z hz;omega
end
