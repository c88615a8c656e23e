import Derived.Test.YtoomehfflopakaaGreatDoorTU
namespace Go.Proofs.YtoomehfflopakaaGreatDoor
open Go.RowKit
variable{d:Disk}{f:Finder}{a:GAct}{m:GMod}{mode ticks:Int}{c:List Compiled}{l:List GAct}{path rs:List Int}{j k:Nat}{I:RImp}{st:RSt}{v:RSt×GVal×Int}{q r:RSt×Int}{R:Rec}{x:Stmt}{nm s:Str}
variable(d:Disk)(mode:Int)(path:List Int)
def rnr(st:RSt)(e:Int):Runner:=⟨d.tree,path,st.mods,st.log,st.out,e,st.left,⟨⟨true,d,st.fin,st.sto,mode⟩⟩⟩
variable{d mode path}{n:Nat}
theorem Jr(h:st.mods.length<=1048576)(e:Int)(s:Str):wz (rnr d mode path st e) s=some (rnr d mode path st e,cix st s):=by
 unfold wz;have hl:zE (λ s4=>qL (rnr d mode path st e) s s4) 0=some (match st.mods.findIdx? (hits s) with | some i=>(Sum.inr (rnr d mode path st e,(i:Int)):Unit⊕_) | none=>Sum.inl ()):=by
  refine Yn st.mods _ (λ i=>Sum.inr _) _ (λ k x hx hlt=>?_) ?_ (by omega) Z
  ·unfold qL;rw[show(rnr d mode path st e).mods=st.mods from Z,zx,Kc (ab hlt),zz,hx,Kb,zX,Kb,zG (by omega)];unfold hits;cases decide (x.name=s) with
   |true=>rw[Kc (show(true == true)=true from Z)];cases x.cached <;> rfl
   | false=>rfl
  ·unfold qL;rw[show(rnr d mode path st e).mods=st.mods from Z,zx,Kd (by simp)]
 rw[hl];unfold cix xk
 grind
theorem zd0(h:st.log.length<=1048576)(e k:Int)(s:Str):ju (rnr d mode path st e) k s=some (rnr d mode path (st.note k s) e):=by
 unfold ju;rw[show(rnr d mode path st e).log=st.log from Z,yk (by show(st.log.length+1)*24<=_;omega) (by show st.log.length+1<=_;omega),Kb];rfl
theorem zex{l:List GAttr}(h:l.length<=16777216)(s:Str):Zl l s=some (aix l s):=by
 unfold Zl;have hl:zE (λ s4=>qh l s s4) 0=some (match l.findIdx? (λ a=>decide (a.name=s)) with | some i=>(Sum.inr (i:Int):Unit⊕Int) | none=>Sum.inl ()):=by
  refine Yn l (λ a=>decide _) (λ i=>Sum.inr i) _ (λ k x hx hlt=>?_) ?_ (by omega) Z
  ·unfold qh;rw[zx,Kc (ab hlt),zz,hx,Kb,zG (by omega),Kb];cases decide (x.name=s) <;> rfl
  ·unfold qh;rw[zx,Kd (by simp)]
 rw[hl];unfold aix xk
 grind
theorem Qo(h:Inv st)(hm:st.mods[k]?=some m)(e:Int)(s:Str)(v:GVal):wA (rnr d mode path st e) (k:Int) s v=some (rnr d mode path (st.give k s v) e):=by
 have hi:=h.at_ hm;unfold wA;rw[show(rnr d mode path st e).mods=st.mods from Z,zz,hm,Kb,zex hi.2.2.1,Kb,Kb,aj];have hg:rnr d mode path (st.give k s v) e={ rnr d mode path st e with mods:=st.mods.set k { m with attrs:=Ya m.attrs s v } }:=by rw[set_give hm];rfl
 rw[hg];unfold Ya;rcases zak m.attrs s with⟨h1,_⟩ | ⟨j,a,h1,_,h3,_⟩
 ·rw[h1,geq_m1,Kd (by decide),Kd (by decide),Kb,yk (by show(m.attrs.length+1)*32<=_;omega) (by show m.attrs.length+1<=_;omega),Kb,Kb]
 ·rw[h1,Yc,Kc (show true=true from Z),Kc (show true=true from Z),zz,h3,Kb,aj,JR _ h3]
theorem spackageOf_eq(h:zm m.name=true):ZW m=some (if m.kind=1 then yb m.name else m.name):=by
 unfold ZW;by_cases hk:m.kind=1
 ·rw[Kc (by simp[cmpI,hk]),Kc hk,show xV m.name=some _ from Kc (jl h).mid];rfl
 ·rw[Kd (by simp[cmpI,hk]),Kd hk]
theorem zeN(hdk:DiskOk d)(ht:Good d.tree)(h:Inv st)(e:Int)(hr:yu rs){p:Str}(hp:zf p=true)(hs:zF s=true)(hc:zm (child p s)=true):Yl (rnr d mode path st e) rs p s=some (rnr d mode path (partR d st rs p s).1 e,(partR d st rs p s).2):=by
 unfold Yl;rw[Kd (show ¬ _=true from λ h=>by cases h),show(rnr d mode path st e).warm.x.finder=st.fin from rfl,show(rnr d mode path st e).warm.x.disk=d from rfl,seenIn_eq h.fin hdk ht.sm hr.1 hr.2 hp hs hc,Kb];rfl
theorem specIn_eq(hdk:DiskOk d)(ht:Good d.tree)(hp:yu path)(h:Inv st)(hs:Small st)(e:Int)(hv:zm s=true):Zm (rnr d mode path st e) s=some (rnr d mode path (XI d path st s).1 e,(XI d path st s).2):=by
 have hl:=yp hv;have hn:=name_of hv;unfold Zm XI;rw[show xV s=some _ from Kc (jl hv).mid,Kb];by_cases he:yb s=emptyS
 ·have hls:qn s=s:=by
   rw[he] at hn;unfold child at hn;rw[Kc Z] at hn;exact hn.symm
  rw[Kc (ab (show yb s=(⟨[]⟩:Str) from he)),Kc he,show(rnr d mode path st e).path=path from Z,zeN hdk ht h e hp (p:=(⟨[]⟩:Str)) (by rfl) (by rw[← hls];exact WW hv) (show zm (child emptyS s)=true by unfold child;rw[Kc Z];exact hv),Kb];rfl
 ·have he':¬ yb s=(⟨[]⟩:Str):=he;have hpp:=(Xk hv he).2;have hpl:=yp hpp;have hla:=part_len (WW hv);rw[Kd (by simp[he']),Kd he,Jr hs.mods,Kb];rcases Xm st _ with⟨h1,_⟩ | ⟨k,m,h1,h2,h3,_⟩
  ·rw[h1,lss_m1];rw[show((true == false):Bool)=false from Z,Zd,Kb,Kc (by simp),Kc Z];rfl
  ·rw[h1,zdX,show((false == false):Bool)=true from Z,wr,show(rnr d mode path st e).mods=st.mods from Z,zz,h2,Kb,c9,Kd (by decide:¬ (false=true)),aj,JW h2,zfW h2];by_cases hk:m.kind=1
   ·rw[Kc (by simp[cmpI,hk]),Kc hk];rfl
   ·rw[Kd (by simp[cmpI,hk]),Kd hk,Kb,show Z5 s=some _ from Kc (jl hv).mid,Kb,zeN hdk ht h e (h.at_ h2).2.2.2 (jV hpp) (WW hv) (by rw[← hn];exact hv),Kb]
def ImpEq(d:Disk)(mode:Int)(path:List Int)(n:Nat)(R:Rec)(I:RImp):Prop:=
 ∀ (st:RSt) (s:Str) (r:RSt×Int×Int),Inv st->zm s=true->4*st.left.toNat+(zB s dot).length<=n->st.size<=20000->I st s=some r->R.spec_importName (rnr d mode path st 0) s=some (rnr d mode path r.1 r.2.2,r.2.1)
def ValEq(d:Disk)(mode:Int)(path:List Int)(n:Nat)(R:Rec)(I:RImp):Prop:=
 ∀ (st:RSt) (j:Nat) (m:GMod) (s:Str) (v:RSt×GVal×Int),Inv st->st.mods[j]?=some m->zF s=true->4*st.left.toNat+3<=n->st.size<=20000->zbB d path I st j s=some v->R.spec_fromName (rnr d mode path st 0) (j:Int) s=some (rnr d mode path v.1 v.2.2,v.2.1)
theorem val_eq(hdk:DiskOk d)(ht:Good d.tree)(hp:yu path)(hL:ImpEq d mode path n R I)(hI:Y8 n I)(h:Inv st)(hn:4*st.left.toNat+3<=n)(hsz:st.size<=20000)(hj:st.mods[j]?=some m)(hnm:zF nm=true)(hv:zbB d path I st j nm=some v):
  XO R (rnr d mode path st 0) (j:Int) nm=some (rnr d mode path v.1 v.2.2,v.2.1):=by
 have hi:=h.at_ hj;have hnl:=yp hi.2.1;have hnp:=part_len hnm;have hcl:=zeq m.name nm;have sm:=RSt.small hsz;unfold zbB at hv;rw[WX hj,JW hj,zbU hj] at hv;unfold XO;rw[show(rnr d mode path st 0).mods=st.mods from Z,zz,hj,Kb,zex hi.2.2.1,Kb];rcases zak m.attrs nm with⟨h1,_⟩ | ⟨k,a,h1,_,h3,_⟩
 ·rw[h1,geq_m1,Kd (by decide)] at hv;have hvn:yw (child m.name nm)=some _:=Kc (by unfold mid;omega);rw[h1,geq_m1,Kd (by decide),Kb,show xZ m.name nm=some _ from Kc (by omega),Kb,Kb,hvn,zX,Kb];by_cases hk:m.kind=1
  ·rw[Kc (.inl hk)] at hv;cases hv;rw[jI hk,Kc (by rfl)];rfl
  ·rw[wa hk,show(false == false)=true from Z,Kc (show true=true from Z),c9];cases hc:zm _ with
   |false=>rw[Kc (.inr hc)] at hv;cases hv;rw[Kc (by rfl)];rfl
   |true=>
    have hpl:=qB hc;rw[Kd (λ e=>e.elim hk λ e=>by rw[hc] at e;cases e)] at hv;rw[Kd (by decide),Jr sm.mods,Kb];cases hl:cmpI .lss _ 0 with
    |true=>
     obtain⟨li,_,ll,lz,_,_,_⟩:=zbR hdk h hp hc;rw[Kc hl] at hv;rw[show(true == true)=true from Z,wr,specIn_eq hdk ht hp h sm 0 hc,Kb,br,Kc (show true=true from Z)];generalize XI d path st _=w at*;obtain⟨w1,w2⟩:=w;dsimp only at li ll lz hv ⊢;by_cases hz:w2.kind=0
     ·rw[Kc hz] at hv;cases hv;rw[Kc (jI hz)];rfl
     ·obtain⟨q,hq,hqp⟩:=hI w1 _ li hc (by rw[ll];omega);have hld:=hL w1 _ q li hc (by rw[ll];omega) (by omega) hq;rw[Kd hz,hq,Kb] at hv;cases hv;rw[Kd (by rw[wa hz];decide),hld,Kb]
    |false=>obtain⟨q,hq,hqp⟩:=hI st _ h hc (by omega);have hld:=hL st _ q h hc (by omega) hsz hq;rw[Kd (by rw[hl];decide),hq,Kb] at hv;cases hv;rw[show(false == true)=false from Z,Zd,Kb,cl,Kd (by decide),Kd (by decide),hld,Kb]
 ·rw[h1,Yc,Kc (show true=true from Z),aj,h3] at hv;cases hv;rw[h1,Yc,Kc (show true=true from Z),Kb,zz,h3,Kb];rfl
theorem star_loop(hk':∃ m,st.mods[k]?=some m)(l:List GAttr)(h:Inv st)(hl:∀ a∈l,zF a.name=true)(hb:l.length<=16777216):
  zE (λ a8=>wB R (k:Int) l a8) (rnr d mode path st 0,(0:Int))=some (rnr d mode path (starF k l st) 0):=by
 obtain⟨m0,hm0⟩:=hk';have key:=Xf l (λ(s:RSt) j=>_) (λ s a=>if _=true then s else s.give k a.name a.value) (λ s=>rnr d mode path s 0) (λ _ s=>Inv s/\∃ m,s.mods[k]?=some m)
  (λ j s a ha hlt ⟨hi,m1,hm1⟩=>by
   have hva:=hl a (ac ha);have hne:a.name.l[0]?=some (a.name.l.headD 0):=by
    rcases zaH hva with⟨c,e,_⟩ | ⟨c,d,e,_⟩ | ⟨c,d,e',e,_⟩ <;> rw[e] <;> rfl
   have hat:atI a.name.l (0:Int)=some _:=hne;have hgr:=Grow.give (st:=s) k a.name a.value;obtain⟨m2,hm2⟩:=hgr.at_ hm1;have hs:wB R (k:Int) l (rnr d mode path s 0,(j:Int))=some (.inl (rnr d mode path (if(a.name.l.headD 0 == 122)=true then s else s.give k a.name a.value) 0,((j+1:Nat):Int))):=by
    unfold wB;simp only;rw[zx,Kc (ab hlt),zz,ha,Kb,hat,Kb,zG (by omega)];cases hz:(a.name.l.headD 0 == 122) with
    |true=>rw[Kd (by simp[cmpB] at hz ⊢;exact hz),Kc Z];rfl
    |false=>rw[Kc (by simp[cmpB] at hz ⊢;exact hz),Kb,Kb,Qo hi hm1,Kd (by decide)];rfl
   refine⟨hs,?_⟩;split
   ·exact⟨hi,m1,hm1⟩
   ·exact⟨hi.give k _ hva,m2,hm2⟩)
  (λ s _=>by
   unfold wB;simp only;rw[zx,Kd (by simp)]) ⟨h,m0,hm0⟩ (by omega)
 exact key
variable{n:Nat}
theorem from_eq(hdk:DiskOk d)(hp:yu path)(hI:Y8 n I)(hL:ImpEq d mode path n R I)(hV:ValEq d mode path n R I)(h:Inv st)(hn:4*st.left.toNat+3<=n)(hsz:st.size<=19950)(hk:st.mods[k]?=some m)(hx:zL x=true)(hkd:x.kind=1)(hr:Y7 d path I st k x=some r):
  Wr R (rnr d mode path st 0) (k:Int) x=some (rnr d mode path r.1 r.2):=by
 have hi:=h.at_ hk;have hsx:zf x.module=true/\0<=x.level/\x.level<=3:=by
  rcases XP hx with h1 | h1 | h1
  ·exact absurd h1.1 (by omega)
  ·exact⟨h1.2.1,h1.2.2.1,h1.2.2.2⟩
  ·exact absurd hkd h1.2.1
 have hnm:=zah hx (.inl hkd);unfold Y7 at hr;have hpk:zaF st k=if m.kind=1 then yb m.name else m.name:=by unfold zaF;rw[JW hk,zbU hk]
 rw[Kd (by omega),Kc hkd,hpk] at hr;have hpv:zf (if m.kind=1 then yb m.name else m.name)=true:=by
  split
  ·exact Qk (jV hi.2.1)
  ·exact jV hi.2.1
 have hsh:sho (Y5 (if m.kind=1 then yb m.name else m.name) x.level x.module):=by
  have:=stName_sho hpv hx;unfold stName at this;rw[Kd (by simp[cmpI,hkd]),Kc (by simp[cmpI,hkd])] at this;exact this
 unfold Wr;rw[show(rnr d mode path st 0).mods=st.mods from Z,zz,hk,Kb,spackageOf_eq hi.2.1,Kb,ze1 hpv hsx.2.1 (by omega) (pkg_sho hsx.1),Kb];generalize Y5 _ x.level x.module=s1 at*;rw[show yw s1=some _ from Kc hsh.mid,Kb];cases hv:zm s1 with
 |false=>rw[Kc hv] at hr;cases hr;rw[Kc (by rfl)];rfl
 |true=>
  rw[Kd (by rw[hv];decide)] at hr;have hpl:=qB hv;obtain⟨q,hq,hqp⟩:=hI st s1 h hv (by omega);have hqs:=hqp.size;have hld:=hL st s1 q h hv (by omega) (by omega) hq;rw[hq,Kb] at hr;rw[Kd (by decide),hld,Kb];by_cases he:q.2.2=0
  ·rw[Kd (by simp[he])] at hr;obtain⟨m',hm'⟩:=hqp.grow.at_ hk;obtain⟨m2,hm2,hmn,h0⟩:=hqp.good he;have hlq:=hqp.grow.left;obtain⟨j,hj⟩:∃ j:Nat,q.2.1=j:=⟨_,(bE h0).symm⟩;rw[hj,aj] at hm2;rw[hj,aj] at hr;have hn':4*q.1.left.toNat+3<=n:=by have:=h.left;have:=hqp.inv.left;omega
   obtain⟨v,hve,hvb⟩:=value_ok hdk hp hI hqp.inv hn' j x.name hnm;have hval:=hV q.1 j m2 x.name v hqp.inv hm2 hnm hn' (by omega) hve;rw[hve,Kb] at hr;obtain⟨m3,hm3⟩:=hvb.grow.at_ hm';simp only;rw[show(rnr d mode path q.1 q.2.2).fin=q.2.2 from Z,he,Kd (by decide),hj,hval,Kb];by_cases hz:v.2.2=0
   ·rw[Kd (by simp[hz])] at hr;cases hr;simp only;rw[show(rnr d mode path v.1 v.2.2).fin=v.2.2 from Z,Kc (jI hz),Qo hvb.inv hm3,hz];rfl
   ·rw[Kc hz] at hr;cases hr;simp only;rw[show(rnr d mode path v.1 v.2.2).fin=v.2.2 from Z,Kd (by rw[wa hz];decide)]
  ·rw[Kc he] at hr;cases hr;simp only;rw[show(rnr d mode path q.1 q.2.2).fin=q.2.2 from Z,Kc (zaV he)]
theorem star_eq(hI:Y8 n I)(hL:ImpEq d mode path n R I)(h:Inv st)(hn:4*st.left.toNat+3<=n)(hsz:st.size<=19950)(hk:st.mods[k]?=some m)(hx:zL x=true)(hkd:x.kind=2)(hr:Y7 d path I st k x=some r):
  Y2 R (rnr d mode path st 0) (k:Int) x=some (rnr d mode path r.1 r.2):=by
 have hv:=X7 hx (.inr hkd);have hpl:=qB hv;obtain⟨q,hq,hp⟩:=hI st x.module h hv (by omega);have hqs:=hp.size;unfold Y7 at hr;rw[Kd (by omega),Kd (by omega),Kc hkd,hq,Kb] at hr;have hld:=hL st x.module q h hv (by omega) (by omega) hq;unfold Y2;rw[hld,Kb];by_cases he:q.2.2=0
 ·rw[Kd (by simp[he])] at hr;obtain⟨m',hm'⟩:=hp.grow.at_ hk;obtain⟨m2,hm2,_,h0⟩:=hp.good he;have hi2:=hp.inv.at_ hm2;obtain⟨j,hj⟩:∃ j:Nat,q.2.1=j:=⟨_,(bE h0).symm⟩;rw[hj,aj] at hm2;rw[hj,aj,WX hm2] at hr;cases hr;simp only;rw[show(rnr d mode path q.1 q.2.2).fin=q.2.2 from Z,he,Kd (by decide),hj,show(rnr d mode path q.1 0).mods=q.1.mods from Z,zz,hm2,Kb,
   yk (by simp;omega) (by simp;omega),Kb,bc,star_loop ⟨m',hm'⟩ m2.attrs hp.inv (hp.inv.parts m2 hi2.1) hi2.2.2.1]
 ·rw[Kc he] at hr;cases hr;simp only;rw[show(rnr d mode path q.1 q.2.2).fin=q.2.2 from Z,Kc (zaV he)]
def StEq(d:Disk)(mode:Int)(path:List Int)(n:Nat)(F:Runner->Int->Stmt->Option Runner)(I:RImp)(P:Int->Prop):Prop:=
 ∀ (st:RSt) (k:Nat) (m:GMod) (x:Stmt) (r:RSt×Int),Inv st->st.mods[k]?=some m->zL x=true->P x.kind->4*st.left.toNat+3<=n->st.size<=19950->Y7 d path I st k x=some r->F (rnr d mode path st 0) (k:Int) x=some (rnr d mode path r.1 r.2)
theorem first_get(s:Str):(zB s dot)[0]?=some (XQ s):=by
 have:=X6 s;unfold XQ;cases h:zB s dot with
 | nil=>rw[h] at this;simp at this
 | cons a l=>rfl
theorem sstmt_eq(hI:Y8 n I)(hL:ImpEq d mode path n R I)(hF:StEq d mode path n R.spec_runFrom I (·=1))(hS:StEq d mode path n R.spec_runStar I (·=2))(h:Inv st)(hn:4*st.left.toNat+3<=n)(hsz:st.size<=19950)(hk:st.mods[k]?=some m)(hx:zL x=true)(hr:Y7 d path I st k x=some r):
  Wq R (rnr d mode path st 0) (k:Int) x=some (rnr d mode path r.1 r.2):=by
 have hi:=h.at_ hk;unfold Wq;by_cases h0:x.kind=0
 ·have hv:=X7 hx (.inl h0);have hpl:=qB hv;obtain⟨q,hq,hp⟩:=hI st x.module h hv (by omega);have hqs:=hp.size;unfold Y7 at hr;rw[Kc h0,hq,Kb] at hr;have hld:=hL st x.module q h hv (by omega) (by omega) hq;have smq:=RSt.small (st:=q.1) (n:=20000) (by omega);rw[Kc (jI h0),hld,Kb,show qt x.module (UInt8.ofNat 46)=some (zB x.module dot) from Kc (jl hv).mid,Kb,show atI _ (0:Int)=_[0]? from Z,first_get,Kb];simp only;rw[show(rnr d mode path q.1 q.2.2).fin=q.2.2 from Z];by_cases he:q.2.2=0
  ·rw[Kd (by simp[he])] at hr;obtain⟨m',hm'⟩:=hp.grow.at_ hk;rw[he,Kd (by decide),Jr smq.mods,Kb];cases hc:cmpI .lss _ 0 with
   |true=>rw[Kc hc] at hr;cases hr;rw[Kc (show true=true from Z)];rfl
   |false=>rw[Kd (by simp[hc])] at hr;cases hr;rw[Kd (by decide),Jr smq.mods,Kb,Qo hp.inv hm'];rfl
  ·rw[Kc he] at hr;cases hr;rw[Kc (zaV he)]
 ·rw[Kd (by rw[wa h0];decide)];by_cases h1:x.kind=1
  ·rw[Kc (jI h1),hF st k m x r h hk hx h1 hn hsz hr];rfl
  ·rw[Kd (by rw[wa h1];decide)];by_cases h2:x.kind=2
   ·rw[Kc (jI h2),hS st k m x r h hk hx h2 hn hsz hr];rfl
   ·unfold Y7 at hr;rw[Kd h0,Kd h1,Kd h2] at hr;rw[Kd (by rw[wa h2];decide)];by_cases h3:x.kind=3
    ·rw[Kc h3] at hr;cases hr;rw[Kc (jI h3),Qo h hk];rfl
    ·rw[Kd h3] at hr;rw[Kd (by rw[wa h3];decide)];by_cases h4:x.kind=4
     ·rw[Kc h4,WX hk] at hr;rw[Kc (jI h4),show(rnr d mode path st 0).mods=st.mods from Z,zz,hk,Kb,zex hi.2.2.1,Kb];rcases zak m.attrs x.name with⟨k1,_⟩ | ⟨j,a,k1,_,k3,_⟩
      ·rw[k1,lss_m1,Kc (show true=true from Z)] at hr;cases hr;rw[k1,lss_m1,Kc (show true=true from Z)];rfl
      ·rw[k1,zdX,Kd (by decide),aj,k3] at hr;cases hr;have ho:st.out.length<=19950:=by unfold RSt.size at hsz;omega
       rw[k1,zdX,Kd (by decide),Kb,zz,k3,Kb];have hsh:Wp a.value=some (if a.value.kind=1 then -1 else a.value.num):=by
        unfold Wp;by_cases hz:a.value.kind=1
        ·rw[Kc (jI hz),Kc hz]
        ·rw[Kd (by rw[wa hz];decide),Kd hz]
       rw[hsh,Kb,show(rnr d mode path st 0).out=st.out from Z,yk (by show(st.out.length+1)*8<=_;omega) (by show st.out.length+1<=_;omega),Kb];rfl
     ·rw[Kd h4] at hr;rw[Kd (by rw[wa h4];decide)];by_cases h5:x.kind=5
      ·rw[Kc h5] at hr;cases hr;rw[Kc (jI h5)];rfl
      ·rw[Kd h5] at hr;cases hr;rw[Kd (by rw[wa h5];decide)]
theorem zfX(hdk:DiskOk d)(hp:yu path)(hI:Y8 n I)(hD:StEq d mode path n R.spec_runStmt I (λ _=>True))(k:Nat)(l:List Stmt)(hl:∀ x∈l,zL x=true)(hlen:l.length<1000000000):∀ (m i:Nat) (st:RSt) (r:RSt×Int),i+m=l.length->Inv st->(∃ mm,st.mods[k]?=some mm)->4*st.left.toNat<=n+1->st.left<=1000000->st.size<=20050->zaU d path I k (l.drop i) st=some r->
  jr (λ s2=>xQ R (k:Int) l s2) (m+1) (rnr d mode path st 0,(i:Int))=some (rnr d mode path r.1 r.2)
 |0,i,st,r,hi,_,_,_,_,_,hr=>by
  have:i=l.length:=by omega
  subst this;rw[bR] at hr;unfold zaU at hr;cases hr;refine yY ?_;unfold xQ;simp only;rw[zx,Kd (by simp)]
 |m+1,i,st,r,hi,h,⟨mm,hmm⟩,hn,hle,hsz,hr=>by
  have hlt:i<l.length:=by omega
  have hx:l[i]?=some l[i]:=aa hlt;have hv:=hl l[i] (bi hlt);rw[bh hlt] at hr;unfold zaU at hr;have hl0:=h.left;by_cases hz:st.left=0
  ·rw[Kc hz] at hr;cases hr;refine yY ?_;unfold xQ;simp only;rw[zx,Kc (ab hlt),show(rnr d mode path st 0).left=st.left from Z,Kc (jI hz)];rfl
  ·rw[Kd hz] at hr;have ht:=h.tick hz;have hts:=size_tick h hz;have htl:st.tick.left=st.left - 1:=rfl;obtain⟨q,hq,hb⟩:=stmt_ok hdk hp hI ht (by rw[htl];omega) k hv;have hbs:=hb.size;have hbl:=hb.grow.left;have hbi:=hb.inv.left;obtain⟨m2,hm2⟩:=hb.grow.at_ (show st.tick.mods[k]?=some mm from hmm);have hd:=hD st.tick k mm l[i] q ht hmm hv trivial (by rw[htl];omega) (by omega) hq;rw[show Y7 d path I { st with left:=st.left - 1 } k l[i]=some q from hq,Kb] at hr;have hs:xQ R (k:Int) l (rnr d mode path st 0,(i:Int))=some (if q.2≠0 then .inr (rnr d mode path q.1 q.2) else .inl (rnr d mode path q.1 q.2,((i+1:Nat):Int))):=by
    unfold xQ;simp only;rw[zx,Kc (ab hlt),show(rnr d mode path st 0).left=st.left from Z,Kd (by rw[wa hz];decide),xb (by omega) (by omega),Kb,zz,hx,Kb,
     show({ rnr d mode path st 0 with left:=st.left - 1 }:Runner)=rnr d mode path st.tick 0 from Z,hd,Kb,zG (by omega),Kb,show(rnr d mode path q.1 q.2).fin=q.2 from Z]
    by_cases he:q.2=0
    ·rw[he,Kd (by decide),Kd (by simp)]
    ·rw[Kc (zaV he),Kc he]
   by_cases he:q.2=0
   ·rw[Kd (by simp[he])] at hr;rw[Kd (by simp[he]),he] at hs;rw[jD hs];exact zfX hdk hp hI hD k l hl hlen m (i+1) q.1 r (by omega) hb.inv ⟨m2,hm2⟩ (by rw[htl] at hbl;omega) (by rw[htl] at hbl;omega) (by omega) hr
   ·rw[Kc he] at hr;cases hr;rw[Kc he] at hs;exact yY hs
def SBodyEq(d:Disk)(mode:Int)(path:List Int)(n:Nat)(R:Rec)(I:RImp):Prop:=
 ∀ (st:RSt) (k:Nat) (m:GMod) (l:List Stmt) (r:RSt×Int),Inv st->st.mods[k]?=some m->(∀ x∈l,zL x=true)->l.length<1000000000->4*st.left.toNat<=n+1->st.left<=1000000->st.size<=20050->zaU d path I k l st=some r->R.spec_runBody (rnr d mode path st 0) (k:Int) l=some (rnr d mode path r.1 r.2)
theorem sbody_eq(hdk:DiskOk d)(hp:yu path)(hI:Y8 n I)(hD:StEq d mode path n R.spec_runStmt I (λ _=>True))(h:Inv st)(hk:st.mods[k]?=some m){l:List Stmt}(hl:∀ x∈l,zL x=true)(hlen:l.length<1000000000)(hn:4*st.left.toNat<=n+1)(hle:st.left<=1000000)(hsz:st.size<=20050)(hr:zaU d path I k l st=some r):Qi R (rnr d mode path st 0) (k:Int) l=some (rnr d mode path r.1 r.2):=
 Z1 (zfX hdk hp hI hD k l hl hlen l.length 0 st r (by omega) h ⟨m,hk⟩ hn hle hsz (by rw[bN];exact hr)) (by omega)
variable{n:Nat}
theorem srun_eq(_hdk:DiskOk d)(ht:Good d.tree)(hm2:inR mode 0 2=true)(hB:SBodyEq d mode path n R I)(h:Inv st)(hm:st.mods[k]?=some m)(hn:4*st.left.toNat<=n+1)(hle:st.left<=1000000)(hsz:st.size<=20050){sp:Spec}(hf:sp.file<0\/∃ f,d.tree.files[sp.file.toNat]?=some f)(hq:runF d mode path I st k sp=some q):
  (if(cmpI .geq sp.file (0:Int))=true then((Yw (rnr d mode path st 0) sp.file).bind λ a8=>
(R.spec_runBody a8.1 (k:Int) a8.2).bind λ a9=>
some a9)
else(some (rnr d mode path st 0)))=some (rnr d mode path q.1 q.2):=by
 unfold runF at hq;cases hg:cmpI .geq sp.file 0 with
 |false=>rw[hg,Kd (by decide)] at hq;cases hq;rw[Kd (by decide)]
 |true=>
  have h0:=oD hg;rw[hg,Kc (show true=true from Z)] at hq;obtain⟨f,hf⟩:=hf.resolve_left (by omega);have hfm:=ac hf;have hfv:=jw ht.ok hfm;have hfs:=ht.sm.2 f hfm;rw[show zbu d.tree.files sp.file=f by unfold zbu;rw[hf];rfl] at hq;obtain⟨l1,l2⟩:=load_ok h.sto hfv hm2;have hbv:=zcU l2;have hbl:(Qm st.sto f mode).1.length<=8:=by
   unfold zO at l2;simp[cmpI] at l2;omega
  have hi3:Inv (loadR mode st f).1:=⟨h.names,h.roots,h.parts,h.apart,h.left,h.fin,l1⟩;have hbo:Yw (rnr d mode path st 0) sp.file=some (rnr d mode path (loadR mode st f).1 0,(Qm st.sto f mode).1):=by
   unfold Yw;rw[Kd (show ¬ _=true from λ h=>by cases h),show(rnr d mode path st 0).t=d.tree from rfl,show atI d.tree.files sp.file=some f by rw[← bE h0,zz,hf],Kb,show(rnr d mode path st 0).warm.x.store=st.sto from rfl,show(rnr d mode path st 0).warm.x.mode=mode from rfl,zew h.sto hfv hfs,Kb,yk (by simp;omega) (by simp;omega),Kb,bc];rfl
  rw[Kc (show true=true from Z),hbo,Kb,hB (loadR mode st f).1 k m _ q hi3 hm hbv (by omega) hn hle (by exact hsz) hq,Kb]
theorem imp_new(hdk:DiskOk d)(ht:Good d.tree)(hm2:inR mode 0 2=true)(hp:yu path)(hI:Y8 n I)(hB:SBodyEq d mode path n R I)(h:Inv st)(hn:4*st.left.toNat<=n+1)(hle:st.left<=1000000)(hsz:st.size<=20020)(hs:zm s=true){r:RSt×Int×Int}(hr:newF d mode path I (XI d path st s).1 s (XI d path st s).2=some r):
  ((Zm (rnr d mode path st 0) s).bind λ a8=>
if(cmpI .eql a8.2.kind (0:Int))=true then(some ({ a8.1 with fin:=(1:Int) },(-1:Int)))
else(Option.bind (α:=Runner) ((appO 80 a8.1.mods [(⟨s,a8.2.kind,a8.2.roots,true,false,[]⟩:GMod)]).bind λ d5=>
some ({ a8.1 with mods:=d5 })) λ d6=>
(ju d6 (0:Int) s).bind λ b5=>
Option.bind (α:=Runner) (if(cmpI .geq a8.2.file (0:Int))=true then((Yw b5 a8.2.file).bind λ b6=>
(R.spec_runBody b6.1 (a8.1.mods.length:Int) b6.2).bind λ b7=>
some b7)
else(some b5)) λ a9=>
if(cmpI .neq a9.fin (0:Int))=true then((atI a9.mods (a8.1.mods.length:Int)).bind λ b8=>
(ju ({ a9 with mods:=(a9.mods.set (a8.1.mods.length:Int).toNat ({ b8 with cached:=false })) }) (2:Int) s).bind λ b9=>
some (b9,(-1:Int)))
else((atI a9.mods (a8.1.mods.length:Int)).bind λ c8=>
(ju ({ a9 with mods:=(a9.mods.set (a8.1.mods.length:Int).toNat ({ c8 with done:=true })) }) (1:Int) s).bind λ d1=>
Option.bind (α:=Runner) ((wz d1 (yb s)).bind λ b3=>
if(cmpI .geq b3.2 (0:Int))=true then((Z5 s).bind λ d2=>
(wA b3.1 b3.2 d2 (⟨(1:Int),(a8.1.mods.length:Int)⟩:GVal)).bind λ d3=>
some d3)
else(some b3.1)) λ d4=>
some (d4,(a8.1.mods.length:Int)))))=some (rnr d mode path r.1 r.2.2,r.2.1):=by
 have sm:=RSt.small hsz;obtain⟨li,lm,ll,lz,_,hlr,hlf⟩:=zbR hdk h hp hs;rw[specIn_eq hdk ht hp h sm 0 hs,Kb];unfold newF at hr;generalize XI d path st s=w at*;obtain⟨st,sp⟩:=w;dsimp only at li lm ll lz hlr hlf hr ⊢;rw[← ll] at hn hle;rw[← lz] at hsz
 clear h sm lm ll lz
 have h:=li;have sm:=RSt.small hsz;by_cases hk:sp.kind=0
 ·rw[Kc hk] at hr;cases hr;rw[Kc (jI hk)];rfl
 ·rw[Kd hk] at hr;have hbi:=h.begin hs hlr;have hbz:(st.begin s sp).size=st.size+2:=by unfold RSt.size RSt.begin;simp;omega
  have hbm:(st.begin s sp).mods[st.mods.length]?=some ⟨s,sp.kind,sp.roots,true,false,[]⟩:=by unfold RSt.begin;simp
  obtain⟨q,hq,hb⟩:=run_ok hdk hm2 hp hI hbi (by exact hn) st.mods.length sp hlf;have hqs:=hb.size;rw[hq,Kb] at hr;obtain⟨m,hm⟩:=hb.grow.at_ hbm;have hrun:=srun_eq hdk ht hm2 hB hbi hbm (by exact hn) hle (by omega) hlf hq;rw[Kd (by rw[wa hk];decide),show(rnr d mode path st 0).mods=st.mods from Z,yk (by have:=sm.mods;show(st.mods.length+1)*80<=_;omega) (by have:=sm.mods;show st.mods.length+1<=_;omega),Kb,Kb,
   show({ rnr d mode path st 0 with mods:=st.mods++[⟨s,sp.kind,sp.roots,true,false,[]⟩] }:Runner)=rnr d mode path (st.grown s sp) 0 from Z,zd0 (st:=st.grown s sp) sm.log,Kb,show(st.grown s sp).note 0 s=st.begin s sp from Z]
  rw[hrun,Kb,aj,show(rnr d mode path q.1 q.2).fin=q.2 from Z,show(rnr d mode path q.1 q.2).mods=q.1.mods from Z,zz,hm,Kb];have smq:=RSt.small (st:=q.1) (n:=20100) (by omega);by_cases he:q.2=0
  ·rw[Kd (by simp[he])] at hr;cases hr;rw[he,Kd (by decide),Kb];have hid:=hb.inv.done st.mods.length s;have hdz:(q.1.done st.mods.length s).size=q.1.size+1:=by unfold RSt.size RSt.done;simp[zbA];omega
   have hdn:RSt.note { q.1 with mods:=q.1.mods.set st.mods.length { m with done:=true } } 1 s=q.1.done st.mods.length s:=by unfold RSt.done;rw[JR _ hm];rfl
   have hn2:=zd0 (d:=d) (mode:=mode) (path:=path) (st:={ q.1 with mods:=q.1.mods.set st.mods.length { m with done:=true } }) smq.log 0 1 s;rw[hdn] at hn2;refine(congrFun (bz Option.bind hn2) _).trans ?_;rw[Kb,Jr (RSt.small (n:=20100) (by omega)).mods,Kb];unfold RSt.tell;rcases Xm _ _ with⟨h1,_⟩ | ⟨k,m2,h1,h2,h3,_⟩
   ·simp only;rw[h1,geq_m1,Kd (by decide),Kd (by decide),Kb]
   ·simp only;rw[h1,Yc,Kc (show true=true from Z),Kc (show true=true from Z),show Z5 s=some _ from Kc (jl hs).mid,Kb,Qo hid h2,Kb,Kb,aj]
  ·rw[Kc he] at hr;cases hr;have hdn:RSt.note { q.1 with mods:=q.1.mods.set st.mods.length { m with cached:=false } } 2 s=q.1.fail st.mods.length s:=by unfold RSt.fail;rw[JR _ hm];rfl
   have hn2:=zd0 (d:=d) (mode:=mode) (path:=path) (st:={ q.1 with mods:=q.1.mods.set st.mods.length { m with cached:=false } }) smq.log q.2 2 s;rw[hdn] at hn2;rw[Kc (zaV he)];refine(congrFun (bz Option.bind hn2) _).trans ?_;rfl
theorem simp_eq(hdk:DiskOk d)(ht:Good d.tree)(hm2:inR mode 0 2=true)(hp:yu path)(hI:Y8 n I)(hL:ImpEq d mode path n R I)(hB:SBodyEq d mode path n R I)(h:Inv st)(hs:zm s=true)(hn:4*st.left.toNat+(zB s dot).length<=n+1)(hle:st.left<=1000000)(hsz:st.size<=20000){r:RSt×Int×Int}(hr:impF d mode path I st s=some r):
  YK R (rnr d mode path st 0) s=some (rnr d mode path r.1 r.2.2,r.2.1):=by
 have sm:=RSt.small hsz;have hpp:=X6 s;have hpl:=qB hs;unfold impF at hr;unfold YK;rw[Jr sm.mods,Kb];simp only;rcases Xm st s with⟨h1,_⟩ | ⟨k,m,h1,h2,h3,_⟩
 ·rw[h1,Kd (by decide)] at hr;rw[h1,Kd (by decide),show xV s=some _ from Kc (jl hs).mid,Kb];by_cases he:yb s=emptyS
  ·rw[Kc he,Kb,Kd (by simp)] at hr;simp only at hr;rw[h1,Kd (by decide)] at hr;have hd:decide (yb s≠(⟨[]⟩:Str))=false:=by rw[show yb s=_ from he];rfl
   rw[hd,show(false == true)=false from Z,Zd,Kb,cl,Kd (by decide),Kd (by decide),Jr sm.mods,Kb];simp only;rw[h1,Kd (by decide)];exact imp_new hdk ht hm2 hp hI hB h (by omega) hle (by omega) hs hr
  ·have he':¬ yb s=(⟨[]⟩:Str):=he;obtain⟨e1,e2⟩:=Xk hs he;obtain⟨q,hq,hqp⟩:=hI st _ h e2 (by omega);have hqs:=hqp.size;have hql:=hqp.grow.left;have hqi:=hqp.inv.left;have hl0:=h.left;have hld:=hL st _ q h e2 (by omega) hsz hq;rw[Kd he,hq,Kb] at hr;have hd:=ab he';rw[hd,show(true == true)=true from Z,wr,hld,Kb,br,Kc (show true=true from Z)];simp only;by_cases hz:q.2.2=0
   ·rw[Kd (by simp[hz])] at hr;obtain⟨_,_,_,h0⟩:=hqp.good hz;rw[Kd (by simp[cmpI];omega),hz,Jr (RSt.small (n:=20100) (by omega)).mods,Kb];simp only;rcases Xm q.1 s with⟨k1,_⟩ | ⟨k,m,k1,k2,k3,_⟩
    ·rw[k1,Kd (by decide)] at hr;rw[k1,Kd (by decide)];exact imp_new hdk ht hm2 hp hI hB hqp.inv (by omega) (by omega) (by omega) hs hr
    ·have smq:=RSt.small (st:=q.1) (n:=20100) (by omega);rw[k1,Kc (Yc k),aj] at hr;cases hr;rw[k1,Kc (Yc k),zd0 smq.log,Kb];rfl
   ·have hb:=hqp.bad hz;rw[Kc hz] at hr;cases hr;rw[Kc (by rw[hb];decide)]
 ·rw[h1,Kc (Yc k),aj] at hr;cases hr;rw[h1,Kc (Yc k),zd0 sm.log,Kb];rfl
theorem sbody_of(hdk:DiskOk d)(ht:Good d.tree)(hm2:inR mode 0 2=true)(hp:yu path){M:Nat}(hL:∀ j,ImpEq d mode path k (scc (M+j)) (imp d mode path k)):SBodyEq d mode path k (scc (M+4)) (imp d mode path k):=
 have hI:=zcV hdk hm2 hp k;have hV:=λ _ _ _ _ _ h hm hs hn hsz hv=>val_eq hdk ht hp (hL 0) hI h hn hsz hm hs hv
 have hF:=λ _ _ _ _ _ h hm hx hk hn hsz hr=>from_eq hdk hp hI (hL 1) hV h hn hsz hm hx hk hr
 have hS:=λ _ _ _ _ _ h hm hx hk hn hsz hr=>star_eq hI (hL 1) h hn hsz hm hx hk hr
 have hD:StEq d mode path k (scc (M+3)).spec_runStmt _ (λ _=>True):=λ _ _ _ _ _ h hm hx _ hn hsz hr=>sstmt_eq hI (hL 2) hF hS h hn hsz hm hx hr
 λ _ _ _ _ _ h hm hl hlen hn hle hsz hr=>sbody_eq hdk hp hI hD h hm hl hlen hn hle hsz hr
theorem scc_imp(hdk:DiskOk d)(ht:Good d.tree)(hm2:inR mode 0 2=true)(hp:yu path):∀ (k N:Nat),5*k<=N->ImpEq d mode path k (scc N) (imp d mode path k)
 | 0,_,_=>λ _ _ _ _ _ _ _ hr=>by cases hr
 |k+1,N,hN=>λ st s r h hs hn hsz hr=>by
  obtain⟨M,rfl⟩:∃ M,N=M+5:=⟨N - 5,by omega⟩;exact simp_eq hdk ht hm2 hp (zcV hdk hm2 hp k) (scc_imp hdk ht hm2 hp k (M+4) (by omega)) (sbody_of hdk ht hm2 hp λ j=>scc_imp hdk ht hm2 hp k (M+j) (by omega)) h hs hn (left_of h hsz) hsz hr
def st0(f:Finder)(c:List Compiled):RSt:=⟨[],[],[],120,[],f,c⟩
def YL:Nat:=2420
section
theorem st0_inv(hf:FindOk f)(hc:StoreOk c):Inv (st0 f c):=⟨(λ _ h=>by cases h),(λ _ h=>by cases h),(λ _ h=>by cases h),(λ _ h=>by cases h),by show(0:Int)<=120;decide,hf,hc⟩
theorem st0_size:(st0 f c).size=12000:=by unfold RSt.size st0;simp
def ranR(d:Disk)(mode:Int)(path:List Int)(f:Finder)(c:List Compiled)(s:Str):RSt×Int×Int:=(imp d mode path 483 (st0 f c) s).getD (st0 f c,0,0)
theorem ran_ok(hdk:DiskOk d)(hm:inR mode 0 2=true)(hp:yu path)(hf:FindOk f)(hc:StoreOk c)(hs:zm s=true):imp d mode path 483 (st0 f c) s=some (ranR d mode path f c s)/\ImpPost (st0 f c) s (ranR d mode path f c s)/\(ranR d mode path f c s).1.size<=12012:=by
 have hpl:=qB hs;obtain⟨r,hr,hk⟩:=zcV hdk hm hp 483 _ s (st0_inv hf hc) hs (by show 4*120+_<=_;omega);have:ranR d mode path f c s=r:=by unfold ranR;rw[hr];rfl
 rw[this];have h1:=hk.size;rw[st0_size] at h1;exact⟨hr,hk,by omega⟩
theorem okAct_hf(h:X5 a=true):a.kind=0->smFile a.file/\zf a.file.pkg=true:=λ e=>by
 unfold X5 at h;rw[e,Kc (by rfl)] at h;exact⟨zdR h,jU h⟩
theorem okAct_hb(h:X5 a=true)(hs:zaT a)(h3:a.kind≠3):a.kind≠0->a.kind≠1->zO a.file.body=true/\yX a.file.body=some (zO a.file.body):=λ h0 h1=>by
 unfold X5 at h;rw[Kd (by rw[wa h0];decide),Kd (by rw[wa h1];decide)] at h;split at h
 ·exact⟨h,QX hs.1.2.2.1 hs.1.2.2.2⟩
 ·rw[Kd (by rw[wa h3];decide)] at h;cases h
theorem zaI(h:X5 a=true)(h3:a.kind=3):zm a.name=true:=by
 unfold X5 at h;rw[h3,Kd (by decide),Kd (by decide),Kd (by decide),Kc (by rfl)] at h;exact h
theorem okActs_spec(h:zaD l=true):(∀ a∈l,X5 a=true)/\l.length<=20:=by
 unfold zaD at h;rw[af] at h;exact⟨al.1 h.1,by have:=h.2;simp[cmpI] at this;omega⟩
end
structure Ses where
 d:Disk
 f:Finder
 c:List Compiled
 o:List (List Int)
def actP(mode:Int)(path:List Int)(ticks:Int)(s:Ses)(a:GAct):Ses:=
 if a.kind=3 then⟨s.d,(ranR s.d mode path s.f s.c a.name).1.fin,(ranR s.d mode path s.f s.c a.name).1.sto,s.o++[(ranR s.d mode path s.f s.c a.name).2.2::(ranR s.d mode path s.f s.c a.name).1.out]⟩
 else match ji s.d a ticks with
  | some (d',true)=>⟨d',s.f,s.c,s.o++[[1]]⟩
  | _=>⟨s.d,s.f,s.c,s.o++[[0]]⟩
def ses0:Ses:=⟨emptyD,⟨[],0,0⟩,[],[]⟩
def sesR(mode:Int)(path:List Int)(ticks:Int)(l:List GAct):Ses:=l.foldl (actP mode path ticks) ses0
structure SesI(k:Nat)(s:Ses):Prop where
 disk:DiskOk s.d
 clock:s.d.clock<=4*(k:Int)
 fin:FindOk s.f
 sto:StoreOk s.c
 len:s.o.length=k
 each:∀ z∈s.o,z.length<=20000
theorem ses0_ok:SesI 0 ses0:=⟨emptyD_ok,by decide,emptyF_ok,StoreOk.nil,Z,λ _ h=>by cases h⟩
section
variable{s:Ses}
theorem zcX(hi:SesI k s)(hk:k<20)(h:X5 a=true)(hs:zaT a)(h3:a.kind≠3)(h0:0<=ticks)(h1:ticks<=4):
  ∃ z,Yt s.d a ticks=some z/\ji s.d a ticks=some z/\actP mode path ticks s a=(if z.2=true then⟨z.1,s.f,s.c,s.o++[[1]]⟩ else⟨s.d,s.f,s.c,s.o++[[0]]⟩)/\(z.2=true->DiskOk z.1/\z.1.clock=s.d.clock+ticks):=by
 have hc:=hi.clock;obtain⟨z,e1,e2⟩:=change_after hi.disk (by omega) h0 h1 (okAct_hf h) (okAct_hb h hs h3);have e3:=change_same hi.disk (by omega) h0 h1 (okAct_hf h) (okAct_hb h hs h3);refine⟨z,e3.trans e1,e1,?_,e2⟩;unfold actP
 grind
theorem out_len(hm:inR mode 0 2=true)(hp:yu path)(hi:SesI k s)(h:X5 a=true)(h3:a.kind=3):(ranR s.d mode path s.f s.c a.name).1.out.length<=12012:=by
 obtain⟨_,_,hz⟩:=ran_ok hi.disk hm hp hi.fin hi.sto (zaI h h3);unfold RSt.size at hz;omega
theorem SesI.next(hm:inR mode 0 2=true)(hp:yu path)(hi:SesI k s)(hk:k<20)(h:X5 a=true)(hs:zaT a)(h0:0<=ticks)(h1:ticks<=4):SesI (k+1) (actP mode path ticks s a):=by
 have hc:=hi.clock;have hl:=hi.len;have he:∀ (x:List Int),x.length<=20000->∀ z∈s.o++[x],z.length<=20000:=λ x hx z hz=>(bb.1 hz).elim (hi.each z) λ e=>by rw[aF.1 e];exact hx
 by_cases h3:a.kind=3
 ·have ho:=out_len hm hp hi h h3;obtain⟨_,hr,_⟩:=ran_ok hi.disk hm hp hi.fin hi.sto (zaI h h3);unfold actP;rw[Kc h3];exact⟨hi.disk,by show s.d.clock<=_;omega,hr.inv.fin,hr.inv.sto,by show(s.o++_).length=_;simp[hl],he _ (by rw[bj];omega)⟩
 ·obtain⟨z,_,_,e,e2⟩:=zcX hi hk h hs h3 h0 h1;rw[e];split
  ·rename_i hz;exact⟨(e2 hz).1,by show z.1.clock<=_;rw[(e2 hz).2];omega,hi.fin,hi.sto,by show(s.o++_).length=_;simp[hl],he _ (by decide)⟩
  ·exact⟨hi.disk,by show s.d.clock<=_;omega,hi.fin,hi.sto,by show(s.o++_).length=_;simp[hl],he _ (by decide)⟩
theorem run_w_eq(hm:inR mode 0 2=true)(hp:yu path)(hi:SesI k s)(h:X5 a=true)(h3:a.kind=3):
  c_run (scc YL) ⟨path,⟨s.f⟩,s.c,mode⟩ s.d a.name=some (⟨path,⟨(ranR s.d mode path s.f s.c a.name).1.fin⟩,(ranR s.d mode path s.f s.c a.name).1.sto,mode⟩,(ranR s.d mode path s.f s.c a.name).2.2::(ranR s.d mode path s.f s.c a.name).1.out):=by
 have hn:=zaI h h3;have hpl:=qB hn;have ho:=out_len hm hp hi h h3;have ht:=wD hi.disk.tree;obtain⟨j1,_,_⟩:=ran_ok hi.disk hm hp hi.fin hi.sto hn;have h2:=scc_load hi.disk ⟨ht,hi.disk.tree⟩ hm hp 483 YL (by decide) _ a.name _ (st0_inv hi.fin hi.sto) hn (by show 4*120+_<=_;omega) (by rw[st0_size];decide) j1;unfold c_run W5;have hnew:(YJ s.d.tree path 120).bind (λ v4=>(scc YL).impl_machine_load1 ({ v4 with known:=(⟨some (_,⟨s.f⟩)⟩:Fw _ _),load:=(⟨some (_,s.c)⟩:Fw _ _) }) a.name)=some _:=h2;unfold YJ at hnew ⊢;rw[Kb] at hnew ⊢;dsimp only at hnew ⊢;rw[hnew,Kb];dsimp only;rw[show(mach s.d mode path (ranR s.d mode path s.f s.c a.name).1).out=(ranR s.d mode path s.f s.c a.name).1.out from Z,yk (by simp;omega) (by simp;omega),Kb];rfl
theorem answer_eq(hp:yu path)(hi:SesI k s)(hk:k<20)(h:X5 a=true)(hs:zaT a)(h0:0<=ticks)(h1:ticks<=4)(e:Disk)(hm:inR mode 0 2=true:=by decide):
  ∃ (e':Disk) (x:List Int),Ym (scc YL) s.d path a ticks ⟨true,e,s.f,s.c,mode⟩=some (⟨true,e',(actP mode path ticks s a).f,(actP mode path ticks s a).c,mode⟩,(actP mode path ticks s a).d,x)/\(actP mode path ticks s a).o=s.o++[x]:=by
 unfold Ym;by_cases h3:a.kind=3
 ·have hn:=zaI h h3;have hpl:=qB hn;have ho:=out_len hm hp hi h h3;have ht:=wD hi.disk.tree;obtain⟨j1,_,_⟩:=ran_ok hi.disk hm hp hi.fin hi.sto hn;have h2:=scc_imp hi.disk ⟨ht,hi.disk.tree⟩ hm hp 483 YL (by decide) _ a.name _ (st0_inv hi.fin hi.sto) hn (by show 4*120+_<=_;omega) (by rw[st0_size];decide) j1;refine⟨s.d,(ranR s.d mode path s.f s.c a.name).2.2::(ranR s.d mode path s.f s.c a.name).1.out,?_,by unfold actP;rw[Kc h3]⟩;rw[Kd (by rw[h3];decide)];unfold WT;rw[Kb];refine(congrFun (bz Option.bind h2) _).trans ?_;rw[Kb];dsimp only;rw[show(rnr s.d mode path (ranR s.d mode path s.f s.c a.name).1 (ranR s.d mode path s.f s.c a.name).2.2).out=(ranR s.d mode path s.f s.c a.name).1.out from Z,yk (by simp;omega) (by simp;omega),Kb];unfold actP;rw[Kc h3];rfl
 ·obtain⟨z,_,e2,e3,_⟩:=zcX hi hk h hs h3 h0 h1;refine⟨e,if z.2=true then[1] else[0],?_,?_⟩
  ·rw[Kc (by simp[cmpI,h3]),e2,Kb,e3];cases z.2 <;> rfl
  ·rw[e3];cases z.2 <;> rfl
theorem walk_w_eq(hp:yu path)(hv:∀ a∈l,X5 a=true)(hs:∀ a∈l,zaT a)(hl:l.length<=20)(h0:0<=ticks)(h1:ticks<=4)(hm:inR mode 0 2=true:=by decide):
  W6 (scc YL) l ticks ⟨path,⟨⟨[],0,0⟩⟩,[],mode⟩=some (⟨path,⟨(sesR mode path ticks l).f⟩,(sesR mode path ticks l).c,mode⟩,(sesR mode path ticks l).d,(sesR mode path ticks l).o):=by
 unfold W6;have key:=Xf (step:=λ a8=>qb _ l ticks a8) l (λ(s:Ses) j=>(_,s.d,s.o,(j:Int))) _ (λ s=>_) (λ k s=>SesI k s)
  (λ k s a ha hlt hi=>by
   have hva:=hv a (ac ha);have hsa:=hs a (ac ha);have hk:k<20:=by omega
   refine⟨?_,hi.next hm hp hk hva hsa h0 h1⟩;have hl2:=hi.len;have happ:∀ x:List Int,appO 24 s.o [x]=some _:=λ x=>yk (by simp;omega) (by simp;omega)
   unfold qb;dsimp only;rw[zx,Kc (ab hlt),zz,ha,Kb];by_cases h3:a.kind=3
   ·rw[Kc (jI h3),run_w_eq hm hp hi hva h3,Kb,happ,Kb,Kb,zG (by omega),Kb];unfold actP;rw[Kc h3]
   ·obtain⟨z,e1,_,e3,_⟩:=zcX hi hk hva hsa h3 h0 h1;rw[Kd (by rw[wa h3];decide),e1,Kb,e3];cases z.2 with
    | true=>rw[Kc Z,Kc Z,happ,Kb,Kb,zG (by omega),Kb]
    | false=>rw[Kd (by decide),Kd (by decide),happ,Kb,Kb,zG (by omega),Kb])
  (λ s hi=>by
   unfold qb;dsimp only;rw[zx,Kd (by simp)]) ses0_ok (by omega)
 refine(congrFun (bz Option.bind key) _).trans ?_;rfl
def okSes(l:List GAct)(path:List Int)(ticks:Int):Bool:=zaD l&&we path&&inR ticks 0 4
theorem zfY(h:okSes l path ticks=true):((∀ a∈l,X5 a=true)/\l.length<=20)/\we path=true/\0<=ticks/\ticks<=4:=by
 unfold okSes at h;simp at h;refine⟨okActs_spec h.1.1,h.1.2,?_⟩;have:=h.2;unfold inR at this;simpa[cmpI] using this
theorem zfZ(h:we path=true):yu path:=⟨by have:=validPath_len h;omega,path_in h⟩
def zey(l:List GAct)(path:List Int)(ticks:Int):Int×Int:=if okSes l path ticks=true then((sesR 0 path ticks l).f.fills,(sesR 0 path ticks l).f.hits) else(-1,-1)
theorem FillsOf_eq(hp:path.length<=1048576)(hlen:l.length<=1048576)(hs:∀ a∈l,zaT a):ZQ (scc YL) l path ticks=some (zey l path ticks):=by
 unfold ZQ W4 zey;rw[ValidActs_eq hlen hs,Kb,qM,zX,Kb,Kb,ValidPath_eq hp,zX,Kb];cases ho:okSes l path ticks with
 |true=>obtain⟨⟨hv,hl⟩,hpv,h0,h1⟩:=zfY ho;unfold okSes at ho;simp at ho;unfold zbk;rw[walk_w_eq (zfZ hpv) hv hs hl h0 h1,Kb,Kb,Kc Z];rw[ho.1.1,ho.2,ho.1.2];rfl
 |false=>
  refine dU ?_ (bz some (Kd (by decide)).symm);unfold okSes at ho
  revert ho
  cases zaD l <;> cases we path <;> cases inR ticks 0 4 <;> intro ho <;> first | rfl | cases ho
theorem spec_fills(hp:yu path)(hv:∀ a∈l,X5 a=true)(hs:∀ a∈l,zaT a)(hl:l.length<=20)(h0:0<=ticks)(h1:ticks<=4):
  ∃ e,zE (λ a8=>wC (scc YL) l path ticks a8) (emptyD,(⟨true,xB,yZ,[],0⟩:Warmth),(0:Int))=some ⟨true,e,(sesR 0 path ticks l).f,(sesR 0 path ticks l).c,0⟩:=by
 have key:∀ (m k:Nat) (s:Ses) (e:Disk),k+m=l.length->SesI k s->∃ e',jr (λ a8=>wC (scc YL) l path ticks a8) (m+1) (s.d,(⟨true,e,s.f,s.c,0⟩:Warmth),(k:Int))=some ⟨true,e',((l.drop k).foldl (actP 0 path ticks) s).f,((l.drop k).foldl (actP 0 path ticks) s).c,0⟩:=by
  intro m
  induction m with
  |zero=>
   intro k s e hk hi;have:k=l.length:=by omega
   subst this;rw[bR];refine⟨e,yY ?_⟩;unfold wC;dsimp only;rw[zx,Kd (by simp)];rfl
  |succ m ih=>
   intro k s e hk hi;have hlt:k<l.length:=by omega
   have ha:=aa hlt;have hva:=hv _ (bi hlt);have hsa:=hs _ (bi hlt);obtain⟨e1,x,h2,_⟩:=answer_eq (mode:=0) hp hi (by omega) hva hsa h0 h1 e;obtain⟨e2,h4⟩:=ih _ _ e1 (by omega) (hi.next (mode:=0) (by decide) hp (by omega) hva hsa h0 h1);rw[bh hlt,bY];refine⟨e2,(jD ?_).trans h4⟩;unfold wC;dsimp only;rw[zx,Kc (ab hlt),zz,ha,Kb,h2,Kb,zG (by omega),Kb]
 obtain⟨e,h⟩:=key l.length 0 ses0 xB (by omega) ses0_ok;exact⟨e,Z1 h (by omega)⟩
theorem ze4(hlen:l.length<=1048576)(hs:∀ a∈l,zaT a):ZX (scc YL) l path ticks=some (zey l path ticks):=by
 unfold ZX zey;rw[validActs_eq' hlen hs,Kb,show ZM path=some _ from Kc trivial,zX,Kb,xP,zX,Kb];cases ho:okSes l path ticks with
 |true=>obtain⟨⟨hv,hl⟩,hpv,h0,h1⟩:=zfY ho;unfold okSes at ho;simp at ho;have hn:Wl=some emptyD:=rfl;obtain⟨e,he⟩:=spec_fills (zfZ hpv) hv hs hl h0 h1;rw[hn,Kb,he,Kb,Kc Z];rw[ho.1.1,ho.2,ho.1.2];rfl
 |false=>
  refine dU ?_ (bz some (Kd (by decide)).symm);unfold okSes at ho
  revert ho
  cases zaD l <;> cases we path <;> cases inR ticks 0 4 <;> intro ho <;> first | rfl | cases ho
end
