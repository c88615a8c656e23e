import Derived.Test.YtoomehfflopakaaGreatDoorTPb
import Derived.Test.YtoomehfflopakaaGreatDoorTP
namespace Go.Proofs.YtoomehfflopakaaGreatDoor
open Go.RowKit
variable{i:Bool}{c:Compiled}{d:Disk}{f:File}{m:GMod}{v:GVal}{a e mode:Int}{l:List Compiled}{lg:List GEvent}{o path roots:List Int}{b:List Stmt}{j k:Nat}{R:Rec}{x:Stmt}{nm p s:Str}{t:Tree}
def sizeL(b:List Stmt):Int:=b.foldl (λ n s=>n+(3+(s.module.l.length:Int)+(s.name.l.length:Int))) 0
def mixL(n k:Int):Int:=(131*n+k+1) % 1000003
def textL(n:Int)(s:Str):Int:=mixL (s.l.foldl (λ n b=>mixL n (b.toNat:Int)) n) 0
def hashL(b:List Stmt):Int:=b.foldl (λ n s=>textL (textL (mixL (mixL (mixL n s.kind) s.level) s.value) s.module) s.name) 1
def compL(f:File)(mode:Int):Compiled:=⟨f.root,y9 f,f.init,mode,f.stamp,sizeL f.body,hashL f.body,f.body⟩
def atC(r:Int)(m:Str)(i:Bool)(c:Compiled):Bool:=decide (c.root=r)&&decide (c.module=m)&&decide (c.init=i)
theorem atC_iff{r:Int}{m:Str}:atC r m i c=true ↔ c.root=r/\c.module=m/\c.init=i:=by simp[atC,and_assoc]
def zaE(c:Compiled)(f:File):Bool:=if c.mode=0 then decide (c.stamp=f.stamp)&&decide (c.size=sizeL f.body) else if c.mode=1 then decide (c.hash=hashL f.body) else true
def zcS(l:List Compiled)(f:File):Option Nat:=l.findIdx? (atC f.root (y9 f) f.init)
def Qm(l:List Compiled)(f:File)(mode:Int):List Stmt×List Compiled×Bool:=match zcS l f with
 | some k=>if zaE (l.getD k default) f=true then((l.getD k default).body,l,true) else(f.body,l.set k (compL f mode),false)
 | none=>(f.body,if l.length<12 then l++[compL f mode] else l,false)
structure CompOk(c:Compiled):Prop where
 root:inR c.root 0 2=true
 module:zm c.module=true
 mode:inR c.mode 0 2=true
 stamp:inR c.stamp 0 99=true
 body:zO c.body=true
 size:c.size=sizeL c.body
 hash:c.hash=hashL c.body
structure StoreOk(l:List Compiled):Prop where
 len:l.length<=12
 all:∀ c∈l,CompOk c
 apart:∀ (i j:Nat) (c e:Compiled),l[i]?=some c->l[j]?=some e->c.root=e.root->c.module=e.module->c.init=e.init->i=j
theorem StoreOk.nil:StoreOk []:=⟨ao _,λ _ h=>(by cases h),λ _ _ _ _ h=>by simp at h⟩
theorem zbz(h:zcS l f=some k):k<l.length/\l[k]?=some (l.getD k default)/\(l.getD k default).root=f.root/\(l.getD k default).module=y9 f/\(l.getD k default).init=f.init:=by
 obtain⟨h1,h2,_⟩:=aO.1 h;have e:l.getD k default=l[k]:=by rw[cv,aa h1];rfl
 rw[e];exact⟨h1,aa h1,atC_iff.1 h2⟩
theorem storeK_none(h:zcS l f=none):∀ c∈l,¬ (c.root=f.root/\c.module=y9 f/\c.init=f.init):=λ c hc hk=>by
 have:=bD.1 h c hc;rw[atC_iff.2 hk] at this;cases this
theorem Yo(h:z9 f=true):inR f.root 0 2=true/\inR f.stamp 0 99=true/\zm (y9 f)=true/\zO f.body=true:=by
 unfold z9 at h;cases h1:inR f.root 0 2 <;> cases h2:inR f.stamp 0 99 <;> cases h3:zf f.pkg <;> cases h4:zO f.body <;> simp only[h1,h2,h3,h4,dP,Bool.not_false,dT,Bool.or_false,bI] at h
 all_goals first
  | (cases h;done)
  | skip
 refine⟨Z,Z,?_,Z⟩;rw[Kd (by decide)] at h;unfold y9;cases hi:f.init with
 |true=>
  rw[hi,Kc Z,af] at h;rw[Kc Z];unfold zf at h3;have:=oD h.1;rcases bB _ _ ▸ h3 with h5 | h5
  ·exact absurd (oD h5) this
  ·exact h5
 |false=>rw[hi,Kd (by decide),af] at h;rw[Kd (by decide)];exact h.2
theorem comp_ok(h:z9 f=true)(hm:inR mode 0 2=true):CompOk (compL f mode):=
 let⟨h1,h2,h3,h4⟩:=Yo h;⟨h1,h3,hm,h2,h4,Z,Z⟩
theorem load_ok(hs:StoreOk l)(h:z9 f=true)(hm:inR mode 0 2=true):StoreOk (Qm l f mode).2.1/\zO (Qm l f mode).1=true:=by
 have hc:=comp_ok h hm;unfold Qm;cases hk:zcS l f with
 |none=>
  have hno:=storeK_none hk;simp only;refine⟨?_,hc.body⟩;split
  ·rename_i hl;refine⟨by simp;omega,λ c hx=>(bb.1 hx).elim (hs.all c) λ e=>by rw[aF.1 e];exact hc,λ i j c e hi hj h1 h2 h3=>?_⟩;rw[List.getElem?_append] at hi hj;split at hi <;> split at hj
   ·exact hs.apart i j c e hi hj h1 h2 h3
   ·have e1:e=compL f mode:=by
     rw[dk] at hj;split at hj
     ·injection hj with hj;exact hj.symm
     ·cases hj
    exact absurd ⟨by rw[h1,e1];rfl,by rw[h2,e1];rfl,by rw[h3,e1];rfl⟩ (hno c (ac hi))
   ·have e1:c=compL f mode:=by
     rw[dk] at hi;split at hi
     ·injection hi with hi;exact hi.symm
     ·cases hi
    exact absurd ⟨by rw[← h1,e1];rfl,by rw[← h2,e1];rfl,by rw[← h3,e1];rfl⟩ (hno e (ac hj))
   ·rw[dk] at hi hj;split at hi
    ·split at hj
     ·omega
     ·cases hj
    ·cases hi
  ·exact hs
 |some k=>
  obtain⟨k1,k2,k3,k4,k5⟩:=zbz hk;simp only;split
  ·exact⟨hs,(hs.all _ (ac k2)).body⟩
  ·refine⟨⟨by simp;exact hs.len,λ c hx=>(cx hx).elim (hs.all c) λ e=>by rw[e];exact hc,λ i j c e hi hj h1 h2 h3=>?_⟩,hc.body⟩;rw[List.getElem?_set] at hi hj;generalize l.getD k default=x at k2 k3 k4 k5;split at hi <;> split at hj
   ·omega
   ·rename_i e1 e2;subst e1;have ec:=(bP hi).symm;refine hs.apart _ j x e k2 hj ?_ ?_ ?_
    ·rw[k3,← h1,ec];rfl
    ·rw[k4,← h2,ec];rfl
    ·rw[k5,← h3,ec];rfl
   ·rename_i e1 e2;subst e2;have ec:=(bP hj).symm;refine hs.apart i _ c x hi k2 ?_ ?_ ?_
    ·rw[k3,h1,ec];rfl
    ·rw[k4,h2,ec];rfl
    ·rw[k5,h3,ec];rfl
   ·exact hs.apart i j c e hi hj h1 h2 h3
structure RSt where
 mods:List GMod
 log:List GEvent
 out:List Int
 left:Int
 part:List Str
 fin:Finder
 sto:List Compiled
variable{st:RSt}{r:RSt×Int}
def hits(s:Str)(m:GMod):Bool:=decide (m.name=s)&&m.cached
def cix(st:RSt)(s:Str):Int:=xk (hits s) st.mods
def aix(l:List GAttr)(s:Str):Int:=xk (λ a=>decide (a.name=s)) l
def updA{α:Type}(l:List α)(k:Nat)(f:α->α):List α:=match l[k]? with | some x=>l.set k (f x) | none=>l
theorem JR{α:Type}{l:List α}{x:α}(f:α->α)(h:l[k]?=some x):updA l k f=l.set k (f x):=by unfold updA;rw[h]
theorem zbA{α:Type}(l:List α)(k:Nat)(f:α->α):(updA l k f).length=l.length:=by unfold updA;split <;> simp
theorem updA_get{α:Type}{l:List α}{f:α->α}(i:Nat):(updA l k f)[i]?=if i=k then l[k]?.map f else l[i]?:=by
 unfold updA;split
 ·rename_i x hx;by_cases e:i=k
  ·subst e;have:=zJ hx;rw[Kc Z,hx,aU this];rfl
  ·rw[Kd e,ba (λ h=>e h.symm)]
 ·rename_i hx;by_cases e:i=k
  ·subst e;simp[hx]
  ·rw[Kd e]
def Ya(l:List GAttr)(s:Str)(v:GVal):List GAttr:=if cmpI .geq (aix l s) 0=true then updA l (aix l s).toNat (λ a=>{ a with value:=v }) else l++[⟨s,v⟩]
def RSt.note(st:RSt)(k:Int)(s:Str):RSt:={ st with log:=st.log++[⟨k,s⟩] }
def RSt.doneAt(st:RSt)(k:Nat):Bool:=((st.mods[k]?).map (·.done)).getD false
def RSt.hit(st:RSt)(k:Nat)(s:Str):RSt:={ st with log:=st.log++[⟨3,s⟩],part:=if st.doneAt k=false/\s ∉ st.part then st.part++[s] else st.part }
def RSt.give(st:RSt)(at_:Nat)(s:Str)(v:GVal):RSt:={ st with mods:=updA st.mods at_ (λ m=>{ m with attrs:=Ya m.attrs s v }) }
def RSt.begin(st:RSt)(s:Str)(sp:Spec):RSt:={ st with mods:=st.mods++[⟨s,sp.kind,sp.roots,true,false,[]⟩],log:=st.log++[⟨0,s⟩] }
def RSt.fail(st:RSt)(at_:Nat)(s:Str):RSt:={ st with mods:=updA st.mods at_ (λ m=>{ m with cached:=false }),log:=st.log++[⟨2,s⟩] }
def RSt.done(st:RSt)(at_:Nat)(s:Str):RSt:={ st with mods:=updA st.mods at_ (λ m=>{ m with done:=true }),log:=st.log++[⟨1,s⟩] }
def RSt.tell(st:RSt)(at_:Nat)(s:Str):RSt:=if cmpI .geq (cix st (yb s)) 0=true then st.give (cix st (yb s)).toNat (qn s) ⟨1,(at_:Int)⟩ else st
def RSt.kindAt(st:RSt)(k:Nat):Int:=((st.mods[k]?).map (·.kind)).getD 0
def RSt.rootsAt(st:RSt)(k:Nat):List Int:=((st.mods[k]?).map (·.roots)).getD []
def RSt.attrsAt(st:RSt)(k:Nat):List GAttr:=((st.mods[k]?).map (·.attrs)).getD []
def RSt.nameAt(st:RSt)(k:Nat):Str:=((st.mods[k]?).map (·.name)).getD emptyS
def partR(d:Disk)(st:RSt)(roots:List Int)(p s:Str):RSt×Spec:=({ st with fin:=(xW d p s st.fin [] roots).1 },(xW d p s st.fin [] roots).2)
def XI(d:Disk)(path:List Int)(st:RSt)(s:Str):RSt×Spec:=
 if yb s=emptyS then partR d st path emptyS s
 else if cmpI .lss (cix st (yb s)) 0=true then(st,noSpec)
 else if st.kindAt (cix st (yb s)).toNat=1 then(st,noSpec)
 else partR d st (st.rootsAt (cix st (yb s)).toNat) (yb s) (qn s)
def loadR(mode:Int)(st:RSt)(f:File):RSt×List Stmt:=({ st with sto:=(Qm st.sto f mode).2.1 },(Qm st.sto f mode).1)
def XQ(s:Str):Str:=(zB s dot).headD emptyS
section
variable(d:Disk)(mode:Int)(path:List Int)
abbrev RImp:=RSt->Str->Option (RSt×Int×Int)
def starF(at_:Nat)(l:List GAttr)(st:RSt):RSt:=l.foldl (λ st a=>if(a.name.l.headD 0 == 122)=true then st else st.give at_ a.name a.value) st
def zaF(st:RSt)(at_:Nat):Str:=if st.kindAt at_=1 then yb (st.nameAt at_) else st.nameAt at_
def zbB(I:RImp)(st:RSt)(k:Nat)(s:Str):Option (RSt×GVal×Int):=
 if cmpI .geq (aix (st.attrsAt k) s) 0=true then some (st,(((st.attrsAt k)[(aix (st.attrsAt k) s).toNat]?).map (·.value)).getD ⟨0,0⟩,0)
 else if st.kindAt k=1\/zm (child (st.nameAt k) s)=false then some (st,⟨0,0⟩,2)
 else if cmpI .lss (cix st (child (st.nameAt k) s)) 0=true then
  if(XI d path st (child (st.nameAt k) s)).2.kind=0 then some ((XI d path st (child (st.nameAt k) s)).1,⟨0,0⟩,2)
  else(I (XI d path st (child (st.nameAt k) s)).1 (child (st.nameAt k) s)).bind λ r=>some (r.1,⟨1,r.2.1⟩,r.2.2)
 else(I st (child (st.nameAt k) s)).bind λ r=>some (r.1,⟨1,r.2.1⟩,r.2.2)
def Y7(I:RImp)(st:RSt)(at_:Nat)(x:Stmt):Option (RSt×Int):=
 if x.kind=0 then(I st x.module).bind λ r=>
  if r.2.2≠0 then some (r.1,r.2.2) else if cmpI .lss (cix r.1 (XQ x.module)) 0=true then some (r.1,1) else some (r.1.give at_ (XQ x.module) ⟨1,cix r.1 (XQ x.module)⟩,0)
 else if x.kind=1 then
  if zm (Y5 (zaF st at_) x.level x.module)=false then some (st,5) else
  (I st (Y5 (zaF st at_) x.level x.module)).bind λ r=>if r.2.2≠0 then some (r.1,r.2.2) else
  (zbB d path I r.1 r.2.1.toNat x.name).bind λ q=>if q.2.2≠0 then some (q.1,q.2.2) else some (q.1.give at_ x.name q.2.1,0)
 else if x.kind=2 then(I st x.module).bind λ r=>
  if r.2.2≠0 then some (r.1,r.2.2) else some (starF at_ (r.1.attrsAt r.2.1.toNat) r.1,0)
 else if x.kind=3 then some (st.give at_ x.name ⟨0,x.value⟩,0)
 else if x.kind=4 then
  if cmpI .lss (aix (st.attrsAt at_) x.name) 0=true then some (st,3) else
  some ({ st with out:=st.out++[(let v:=(((st.attrsAt at_)[(aix (st.attrsAt at_) x.name).toNat]?).map (·.value)).getD ⟨0,0⟩;if v.kind=1 then -1 else v.num)] },0)
 else if x.kind=5 then some (st,4)
 else some (st,0)
def zaU(I:RImp)(at_:Nat):List Stmt->RSt->Option (RSt×Int)
 | [],st=>some (st,0)
 | x::xs,st=>if st.left=0 then some (st,6) else(Y7 d path I { st with left:=st.left - 1 } at_ x).bind λ r=>if r.2≠0 then some r else zaU I at_ xs r.1
def runF(I:RImp)(st:RSt)(at_:Nat)(sp:Spec):Option (RSt×Int):=if cmpI .geq sp.file 0=true then zaU d path I at_ (loadR mode st (zbu d.tree.files sp.file)).2 (loadR mode st (zbu d.tree.files sp.file)).1 else some (st,0)
def newF(I:RImp)(st:RSt)(s:Str)(sp:Spec):Option (RSt×Int×Int):=
 if sp.kind=0 then some (st,-1,1) else
 (runF d mode path I (st.begin s sp) st.mods.length sp).bind λ r=>
  if r.2≠0 then some (r.1.fail st.mods.length s,-1,r.2) else some ((r.1.done st.mods.length s).tell st.mods.length s,(st.mods.length:Int),0)
def impF(I:RImp)(st:RSt)(s:Str):Option (RSt×Int×Int):=
 if cmpI .geq (cix st s) 0=true then some (st.hit (cix st s).toNat s,cix st s,0) else
 (if yb s=emptyS then some (st,0,0) else I st (yb s)).bind λ r=>
  if r.2.2≠0 then some (r.1,-1,r.2.2) else
  if cmpI .geq (cix r.1 s) 0=true then some (r.1.hit (cix r.1 s).toNat s,cix r.1 s,0) else newF d mode path I (XI d path r.1 s).1 s (XI d path r.1 s).2
def imp:Nat->RImp
 | 0=>λ _ _=>none
 | n+1=>impF d mode path (imp n)
end
variable{I:RImp}
theorem zes{α:Type}{p:α->Bool}{l:List α}(h:cmpI .geq (xk p l) 0=true):∃ x,l[(xk p l).toNat]?=some x/\p x=true/\0<=xk p l:=by
 rw[lss_geq] at h;have h':cmpI .lss (xk p l) 0=false:=by simpa using h
 obtain⟨x,h1,h2⟩:=idxOf_some h';exact⟨x,h1,h2,by simpa[cmpI] using h'⟩
theorem X6(s:Str):1<=(zB s dot).length:=by have:=Q0 s dot;omega
theorem qB(h:zm s=true):(zB s dot).length<=3:=(jH h).2
theorem Xk(h:zm s=true)(hp:yb s≠emptyS):(zB (yb s) dot).length+1=(zB s dot).length/\zm (yb s)=true:=by
 obtain⟨h1,h2⟩:=jH h;have h0:=X6 s;by_cases e:(zB s dot).length=1
 ·exfalso
  apply hp;unfold yb;rw[e];rfl
 ·have hne:(zB s dot).take ((zB s dot).length - 1)≠[]:=λ e1=>by
   have:=bz List.length e1;rw[aI,cL] at this;omega
  have hv:∀ x∈(zB s dot).take ((zB s dot).length - 1),zF x=true:=λ x hx=>h1 x (dD hx)
  constructor
  ·unfold yb;rw[zfI hne hv,aI];omega
  ·exact zfJ hne (by rw[aI];omega) hv
theorem WW(h:zm s=true):zF (qn s)=true:=(jH h).1 _ (ac (last_get s))
theorem first_valid(h:zm s=true):zF (XQ s)=true:=by
 unfold XQ;have h1:=(jH h).1;have h0:=X6 s;cases hs:zB s dot with
 | nil=>rw[hs] at h0;simp at h0
 | cons a l=>exact h1 a (by rw[hs];exact bK ..)
theorem X7(h:zL x=true)(hk:x.kind=0\/x.kind=2):zm x.module=true:=by
 rcases XP h with h1 | h1 | h1
 ·exact h1.2
 ·omega
 ·omega
theorem zah(h:zL x=true)(hk:x.kind=1\/x.kind=3\/x.kind=4):zF x.name=true:=by
 unfold zL at h;rcases hk with hk | hk | hk <;> simp only[hk,cmpI] at h <;> simp at h <;> first | exact h.1.2 | exact h.2.1 | exact h.1.1.2 | (exact h.1.2.1) | (exact h.2.2.1)
def yu(l:List Int):Prop:=l.length<=1048576/\∀ r∈l,inR r 0 2=true
structure Inv(st:RSt):Prop where
 names:∀ m∈st.mods,zm m.name=true
 roots:∀ m∈st.mods,yu m.roots
 parts:∀ m∈st.mods,∀ a∈m.attrs,zF a.name=true
 apart:∀ m∈st.mods,(m.attrs.map (·.name)).Nodup
 left:0<=st.left
 fin:FindOk st.fin
 sto:StoreOk st.sto
structure Grow(a b:RSt):Prop where
 left:b.left<=a.left
 old:∀ (i:Nat) (m:GMod),a.mods[i]?=some m->∃ m',b.mods[i]?=some m'/\m'.name=m.name
theorem Grow.refl(a:RSt):Grow a a:=⟨cz _,λ _ m h=>⟨m,h,Z⟩⟩
theorem Grow.trans{a b c:RSt}(h:Grow a b)(k:Grow b c):Grow a c:=⟨cr k.left h.left,λ i m hm=>let⟨m1,h1,h2⟩:=h.old i m hm;let⟨m2,k1,k2⟩:=k.old i m1 h1;⟨m2,k1,k2.trans h2⟩⟩
def RSt.size(st:RSt):Nat:=st.log.length+st.out.length+st.mods.length+st.part.length+100*st.left.toNat
theorem zdU{α:Type}{l:List α}{f:α->α}{x:α}(h:x∈updA l k f):x∈l\/∃ y∈l,x=f y:=by
 unfold updA at h
 grind
theorem updA_old{l:List GMod}{f:GMod->GMod}(hf:∀ m,(f m).name=m.name){i:Nat}(h:l[i]?=some m):∃ m',(updA l k f)[i]?=some m'/\m'.name=m.name:=by
 rw[updA_get]
 grind
theorem put_names(l:List GAttr)(s:Str)(v:GVal):(Ya l s v).map (·.name)=if cmpI .geq (aix l s) 0=true then l.map (·.name) else l.map (·.name)++[s]:=by
 unfold Ya;split
 ·rename_i h;obtain⟨x,h1,h2,_⟩:=zes h;have h1':l[(aix l s).toNat]?=some x:=h1;rw[JR _ h1',dX];apply aX;intro i;by_cases e:(aix l s).toNat=i
  ·subst e;have:=zJ h1';rw[aU (by simpa using this),aY,h1'];rfl
  ·rw[ba e]
 ·simp
theorem zcT{α:Type}{p:α->Bool}{l:List α}(h:cmpI .geq (xk p l) 0=false):∀ x∈l,p x=false:=by
 rw[Ww] at h
 grind
theorem put_apart{l:List GAttr}(h:(l.map (·.name)).Nodup):((Ya l s v).map (·.name)).Nodup:=by
 rw[put_names];split
 ·exact h
 ·rename_i hh;have hn:=zcT (by simpa[aix] using hh);refine List.nodup_append.2 ⟨h,by simp,λ a ha b hb e=>?_⟩;simp at hb;subst hb;subst e;obtain⟨x,hx,hxa⟩:=bg.1 ha;have:=hn x hx;simp[hxa] at this
theorem put_parts{l:List GAttr}(hs:zF s=true)(h:∀ a∈l,zF a.name=true):∀ a∈Ya l s v,zF a.name=true:=by
 intro a ha;have:a.name∈(Ya l s v).map (·.name):=List.mem_map_of_mem ha;rw[put_names] at this
 grind
theorem Inv.upd(h:Inv st){f:GMod->GMod}(h1:∀ m,(f m).name=m.name)(h2:∀ m∈st.mods,yu (f m).roots)(h3:∀ m∈st.mods,∀ a∈(f m).attrs,zF a.name=true)(h4:∀ m∈st.mods,((f m).attrs.map (·.name)).Nodup):Inv { st with mods:=updA st.mods k f,log:=lg,out:=o } where
 names:=λ m hm=>(zdU hm).elim (h.names m) λ⟨y,hy,e⟩=>by rw[e,h1];exact h.names y hy
 roots:=λ m hm=>(zdU hm).elim (h.roots m) λ⟨y,hy,e⟩=>by rw[e];exact h2 y hy
 parts:=λ m hm=>(zdU hm).elim (h.parts m) λ⟨y,hy,e⟩=>by rw[e];exact h3 y hy
 apart:=λ m hm=>(zdU hm).elim (h.apart m) λ⟨y,hy,e⟩=>by rw[e];exact h4 y hy
 left:=h.left
 fin:=h.fin
 sto:=h.sto
theorem Inv.hit(h:Inv st)(k:Nat)(s:Str):Inv (st.hit k s):=⟨h.names,h.roots,h.parts,h.apart,h.left,h.fin,h.sto⟩
theorem size_hit(st:RSt)(k:Nat)(s:Str):(st.hit k s).size<=st.size+2:=by
 unfold RSt.size RSt.hit
 grind
theorem Inv.note(h:Inv st)(k:Int)(s:Str):Inv (st.note k s):=⟨h.names,h.roots,h.parts,h.apart,h.left,h.fin,h.sto⟩
theorem Inv.give(h:Inv st)(k:Nat){s:Str}(v:GVal)(hs:zF s=true):Inv (st.give k s v):=
 h.upd (f:=λ m=>{ m with attrs:=Ya m.attrs s v }) (λ _=>Z) h.roots (λ m hm=>put_parts hs (h.parts m hm)) λ m hm=>put_apart (h.apart m hm)
theorem Inv.fail(h:Inv st)(k:Nat)(s:Str):Inv (st.fail k s):=h.upd (f:=λ m=>{ m with cached:=false }) (λ _=>Z) h.roots h.parts h.apart
theorem Inv.done(h:Inv st)(k:Nat)(s:Str):Inv (st.done k s):=h.upd (f:=λ m=>{ m with done:=true }) (λ _=>Z) h.roots h.parts h.apart
theorem Inv.begin(h:Inv st){s:Str}{sp:Spec}(hs:zm s=true)(hr:yu sp.roots):Inv (st.begin s sp) where
 names:=λ m hm=>(bb.1 hm).elim (h.names m) λ e=>by simp at e;rw[e];exact hs
 roots:=λ m hm=>(bb.1 hm).elim (h.roots m) λ e=>by simp at e;rw[e];exact hr
 parts:=λ m hm=>(bb.1 hm).elim (h.parts m) λ e=>by simp at e;rw[e];intro a ha;simp at ha
 apart:=λ m hm=>(bb.1 hm).elim (h.apart m) λ e=>by simp at e;rw[e];exact List.Pairwise.nil
 left:=h.left
 fin:=h.fin
 sto:=h.sto
theorem Grow.upd{f:GMod->GMod}(h1:∀ m,(f m).name=m.name):Grow st { st with mods:=updA st.mods k f,log:=lg,out:=o }:=⟨cz _,λ _ _ h=>updA_old h1 h⟩
theorem Grow.give(k:Nat)(s:Str)(v:GVal):Grow st (st.give k s v):=Grow.upd (f:=λ m=>{ m with attrs:=Ya m.attrs s v }) λ _=>Z
theorem Grow.begin(s:Str)(sp:Spec):Grow st (st.begin s sp):=⟨cz _,λ i m h=>⟨m,by
 show(st.mods++_)[i]?=some m;rw[aK (zJ h)];exact h,Z⟩⟩
theorem zai(k:Nat)(s:Str)(v:GVal):(st.give k s v).size=st.size:=by unfold RSt.size RSt.give;simp[zbA]
theorem Inv.tell(h:Inv st)(k:Nat){s:Str}(hs:zm s=true):Inv (st.tell k s):=by
 unfold RSt.tell;split
 ·exact h.give _ _ (WW hs)
 ·exact h
theorem Grow.tell(k:Nat)(s:Str):Grow st (st.tell k s):=by
 unfold RSt.tell;split
 ·exact Grow.give ..
 ·exact Grow.refl _
theorem size_tell(k:Nat)(s:Str):(st.tell k s).size=st.size:=by
 unfold RSt.tell;split
 ·exact zai ..
 ·rfl
theorem star_ok(at_:Nat):∀ (l:List GAttr) {st:RSt},Inv st->(∀ a∈l,zF a.name=true)->Inv (starF at_ l st)/\Grow st (starF at_ l st)/\(starF at_ l st).size=st.size
 | [],st,h,_=>⟨h,Grow.refl _,Z⟩
 |a::l,st,h,hl=>by
  unfold starF;rw[bY];have hl':=λ b hb=>hl b (bM _ hb)
  split
  ·exact star_ok at_ l h hl'
  ·have h1:=star_ok at_ l (h.give at_ a.value (hl a (bK ..))) hl';exact⟨h1.1,(Grow.give at_ a.name a.value).trans h1.2.1,h1.2.2.trans (zai ..)⟩
structure ImpPost(st:RSt)(s:Str)(r:RSt×Int×Int):Prop where
 inv:Inv r.1
 grow:Grow st r.1
 size:r.1.size<=st.size+4*(zB s dot).length
 good:r.2.2=0->∃ m,r.1.mods[r.2.1.toNat]?=some m/\m.name=s/\0<=r.2.1
 bad:r.2.2≠0->r.2.1=-1
 ends:0<=r.2.2/\r.2.2<=6
def Y8(n:Nat)(I:RImp):Prop:=∀ (st:RSt) (s:Str),Inv st->zm s=true->4*st.left.toNat+(zB s dot).length<=n->∃ r,I st s=some r/\ImpPost st s r
structure BodyPost(st:RSt)(c:Nat)(r:RSt×Int):Prop where
 inv:Inv r.1
 grow:Grow st r.1
 size:r.1.size<=st.size+c
 ends:0<=r.2/\r.2<=6
theorem Inv.attrs(h:Inv st)(k:Nat):(∀ a∈st.attrsAt k,zF a.name=true)/\((st.attrsAt k).map (·.name)).Nodup:=by
 unfold RSt.attrsAt;cases hm:st.mods[k]? with
 | none=>exact⟨by simp,by simp⟩
 | some m=>exact⟨h.parts m (ac hm),h.apart m (ac hm)⟩
structure LookPost(d:Disk)(st:RSt)(r:RSt×Spec):Prop where
 inv:Inv r.1
 mods:r.1.mods=st.mods
 left:r.1.left=st.left
 size:r.1.size=st.size
 grow:Grow st r.1
 roots:yu r.2.roots
 file:r.2.file<0\/∃ f,d.tree.files[r.2.file.toNat]?=some f
theorem Inv.look_no(h:Inv st):LookPost d st (st,noSpec):=⟨h,Z,Z,Z,Grow.refl _,⟨ao _,λ _ h=>by cases h⟩,.inl (by show noSpec.file<0;decide)⟩
theorem part_ok(hd:DiskOk d)(h:Inv st)(hr:yu roots)(hp:zf p=true)(s:Str):LookPost d st (partR d st roots p s):=by
 obtain⟨h1,h2⟩:=runK_ok hd hp roots [] st.fin h.fin hr.2 λ x hx=>by cases hx
 have h3:=runK_rlen (d:=d) (p:=p) (s:=s) roots [] st.fin;refine⟨⟨h.names,h.roots,h.parts,h.apart,h.left,h1,h.sto⟩,Z,Z,Z,⟨cz _,λ _ m h=>⟨m,h,Z⟩⟩,⟨?_,h2⟩,?_⟩
 ·have:=hr.1;show(xW d p s st.fin [] roots).2.roots.length<=_;simp at h3;omega
 ·rcases zfO roots [] st.fin with h4 | ⟨k,f,h4,h5,_⟩
  ·exact .inl h4
  ·refine .inr ⟨f,?_⟩;show d.tree.files[(xW d p s st.fin [] roots).2.file.toNat]?=some f;rw[h4,aj];exact h5
theorem jV(h:zm s=true):zf s=true:=by unfold zf;rw[h,dT]
theorem zbR(hd:DiskOk d)(h:Inv st)(hp:yu path)(hs:zm s=true):LookPost d st (XI d path st s):=by
 unfold XI;split
 ·exact part_ok hd h hp (by rfl) s
 ·rename_i he;split
  ·exact h.look_no
  ·split
   ·exact h.look_no
   ·refine part_ok hd h ?_ (jV (Xk hs he).2) _;unfold RSt.rootsAt;cases hm:st.mods[(cix st _).toNat]? with
    | none=>exact⟨ao _,λ _ h=>by cases h⟩
    | some m=>exact h.roots m (ac hm)
theorem value_ok{n:Nat}(hd:DiskOk d)(hpa:yu path)(hI:Y8 n I)(h:Inv st)(hn:4*st.left.toNat+3<=n)(k:Nat)(s:Str)(_hs:zF s=true):∃ r,zbB d path I st k s=some r/\BodyPost st 12 (r.1,r.2.2):=by
 unfold zbB;have h0:∀ {v:GVal} {e:Int},0<=e->e<=6->∃ r,some (st,v,e)=some r/\BodyPost st 12 (r.1,r.2.2):=λ h1 h2=>⟨_,Z,h,Grow.refl _,dA _ _,h1,h2⟩
 split
 ·exact h0 (by decide) (by decide)
 ·split
  ·exact h0 (by decide) (by decide)
  ·rename_i hc;have hv:zm (child (st.nameAt k) s)=true:=by
    cases hv:zm _ with
    | true=>rfl
    | false=>exact absurd (.inr hv) hc
   have hp:=qB hv;split
   ·have hl:=zbR hd h hpa hv;have hls:=hl.size;split
    ·exact⟨_,Z,hl.inv,hl.grow,by simp only;omega,by simp,by simp⟩
    ·obtain⟨r,hr,hk⟩:=hI _ _ hl.inv hv (by rw[hl.left];omega);rw[hr];have:=hk.size;exact⟨_,Z,hk.inv,hl.grow.trans hk.grow,by simp only;omega,hk.ends⟩
   ·obtain⟨r,hr,hk⟩:=hI st _ h hv (by omega);rw[hr];have:=hk.size;exact⟨_,Z,hk.inv,hk.grow,by simp only;omega,hk.ends⟩
theorem stmt_ok{n:Nat}(hd:DiskOk d)(hpa:yu path)(hI:Y8 n I)(h:Inv st)(hn:4*st.left.toNat+3<=n)(at_:Nat)(hx:zL x=true):∃ r,Y7 d path I st at_ x=some r/\BodyPost st 30 r:=by
 have h0:∀ {e:Int},0<=e->e<=6->∃ r,some (st,e)=some r/\BodyPost st 30 r:=λ h1 h2=>⟨_,Z,h,Grow.refl _,dA _ _,h1,h2⟩
 have key:∀ {s:Str} (hv:zm s=true),∃ r,I st s=some r/\ImpPost st s r/\r.1.size<=st.size+12:=λ hv=>by
  have hp:=qB hv;obtain⟨r,hr,hk⟩:=hI st _ h hv (by omega);have:=hk.size;exact⟨r,hr,hk,by omega⟩
 unfold Y7;split
 ·rename_i hk;have hv:=X7 hx (.inl hk);obtain⟨r,hr,hp,hsz⟩:=key hv;rw[hr];simp only[Kb];split
  ·exact⟨_,Z,hp.inv,hp.grow,by simp only;omega,hp.ends⟩
  ·split
   ·exact⟨_,Z,hp.inv,hp.grow,by simp only;omega,by simp,by simp⟩
   ·exact⟨_,Z,hp.inv.give _ _ (first_valid hv),hp.grow.trans (Grow.give ..),by simp[zai];omega,by simp,by simp⟩
 ·rename_i k0;split
  ·rename_i k1;split
   ·exact h0 (by decide) (by decide)
   ·rename_i hv;have hv':zm (Y5 (zaF st at_) x.level x.module)=true:=by simpa using hv
    obtain⟨r,hr,hp,hsz⟩:=key hv';rw[hr];simp only[Kb];split
    ·exact⟨_,Z,hp.inv,hp.grow,by simp only;omega,hp.ends⟩
    ·have hl:=hp.grow.left;obtain⟨q,hq,hb⟩:=value_ok hd hpa hI hp.inv (by have:=h.left;have:=hp.inv.left;omega) r.2.1.toNat x.name (zah hx (.inl k1));have hbs:=hb.size;rw[hq];simp only[Kb];split
     ·exact⟨_,Z,hb.inv,hp.grow.trans hb.grow,by simp only at hbs ⊢;omega,hb.ends⟩
     ·exact⟨_,Z,hb.inv.give _ _ (zah hx (.inl k1)),hp.grow.trans (hb.grow.trans (Grow.give ..)),by simp[zai] at hbs ⊢;omega,by simp,by simp⟩
  ·rename_i k1;split
   ·rename_i k2;obtain⟨r,hr,hp,hsz⟩:=key (X7 hx (.inr k2));rw[hr];simp only[Kb];split
    ·exact⟨_,Z,hp.inv,hp.grow,by simp only;omega,hp.ends⟩
    ·have h1:=star_ok at_ _ hp.inv (hp.inv.attrs r.2.1.toNat).1;exact⟨_,Z,h1.1,hp.grow.trans h1.2.1,by simp;omega,by simp,by simp⟩
   ·split
    ·rename_i k3;exact⟨_,Z,h.give _ _ (zah hx (.inr (.inl k3))),Grow.give ..,by simp only[zai];omega,by simp,by simp⟩
    ·split
     ·split
      ·exact h0 (by decide) (by decide)
      ·refine⟨_,Z,⟨h.names,h.roots,h.parts,h.apart,h.left,h.fin,h.sto⟩,⟨cz _,λ _ m h=>⟨m,h,Z⟩⟩,?_,by simp,by simp⟩;unfold RSt.size;simp;omega
     ·split
      ·exact h0 (by decide) (by decide)
      ·exact h0 (by decide) (by decide)
theorem body_ok{n:Nat}{I:RImp}(hd:DiskOk d)(hpa:yu path)(hI:Y8 n I)(at_:Nat):∀ (l:List Stmt) (st:RSt),Inv st->4*st.left.toNat<=n+1->(∀ x∈l,zL x=true)->∃ r,zaU d path I at_ l st=some r/\BodyPost st 0 r
 | [],st,h,_,_=>⟨_,Z,h,Grow.refl _,ak _,by simp,by simp⟩
 |x::l,st,h,hn,hl=>by
  unfold zaU;split
  ·exact⟨_,Z,h,Grow.refl _,ak _,by simp,by simp⟩
  ·rename_i hz;have h1:Inv { st with left:=st.left - 1 }:=⟨h.names,h.roots,h.parts,h.apart,(by have:=h.left;show(0:Int)<=st.left - 1;omega),h.fin,h.sto⟩;have hgr:Grow st { st with left:=st.left - 1 }:=⟨by show st.left - 1<=st.left;omega,λ _ m h=>⟨m,h,Z⟩⟩;have hsz:RSt.size { st with left:=st.left - 1 }+100=st.size:=by
    unfold RSt.size;have:=h.left;simp only;omega
   obtain⟨r,hr,hb⟩:=stmt_ok (d:=d) (path:=path) hd hpa hI h1 (by have:=h.left;show 4*(st.left - 1).toNat+3<=n;omega) at_ (hl x (bK ..));have hbs:=hb.size;rw[hr];simp only[Kb];split
   ·exact⟨_,Z,hb.inv,hgr.trans hb.grow,by omega,hb.ends⟩
   ·have hle:=hb.grow.left;obtain⟨q,hq,hk⟩:=body_ok hd hpa hI at_ l r.1 hb.inv (by have:=h.left;have:=hb.inv.left;simp only at hle;omega) λ y hy=>hl y (bM _ hy)
    have hks:=hk.size;exact⟨q,hq,hk.inv,hgr.trans (hb.grow.trans hk.grow),by omega,hk.ends⟩
theorem zcU(h:zO b=true):∀ x∈b,zL x=true:=by
 unfold zO at h
 grind
theorem tree_file(h:yh t=true)(hf:f∈t.files):z9 f=true:=jw h hf
theorem run_ok{n:Nat}(hd:DiskOk d)(hm:inR mode 0 2=true)(hpa:yu path)(hI:Y8 n I)(h:Inv st)(hn:4*st.left.toNat<=n+1)(at_:Nat)(sp:Spec)(hf:sp.file<0\/∃ f,d.tree.files[sp.file.toNat]?=some f):∃ r,runF d mode path I st at_ sp=some r/\BodyPost st 0 r:=by
 unfold runF;split
 ·rename_i hg;have hf':∃ f,d.tree.files[sp.file.toNat]?=some f:=hf.elim (λ e=>by have:=oD hg;omega) id;obtain⟨f,hf⟩:=hf';have hfo:zbu d.tree.files sp.file=f:=by unfold zbu;rw[hf];rfl
  obtain⟨l1,l2⟩:=load_ok h.sto (tree_file hd.tree (ac hf)) hm;rw[hfo];obtain⟨r,hr,hb⟩:=body_ok hd hpa hI at_ (loadR mode st f).2 (loadR mode st f).1 ⟨h.names,h.roots,h.parts,h.apart,h.left,h.fin,l1⟩ hn (zcU l2);exact⟨r,hr,hb.inv,⟨hb.grow.left,hb.grow.old⟩,hb.size,hb.ends⟩
 ·exact⟨_,Z,h,Grow.refl _,ak _,by simp,by simp⟩
theorem new_ok{n:Nat}(hd:DiskOk d)(hm:inR mode 0 2=true)(hpa:yu path)(hI:Y8 n I)(h:Inv st)(hn:4*st.left.toNat<=n+1)(hs:zm s=true){sp:Spec}(hr:yu sp.roots)(hf:sp.file<0\/∃ f,d.tree.files[sp.file.toNat]?=some f):∃ r,newF d mode path I st s sp=some r/\ImpPost st s r/\r.1.size<=st.size+3:=by
 unfold newF;have hpp:=X6 s;split
 ·exact⟨_,Z,⟨h,Grow.refl _,dA _ _,λ e=>absurd e (by simp),λ _=>Z,by simp,by simp⟩,dA _ _⟩
 ·have h1:=h.begin hs hr;have hbz:(st.begin s sp).size=st.size+2:=by unfold RSt.size RSt.begin;simp;omega
  obtain⟨r,hr,hb⟩:=run_ok hd hm hpa hI h1 (by show 4*st.left.toNat<=n+1;exact hn) st.mods.length sp hf;have hbs:=hb.size;have hg:=(Grow.begin s sp).trans hb.grow;obtain⟨m,hm,hmn⟩:=hb.grow.old st.mods.length ⟨s,sp.kind,sp.roots,true,false,[]⟩ (by unfold RSt.begin;simp);rw[hr];simp only[Kb];split
  ·rename_i he;have hsz:(r.1.fail st.mods.length s).size=r.1.size+1:=by unfold RSt.size RSt.fail;simp[zbA];omega
   exact⟨_,Z,⟨hb.inv.fail _ _,hg.trans (Grow.upd (f:=λ m=>{ m with cached:=false }) λ _=>Z),by simp only;omega,λ e=>absurd e he,λ _=>Z,hb.ends⟩,by simp only;omega⟩
  ·have hsz:(r.1.done st.mods.length s).size=r.1.size+1:=by unfold RSt.size RSt.done;simp[zbA];omega
   have hgd:Grow r.1 (r.1.done st.mods.length s):=Grow.upd (f:=λ m=>{ m with done:=true }) λ _=>Z
   have hgt:=Grow.tell (st:=r.1.done st.mods.length s) st.mods.length s;refine⟨_,Z,⟨(hb.inv.done _ _).tell _ hs,hg.trans (hgd.trans hgt),by simp[size_tell];omega,λ _=>?_,λ e=>absurd Z e,by simp,by simp⟩,by simp[size_tell];omega⟩;obtain⟨m2,hm2,hn2⟩:=(hgd.trans hgt).old _ m hm;exact⟨m2,by simpa using hm2,hn2.trans hmn,by simp only;omega⟩
theorem zcV(hd:DiskOk d)(hm:inR mode 0 2=true)(hp:yu path):∀ n,Y8 n (imp d mode path n)
 | 0=>λ st s _ _ hn=>absurd (X6 s) (by omega)
 |n+1=>by
  intro st s h hs hn;have hpp:=X6 s;unfold imp impF;have hhit:∀ {st':RSt},Inv st'->Grow st st'->st'.size+2<=st.size+4*(zB s dot).length->cmpI .geq (cix st' s) 0=true->∃ r,some (st'.hit (cix st' s).toNat s,cix st' s,(0:Int))=some r/\ImpPost st s r:=λ h' hg hsz hc=>by
   obtain⟨m,h1,h2,h3⟩:=zes hc;refine⟨_,Z,h'.hit _ _,hg.trans ⟨cz _,λ _ m h=>⟨m,h,Z⟩⟩,?_,λ _=>⟨m,h1,?_,h3⟩,λ e=>absurd Z e,by simp,by simp⟩
   ·exact aQ (size_hit _ _ s) hsz
   ·unfold hits at h2;simp only[af,bt] at h2;exact h2.1
  split
  ·rename_i hc;exact hhit h (Grow.refl _) (by omega) hc
  ·have hpar:∃ r,(if yb s=emptyS then some (st,(0:Int),(0:Int)) else imp d mode path n st (yb s))=some r/\Inv r.1/\Grow st r.1/\r.1.size+4<=st.size+4*(zB s dot).length/\0<=r.2.2/\r.2.2<=6:=by
    split
    ·exact⟨_,Z,h,Grow.refl _,by simp only;omega,by simp,by simp⟩
    ·rename_i he;obtain⟨e1,e2⟩:=Xk hs he;obtain⟨r,hr,hk⟩:=zcV hd hm hp n st (yb s) h e2 (by omega);have:=hk.size;exact⟨r,hr,hk.inv,hk.grow,by omega,hk.ends⟩
   obtain⟨r,hr,hi,hg,hsz,he⟩:=hpar;rw[hr];simp only[Kb];split
   ·rename_i hne;exact⟨_,Z,hi,hg,by simp only;omega,λ e=>absurd e hne,λ _=>Z,he⟩
   ·split
    ·rename_i hc;exact hhit hi hg (by omega) hc
    ·have hl:=hg.left;have hlk:=zbR hd hi hp hs;have hls:=hlk.size;obtain⟨q,hq,hk,hks⟩:=new_ok hd hm hp (zcV hd hm hp n) hlk.inv (by rw[hlk.left];have:=h.left;have:=hi.left;omega) hs hlk.roots hlk.file;exact⟨q,hq,hk.inv,hg.trans (hlk.grow.trans hk.grow),by omega,hk.good,hk.bad,hk.ends⟩
section
variable{f:Finder}{r:Int}
def kn(d:Disk)(f:Finder):FKt:=⟨some (⟨d⟩,⟨f⟩)⟩
theorem known_eq(hf:FindOk f)(hd:DiskOk d)(ht:wR d.tree)(hp:zf p=true):c_known (kn d f) r p=some (kn d (qE f d r p).1,(qE f d r p).2):=by
 show(XM r p ⟨f⟩ d).bind _=_;unfold XM;rw[ask_eq hf hd ht hp];rfl
theorem find_w_eq(hf:FindOk f)(hd:DiskOk d)(ht:wR d.tree)(hr:roots.length<=1048576)(hin:∀ r∈roots,inR r 0 2=true)(hp:zf p=true)(hs:zF s=true)(hc:zm (child p s)=true):Xy d.tree roots p s (kn d f)=some (kn d (xW d p s f [] roots).1,(xW d p s f [] roots).2):=by
 have hpl:=zV hp;have hsl:=(wt hs).2;have hcl:=yp hc;have hne:=child_ne hc;have hcp:zf (child p s)=true:=by unfold zf;rw[hc,dT]
 have he:Qt p s=child p s:=by unfold Qt;rw[hp,hs,hc];rfl
 have hg:Good d.tree:=⟨ht,hd.tree⟩;unfold Xy;rw[zay (by omega),he,Kb,Kd (by simp;exact hne)];have hl:zE (λ a8=>wZ d.tree roots p s (child p s) a8) (kn d f,XX,[],(0:Int))=some (runL (λ _ σ r=>Qz d p s (λ z=>Sum.inr (kn d z.1,z.2)) σ r) (λ σ=>Sum.inl (kn d σ.1,XX,σ.2)) 0 (f,[]) roots):=by
  refine zbq (σ:=Finder×List Int) roots (λ σ k=>(kn d σ.1,XX,σ.2,(k:Int))) _ _ (λ k σ=>FindOk σ.1/\σ.2.length<=k) (λ k σ r hx hlt hi=>?_) (λ σ _=>?_) (s0:=(f,[])) ⟨hf,ak 0⟩ (by omega)
  ·obtain⟨hfo,hal⟩:=hi;have hri:=hin r (ac hx);have hfo2:=fill_ok hfo hd hri hp;have hnl:=zfP hfo hd r p;have hst:wZ d.tree roots p s (child p s) (kn d σ.1,XX,σ.2,(k:Int))=(match Qz d p s (λ z=>Sum.inr (kn d z.1,z.2)) σ r with
     | .inl σ'=>some (.inl (kn d σ'.1,XX,σ'.2,((k+1:Nat):Int))) | .inr b=>some (.inr b)):=by
    unfold wZ;dsimp only;have hcat:catO s ⟨[47]⟩=some (mark s):=JO (by show s.l.length+1<=_;omega);have happ:appO 8 σ.2 [r]=some _:=yk (by simp;omega) (by simp;omega);have hn2:(qE σ.1 d r p).2.length<=1048576:=by omega
    rw[zx,Kc (ab hlt),zz,hx,Kb,Kc (show(kn d σ.1).o.isSome=true from Z),known_eq hfo hd ht hp,Kb,hcat,Kb];dsimp only;rw[has_impl hn2,Kb,has_impl hn2,Kb,Kb,fileAt_eq hg.len,Kb,fileAt_eq hg.len,Kb,hasDir_eq ht hg.pkg hcp (by omega),zG (by omega)];rw[zX,Kb,happ];unfold Qz;generalize jg (qE σ.1 d r p).2 _=b0;generalize jg (qE σ.1 d r p).2 s=b3;generalize cmpI .geq _ 0=b1;generalize cmpI .geq _ 0=b2;generalize QI d.tree.files r _=b4;cases b0 <;> cases b1 <;> cases b2 <;> cases b3 <;> cases b4 <;> rfl
   rw[hst];have hinv:∀ σ',Qz d p s (λ z=>Sum.inr (α:=FKt×Spec×List Int) (kn d z.1,z.2)) σ r=.inl σ'->FindOk σ'.1/\σ'.2.length<=k+1:=λ σ' h=>by
    unfold Qz at h;split at h
    ·cases h
    ·split at h
     ·cases h
     ·cases h;refine⟨hfo2,?_⟩;dsimp only;split
      ·simp;omega
      ·omega
   cases hsk:Qz d p s (λ z=>Sum.inr _) σ r with
   | inl σ'=>exact⟨Z,hinv σ' hsk⟩
   | inr b=>rfl
  ·unfold wZ;dsimp only;rw[zx,Kd (by simp)]
 rw[hl,Kb];exact runL_K (λ z=>Sum.inr _) (λ σ=>Sum.inl _) _ (λ z=>some (kn d z.1,z.2)) (λ _=>Z) (λ σ=>by
  simp;split <;> rfl) roots 0 f []
end
theorem zbS{s:Stmt}(h:zL s=true):(0<=s.kind/\s.kind<=5)/\(0<=s.level/\s.level<=3)/\(0<=s.value/\s.value<=99)/\s.module.l.length<=1000/\s.name.l.length<=1000:=by
 have hN:∀ {x:Str},zm x=true->x.l.length<=1000:=λ h=>by have:=yp h;omega
 have hP:∀ {x:Str},zf x=true->x.l.length<=1000:=λ h=>by have:=zV h;omega
 have hQ:∀ {x:Str},zF x=true->x.l.length<=1000:=λ h=>by have:=(wt h).2;omega
 have hE:∀ {x:Str},x=⟨[]⟩->x.l.length<=1000:=λ h=>by rw[h];exact ao _
 unfold zL at h;by_cases h0:s.kind=0
 ·rw[Kc (by simp[cmpI,h0])] at h;simp[cmpI] at h;exact⟨by omega,by omega,by omega,hN h.1.1.1,hE h.1.2⟩
 rw[Kd (by simp[cmpI,h0])] at h;by_cases h1:s.kind=1
 ·rw[Kc (by simp[cmpI,h1])] at h;simp[cmpI] at h;have:=QW h.1.1.1.2;exact⟨by omega,by omega,by omega,hP h.1.1.1.1,hQ h.1.2⟩
 rw[Kd (by simp[cmpI,h1])] at h;by_cases h2:s.kind=2
 ·rw[Kc (by simp[cmpI,h2])] at h;simp[cmpI] at h;exact⟨by omega,by omega,by omega,hN h.1.1.1,hE h.1.2⟩
 rw[Kd (by simp[cmpI,h2])] at h;by_cases h3:s.kind=3
 ·rw[Kc (by simp[cmpI,h3])] at h;simp[cmpI] at h;have:=QW h.2;exact⟨by omega,by omega,by omega,hE h.1.1.1,hQ h.1.2⟩
 rw[Kd (by simp[cmpI,h3])] at h;by_cases h4:s.kind=4
 ·rw[Kc (by simp[cmpI,h4])] at h;simp[cmpI] at h;exact⟨by omega,by omega,by omega,hE h.1.1.1,hQ h.1.2⟩
 rw[Kd (by simp[cmpI,h4])] at h;by_cases h5:s.kind=5
 ·rw[Kc (by simp[cmpI,h5])] at h;have:=oD h;rw[this];exact⟨by decide,by decide,by decide,by decide,by decide⟩
 rw[Kd (by simp[cmpI,h5])] at h;cases h
theorem zbC(h:zO b=true):b.length<=8/\∀ s∈b,zL s=true:=by
 refine⟨YC h,λ s hs=>?_⟩;unfold zO at h
 grind
theorem zbT(h:zO b=true):b.length<=1048576/\∀ s∈b,smStmt s:=by
 obtain⟨h1,h2⟩:=zbC h;refine⟨by omega,λ s hs=>?_⟩;have:=zbS (h2 s hs);exact⟨by omega,by omega⟩
def MB(n:Int):Prop:=0<=n/\n<=1000003
theorem Yb{n k:Int}(_hn:MB n)(_hk:0<=k/\k<=1000):MB (mixL n k):=by
 unfold MB mixL at*;omega
theorem tmod_mix{n k:Int}(hn:MB n)(hk:0<=k/\k<=1000):(131*n+k+1).tmod 1000003=mixL n k:=by
 unfold MB at hn;rw[Int.tmod_eq_emod_of_nonneg (by omega)];rfl
theorem XJ{n k:Int}(hn:MB n)(hk:0<=k/\k<=1000):jP n k=some (mixL n k):=by
 unfold jP;have h1:=hn;unfold MB at h1;rw[Int.mul_comm n,xb (by omega) (by omega),Kb,xb (by omega) (by omega),Kb,xb (by omega) (by omega),Kb,modO_of,Kb,tmod_mix hn hk]
def fwm(n:Int):Fw Int C0:=⟨some (⟨⟩,n)⟩
def fwt(n:Int):Fw (Fw Int C0) C0:=⟨some (⟨⟩,fwm n)⟩
theorem zbD{n k:Int}(hn:MB n)(hk:0<=k/\k<=1000):c_mix (fwm n) k=some (fwm (mixL n k)):=by
 show(XK k n).bind _=_;unfold XK;have h1:=hn;unfold MB at h1;rw[xb (by omega) (by omega),Kb,xb (by omega) (by omega),Kb,xb (by omega) (by omega),Kb,modO_of,Kb,tmod_mix hn hk];rfl
theorem zaG(b:UInt8):0<=(b.toNat:Int)/\(b.toNat:Int)<=1000:=by have:=b.toNat_lt;omega
theorem zdV{n:Int}(hn:MB n):MB (textL n s):=by
 unfold textL;refine Yb ?_ ⟨by omega,by omega⟩;have:∀ (l:List UInt8) (n:Int),MB n->MB (l.foldl (λ n b=>mixL n (b.toNat:Int)) n):=by
  intro l
  induction l with
  | nil=>intro n h;exact h
  | cons b l ih=>intro n h;exact ih _ (Yb h (zaG b))
 grind
theorem zdW{n:Int}(hn:MB n)(hs:s.l.length<=1000):qf n s=some (textL n s):=by
 have hl:zE (λ s4=>wO s s4) (n,(0:Int))=some (s.l.foldl (λ n b=>mixL n (b.toNat:Int)) n):=by
  refine Xf s.l (λ n k=>(n,(k:Int))) (λ n b=>mixL n _) id (λ _ n=>MB n) (λ k n b hx hlt h=>?_) (λ n _=>?_) hn (by omega)
  ·unfold wO;dsimp only;rw[zx,Kc (ab hlt),zz,hx,Kb,XJ h (zaG b),Kb,zG (by omega)];exact⟨Z,Yb h (zaG b)⟩
  ·unfold wO;dsimp only;rw[zx,Kd (by simp)];rfl
 unfold qf;have h2:MB (s.l.foldl (λ n b=>mixL n (b.toNat:Int)) n):=by
  have:∀ (l:List UInt8) (n:Int),MB n->MB (l.foldl (λ n b=>mixL n (b.toNat:Int)) n):=by
   intro l
   induction l with
   | nil=>intro n h;exact h
   | cons b l ih=>intro n h;exact ih _ (Yb h (zaG b))
  exact this _ _ hn
 rw[hl,Kb,XJ h2 ⟨by omega,by omega⟩];rfl
theorem c_text_eq{n:Int}(hn:MB n)(hs:s.l.length<=1000):c_text (fwt n) s=some (fwt (textL n s)):=by
 have hl:zE (λ s3=>wY s s3) (fwm n,(0:Int))=some (fwm (s.l.foldl (λ n b=>mixL n (b.toNat:Int)) n)):=by
  refine Xf s.l (λ n k=>(fwm n,(k:Int))) (λ n b=>mixL n _) fwm (λ _ n=>MB n) (λ k n b hx hlt h=>?_) (λ n _=>?_) hn (by omega)
  ·unfold wY;dsimp only;rw[zx,Kc (ab hlt),zz,hx,Kb,zbD h (zaG b),Kb,zG (by omega)];exact⟨Z,Yb h (zaG b)⟩
  ·unfold wY;dsimp only;rw[zx,Kd (by simp)]
 have h2:MB (s.l.foldl (λ n b=>mixL n (b.toNat:Int)) n):=by
  have:∀ (l:List UInt8) (n:Int),MB n->MB (l.foldl (λ n b=>mixL n (b.toNat:Int)) n):=by
   intro l
   induction l with
   | nil=>intro n h;exact h
   | cons b l ih=>intro n h;exact ih _ (Yb h (zaG b))
  exact this _ _ hn
 show(XL s _).bind _=_;unfold XL;rw[hl,Kb,zbD h2 ⟨by omega,by omega⟩];rfl
def JX(n:Int)(s:Stmt):Int:=textL (textL (mixL (mixL (mixL n s.kind) s.level) s.value) s.module) s.name
theorem hstep_MB{n:Int}{s:Stmt}(hn:MB n)(h:zL s=true):MB (JX n s):=by
 have:=zbS h;exact zdV (zdV (Yb (Yb (Yb hn (by omega)) (by omega)) (by omega)))
theorem zbE(h:zO b=true):Yv b=some (hashL b):=by
 obtain⟨hlen,hall⟩:=zbC h;have hl:zE (λ s5=>qg b s5) ((1:Int),(0:Int))=some (b.foldl JX 1):=by
  refine Xf b (λ n k=>(n,(k:Int))) JX id (λ _ n=>MB n) (λ k n s hx hlt hn=>?_) (λ n _=>?_) ⟨by decide,by decide⟩ (by omega)
  ·have hv:=hall s (ac hx);have hb:=zbS hv;have m1:=Yb hn (k:=s.kind) (by omega);have m2:=Yb m1 (k:=s.level) (by omega);have m3:=Yb m2 (k:=s.value) (by omega);unfold qg;dsimp only;rw[zx,Kc (ab hlt),zz,hx,Kb,XJ hn (by omega),Kb,XJ m1 (by omega),Kb,XJ m2 (by omega),Kb,zdW m3 hb.2.2.2.1,Kb,zdW (zdV m3) hb.2.2.2.2,Kb,zG (by omega)];exact⟨Z,hstep_MB hn hv⟩
  ·unfold qg;dsimp only;rw[zx,Kd (by simp)];rfl
 unfold Yv;rw[hl];rfl
theorem zet(h:zO b=true):Zi b=some (hashL b):=by
 obtain⟨hlen,hall⟩:=zbC h;have hl:zE (λ a8=>jY b a8) (fwt 1,(0:Int))=some (fwt (b.foldl JX 1)):=by
  refine Xf b (λ n k=>(fwt n,(k:Int))) JX fwt (λ _ n=>MB n) (λ k n s hx hlt hn=>?_) (λ n _=>?_) ⟨by decide,by decide⟩ (by omega)
  ·have hv:=hall s (ac hx);have hb:=zbS hv;have m1:=Yb hn (k:=s.kind) (by omega);have m2:=Yb m1 (k:=s.level) (by omega);have m3:=Yb m2 (k:=s.value) (by omega);unfold jY;dsimp only;rw[zx,Kc (ab hlt),zz,hx,Kb,show(fwt n).o=some _ from Z,Kb,zbD hn (by omega),Kb,zbD m1 (by omega),Kb,zbD m2 (by omega),Kb];rw[show(⟨some _⟩:Fw _ C0)=fwt _ from Z,c_text_eq m3 hb.2.2.2.1,Kb,c_text_eq (zdV m3) hb.2.2.2.2,Kb,zG (by omega)];exact⟨Z,hstep_MB hn hv⟩
  ·unfold jY;dsimp only;rw[zx,Kd (by simp)]
 unfold Zi;rw[Wx (zbT h).1 (zbT h).2,Kb,h,Kd (by decide)];rw[show(⟨some (_,(⟨some _⟩:Fw Int C0))⟩:Fw _ C0)=fwt 1 from Z,hl];rfl
def sstep(n:Int)(s:Stmt):Int:=n+(3+(s.module.l.length:Int)+(s.name.l.length:Int))
theorem zbF(h:zO b=true):Yu b=some (sizeL b):=by
 obtain⟨hlen,hall⟩:=zbC h;have hl:zE (λ s5=>qe b s5) ((0:Int),(0:Int))=some (b.foldl sstep 0):=by
  refine Xf b (λ n k=>(n,(k:Int))) sstep id (λ k n=>0<=n/\n<=3000*(k:Int)) (λ k n s hx hlt hn=>?_) (λ n _=>?_) ⟨by decide,by decide⟩ (by omega)
  ·have hb:=zbS (hall s (ac hx));unfold qe;dsimp only;rw[zx,Kc (ab hlt),xb (by omega) (by omega),Kb,zz,hx,Kb,xb (by omega) (by omega),Kb,Kb,xb (by omega) (by omega),Kb,zG (by omega)];refine⟨?_,by unfold sstep;omega,by unfold sstep;omega⟩;unfold sstep;rw[show n+3+_+_=n+(3+(s.module.l.length:Int)+(s.name.l.length:Int)) by omega];rfl
  ·unfold qe;dsimp only;rw[zx,Kd (by simp)];rfl
 unfold Yu;rw[hl];rfl
theorem zeu(h:zO b=true):Zj b=some (sizeL b):=by
 obtain⟨hlen,hall⟩:=zbC h;have hl:zE (λ a8=>jZ b a8) ((0:Int),(0:Int))=some (b.foldl sstep 0):=by
  refine Xf b (λ n k=>(n,(k:Int))) sstep id (λ k n=>0<=n/\n<=3000*(k:Int)) (λ k n s hx hlt hn=>?_) (λ n _=>?_) ⟨by decide,by decide⟩ (by omega)
  ·have hb:=zbS (hall s (ac hx));unfold jZ;dsimp only;rw[zx,Kc (ab hlt),zz,hx,Kb,xb (by omega) (by omega),Kb,xb (by omega) (by omega),Kb,xb (by omega) (by omega),Kb,zG (by omega)];exact⟨Z,by unfold sstep;omega,by unfold sstep;omega⟩
  ·unfold jZ;dsimp only;rw[zx,Kd (by simp)];rfl
 unfold Zj;rw[Wx (zbT h).1 (zbT h).2,Kb,h,Kd (by decide),hl];rfl
theorem eql_dec(a b:Int):cmpI .eql a b=decide (a=b):=rfl
theorem zfV(h:zO f.body=true):Xz c f=some (zaE c f):=by
 unfold Xz zaE;simp only[eql_dec,bt];split
 ·rw[zbF h,zX,Kb];cases h1:decide (c.stamp=f.stamp) <;> rfl
 ·split
  ·rw[zbE h,Kb]
  ·rfl
theorem usable_eq(h:zO f.body=true):Xw c f=some (zaE c f):=by
 unfold Xw zaE;simp only[eql_dec,bt];split
 ·rw[zeu h,zX,Kb];cases h1:decide (c.stamp=f.stamp) <;> rfl
 ·split
  ·rw[zet h,Kb]
  ·rfl
def ixC(l:List Compiled)(r:Int)(m:Str)(i:Bool):Int:=match l.findIdx? (atC r m i) with | some k=>(k:Int) | none=>-1
theorem zcW{r:Int}{m:Str}(hl:l.length<=1048576):qZ l r m i=some (ixC l r m i):=by
 have h:zE (λ s4=>wm l r m i s4) (0:Int)=some (match l.findIdx? (atC r m i) with | some k=>(Sum.inr (k:Int):Unit⊕Int) | none=>Sum.inl ()):=by
  refine Yn l _ (λ k=>_) _ (λ k x hx hlt=>?_) ?_ (by omega) Z
  ·unfold wm;rw[zx,Kc (ab hlt),zz,hx,Kb,zX,Kb,zX,Kb,zG (by omega),Kb];unfold atC;rw[eql_dec];cases h1:decide (x.root=r) with
   | false=>rfl
   |true=>
    cases h2:decide (x.module=m) with
    | false=>simp[h2]
    |true=>cases h3:x.init <;> cases i <;> simp[h2,h3]
  ·unfold wm;rw[zx,Kd (by simp)]
 unfold qZ ixC
 grind
theorem zcy{r:Int}{m:Str}(hl:l.length<=1048576):jz l r m i=some (ixC l r m i):=by
 have h:zE (λ s4=>zM l (λ a0=>jM a0 r m i) s4) (0:Int)=some (match l.findIdx? (atC r m i) with | some k=>(Sum.inr (k:Int):Unit⊕Int) | none=>Sum.inl ()):=by
  refine Yn l _ (λ k=>_) _ (λ k x hx hlt=>?_) ?_ (by omega) Z
  ·unfold zM jM;rw[zx,Kc (ab hlt),zz,hx,Kb,Kb,zG (by omega),Kb];unfold atC;rw[eql_dec];cases h1:decide (x.root=r) <;> cases h2:decide (x.module=m) <;> cases h3:x.init <;> cases i <;> rfl
  ·unfold zM;rw[zx,Kd (by simp)]
 unfold jz yR ixC
 grind
theorem Xl(h:b.length<=1048576):yK b=some b:=by
 unfold yK;rw[yk (by simp;omega) (by simp;omega)];rfl
theorem zev(m:Int):Ys m=some (inR m 0 2):=rfl
theorem cloneStore_eq(hs:StoreOk l):YH l=some l:=by
 have hlen:=hs.len;have h:zE (λ s5=>wj l s5) ([],(0:Int))=some l:=by
  refine YA l.length (λ k=>(l.take k,(k:Int))) (λ k hk=>?_) ?_ (by omega) Z
  ·have hx:=aa hk;have hb:=YC (hs.all _ (ac hx)).body;have ht:(l.take k).length<=12:=by rw[aI];omega
   unfold wj;dsimp only;rw[zx,Kc (ab hk),zz,hx,Kb,Xl (by omega),Kb,yk (by simp;omega) (by simp;omega),Kb,zG (by omega),Kb];rw[be,hx];rfl
  ·unfold wj;dsimp only;rw[zx,Kd (by simp),aL]
 unfold YH;rw[h];rfl
theorem ixC_of(hs:StoreOk l)(hk:l[k]?=some c):ixC l c.root c.module c.init=(k:Int):=by
 unfold ixC;cases h:l.findIdx? _ with
 |none=>have:=bD.1 h c (ac hk);rw[atC_iff.2 ⟨Z,Z,Z⟩] at this;cases this
 |some j=>obtain⟨h1,h2,_⟩:=aO.1 h;obtain⟨e1,e2,e3⟩:=atC_iff.1 h2;have:=hs.apart j k l[j] c (aa h1) hk e1 e2 e3;rw[this]
theorem ValidStore_eq(hs:StoreOk l):qS l=some true:=by
 have hlen:=hs.len;have h:zE (λ s4=>wi l s4) (0:Int)=some (.inl ()):=by
  refine YA l.length (λ k=>(k:Int)) (λ k hk=>?_) ?_ (by omega) Z
  ·have hx:=aa hk;have hc:=hs.all _ (ac hx);have hn:=yp hc.module;have hsz:=hc.size;have hha:=hc.hash;unfold wi;rw[zx,Kc (ab hk),zz,hx,Kb,qM,hc.root,Kb,x8 (by unfold sho;omega),hc.module,zev,hc.mode,qM,hc.stamp,Wx (zbT hc.body).1 (zbT hc.body).2,hc.body,zeu hc.body,zet hc.body,zcy (by omega),ixC_of hs hx,zG (by omega)];simp[zX,cmpI,hsz,hha]
  ·unfold wi;rw[zx,Kd (by simp)]
 unfold qS;rw[h,Kb];simp[cmpI];omega
section
theorem ixC_store(l:List Compiled)(f:File):ixC l f.root (y9 f) f.init=(match zcS l f with | some k=>(k:Int) | none=>-1):=rfl
theorem Qn(h:smFile f):jy f=some (y9 f):=Kc h
theorem zaj(hf:z9 f=true)(hsm:smFile f):Yj f mode=some (compL f mode):=by
 have hb:=(Yo hf).2.2.2;have:=YC hb;unfold Yj;rw[Qn hsm,Kb,zbF hb,Kb,zbE hb,Kb,yk (by simp;omega) (by simp;omega)];rfl
theorem zbG(hf:z9 f=true)(hsm:smFile f)(hm:inR mode 0 2=true):qu f mode=some (compL f mode):=by
 have hb:=(Yo hf).2.2.2;have:=YC hb;unfold qu;rw[zaf hsm,hf,Kb,zev,hm,zX,Kb,Kd (by decide),zeH hsm,Kc hf,Kb,zeu hb,Kb,zet hb,Kb,Xl (by omega)];rfl
theorem zew(hs:StoreOk l)(hf:z9 f=true)(hsm:smFile f):Yk l f mode=some (Qm l f mode):=by
 have hb:=(Yo hf).2.2.2;have hlen:=hs.len;unfold Yk;rw[Qn hsm,Kb,zcW (by omega),Kb,ixC_store];unfold Qm;cases hk:zcS l f with
 |none=>
  simp only;rw[show(cmpI .geq _ 0 == true)=false from Z,Zd,Kb,Zd,Kb,show cmpI .geq _ 0=false from Z,cl,Kd (by decide),zaj hf hsm,Kb,Kd (by decide),show cmpI .lss _ 12=decide (l.length<12) from by simp[cmpI];omega];by_cases hl:l.length<12
  ·rw[Kc (ab hl),Kc hl,yk (by simp;omega) (by simp;omega)];rfl
  ·rw[Kd (by simpa using hl),Kd hl];rfl
 |some k=>
  obtain⟨k1,k2,_⟩:=zbz hk;simp only;rw[show cmpI .geq (k:Int) 0=true from by simp[cmpI],show((true:Bool) == true)=true from Z,wr,zz,k2,Kb,wr,zfV hb,Kb,br];cases hu:zaE _ f with
  | true=>rw[Kc Z,Kc Z,Kb]
  |false=>rw[Kd (by decide),Kd (by decide),zaj hf hsm,Kb,Kc Z,Kb,Kb];rfl
theorem LoadBody_eq(hs:StoreOk l)(hf:z9 f=true)(hsm:smFile f)(hm:inR mode 0 2=true):Yf l f mode=some (Qm l f mode):=by
 have hb:=(Yo hf).2.2.2;have hbl:=YC hb;have hlen:=hs.len;unfold Yf;rw[ValidStore_eq hs,Kb,zaf hsm,hf,zX,Kb,zev,hm,zX,Kb,Kd (by decide),cloneStore_eq hs,Kb,zeH hsm,Kc hf,Kb,zcy (by omega),Kb,ixC_store];unfold Qm;cases hk:zcS l f with
 |none=>
  simp only;rw[show(cmpI .geq _ 0 == true)=false from Z,Zd,Kb,Zd,Kb,show cmpI .geq _ 0=false from Z,cl,Kd (by decide),zbG hf hsm hm,Kb,Kd (by decide),show cmpI .lss _ 12=decide (l.length<12) from by simp[cmpI];omega];by_cases hl:l.length<12
  ·rw[Kc (ab hl),Kc hl,yk (by simp;omega) (by simp;omega),Kb,Kb,Xl (by omega)];rfl
  ·rw[Kd (by simpa using hl),Kd hl,Kb,Xl (by omega)];rfl
 |some k=>
  obtain⟨k1,k2,_⟩:=zbz hk;have hbk:=YC (hs.all _ (ac k2)).body;simp only;rw[show cmpI .geq (k:Int) 0=true from by simp[cmpI],show((true:Bool) == true)=true from Z,wr,zz,k2,Kb,wr,usable_eq hb,Kb,br];cases hu:zaE _ f with
  | true=>rw[Kc Z,Kc Z,Kb,Xl (by omega)];rfl
  |false=>rw[Kd (by decide),Kd (by decide),zbG hf hsm hm,Kb,Kc Z,Kb,zbp k1,Kb,Kb,Xl (by omega)];rfl
def ld(mode:Int)(l:List Compiled):FLt:=⟨some (⟨mode⟩,l)⟩
theorem c_load_eq(hs:StoreOk l)(hf:z9 f=true)(hsm:smFile f)(hm:inR mode 0 2=true):c_load (ld mode l) f=some (ld mode (Qm l f mode).2.1,(Qm l f mode).1):=by
 show(XN f l mode).bind _=_;unfold XN;rw[LoadBody_eq hs hf hsm hm];rfl
end
theorem idxOf_cases{α:Type}(p:α->Bool)(l:List α):(xk p l=-1/\∀ x∈l,p x=false)\/∃ (k:Nat) (x:α),xk p l=(k:Int)/\l[k]?=some x/\p x=true:=by
 cases h:cmpI .geq _ 0 with
 |true=>obtain⟨x,h1,h2,h3⟩:=zes h;exact .inr ⟨(xk p l).toNat,x,(bE h3).symm,h1,h2⟩
 |false=>refine .inl ⟨?_,zcT h⟩;have hn:=zcT h;unfold xk;rw[bD.2 hn]
theorem Xm(st:RSt)(s:Str):(cix st s=-1/\∀ m∈st.mods,hits s m=false)\/∃ (k:Nat) (m:GMod),cix st s=(k:Int)/\st.mods[k]?=some m/\m.name=s/\m.cached=true:=by
 rcases idxOf_cases _ st.mods with h | ⟨k,m,h1,h2,h3⟩
 ·exact .inl h
 ·unfold hits at h3;simp at h3;exact .inr ⟨k,m,h1,h2,h3.1,h3.2⟩
theorem Yc(k:Nat):cmpI .geq (k:Int) 0=true:=by simp[cmpI]
theorem zdX(k:Nat):cmpI .lss (k:Int) 0=false:=by simp[cmpI]
theorem geq_m1:cmpI .geq (-1:Int) 0=false:=rfl
theorem lss_m1:cmpI .lss (-1:Int) 0=true:=rfl
def enc(s:Str):Nat:=match s.l with
 | [a]=>a.toNat
 | [a,b]=>a.toNat+256*b.toNat
 | [a,b,c]=>a.toNat+256*b.toNat+65536*c.toNat
 | _=>0
theorem zaH(h:zF s=true):(∃ a,s=⟨[a]⟩/\1<=a.toNat)\/(∃ a b,s=⟨[a,b]⟩/\1<=a.toNat/\1<=b.toNat)\/∃ a b c,s=⟨[a,b,c]⟩/\1<=a.toNat/\1<=b.toNat/\1<=c.toNat:=by
 have hl:∀ {b:UInt8},low b=true->1<=b.toNat:=λ{b} hb=>by
  unfold low at hb;simp[cmpB] at hb;have h1:=hb.1;rw[UInt8.le_iff_toNat_le] at h1;simp at h1;omega
 unfold zF inR at h;simp at h;obtain⟨h1,h2⟩:=h;cases s with
 | mk l=>
 match l,h1,h2 with
 | [],h1,_=>simp[cmpI] at h1
 | [a],_,h2=>exact .inl ⟨a,Z,hl (h2 a (by simp))⟩
 | [a,b],_,h2=>exact .inr (.inl ⟨a,b,Z,hl (h2 a (by simp)),hl (h2 b (by simp))⟩)
 | [a,b,c],_,h2=>exact .inr (.inr ⟨a,b,c,Z,hl (h2 a (by simp)),hl (h2 b (by simp)),hl (h2 c (by simp))⟩)
 | a::b::c::d::l,h1,_=>simp[cmpI] at h1;omega
theorem enc_inj{t:Str}(hs:zF s=true)(ht:zF t=true)(h:enc s=enc t):s=t:=by
 have lt:∀ a:UInt8,a.toNat<256:=λ a=>a.toNat_lt
 have inj:∀ {a b:UInt8},a.toNat=b.toNat->a=b:=λ h=>UInt8.toNat_inj.1 h
 rcases zaH hs with⟨a,rfl,h1⟩ | ⟨a,b,rfl,h1,h2⟩ | ⟨a,b,c,rfl,h1,h2,h3⟩ <;> rcases zaH ht with⟨x,rfl,k1⟩ | ⟨x,y,rfl,k1,k2⟩ | ⟨x,y,z,rfl,k1,k2,k3⟩ <;> simp[enc] at h
 ·rw[inj (a:=a) (by omega)]
 ·have:=lt a;have:=lt x;omega
 ·have:=lt a;have:=lt x;have:=lt y;omega
 ·have:=lt a;have:=lt x;omega
 ·have:=lt a;have:=lt x;rw[inj (a:=a) (b:=x) (by omega),inj (a:=b) (b:=y) (by omega)]
 ·have:=lt a;have:=lt x;have:=lt b;have:=lt y;omega
 ·have:=lt a;have:=lt x;have:=lt b;omega
 ·have:=lt a;have:=lt x;have:=lt b;have:=lt y;omega
 ·have:=lt a;have:=lt x;have:=lt b;have:=lt y;rw[inj (a:=a) (b:=x) (by omega),inj (a:=b) (b:=y) (by omega),inj (a:=c) (b:=z) (by omega)]
theorem enc_lt(s:Str):enc s<16777216:=by
 unfold enc;have lt:∀ a:UInt8,a.toNat<256:=λ a=>a.toNat_lt
 grind
theorem attrs_few{l:List GAttr}(h1:∀ a∈l,zF a.name=true)(h2:(l.map (·.name)).Nodup):l.length<=16777216:=by
 have h3:((l.map (·.name)).map enc).Nodup:=by
  unfold List.Nodup;rw[List.pairwise_map];refine List.Pairwise.imp_of_mem (λ{a b} ha hb hne e=>hne (enc_inj ?_ ?_ e)) h2
  ·obtain⟨x,hx,rfl⟩:=bg.1 ha;exact h1 x hx
  ·obtain⟨x,hx,rfl⟩:=bg.1 hb;exact h1 x hx
 have h4:=nodupLen h3 (λ x hx=>by
  obtain⟨y,_,rfl⟩:=bg.1 hx;exact az.2 (enc_lt y))
 grind
variable(d:Disk)(mode:Int)(path:List Int)
def bxs(l:List GMod):List (Bx GMod):=l.map λ m=>⟨m⟩
def mach(st:RSt):Machine:=⟨d.tree,path,kn d st.fin,ld mode st.sto,bxs st.mods,st.out,st.log,st.part,st.left⟩
variable{d mode path}
theorem bxs_get(l:List GMod)(k:Nat):(bxs l)[k]?=(l[k]?).map λ m=>⟨m⟩:=aY ..
theorem bxs_len(l:List GMod):(bxs l).length=l.length:=bZ ..
theorem zdY(l:List GMod)(k:Nat)(m:GMod):(bxs l).set k ⟨m⟩=bxs (l.set k m):=(dX).symm
theorem bxs_app(l:List GMod)(m:GMod):bxs l++[⟨m⟩]=bxs (l++[m]):=by unfold bxs;rw[ea];rfl
theorem bxs_idx(l:List GMod)(s:Str):xk (λ x:Bx GMod=>hits s x.x) (bxs l)=xk (hits s) l:=by
 unfold xk bxs;rw[List.findIdx?_map];rfl
theorem JV(h:st.mods.length<=1048576)(s:Str):yj (mach d mode path st) s=some (cix st s):=by
 unfold yj xa;have hl:zE (λ s4=>zS (bxs st.mods) (λ a0=>xq a0 s) s4) 0=some (match (bxs st.mods).findIdx? (λ x=>hits s x.x) with | some i=>(Sum.inr (i:Int):Unit⊕Int) | none=>Sum.inl ()):=by
  refine Yn (bxs st.mods) (λ x=>hits s x.x) (λ i=>Sum.inr i) _ (λ k x hx hlt=>?_) ?_ (by rw[bxs_len];omega) Z
  ·unfold zS;have hb:=bxs_len st.mods;rw[zx,Kc (ab hlt),zz,hx,Kb];show Option.bind (xq x.x s) _=_;rw[show xq x.x s=some (hits s x.x) from bz some (Bool.and_comm ..),Kb,zG (by omega)];cases hits s x.x <;> rfl
  ·unfold zS;rw[zx,Kd (by simp)]
 rw[show(mach d mode path st).modules=bxs st.mods from Z,hl,show cix st s=xk (λ x:Bx GMod=>hits s x.x) _ from(bxs_idx ..).symm];unfold xk
 grind
theorem zdZ(h:st.log.length<=1048576)(k:Int)(s:Str):xw (mach d mode path st) k s=some (mach d mode path (st.note k s)):=by
 unfold xw;rw[yk (by show(st.log.length+1)*24<=_;omega) (by show st.log.length+1<=_;omega),Kb];rfl
theorem hit_eq(h:st.log.length<=1048576)(hp:st.part.length<=1048576)(hm:st.mods[k]?=some m):qy (mach d mode path st) (k:Int)=some (mach d mode path (st.hit k m.name),(k:Int)):=by
 have hb:(bxs st.mods)[k]?=some ⟨m⟩:=by rw[bxs_get,hm];rfl
 have hd:st.doneAt k=m.done:=by unfold RSt.doneAt;rw[hm];rfl
 unfold qy;rw[show(mach d mode path st).modules=bxs st.mods from Z,zz,hb,Kb,aj,hb,Kb,zdZ h,Kb,
  show(mach d mode path (st.note 3 m.name)).modules=bxs st.mods from Z,hb,Kb,zX,Kb,show(mach d mode path (st.note 3 m.name)).part=st.part from Z]
 have hc:∀ x,zP st.part x=some _:=λ x=>ContainsS_eq hp
 rw[hc,zX,Kb];cases hdn:m.done with
 |true=>rw[hdn] at hd;rw[Kd (by simp),Kb];unfold RSt.hit;rw[Kd (by rw[hd];simp)];rfl
 |false=>
  rw[hdn] at hd;by_cases hi:m.name∈st.part
  ·rw[Kd (by simp[hi]),Kb];unfold RSt.hit;rw[Kd (by simp[hi])];rfl
  ·rw[Kc (by simp[hi]),Kb,yk (by show(st.part.length+1)*16<=_;omega) (by show st.part.length+1<=_;omega),Kb,Kb];unfold RSt.hit;rw[Kc ⟨hd,hi⟩];rfl
def val0(l:List GAttr)(j:Int):GVal:=((l[j.toNat]?).map (·.value)).getD ⟨0,0⟩
theorem loop_idxc{α β γ:Type}{c:γ}{step:γ×Int->Option ((γ×Int)⊕β)}(xs:List α)(p:α->Bool)(f:Int->β)(e:β)
  (h:∀ k x,xs[k]?=some x->k<xs.length->step (c,(k:Int))=some (if p x=true then .inr (f k) else .inl (c,((k+1:Nat):Int))))
  (hend:step (c,(xs.length:Int))=some (.inr e)) (hlen:xs.length<576460752303423488):zE step (c,(0:Int))=some (match xs.findIdx? p with | some i=>f (i:Int) | none=>e):=by
 have key:=zbq xs (λ _ k=>(c,(k:Int))) (λ k _ x=>match (if p x=true then some (f k) else none) with | none=>.inl () | some b=>.inr b) (λ _=>e) (λ _ _=>True) (λ k _ x hx hlt _=>by
  have:=h k x hx hlt;cases hp:p x with
  | true=>rw[hp] at this;exact this
  | false=>rw[hp] at this;exact⟨this,trivial⟩) (λ _ _=>hend) (s0:=()) trivial hlen
 refine key.trans ((bz some (runL_idx p f e 0 xs)).trans ?_)
 grind
theorem attr_eq(h:m.attrs.length<=16777216)(s:Str):x9 m s=some (match (m.attrs.findIdx? (λ a=>decide (a.name=s))) with | some i=>(val0 m.attrs (i:Int),true) | none=>(⟨0,0⟩,false)):=by
 unfold x9;have hl:zE (λ s6=>xR m s s6) (zGVal,(0:Int))=some (match m.attrs.findIdx? (λ a=>decide (a.name=s)) with | some i=>(Sum.inr (val0 m.attrs (i:Int),true):GVal⊕_) | none=>Sum.inl zGVal):=by
  refine loop_idxc m.attrs (λ a=>decide _) (λ j=>Sum.inr (val0 m.attrs j,true)) _ (λ k x hx hlt=>?_) ?_ (by omega)
  ·unfold xR;rw[show(_:GVal×Int).2=(k:Int) from Z,zx,Kc (ab hlt),zz,hx,Kb,zG (by omega),Kb,show val0 m.attrs (k:Int)=x.value by unfold val0;rw[aj,hx];rfl];cases decide (x.name=s) <;> rfl
  ·unfold xR;rw[show(_:GVal×Int).2=_ from Z,zx,Kd (by simp)]
 grind
theorem zak(l:List GAttr)(s:Str):(aix l s=-1/\l.findIdx? (λ a=>decide (a.name=s))=none)\/∃ (k:Nat) (a:GAttr),aix l s=(k:Int)/\l.findIdx? (λ a=>decide (a.name=s))=some k/\l[k]?=some a/\a.name=s:=by
 unfold aix xk;cases h:l.findIdx? (λ a=>decide (a.name=s)) with
 | none=>exact .inl ⟨Z,Z⟩
 |some k=>obtain⟨h1,h2,_⟩:=aO.1 h;exact .inr ⟨k,l[k],Z,Z,aa h1,by simpa using h2⟩
theorem attr_eq'(h:m.attrs.length<=16777216)(s:Str):x9 m s=some (if cmpI .geq (aix m.attrs s) 0=true then(val0 m.attrs (aix m.attrs s),true) else(⟨0,0⟩,false)):=by
 rw[attr_eq h];rcases zak m.attrs s with⟨h1,h2⟩ | ⟨k,a,h1,h2,_⟩
 ·rw[h1,h2];rfl
 ·rw[h1,h2,Kc (Yc k)]
theorem give_eq(h:m.attrs.length<=16777216)(s:Str)(v:GVal):yE m s v=some { m with attrs:=Ya m.attrs s v }:=by
 unfold yE;have hl:zE (λ s6=>xS m s v s6) (m,(0:Int))=some (match m.attrs.findIdx? (λ a=>decide (a.name=s)) with | some i=>(Sum.inr { m with attrs:=updA m.attrs (i:Int).toNat (λ a=>{ a with value:=v }) }:GMod⊕GMod) | none=>Sum.inl m):=by
  refine loop_idxc m.attrs (λ a=>decide (a.name=s)) (λ j=>Sum.inr { m with attrs:=updA m.attrs j.toNat (λ a=>{ a with value:=v }) }) _ (λ k x hx hlt=>?_) ?_ (by omega)
  ·unfold xS;rw[show(_:GMod×Int).2=(k:Int) from Z,show(_:GMod×Int).1=m from Z,zx,Kc (ab hlt),zz,hx,Kb,Kb,zG (by omega),Kb,aj,JR _ hx];cases decide (x.name=s) <;> rfl
  ·unfold xS;rw[show(_:GMod×Int).2=_ from Z,zx,Kd (by simp)]
 rw[hl];unfold Ya;rcases zak m.attrs s with⟨h1,h2⟩ | ⟨k,a,h1,h2,_⟩
 ·rw[h2,h1,Kd (by decide)];show Option.bind (appO 32 m.attrs [⟨s,v⟩]) _=_;rw[yk (by show(m.attrs.length+1)*32<=_;omega) (by show m.attrs.length+1<=_;omega),Kb]
 ·rw[h2,h1,Kc (Yc k),aj];rfl
theorem packOf_eq(h:zm m.name=true):wk m=some (if m.kind=1 then yb m.name else m.name):=by
 unfold wk;by_cases hk:m.kind=1
 ·rw[Kc (by simp[cmpI,hk]),Kc hk,Qx h];rfl
 ·rw[Kd (by simp[cmpI,hk]),Kd hk]
theorem CutF_eq(hs:s.l.length<=4611686018427387904):∃ a b,jT s ⟨[46]⟩=some (XQ s,a,b):=by
 have hge:=Lib.indexByte_ge s.l 46;have hf:XQ s=((zB s dot)[0]?).getD emptyS:=by unfold XQ;cases zB s dot <;> rfl
 rw[hf];unfold jT xv;rw[show yJ s ⟨[46]⟩=some _ from Z,Kb,jk];cases hc:cmpI .geq _ 0 with
 |false=>
  rw[Kd (by decide),Kb];have h0:Lib.indexByte s.l 46<0:=by have:=bC hc;omega
  have h1:cutF dot s.l=[s.l]:=XG 46 s.l h0;rw[h1];exact⟨_,_,Z⟩
 |true=>
  have h0:=oD hc;obtain⟨h1,h2⟩:=XH 46 s.l h0;obtain⟨n,hn⟩:∃ n:Nat,Lib.indexByte s.l 46=n:=⟨_,(bE h0).symm⟩;rw[hn] at h1 h2 ⊢;have h3:cutF dot s.l=s.l.take n::cutF 46 _:=h2;have hl:n+1<=s.l.length:=by omega
  rw[Kc Z,zae (by omega),Kb,show((n:Int)+((⟨[46]⟩:Str).l.length:Int))=((n:Int)+1) from Z,xb (by omega) (by omega),Kb,show((n:Int)+1)=((n+1:Nat):Int) from Z,JT hl,Kb,Kb,h3];exact⟨_,_,Z⟩
structure Small(st:RSt):Prop where
 mods:st.mods.length<=1048576
 log:st.log.length<=1048576
 out:st.out.length<=1048576
 part:st.part.length<=1048576
theorem RSt.small{n:Nat}(h:st.size<=n)(hn:n<=1048576:=by decide):Small st:=by
 unfold RSt.size at h;exact⟨by omega,by omega,by omega,by omega⟩
theorem Inv.few(h:Inv st)(hm:m∈st.mods):m.attrs.length<=16777216:=attrs_few (h.parts m hm) (h.apart m hm)
theorem Inv.at_(h:Inv st)(hm:st.mods[k]?=some m):m∈st.mods/\zm m.name=true/\m.attrs.length<=16777216/\yu m.roots:=
 have hi:=ac hm
 ⟨hi,h.names m hi,h.few hi,h.roots m hi⟩
theorem JW(hm:st.mods[k]?=some m):st.kindAt k=m.kind:=by unfold RSt.kindAt;rw[hm];rfl
theorem zfW(hm:st.mods[k]?=some m):st.rootsAt k=m.roots:=by unfold RSt.rootsAt;rw[hm];rfl
theorem WX(hm:st.mods[k]?=some m):st.attrsAt k=m.attrs:=by unfold RSt.attrsAt;rw[hm];rfl
theorem zbU(hm:st.mods[k]?=some m):st.nameAt k=m.name:=by unfold RSt.nameAt;rw[hm];rfl
theorem set_give(hm:st.mods[k]?=some m)(s:Str)(v:GVal):st.mods.set k { m with attrs:=Ya m.attrs s v }=(st.give k s v).mods:=(JR (λ m:GMod=>{ m with attrs:=Ya m.attrs s v }) hm).symm
theorem mach_give(hm:st.mods[k]?=some m)(s:Str)(v:GVal):({ mach d mode path st with modules:=(bxs st.mods).set k ⟨{ m with attrs:=Ya m.attrs s v }⟩ }:Machine)=mach d mode path (st.give k s v):=by
 rw[zdY,set_give hm];rfl
theorem look_eq(hd:DiskOk d)(ht:Good d.tree)(hp:yu path)(h:Inv st)(hs:Small st)(hv:zm s=true):xO (mach d mode path st) s=some (mach d mode path (XI d path st s).1,(XI d path st s).2):=by
 have hn:=name_of hv;unfold xO XI;rw[Qx hv,Kb];by_cases he:yb s=emptyS
 ·have hl:qn s=s:=by
   rw[he] at hn;unfold child at hn;rw[Kc Z] at hn;exact hn.symm
  rw[Kc (ab (show yb s=(⟨[]⟩:Str) from he)),Kc he,show(mach d mode path st).t=d.tree from Z,show(mach d mode path st).path=path from Z,show(mach d mode path st).known=kn d st.fin from Z,
   find_w_eq h.fin hd ht.sm hp.1 hp.2 (p:=(⟨[]⟩:Str)) (by rfl) (by rw[← hl];exact WW hv) (show zm (child emptyS s)=true by unfold child;rw[Kc Z];exact hv),Kb]
  rfl
 ·have he':¬ yb s=(⟨[]⟩:Str):=he;rw[Kd (by simp[he']),Kd he,JV hs.mods,Kb];rcases Xm st _ with⟨h1,_⟩ | ⟨k,m,h1,h2,h3,_⟩
  ·rw[h1,lss_m1];rw[show((true == false):Bool)=false from Z,Zd,Kb,Zd,Kb,Kc (by simp),Kc Z];rfl
  ·have hb:(bxs st.mods)[k]?=some ⟨m⟩:=by rw[bxs_get,h2];rfl
   rw[h1,zdX,show((false == false):Bool)=true from Z,wr,wr,show(mach d mode path st).modules=bxs st.mods from Z,zz,hb,Kb,aj,hb,Kb,c9,Kd (by decide:¬ (false=true)),JW h2,zfW h2];by_cases hk:m.kind=1
   ·rw[Kc (by simp[cmpI,hk]),Kc hk];rfl
   ·rw[Kd (by simp[cmpI,hk]),Kd hk,Kb,Kb,LastOf_eq hv,Kb];have hpp:=(Xk hv he).2;have hr:=(h.at_ h2).2.2.2;rw[show(mach d mode path st).t=d.tree from Z,show(mach d mode path st).known=kn d st.fin from Z,find_w_eq h.fin hd ht.sm hr.1 hr.2 (jV hpp) (WW hv) (by rw[← hn];exact hv),Kb];rfl
variable{n:Nat}
def zbH(d:Disk)(mode:Int)(path:List Int)(n:Nat)(R:Rec)(I:RImp):Prop:=
 ∀ (st:RSt) (s:Str) (r:RSt×Int×Int),Inv st->zm s=true->4*st.left.toNat+(zB s dot).length<=n->st.size<=20000->I st s=some r->R.impl_machine_load1 (mach d mode path st) s=some (mach d mode path r.1,r.2.1,r.2.2)
theorem zaV(h:¬ e=0):cmpI .neq e 0=true:=by simp[cmpI,h]
theorem jI{b:Int}(h:a=b):cmpI .eql a b=true:=by simp[cmpI,h]
theorem wa{b:Int}(h:¬ a=b):cmpI .eql a b=false:=by simp[cmpI,h]
theorem Z2{l:List GMod}(h:l[k]?=some m):(bxs l)[k]?=some ⟨m⟩:=by rw[bxs_get,h];rfl
theorem Grow.at_{a b:RSt}(h:Grow a b)(hm:a.mods[k]?=some m):∃ m',b.mods[k]?=some m':=let⟨m',h1,_⟩:=h.old k m hm;⟨m',h1⟩
theorem give_at(h:Inv st)(hm:st.mods[k]?=some m)(s:Str)(v:GVal){β:Type}(f:Machine->β):
  (((mach d mode path st).modules[k]?).bind λ a8=>(yE a8.x s v).bind λ a9=>some (f { mach d mode path st with modules:=(mach d mode path st).modules.set k ⟨a9⟩ }))=some (f (mach d mode path (st.give k s v))):=by
 rw[show(mach d mode path st).modules=bxs st.mods from Z,Z2 hm,Kb,give_eq (h.at_ hm).2.2.1,Kb,mach_give hm]
theorem do_0(hI:Y8 n I)(hL:zbH d mode path n R I)(h:Inv st)(hn:4*st.left.toNat+3<=n)(hsz:st.size<=19950)(hk:st.mods[k]?=some m)(hx:zL x=true)(hkd:x.kind=0)(hr:Y7 d path I st k x=some r):
  yO R (mach d mode path st) (k:Int) x=some (mach d mode path r.1,r.2):=by
 have hv:=X7 hx (.inl hkd);have hpl:=qB hv;obtain⟨q,hq,hp⟩:=hI st x.module h hv (by omega);have hqs:=hp.size;unfold Y7 at hr;rw[Kc hkd,hq,Kb] at hr;have hld:=hL st x.module q h hv (by omega) (by omega) hq;unfold yO;rw[show(mach d mode path st).modules=bxs st.mods from Z,zz,Z2 hk,Kb,Kc (jI hkd),hld,Kb];by_cases he:q.2.2=0
 ·rw[Kd (by simp[he])] at hr;have hc:=CutF_eq (s:=x.module) (by have:=yp hv;omega);obtain⟨a,b,hc⟩:=hc;obtain⟨m',hm'⟩:=hp.grow.at_ hk;simp only;rw[he,Kd (by decide),hc,Kb,JV (RSt.small (by omega) (hn:=(by omega))).mods,Kb];cases hcx:cmpI .lss _ 0 with
  |true=>rw[Kc hcx] at hr;rw[Kc Z];cases hr;rfl
  |false=>rw[Kd (by simp[hcx])] at hr;cases hr;rw[Kd (by decide),aj];have:=give_at (d:=d) (mode:=mode) (path:=path) hp.inv hm' (XQ x.module) ⟨1,cix q.1 (XQ x.module)⟩ (λ mm=>(Sum.inl mm:Machine⊕(Machine×Int)));rw[this];rfl
 ·rw[Kc he] at hr;cases hr;simp only;rw[Kc (zaV he)];rfl
theorem do_2loop(hk':∃ m,st.mods[k]?=some m)(l:List GAttr)(h:Inv st)(hl:∀ a∈l,zF a.name=true)(hb:l.length<=16777216):
  zE (λ a8=>xx R (k:Int) l a8) (mach d mode path st,(0:Int))=some (Sum.inl (mach d mode path (starF k l st))):=by
 obtain⟨m0,hm0⟩:=hk';have key:=Xf l (λ(s:RSt) j=>_) (λ s a=>if _=true then s else s.give k a.name a.value) (λ s=>_) (λ _ s=>Inv s/\∃ m,s.mods[k]?=some m)
  (λ j s a ha hlt ⟨hi,m1,hm1⟩=>by
   have hva:=hl a (ac ha);have hne:a.name.l[0]?=some (a.name.l.headD 0):=by
    rcases zaH hva with⟨c,e,_⟩ | ⟨c,d,e,_⟩ | ⟨c,d,e',e,_⟩ <;> rw[e] <;> rfl
   have hat:atI a.name.l (0:Int)=some _:=hne;have hgr:=Grow.give (st:=s) k a.name a.value;obtain⟨m2,hm2⟩:=hgr.at_ hm1;have hs:xx R (k:Int) l (mach d mode path s,(j:Int))=some (.inl (mach d mode path (if(a.name.l.headD 0 == 122)=true then s else s.give k a.name a.value),((j+1:Nat):Int))):=by
    unfold xx;simp only;rw[zx,Kc (ab hlt),zz,ha,Kb,hat,Kb,zG (by omega),aj];cases hz:(a.name.l.headD 0 == 122) with
    |true=>rw[Kd (by simp[cmpB] at hz ⊢;exact hz),Kc Z];rfl
    |false=>have hg:=give_at (d:=d) (mode:=mode) (path:=path) hi hm1 a.name a.value (λ mm=>mm);rw[Kc (by simp[cmpB] at hz ⊢;exact hz),hg,Kd (by decide)];rfl
   refine⟨hs,?_⟩;split
   ·exact⟨hi,m1,hm1⟩
   ·exact⟨hi.give k _ hva,m2,hm2⟩)
  (λ s _=>by
   unfold xx;simp only;rw[zx,Kd (by simp)]) ⟨h,m0,hm0⟩ (by omega)
 exact key
theorem do_2(hI:Y8 n I)(hL:zbH d mode path n R I)(h:Inv st)(hn:4*st.left.toNat+3<=n)(hsz:st.size<=19950)(hk:st.mods[k]?=some m)(hx:zL x=true)(hkd:x.kind=2)(hr:Y7 d path I st k x=some r):
  yO R (mach d mode path st) (k:Int) x=some (mach d mode path r.1,r.2):=by
 have hv:=X7 hx (.inr hkd);have hpl:=qB hv;obtain⟨q,hq,hp⟩:=hI st x.module h hv (by omega);have hqs:=hp.size;unfold Y7 at hr;rw[Kd (by omega),Kd (by omega),Kc hkd,hq,Kb] at hr;have hld:=hL st x.module q h hv (by omega) (by omega) hq;unfold yO;rw[show(mach d mode path st).modules=bxs st.mods from Z,zz,Z2 hk,Kb,Kd (by rw[wa (by omega)];decide),Kd (by rw[wa (by omega)];decide),Kc (jI hkd),hld,Kb];by_cases he:q.2.2=0
 ·rw[Kd (by simp[he])] at hr;obtain⟨m',hm'⟩:=hp.grow.at_ hk;obtain⟨m2,hm2,_,h0⟩:=hp.good he;have hi2:=hp.inv.at_ hm2;obtain⟨j,hj⟩:∃ j:Nat,q.2.1=j:=⟨_,(bE h0).symm⟩;rw[hj,aj] at hm2;rw[hj,aj,WX hm2] at hr;cases hr;simp only;rw[he,Kd (by decide),hj,show(mach d mode path q.1).modules=bxs q.1.mods from Z,zz,Z2 hm2,Kb,aj,Z2 hm2,Kb,
   yk (by simp;omega) (by simp;omega),Kb,bc,do_2loop ⟨m',hm'⟩ m2.attrs hp.inv (hp.inv.parts m2 hi2.1) hi2.2.2.1]
  rfl
 ·rw[Kc he] at hr;cases hr;simp only;rw[Kc (zaV he)];rfl
theorem do_3(h:Inv st)(hsz:st.size<=19950)(hk:st.mods[k]?=some m)(hkd:x.kind≠0/\x.kind≠1/\x.kind≠2)(hr:Y7 d path I st k x=some r):
  yO R (mach d mode path st) (k:Int) x=some (mach d mode path r.1,r.2):=by
 have hi:=h.at_ hk;unfold Y7 at hr;rw[Kd hkd.1,Kd hkd.2.1,Kd hkd.2.2] at hr;unfold yO;rw[show(mach d mode path st).modules=bxs st.mods from Z,zz,Z2 hk,Kb,Kd (by rw[wa hkd.1];decide),Kd (by rw[wa hkd.2.1];decide),Kd (by rw[wa hkd.2.2];decide),aj];by_cases h3:x.kind=3
 ·rw[Kc h3] at hr;cases hr;have:=give_at (d:=d) (mode:=mode) (path:=path) h hk x.name ⟨0,x.value⟩ (λ mm=>(Sum.inl mm:Machine⊕(Machine×Int)));rw[Kc (jI h3)];refine(bz (λ o=>Option.bind o _) this).trans ?_;rfl
 ·rw[Kd h3] at hr;rw[Kd (by rw[wa h3];decide)];by_cases h4:x.kind=4
  ·rw[Kc h4,WX hk] at hr;rw[Kc (jI h4),Z2 hk,Kb,attr_eq' hi.2.2.1,Kb];cases hg:cmpI .geq _ 0 with
   |false=>
    have hl:cmpI .lss (aix m.attrs x.name) 0=true:=by rw[lss_geq] at hg;simpa using hg
    rw[Kc hl] at hr;cases hr;rw[Kz];rfl
   |true=>
    have hl:cmpI .lss (aix m.attrs x.name) 0=false:=by rw[lss_geq] at hg;simpa using hg
    rw[hl,Kd (by decide)] at hr;cases hr;have ho:st.out.length<=19950:=by unfold RSt.size at hsz;omega
    rw[Kc (show true=true from Z)];show Option.bind (if cmpI .eql (val0 m.attrs _).kind 1=true then _ else _) _=some (mach d mode path { st with out:=st.out++[if(val0 m.attrs _).kind=1 then -1 else(val0 m.attrs _).num] },0);by_cases hz:(val0 m.attrs (aix m.attrs x.name)).kind=1
    ·rw[Kc (jI hz),Kc hz,yk (by show(st.out.length+1)*8<=_;omega) (by show st.out.length+1<=_;omega),Kb];rfl
    ·rw[Kd (by rw[wa hz];decide),Kd hz,yk (by show(st.out.length+1)*8<=_;omega) (by show st.out.length+1<=_;omega),Kb];rfl
  ·rw[Kd h4] at hr;rw[Kd (by rw[wa h4];decide)];by_cases h5:x.kind=5
   ·rw[Kc h5] at hr;cases hr;rw[Kc (jI h5)];rfl
   ·rw[Kd h5] at hr;cases hr;rw[Kd (by rw[wa h5];decide)];rfl
variable{n:Nat}
theorem childOk_eq(hp:zm p=true)(hs:zF s=true):Qt p s=if zm (child p s)=true then child p s else emptyS:=by
 unfold Qt;rw[jV hp,hs]
 grind
theorem valid_ne(h:zm s=true):¬ s=(⟨[]⟩:Str):=λ e=>by rw[e,show zm _=false from Z] at h;cases h
theorem part_len(h:zF s=true):s.l.length<=3:=by
 unfold zF inR at h;simp[cmpI] at h
 grind
theorem value_eq(hdk:DiskOk d)(ht:Good d.tree)(hp:yu path)(hI:Y8 n I)(hL:zbH d mode path n R I)(h:Inv st)(hn:4*st.left.toNat+3<=n)(hsz:st.size<=20000)(hj:st.mods[j]?=some m)(hnm:zF nm=true){v:RSt×GVal×Int}(hv:zbB d path I st j nm=some v):
  (if(!(if cmpI .geq (aix m.attrs nm) 0=true then(val0 m.attrs (aix m.attrs nm),true) else((⟨0,0⟩:GVal),false)).2)=true then((ww m.name nm).bind λ a9=>
(atI (mach d mode path st).modules (j:Int)).bind λ _b7=>
((mach d mode path st).modules[(j:Int).toNat]?).bind λ b3=>
(gO ((cmpI .eql b3.x.kind (1:Int)||decide (a9=(⟨[]⟩:Str))) == false) (yj (mach d mode path st) a9)).bind λ b5=>
(gO (((cmpI .eql b3.x.kind (1:Int)||decide (a9=(⟨[]⟩:Str))) == false)&&(cmpI .lss b5 (0:Int) == true)) (xO (mach d mode path st) a9)).bind λ b6=>
if((cmpI .eql b3.x.kind (1:Int)||decide (a9=(⟨[]⟩:Str)))||(cmpI .lss b5 (0:Int)&&cmpI .eql b6.2.kind (0:Int)))=true then(some (.inr (.inr ((if(((cmpI .eql b3.x.kind (1:Int)||decide (a9=(⟨[]⟩:Str))) == false)&&(cmpI .lss b5 (0:Int) == true))=true then b6.1 else(mach d mode path st)),(2:Int)))))
else((R.impl_machine_load1 (if(((cmpI .eql b3.x.kind (1:Int)||decide (a9=(⟨[]⟩:Str))) == false)&&(cmpI .lss b5 (0:Int) == true))=true then b6.1 else(mach d mode path st)) a9).bind λ a8=>
if(cmpI .neq a8.2.2 (0:Int))=true then(some (.inr (.inr (a8.1,a8.2.2))))
else(some (.inl (a8.1,(⟨(1:Int),a8.2.1⟩:GVal))))))
else(some (.inl ((mach d mode path st),(if cmpI .geq (aix m.attrs nm) 0=true then(val0 m.attrs (aix m.attrs nm),true) else((⟨0,0⟩:GVal),false)).1))):Option ((Machine×GVal)⊕(Machine⊕(Machine×Int))))=some (if v.2.2=0 then .inl (mach d mode path v.1,v.2.1) else .inr (.inr (mach d mode path v.1,v.2.2))):=by
 have hi:=h.at_ hj;have hnl:=yp hi.2.1;have hnp:=part_len hnm;unfold zbB at hv;rw[WX hj,JW hj,zbU hj] at hv;cases hg:cmpI .geq (aix m.attrs nm) 0 with
 |true=>rw[Kc hg] at hv;cases hv;rfl
 |false=>
  rw[hg,Kd (by decide)] at hv;rw[Kz,Kc (show(!false)=true from Z),zay (by omega),Kb,childOk_eq hi.2.1 hnm,show(mach d mode path st).modules=bxs st.mods from Z,zz,Z2 hj,Kb,aj,Z2 hj,Kb];by_cases hc:m.kind=1\/zm (child m.name nm)=false
  ·rw[Kc hc] at hv;cases hv;have hd:(cmpI .eql m.kind (1:Int)||decide ((if zm (child m.name nm)=true then child m.name nm else emptyS)=(⟨[]⟩:Str)))=true:=by
    rcases hc with hc | hc
    ·rw[jI hc];rfl
    ·rw[hc,bB];exact .inr Z
   simp only;rw[hd,show(true == false)=false from Z,Zd,Kb,cl,Zd,Kb,Bool.true_or,Kc (show true=true from Z),Kd (by decide)];rfl
  ·rw[Kd hc] at hv;have hk1:=λ e=>hc (.inl e)
   have hvc:zm (child m.name nm)=true:=by cases e:zm _ with | true=>rfl | false=>exact absurd (.inr e) hc
   have hpl:=qB hvc;rw[Kc hvc];have hd:(cmpI .eql m.kind (1:Int)||decide (child m.name nm=(⟨[]⟩:Str)))=false:=by rw[wa hk1,cO (valid_ne hvc)];rfl
   have sm:=RSt.small hsz;have fin:∀ (st1:RSt) (q:RSt×Int×Int),R.impl_machine_load1 (mach d mode path st1) (child m.name nm)=some (mach d mode path q.1,q.2.1,q.2.2)->(R.impl_machine_load1 _ _).bind (λ a8=>if(cmpI .neq a8.2.2 (0:Int))=true then(some (.inr (.inr (a8.1,a8.2.2)))) else(some (.inl (a8.1,(⟨(1:Int),a8.2.1⟩:GVal)))))=some ((if q.2.2=0 then .inl _ else .inr _):_⊕(Machine⊕_)):=λ st1 q hld=>by
    rw[hld,Kb];by_cases he:q.2.2=0
    ·simp only;rw[he,Kd (by decide),Kc Z]
    ·simp only;rw[Kc (zaV he),Kd he]
   simp only;rw[hd,show(false == false)=true from Z,wr,JV sm.mods,Kb,br];simp only[c9];cases hl:cmpI .lss _ 0 with
   |true=>
    rw[Kc hl] at hv;have hlk:=zbR hdk h hp hvc;rw[show(true == true)=true from Z,wr,look_eq hdk ht hp h sm hvc,Kb,br];simp;by_cases hz:(XI d path st (child m.name nm)).2.kind=0
    ·rw[Kc hz] at hv;cases hv;rw[Kc (jI hz)];rfl
    ·rw[Kd hz] at hv;obtain⟨q,hq,hqp⟩:=hI _ _ hlk.inv hvc (by rw[hlk.left];omega);have hld:=hL _ _ q hlk.inv hvc (by rw[hlk.left];omega) (by rw[hlk.size];omega) hq;rw[hq,Kb] at hv;cases hv;rw[Kd (by rw[wa hz];decide)];exact fin _ q hld
   |false=>rw[hl,Kd (by decide)] at hv;obtain⟨q,hq,hqp⟩:=hI st _ h hvc (by omega);have hld:=hL st _ q h hvc (by omega) hsz hq;rw[hq,Kb] at hv;cases hv;rw[show(false == true)=false from Z,Zd,Kb,cl,Kd (by decide),Kd (by decide)];exact fin st q hld
theorem do_1(hdk:DiskOk d)(ht:Good d.tree)(hp:yu path)(hI:Y8 n I)(hL:zbH d mode path n R I)(h:Inv st)(hn:4*st.left.toNat+3<=n)(hsz:st.size<=19950)(hk:st.mods[k]?=some m)(hx:zL x=true)(hkd:x.kind=1)(hr:Y7 d path I st k x=some r):
  yO R (mach d mode path st) (k:Int) x=some (mach d mode path r.1,r.2):=by
 have hi:=h.at_ hk;have hsx:zf x.module=true/\0<=x.level/\x.level<=3:=by
  rcases XP hx with h1 | h1 | h1
  ·exact absurd h1.1 (by omega)
  ·exact⟨h1.2.1,h1.2.2.1,h1.2.2.2⟩
  ·exact absurd hkd h1.2.1
 have hnm:=zah hx (.inl hkd);unfold Y7 at hr;have hpk:zaF st k=if m.kind=1 then yb m.name else m.name:=by unfold zaF;rw[JW hk,zbU hk]
 rw[Kd (by omega),Kc hkd,hpk] at hr;have hpv:zf (if m.kind=1 then yb m.name else m.name)=true:=by
  split
  ·exact Qk (jV hi.2.1)
  ·exact jV hi.2.1
 unfold yO;rw[show(mach d mode path st).modules=bxs st.mods from Z,zz,Z2 hk,Kb,Kd (by rw[wa (by omega)];decide),Kc (jI hkd),aj,Z2 hk,Kb,packOf_eq hi.2.1,Kb,zfL hpv hsx.1 hsx.2.1 hsx.2.2,Kb];generalize Y5 _ x.level x.module=s1 at*;unfold orE;cases hv:zm s1 with
 |false=>rw[Kc hv] at hr;cases hr;rw[Kz,Kc (show decide _=true from Z)];rfl
 |true=>
  rw[Kd (by rw[hv];decide)] at hr;have hpl:=qB hv;obtain⟨q,hq,hqp⟩:=hI st s1 h hv (by omega);have hqs:=hqp.size;have hld:=hL st s1 q h hv (by omega) (by omega) hq;rw[hq,Kb] at hr;rw[Kc (show true=true from Z),Kd (by rw[cO (valid_ne hv)];decide),hld,Kb];by_cases he:q.2.2=0
  ·rw[Kd (by simp[he])] at hr;obtain⟨m',hm'⟩:=hqp.grow.at_ hk;obtain⟨m2,hm2,hmn,h0⟩:=hqp.good he;have hi2:=hqp.inv.at_ hm2;have hlq:=hqp.grow.left;obtain⟨j,hj⟩:∃ j:Nat,q.2.1=j:=⟨_,(bE h0).symm⟩;rw[hj,aj] at hm2;rw[hj,aj] at hr;have hn':4*q.1.left.toNat+3<=n:=by have:=h.left;have:=hqp.inv.left;omega
   obtain⟨v,hve,hvb⟩:=value_ok hdk hp hI hqp.inv hn' j x.name hnm;have hval:=value_eq hdk ht hp hI hL hqp.inv hn' (by omega) hm2 hnm hve;rw[hmn] at hval;rw[hve,Kb] at hr;obtain⟨m3,hm3⟩:=hvb.grow.at_ hm';simp only;rw[he,Kd (by decide),hj,show(mach d mode path q.1).modules=bxs q.1.mods from Z,zz,Z2 hm2,Kb,aj,Z2 hm2,Kb,attr_eq' hi2.2.2.1,Kb,Kb];rw[show(mach d mode path q.1).modules=bxs q.1.mods from Z,zz,aj,Z2 hm2] at hval;dsimp only at hval ⊢;rw[hval];by_cases hz:v.2.2=0
   ·rw[Kc hz];rw[Kd (by simp[hz])] at hr;cases hr;have:=give_at (d:=d) (mode:=mode) (path:=path) hvb.inv hm3 x.name v.2.1 (λ mm=>(Sum.inl mm:Machine⊕(Machine×Int)));simp;refine(bz (λ o=>Option.bind o _) this).trans ?_;rfl
   ·rw[Kd hz];rw[Kc hz] at hr;cases hr;rfl
  ·rw[Kc he] at hr;cases hr;simp only;rw[Kc (zaV he)];rfl
theorem do_eq(hdk:DiskOk d)(ht:Good d.tree)(hp:yu path)(hI:Y8 n I)(hL:zbH d mode path n R I)(h:Inv st)(hn:4*st.left.toNat+3<=n)(hsz:st.size<=19950)(hk:st.mods[k]?=some m)(hx:zL x=true)(hr:Y7 d path I st k x=some r):
  yO R (mach d mode path st) (k:Int) x=some (mach d mode path r.1,r.2):=by
 by_cases h0:x.kind=0
 ·exact do_0 hI hL h hn hsz hk hx h0 hr
 ·by_cases h1:x.kind=1
  ·exact do_1 hdk ht hp hI hL h hn hsz hk hx h1 hr
  ·by_cases h2:x.kind=2
   ·exact do_2 hI hL h hn hsz hk hx h2 hr
   ·exact do_3 h hsz hk ⟨h0,h1,h2⟩ hr
variable{n:Nat}
def DoEq(d:Disk)(mode:Int)(path:List Int)(n:Nat)(R:Rec)(I:RImp):Prop:=
 ∀ (st:RSt) (k:Nat) (m:GMod) (x:Stmt) (r:RSt×Int),Inv st->st.mods[k]?=some m->zL x=true->4*st.left.toNat+3<=n->st.size<=19950->Y7 d path I st k x=some r->R.impl_machine_do (mach d mode path st) (k:Int) x=some (mach d mode path r.1,r.2)
def RSt.tick(st:RSt):RSt:={ st with left:=st.left - 1 }
theorem Inv.tick(h:Inv st)(hz:¬ st.left=0):Inv st.tick:=⟨h.names,h.roots,h.parts,h.apart,by have:=h.left;show(0:Int)<=st.left - 1;omega,h.fin,h.sto⟩
theorem size_tick(h:Inv st)(hz:¬ st.left=0):st.tick.size+100=st.size:=by
 unfold RSt.size RSt.tick;have:=h.left
 grind
theorem body_loop(hdk:DiskOk d)(hp:yu path)(hI:Y8 n I)(hD:DoEq d mode path n R I)(k:Nat)(l:List Stmt)(sl:FLt)(hl:∀ x∈l,zL x=true)(hlen:l.length<1000000000):∀ (m i:Nat) (st:RSt) (r:RSt×Int),i+m=l.length->Inv st->(∃ mm,st.mods[k]?=some mm)->4*st.left.toNat<=n+1->st.left<=1000000->st.size<=20050->zaU d path I k (l.drop i) st=some r->
  jr (λ a8=>yy R (k:Int) (sl,l) a8) (m+1) (mach d mode path st,(0:Int),(i:Int))=some (mach d mode path r.1,r.2)
 |0,i,st,r,hi,_,_,_,_,_,hr=>by
  have:i=l.length:=by omega
  subst this;rw[bR] at hr;unfold zaU at hr;cases hr;refine yY ?_;unfold yy;simp only;rw[zx,Kd (by simp)]
 |m+1,i,st,r,hi,h,⟨mm,hmm⟩,hn,hle,hsz,hr=>by
  have hlt:i<l.length:=by omega
  have hx:l[i]?=some l[i]:=aa hlt;have hv:=hl l[i] (bi hlt);rw[bh hlt] at hr;unfold zaU at hr;have hl0:=h.left;by_cases hz:st.left=0
  ·rw[Kc hz] at hr;cases hr;refine yY ?_;unfold yy;simp only;rw[zx,Kc (ab hlt),zz,hx,Kb,show(mach d mode path st).left=st.left from Z,Kc (jI hz)]
  ·rw[Kd hz] at hr;have ht:=h.tick hz;have hts:=size_tick h hz;have htl:st.tick.left=st.left - 1:=rfl;obtain⟨q,hq,hb⟩:=stmt_ok hdk hp hI ht (by rw[htl];omega) k hv;have hbs:=hb.size;have hbl:=hb.grow.left;have hbi:=hb.inv.left;obtain⟨m2,hm2⟩:=hb.grow.at_ (show st.tick.mods[k]?=some mm from hmm);have hd:=hD st.tick k mm l[i] q ht hmm hv (by rw[htl];omega) (by omega) hq;rw[show Y7 d path I { st with left:=st.left - 1 } k l[i]=some q from hq,Kb] at hr;have hs:yy R (k:Int) (sl,l) (mach d mode path st,(0:Int),(i:Int))=some (if q.2≠0 then .inr (mach d mode path q.1,q.2) else .inl (mach d mode path q.1,q.2,((i+1:Nat):Int))):=by
    unfold yy;simp only;rw[zx,Kc (ab hlt),zz,hx,Kb,show(mach d mode path st).left=st.left from Z,Kd (by rw[wa hz];decide),xb (by omega) (by omega),Kb,
     show({ mach d mode path st with left:=st.left - 1 }:Machine)=mach d mode path st.tick from Z,hd,Kb,zG (by omega),Kb]
    by_cases he:q.2=0
    ·simp only;rw[he,Kd (by decide),Kd (by simp)]
    ·simp only;rw[Kc (zaV he),Kc he]
   by_cases he:q.2=0
   ·rw[Kd (by simp[he])] at hr;rw[Kd (by simp[he]),he] at hs;rw[jD hs];exact body_loop hdk hp hI hD k l sl hl hlen m (i+1) q.1 r (by omega) hb.inv ⟨m2,hm2⟩ (by rw[htl] at hbl;omega) (by rw[htl] at hbl;omega) (by omega) hr
   ·rw[Kc he] at hr;cases hr;rw[Kc he] at hs;exact yY hs
theorem body_eq(hdk:DiskOk d)(ht:Good d.tree)(hm2:inR mode 0 2=true)(hp:yu path)(hI:Y8 n I)(hD:DoEq d mode path n R I)(h:Inv st)(hn:4*st.left.toNat<=n+1)(hle:st.left<=1000000)(hsz:st.size<=20040)(hk:st.mods[k]?=some m){sp:Spec}(hf:sp.file<0\/∃ f,d.tree.files[sp.file.toNat]?=some f)(hr:runF d mode path I (st.note 0 m.name) k sp=some r):
  Zx R (mach d mode path st) (k:Int) sp=some (mach d mode path (r.1.note (if r.2=0 then 1 else 2) m.name),r.2):=by
 have sm:=RSt.small hsz;have hi:Inv (st.note 0 m.name):=h.note _ _;have hnz:(st.note 0 m.name).size=st.size+1:=by unfold RSt.size RSt.note;simp;omega
 obtain⟨q,hq,hb⟩:=run_ok hdk hm2 hp hI hi (by exact hn) k sp hf;rw[hq] at hr;injection hr with hr;subst hr;have hqs:=hb.size;have smq:=RSt.small (st:=q.1) (n:=20050) (by omega);have hrun:(if(cmpI .geq sp.file (0:Int))=true then((atI d.tree.files sp.file).bind λ a9=>(c_load (ld mode st.sto) a9).bind λ a8=>zE (λ b3=>yy R (k:Int) a8 b3) ((⟨d.tree,(mach d mode path (st.note 0 m.name)).path,(mach d mode path (st.note 0 m.name)).known,a8.1,(mach d mode path (st.note 0 m.name)).modules,(mach d mode path (st.note 0 m.name)).out,(mach d mode path (st.note 0 m.name)).log,(mach d mode path (st.note 0 m.name)).part,(mach d mode path (st.note 0 m.name)).left⟩:Machine),(0:Int),(0:Int))) else(some (mach d mode path (st.note 0 m.name),(0:Int))))=some (mach d mode path q.1,q.2):=by
  unfold runF at hq;cases hg:cmpI .geq sp.file 0 with
  |false=>rw[hg,Kd (by decide)] at hq;cases hq;rw[Kd (by decide)]
  |true=>
   have h0:=oD hg;rw[hg,Kc (show true=true from Z)] at hq;obtain⟨f,hf⟩:=hf.resolve_left (by omega);have hfm:=ac hf;have hfv:=jw ht.ok hfm;have hfs:=ht.sm.2 f hfm;rw[show zbu d.tree.files sp.file=f by unfold zbu;rw[hf];rfl] at hq;obtain⟨l1,l2⟩:=load_ok h.sto hfv hm2;have hbv:=zcU l2;have hbl:(Qm st.sto f mode).1.length<=8:=by
    unfold zO at l2;simp[cmpI] at l2;omega
   have hi3:Inv (loadR mode (st.note 0 m.name) f).1:=⟨h.names,h.roots,h.parts,h.apart,h.left,h.fin,l1⟩;rw[Kc (show true=true from Z),show atI d.tree.files sp.file=some f by rw[← bE h0,zz,hf],Kb,c_load_eq h.sto hfv hfs hm2,Kb];exact Z1 (m:=(Qm st.sto f mode).1.length+1) (body_loop hdk hp hI hD k _ _ hbv (by omega) _ 0 (loadR mode _ f).1 q (by omega) hi3 ⟨m,hk⟩ hn hle (by show(st.note 0 m.name).size<=_;omega) (by rw[bN];exact hq)) (by omega)
 unfold Zx;rw[show(mach d mode path st).modules=bxs st.mods from Z,zz,Z2 hk,Kb,aj,Z2 hk,Kb,zdZ sm.log,Kb];rw[show(mach d mode path _).t=d.tree from Z,show(mach d mode path (st.note 0 m.name)).load=ld mode st.sto from Z,hrun,Kb];by_cases he:q.2=0
 ·simp only;rw[Kc (jI he),Kc he,zdZ smq.log];rfl
 ·simp only;rw[Kd (by rw[wa he];decide),Kd he,zdZ smq.log];rfl
theorem cix_empty(h:Inv st):cix st emptyS=-1:=by
 rcases Xm st emptyS with h1 | ⟨k,m,_,h2,h3,_⟩
 ·exact h1.1
 ·have:=h.names m (ac h2);rw[h3] at this;cases this
theorem set_fail(hm:st.mods[k]?=some m)(s:Str):({ mach d mode path (st.note 2 s) with modules:=(bxs st.mods).set k ⟨{ m with cached:=false }⟩ }:Machine)=mach d mode path (st.fail k s):=by
 rw[zdY];unfold RSt.fail;rw[JR _ hm];rfl
theorem set_done(hm:st.mods[k]?=some m)(s:Str):({ mach d mode path (st.note 1 s) with modules:=(bxs st.mods).set k ⟨{ m with done:=true }⟩ }:Machine)=mach d mode path (st.done k s):=by
 rw[zdY];unfold RSt.done;rw[JR _ hm];rfl
variable{n:Nat}
def BodyEq(d:Disk)(mode:Int)(path:List Int)(n:Nat)(R:Rec)(I:RImp):Prop:=
 ∀
  (st:RSt) (k:Nat) (m:GMod) (sp:Spec) (r:RSt×Int),Inv st->4*st.left.toNat<=n+1->st.left<=1000000->st.size<=20040->st.mods[k]?=some m->(sp.file<0\/∃ f,d.tree.files[sp.file.toNat]?=some f)->runF d mode path I (st.note 0 m.name) k sp=some r->
  R.impl_machine_body (mach d mode path st) (k:Int) sp=some (mach d mode path (r.1.note (if r.2=0 then 1 else 2) m.name),r.2)
def RSt.grown(st:RSt)(s:Str)(sp:Spec):RSt:={ st with mods:=st.mods++[⟨s,sp.kind,sp.roots,true,false,[]⟩] }
theorem load_new(hdk:DiskOk d)(ht:Good d.tree)(hm2:inR mode 0 2=true)(hp:yu path)(hI:Y8 n I)(hB:BodyEq d mode path n R I)(h:Inv st)(hn:4*st.left.toNat<=n+1)(hle:st.left<=1000000)(hsz:st.size<=20020)(hs:zm s=true){r:RSt×Int×Int}(hr:newF d mode path I (XI d path st s).1 s (XI d path st s).2=some r):
  ((xO (mach d mode path st) s).bind λ a8=>
if(cmpI .eql a8.2.kind (0:Int))=true then(some (a8.1,(-1:Int),(1:Int)))
else((appO 8 [] a8.2.roots).bind λ d2=>
(appO 8 a8.1.modules [⟨(⟨s,a8.2.kind,d2,true,false,[]⟩:GMod)⟩]).bind λ d3=>
(R.impl_machine_body ({ a8.1 with modules:=d3 }) (a8.1.modules.length:Int) a8.2).bind λ a9=>
if(cmpI .neq a9.2 (0:Int))=true then((a9.1.modules[a8.1.modules.length]?).bind λ b9=>
some ({ a9.1 with modules:=(a9.1.modules.set a8.1.modules.length ⟨{ b9.x with cached:=false }⟩) },(-1:Int),a9.2))
else((a9.1.modules[a8.1.modules.length]?).bind λ b3=>
Option.bind (α:=Machine) ((yj ({ a9.1 with modules:=(a9.1.modules.set a8.1.modules.length ⟨{ b3.x with done:=true }⟩) }) (yb s)).bind λ b5=>
if(decide (yb s≠(⟨[]⟩:Str))&&cmpI .geq b5 (0:Int))=true then((atI (a9.1.modules.set a8.1.modules.length ⟨{ b3.x with done:=true }⟩) b5).bind λ _c8=>
(jS s).bind λ b6=>
((a9.1.modules.set a8.1.modules.length ⟨{ b3.x with done:=true }⟩)[b5.toNat]?).bind λ b7=>
(yE b7.x b6 (⟨(1:Int),(a8.1.modules.length:Int)⟩:GVal)).bind λ b8=>
some ({ a9.1 with modules:=((a9.1.modules.set a8.1.modules.length ⟨{ b3.x with done:=true }⟩).set b5.toNat ⟨b8⟩) }))
else(some ({ a9.1 with modules:=(a9.1.modules.set a8.1.modules.length ⟨{ b3.x with done:=true }⟩) }))) λ d1=>
some (d1,(a8.1.modules.length:Int),(0:Int)))))=some (mach d mode path r.1,r.2.1,r.2.2):=by
 have sm:=RSt.small hsz;obtain⟨li,lm,ll,lz,_,hlr,hlf⟩:=zbR hdk h hp hs;rw[look_eq hdk ht hp h sm hs,Kb];unfold newF at hr;generalize XI d path st s=w at*;obtain⟨st,sp⟩:=w;dsimp only at li lm ll lz hlr hlf hr ⊢;rw[← ll] at hn hle;rw[← lz] at hsz
 clear h sm lm ll lz
 have h:=li;have sm:=RSt.small hsz;by_cases hk:sp.kind=0
 ·rw[Kc hk] at hr;cases hr;rw[Kc (jI hk)]
 ·rw[Kd hk] at hr;have hgi:Inv (st.grown s sp):=⟨(h.begin hs hlr).names,(h.begin hs hlr).roots,(h.begin hs hlr).parts,(h.begin hs hlr).apart,h.left,h.fin,h.sto⟩;have hgz:(st.grown s sp).size=st.size+1:=by unfold RSt.size RSt.grown;simp;omega
  have hgm:(st.grown s sp).mods[st.mods.length]?=some ⟨s,sp.kind,sp.roots,true,false,[]⟩:=by unfold RSt.grown;simp
  have hbz:(st.begin s sp).size=st.size+2:=by unfold RSt.size RSt.begin;simp;omega
  obtain⟨q,hq,hb⟩:=run_ok hdk hm2 hp hI (h.begin hs hlr) (by exact hn) st.mods.length sp hlf;have hqs:=hb.size;rw[hq,Kb] at hr;have hbody:=hB _ st.mods.length _ sp q hgi (by exact hn) hle (by omega) hgm hlf hq;obtain⟨m,hm⟩:=hb.grow.at_ (show(st.begin s sp).mods[st.mods.length]?=some ⟨s,sp.kind,sp.roots,true,false,[]⟩ by unfold RSt.begin;simp);have hlen:(bxs st.mods).length=st.mods.length:=bxs_len _;have hrl:=hlr.1;rw[Kd (by rw[wa hk];decide),yk (by simp;omega) (by simp;omega),Kb,bc,show(mach d mode path st).modules=bxs st.mods from Z,yk (by rw[hlen];have:=sm.mods;show(st.mods.length+1)*8<=_;omega) (by rw[hlen];have:=sm.mods;show st.mods.length+1<=_;omega),Kb,bxs_app,hlen,
   show({ mach d mode path st with modules:=bxs (st.mods++[⟨s,sp.kind,sp.roots,true,false,[]⟩]) }:Machine)=mach d mode path (st.grown s sp) from Z,hbody,Kb]
  by_cases he:q.2=0
  ·rw[Kd (by simp[he])] at hr;cases hr;simp only;rw[he,Kd (by decide),Kc Z,show ∀ (z:RSt),(mach d mode path z).modules=bxs z.mods from λ _=>Z,show(q.1.note 1 s).mods=q.1.mods from Z,Z2 hm,Kb];have hsd:=set_done (d:=d) (mode:=mode) (path:=path) hm s;have hmd:(bxs q.1.mods).set st.mods.length ⟨{ m with done:=true }⟩=bxs (q.1.done st.mods.length s).mods:=by
    rw[zdY];unfold RSt.done;rw[JR _ hm]
   have hid:=hb.inv.done st.mods.length s;have hdz:(q.1.done st.mods.length s).size=q.1.size+1:=by unfold RSt.size RSt.done;simp[zbA];omega
   rw[hmd,show({ mach d mode path _ with modules:=bxs (q.1.done st.mods.length s).mods }:Machine)=mach d mode path _ by rw[← hmd];exact hsd];rw[JV (RSt.small (n:=20100) (by omega)).mods,Kb];have hfin:((if(decide (yb s≠(⟨[]⟩:Str))&&cmpI .geq (cix (q.1.done st.mods.length s) (yb s)) (0:Int))=true then((atI (bxs (q.1.done st.mods.length s).mods) (cix (q.1.done st.mods.length s) (yb s))).bind λ c8=>
     (jS s).bind λ b6=>
     ((bxs (q.1.done st.mods.length s).mods)[(cix (q.1.done st.mods.length s) (yb s)).toNat]?).bind λ b7=>
     (yE b7.x b6 (⟨(1:Int),(st.mods.length:Int)⟩:GVal)).bind λ b8=>
     some ({ mach d mode path (q.1.note 1 s) with modules:=((bxs (q.1.done st.mods.length s).mods).set (cix (q.1.done st.mods.length s) (yb s)).toNat ⟨b8⟩) }:Machine))
     else(some (mach d mode path (q.1.done st.mods.length s)))):Option Machine)=some (mach d mode path ((q.1.done st.mods.length s).tell st.mods.length s)):=by
    unfold RSt.tell;rcases Xm _ _ with⟨h1,_⟩ | ⟨k,m2,h1,h2,h3,_⟩
    ·rw[h1,geq_m1,Bool.and_false,Kd (by decide),Kd (by decide)]
    ·have hne:¬ yb s=(⟨[]⟩:Str):=λ e=>by
      have:=cix_empty hid;rw[show emptyS=yb s from e.symm,h1] at this;omega
     rw[h1,Yc,ab hne,br,Kc (show true=true from Z),Kc (show true=true from Z),zz,Z2 h2,Kb,LastOf_eq hs,Kb,aj,Z2 h2,Kb,give_eq (hid.at_ h2).2.2.1,Kb,zdY,set_give h2];rfl
   rw[hfin,Kb]
  ·rw[Kc he] at hr;cases hr;simp only;rw[Kc (zaV he),Kd he,show ∀ (z:RSt),(mach d mode path z).modules=bxs z.mods from λ _=>Z,show(q.1.note 2 s).mods=q.1.mods from Z,Z2 hm,Kb,set_fail hm s]
theorem load_eq(hdk:DiskOk d)(ht:Good d.tree)(hm2:inR mode 0 2=true)(hp:yu path)(hI:Y8 n I)(hL:zbH d mode path n R I)(hB:BodyEq d mode path n R I)(h:Inv st)(hs:zm s=true)(hn:4*st.left.toNat+(zB s dot).length<=n+1)(hle:st.left<=1000000)(hsz:st.size<=20000){r:RSt×Int×Int}(hr:impF d mode path I st s=some r):
  qV R (mach d mode path st) s=some (mach d mode path r.1,r.2.1,r.2.2):=by
 have sm:=RSt.small hsz;have hpp:=X6 s;have hpl:=qB hs;unfold impF at hr;unfold qV;rw[JV sm.mods,Kb];rcases Xm st s with⟨h1,_⟩ | ⟨k,m,h1,h2,h3,_⟩
 ·rw[h1,Kd (by decide)] at hr;rw[h1,Kd (by decide),Qx hs,Kb];by_cases he:yb s=emptyS
  ·rw[Kc he,Kb,Kd (by simp)] at hr;simp only at hr;rw[h1,Kd (by decide)] at hr;rw[Kd (by rw[show yb s=_ from he];decide),Kb,dH];exact load_new hdk ht hm2 hp hI hB h (by omega) hle (by omega) hs hr
  ·have he':¬ yb s=(⟨[]⟩:Str):=he;obtain⟨e1,e2⟩:=Xk hs he;obtain⟨q,hq,hqp⟩:=hI st _ h e2 (by omega);have hqs:=hqp.size;have hql:=hqp.grow.left;have hqi:=hqp.inv.left;have hl0:=h.left;have hld:=hL st _ q h e2 (by omega) hsz hq;rw[Kd he,hq,Kb] at hr;rw[Kc (by rw[ab he']),hld,Kb];by_cases hz:q.2.2=0
   ·rw[Kd (by simp[hz])] at hr;simp only;rw[hz,Kd (by decide),JV (RSt.small (n:=20100) (by omega)).mods,Kb];rcases Xm q.1 s with⟨k1,_⟩ | ⟨k,m,k1,k2,k3,_⟩
    ·rw[k1,Kd (by decide)] at hr;rw[k1,Kd (by decide),Kb,dH];exact load_new hdk ht hm2 hp hI hB hqp.inv (by omega) (by omega) (by omega) hs hr
    ·have smq:=RSt.small (st:=q.1) (n:=20100) (by omega);rw[k1,Kc (Yc k),aj] at hr;cases hr;rw[k1,Kc (Yc k),hit_eq smq.log smq.part k2,Kb,k3];rfl
   ·rw[Kc hz] at hr;cases hr;simp only;rw[Kc (zaV hz)];rfl
 ·rw[h1,Kc (Yc k),aj] at hr;cases hr;rw[h1,Kc (Yc k),hit_eq sm.log sm.part h2,Kb,h3]
theorem left_of(_h:Inv st){z:Nat}(hz:st.size<=z)(hh:z<=100000:=by decide):st.left<=1000000:=by
 unfold RSt.size at hz
 grind
theorem body_of(hdk:DiskOk d)(ht:Good d.tree)(hm2:inR mode 0 2=true)(hp:yu path){M:Nat}(hL:zbH d mode path k (scc M) (imp d mode path k)):BodyEq d mode path k (scc (M+2)) (imp d mode path k):=
 have hI:=zcV hdk hm2 hp k;have hD:DoEq d mode path k _ _:=λ _ _ _ _ _ h hm hx hn hsz hr=>do_eq hdk ht hp hI hL h hn hsz hm hx hr
 λ _ _ _ _ _ h hn hle hsz hm hf hr=>body_eq hdk ht hm2 hp hI hD h hn hle hsz hm hf hr
theorem scc_load(hdk:DiskOk d)(ht:Good d.tree)(hm2:inR mode 0 2=true)(hp:yu path):∀ (k N:Nat),3*k<=N->zbH d mode path k (scc N) (imp d mode path k)
 | 0,_,_=>λ _ _ _ _ _ _ _ hr=>by cases hr
 |k+1,N,hN=>λ st s r h hs hn hsz hr=>by
  obtain⟨M,rfl⟩:∃ M,N=M+3:=⟨N - 3,by omega⟩;exact load_eq hdk ht hm2 hp (zcV hdk hm2 hp k) (scc_load hdk ht hm2 hp k (M+2) (by omega)) (body_of hdk ht hm2 hp (scc_load hdk ht hm2 hp k M (by omega))) h hs hn (left_of h hsz) hsz hr
