import Derived.Test.YtbbfcjifihknnaaGreatDoorRP
import Derived.Test.YtbbfcjifihknnaaGreatDoorRN
namespace Go.Proofs.YtbbfcjifihknnaaGreatDoor
open Go.RowKit
variable{d:Disk}{c:GCmd}{m:GMod}{f:GMod->GMod}{a b e:Int}{l:List GCmd}{o path roots rs:List Int}{M i j k:Nat}{R:Rec}{x:Stmt}{nm p s:Str}{t:Tree}
structure RSt where
 mods:List GMod
 log:List GEvent
 out:List Int
 left:Int
 part:List Str
variable{st:RSt}{v:RSt×GVal×Int}{q r:RSt×Int}
def hits(s:Str)(m:GMod):Bool:=decide (m.name=s)&&m.cached
def cix(st:RSt)(s:Str):Int:=xP (hits s) st.mods
def aix(l:List GAttr)(s:Str):Int:=xP (λ a=>decide (a.name=s)) l
def updA{α:Type}(l:List α)(k:Nat)(f:α->α):List α:=match l[k]? with | some x=>l.set k (f x) | none=>l
theorem q6{α:Type}{l:List α}{x:α}(f:α->α)(h:l[k]?=some x):updA l k f=l.set k (f x):=by unfold updA;rw[h]
theorem WE{α:Type}(l:List α)(k:Nat)(f:α->α):(updA l k f).length=l.length:=by unfold updA;split <;> simp
theorem updA_get{α:Type}{l:List α}{f:α->α}(i:Nat):(updA l k f)[i]?=if i=k then l[k]?.map f else l[i]?:=by
 unfold updA;split
 ·rename_i x hx;by_cases e:i=k
  ·subst e;have:=zG hx;rw[Ke Z,hx,List.getElem?_set_self this];rfl
  ·rw[Kf e,List.getElem?_set_ne (λ h=>e h.symm)]
 ·rename_i hx;by_cases e:i=k
  ·subst e;simp[hx]
  ·rw[Kf e]
def Za(l:List GAttr)(s:Str)(v:GVal):List GAttr:=if cmpI .geq (aix l s) 0=true then updA l (aix l s).toNat (λ a=>{ a with value:=v }) else l++[⟨s,v⟩]
def RSt.note(st:RSt)(k:Int)(s:Str):RSt:={ st with log:=st.log++[⟨k,s⟩] }
def RSt.doneAt(st:RSt)(k:Nat):Bool:=((st.mods[k]?).map (·.done)).getD false
def RSt.hit(st:RSt)(k:Nat)(s:Str):RSt:={ st with log:=st.log++[⟨3,s⟩],part:=if st.doneAt k=false/\s ∉ st.part then st.part++[s] else st.part }
def RSt.give(st:RSt)(at_:Nat)(s:Str)(v:GVal):RSt:={ st with mods:=updA st.mods at_ (λ m=>{ m with attrs:=Za m.attrs s v }) }
def RSt.begin(st:RSt)(s:Str)(sp:Spec):RSt:={ st with mods:=st.mods++[⟨s,sp.kind,sp.roots,true,false,[]⟩],log:=st.log++[⟨0,s⟩] }
def RSt.fail(st:RSt)(at_:Nat)(s:Str):RSt:={ st with mods:=updA st.mods at_ (λ m=>{ m with cached:=false }),log:=st.log++[⟨2,s⟩] }
def RSt.done(st:RSt)(at_:Nat)(s:Str):RSt:={ st with mods:=updA st.mods at_ (λ m=>{ m with done:=true }),log:=st.log++[⟨1,s⟩] }
def RSt.tell(st:RSt)(at_:Nat)(s:Str):RSt:=if cmpI .geq (cix st (zF s)) 0=true then st.give (cix st (zF s)).toNat (je s) ⟨1,(at_:Int)⟩ else st
def RSt.kindAt(st:RSt)(k:Nat):Int:=((st.mods[k]?).map (·.kind)).getD 0
def RSt.rootsAt(st:RSt)(k:Nat):List Int:=((st.mods[k]?).map (·.roots)).getD []
def RSt.attrsAt(st:RSt)(k:Nat):List GAttr:=((st.mods[k]?).map (·.attrs)).getD []
def RSt.nameAt(st:RSt)(k:Nat):Str:=((st.mods[k]?).map (·.name)).getD emptyS
def wg(t:Tree)(path:List Int)(st:RSt)(s:Str):Spec:=
 if zF s=emptyS then ZH t.files path emptyS s
 else if cmpI .lss (cix st (zF s)) 0=true then zbY
 else if st.kindAt (cix st (zF s)).toNat=1 then zbY
 else ZH t.files (st.rootsAt (cix st (zF s)).toNat) (zF s) (je s)
def ZB(s:Str):Str:=(zx s dot).headD emptyS
section
variable(t:Tree)(path:List Int)
abbrev RImp:=RSt->Str->Option (RSt×Int×Int)
def starF(at_:Nat)(l:List GAttr)(st:RSt):RSt:=l.foldl (λ st a=>if(a.name.l.headD 0 == 122)=true then st else st.give at_ a.name a.value) st
def JX(st:RSt)(at_:Nat):Str:=if st.kindAt at_=1 then zF (st.nameAt at_) else st.nameAt at_
def QP(I:RImp)(st:RSt)(k:Nat)(s:Str):Option (RSt×GVal×Int):=
 if cmpI .geq (aix (st.attrsAt k) s) 0=true then some (st,(((st.attrsAt k)[(aix (st.attrsAt k) s).toNat]?).map (·.value)).getD ⟨0,0⟩,0)
 else if st.kindAt k=1\/zm (child (st.nameAt k) s)=false then some (st,⟨0,0⟩,2)
 else if cmpI .lss (cix st (child (st.nameAt k) s)) 0=true/\(wg t path st (child (st.nameAt k) s)).kind=0 then some (st,⟨0,0⟩,2)
 else(I st (child (st.nameAt k) s)).bind λ r=>some (r.1,⟨1,r.2.1⟩,r.2.2)
def Z2(I:RImp)(st:RSt)(at_:Nat)(x:Stmt):Option (RSt×Int):=
 if x.kind=0 then(I st x.module).bind λ r=>
  if r.2.2≠0 then some (r.1,r.2.2) else if cmpI .lss (cix r.1 (ZB x.module)) 0=true then some (r.1,1) else some (r.1.give at_ (ZB x.module) ⟨1,cix r.1 (ZB x.module)⟩,0)
 else if x.kind=1 then
  if zm (Z1 (JX st at_) x.level x.module)=false then some (st,5) else
  (I st (Z1 (JX st at_) x.level x.module)).bind λ r=>if r.2.2≠0 then some (r.1,r.2.2) else
  (QP t path I r.1 r.2.1.toNat x.name).bind λ q=>if q.2.2≠0 then some (q.1,q.2.2) else some (q.1.give at_ x.name q.2.1,0)
 else if x.kind=2 then(I st x.module).bind λ r=>
  if r.2.2≠0 then some (r.1,r.2.2) else some (starF at_ (r.1.attrsAt r.2.1.toNat) r.1,0)
 else if x.kind=3 then some (st.give at_ x.name ⟨0,x.value⟩,0)
 else if x.kind=4 then
  if cmpI .lss (aix (st.attrsAt at_) x.name) 0=true then some (st,3) else
  some ({ st with out:=st.out++[(let v:=(((st.attrsAt at_)[(aix (st.attrsAt at_) x.name).toNat]?).map (·.value)).getD ⟨0,0⟩;if v.kind=1 then -1 else v.num)] },0)
 else if x.kind=5 then some (st,4)
 else some (st,0)
def J8(I:RImp)(at_:Nat):List Stmt->RSt->Option (RSt×Int)
 | [],st=>some (st,0)
 | x::xs,st=>if st.left=0 then some (st,6) else(Z2 t path I { st with left:=st.left - 1 } at_ x).bind λ r=>if r.2≠0 then some r else J8 I at_ xs r.1
def runF(I:RImp)(st:RSt)(at_:Nat)(sp:Spec):Option (RSt×Int):=if cmpI .geq sp.file 0=true then J8 t path I at_ (W8 t.files sp.file).body st else some (st,0)
def newF(I:RImp)(st:RSt)(s:Str)(sp:Spec):Option (RSt×Int×Int):=
 if sp.kind=0 then some (st,-1,1) else
 (runF t path I (st.begin s sp) st.mods.length sp).bind λ r=>
  if r.2≠0 then some (r.1.fail st.mods.length s,-1,r.2) else some ((r.1.done st.mods.length s).tell st.mods.length s,(st.mods.length:Int),0)
def impF(I:RImp)(st:RSt)(s:Str):Option (RSt×Int×Int):=
 if cmpI .geq (cix st s) 0=true then some (st.hit (cix st s).toNat s,cix st s,0) else
 (if zF s=emptyS then some (st,0,0) else I st (zF s)).bind λ r=>
  if r.2.2≠0 then some (r.1,-1,r.2.2) else
  if cmpI .geq (cix r.1 s) 0=true then some (r.1.hit (cix r.1 s).toNat s,cix r.1 s,0) else newF t path I r.1 s (wg t path r.1 s)
def imp:Nat->RImp
 | 0=>λ _ _=>none
 | n+1=>impF t path (imp n)
end
variable{I:RImp}
theorem zcl{α:Type}{p:α->Bool}{l:List α}(h:cmpI .geq (xP p l) 0=true):∃ x,l[(xP p l).toNat]?=some x/\p x=true/\0<=xP p l:=by
 rw[lss_geq] at h;have h':cmpI .lss (xP p l) 0=false:=by simpa using h
 obtain⟨x,h1,h2⟩:=idxOf_some h';exact⟨x,h1,h2,by simpa[cmpI] using h'⟩
theorem YU(s:Str):1<=(zx s dot).length:=by have:=Qh s dot;omega
theorem jN(h:zm s=true):(zx s dot).length<=3:=(jV h).2
theorem Xg(h:zm s=true)(hp:zF s≠emptyS):(zx (zF s) dot).length+1=(zx s dot).length/\zm (zF s)=true:=by
 obtain⟨h1,h2⟩:=jV h;have h0:=YU s;by_cases e:(zx s dot).length=1
 ·exfalso
  apply hp;unfold zF;rw[e];rfl
 ·have hne:(zx s dot).take ((zx s dot).length - 1)≠[]:=λ e1=>by
   have:=congrArg List.length e1;rw[List.length_take,List.length_nil] at this;omega
  have hv:∀ x∈(zx s dot).take ((zx s dot).length - 1),zB x=true:=λ x hx=>h1 x (List.mem_of_mem_take hx)
  constructor
  ·unfold zF;rw[zdn hne hv,List.length_take];omega
  ·exact zdo hne (by rw[List.length_take];omega) hv
theorem JY(h:zm s=true):zB (je s)=true:=(jV h).1 _ (List.mem_of_getElem? (last_get s))
theorem first_valid(h:zm s=true):zB (ZB s)=true:=by
 unfold ZB;have h1:=(jV h).1;have h0:=YU s;cases hs:zx s dot with
 | nil=>rw[hs] at h0;simp at h0
 | cons a l=>exact h1 a (by rw[hs];exact List.mem_cons_self ..)
theorem YV(h:zW x=true)(hk:x.kind=0\/x.kind=2):zm x.module=true:=by
 rcases YE h with h1 | h1 | h1
 ·exact h1.2
 ·omega
 ·omega
theorem Jv(h:zW x=true)(hk:x.kind=1\/x.kind=3\/x.kind=4):zB x.name=true:=by
 unfold zW at h;rcases hk with hk | hk | hk <;> simp only[hk,cmpI] at h <;> simp at h <;> first | exact h.1.2 | exact h.2.1 | exact h.1.1.2 | (exact h.1.2.1) | (exact h.2.2.1)
structure Inv(st:RSt):Prop where
 names:∀ m∈st.mods,zm m.name=true
 roots:∀ m∈st.mods,m.roots.length<=1048576
 parts:∀ m∈st.mods,∀ a∈m.attrs,zB a.name=true
 apart:∀ m∈st.mods,(m.attrs.map (·.name)).Nodup
 left:0<=st.left
structure Grow(a b:RSt):Prop where
 left:b.left<=a.left
 old:∀ (i:Nat) (m:GMod),a.mods[i]?=some m->∃ m',b.mods[i]?=some m'/\m'.name=m.name
theorem Grow.refl(a:RSt):Grow a a:=⟨Int.le_refl _,λ _ m h=>⟨m,h,Z⟩⟩
theorem Grow.trans{a b c:RSt}(h:Grow a b)(k:Grow b c):Grow a c:=⟨Int.le_trans k.left h.left,λ i m hm=>let⟨m1,h1,h2⟩:=h.old i m hm;let⟨m2,k1,k2⟩:=k.old i m1 h1;⟨m2,k1,k2.trans h2⟩⟩
def RSt.size(st:RSt):Nat:=st.log.length+st.out.length+st.mods.length+st.part.length+100*st.left.toNat
theorem zbN{α:Type}{l:List α}{f:α->α}{x:α}(h:x∈updA l k f):x∈l\/∃ y∈l,x=f y:=by
 unfold updA at h;split at h
 ·rename_i y hy;rcases List.mem_or_eq_of_mem_set h with h | h
  ·exact .inl h
  ·exact .inr ⟨y,List.mem_of_getElem? hy,h⟩
 ·exact .inl h
theorem updA_old{l:List GMod}(hf:∀ m,(f m).name=m.name)(h:l[i]?=some m):∃ m',(updA l k f)[i]?=some m'/\m'.name=m.name:=by
 rw[updA_get];by_cases e:i=k
 ·subst e;rw[Ke Z,h];exact⟨f m,Z,hf m⟩
 ·rw[Kf e];exact⟨m,h,Z⟩
theorem put_names(l:List GAttr)(s:Str)(v:GVal):(Za l s v).map (·.name)=if cmpI .geq (aix l s) 0=true then l.map (·.name) else l.map (·.name)++[s]:=by
 unfold Za;split
 ·rename_i h;obtain⟨x,h1,h2,_⟩:=zcl h;have h1':l[(aix l s).toNat]?=some x:=h1;rw[q6 _ h1',List.map_set];apply List.ext_getElem?;intro i;by_cases e:(aix l s).toNat=i
  ·subst e;have:=zG h1';rw[List.getElem?_set_self (by simpa using this),List.getElem?_map,h1'];rfl
  ·rw[List.getElem?_set_ne e]
 ·simp
theorem za2{α:Type}{p:α->Bool}{l:List α}(h:cmpI .geq (xP p l) 0=false):∀ x∈l,p x=false:=by
 rw[QL] at h;intro x hx;cases hp:p x with
 | false=>rfl
 | true=>rw[List.any_eq_true.2 ⟨x,hx,hp⟩] at h;cases h
theorem put_apart{l:List GAttr}{v:GVal}(h:(l.map (·.name)).Nodup):((Za l s v).map (·.name)).Nodup:=by
 rw[put_names];split
 ·exact h
 ·rename_i hh;have hn:=za2 (by simpa[aix] using hh);refine List.nodup_append.2 ⟨h,by simp,λ a ha b hb e=>?_⟩;simp only[List.mem_singleton] at hb;subst hb;subst e;obtain⟨x,hx,hxa⟩:=List.mem_map.1 ha;have:=hn x hx;simp[hxa] at this
theorem put_parts{l:List GAttr}{v:GVal}(hs:zB s=true)(h:∀ a∈l,zB a.name=true):∀ a∈Za l s v,zB a.name=true:=by
 intro a ha;have:a.name∈(Za l s v).map (·.name):=List.mem_map_of_mem ha;rw[put_names] at this;split at this
 ·obtain⟨x,hx,e⟩:=List.mem_map.1 this;rw[← e];exact h x hx
 ·rcases List.mem_append.1 this with h1 | h1
  ·obtain⟨x,hx,e⟩:=List.mem_map.1 h1;rw[← e];exact h x hx
  ·simp only[List.mem_singleton] at h1;rw[h1];exact hs
theorem Inv.upd(h:Inv st)(h1:∀ m,(f m).name=m.name)(h2:∀ m∈st.mods,(f m).roots.length<=1048576)(h3:∀ m∈st.mods,∀ a∈(f m).attrs,zB a.name=true)(h4:∀ m∈st.mods,((f m).attrs.map (·.name)).Nodup){lg:List GEvent}:Inv { st with mods:=updA st.mods k f,log:=lg,out:=o } where
 names:=λ m hm=>(zbN hm).elim (h.names m) λ⟨y,hy,e⟩=>by rw[e,h1];exact h.names y hy
 roots:=λ m hm=>(zbN hm).elim (h.roots m) λ⟨y,hy,e⟩=>by rw[e];exact h2 y hy
 parts:=λ m hm=>(zbN hm).elim (h.parts m) λ⟨y,hy,e⟩=>by rw[e];exact h3 y hy
 apart:=λ m hm=>(zbN hm).elim (h.apart m) λ⟨y,hy,e⟩=>by rw[e];exact h4 y hy
 left:=h.left
theorem Inv.hit(h:Inv st)(k:Nat)(s:Str):Inv (st.hit k s):=⟨h.names,h.roots,h.parts,h.apart,h.left⟩
theorem size_hit(st:RSt)(k:Nat)(s:Str):(st.hit k s).size<=st.size+2:=by
 unfold RSt.size RSt.hit;simp only[List.length_append,List.length_cons,List.length_nil];split
 ·simp only[List.length_append,List.length_cons,List.length_nil];omega
 ·omega
theorem Inv.note(h:Inv st)(k:Int)(s:Str):Inv (st.note k s):=⟨h.names,h.roots,h.parts,h.apart,h.left⟩
theorem Inv.give(h:Inv st)(k:Nat){s:Str}(v:GVal)(hs:zB s=true):Inv (st.give k s v):=
 h.upd (f:=λ m=>{ m with attrs:=Za m.attrs s v }) (lg:=st.log) (o:=st.out) (λ _=>Z) h.roots (λ m hm=>put_parts hs (h.parts m hm)) λ m hm=>put_apart (h.apart m hm)
theorem Inv.fail(h:Inv st)(k:Nat)(s:Str):Inv (st.fail k s):=h.upd (f:=λ m=>{ m with cached:=false }) (λ _=>Z) h.roots h.parts h.apart
theorem Inv.done(h:Inv st)(k:Nat)(s:Str):Inv (st.done k s):=h.upd (f:=λ m=>{ m with done:=true }) (λ _=>Z) h.roots h.parts h.apart
theorem Inv.begin(h:Inv st){s:Str}{sp:Spec}(hs:zm s=true)(hr:sp.roots.length<=1048576):Inv (st.begin s sp) where
 names:=λ m hm=>(List.mem_append.1 hm).elim (h.names m) λ e=>by simp only[List.mem_singleton] at e;rw[e];exact hs
 roots:=λ m hm=>(List.mem_append.1 hm).elim (h.roots m) λ e=>by simp only[List.mem_singleton] at e;rw[e];exact hr
 parts:=λ m hm=>(List.mem_append.1 hm).elim (h.parts m) λ e=>by simp only[List.mem_singleton] at e;rw[e];intro a ha;simp at ha
 apart:=λ m hm=>(List.mem_append.1 hm).elim (h.apart m) λ e=>by simp only[List.mem_singleton] at e;rw[e];exact List.Pairwise.nil
 left:=h.left
theorem Grow.upd(h1:∀ m,(f m).name=m.name){lg:List GEvent}:Grow st { st with mods:=updA st.mods k f,log:=lg,out:=o }:=⟨Int.le_refl _,λ _ _ h=>updA_old h1 h⟩
theorem Grow.give(k:Nat)(s:Str)(v:GVal):Grow st (st.give k s v):=Grow.upd (f:=λ m=>{ m with attrs:=Za m.attrs s v }) (lg:=st.log) (o:=st.out) λ _=>Z
theorem Grow.begin(s:Str)(sp:Spec):Grow st (st.begin s sp):=⟨Int.le_refl _,λ i m h=>⟨m,by
 show(st.mods++_)[i]?=some m;rw[List.getElem?_append_left (zG h)];exact h,Z⟩⟩
theorem Jw(k:Nat)(s:Str)(v:GVal):(st.give k s v).size=st.size:=by unfold RSt.size RSt.give;simp[WE]
theorem Inv.tell(h:Inv st)(k:Nat){s:Str}(hs:zm s=true):Inv (st.tell k s):=by
 unfold RSt.tell;split
 ·exact h.give _ _ (JY hs)
 ·exact h
theorem Grow.tell(k:Nat)(s:Str):Grow st (st.tell k s):=by
 unfold RSt.tell;split
 ·exact Grow.give ..
 ·exact Grow.refl _
theorem size_tell(k:Nat)(s:Str):(st.tell k s).size=st.size:=by
 unfold RSt.tell;split
 ·exact Jw ..
 ·rfl
theorem star_ok(at_:Nat):∀ (l:List GAttr) {st:RSt},Inv st->(∀ a∈l,zB a.name=true)->Inv (starF at_ l st)/\Grow st (starF at_ l st)/\(starF at_ l st).size=st.size
 | [],st,h,_=>⟨h,Grow.refl _,Z⟩
 |a::l,st,h,hl=>by
  unfold starF;rw[List.foldl_cons];have hl':=λ b hb=>hl b (List.mem_cons_of_mem _ hb)
  split
  ·exact star_ok at_ l h hl'
  ·have h1:=star_ok at_ l (h.give at_ a.value (hl a (List.mem_cons_self ..))) hl';exact⟨h1.1,(Grow.give at_ a.name a.value).trans h1.2.1,h1.2.2.trans (Jw ..)⟩
structure ImpPost(st:RSt)(s:Str)(r:RSt×Int×Int):Prop where
 inv:Inv r.1
 grow:Grow st r.1
 size:r.1.size<=st.size+4*(zx s dot).length
 good:r.2.2=0->∃ m,r.1.mods[r.2.1.toNat]?=some m/\m.name=s/\0<=r.2.1
 bad:r.2.2≠0->r.2.1=-1
 ends:0<=r.2.2/\r.2.2<=6
def qQ(n:Nat)(I:RImp):Prop:=∀ (st:RSt) (s:Str),Inv st->zm s=true->4*st.left.toNat+(zx s dot).length<=n->∃ r,I st s=some r/\ImpPost st s r
structure BodyPost(st:RSt)(c:Nat)(r:RSt×Int):Prop where
 inv:Inv r.1
 grow:Grow st r.1
 size:r.1.size<=st.size+c
 ends:0<=r.2/\r.2<=6
theorem Inv.attrs(h:Inv st)(k:Nat):(∀ a∈st.attrsAt k,zB a.name=true)/\((st.attrsAt k).map (·.name)).Nodup:=by
 unfold RSt.attrsAt;cases hm:st.mods[k]? with
 | none=>exact⟨by simp,by simp⟩
 | some m=>exact⟨h.parts m (List.mem_of_getElem? hm),h.apart m (List.mem_of_getElem? hm)⟩
theorem zbO(tf:List File)(h:roots.length<=1048576):(ZH tf roots p s).roots.length<=1048576:=by
 have:=Ql tf p s roots [];unfold ZH;simp at this;omega
theorem Xr(h:Inv st)(hp:path.length<=1048576)(s:Str):(wg t path st s).roots.length<=1048576:=by
 unfold wg;split
 ·exact zbO _ hp
 ·split
  ·exact Nat.zero_le _
  ·split
   ·exact Nat.zero_le _
   ·refine zbO _ ?_;unfold RSt.rootsAt;cases hm:st.mods[(cix st (zF s)).toNat]? with
    | none=>exact Nat.zero_le _
    | some m=>exact h.roots m (List.mem_of_getElem? hm)
theorem value_ok{n:Nat}(hI:qQ n I)(h:Inv st)(hn:4*st.left.toNat+3<=n)(k:Nat)(s:Str)(_hs:zB s=true):∃ r,QP t path I st k s=some r/\BodyPost st 12 (r.1,r.2.2):=by
 unfold QP;have h0:∀ {v:GVal} {e:Int},0<=e->e<=6->∃ r,some (st,v,e)=some r/\BodyPost st 12 (r.1,r.2.2):=λ h1 h2=>⟨_,Z,h,Grow.refl _,Nat.le_add_right _ _,h1,h2⟩
 split
 ·exact h0 (by decide) (by decide)
 ·split
  ·exact h0 (by decide) (by decide)
  ·rename_i hc;split
   ·exact h0 (by decide) (by decide)
   ·have hv:zm (child (st.nameAt k) s)=true:=by
     cases hv:zm (child (st.nameAt k) s) with
     | true=>rfl
     | false=>exact absurd (.inr hv) hc
    have hp:=jN hv;obtain⟨r,hr,hk⟩:=hI st _ h hv (by omega);rw[hr];have:=hk.size;exact⟨_,Z,hk.inv,hk.grow,by simp only;omega,hk.ends⟩
theorem stmt_ok{n:Nat}(hI:qQ n I)(h:Inv st)(hn:4*st.left.toNat+3<=n)(at_:Nat)(hx:zW x=true):∃ r,Z2 t path I st at_ x=some r/\BodyPost st 30 r:=by
 have h0:∀ {e:Int},0<=e->e<=6->∃ r,some (st,e)=some r/\BodyPost st 30 r:=λ h1 h2=>⟨_,Z,h,Grow.refl _,Nat.le_add_right _ _,h1,h2⟩
 have key:∀ {s:Str} (hv:zm s=true),∃ r,I st s=some r/\ImpPost st s r/\r.1.size<=st.size+12:=λ hv=>by
  have hp:=jN hv;obtain⟨r,hr,hk⟩:=hI st _ h hv (by omega);have:=hk.size;exact⟨r,hr,hk,by omega⟩
 unfold Z2;split
 ·rename_i hk;have hv:zm x.module=true:=YV hx (.inl hk);obtain⟨r,hr,hp,hsz⟩:=key hv;rw[hr];simp only[Kd];split
  ·exact⟨_,Z,hp.inv,hp.grow,by simp only;omega,hp.ends⟩
  ·split
   ·exact⟨_,Z,hp.inv,hp.grow,by simp only;omega,by simp,by simp⟩
   ·exact⟨_,Z,hp.inv.give _ _ (first_valid hv),hp.grow.trans (Grow.give ..),by simp only[Jw];omega,by simp,by simp⟩
 ·rename_i k0;split
  ·rename_i k1;split
   ·exact h0 (by decide) (by decide)
   ·rename_i hv;have hv':zm (Z1 (JX st at_) x.level x.module)=true:=by simpa using hv
    obtain⟨r,hr,hp,hsz⟩:=key hv';rw[hr];simp only[Kd];split
    ·exact⟨_,Z,hp.inv,hp.grow,by simp only;omega,hp.ends⟩
    ·have hl:=hp.grow.left;obtain⟨q,hq,hb⟩:=value_ok (t:=t) (path:=path) hI hp.inv (by have:=h.left;have:=hp.inv.left;omega) r.2.1.toNat x.name (Jv hx (.inl k1));have hbs:=hb.size;rw[hq];simp only[Kd];split
     ·exact⟨_,Z,hb.inv,hp.grow.trans hb.grow,by simp only at hbs ⊢;omega,hb.ends⟩
     ·exact⟨_,Z,hb.inv.give _ _ (Jv hx (.inl k1)),hp.grow.trans (hb.grow.trans (Grow.give ..)),by simp only[Jw] at hbs ⊢;omega,by simp,by simp⟩
  ·rename_i k1;split
   ·rename_i k2;obtain⟨r,hr,hp,hsz⟩:=key (YV hx (.inr k2));rw[hr];simp only[Kd];split
    ·exact⟨_,Z,hp.inv,hp.grow,by simp only;omega,hp.ends⟩
    ·have h1:=star_ok at_ _ hp.inv (hp.inv.attrs r.2.1.toNat).1;exact⟨_,Z,h1.1,hp.grow.trans h1.2.1,by simp only[h1.2.2];omega,by simp,by simp⟩
   ·split
    ·rename_i k3;exact⟨_,Z,h.give _ _ (Jv hx (.inr (.inl k3))),Grow.give ..,by simp only[Jw];omega,by simp,by simp⟩
    ·split
     ·split
      ·exact h0 (by decide) (by decide)
      ·refine⟨_,Z,⟨h.names,h.roots,h.parts,h.apart,h.left⟩,⟨Int.le_refl _,λ _ m h=>⟨m,h,Z⟩⟩,?_,by simp,by simp⟩;unfold RSt.size;simp only[List.length_append,List.length_cons,List.length_nil];omega
     ·split
      ·exact h0 (by decide) (by decide)
      ·exact h0 (by decide) (by decide)
theorem body_ok{n:Nat}{I:RImp}(hI:qQ n I)(at_:Nat):∀ (l:List Stmt) (st:RSt),Inv st->4*st.left.toNat<=n+1->(∀ x∈l,zW x=true)->∃ r,J8 t path I at_ l st=some r/\BodyPost st 0 r
 | [],st,h,_,_=>⟨_,Z,h,Grow.refl _,Nat.le_refl _,by simp,by simp⟩
 |x::l,st,h,hn,hl=>by
  unfold J8;split
  ·exact⟨_,Z,h,Grow.refl _,Nat.le_refl _,by simp,by simp⟩
  ·rename_i hz;have h1:Inv { st with left:=st.left - 1 }:=⟨h.names,h.roots,h.parts,h.apart,by have:=h.left;show(0:Int)<=st.left - 1;omega⟩;have hgr:Grow st { st with left:=st.left - 1 }:=⟨by show st.left - 1<=st.left;omega,λ _ m h=>⟨m,h,Z⟩⟩;have hsz:RSt.size { st with left:=st.left - 1 }+100=st.size:=by
    unfold RSt.size;have:=h.left;simp only;omega
   obtain⟨r,hr,hb⟩:=stmt_ok (t:=t) (path:=path) hI h1 (by have:=h.left;show 4*(st.left - 1).toNat+3<=n;omega) at_ (hl x (List.mem_cons_self ..));have hbs:=hb.size;rw[hr];simp only[Kd];split
   ·exact⟨_,Z,hb.inv,hgr.trans hb.grow,by omega,hb.ends⟩
   ·have hle:=hb.grow.left;obtain⟨q,hq,hk⟩:=body_ok hI at_ l r.1 hb.inv (by have:=h.left;have:=hb.inv.left;simp only at hle;omega) λ y hy=>hl y (List.mem_cons_of_mem _ hy)
    have hks:=hk.size;exact⟨q,hq,hk.inv,hgr.trans (hb.grow.trans hk.grow),by omega,hk.ends⟩
theorem JZ(hv:ya t=true)(k:Int):∀ x∈(W8 t.files k).body,zW x=true:=by
 unfold W8;cases hf:t.files[k.toNat]? with
 | none=>intro x hx;simp at hx;cases hx
 |some f=>have:=WC hv (List.mem_of_getElem? hf);unfold jR at this;simp only[Bool.and_eq_true] at this;exact List.all_eq_true.1 this.1
theorem zcm{n:Nat}(hv:ya t=true)(hI:qQ n I)(h:Inv st)(hn:4*st.left.toNat<=n+1)(at_:Nat)(sp:Spec):∃ r,runF t path I st at_ sp=some r/\BodyPost st 0 r:=by
 unfold runF;split
 ·exact body_ok hI at_ _ st h hn (JZ hv _)
 ·exact⟨_,Z,h,Grow.refl _,Nat.le_refl _,by simp,by simp⟩
theorem new_ok{n:Nat}(hv:ya t=true)(hI:qQ n I)(h:Inv st)(hn:4*st.left.toNat<=n+1)(hs:zm s=true){sp:Spec}(hr:sp.roots.length<=1048576):∃ r,newF t path I st s sp=some r/\ImpPost st s r/\r.1.size<=st.size+3:=by
 unfold newF;have hpp:=YU s;split
 ·exact⟨_,Z,⟨h,Grow.refl _,Nat.le_add_right _ _,λ e=>absurd e (by simp),λ _=>Z,by simp,by simp⟩,Nat.le_add_right _ _⟩
 ·have h1:=h.begin (sp:=sp) hs hr;have hbz:(st.begin s sp).size=st.size+2:=by unfold RSt.size RSt.begin;simp only[List.length_append,List.length_cons,List.length_nil];omega
  obtain⟨r,hr,hb⟩:=zcm (path:=path) hv hI h1 (by show 4*st.left.toNat<=n+1;exact hn) st.mods.length sp;have hbs:=hb.size;have hg:Grow st r.1:=(Grow.begin s sp).trans hb.grow;obtain⟨m,hm,hmn⟩:=hb.grow.old st.mods.length ⟨s,sp.kind,sp.roots,true,false,[]⟩ (by unfold RSt.begin;simp);rw[hr];simp only[Kd];split
  ·rename_i he;have hsz:(r.1.fail st.mods.length s).size=r.1.size+1:=by unfold RSt.size RSt.fail;simp only[WE,List.length_append,List.length_cons,List.length_nil];omega
   exact⟨_,Z,⟨hb.inv.fail _ _,hg.trans (Grow.upd (f:=λ m=>{ m with cached:=false }) λ _=>Z),by simp only;omega,λ e=>absurd e he,λ _=>Z,hb.ends⟩,by simp only;omega⟩
  ·have hsz:(r.1.done st.mods.length s).size=r.1.size+1:=by unfold RSt.size RSt.done;simp only[WE,List.length_append,List.length_cons,List.length_nil];omega
   have hgd:Grow r.1 (r.1.done st.mods.length s):=Grow.upd (f:=λ m=>{ m with done:=true }) λ _=>Z
   have hgt:=Grow.tell (st:=r.1.done st.mods.length s) st.mods.length s;refine⟨_,Z,⟨(hb.inv.done _ _).tell _ hs,hg.trans (hgd.trans hgt),by simp only[size_tell];omega,λ _=>?_,λ e=>absurd Z e,by simp,by simp⟩,by simp only[size_tell];omega⟩;obtain⟨m2,hm2,hn2⟩:=(hgd.trans hgt).old _ m hm;exact⟨m2,by simpa using hm2,hn2.trans hmn,by simp only;omega⟩
theorem W9(hv:ya t=true)(hp:path.length<=1048576):∀ n,qQ n (imp t path n)
 | 0=>λ st s _ _ hn=>absurd (YU s) (by omega)
 |n+1=>by
  intro st s h hs hn;have hpp:=YU s;unfold imp impF;have hhit:∀ {st':RSt},Inv st'->Grow st st'->st'.size+2<=st.size+4*(zx s dot).length->cmpI .geq (cix st' s) 0=true->∃ r,some (st'.hit (cix st' s).toNat s,cix st' s,(0:Int))=some r/\ImpPost st s r:=λ h' hg hsz hc=>by
   obtain⟨m,h1,h2,h3⟩:=zcl hc;refine⟨_,Z,h'.hit _ _,hg.trans ⟨Int.le_refl _,λ _ m h=>⟨m,h,Z⟩⟩,?_,λ _=>⟨m,h1,?_,h3⟩,λ e=>absurd Z e,by simp,by simp⟩
   ·exact Nat.le_trans (size_hit _ _ s) hsz
   ·unfold hits at h2;simp only[Bool.and_eq_true,decide_eq_true_eq] at h2;exact h2.1
  split
  ·rename_i hc;exact hhit h (Grow.refl _) (by omega) hc
  ·have hpar:∃ r,(if zF s=emptyS then some (st,(0:Int),(0:Int)) else imp t path n st (zF s))=some r/\Inv r.1/\Grow st r.1/\r.1.size+4<=st.size+4*(zx s dot).length/\0<=r.2.2/\r.2.2<=6:=by
    split
    ·exact⟨_,Z,h,Grow.refl _,by simp only;omega,by simp,by simp⟩
    ·rename_i he;obtain⟨e1,e2⟩:=Xg hs he;obtain⟨r,hr,hk⟩:=W9 hv hp n st (zF s) h e2 (by omega);have:=hk.size;exact⟨r,hr,hk.inv,hk.grow,by omega,hk.ends⟩
   obtain⟨r,hr,hi,hg,hsz,he⟩:=hpar;rw[hr];simp only[Kd];split
   ·rename_i hne;exact⟨_,Z,hi,hg,by simp only;omega,λ e=>absurd e hne,λ _=>Z,he⟩
   ·split
    ·rename_i hc;exact hhit hi hg (by omega) hc
    ·have hl:=hg.left;obtain⟨q,hq,hk,hks⟩:=new_ok (path:=path) hv (W9 hv hp n) hi (by have:=h.left;have:=hi.left;omega) hs (Xr (t:=t) hi hp s);exact⟨q,hq,hk.inv,hg.trans hk.grow,by omega,hk.good,hk.bad,hk.ends⟩
theorem idxOf_cases{α:Type}(p:α->Bool)(l:List α):(xP p l=-1/\∀ x∈l,p x=false)\/∃ (k:Nat) (x:α),xP p l=(k:Int)/\l[k]?=some x/\p x=true:=by
 cases h:cmpI .geq (xP p l) 0 with
 |true=>obtain⟨x,h1,h2,h3⟩:=zcl h;exact .inr ⟨(xP p l).toNat,x,(Int.toNat_of_nonneg h3).symm,h1,h2⟩
 |false=>refine .inl ⟨?_,za2 h⟩;have hn:=za2 h;unfold xP;rw[List.findIdx?_eq_none_iff.2 hn]
theorem jB(st:RSt)(s:Str):(cix st s=-1/\∀ m∈st.mods,hits s m=false)\/∃ (k:Nat) (m:GMod),cix st s=(k:Int)/\st.mods[k]?=some m/\m.name=s/\m.cached=true:=by
 rcases idxOf_cases (hits s) st.mods with h | ⟨k,m,h1,h2,h3⟩
 ·exact .inl h
 ·unfold hits at h3;simp only[Bool.and_eq_true,decide_eq_true_eq] at h3;exact .inr ⟨k,m,h1,h2,h3.1,h3.2⟩
theorem Zb(k:Nat):cmpI .geq (k:Int) 0=true:=by simp[cmpI]
theorem Zo(k:Nat):cmpI .lss (k:Int) 0=false:=by simp[cmpI]
theorem geq_m1:cmpI .geq (-1:Int) 0=false:=rfl
theorem XV:cmpI .lss (-1:Int) 0=true:=rfl
def enc(s:Str):Nat:=match s.l with
 | [a]=>a.toNat
 | [a,b]=>a.toNat+256*b.toNat
 | [a,b,c]=>a.toNat+256*b.toNat+65536*c.toNat
 | _=>0
theorem J0(h:zB s=true):(∃ a,s=⟨[a]⟩/\1<=a.toNat)\/(∃ a b,s=⟨[a,b]⟩/\1<=a.toNat/\1<=b.toNat)\/∃ a b c,s=⟨[a,b,c]⟩/\1<=a.toNat/\1<=b.toNat/\1<=c.toNat:=by
 have hl:∀ {b:UInt8},low b=true->1<=b.toNat:=λ{b} hb=>by
  unfold low at hb;simp[cmpB] at hb;have h1:=hb.1;rw[UInt8.le_iff_toNat_le] at h1;simp at h1;omega
 unfold zB inR at h;simp only[Bool.and_eq_true,List.all_eq_true] at h;obtain⟨h1,h2⟩:=h;cases s with
 | mk l=>
 match l,h1,h2 with
 | [],h1,_=>simp[cmpI] at h1
 | [a],_,h2=>exact .inl ⟨a,Z,hl (h2 a (by simp))⟩
 | [a,b],_,h2=>exact .inr (.inl ⟨a,b,Z,hl (h2 a (by simp)),hl (h2 b (by simp))⟩)
 | [a,b,c],_,h2=>exact .inr (.inr ⟨a,b,c,Z,hl (h2 a (by simp)),hl (h2 b (by simp)),hl (h2 c (by simp))⟩)
 | a::b::c::d::l,h1,_=>simp[cmpI] at h1;omega
theorem enc_inj{t:Str}(hs:zB s=true)(ht:zB t=true)(h:enc s=enc t):s=t:=by
 have lt:∀ a:UInt8,a.toNat<256:=λ a=>a.toNat_lt
 have inj:∀ {a b:UInt8},a.toNat=b.toNat->a=b:=λ h=>UInt8.toNat_inj.1 h
 rcases J0 hs with⟨a,rfl,h1⟩ | ⟨a,b,rfl,h1,h2⟩ | ⟨a,b,c,rfl,h1,h2,h3⟩ <;> rcases J0 ht with⟨x,rfl,k1⟩ | ⟨x,y,rfl,k1,k2⟩ | ⟨x,y,z,rfl,k1,k2,k3⟩ <;> simp only[enc] at h
 ·rw[inj (a:=a) (b:=x) (by omega)]
 ·have:=lt a;have:=lt x;omega
 ·have:=lt a;have:=lt x;have:=lt y;omega
 ·have:=lt a;have:=lt x;omega
 ·have:=lt a;have:=lt x;rw[inj (a:=a) (b:=x) (by omega),inj (a:=b) (b:=y) (by omega)]
 ·have:=lt a;have:=lt x;have:=lt b;have:=lt y;omega
 ·have:=lt a;have:=lt x;have:=lt b;omega
 ·have:=lt a;have:=lt x;have:=lt b;have:=lt y;omega
 ·have:=lt a;have:=lt x;have:=lt b;have:=lt y;rw[inj (a:=a) (b:=x) (by omega),inj (a:=b) (b:=y) (by omega),inj (a:=c) (b:=z) (by omega)]
theorem enc_lt(s:Str):enc s<16777216:=by
 unfold enc;have lt:∀ a:UInt8,a.toNat<256:=λ a=>a.toNat_lt
 split
 ·rename_i a _;have:=lt a;omega
 ·rename_i a b _;have:=lt a;have:=lt b;omega
 ·rename_i a b c _;have:=lt a;have:=lt b;have:=lt c;omega
 ·omega
theorem attrs_few{l:List GAttr}(h1:∀ a∈l,zB a.name=true)(h2:(l.map (·.name)).Nodup):l.length<=16777216:=by
 have h3:((l.map (·.name)).map enc).Nodup:=by
  unfold List.Nodup;rw[List.pairwise_map];refine List.Pairwise.imp_of_mem (λ{a b} ha hb hne e=>hne (enc_inj ?_ ?_ e)) h2
  ·obtain⟨x,hx,rfl⟩:=List.mem_map.1 ha;exact h1 x hx
  ·obtain⟨x,hx,rfl⟩:=List.mem_map.1 hb;exact h1 x hx
 have h4:=nodupLen (m:=List.range 16777216) h3 (λ x hx=>by
  obtain⟨y,_,rfl⟩:=List.mem_map.1 hx;exact List.mem_range.2 (enc_lt y))
 simpa using h4
variable(t:Tree)(path:List Int)
def bxs(l:List GMod):List (Bx GMod):=l.map λ m=>⟨m⟩
def mach(st:RSt):Machine:=⟨t,path,⟨⟩,⟨yC⟩,bxs st.mods,st.out,st.log,st.part,st.left⟩
variable{t path}
theorem bxs_get(l:List GMod)(k:Nat):(bxs l)[k]?=(l[k]?).map λ m=>⟨m⟩:=List.getElem?_map ..
theorem bxs_len(l:List GMod):(bxs l).length=l.length:=List.length_map ..
theorem WT(l:List GMod)(k:Nat)(m:GMod):(bxs l).set k ⟨m⟩=bxs (l.set k m):=(List.map_set).symm
theorem bxs_app(l:List GMod)(m:GMod):bxs l++[⟨m⟩]=bxs (l++[m]):=by unfold bxs;rw[List.map_append];rfl
theorem bxs_idx(l:List GMod)(s:Str):xP (λ x:Bx GMod=>hits s x.x) (bxs l)=xP (hits s) l:=by
 unfold xP bxs;rw[List.findIdx?_map];rfl
theorem YW(h:st.mods.length<=1048576)(s:Str):zT (mach t path st) s=some (cix st s):=by
 unfold zT yN;have hl:zH (λ s4=>zQ (bxs st.mods) (λ a0=>yG a0 s) s4) 0=some (match (bxs st.mods).findIdx? (λ x=>hits s x.x) with | some i=>(Sum.inr (i:Int):Unit⊕Int) | none=>Sum.inl ()):=by
  refine Ju (bxs st.mods) (λ x=>hits s x.x) (λ i=>Sum.inr i) _ (λ k x hx hlt=>?_) ?_ (by rw[bxs_len];omega) Z
  ·unfold zQ;have hb:=bxs_len st.mods;rw[zS,Ke (decide_eq_true hlt),zK,hx,Kd];show Option.bind (yG x.x s) _=_;rw[show yG x.x s=some (hits s x.x) from congrArg some (Bool.and_comm ..),Kd,zJ (by omega)];cases hits s x.x <;> rfl
  ·unfold zQ;rw[zS,Kf (by simp)]
 rw[show(mach t path st).modules=bxs st.mods from Z,hl,show cix st s=xP (λ x:Bx GMod=>hits s x.x) (bxs st.mods) from(bxs_idx ..).symm];unfold xP;cases List.findIdx? (λ x:Bx GMod=>hits s x.x) (bxs st.mods) <;> rfl
theorem zbP(h:st.log.length<=1048576)(k:Int)(s:Str):xd (mach t path st) k s=some (mach t path (st.note k s)):=by
 unfold xd;rw[xw (by show(st.log.length+1)*24<=_;omega) (by show st.log.length+1<=_;omega),Kd];rfl
theorem hit_eq(h:st.log.length<=1048576)(hp:st.part.length<=1048576)(hm:st.mods[k]?=some m):jJ (mach t path st) (k:Int)=some (mach t path (st.hit k m.name),(k:Int)):=by
 have hb:(bxs st.mods)[k]?=some ⟨m⟩:=by rw[bxs_get,hm];rfl
 have hd:st.doneAt k=m.done:=by unfold RSt.doneAt;rw[hm];rfl
 unfold jJ;rw[show(mach t path st).modules=bxs st.mods from Z,zK,hb,Kd,Int.toNat_natCast,hb,Kd,zbP h,Kd,
  show(mach t path (st.note 3 m.name)).modules=bxs st.mods from Z,hb,Kd,xm,Kd,show(mach t path (st.note 3 m.name)).part=st.part from Z]
 have hc:∀ x,yh st.part x=some (decide (x∈st.part)):=λ x=>ContainsS_eq hp
 rw[hc,xm,Kd];cases hdn:m.done with
 |true=>rw[hdn] at hd;rw[Kf (by simp),Kd];unfold RSt.hit;rw[Kf (by rw[hd];simp)];rfl
 |false=>
  rw[hdn] at hd;by_cases hi:m.name∈st.part
  ·rw[Kf (by simp[hi]),Kd];unfold RSt.hit;rw[Kf (by simp[hi])];rfl
  ·rw[Ke (by simp[hi]),Kd,xw (by show(st.part.length+1)*16<=_;omega) (by show st.part.length+1<=_;omega),Kd,Kd];unfold RSt.hit;rw[Ke ⟨hd,hi⟩];rfl
def val0(l:List GAttr)(j:Int):GVal:=((l[j.toNat]?).map (·.value)).getD ⟨0,0⟩
theorem loop_idxc{α β γ:Type}{c:γ}{step:γ×Int->Option ((γ×Int)⊕β)}(xs:List α)(p:α->Bool)(f:Int->β)(e:β)
  (h:∀ k x,xs[k]?=some x->k<xs.length->step (c,(k:Int))=some (if p x=true then .inr (f k) else .inl (c,((k+1:Nat):Int))))
  (hend:step (c,(xs.length:Int))=some (.inr e)) (hlen:xs.length<576460752303423488):zH step (c,(0:Int))=some (match xs.findIdx? p with | some i=>f (i:Int) | none=>e):=by
 have key:=zbG (σ:=Unit) (step:=step) xs (λ _ k=>(c,(k:Int))) (λ k _ x=>match (if p x=true then some (f k) else none) with | none=>.inl () | some b=>.inr b) (λ _=>e) (λ _ _=>True) (λ k _ x hx hlt _=>by
  have:=h k x hx hlt;cases hp:p x with
  | true=>rw[hp] at this;exact this
  | false=>rw[hp] at this;exact⟨this,trivial⟩) (λ _ _=>hend) (s0:=()) trivial hlen
 refine key.trans ((congrArg some (runL_idx p f e 0 xs)).trans ?_);cases xs.findIdx? p <;> simp
theorem attr_eq(h:m.attrs.length<=16777216)(s:Str):xM m s=some (match (m.attrs.findIdx? (λ a=>decide (a.name=s))) with | some i=>(val0 m.attrs (i:Int),true) | none=>(⟨0,0⟩,false)):=by
 unfold xM;have hl:zH (λ s6=>xx m s s6) (zGVal,(0:Int))=some (match m.attrs.findIdx? (λ a=>decide (a.name=s)) with | some i=>(Sum.inr (val0 m.attrs (i:Int),true):GVal⊕(GVal×Bool)) | none=>Sum.inl zGVal):=by
  refine loop_idxc m.attrs (λ a=>decide (a.name=s)) (λ j=>Sum.inr (val0 m.attrs j,true)) (Sum.inl zGVal) (λ k x hx hlt=>?_) ?_ (by omega)
  ·unfold xx;rw[show((zGVal,(k:Int)):GVal×Int).2=(k:Int) from Z,zS,Ke (decide_eq_true hlt),zK,hx,Kd,zJ (by omega),Kd,show val0 m.attrs (k:Int)=x.value by unfold val0;rw[Int.toNat_natCast,hx];rfl];cases decide (x.name=s) <;> rfl
  ·unfold xx;rw[show((zGVal,(m.attrs.length:Int)):GVal×Int).2=(m.attrs.length:Int) from Z,zS,Kf (by simp)]
 rw[hl];cases m.attrs.findIdx? (λ a=>decide (a.name=s)) <;> rfl
theorem Jx(l:List GAttr)(s:Str):(aix l s=-1/\l.findIdx? (λ a=>decide (a.name=s))=none)\/∃ (k:Nat) (a:GAttr),aix l s=(k:Int)/\l.findIdx? (λ a=>decide (a.name=s))=some k/\l[k]?=some a/\a.name=s:=by
 unfold aix xP;cases h:l.findIdx? (λ a=>decide (a.name=s)) with
 | none=>exact .inl ⟨Z,Z⟩
 |some k=>obtain⟨h1,h2,_⟩:=List.findIdx?_eq_some_iff_getElem.1 h;exact .inr ⟨k,l[k],Z,Z,List.getElem?_eq_getElem h1,by simpa using h2⟩
theorem attr_eq'(h:m.attrs.length<=16777216)(s:Str):xM m s=some (if cmpI .geq (aix m.attrs s) 0=true then(val0 m.attrs (aix m.attrs s),true) else(⟨0,0⟩,false)):=by
 rw[attr_eq h];rcases Jx m.attrs s with⟨h1,h2⟩ | ⟨k,a,h1,h2,_⟩
 ·rw[h1,h2];rfl
 ·rw[h1,h2,Ke (Zb k)]
theorem give_eq(h:m.attrs.length<=16777216)(s:Str)(v:GVal):yk m s v=some { m with attrs:=Za m.attrs s v }:=by
 unfold yk;have hl:zH (λ s6=>xy m s v s6) (m,(0:Int))=some (match m.attrs.findIdx? (λ a=>decide (a.name=s)) with | some i=>(Sum.inr { m with attrs:=updA m.attrs (i:Int).toNat (λ a=>{ a with value:=v }) }:GMod⊕GMod) | none=>Sum.inl m):=by
  refine loop_idxc m.attrs (λ a=>decide (a.name=s)) (λ j=>Sum.inr { m with attrs:=updA m.attrs j.toNat (λ a=>{ a with value:=v }) }) (Sum.inl m) (λ k x hx hlt=>?_) ?_ (by omega)
  ·unfold xy;rw[show((m,(k:Int)):GMod×Int).2=(k:Int) from Z,show((m,(k:Int)):GMod×Int).1=m from Z,zS,Ke (decide_eq_true hlt),zK,hx,Kd,Kd,zJ (by omega),Kd,Int.toNat_natCast,q6 _ hx];cases decide (x.name=s) <;> rfl
  ·unfold xy;rw[show((m,(m.attrs.length:Int)):GMod×Int).2=(m.attrs.length:Int) from Z,zS,Kf (by simp)]
 rw[hl];unfold Za;rcases Jx m.attrs s with⟨h1,h2⟩ | ⟨k,a,h1,h2,_⟩
 ·rw[h2,h1,Kf (by decide)];show Option.bind (appO 32 m.attrs [⟨s,v⟩]) _=_;rw[xw (by show(m.attrs.length+1)*32<=_;omega) (by show m.attrs.length+1<=_;omega),Kd]
 ·rw[h2,h1,Ke (Zb k),Int.toNat_natCast];rfl
theorem packOf_eq(h:zm m.name=true):xT m=some (if m.kind=1 then zF m.name else m.name):=by
 unfold xT;by_cases hk:m.kind=1
 ·rw[Ke (by simp[cmpI,hk]),Ke hk,XP h];rfl
 ·rw[Kf (by simp[cmpI,hk]),Kf hk]
theorem CutF_eq(hs:s.l.length<=4611686018427387904):∃ a b,Yn s ⟨[46]⟩=some (ZB s,a,b):=by
 have hge:=Lib.indexByte_ge s.l 46;have hf:ZB s=((zx s dot)[0]?).getD emptyS:=by unfold ZB;cases zx s dot <;> rfl
 rw[hf];unfold Yn wc;rw[show yP s ⟨[46]⟩=some (Lib.indexByte s.l 46) from Z,Kd,jq];cases hc:cmpI .geq (Lib.indexByte s.l 46) 0 with
 |false=>
  rw[Kf (by decide),Kd];have h0:Lib.indexByte s.l 46<0:=by have:=of_decide_eq_false hc;omega
  have h1:cutF dot s.l=[s.l]:=XB 46 s.l h0;rw[h1];exact⟨_,_,Z⟩
 |true=>
  have h0:0<=Lib.indexByte s.l 46:=oD hc;obtain⟨h1,h2⟩:=XC 46 s.l h0;obtain⟨n,hn⟩:∃ n:Nat,Lib.indexByte s.l 46=n:=⟨_,(Int.toNat_of_nonneg h0).symm⟩;rw[hn] at h1 h2 ⊢;have h3:cutF dot s.l=s.l.take n::cutF 46 (s.l.drop (n+1)):=h2;have hl:n+1<=s.l.length:=by omega
  rw[Ke Z,Q3 (by omega),Kd,show((n:Int)+((⟨[46]⟩:Str).l.length:Int))=((n:Int)+1) from Z,YL (by omega) (by omega),Kd,show((n:Int)+1)=((n+1:Nat):Int) from Z,Q4 hl,Kd,Kd,h3];exact⟨_,_,Z⟩
structure Small(st:RSt):Prop where
 mods:st.mods.length<=1048576
 log:st.log.length<=1048576
 out:st.out.length<=1048576
 part:st.part.length<=1048576
theorem RSt.small{n:Nat}(h:st.size<=n)(hn:n<=1048576:=by decide):Small st:=by
 unfold RSt.size at h;exact⟨by omega,by omega,by omega,by omega⟩
theorem Inv.few(h:Inv st)(hm:m∈st.mods):m.attrs.length<=16777216:=attrs_few (h.parts m hm) (h.apart m hm)
theorem Inv.at_(h:Inv st)(hm:st.mods[k]?=some m):m∈st.mods/\zm m.name=true/\m.attrs.length<=16777216/\m.roots.length<=1048576:=
 have hi:=List.mem_of_getElem? hm
 ⟨hi,h.names m hi,h.few hi,h.roots m hi⟩
theorem Zt(h:zm s=true):zv s=true:=by unfold zv;rw[h,Bool.or_true]
theorem Wa(hm:st.mods[k]?=some m):st.kindAt k=m.kind:=by unfold RSt.kindAt;rw[hm];rfl
theorem zdu(hm:st.mods[k]?=some m):st.rootsAt k=m.roots:=by unfold RSt.rootsAt;rw[hm];rfl
theorem Xs(hm:st.mods[k]?=some m):st.attrsAt k=m.attrs:=by unfold RSt.attrsAt;rw[hm];rfl
theorem zab(hm:st.mods[k]?=some m):st.nameAt k=m.name:=by unfold RSt.nameAt;rw[hm];rfl
theorem set_give(hm:st.mods[k]?=some m)(s:Str)(v:GVal):st.mods.set k { m with attrs:=Za m.attrs s v }=(st.give k s v).mods:=(q6 (λ m:GMod=>{ m with attrs:=Za m.attrs s v }) hm).symm
theorem mach_give(hm:st.mods[k]?=some m)(s:Str)(v:GVal):({ mach t path st with modules:=(bxs st.mods).set k ⟨{ m with attrs:=Za m.attrs s v }⟩ }:Machine)=mach t path (st.give k s v):=by
 rw[WT,set_give hm];rfl
theorem look_eq(ht:Good t)(hp:path.length<=1048576)(h:Inv st)(hs:Small st)(hv:zm s=true):yD (mach t path st) s=some (mach t path st,wg t path st s):=by
 have hn:=name_of hv;unfold yD wg;rw[XP hv,Kd];by_cases he:zF s=emptyS
 ·have hl:je s=s:=by
   rw[he] at hn;unfold child at hn;rw[Ke Z] at hn;exact hn.symm
  rw[Ke (decide_eq_true (show zF s=(⟨[]⟩:Str) from he)),Ke he,show(mach t path st).t=t from Z,show(mach t path st).path=path from Z,
   find_eq ht hp (p:=(⟨[]⟩:Str)) (by rfl) (by rw[← hl];exact JY hv) (show zm (child emptyS s)=true by unfold child;rw[Ke Z];exact hv),Kd]
  rfl
 ·have he':¬ zF s=(⟨[]⟩:Str):=he;rw[Kf (by simp[he']),Kf he,YW hs.mods,Kd];rcases jB st (zF s) with⟨h1,_⟩ | ⟨k,m,h1,h2,h3,_⟩
  ·rw[h1,XV];rw[show((true == false):Bool)=false from Z,Zm,Kd,Zm,Kd,Ke (by simp),Ke Z];rfl
  ·have hb:(bxs st.mods)[k]?=some ⟨m⟩:=by rw[bxs_get,h2];rfl
   rw[h1,Zo,show((false == false):Bool)=true from Z,YC,YC,show(mach t path st).modules=bxs st.mods from Z,zK,hb,Kd,Int.toNat_natCast,hb,Kd,Bool.false_or,Kf (by decide:¬ (false=true)),Wa h2,zdu h2];by_cases hk:m.kind=1
   ·rw[Ke (by simp[cmpI,hk]),Ke hk];rfl
   ·rw[Kf (by simp[cmpI,hk]),Kf hk,Kd,Kd,LastOf_eq hv,Kd];have hpp:=(Xg hv he).2;rw[show(mach t path st).t=t from Z,find_eq ht (h.at_ h2).2.2.2 (Zt hpp) (JY hv) (by rw[← hn];exact hv),Kd]
variable{n:Nat}
def Ja(t:Tree)(path:List Int)(n:Nat)(R:Rec)(I:RImp):Prop:=
 ∀ (st:RSt) (s:Str) (r:RSt×Int×Int),Inv st->zm s=true->4*st.left.toNat+(zx s dot).length<=n->st.size<=20000->I st s=some r->R.impl_machine_load1 (mach t path st) s=some (mach t path r.1,r.2.1,r.2.2)
theorem Jy(h:¬ e=0):cmpI .neq e 0=true:=by simp[cmpI,h]
theorem xN(h:a=b):cmpI .eql a b=true:=by simp[cmpI,h]
theorem xI(h:¬ a=b):cmpI .eql a b=false:=by simp[cmpI,h]
theorem wU{l:List GMod}(h:l[k]?=some m):(bxs l)[k]?=some ⟨m⟩:=by rw[bxs_get,h];rfl
theorem Grow.at_{a b:RSt}(h:Grow a b)(hm:a.mods[k]?=some m):∃ m',b.mods[k]?=some m':=let⟨m',h1,_⟩:=h.old k m hm;⟨m',h1⟩
theorem give_at(h:Inv st)(hm:st.mods[k]?=some m)(s:Str)(v:GVal){β:Type}(f:Machine->β):
  (((mach t path st).modules[k]?).bind λ v39=>(yk v39.x s v).bind λ v41=>some (f { mach t path st with modules:=(mach t path st).modules.set k ⟨v41⟩ }))=some (f (mach t path (st.give k s v))):=by
 rw[show(mach t path st).modules=bxs st.mods from Z,wU hm,Kd,give_eq (h.at_ hm).2.2.1,Kd,mach_give hm]
theorem do_0(hI:qQ n I)(hL:Ja t path n R I)(h:Inv st)(hn:4*st.left.toNat+3<=n)(hsz:st.size<=19950)(hk:st.mods[k]?=some m)(hx:zW x=true)(hkd:x.kind=0)(hr:Z2 t path I st k x=some r):
  yt R (mach t path st) (k:Int) x=some (mach t path r.1,r.2):=by
 have hv:=YV hx (.inl hkd);have hpl:=jN hv;obtain⟨q,hq,hp⟩:=hI st x.module h hv (by omega);have hqs:=hp.size;unfold Z2 at hr;rw[Ke hkd,hq,Kd] at hr;have hld:=hL st x.module q h hv (by omega) (by omega) hq;unfold yt;rw[show(mach t path st).modules=bxs st.mods from Z,zK,wU hk,Kd,Ke (xN hkd),hld,Kd];by_cases he:q.2.2=0
 ·rw[Kf (by simp[he])] at hr;have hc:=CutF_eq (s:=x.module) (by have:=xf hv;omega);obtain⟨a,b,hc⟩:=hc;obtain⟨m',hm'⟩:=hp.grow.at_ hk;simp only;rw[he,Kf (by decide),hc,Kd,YW (RSt.small (n:=20000) (by omega) (hn:=(by omega))).mods,Kd];cases hcx:cmpI .lss (cix q.1 (ZB x.module)) 0 with
  |true=>rw[Ke hcx] at hr;rw[Ke Z];injection hr with hr;subst hr;rfl
  |false=>rw[Kf (by simp[hcx])] at hr;injection hr with hr;subst hr;rw[Kf (by decide),Int.toNat_natCast];have:=give_at (t:=t) (path:=path) hp.inv hm' (ZB x.module) ⟨1,cix q.1 (ZB x.module)⟩ (λ mm=>(Sum.inl mm:Machine⊕(Machine×Int)));rw[this];rfl
 ·rw[Ke he] at hr;injection hr with hr;subst hr;simp only;rw[Ke (Jy he)];rfl
theorem do_2loop(hk':∃ m,st.mods[k]?=some m)(l:List GAttr)(h:Inv st)(hl:∀ a∈l,zB a.name=true)(hb:l.length<=16777216):
  zH (λ s248=>yK R (k:Int) l s248) (mach t path st,(0:Int))=some (Sum.inl (mach t path (starF k l st))):=by
 obtain⟨m0,hm0⟩:=hk';have key:=Q5 (step:=λ s248=>yK R (k:Int) l s248) l (λ(s:RSt) j=>(mach t path s,(j:Int))) (λ s a=>if(a.name.l.headD 0 == 122)=true then s else s.give k a.name a.value) (λ s=>(Sum.inl (mach t path s):Machine⊕(Machine×Int))) (λ _ s=>Inv s/\∃ m,s.mods[k]?=some m)
  (λ j s a ha hlt ⟨hi,m1,hm1⟩=>by
   have hva:=hl a (List.mem_of_getElem? ha);have hne:a.name.l[0]?=some (a.name.l.headD 0):=by
    rcases J0 hva with⟨c,e,_⟩ | ⟨c,d,e,_⟩ | ⟨c,d,e',e,_⟩ <;> rw[e] <;> rfl
   have hat:atI a.name.l (0:Int)=some (a.name.l.headD 0):=hne;have hgr:=Grow.give (st:=s) k a.name a.value;obtain⟨m2,hm2⟩:=hgr.at_ hm1;have hs:yK R (k:Int) l (mach t path s,(j:Int))=some (.inl (mach t path (if(a.name.l.headD 0 == 122)=true then s else s.give k a.name a.value),((j+1:Nat):Int))):=by
    unfold yK;simp only;rw[zS,Ke (decide_eq_true hlt),zK,ha,Kd,hat,Kd,zJ (by omega),Int.toNat_natCast];cases hz:(a.name.l.headD 0 == 122) with
    |true=>rw[Kf (by simp[cmpB] at hz ⊢;exact hz),Ke Z];rfl
    |false=>have hg:=give_at (t:=t) (path:=path) hi hm1 a.name a.value (λ mm=>mm);rw[Ke (by simp[cmpB] at hz ⊢;exact hz),hg,Kf (by decide)];rfl
   refine⟨hs,?_⟩;split
   ·exact⟨hi,m1,hm1⟩
   ·exact⟨hi.give k _ hva,m2,hm2⟩)
  (λ s _=>by
   unfold yK;simp only;rw[zS,Kf (by simp)]) (s0:=st) ⟨h,m0,hm0⟩ (by omega)
 exact key
theorem do_2(hI:qQ n I)(hL:Ja t path n R I)(h:Inv st)(hn:4*st.left.toNat+3<=n)(hsz:st.size<=19950)(hk:st.mods[k]?=some m)(hx:zW x=true)(hkd:x.kind=2)(hr:Z2 t path I st k x=some r):
  yt R (mach t path st) (k:Int) x=some (mach t path r.1,r.2):=by
 have hv:=YV hx (.inr hkd);have hpl:=jN hv;obtain⟨q,hq,hp⟩:=hI st x.module h hv (by omega);have hqs:=hp.size;unfold Z2 at hr;rw[Kf (by omega),Kf (by omega),Ke hkd,hq,Kd] at hr;have hld:=hL st x.module q h hv (by omega) (by omega) hq;unfold yt;rw[show(mach t path st).modules=bxs st.mods from Z,zK,wU hk,Kd,Kf (by rw[xI (by omega)];decide),Kf (by rw[xI (by omega)];decide),Ke (xN hkd),hld,Kd];by_cases he:q.2.2=0
 ·rw[Kf (by simp[he])] at hr;obtain⟨m',hm'⟩:=hp.grow.at_ hk;obtain⟨m2,hm2,_,h0⟩:=hp.good he;have hi2:=hp.inv.at_ hm2;obtain⟨j,hj⟩:∃ j:Nat,q.2.1=j:=⟨_,(Int.toNat_of_nonneg h0).symm⟩;rw[hj,Int.toNat_natCast] at hm2;rw[hj,Int.toNat_natCast,Xs hm2] at hr;injection hr with hr;subst hr;simp only;rw[he,Kf (by decide),hj,show(mach t path q.1).modules=bxs q.1.mods from Z,zK,wU hm2,Kd,Int.toNat_natCast,wU hm2,Kd,
   xw (by simp;omega) (by simp;omega),Kd,List.nil_append,do_2loop ⟨m',hm'⟩ m2.attrs hp.inv (hp.inv.parts m2 hi2.1) hi2.2.2.1]
  rfl
 ·rw[Ke he] at hr;injection hr with hr;subst hr;simp only;rw[Ke (Jy he)];rfl
theorem do_3(h:Inv st)(hsz:st.size<=19950)(hk:st.mods[k]?=some m)(hkd:x.kind≠0/\x.kind≠1/\x.kind≠2)(hr:Z2 t path I st k x=some r):
  yt R (mach t path st) (k:Int) x=some (mach t path r.1,r.2):=by
 have hi:=h.at_ hk;unfold Z2 at hr;rw[Kf hkd.1,Kf hkd.2.1,Kf hkd.2.2] at hr;unfold yt;rw[show(mach t path st).modules=bxs st.mods from Z,zK,wU hk,Kd,Kf (by rw[xI hkd.1];decide),Kf (by rw[xI hkd.2.1];decide),Kf (by rw[xI hkd.2.2];decide),Int.toNat_natCast];by_cases h3:x.kind=3
 ·rw[Ke h3] at hr;injection hr with hr;subst hr;have:=give_at (t:=t) (path:=path) h hk x.name ⟨0,x.value⟩ (λ mm=>(Sum.inl mm:Machine⊕(Machine×Int)));rw[Ke (xN h3)];refine(congrArg (λ o=>Option.bind o _) this).trans ?_;rfl
 ·rw[Kf h3] at hr;rw[Kf (by rw[xI h3];decide)];by_cases h4:x.kind=4
  ·rw[Ke h4,Xs hk] at hr;rw[Ke (xN h4),wU hk,Kd,attr_eq' hi.2.2.1,Kd];cases hg:cmpI .geq (aix m.attrs x.name) 0 with
   |false=>
    have hl:cmpI .lss (aix m.attrs x.name) 0=true:=by rw[lss_geq] at hg;simpa using hg
    rw[Ke hl] at hr;injection hr with hr;subst hr;rw[Kf (show ¬ (false=true) by decide)];rfl
   |true=>
    have hl:cmpI .lss (aix m.attrs x.name) 0=false:=by rw[lss_geq] at hg;simpa using hg
    rw[hl,Kf (by decide)] at hr;injection hr with hr;subst hr;have ho:st.out.length<=19950:=by unfold RSt.size at hsz;omega
    rw[Ke (show true=true from Z)];show Option.bind (if cmpI .eql (val0 m.attrs (aix m.attrs x.name)).kind 1=true then _ else _) _=some (mach t path { st with out:=st.out++[if(val0 m.attrs (aix m.attrs x.name)).kind=1 then -1 else(val0 m.attrs (aix m.attrs x.name)).num] },0);by_cases hz:(val0 m.attrs (aix m.attrs x.name)).kind=1
    ·rw[Ke (xN hz),Ke hz,xw (by show(st.out.length+1)*8<=_;omega) (by show st.out.length+1<=_;omega),Kd];rfl
    ·rw[Kf (by rw[xI hz];decide),Kf hz,xw (by show(st.out.length+1)*8<=_;omega) (by show st.out.length+1<=_;omega),Kd];rfl
  ·rw[Kf h4] at hr;rw[Kf (by rw[xI h4];decide)];by_cases h5:x.kind=5
   ·rw[Ke h5] at hr;injection hr with hr;subst hr;rw[Ke (xN h5)];rfl
   ·rw[Kf h5] at hr;injection hr with hr;subst hr;rw[Kf (by rw[xI h5];decide)];rfl
variable{n:Nat}
theorem childOk_eq(hp:zm p=true)(hs:zB s=true):WQ p s=if zm (child p s)=true then child p s else emptyS:=by
 unfold WQ;rw[Zt hp,hs];cases zm (child p s) <;> rfl
theorem valid_ne(h:zm s=true):¬ s=(⟨[]⟩:Str):=λ e=>by rw[e,show zm (⟨[]⟩:Str)=false from Z] at h;cases h
theorem part_len(h:zB s=true):s.l.length<=3:=by
 unfold zB inR at h;simp only[Bool.and_eq_true,cmpI,decide_eq_true_eq] at h;have:=h.1.2;omega
theorem value_eq(ht:Good t)(hp:path.length<=1048576)(hI:qQ n I)(hL:Ja t path n R I)(h:Inv st)(hn:4*st.left.toNat+3<=n)(hsz:st.size<=20000)(hj:st.mods[j]?=some m)(hnm:zB nm=true)(hv:QP t path I st j nm=some v):
  (if(!(if cmpI .geq (aix m.attrs nm) 0=true then(val0 m.attrs (aix m.attrs nm),true) else((⟨0,0⟩:GVal),false)).2)=true then((xH m.name nm).bind λ v171=>
(atI (mach t path st).modules (j:Int)).bind λ _v175=>
((mach t path st).modules[(j:Int).toNat]?).bind λ v177=>
(gO ((cmpI .eql v177.x.kind (1:Int)||decide (v171=(⟨[]⟩:Str))) == false) (zT (mach t path st) v171)).bind λ v178=>
(gO (((cmpI .eql v177.x.kind (1:Int)||decide (v171=(⟨[]⟩:Str))) == false)&&(cmpI .lss v178 (0:Int) == true)) (yD (mach t path st) v171)).bind λ v184=>
if((cmpI .eql v177.x.kind (1:Int)||decide (v171=(⟨[]⟩:Str)))||(cmpI .lss v178 (0:Int)&&cmpI .eql v184.2.kind (0:Int)))=true then(some (.inr (.inr ((if(((cmpI .eql v177.x.kind (1:Int)||decide (v171=(⟨[]⟩:Str))) == false)&&(cmpI .lss v178 (0:Int) == true))=true then v184.1 else(mach t path st)),(2:Int)))))
else((R.impl_machine_load1 (if(((cmpI .eql v177.x.kind (1:Int)||decide (v171=(⟨[]⟩:Str))) == false)&&(cmpI .lss v178 (0:Int) == true))=true then v184.1 else(mach t path st)) v171).bind λ v196=>
if(cmpI .neq v196.2.2 (0:Int))=true then(some (.inr (.inr (v196.1,v196.2.2))))
else(some (.inl (v196.1,(⟨(1:Int),v196.2.1⟩:GVal))))))
else(some (.inl ((mach t path st),(if cmpI .geq (aix m.attrs nm) 0=true then(val0 m.attrs (aix m.attrs nm),true) else((⟨0,0⟩:GVal),false)).1))):Option ((Machine×GVal)⊕(Machine⊕(Machine×Int))))=some (if v.2.2=0 then .inl (mach t path v.1,v.2.1) else .inr (.inr (mach t path v.1,v.2.2))):=by
 have hi:=h.at_ hj;have hnl:=xf hi.2.1;have hnp:=part_len hnm;unfold QP at hv;rw[Xs hj,Wa hj,zab hj] at hv;cases hg:cmpI .geq (aix m.attrs nm) 0 with
 |true=>rw[Ke hg] at hv;injection hv with hv;subst hv;rfl
 |false=>
  rw[hg,Kf (show ¬ (false=true) by decide)] at hv;rw[Kf (show ¬ (false=true) by decide),Ke (show(!false)=true from Z),za0 (by omega),Kd,childOk_eq hi.2.1 hnm,show(mach t path st).modules=bxs st.mods from Z,zK,wU hj,Kd,Int.toNat_natCast,wU hj,Kd];by_cases hc:m.kind=1\/zm (child m.name nm)=false
  ·rw[Ke hc] at hv;injection hv with hv;subst hv;have hd:(cmpI .eql m.kind (1:Int)||decide ((if zm (child m.name nm)=true then child m.name nm else emptyS)=(⟨[]⟩:Str)))=true:=by
    rcases hc with hc | hc
    ·rw[xN hc];rfl
    ·rw[hc,Bool.or_eq_true];exact .inr Z
   simp only;rw[hd,show(true == false)=false from Z,Zm,Kd,Bool.false_and,Zm,Kd,Bool.true_or,Ke (show true=true from Z),Kf (show ¬ (false=true) by decide)];rfl
  ·rw[Kf hc] at hv;have hk1:¬ m.kind=1:=λ e=>hc (.inl e)
   have hvc:zm (child m.name nm)=true:=by cases e:zm (child m.name nm) with | true=>rfl | false=>exact absurd (.inr e) hc
   have hpl:=jN hvc;rw[Ke hvc];have hd:(cmpI .eql m.kind (1:Int)||decide (child m.name nm=(⟨[]⟩:Str)))=false:=by rw[xI hk1,decide_eq_false (valid_ne hvc)];rfl
   obtain⟨q,hq,hqp⟩:=hI st _ h hvc (by omega);have hld:=hL st _ q h hvc (by omega) hsz hq;have sm:=RSt.small hsz;have fin:(R.impl_machine_load1 (mach t path st) (child m.name nm)).bind (λ v196=>if(cmpI .neq v196.2.2 (0:Int))=true then(some (.inr (.inr (v196.1,v196.2.2)))) else(some (.inl (v196.1,(⟨(1:Int),v196.2.1⟩:GVal)))))=some ((if q.2.2=0 then .inl (mach t path q.1,⟨1,q.2.1⟩) else .inr (.inr (mach t path q.1,q.2.2))):(Machine×GVal)⊕(Machine⊕(Machine×Int))):=by
    rw[hld,Kd];by_cases he:q.2.2=0
    ·simp only;rw[he,Kf (by decide),Ke Z]
    ·simp only;rw[Ke (Jy he),Kf he]
   simp only;rw[hd,show(false == false)=true from Z,YC,YW sm.mods,Kd,Bool.true_and];simp only[Bool.false_or];cases hl:cmpI .lss (cix st (child m.name nm)) 0 with
   |true=>
    rw[show(true == true)=true from Z,YC,look_eq ht hp h sm hvc,Kd,Bool.true_and];simp only[if_true];by_cases hz:(wg t path st (child m.name nm)).kind=0
    ·rw[Ke ⟨hl,hz⟩] at hv;injection hv with hv;subst hv;rw[Ke (xN hz)];rfl
    ·rw[Kf (λ e=>hz e.2),hq,Kd] at hv;injection hv with hv;subst hv;rw[Kf (by rw[xI hz];decide)];exact fin
   |false=>rw[Kf (λ e=>by rw[hl] at e;exact absurd e.1 (by decide)),hq,Kd] at hv;injection hv with hv;subst hv;rw[show(false == true)=false from Z,Zm,Kd,Bool.false_and,Kf (show ¬ (false=true) by decide),Kf (show ¬ (false=true) by decide)];exact fin
theorem do_1(ht:Good t)(hp:path.length<=1048576)(hI:qQ n I)(hL:Ja t path n R I)(h:Inv st)(hn:4*st.left.toNat+3<=n)(hsz:st.size<=19950)(hk:st.mods[k]?=some m)(hx:zW x=true)(hkd:x.kind=1)(hr:Z2 t path I st k x=some r):
  yt R (mach t path st) (k:Int) x=some (mach t path r.1,r.2):=by
 have hi:=h.at_ hk;have hsx:zv x.module=true/\0<=x.level/\x.level<=3:=by
  rcases YE hx with h1 | h1 | h1
  ·exact absurd h1.1 (by omega)
  ·exact⟨h1.2.1,h1.2.2.1,h1.2.2.2⟩
  ·exact absurd hkd h1.2.1
 have hnm:=Jv hx (.inl hkd);unfold Z2 at hr;have hpk:JX st k=if m.kind=1 then zF m.name else m.name:=by unfold JX;rw[Wa hk,zab hk]
 rw[Kf (by omega),Ke hkd,hpk] at hr;have hpv:zv (if m.kind=1 then zF m.name else m.name)=true:=by
  split
  ·exact WD (Zt hi.2.1)
  ·exact Zt hi.2.1
 unfold yt;rw[show(mach t path st).modules=bxs st.mods from Z,zK,wU hk,Kd,Kf (by rw[xI (by omega)];decide),Ke (xN hkd),Int.toNat_natCast,wU hk,Kd,packOf_eq hi.2.1,Kd,zdt hpv hsx.1 hsx.2.1 hsx.2.2,Kd];generalize Z1 (if m.kind=1 then zF m.name else m.name) x.level x.module=s1 at*;unfold orE;cases hv:zm s1 with
 |false=>rw[Ke hv] at hr;injection hr with hr;subst hr;rw[Kf (show ¬ (false=true) by decide),Ke (show decide (emptyS=(⟨[]⟩:Str))=true from Z)];rfl
 |true=>
  rw[Kf (by rw[hv];decide)] at hr;have hpl:=jN hv;obtain⟨q,hq,hqp⟩:=hI st s1 h hv (by omega);have hqs:=hqp.size;have hld:=hL st s1 q h hv (by omega) (by omega) hq;rw[hq,Kd] at hr;rw[Ke (show true=true from Z),Kf (by rw[decide_eq_false (valid_ne hv)];decide),hld,Kd];by_cases he:q.2.2=0
  ·rw[Kf (by simp[he])] at hr;obtain⟨m',hm'⟩:=hqp.grow.at_ hk;obtain⟨m2,hm2,hmn,h0⟩:=hqp.good he;have hi2:=hqp.inv.at_ hm2;have hlq:=hqp.grow.left;obtain⟨j,hj⟩:∃ j:Nat,q.2.1=j:=⟨_,(Int.toNat_of_nonneg h0).symm⟩;rw[hj,Int.toNat_natCast] at hm2;rw[hj,Int.toNat_natCast] at hr;have hn':4*q.1.left.toNat+3<=n:=by have:=h.left;have:=hqp.inv.left;omega
   obtain⟨v,hve,hvb⟩:=value_ok (t:=t) (path:=path) hI hqp.inv hn' j x.name hnm;have hval:=value_eq ht hp hI hL hqp.inv hn' (by omega) hm2 hnm hve;rw[hmn] at hval;rw[hve,Kd] at hr;obtain⟨m3,hm3⟩:=hvb.grow.at_ hm';simp only;rw[he,Kf (by decide),hj,show(mach t path q.1).modules=bxs q.1.mods from Z,zK,wU hm2,Kd,Int.toNat_natCast,wU hm2,Kd,attr_eq' hi2.2.2.1,Kd,Kd];rw[show(mach t path q.1).modules=bxs q.1.mods from Z,zK,Int.toNat_natCast,wU hm2] at hval;dsimp only at hval ⊢;rw[hval];by_cases hz:v.2.2=0
   ·rw[Ke hz];rw[Kf (by simp[hz])] at hr;injection hr with hr;subst hr;have:=give_at (t:=t) (path:=path) hvb.inv hm3 x.name v.2.1 (λ mm=>(Sum.inl mm:Machine⊕(Machine×Int)));simp only[Kd,Sum.elim_inl];refine(congrArg (λ o=>Option.bind o _) this).trans ?_;rfl
   ·rw[Kf hz];rw[Ke hz] at hr;injection hr with hr;subst hr;rfl
  ·rw[Ke he] at hr;injection hr with hr;subst hr;simp only;rw[Ke (Jy he)];rfl
theorem do_eq(ht:Good t)(hp:path.length<=1048576)(hI:qQ n I)(hL:Ja t path n R I)(h:Inv st)(hn:4*st.left.toNat+3<=n)(hsz:st.size<=19950)(hk:st.mods[k]?=some m)(hx:zW x=true)(hr:Z2 t path I st k x=some r):
  yt R (mach t path st) (k:Int) x=some (mach t path r.1,r.2):=by
 by_cases h0:x.kind=0
 ·exact do_0 hI hL h hn hsz hk hx h0 hr
 ·by_cases h1:x.kind=1
  ·exact do_1 ht hp hI hL h hn hsz hk hx h1 hr
  ·by_cases h2:x.kind=2
   ·exact do_2 hI hL h hn hsz hk hx h2 hr
   ·exact do_3 h hsz hk ⟨h0,h1,h2⟩ hr
variable{n:Nat}
def DoEq(t:Tree)(path:List Int)(n:Nat)(R:Rec)(I:RImp):Prop:=
 ∀ (st:RSt) (k:Nat) (m:GMod) (x:Stmt) (r:RSt×Int),Inv st->st.mods[k]?=some m->zW x=true->4*st.left.toNat+3<=n->st.size<=19950->Z2 t path I st k x=some r->R.impl_machine_do (mach t path st) (k:Int) x=some (mach t path r.1,r.2)
def RSt.tick(st:RSt):RSt:={ st with left:=st.left - 1 }
theorem Inv.tick(h:Inv st)(hz:¬ st.left=0):Inv st.tick:=⟨h.names,h.roots,h.parts,h.apart,by have:=h.left;show(0:Int)<=st.left - 1;omega⟩
theorem size_tick(h:Inv st)(hz:¬ st.left=0):st.tick.size+100=st.size:=by
 unfold RSt.size RSt.tick;have:=h.left;simp only;omega
theorem body_loop(hI:qQ n I)(hD:DoEq t path n R I)(k:Nat)(l:List Stmt)(hl:∀ x∈l,zW x=true)(hlen:l.length<1000000000):∀ (m i:Nat) (st:RSt) (r:RSt×Int),i+m=l.length->Inv st->(∃ mm,st.mods[k]?=some mm)->4*st.left.toNat<=n+1->st.left<=1000000->st.size<=20050->J8 t path I k (l.drop i) st=some r->
  wV (λ s24=>yj R (k:Int) l s24) (m+1) (mach t path st,(0:Int),(i:Int))=some (mach t path r.1,r.2)
 |0,i,st,r,hi,_,_,_,_,_,hr=>by
  have:i=l.length:=by omega
  subst this;rw[List.drop_length] at hr;unfold J8 at hr;injection hr with hr;subst hr;refine yx ?_;unfold yj;simp only;rw[zS,Kf (by simp)]
 |m+1,i,st,r,hi,h,⟨mm,hmm⟩,hn,hle,hsz,hr=>by
  have hlt:i<l.length:=by omega
  have hx:l[i]?=some l[i]:=List.getElem?_eq_getElem hlt;have hv:=hl l[i] (List.getElem_mem hlt);rw[List.drop_eq_getElem_cons hlt] at hr;unfold J8 at hr;have hl0:=h.left;by_cases hz:st.left=0
  ·rw[Ke hz] at hr;injection hr with hr;subst hr;refine yx ?_;unfold yj;simp only;rw[zS,Ke (decide_eq_true hlt),zK,hx,Kd,show(mach t path st).left=st.left from Z,Ke (xN hz)]
  ·rw[Kf hz] at hr;have ht:=h.tick hz;have hts:=size_tick h hz;have htl:st.tick.left=st.left - 1:=rfl;obtain⟨q,hq,hb⟩:=stmt_ok (t:=t) (path:=path) hI ht (by rw[htl];omega) k hv;have hbs:=hb.size;have hbl:=hb.grow.left;have hbi:=hb.inv.left;obtain⟨m2,hm2⟩:=hb.grow.at_ (show st.tick.mods[k]?=some mm from hmm);have hd:=hD st.tick k mm l[i] q ht hmm hv (by rw[htl];omega) (by omega) hq;rw[show Z2 t path I { st with left:=st.left - 1 } k l[i]=some q from hq,Kd] at hr;have hs:yj R (k:Int) l (mach t path st,(0:Int),(i:Int))=some (if q.2≠0 then .inr (mach t path q.1,q.2) else .inl (mach t path q.1,q.2,((i+1:Nat):Int))):=by
    unfold yj;simp only;rw[zS,Ke (decide_eq_true hlt),zK,hx,Kd,show(mach t path st).left=st.left from Z,Kf (by rw[xI hz];decide),YL (by omega) (by omega),Kd,
     show({ mach t path st with left:=st.left - 1 }:Machine)=mach t path st.tick from Z,hd,Kd,zJ (by omega),Kd]
    by_cases he:q.2=0
    ·simp only;rw[he,Kf (by decide),Kf (by simp)]
    ·simp only;rw[Ke (Jy he),Ke he]
   by_cases he:q.2=0
   ·rw[Kf (by simp[he])] at hr;rw[Kf (by simp[he]),he] at hs;rw[w6 hs];exact body_loop hI hD k l hl hlen m (i+1) q.1 r (by omega) hb.inv ⟨m2,hm2⟩ (by rw[htl] at hbl;omega) (by rw[htl] at hbl;omega) (by omega) hr
   ·rw[Ke he] at hr;injection hr with hr;subst hr;rw[Ke he] at hs;exact yx hs
theorem zdv(tf:List File)(roots:List Int)(p s:Str):(ZH tf roots p s).file<tf.length:=zbg tf p s roots []
theorem zac(s:Str):(wg t path st s).file<t.files.length:=by
 unfold wg;split
 ·exact zdv ..
 ·split
  ·show(-1:Int)<_;omega
  ·split
   ·show(-1:Int)<_;omega
   ·exact zdv ..
theorem body_eq(hv:ya t=true)(hI:qQ n I)(hD:DoEq t path n R I)(h:Inv st)(hn:4*st.left.toNat<=n+1)(hle:st.left<=1000000)(hsz:st.size<=20040)(hk:st.mods[k]?=some m){sp:Spec}(hf:sp.file<t.files.length)(hr:runF t path I (st.note 0 m.name) k sp=some r):
  qu R (mach t path st) (k:Int) sp=some (mach t path (r.1.note (if r.2=0 then 1 else 2) m.name),r.2):=by
 have sm:=RSt.small hsz;have hi:Inv (st.note 0 m.name):=h.note _ _;have hnz:(st.note 0 m.name).size=st.size+1:=by unfold RSt.size RSt.note;simp only[List.length_append,List.length_cons,List.length_nil];omega
 obtain⟨q,hq,hb⟩:=zcm (path:=path) hv hI hi (by exact hn) k sp;rw[hq] at hr;injection hr with hr;subst hr;have hqs:=hb.size;have smq:=RSt.small (st:=q.1) (n:=20050) (by omega);have hrun:(if(cmpI .geq sp.file (0:Int))=true then((atI t.files sp.file).bind λ v19=>(yC v19).bind λ v20=>zH (λ s24=>yj R (k:Int) v20 s24) (mach t path (st.note 0 m.name),(0:Int),(0:Int))) else(some (mach t path (st.note 0 m.name),(0:Int))))=some (mach t path q.1,q.2):=by
  unfold runF at hq;cases hg:cmpI .geq sp.file 0 with
  |false=>rw[hg,Kf (show ¬ (false=true) by decide)] at hq;injection hq with hq;subst hq;rw[Kf (show ¬ (false=true) by decide)]
  |true=>
   have h0:0<=sp.file:=oD hg;rw[hg,Ke (show true=true from Z)] at hq;have hbv:=JZ hv sp.file;have hbl:(W8 t.files sp.file).body.length<=8:=by
    unfold W8;cases hfl:t.files[sp.file.toNat]? with
    | none=>exact Nat.zero_le _
    |some f=>have:=WC hv (List.mem_of_getElem? hfl);unfold jR at this;simp only[Bool.and_eq_true,cmpI,decide_eq_true_eq] at this;show f.body.length<=8;omega
   rw[Ke (show true=true from Z),atI_file h0 hf,Kd,show yC ((t.files[sp.file.toNat]?).getD default)=some (W8 t.files sp.file).body from Z,Kd];refine ji (m:=(W8 t.files sp.file).body.length+1) (body_loop hI hD k _ hbv (by omega) _ 0 (st.note 0 m.name) q (by omega) hi ⟨m,hk⟩ hn hle (by omega) (by rw[List.drop_zero];exact hq)) (by omega)
 unfold qu;rw[show(mach t path st).modules=bxs st.mods from Z,zK,wU hk,Kd,Int.toNat_natCast,wU hk,Kd,zbP sm.log,Kd];rw[show(mach t path (st.note 0 m.name)).t=t from Z,show(mach t path (st.note 0 m.name)).load.g=yC from Z,hrun,Kd];by_cases he:q.2=0
 ·simp only;rw[Ke (xN he),Ke he,zbP smq.log];rfl
 ·simp only;rw[Kf (by rw[xI he];decide),Kf he,zbP smq.log];rfl
theorem cix_empty(h:Inv st):cix st emptyS=-1:=by
 rcases jB st emptyS with h1 | ⟨k,m,_,h2,h3,_⟩
 ·exact h1.1
 ·have:=h.names m (List.mem_of_getElem? h2);rw[h3] at this;cases this
theorem set_fail(hm:st.mods[k]?=some m)(s:Str):({ mach t path (st.note 2 s) with modules:=(bxs st.mods).set k ⟨{ m with cached:=false }⟩ }:Machine)=mach t path (st.fail k s):=by
 rw[WT];unfold RSt.fail;rw[q6 _ hm];rfl
theorem set_done(hm:st.mods[k]?=some m)(s:Str):({ mach t path (st.note 1 s) with modules:=(bxs st.mods).set k ⟨{ m with done:=true }⟩ }:Machine)=mach t path (st.done k s):=by
 rw[WT];unfold RSt.done;rw[q6 _ hm];rfl
variable{n:Nat}
def BodyEq(t:Tree)(path:List Int)(n:Nat)(R:Rec)(I:RImp):Prop:=
 ∀
  (st:RSt) (k:Nat) (m:GMod) (sp:Spec) (r:RSt×Int),Inv st->4*st.left.toNat<=n+1->st.left<=1000000->st.size<=20040->st.mods[k]?=some m->sp.file<t.files.length->runF t path I (st.note 0 m.name) k sp=some r->
  R.impl_machine_body (mach t path st) (k:Int) sp=some (mach t path (r.1.note (if r.2=0 then 1 else 2) m.name),r.2)
def RSt.grown(st:RSt)(s:Str)(sp:Spec):RSt:={ st with mods:=st.mods++[⟨s,sp.kind,sp.roots,true,false,[]⟩] }
theorem load_new(ht:Good t)(hp:path.length<=1048576)(hI:qQ n I)(hB:BodyEq t path n R I)(h:Inv st)(hn:4*st.left.toNat<=n+1)(hle:st.left<=1000000)(hsz:st.size<=20020)(hs:zm s=true){r:RSt×Int×Int}(hr:newF t path I st s (wg t path st s)=some r):
  ((yD (mach t path st) s).bind λ v48=>
if(cmpI .eql v48.2.kind (0:Int))=true then(some (v48.1,(-1:Int),(1:Int)))
else((appO 8 [] v48.2.roots).bind λ v63=>
(appO 8 v48.1.modules [⟨(⟨s,v48.2.kind,v63,true,false,[]⟩:GMod)⟩]).bind λ v84=>
(R.impl_machine_body ({ v48.1 with modules:=v84 }) (v48.1.modules.length:Int) v48.2).bind λ v93=>
if(cmpI .neq v93.2 (0:Int))=true then((v93.1.modules[v48.1.modules.length]?).bind λ v100=>
some ({ v93.1 with modules:=(v93.1.modules.set v48.1.modules.length ⟨{ v100.x with cached:=false }⟩) },(-1:Int),v93.2))
else((v93.1.modules[v48.1.modules.length]?).bind λ v106=>
Option.bind (α:=Machine) ((zT ({ v93.1 with modules:=(v93.1.modules.set v48.1.modules.length ⟨{ v106.x with done:=true }⟩) }) (zF s)).bind λ v111=>
if(decide (zF s≠(⟨[]⟩:Str))&&cmpI .geq v111 (0:Int))=true then((atI (v93.1.modules.set v48.1.modules.length ⟨{ v106.x with done:=true }⟩) v111).bind λ _v118=>
(jr s).bind λ v120=>
((v93.1.modules.set v48.1.modules.length ⟨{ v106.x with done:=true }⟩)[v111.toNat]?).bind λ v125=>
(yk v125.x v120 (⟨(1:Int),(v48.1.modules.length:Int)⟩:GVal)).bind λ v127=>
some ({ v93.1 with modules:=((v93.1.modules.set v48.1.modules.length ⟨{ v106.x with done:=true }⟩).set v111.toNat ⟨v127⟩) }))
else(some ({ v93.1 with modules:=(v93.1.modules.set v48.1.modules.length ⟨{ v106.x with done:=true }⟩) }))) λ o110=>
some (o110,(v48.1.modules.length:Int),(0:Int)))))=some (mach t path r.1,r.2.1,r.2.2):=by
 have sm:=RSt.small hsz;have hlr:=Xr (t:=t) h hp s;have hlf:=zac (t:=t) (path:=path) (st:=st) s;rw[look_eq ht hp h sm hs,Kd];unfold newF at hr;generalize wg t path st s=sp at*;by_cases hk:sp.kind=0
 ·rw[Ke hk] at hr;injection hr with hr;subst hr;rw[Ke (xN hk)]
 ·rw[Kf hk] at hr;have hgi:Inv (st.grown s sp):=⟨(h.begin (sp:=sp) hs hlr).names,(h.begin (sp:=sp) hs hlr).roots,(h.begin (sp:=sp) hs hlr).parts,(h.begin (sp:=sp) hs hlr).apart,h.left⟩;have hgz:(st.grown s sp).size=st.size+1:=by unfold RSt.size RSt.grown;simp only[List.length_append,List.length_cons,List.length_nil];omega
  have hgm:(st.grown s sp).mods[st.mods.length]?=some ⟨s,sp.kind,sp.roots,true,false,[]⟩:=by unfold RSt.grown;simp
  have hbz:(st.begin s sp).size=st.size+2:=by unfold RSt.size RSt.begin;simp only[List.length_append,List.length_cons,List.length_nil];omega
  obtain⟨q,hq,hb⟩:=zcm (path:=path) ht.ok hI (h.begin (sp:=sp) hs hlr) (by exact hn) st.mods.length sp;have hqs:=hb.size;rw[hq,Kd] at hr;have hbody:=hB (st.grown s sp) st.mods.length _ sp q hgi (by exact hn) hle (by omega) hgm hlf hq;obtain⟨m,hm⟩:=hb.grow.at_ (show(st.begin s sp).mods[st.mods.length]?=some ⟨s,sp.kind,sp.roots,true,false,[]⟩ by unfold RSt.begin;simp);have hlen:(bxs st.mods).length=st.mods.length:=bxs_len _;rw[Kf (by rw[xI hk];decide),xw (by simp;omega) (by simp;omega),Kd,List.nil_append,show(mach t path st).modules=bxs st.mods from Z,xw (by rw[hlen];have:=sm.mods;show(st.mods.length+1)*8<=_;omega) (by rw[hlen];have:=sm.mods;show st.mods.length+1<=_;omega),Kd,bxs_app,hlen,
   show({ mach t path st with modules:=bxs (st.mods++[⟨s,sp.kind,sp.roots,true,false,[]⟩]) }:Machine)=mach t path (st.grown s sp) from Z,hbody,Kd]
  by_cases he:q.2=0
  ·rw[Kf (by simp[he])] at hr;injection hr with hr;subst hr;simp only;rw[he,Kf (by decide),Ke Z,show ∀ (z:RSt),(mach t path z).modules=bxs z.mods from λ _=>Z,show(q.1.note 1 s).mods=q.1.mods from Z,wU hm,Kd];have hsd:=set_done (t:=t) (path:=path) hm s;have hmd:(bxs q.1.mods).set st.mods.length ⟨{ m with done:=true }⟩=bxs (q.1.done st.mods.length s).mods:=by
    rw[WT];unfold RSt.done;rw[q6 _ hm]
   have hid:=hb.inv.done st.mods.length s;have hdz:(q.1.done st.mods.length s).size=q.1.size+1:=by unfold RSt.size RSt.done;simp only[WE,List.length_append,List.length_cons,List.length_nil];omega
   rw[hmd,show({ mach t path (q.1.note 1 s) with modules:=bxs (q.1.done st.mods.length s).mods }:Machine)=mach t path (q.1.done st.mods.length s) by rw[← hmd];exact hsd];rw[YW (RSt.small (n:=20100) (by omega)).mods,Kd];have hfin:((if(decide (zF s≠(⟨[]⟩:Str))&&cmpI .geq (cix (q.1.done st.mods.length s) (zF s)) (0:Int))=true then((atI (bxs (q.1.done st.mods.length s).mods) (cix (q.1.done st.mods.length s) (zF s))).bind λ v118=>
     (jr s).bind λ v120=>
     ((bxs (q.1.done st.mods.length s).mods)[(cix (q.1.done st.mods.length s) (zF s)).toNat]?).bind λ v125=>
     (yk v125.x v120 (⟨(1:Int),(st.mods.length:Int)⟩:GVal)).bind λ v127=>
     some ({ mach t path (q.1.note 1 s) with modules:=((bxs (q.1.done st.mods.length s).mods).set (cix (q.1.done st.mods.length s) (zF s)).toNat ⟨v127⟩) }:Machine))
     else(some (mach t path (q.1.done st.mods.length s)))):Option Machine)=some (mach t path ((q.1.done st.mods.length s).tell st.mods.length s)):=by
    unfold RSt.tell;rcases jB (q.1.done st.mods.length s) (zF s) with⟨h1,_⟩ | ⟨k,m2,h1,h2,h3,_⟩
    ·rw[h1,geq_m1,Bool.and_false,Kf (show ¬ (false=true) by decide),Kf (show ¬ (false=true) by decide)]
    ·have hne:¬ zF s=(⟨[]⟩:Str):=λ e=>by
      have:=cix_empty hid;rw[show emptyS=zF s from e.symm,h1] at this;omega
     rw[h1,Zb,decide_eq_true hne,Bool.true_and,Ke (show true=true from Z),Ke (show true=true from Z),zK,wU h2,Kd,LastOf_eq hs,Kd,Int.toNat_natCast,wU h2,Kd,give_eq (hid.at_ h2).2.2.1,Kd,WT,set_give h2];rfl
   rw[hfin,Kd]
  ·rw[Ke he] at hr;injection hr with hr;subst hr;simp only;rw[Ke (Jy he),Kf he,show ∀ (z:RSt),(mach t path z).modules=bxs z.mods from λ _=>Z,show(q.1.note 2 s).mods=q.1.mods from Z,wU hm,Kd,set_fail hm s]
theorem load_eq(ht:Good t)(hp:path.length<=1048576)(hI:qQ n I)(hL:Ja t path n R I)(hB:BodyEq t path n R I)(h:Inv st)(hs:zm s=true)(hn:4*st.left.toNat+(zx s dot).length<=n+1)(hle:st.left<=1000000)(hsz:st.size<=20000){r:RSt×Int×Int}(hr:impF t path I st s=some r):
  j1 R (mach t path st) s=some (mach t path r.1,r.2.1,r.2.2):=by
 have sm:=RSt.small hsz;have hpp:=YU s;have hpl:=jN hs;unfold impF at hr;unfold j1;rw[YW sm.mods,Kd];rcases jB st s with⟨h1,_⟩ | ⟨k,m,h1,h2,h3,_⟩
 ·rw[h1,Kf (by decide)] at hr;rw[h1,Kf (by decide),XP hs,Kd];by_cases he:zF s=emptyS
  ·rw[Ke he,Kd,Kf (by simp)] at hr;simp only at hr;rw[h1,Kf (by decide)] at hr;rw[Kf (by rw[show zF s=(⟨[]⟩:Str) from he];decide),Kd,Sum.elim_inl];exact load_new ht hp hI hB h (by omega) hle (by omega) hs hr
  ·have he':¬ zF s=(⟨[]⟩:Str):=he;obtain⟨e1,e2⟩:=Xg hs he;obtain⟨q,hq,hqp⟩:=hI st (zF s) h e2 (by omega);have hqs:=hqp.size;have hql:=hqp.grow.left;have hqi:=hqp.inv.left;have hl0:=h.left;have hld:=hL st (zF s) q h e2 (by omega) hsz hq;rw[Kf he,hq,Kd] at hr;rw[Ke (by rw[decide_eq_true he']),hld,Kd];by_cases hz:q.2.2=0
   ·rw[Kf (by simp[hz])] at hr;simp only;rw[hz,Kf (by decide),YW (RSt.small (n:=20100) (by omega)).mods,Kd];rcases jB q.1 s with⟨k1,_⟩ | ⟨k,m,k1,k2,k3,_⟩
    ·rw[k1,Kf (by decide)] at hr;rw[k1,Kf (by decide),Kd,Sum.elim_inl];exact load_new ht hp hI hB hqp.inv (by omega) (by omega) (by omega) hs hr
    ·have smq:=RSt.small (st:=q.1) (n:=20100) (by omega);rw[k1,Ke (Zb k),Int.toNat_natCast] at hr;injection hr with hr;subst hr;rw[k1,Ke (Zb k),hit_eq smq.log smq.part k2,Kd,k3];rfl
   ·rw[Ke hz] at hr;injection hr with hr;subst hr;simp only;rw[Ke (Jy hz)];rfl
 ·rw[h1,Ke (Zb k),Int.toNat_natCast] at hr;injection hr with hr;subst hr;rw[h1,Ke (Zb k),hit_eq sm.log sm.part h2,Kd,h3]
theorem left_of(h:Inv st){z:Nat}(hz:st.size<=z)(hh:z<=100000:=by decide):st.left<=1000000:=by
 unfold RSt.size at hz;have:=h.left;omega
theorem body_of(ht:Good t)(hp:path.length<=1048576)(hL:Ja t path k (scc M) (imp t path k)):BodyEq t path k (scc (M+2)) (imp t path k):=
 have hI:=W9 ht.ok hp k;have hD:DoEq t path k (scc (M+1)) (imp t path k):=λ _ _ _ _ _ h hm hx hn hsz hr=>do_eq ht hp hI hL h hn hsz hm hx hr
 λ _ _ _ _ _ h hn hle hsz hm hf hr=>body_eq ht.ok hI hD h hn hle hsz hm hf hr
theorem zbQ(ht:Good t)(hp:path.length<=1048576):∀ (k N:Nat),3*k<=N->Ja t path k (scc N) (imp t path k)
 | 0,_,_=>λ _ _ _ _ _ _ _ hr=>by cases hr
 |k+1,N,hN=>λ st s r h hs hn hsz hr=>by
  obtain⟨M,rfl⟩:∃ M,N=M+3:=⟨N - 3,by omega⟩;exact load_eq ht hp (W9 ht.ok hp k) (zbQ ht hp k (M+2) (by omega)) (body_of ht hp (zbQ ht hp k M (by omega))) h hs hn (left_of h hsz) hsz hr
variable(t:Tree)(path:List Int)
def rnr(d:Disk)(st:RSt)(e:Int):Runner:=⟨t,path,st.mods,st.log,st.out,e,st.left,⟨⟨false,d,JH,[],0⟩⟩⟩
variable{t path}{n:Nat}
theorem Z3(h:st.mods.length<=1048576)(e:Int)(s:Str):yY (rnr t path d st e) s=some (rnr t path d st e,cix st s):=by
 unfold yY;have hl:zH (λ s4=>jU (rnr t path d st e) s s4) 0=some (match st.mods.findIdx? (hits s) with | some i=>(Sum.inr (rnr t path d st e,(i:Int)):Unit⊕(Runner×Int)) | none=>Sum.inl ()):=by
  refine Ju st.mods (hits s) (λ i=>Sum.inr (rnr t path d st e,i)) _ (λ k x hx hlt=>?_) ?_ (by omega) Z
  ·unfold jU;rw[show(rnr t path d st e).mods=st.mods from Z,zS,Ke (decide_eq_true hlt),zK,hx,Kd,xm,Kd,zJ (by omega)];unfold hits;cases decide (x.name=s) with
   |true=>rw[Ke (show(true == true)=true from Z)];cases x.cached <;> rfl
   | false=>rfl
  ·unfold jU;rw[show(rnr t path d st e).mods=st.mods from Z,zS,Kf (by simp)]
 rw[hl];unfold cix xP;cases List.findIdx? (hits s) st.mods <;> rfl
theorem WU(h:st.log.length<=1048576)(e k:Int)(s:Str):yL (rnr t path d st e) k s=some (rnr t path d (st.note k s) e):=by
 unfold yL;rw[show(rnr t path d st e).log=st.log from Z,xw (by show(st.log.length+1)*24<=_;omega) (by show st.log.length+1<=_;omega),Kd];rfl
theorem zcn{l:List GAttr}(h:l.length<=16777216)(s:Str):qg l s=some (aix l s):=by
 unfold qg;have hl:zH (λ s4=>jy l s s4) 0=some (match l.findIdx? (λ a=>decide (a.name=s)) with | some i=>(Sum.inr (i:Int):Unit⊕Int) | none=>Sum.inl ()):=by
  refine Ju l (λ a=>decide (a.name=s)) (λ i=>Sum.inr i) _ (λ k x hx hlt=>?_) ?_ (by omega) Z
  ·unfold jy;rw[zS,Ke (decide_eq_true hlt),zK,hx,Kd,zJ (by omega),Kd];cases decide (x.name=s) <;> rfl
  ·unfold jy;rw[zS,Kf (by simp)]
 rw[hl];unfold aix xP;cases List.findIdx? (λ a:GAttr=>decide (a.name=s)) l <;> rfl
theorem WF(h:Inv st)(hm:st.mods[k]?=some m)(e:Int)(s:Str)(v:GVal):wd (rnr t path d st e) (k:Int) s v=some (rnr t path d (st.give k s v) e):=by
 have hi:=h.at_ hm;unfold wd;rw[show(rnr t path d st e).mods=st.mods from Z,zK,hm,Kd,zcn hi.2.2.1,Kd,Kd,Int.toNat_natCast];have hg:rnr t path d (st.give k s v) e={ rnr t path d st e with mods:=st.mods.set k { m with attrs:=Za m.attrs s v } }:=by rw[set_give hm];rfl
 rw[hg];unfold Za;rcases Jx m.attrs s with⟨h1,_⟩ | ⟨j,a,h1,_,h3,_⟩
 ·rw[h1,geq_m1,Kf (show ¬ (false=true) by decide),Kf (show ¬ (false=true) by decide),Kd,xw (by show(m.attrs.length+1)*32<=_;omega) (by show m.attrs.length+1<=_;omega),Kd,Kd]
 ·rw[h1,Zb,Ke (show true=true from Z),Ke (show true=true from Z),zK,h3,Kd,Int.toNat_natCast,q6 _ h3]
theorem spackageOf_eq(h:zm m.name=true):qH m=some (if m.kind=1 then zF m.name else m.name):=by
 unfold qH;by_cases hk:m.kind=1
 ·rw[Ke (by simp[cmpI,hk]),Ke hk,show yI m.name=some (zF m.name) from Ke (xZ h).mid];rfl
 ·rw[Kf (by simp[cmpI,hk]),Kf hk]
theorem zcD(e:Int)(hr:rs.length<=1048576)(hp:p.l.length+s.l.length<=100):Zj (rnr t path d st e) rs p s=some (rnr t path d st e,ZH t.files rs p s):=by
 unfold Zj;rw[Ke (show(!(rnr t path d st e).warm.x.on)=true from Z),show Ym (rnr t path d st e).t rs p s=some (ZH t.files rs p s) from Ke ⟨by omega,by omega⟩,Kd]
theorem zco(hp:path.length<=1048576)(h:Inv st)(hs:Small st)(e:Int)(hv:zm s=true):wJ (rnr t path d st e) s=some (rnr t path d st e,wg t path st s):=by
 have hl:=xf hv;unfold wJ wg;rw[show yI s=some (zF s) from Ke (xZ hv).mid,Kd];by_cases he:zF s=emptyS
 ·rw[Ke (decide_eq_true (show zF s=(⟨[]⟩:Str) from he)),Ke he,show(rnr t path d st e).path=path from Z,zcD e hp (by show 0+s.l.length<=_;omega),Kd];rfl
 ·have he':¬ zF s=(⟨[]⟩:Str):=he;have hpp:=(Xg hv he).2;have hpl:=xf hpp;have hla:=part_len (JY hv);rw[Kf (by simp[he']),Kf he,Z3 hs.mods,Kd];rcases jB st (zF s) with⟨h1,_⟩ | ⟨k,m,h1,h2,h3,_⟩
  ·rw[h1,XV];rw[show((true == false):Bool)=false from Z,Zm,Kd,Ke (by simp),Ke Z];rfl
  ·rw[h1,Zo,show((false == false):Bool)=true from Z,YC,show(rnr t path d st e).mods=st.mods from Z,zK,h2,Kd,Bool.false_or,Kf (by decide:¬ (false=true)),Int.toNat_natCast,Wa h2,zdu h2];by_cases hk:m.kind=1
   ·rw[Ke (by simp[cmpI,hk]),Ke hk];rfl
   ·rw[Kf (by simp[cmpI,hk]),Kf hk,Kd,show qR s=some (je s) from Ke (xZ hv).mid,Kd,zcD e (h.at_ h2).2.2.2 (by omega),Kd]
def ImpEq(t:Tree)(path:List Int)(d:Disk)(n:Nat)(R:Rec)(I:RImp):Prop:=
 ∀ (st:RSt) (s:Str) (r:RSt×Int×Int),Inv st->zm s=true->4*st.left.toNat+(zx s dot).length<=n->st.size<=20000->I st s=some r->R.spec_importName (rnr t path d st 0) s=some (rnr t path d r.1 r.2.2,r.2.1)
def ValEq(t:Tree)(path:List Int)(d:Disk)(n:Nat)(R:Rec)(I:RImp):Prop:=
 ∀ (st:RSt) (j:Nat) (m:GMod) (s:Str) (v:RSt×GVal×Int),Inv st->st.mods[j]?=some m->zB s=true->4*st.left.toNat+3<=n->st.size<=20000->QP t path I st j s=some v->R.spec_fromName (rnr t path d st 0) (j:Int) s=some (rnr t path d v.1 v.2.2,v.2.1)
theorem val_eq(hp:path.length<=1048576)(hL:ImpEq t path d n R I)(hI:qQ n I)(h:Inv st)(hn:4*st.left.toNat+3<=n)(hsz:st.size<=20000)(hj:st.mods[j]?=some m)(hnm:zB nm=true)(hv:QP t path I st j nm=some v):
  Yy R (rnr t path d st 0) (j:Int) nm=some (rnr t path d v.1 v.2.2,v.2.1):=by
 have hi:=h.at_ hj;have hnl:=xf hi.2.1;have hnp:=part_len hnm;have hcl:=zck m.name nm;have sm:=RSt.small hsz;unfold QP at hv;rw[Xs hj,Wa hj,zab hj] at hv;unfold Yy;rw[show(rnr t path d st 0).mods=st.mods from Z,zK,hj,Kd,zcn hi.2.2.1,Kd];rcases Jx m.attrs nm with⟨h1,_⟩ | ⟨k,a,h1,_,h3,_⟩
 ·rw[h1,geq_m1,Kf (show ¬ (false=true) by decide)] at hv;have hvn:xk (child m.name nm)=some (zm (child m.name nm)):=Ke (by unfold mid;omega);rw[h1,geq_m1,Kf (show ¬ (false=true) by decide),Kd,show qW m.name nm=some (child m.name nm) from Ke (by omega),Kd,Kd,hvn,xm,Kd];by_cases hk:m.kind=1
  ·rw[Ke (.inl hk)] at hv;injection hv with hv;subst hv;rw[xN hk,Ke (by rfl)];rfl
  ·rw[xI hk,show(false == false)=true from Z,Ke (show true=true from Z),Bool.false_or];cases hc:zm (child m.name nm) with
   |false=>rw[Ke (.inr hc)] at hv;injection hv with hv;subst hv;rw[Ke (by rfl)];rfl
   |true=>
    have hpl:=jN hc;rw[Kf (λ e=>e.elim hk λ e=>by rw[hc] at e;cases e)] at hv;obtain⟨q,hq,hqp⟩:=hI st _ h hc (by omega);have hld:=hL st _ q h hc (by omega) hsz hq;rw[Kf (by decide),Z3 sm.mods,Kd];cases hl:cmpI .lss (cix st (child m.name nm)) 0 with
    |true=>
     rw[show(true == true)=true from Z,YC,zco hp h sm 0 hc,Kd,Bool.true_and,Ke (show true=true from Z)];by_cases hz:(wg t path st (child m.name nm)).kind=0
     ·rw[Ke ⟨hl,hz⟩] at hv;injection hv with hv;subst hv;rw[Ke (xN hz)];rfl
     ·rw[Kf (λ e=>hz e.2),hq,Kd] at hv;injection hv with hv;subst hv;rw[Kf (by rw[xI hz];decide),hld,Kd]
    |false=>rw[Kf (λ e=>by rw[hl] at e;exact absurd e.1 (by decide)),hq,Kd] at hv;injection hv with hv;subst hv;rw[show(false == true)=false from Z,Zm,Kd,Bool.false_and,Kf (show ¬ (false=true) by decide),Kf (show ¬ (false=true) by decide),hld,Kd]
 ·rw[h1,Zb,Ke (show true=true from Z),Int.toNat_natCast,h3] at hv;injection hv with hv;subst hv;rw[h1,Zb,Ke (show true=true from Z),Kd,zK,h3,Kd];rfl
theorem star_loop(hk':∃ m,st.mods[k]?=some m)(l:List GAttr)(h:Inv st)(hl:∀ a∈l,zB a.name=true)(hb:l.length<=16777216):
  zH (λ s19=>xu R (k:Int) l s19) (rnr t path d st 0,(0:Int))=some (rnr t path d (starF k l st) 0):=by
 obtain⟨m0,hm0⟩:=hk';have key:=Q5 (step:=λ s19=>xu R (k:Int) l s19) l (λ(s:RSt) j=>(rnr t path d s 0,(j:Int))) (λ s a=>if(a.name.l.headD 0 == 122)=true then s else s.give k a.name a.value) (λ s=>rnr t path d s 0) (λ _ s=>Inv s/\∃ m,s.mods[k]?=some m)
  (λ j s a ha hlt ⟨hi,m1,hm1⟩=>by
   have hva:=hl a (List.mem_of_getElem? ha);have hne:a.name.l[0]?=some (a.name.l.headD 0):=by
    rcases J0 hva with⟨c,e,_⟩ | ⟨c,d,e,_⟩ | ⟨c,d,e',e,_⟩ <;> rw[e] <;> rfl
   have hat:atI a.name.l (0:Int)=some (a.name.l.headD 0):=hne;have hgr:=Grow.give (st:=s) k a.name a.value;obtain⟨m2,hm2⟩:=hgr.at_ hm1;have hs:xu R (k:Int) l (rnr t path d s 0,(j:Int))=some (.inl (rnr t path d (if(a.name.l.headD 0 == 122)=true then s else s.give k a.name a.value) 0,((j+1:Nat):Int))):=by
    unfold xu;simp only;rw[zS,Ke (decide_eq_true hlt),zK,ha,Kd,hat,Kd,zJ (by omega)];cases hz:(a.name.l.headD 0 == 122) with
    |true=>rw[Kf (by simp[cmpB] at hz ⊢;exact hz),Ke Z];rfl
    |false=>rw[Ke (by simp[cmpB] at hz ⊢;exact hz),Kd,Kd,WF hi hm1,Kf (by decide)];rfl
   refine⟨hs,?_⟩;split
   ·exact⟨hi,m1,hm1⟩
   ·exact⟨hi.give k _ hva,m2,hm2⟩)
  (λ s _=>by
   unfold xu;simp only;rw[zS,Kf (by simp)]) (s0:=st) ⟨h,m0,hm0⟩ (by omega)
 exact key
variable{n:Nat}
theorem from_eq(_hp:path.length<=1048576)(hI:qQ n I)(hL:ImpEq t path d n R I)(hV:ValEq t path d n R I)(h:Inv st)(hn:4*st.left.toNat+3<=n)(hsz:st.size<=19950)(hk:st.mods[k]?=some m)(hx:zW x=true)(hkd:x.kind=1)(hr:Z2 t path I st k x=some r):
  Xa R (rnr t path d st 0) (k:Int) x=some (rnr t path d r.1 r.2):=by
 have hi:=h.at_ hk;have hsx:zv x.module=true/\0<=x.level/\x.level<=3:=by
  rcases YE hx with h1 | h1 | h1
  ·exact absurd h1.1 (by omega)
  ·exact⟨h1.2.1,h1.2.2.1,h1.2.2.2⟩
  ·exact absurd hkd h1.2.1
 have hnm:=Jv hx (.inl hkd);unfold Z2 at hr;have hpk:JX st k=if m.kind=1 then zF m.name else m.name:=by unfold JX;rw[Wa hk,zab hk]
 rw[Kf (by omega),Ke hkd,hpk] at hr;have hpv:zv (if m.kind=1 then zF m.name else m.name)=true:=by
  split
  ·exact WD (Zt hi.2.1)
  ·exact Zt hi.2.1
 have hsh:sho (Z1 (if m.kind=1 then zF m.name else m.name) x.level x.module):=by
  have:=stName_sho hpv hx;unfold stName at this;rw[Kf (by simp[cmpI,hkd]),Ke (by simp[cmpI,hkd])] at this;exact this
 unfold Xa;rw[show(rnr t path d st 0).mods=st.mods from Z,zK,hk,Kd,spackageOf_eq hi.2.1,Kd,zcT hpv hsx.2.1 (by omega) (pkg_sho hsx.1),Kd];generalize Z1 (if m.kind=1 then zF m.name else m.name) x.level x.module=s1 at*;rw[show xk s1=some (zm s1) from Ke hsh.mid,Kd];cases hv:zm s1 with
 |false=>rw[Ke hv] at hr;injection hr with hr;subst hr;rw[Ke (by rfl)];rfl
 |true=>
  rw[Kf (by rw[hv];decide)] at hr;have hpl:=jN hv;obtain⟨q,hq,hqp⟩:=hI st s1 h hv (by omega);have hqs:=hqp.size;have hld:=hL st s1 q h hv (by omega) (by omega) hq;rw[hq,Kd] at hr;rw[Kf (by decide),hld,Kd];by_cases he:q.2.2=0
  ·rw[Kf (by simp[he])] at hr;obtain⟨m',hm'⟩:=hqp.grow.at_ hk;obtain⟨m2,hm2,hmn,h0⟩:=hqp.good he;have hlq:=hqp.grow.left;obtain⟨j,hj⟩:∃ j:Nat,q.2.1=j:=⟨_,(Int.toNat_of_nonneg h0).symm⟩;rw[hj,Int.toNat_natCast] at hm2;rw[hj,Int.toNat_natCast] at hr;have hn':4*q.1.left.toNat+3<=n:=by have:=h.left;have:=hqp.inv.left;omega
   obtain⟨v,hve,hvb⟩:=value_ok (t:=t) (path:=path) hI hqp.inv hn' j x.name hnm;have hval:=hV q.1 j m2 x.name v hqp.inv hm2 hnm hn' (by omega) hve;rw[hve,Kd] at hr;obtain⟨m3,hm3⟩:=hvb.grow.at_ hm';simp only;rw[show(rnr t path d q.1 q.2.2).fin=q.2.2 from Z,he,Kf (by decide),hj,hval,Kd];by_cases hz:v.2.2=0
   ·rw[Kf (by simp[hz])] at hr;injection hr with hr;subst hr;simp only;rw[show(rnr t path d v.1 v.2.2).fin=v.2.2 from Z,Ke (xN hz),WF hvb.inv hm3,hz];rfl
   ·rw[Ke hz] at hr;injection hr with hr;subst hr;simp only;rw[show(rnr t path d v.1 v.2.2).fin=v.2.2 from Z,Kf (by rw[xI hz];decide)]
  ·rw[Ke he] at hr;injection hr with hr;subst hr;simp only;rw[show(rnr t path d q.1 q.2.2).fin=q.2.2 from Z,Ke (Jy he)]
theorem star_eq(hI:qQ n I)(hL:ImpEq t path d n R I)(h:Inv st)(hn:4*st.left.toNat+3<=n)(hsz:st.size<=19950)(hk:st.mods[k]?=some m)(hx:zW x=true)(hkd:x.kind=2)(hr:Z2 t path I st k x=some r):
  ZQ R (rnr t path d st 0) (k:Int) x=some (rnr t path d r.1 r.2):=by
 have hv:=YV hx (.inr hkd);have hpl:=jN hv;obtain⟨q,hq,hp⟩:=hI st x.module h hv (by omega);have hqs:=hp.size;unfold Z2 at hr;rw[Kf (by omega),Kf (by omega),Ke hkd,hq,Kd] at hr;have hld:=hL st x.module q h hv (by omega) (by omega) hq;unfold ZQ;rw[hld,Kd];by_cases he:q.2.2=0
 ·rw[Kf (by simp[he])] at hr;obtain⟨m',hm'⟩:=hp.grow.at_ hk;obtain⟨m2,hm2,_,h0⟩:=hp.good he;have hi2:=hp.inv.at_ hm2;obtain⟨j,hj⟩:∃ j:Nat,q.2.1=j:=⟨_,(Int.toNat_of_nonneg h0).symm⟩;rw[hj,Int.toNat_natCast] at hm2;rw[hj,Int.toNat_natCast,Xs hm2] at hr;injection hr with hr;subst hr;simp only;rw[show(rnr t path d q.1 q.2.2).fin=q.2.2 from Z,he,Kf (by decide),hj,show(rnr t path d q.1 0).mods=q.1.mods from Z,zK,hm2,Kd,
   xw (by simp;omega) (by simp;omega),Kd,List.nil_append,star_loop ⟨m',hm'⟩ m2.attrs hp.inv (hp.inv.parts m2 hi2.1) hi2.2.2.1]
 ·rw[Ke he] at hr;injection hr with hr;subst hr;simp only;rw[show(rnr t path d q.1 q.2.2).fin=q.2.2 from Z,Ke (Jy he)]
def StEq(t:Tree)(path:List Int)(d:Disk)(n:Nat)(F:Runner->Int->Stmt->Option Runner)(I:RImp)(P:Int->Prop):Prop:=
 ∀ (st:RSt) (k:Nat) (m:GMod) (x:Stmt) (r:RSt×Int),Inv st->st.mods[k]?=some m->zW x=true->P x.kind->4*st.left.toNat+3<=n->st.size<=19950->Z2 t path I st k x=some r->F (rnr t path d st 0) (k:Int) x=some (rnr t path d r.1 r.2)
theorem first_get(s:Str):(zx s dot)[0]?=some (ZB s):=by
 have:=YU s;unfold ZB;cases h:zx s dot with
 | nil=>rw[h] at this;simp at this
 | cons a l=>rfl
theorem sstmt_eq(hI:qQ n I)(hL:ImpEq t path d n R I)(hF:StEq t path d n R.spec_runFrom I (·=1))(hS:StEq t path d n R.spec_runStar I (·=2))(h:Inv st)(hn:4*st.left.toNat+3<=n)(hsz:st.size<=19950)(hk:st.mods[k]?=some m)(hx:zW x=true)(hr:Z2 t path I st k x=some r):
  Y9 R (rnr t path d st 0) (k:Int) x=some (rnr t path d r.1 r.2):=by
 have hi:=h.at_ hk;unfold Y9;by_cases h0:x.kind=0
 ·have hv:=YV hx (.inl h0);have hpl:=jN hv;obtain⟨q,hq,hp⟩:=hI st x.module h hv (by omega);have hqs:=hp.size;unfold Z2 at hr;rw[Ke h0,hq,Kd] at hr;have hld:=hL st x.module q h hv (by omega) (by omega) hq;have smq:=RSt.small (st:=q.1) (n:=20000) (by omega);rw[Ke (xN h0),hld,Kd,show ZM x.module (UInt8.ofNat 46)=some (zx x.module dot) from Ke (xZ hv).mid,Kd,show atI (zx x.module dot) (0:Int)=(zx x.module dot)[0]? from Z,first_get,Kd];simp only;rw[show(rnr t path d q.1 q.2.2).fin=q.2.2 from Z];by_cases he:q.2.2=0
  ·rw[Kf (by simp[he])] at hr;obtain⟨m',hm'⟩:=hp.grow.at_ hk;rw[he,Kf (by decide),Z3 smq.mods,Kd];cases hc:cmpI .lss (cix q.1 (ZB x.module)) 0 with
   |true=>rw[Ke hc] at hr;injection hr with hr;subst hr;rw[Ke (show true=true from Z)];rfl
   |false=>rw[Kf (by simp[hc])] at hr;injection hr with hr;subst hr;rw[Kf (by decide),Z3 smq.mods,Kd,WF hp.inv hm'];rfl
  ·rw[Ke he] at hr;injection hr with hr;subst hr;rw[Ke (Jy he)]
 ·rw[Kf (by rw[xI h0];decide)];by_cases h1:x.kind=1
  ·rw[Ke (xN h1),hF st k m x r h hk hx h1 hn hsz hr];rfl
  ·rw[Kf (by rw[xI h1];decide)];by_cases h2:x.kind=2
   ·rw[Ke (xN h2),hS st k m x r h hk hx h2 hn hsz hr];rfl
   ·unfold Z2 at hr;rw[Kf h0,Kf h1,Kf h2] at hr;rw[Kf (by rw[xI h2];decide)];by_cases h3:x.kind=3
    ·rw[Ke h3] at hr;injection hr with hr;subst hr;rw[Ke (xN h3),WF h hk];rfl
    ·rw[Kf h3] at hr;rw[Kf (by rw[xI h3];decide)];by_cases h4:x.kind=4
     ·rw[Ke h4,Xs hk] at hr;rw[Ke (xN h4),show(rnr t path d st 0).mods=st.mods from Z,zK,hk,Kd,zcn hi.2.2.1,Kd];rcases Jx m.attrs x.name with⟨k1,_⟩ | ⟨j,a,k1,_,k3,_⟩
      ·rw[k1,XV,Ke (show true=true from Z)] at hr;injection hr with hr;subst hr;rw[k1,XV,Ke (show true=true from Z)];rfl
      ·rw[k1,Zo,Kf (show ¬ (false=true) by decide),Int.toNat_natCast,k3] at hr;injection hr with hr;subst hr;have ho:st.out.length<=19950:=by unfold RSt.size at hsz;omega
       rw[k1,Zo,Kf (show ¬ (false=true) by decide),Kd,zK,k3,Kd];have hsh:Y8 a.value=some (if a.value.kind=1 then -1 else a.value.num):=by
        unfold Y8;by_cases hz:a.value.kind=1
        ·rw[Ke (xN hz),Ke hz]
        ·rw[Kf (by rw[xI hz];decide),Kf hz]
       rw[hsh,Kd,show(rnr t path d st 0).out=st.out from Z,xw (by show(st.out.length+1)*8<=_;omega) (by show st.out.length+1<=_;omega),Kd];rfl
     ·rw[Kf h4] at hr;rw[Kf (by rw[xI h4];decide)];by_cases h5:x.kind=5
      ·rw[Ke h5] at hr;injection hr with hr;subst hr;rw[Ke (xN h5)];rfl
      ·rw[Kf h5] at hr;injection hr with hr;subst hr;rw[Kf (by rw[xI h5];decide)]
theorem zdw(hI:qQ n I)(hD:StEq t path d n R.spec_runStmt I (λ _=>True))(k:Nat)(l:List Stmt)(hl:∀ x∈l,zW x=true)(hlen:l.length<1000000000):∀ (m i:Nat) (st:RSt) (r:RSt×Int),i+m=l.length->Inv st->(∃ mm,st.mods[k]?=some mm)->4*st.left.toNat<=n+1->st.left<=1000000->st.size<=20050->J8 t path I k (l.drop i) st=some r->
  wV (λ s2=>xt R (k:Int) l s2) (m+1) (rnr t path d st 0,(i:Int))=some (rnr t path d r.1 r.2)
 |0,i,st,r,hi,_,_,_,_,_,hr=>by
  have:i=l.length:=by omega
  subst this;rw[List.drop_length] at hr;unfold J8 at hr;injection hr with hr;subst hr;refine yx ?_;unfold xt;simp only;rw[zS,Kf (by simp)]
 |m+1,i,st,r,hi,h,⟨mm,hmm⟩,hn,hle,hsz,hr=>by
  have hlt:i<l.length:=by omega
  have hx:l[i]?=some l[i]:=List.getElem?_eq_getElem hlt;have hv:=hl l[i] (List.getElem_mem hlt);rw[List.drop_eq_getElem_cons hlt] at hr;unfold J8 at hr;have hl0:=h.left;by_cases hz:st.left=0
  ·rw[Ke hz] at hr;injection hr with hr;subst hr;refine yx ?_;unfold xt;simp only;rw[zS,Ke (decide_eq_true hlt),show(rnr t path d st 0).left=st.left from Z,Ke (xN hz)];rfl
  ·rw[Kf hz] at hr;have ht:=h.tick hz;have hts:=size_tick h hz;have htl:st.tick.left=st.left - 1:=rfl;obtain⟨q,hq,hb⟩:=stmt_ok (t:=t) (path:=path) hI ht (by rw[htl];omega) k hv;have hbs:=hb.size;have hbl:=hb.grow.left;have hbi:=hb.inv.left;obtain⟨m2,hm2⟩:=hb.grow.at_ (show st.tick.mods[k]?=some mm from hmm);have hd:=hD st.tick k mm l[i] q ht hmm hv trivial (by rw[htl];omega) (by omega) hq;rw[show Z2 t path I { st with left:=st.left - 1 } k l[i]=some q from hq,Kd] at hr;have hs:xt R (k:Int) l (rnr t path d st 0,(i:Int))=some (if q.2≠0 then .inr (rnr t path d q.1 q.2) else .inl (rnr t path d q.1 q.2,((i+1:Nat):Int))):=by
    unfold xt;simp only;rw[zS,Ke (decide_eq_true hlt),show(rnr t path d st 0).left=st.left from Z,Kf (by rw[xI hz];decide),YL (by omega) (by omega),Kd,zK,hx,Kd,
     show({ rnr t path d st 0 with left:=st.left - 1 }:Runner)=rnr t path d st.tick 0 from Z,hd,Kd,zJ (by omega),Kd,show(rnr t path d q.1 q.2).fin=q.2 from Z]
    by_cases he:q.2=0
    ·rw[he,Kf (by decide),Kf (by simp)]
    ·rw[Ke (Jy he),Ke he]
   by_cases he:q.2=0
   ·rw[Kf (by simp[he])] at hr;rw[Kf (by simp[he]),he] at hs;rw[w6 hs];exact zdw hI hD k l hl hlen m (i+1) q.1 r (by omega) hb.inv ⟨m2,hm2⟩ (by rw[htl] at hbl;omega) (by rw[htl] at hbl;omega) (by omega) hr
   ·rw[Ke he] at hr;injection hr with hr;subst hr;rw[Ke he] at hs;exact yx hs
def zad(t:Tree)(path:List Int)(d:Disk)(n:Nat)(R:Rec)(I:RImp):Prop:=
 ∀ (st:RSt) (k:Nat) (m:GMod) (l:List Stmt) (r:RSt×Int),Inv st->st.mods[k]?=some m->(∀ x∈l,zW x=true)->l.length<1000000000->4*st.left.toNat<=n+1->st.left<=1000000->st.size<=20050->J8 t path I k l st=some r->R.spec_runBody (rnr t path d st 0) (k:Int) l=some (rnr t path d r.1 r.2)
theorem sbody_eq(hI:qQ n I)(hD:StEq t path d n R.spec_runStmt I (λ _=>True))(h:Inv st)(hk:st.mods[k]?=some m){l:List Stmt}(hl:∀ x∈l,zW x=true)(hlen:l.length<1000000000)(hn:4*st.left.toNat<=n+1)(hle:st.left<=1000000)(hsz:st.size<=20050)(hr:J8 t path I k l st=some r):Wy R (rnr t path d st 0) (k:Int) l=some (rnr t path d r.1 r.2):=
 ji (m:=l.length+1) (zdw hI hD k l hl hlen l.length 0 st r (by omega) h ⟨m,hk⟩ hn hle hsz (by rw[List.drop_zero];exact hr)) (by omega)
variable{n:Nat}
theorem srun_eq(hv:ya t=true)(hB:zad t path d n R I)(h:Inv st)(hm:st.mods[k]?=some m)(hn:4*st.left.toNat<=n+1)(hle:st.left<=1000000)(hsz:st.size<=20050){sp:Spec}(hlf:sp.file<t.files.length)(hq:runF t path I st k sp=some q):
  (if(cmpI .geq sp.file (0:Int))=true then((js (rnr t path d st 0) sp.file).bind λ v149=>
(R.spec_runBody v149.1 (k:Int) v149.2).bind λ v153=>
some v153)
else(some (rnr t path d st 0)))=some (rnr t path d q.1 q.2):=by
 unfold runF at hq;cases hg:cmpI .geq sp.file 0 with
 |false=>rw[hg,Kf (show ¬ (false=true) by decide)] at hq;injection hq with hq;subst hq;rw[Kf (show ¬ (false=true) by decide)]
 |true=>
  have h0:0<=sp.file:=oD hg;rw[hg,Ke (show true=true from Z)] at hq;have hbv:=JZ hv sp.file;have hbl:(W8 t.files sp.file).body.length<=8:=by
   unfold W8;cases hfl:t.files[sp.file.toNat]? with
   | none=>exact Nat.zero_le _
   |some f=>have:=WC hv (List.mem_of_getElem? hfl);unfold jR at this;simp only[Bool.and_eq_true,cmpI,decide_eq_true_eq] at this;show f.body.length<=8;omega
  have hbo:js (rnr t path d st 0) sp.file=some (rnr t path d st 0,(W8 t.files sp.file).body):=by
   unfold js;rw[Ke (show(!(rnr t path d st 0).warm.x.on)=true from Z),show(rnr t path d st 0).t=t from Z,atI_file h0 hlf,Kd];rfl
  rw[Ke (show true=true from Z),hbo,Kd,hB st k m _ q h hm hbv (by omega) hn hle hsz hq,Kd]
theorem imp_new(hv:ya t=true)(hp:path.length<=1048576)(hI:qQ n I)(hB:zad t path d n R I)(h:Inv st)(hn:4*st.left.toNat<=n+1)(hle:st.left<=1000000)(hsz:st.size<=20020)(hs:zm s=true){r:RSt×Int×Int}(hr:newF t path I st s (wg t path st s)=some r):
  ((wJ (rnr t path d st 0) s).bind λ v46=>
if(cmpI .eql v46.2.kind (0:Int))=true then(some ({ v46.1 with fin:=(1:Int) },(-1:Int)))
else(Option.bind (α:=Runner) ((appO 80 v46.1.mods [(⟨s,v46.2.kind,v46.2.roots,true,false,[]⟩:GMod)]).bind λ v86=>
some ({ v46.1 with mods:=v86 })) λ o65=>
(yL o65 (0:Int) s).bind λ v140=>
Option.bind (α:=Runner) (if(cmpI .geq v46.2.file (0:Int))=true then((js v140 v46.2.file).bind λ v149=>
(R.spec_runBody v149.1 (v46.1.mods.length:Int) v149.2).bind λ v153=>
some v153)
else(some v140)) λ o143=>
if(cmpI .neq o143.fin (0:Int))=true then((atI o143.mods (v46.1.mods.length:Int)).bind λ v161=>
(yL ({ o143 with mods:=(o143.mods.set (v46.1.mods.length:Int).toNat ({ v161 with cached:=false })) }) (2:Int) s).bind λ v167=>
some (v167,(-1:Int)))
else((atI o143.mods (v46.1.mods.length:Int)).bind λ v172=>
(yL ({ o143 with mods:=(o143.mods.set (v46.1.mods.length:Int).toNat ({ v172 with done:=true })) }) (1:Int) s).bind λ v178=>
Option.bind (α:=Runner) ((yY v178 (zF s)).bind λ v184=>
if(cmpI .geq v184.2 (0:Int))=true then((qR s).bind λ v191=>
(wd v184.1 v184.2 v191 (⟨(1:Int),(v46.1.mods.length:Int)⟩:GVal)).bind λ v195=>
some v195)
else(some v184.1)) λ o181=>
some (o181,(v46.1.mods.length:Int)))))=some (rnr t path d r.1 r.2.2,r.2.1):=by
 have sm:=RSt.small hsz;have hlr:=Xr (t:=t) h hp s;have hlf:=zac (t:=t) (path:=path) (st:=st) s;rw[zco hp h sm 0 hs,Kd];unfold newF at hr;generalize wg t path st s=sp at*;by_cases hk:sp.kind=0
 ·rw[Ke hk] at hr;injection hr with hr;subst hr;rw[Ke (xN hk)];rfl
 ·rw[Kf hk] at hr;have hbi:=h.begin (sp:=sp) hs hlr;have hbz:(st.begin s sp).size=st.size+2:=by unfold RSt.size RSt.begin;simp only[List.length_append,List.length_cons,List.length_nil];omega
  have hbm:(st.begin s sp).mods[st.mods.length]?=some ⟨s,sp.kind,sp.roots,true,false,[]⟩:=by unfold RSt.begin;simp
  obtain⟨q,hq,hb⟩:=zcm (path:=path) hv hI hbi (by exact hn) st.mods.length sp;have hqs:=hb.size;rw[hq,Kd] at hr;obtain⟨m,hm⟩:=hb.grow.at_ hbm;have hrun:=srun_eq hv hB hbi hbm (by exact hn) hle (by omega) hlf hq;rw[Kf (by rw[xI hk];decide),show(rnr t path d st 0).mods=st.mods from Z,xw (by have:=sm.mods;show(st.mods.length+1)*80<=_;omega) (by have:=sm.mods;show st.mods.length+1<=_;omega),Kd,Kd,
   show({ rnr t path d st 0 with mods:=st.mods++[⟨s,sp.kind,sp.roots,true,false,[]⟩] }:Runner)=rnr t path d (st.grown s sp) 0 from Z,WU (st:=st.grown s sp) sm.log,Kd,show(st.grown s sp).note 0 s=st.begin s sp from Z]
  simp only;rw[hrun,Kd,Int.toNat_natCast,show(rnr t path d q.1 q.2).fin=q.2 from Z,show(rnr t path d q.1 q.2).mods=q.1.mods from Z,zK,hm,Kd];have smq:=RSt.small (st:=q.1) (n:=20100) (by omega);by_cases he:q.2=0
  ·rw[Kf (by simp[he])] at hr;injection hr with hr;subst hr;rw[he,Kf (by decide),Kd];have hid:=hb.inv.done st.mods.length s;have hdz:(q.1.done st.mods.length s).size=q.1.size+1:=by unfold RSt.size RSt.done;simp only[WE,List.length_append,List.length_cons,List.length_nil];omega
   have hdn:RSt.note { q.1 with mods:=q.1.mods.set st.mods.length { m with done:=true } } 1 s=q.1.done st.mods.length s:=by unfold RSt.done;rw[q6 _ hm];rfl
   have hn2:=WU (t:=t) (path:=path) (d:=d) (st:={ q.1 with mods:=q.1.mods.set st.mods.length { m with done:=true } }) smq.log 0 1 s;rw[hdn] at hn2;refine(congrFun (congrArg Option.bind hn2) _).trans ?_;rw[Kd,Z3 (RSt.small (n:=20100) (by omega)).mods,Kd];unfold RSt.tell;rcases jB (q.1.done st.mods.length s) (zF s) with⟨h1,_⟩ | ⟨k,m2,h1,h2,h3,_⟩
   ·simp only;rw[h1,geq_m1,Kf (show ¬ (false=true) by decide),Kf (show ¬ (false=true) by decide),Kd]
   ·simp only;rw[h1,Zb,Ke (show true=true from Z),Ke (show true=true from Z),show qR s=some (je s) from Ke (xZ hs).mid,Kd,WF hid h2,Kd,Kd,Int.toNat_natCast]
  ·rw[Ke he] at hr;injection hr with hr;subst hr;have hdn:RSt.note { q.1 with mods:=q.1.mods.set st.mods.length { m with cached:=false } } 2 s=q.1.fail st.mods.length s:=by unfold RSt.fail;rw[q6 _ hm];rfl
   have hn2:=WU (t:=t) (path:=path) (d:=d) (st:={ q.1 with mods:=q.1.mods.set st.mods.length { m with cached:=false } }) smq.log q.2 2 s;rw[hdn] at hn2;rw[Ke (Jy he)];refine(congrFun (congrArg Option.bind hn2) _).trans ?_;rfl
theorem simp_eq(hv:ya t=true)(hp:path.length<=1048576)(hI:qQ n I)(hL:ImpEq t path d n R I)(hB:zad t path d n R I)(h:Inv st)(hs:zm s=true)(hn:4*st.left.toNat+(zx s dot).length<=n+1)(hle:st.left<=1000000)(hsz:st.size<=20000){r:RSt×Int×Int}(hr:impF t path I st s=some r):
  Zx R (rnr t path d st 0) s=some (rnr t path d r.1 r.2.2,r.2.1):=by
 have sm:=RSt.small hsz;have hpp:=YU s;have hpl:=jN hs;unfold impF at hr;unfold Zx;rw[Z3 sm.mods,Kd];simp only;rcases jB st s with⟨h1,_⟩ | ⟨k,m,h1,h2,h3,_⟩
 ·rw[h1,Kf (by decide)] at hr;rw[h1,Kf (by decide),show yI s=some (zF s) from Ke (xZ hs).mid,Kd];by_cases he:zF s=emptyS
  ·rw[Ke he,Kd,Kf (by simp)] at hr;simp only at hr;rw[h1,Kf (by decide)] at hr;have hd:decide (zF s≠(⟨[]⟩:Str))=false:=by rw[show zF s=(⟨[]⟩:Str) from he];rfl
   rw[hd,show(false == true)=false from Z,Zm,Kd,Bool.false_and,Kf (show ¬ (false=true) by decide),Kf (show ¬ (false=true) by decide),Z3 sm.mods,Kd];simp only;rw[h1,Kf (by decide)];exact imp_new hv hp hI hB h (by omega) hle (by omega) hs hr
  ·have he':¬ zF s=(⟨[]⟩:Str):=he;obtain⟨e1,e2⟩:=Xg hs he;obtain⟨q,hq,hqp⟩:=hI st (zF s) h e2 (by omega);have hqs:=hqp.size;have hql:=hqp.grow.left;have hqi:=hqp.inv.left;have hl0:=h.left;have hld:=hL st (zF s) q h e2 (by omega) hsz hq;rw[Kf he,hq,Kd] at hr;have hd:decide (zF s≠(⟨[]⟩:Str))=true:=decide_eq_true he';rw[hd,show(true == true)=true from Z,YC,hld,Kd,Bool.true_and,Ke (show true=true from Z)];simp only;by_cases hz:q.2.2=0
   ·rw[Kf (by simp[hz])] at hr;obtain⟨_,_,_,h0⟩:=hqp.good hz;rw[Kf (by simp[cmpI];omega),hz,Z3 (RSt.small (n:=20100) (by omega)).mods,Kd];simp only;rcases jB q.1 s with⟨k1,_⟩ | ⟨k,m,k1,k2,k3,_⟩
    ·rw[k1,Kf (by decide)] at hr;rw[k1,Kf (by decide)];exact imp_new hv hp hI hB hqp.inv (by omega) (by omega) (by omega) hs hr
    ·have smq:=RSt.small (st:=q.1) (n:=20100) (by omega);rw[k1,Ke (Zb k),Int.toNat_natCast] at hr;injection hr with hr;subst hr;rw[k1,Ke (Zb k),WU smq.log,Kd];rfl
   ·have hb:=hqp.bad hz;rw[Ke hz] at hr;injection hr with hr;subst hr;rw[Ke (by rw[hb];decide)]
 ·rw[h1,Ke (Zb k),Int.toNat_natCast] at hr;injection hr with hr;subst hr;rw[h1,Ke (Zb k),WU sm.log,Kd];rfl
theorem sbody_of(hv:ya t=true)(hp:path.length<=1048576)(hL:∀ j,ImpEq t path d k (scc (M+j)) (imp t path k)):zad t path d k (scc (M+4)) (imp t path k):=
 have hI:=W9 hv hp k;have hV:ValEq t path d k (scc (M+1)) (imp t path k):=λ _ _ _ _ _ h hm hs hn hsz hv=>val_eq hp (hL 0) hI h hn hsz hm hs hv
 have hF:StEq t path d k (scc (M+2)).spec_runFrom (imp t path k) (·=1):=λ _ _ _ _ _ h hm hx hk hn hsz hr=>from_eq hp hI (hL 1) hV h hn hsz hm hx hk hr
 have hS:StEq t path d k (scc (M+2)).spec_runStar (imp t path k) (·=2):=λ _ _ _ _ _ h hm hx hk hn hsz hr=>star_eq hI (hL 1) h hn hsz hm hx hk hr
 have hD:StEq t path d k (scc (M+3)).spec_runStmt (imp t path k) (λ _=>True):=λ _ _ _ _ _ h hm hx _ hn hsz hr=>sstmt_eq hI (hL 2) hF hS h hn hsz hm hx hr
 λ _ _ _ _ _ h hm hl hlen hn hle hsz hr=>sbody_eq hI hD h hm hl hlen hn hle hsz hr
theorem scc_imp(hv:ya t=true)(hp:path.length<=1048576):∀ (k N:Nat),5*k<=N->ImpEq t path d k (scc N) (imp t path k)
 | 0,_,_=>λ _ _ _ _ _ _ _ hr=>by cases hr
 |k+1,N,hN=>λ st s r h hs hn hsz hr=>by
  obtain⟨M,rfl⟩:∃ M,N=M+5:=⟨N - 5,by omega⟩;exact simp_eq hv hp (W9 hv hp k) (scc_imp hv hp k (M+4) (by omega)) (sbody_of hv hp λ j=>scc_imp hv hp k (M+j) (by omega)) h hs hn (left_of h hsz) hsz hr
def st0:RSt:=⟨[],[],[],120,[]⟩
def qb:Nat:=2420
def RSt.forget(st:RSt)(k:Nat):RSt:={ st with mods:=updA st.mods k (λ m=>{ m with cached:=false }) }
def RSt.again(st:RSt)(k:Nat)(sp:Spec):RSt:={ st with mods:=updA st.mods k (λ m=>{ m with kind:=sp.kind,roots:=sp.roots }) }
section
variable(t:Tree)(path:List Int)
def cmdF(I:RImp)(st:RSt)(c:GCmd):Option (RSt×Int):=
 if c.kind=0 then(I st c.name).bind λ r=>some (r.1,r.2.2)
 else if c.kind=2 then(if cmpI .lss (cix st c.name) 0=true then some (st,1) else some (st.forget (cix st c.name).toNat,0))
 else if cmpI .lss (cix st c.name) 0=true\/(zF c.name≠emptyS/\cmpI .lss (cix st (zF c.name)) 0=true) then some (st,1)
 else if(wg t path st c.name).kind=0 then some (st,1)
 else(runF t path I ((st.again (cix st c.name).toNat (wg t path st c.name)).note 0 c.name) (cix st c.name).toNat (wg t path st c.name)).bind λ r=>some (r.1.note (if r.2=0 then 1 else 2) c.name,r.2)
def cmdsF(I:RImp):List GCmd->RSt->Option (RSt×List Int)
 | [],st=>some (st,[])
 | c::cs,st=>(cmdF t path I st c).bind λ r=>(cmdsF I cs r.1).bind λ q=>some (q.1,r.2::q.2)
end
variable{n:Nat}
theorem Inv.forget(h:Inv st)(k:Nat):Inv (st.forget k):=h.upd (f:=λ m=>{ m with cached:=false }) (lg:=st.log) (o:=st.out) (λ _=>Z) h.roots h.parts h.apart
theorem Inv.again(h:Inv st)(k:Nat){sp:Spec}(hr:sp.roots.length<=1048576):Inv (st.again k sp):=h.upd (f:=λ m=>{ m with kind:=sp.kind,roots:=sp.roots }) (lg:=st.log) (o:=st.out) (λ _=>Z) (λ _ _=>hr) h.parts h.apart
theorem za3(st:RSt)(k:Nat)(sp:Spec):(st.again k sp).size=st.size:=by unfold RSt.size RSt.again;simp[WE]
theorem size_forget(st:RSt)(k:Nat):(st.forget k).size=st.size:=by unfold RSt.size RSt.forget;simp[WE]
theorem zcp(st:RSt)(k:Int)(s:Str):(st.note k s).size=st.size+1:=by unfold RSt.size RSt.note;simp only[List.length_append,List.length_cons,List.length_nil];omega
structure CmdPost(st:RSt)(c:Nat)(r:RSt):Prop where
 inv:Inv r
 left:r.left<=st.left
 size:r.size<=st.size+c
theorem cmd_ok(hv:ya t=true)(hp:path.length<=1048576)(hI:qQ n I)(h:Inv st)(hn:4*st.left.toNat+3<=n)(hc:zm c.name=true):∃ r,cmdF t path I st c=some r/\CmdPost st 12 r.1:=by
 have h0:∀ {e:Int},∃ r,some (st,e)=some r/\CmdPost st 12 r.1:=⟨_,Z,h,Int.le_refl _,Nat.le_add_right _ _⟩;have hpl:=jN hc;unfold cmdF;split
 ·obtain⟨r,hr,hk⟩:=hI st _ h hc (by omega);rw[hr];have:=hk.size;exact⟨_,Z,hk.inv,hk.grow.left,by simp only;omega⟩
 ·split
  ·split
   ·exact h0
   ·exact⟨_,Z,h.forget _,Int.le_refl _,by simp only[size_forget];omega⟩
  ·split
   ·exact h0
   ·split
    ·exact h0
    ·have hi:=(h.again (cix st c.name).toNat (Xr (t:=t) h hp c.name)).note 0 c.name;obtain⟨r,hr,hb⟩:=zcm (path:=path) hv hI hi (by show 4*st.left.toNat<=n+1;omega) (cix st c.name).toNat (wg t path st c.name);have hs:=hb.size;rw[zcp,za3] at hs;rw[hr];exact⟨_,Z,hb.inv.note _ _,hb.grow.left,by simp only[zcp];omega⟩
theorem cmds_ok(hv:ya t=true)(hp:path.length<=1048576)(hI:qQ n I):∀ (l:List GCmd) (st:RSt),Inv st->4*st.left.toNat+3<=n->(∀ c∈l,zm c.name=true)->∃ r,cmdsF t path I l st=some r/\CmdPost st (12*l.length) r.1/\r.2.length=l.length
 | [],st,h,_,_=>⟨_,Z,⟨h,Int.le_refl _,Nat.le_refl _⟩,Z⟩
 |c::cs,st,h,hn,hl=>by
  obtain⟨r,hr,h1⟩:=cmd_ok hv hp hI h hn (hl c (List.mem_cons_self ..));have:=h1.left;have:=h1.inv.left;have:=h.left;obtain⟨q,hq,h2,h3⟩:=cmds_ok hv hp hI cs r.1 h1.inv (by omega) λ x hx=>hl x (List.mem_cons_of_mem _ hx)
  have s1:=h1.size;have s2:=h2.size;have l2:=h2.left;unfold cmdsF;rw[hr,Kd,hq];exact⟨_,Z,⟨h2.inv,by simp only;omega,by simp only[List.length_cons];omega⟩,by simp only[List.length_cons];omega⟩
theorem mach_upd(hm:st.mods[k]?=some m)(f:GMod->GMod):({ mach t path st with modules:=(bxs st.mods).set k ⟨f m⟩ }:Machine)=mach t path { st with mods:=updA st.mods k f }:=by
 rw[WT,← q6 f hm];rfl
theorem run_eq(ht:Good t)(hp:path.length<=1048576)(hL:Ja t path n R I)(hB:BodyEq t path n R I)(h:Inv st)(hn:4*st.left.toNat+3<=n)(hle:st.left<=1000000)(hsz:st.size<=19990)(hc:zm c.name=true)(_hk:c.kind=0\/c.kind=1\/c.kind=2)(hr:cmdF t path I st c=some r):wA R (mach t path st) c=some (mach t path r.1,r.2):=by
 have sm:=RSt.small hsz;have hpl:=jN hc;unfold cmdF at hr;unfold wA;rw[YW sm.mods,Kd];by_cases h0:c.kind=0
 ·rw[Ke h0] at hr;have⟨q,hq,hr⟩:=bs hr;injection hr with hr;subst hr;rw[Ke (xN h0),hL st _ q h hc (by omega) (by omega) hq];rfl
 ·rw[Kf h0] at hr;rw[Kf (by rw[xI h0];decide)];by_cases h2:c.kind=2
  ·rw[Ke h2] at hr;rw[Ke (xN h2)];rcases jB st c.name with⟨k1,_⟩ | ⟨k,m,k1,k2,_,_⟩
   ·rw[k1,XV,Ke Z] at hr;injection hr with hr;subst hr;rw[k1,XV,Ke Z]
   ·rw[k1,Zo,Kf (by decide),Int.toNat_natCast] at hr;injection hr with hr;subst hr;rw[k1,Zo,Kf (by decide),show(mach t path st).modules=bxs st.mods from Z,zK,wU k2,Kd,Int.toNat_natCast,wU k2,Kd,mach_upd k2 (λ m=>{ m with cached:=false })];rfl
  ·rw[Kf h2] at hr;rw[Kf (by rw[xI h2];decide),XP hc,Kd];rcases jB st c.name with⟨k1,_⟩ | ⟨k,m,k1,k2,k3,k4⟩
   ·rw[k1,XV,Ke (.inl Z)] at hr;injection hr with hr;subst hr;rw[k1,XV,show((true == false)&&(decide (zF c.name≠(⟨[]⟩:Str)) == true))=false from Z,Zm,Kd,Bool.true_or,Ke Z]
   ·rw[k1,Zo,Int.toNat_natCast] at hr;rw[k1,Zo];have hm:=h.at_ k2;have key:(zF c.name=emptyS\/cmpI .lss (cix st (zF c.name)) 0=false)->(if(wg t path st c.name).kind=0 then some (st,(1:Int)) else(runF t path I ((st.again k (wg t path st c.name)).note 0 c.name) k (wg t path st c.name)).bind λ r=>some (r.1.note (if r.2=0 then 1 else 2) c.name,r.2))=some r->
      ((yD (mach t path st) c.name).bind λ v43=>if(cmpI .eql v43.2.kind (0:Int))=true then(some (v43.1,(1:Int))) else((atI v43.1.modules (k:Int)).bind λ v55=>(v43.1.modules[(k:Int).toNat]?).bind λ v57=>(atI (v43.1.modules.set (k:Int).toNat ⟨{ v57.x with kind:=v43.2.kind }⟩) (k:Int)).bind λ v63=>(appO 8 [] v43.2.roots).bind λ v64=>((v43.1.modules.set (k:Int).toNat ⟨{ v57.x with kind:=v43.2.kind }⟩)[(k:Int).toNat]?).bind λ v65=>(R.impl_machine_body ({ v43.1 with modules:=((v43.1.modules.set (k:Int).toNat ⟨{ v57.x with kind:=v43.2.kind }⟩).set (k:Int).toNat ⟨{ v65.x with roots:=v64 }⟩) }) (k:Int) v43.2).bind λ v73=>some (v73.1,v73.2)))=some (mach t path r.1,r.2):=λ _ hr=>by
     rw[look_eq ht hp h sm hc,Kd];by_cases hz:(wg t path st c.name).kind=0
     ·rw[Ke hz] at hr;injection hr with hr;subst hr;rw[Ke (xN hz)]
     ·rw[Kf hz] at hr;have hrl:=Xr (t:=t) h hp c.name;have hlk:=zG k2;rw[Kf (by rw[xI hz];decide)];dsimp only;rw[show(mach t path st).modules=bxs st.mods from Z,zK,wU k2,Kd,Int.toNat_natCast,wU k2,Kd,WT,zK,wU (List.getElem?_set_self hlk),Kd,xw (by simp;omega) (by simp;omega),Kd,List.nil_append,Kd,WT,List.set_set];have⟨q,hq,hr⟩:=bs hr;injection hr with hr;subst hr;have hst:({ mach t path st with modules:=bxs (st.mods.set k { { m with kind:=(wg t path st c.name).kind } with roots:=(wg t path st c.name).roots }) }:Machine)=mach t path (st.again k (wg t path st c.name)):=by
       unfold RSt.again;rw[q6 _ k2];rfl
      have hk5:(st.again k (wg t path st c.name)).mods[k]?=some { m with kind:=(wg t path st c.name).kind,roots:=(wg t path st c.name).roots }:=by
       unfold RSt.again;show(updA st.mods k _)[k]?=_;rw[q6 _ k2,List.getElem?_set_self hlk]
      have hb:=hB (st.again k (wg t path st c.name)) k _ (wg t path st c.name) q (h.again k hrl) (by show 4*st.left.toNat<=n+1;omega) hle (by rw[za3];omega) hk5 (zac c.name) (by
       show runF t path I ((st.again k (wg t path st c.name)).note 0 m.name) k _=some q;rw[k3];exact hq)
      rw[hst];have hb':R.impl_machine_body (mach t path (st.again k (wg t path st c.name))) (k:Int) (wg t path st c.name)=some (mach t path (q.1.note (if q.2=0 then 1 else 2) c.name),q.2):=by
       rw[hb];show some (mach t path (q.1.note (if q.2=0 then 1 else 2) m.name),q.2)=_;rw[k3]
      rw[hb',Kd]
    by_cases hpar:zF c.name=emptyS
    ·rw[Kf λ e:(false=true\/_)=>e.elim (λ e=>Bool.noConfusion e) λ e=>e.1 hpar] at hr;rw[show((false == false)&&(decide (zF c.name≠(⟨[]⟩:Str)) == true))=false by rw[hpar];rfl,Zm,Kd,show(false||(decide (zF c.name≠(⟨[]⟩:Str))&&cmpI .lss (default:Int) 0))=false by rw[hpar];rfl,Kf (by decide)];exact key (.inl hpar) hr
    ·have hd:decide (zF c.name≠(⟨[]⟩:Str))=true:=decide_eq_true hpar;rw[hd,show((false == false)&&(true == true))=true from Z,YC,YW sm.mods,Kd];cases hl:cmpI .lss (cix st (zF c.name)) 0 with
     |true=>rw[Ke (.inr ⟨hpar,hl⟩)] at hr;injection hr with hr;subst hr;rw[Ke (show(false||true&&true)=true from Z)]
     |false=>rw[Kf λ e:(false=true\/_)=>e.elim (λ e=>Bool.noConfusion e) λ e=>Bool.noConfusion (hl.symm.trans e.2)] at hr;rw[Kf (by decide)];exact key (.inr hl) hr
variable{n:Nat}
def stepC{σ:Type}(run:σ->GCmd->Option (σ×Int))(l:List GCmd)(s:σ×List Int×Int):Option ((σ×List Int×Int)⊕(σ×List Int)):=
 if cmpI .lss s.2.2 (l.length:Int)=true then(atI l s.2.2).bind λ a=>(run s.1 a).bind λ b=>(appO 8 s.2.1 [b.2]).bind λ c=>(i64 (s.2.2+1)).bind λ d=>some (.inl (b.1,c,d)) else some (.inr (s.1,s.2.1))
def WG(c:GCmd):Bool:=cmpI .geq c.kind 0&&cmpI .leq c.kind 2&&zm c.name
theorem Jz(h:WG c=true):zm c.name=true/\(c.kind=0\/c.kind=1\/c.kind=2):=by
 unfold WG at h;simp only[Bool.and_eq_true,cmpI,decide_eq_true_eq] at h;exact⟨h.2,by omega⟩
theorem zcq{σ:Type}{run:σ->GCmd->Option (σ×Int)}{Rp:RSt->σ->Prop}(hv:ya t=true)(hp:path.length<=1048576)(hI:qQ n I)
  (hrun:∀ (st:RSt) (s:σ) (c:GCmd) (r:RSt×Int),Inv st->4*st.left.toNat+3<=n->st.left<=1000000->st.size<=19990->WG c=true->Rp st s->cmdF t path I st c=some r->∃ s',run s c=some (s',r.2)/\Rp r.1 s')
  (l:List GCmd) (hl:∀ c∈l,WG c=true) (hlen:l.length<=20):∀ (m i:Nat) (st:RSt) (s:σ) (es:List Int) (r:RSt×List Int),i+m=l.length->Inv st->4*st.left.toNat+3<=n->st.left<=1000000->st.size+12*m<=19990->es.length=i->Rp st s->cmdsF t path I (l.drop i) st=some r->
   ∃ s',wV (stepC run l) (m+1) (s,es,(i:Int))=some (s',es++r.2)/\Rp r.1 s'
 |0,i,st,s,es,r,hi,_,_,_,_,_,hR,hr=>by
  have:i=l.length:=by omega
  subst this;rw[List.drop_length] at hr;unfold cmdsF at hr;injection hr with hr;subst hr;refine⟨s,yx ?_,hR⟩;unfold stepC;rw[zS,Kf (by simp),List.append_nil]
 |m+1,i,st,s,es,r,hi,h,hn,hle,hsz,he,hR,hr=>by
  have hlt:i<l.length:=by omega
  rw[List.drop_eq_getElem_cons hlt] at hr;unfold cmdsF at hr;have⟨q,hq,hr⟩:=bs hr;have⟨w,hw,hr⟩:=bs hr;injection hr with hr;subst hr;have hc:=hl _ (List.getElem_mem hlt);obtain⟨q',hq',h1⟩:=cmd_ok hv hp hI h hn (Jz hc).1;rw[hq] at hq';injection hq' with hq';subst hq';obtain⟨s1,hs1,hR1⟩:=hrun st s _ q h hn hle (by omega) hc hR hq;have:=h1.left;have:=h1.inv.left;have:=h.left;have s2:=h1.size;obtain⟨s',hs',hR'⟩:=zcq hv hp hI hrun l hl hlen m (i+1) q.1 s1 (es++[q.2]) w (by omega) h1.inv (by omega) (by omega) (by omega) (by rw[List.length_append];simp[he]) hR1 hw;refine⟨s',?_,hR'⟩;rw[w6 (s':=(s1,es++[q.2],((i+1:Nat):Int))),hs',List.append_assoc]
  ·rfl
  ·unfold stepC;rw[zS,Ke (decide_eq_true hlt),zK,List.getElem?_eq_getElem hlt,Kd,hs1,Kd,xw (by simp only[List.length_cons,List.length_nil];omega) (by simp only[List.length_cons,List.length_nil];omega),Kd,zJ (by omega)];rfl
theorem fold_copy(l:List GMod):∀ o:List GMod,l.foldl (λ o m=>o++[m]) o=o++l:=by
 induction l with
 | nil=>intro o;simp
 | cons a l ih=>intro o;rw[List.foldl_cons,ih];simp
theorem copy_fold{step:List GMod×Int->Option ((List GMod×Int)⊕List GMod)}(l:List GMod)(hl:l.length<=1048576)
  (h:∀ i out m,l[i]?=some m->i<l.length->out.length<=1048576->step (out,(i:Int))=some (.inl (out++[m],((i+1:Nat):Int))))
  (hend:∀ out,step (out,(l.length:Int))=some (.inr out)):zH step (([]:List GMod),(0:Int))=some l:=by
 have key:=Q5 (step:=step) l (λ(o:List GMod) i=>(o,(i:Int))) (λ o m=>o++[m]) (λ o=>o) (λ i o=>o.length<=i)
  (λ i o m he hi ho=>⟨h i o m he hi (by omega),by rw[List.length_append];show o.length+1<=_;omega⟩) (λ o _=>hend o) (s0:=[]) (Nat.zero_le _) (by omega)
 rw[fold_copy,List.nil_append] at key;exact key
def resV(st:RSt)(es:List Int):GResult:=⟨es,st.out,st.log,st.mods,st.left⟩
theorem result_eq(h:Inv st)(hs:Small st)(es:List Int):xz (mach t path st) es=some (resV st es):=by
 have hm:=hs.mods;have ho:=hs.out;have hg:=hs.log;have hl:zH (λ s16=>yv (mach t path st) s16) ((⟨es,st.out,st.log,[],st.left⟩:GResult),(0:Int))=some (resV st es):=by
  have key:=Q5 (step:=λ s16=>yv (mach t path st) s16) st.mods (λ(o:List GMod) i=>((⟨es,st.out,st.log,o,st.left⟩:GResult),(i:Int))) (λ o m=>o++[m]) (λ o=>(⟨es,st.out,st.log,o,st.left⟩:GResult)) (λ i o=>o.length<=i)
   (λ i o x hx hi ho=>⟨by
    have hx':=h.at_ hx;unfold yv;simp only;rw[show(mach t path st).modules=bxs st.mods from Z,show((bxs st.mods).length:Int)=(st.mods.length:Int) by unfold bxs;rw[List.length_map],zS,Ke (decide_eq_true hi),zK,wU hx,Kd,xw (by simp;omega) (by simp;omega),Kd,List.nil_append,xw (by simp;omega) (by simp;omega),Kd,List.nil_append,xw (by simp only[List.length_cons,List.length_nil];omega) (by simp only[List.length_cons,List.length_nil];omega),Kd,zJ (by omega)];rfl,by rw[List.length_append];show o.length+1<=_;omega⟩) (λ o _=>by
    unfold yv;simp only;rw[show(mach t path st).modules=bxs st.mods from Z,show((bxs st.mods).length:Int)=(st.mods.length:Int) by unfold bxs;rw[List.length_map],zS,Kf (by simp)]) (s0:=[]) (Nat.zero_le _) (by omega)
  rw[fold_copy,List.nil_append] at key;exact key
 unfold xz;rw[show(mach t path st).out=st.out from Z,show(mach t path st).log=st.log from Z,xw (by simp;omega) (by simp;omega),Kd,List.nil_append,xw (by simp;omega) (by simp;omega),Kd,List.nil_append,show(mach t path st).left=st.left from Z,hl];rfl
def QQ(l:List GCmd):Bool:=l.all WG&&cmpI .leq (l.length:Int) 10
def okR(t:Tree)(path:List Int)(l:List GCmd)(f:Int):Bool:=ya t&&wW path&&QQ l&&(cmpI .geq f 0&&cmpI .leq f 120)
def fst0(f:Int):RSt:=⟨[],[],[],f,[]⟩
def Yw(t:Tree)(path:List Int)(l:List GCmd)(f:Int):RSt×List Int:=(cmdsF t path (imp t path 483) l (fst0 f)).getD (st0,[])
def runV(t:Tree)(path:List Int)(l:List GCmd)(f:Int):GResult:=if okR t path l f=true then resV (Yw t path l f).1 (Yw t path l f).2 else⟨[],[],[],[],0⟩
theorem zaG(l:List GCmd):(if l.any (λ c=>!WG c)=true then(.inr false:Unit⊕Bool) else .inl ())=if l.all WG=true then .inl () else .inr false:=by
 induction l with
 | nil=>rfl
 |cons a l ih=>
  rw[List.any_cons,List.all_cons];cases WG a
  ·rfl
  ·simpa using ih
theorem zcr(hl:l.length<=1048576)(hn:∀ c∈l,sho c.name):xS l=some (QQ l):=by
 have h1:zH (λ s4=>y8 l s4) 0=some (if l.any (λ c=>!WG c)=true then .inr false else .inl ()):=by
  refine Xe _ _ _ _ (λ k x hx hlt=>?_) ?_ (by omega) Z
  ·unfold y8;rw[zS,Ke (decide_eq_true hlt),zK,hx,Kd,show yg x.kind 0 2=some (cmpI .geq x.kind 0&&cmpI .leq x.kind 2) from Z,Kd,wL (hn x (List.mem_of_getElem? hx)),xm,Kd,zJ (by omega)];unfold WG;cases(cmpI .geq x.kind 0&&cmpI .leq x.kind 2) <;> cases zm x.name <;> rfl
  ·unfold y8;rw[zS,Kf (by simp)]
 unfold xS QQ;rw[h1,zaG];cases l.all WG <;> rfl
theorem zbR{f:Int}(h:okR t path l f=true):ya t=true/\wW path=true/\(∀ c∈l,WG c=true)/\l.length<=10/\0<=f/\f<=120:=by
 unfold okR QQ at h;simp only[Bool.and_eq_true,cmpI,decide_eq_true_eq] at h;exact⟨h.1.1.1,h.1.1.2,List.all_eq_true.1 h.1.2.1,by omega,by omega,by omega⟩
theorem fst0_inv{f:Int}(h:0<=f):Inv (fst0 f):=⟨(λ _ h=>by cases h),(λ _ h=>by cases h),(λ _ h=>by cases h),(λ _ h=>by cases h),h⟩
theorem cmdsR_ok(hp:path.length<=1048576){f:Int}(h:okR t path l f=true):cmdsF t path (imp t path 483) l (fst0 f)=some (Yw t path l f)/\CmdPost (fst0 f) (12*l.length) (Yw t path l f).1/\(Yw t path l f).2.length=l.length/\(Yw t path l f).1.size<=12120:=by
 obtain⟨hv,_,hl,hn,f0,f1⟩:=zbR h;obtain⟨r,hr,h1,h2⟩:=cmds_ok (t:=t) (path:=path) hv hp (W9 hv hp 483) l (fst0 f) (fst0_inv f0) (by show 4*f.toNat+3<=483;omega) λ c hc=>(Jz (hl c hc)).1
 have:Yw t path l f=r:=by unfold Yw;rw[hr];rfl
 rw[this];refine⟨hr,h1,h2,?_⟩;have h3:=h1.size;have:(fst0 f).size=100*f.toNat:=by unfold RSt.size fst0;simp
 omega
theorem runV_off{f:Int}(h:okR t path l f=false):runV t path l f=⟨[],[],[],[],0⟩:=by unfold runV;rw[h];rfl
theorem zdx(ht:YI t)(hp:path.length<=1048576)(hl:l.length<=1048576)(hn:∀ c∈l,sho c.name)(f:Int):YK (scc qb) t path l f=some (runV t path l f):=by
 have key:okR t path l f=true->(jZ t path f).bind (λ v21=>Option.bind (α:=Machine×(List Int)) (zH (λ s30=>Zw (scc qb) l s30) (v21,[],(0:Int))) λ o27=>(xz o27.1 o27.2).bind λ v64=>some v64)=some (runV t path l f):=λ h=>by
  obtain⟨hv,_,hc,hlen,f0,f1⟩:=zbR h;obtain⟨h1,h2,h3,h4⟩:=cmdsR_ok hp h;have hL:Ja t path 483 (scc qb) (imp t path 483):=zbQ ⟨ht,hv⟩ hp 483 qb (by decide);have hB:BodyEq t path 483 (scc qb) (imp t path 483):=body_of (M:=2418) ⟨ht,hv⟩ hp (zbQ ⟨ht,hv⟩ hp 483 2418 (by decide));have hz:(fst0 f).size=100*f.toNat:=by unfold RSt.size fst0;simp
  obtain⟨s',hs',hR⟩:=zcq (Rp:=λ st s=>s=mach t path st) (run:=wA (scc qb)) hv hp (W9 hv hp 483) (λ st s c r hi hn hle hsz hk hR hr=>by
   subst hR;exact⟨_,run_eq ⟨ht,hv⟩ hp hL hB hi hn hle hsz (Jz hk).1 (Jz hk).2 hr,Z⟩) l hc (by omega) l.length 0 (fst0 f) (mach t path (fst0 f)) [] (Yw t path l f) (by omega) (fst0_inv f0) (by show 4*f.toNat+3<=483;omega) (by show f<=1000000;omega) (by omega) Z Z (by rw[List.drop_zero];exact h1)
  subst hR;have hloop:zH (λ s30=>Zw (scc qb) l s30) (mach t path (fst0 f),([]:List Int),(0:Int))=some (mach t path (Yw t path l f).1,(Yw t path l f).2):=ji (m:=l.length+1) hs' (by omega);rw[show jZ t path f=some (mach t path (fst0 f)) from Z,Kd,hloop,Kd,result_eq h2.inv (RSt.small h4),Kd];unfold runV;rw[Ke h]
 unfold YK;rw[ValidTree_eq ht,Kd,ValidPath_eq hp,xm,Kd,zcr hl hn,xm,Kd,show yg f 0 120=some (cmpI .geq f 0&&cmpI .leq f 120) from Z,xm,Kd];by_cases hr:okR t path l f=true
 ·have hr':=hr;unfold okR at hr';simp only[Bool.and_eq_true] at hr';rw[hr'.1.1.1,hr'.1.1.2,hr'.1.2,hr'.2.1,hr'.2.2];exact key hr
 ·rw[runV_off (Bool.eq_false_iff.2 hr)];have h0:okR t path l f=false:=Bool.eq_false_iff.2 hr;unfold okR at h0
  revert h0
  generalize ya t=a;generalize wW path=b;generalize QQ l=c;generalize (cmpI .geq f 0&&cmpI .leq f 120)=d;cases a <;> cases b <;> cases c <;> cases d <;> intro h0 <;> first | rfl | cases h0
variable{n:Nat}
theorem again_at(h:st.mods[k]?=some m)(sp:Spec):(st.again k sp).mods=st.mods.set k { m with kind:=sp.kind,roots:=sp.roots }/\(st.again k sp).mods[k]?=some { m with kind:=sp.kind,roots:=sp.roots }:=by
 unfold RSt.again;refine⟨q6 _ h,?_⟩;show(updA st.mods k _)[k]?=_;rw[q6 _ h,List.getElem?_set_self (zG h)]
theorem scmd_eq(hv:ya t=true)(hp:path.length<=1048576)(hI:qQ n I)(hL:ImpEq t path jE n R I)(hB:zad t path jE n R I)(h:Inv st)(hn:4*st.left.toNat+3<=n)(hle:st.left<=1000000)(hsz:st.size<=19990)(hc:zm c.name=true)(hk:c.kind=0\/c.kind=1\/c.kind=2)(e:Int)(hr:cmdF t path I st c=some r):∃ e',ZR R (rnr t path jE st e) c=some (rnr t path jE r.1 e',r.2):=by
 have sm:=RSt.small hsz;have hpl:=jN hc;have hlf:=zac (t:=t) (path:=path) (st:=st) c.name;have hlr:=Xr (t:=t) h hp c.name;unfold cmdF at hr;unfold ZR;rw[show({ rnr t path jE st e with fin:=(0:Int) }:Runner)=rnr t path jE st 0 from Z];by_cases h0:c.kind=0
 ·rw[Ke h0] at hr;have⟨q,hq,hr⟩:=bs hr;injection hr with hr;subst hr;rw[Ke (xN h0),hL st _ q h hc (by omega) (by omega) hq];exact⟨_,Z⟩
 ·rw[Kf h0] at hr;rw[Kf (by rw[xI h0];decide)];by_cases h2:c.kind=2
  ·rw[Ke h2] at hr;rw[Kf (by rw[h2];decide),Ke (xN h2),Z3 sm.mods,Kd];rcases jB st c.name with⟨k1,_⟩ | ⟨k,m,k1,k2,_,_⟩
   ·rw[k1,XV,Ke Z] at hr;injection hr with hr;subst hr;rw[k1,XV,Ke Z];exact⟨_,Z⟩
   ·rw[k1,Zo,Kf (by decide),Int.toNat_natCast] at hr;injection hr with hr;subst hr;rw[k1,Zo,Kf (by decide)];simp only;rw[show(rnr t path jE st 0).mods=st.mods from Z,zK,k2,Kd,Kd,Int.toNat_natCast,← q6 (λ m:GMod=>{ m with cached:=false }) k2];exact⟨_,Z⟩
  ·rw[Kf h2] at hr;rw[Ke (xN (by omega))];unfold XU;rw[Z3 sm.mods,Kd];rcases jB st c.name with⟨k1,_⟩ | ⟨k,m,k1,k2,k3,k4⟩
   ·rw[k1,XV,Ke (.inl Z)] at hr;injection hr with hr;subst hr;rw[k1,XV,Ke Z];exact⟨_,Z⟩
   ·rw[k1,Zo,Int.toNat_natCast] at hr;rw[k1,Zo,Kf (by decide),show yI c.name=some (zF c.name) from Ke (xZ hc).mid,Kd];have key:(zF c.name=emptyS\/cmpI .lss (cix st (zF c.name)) 0=false)->(if(wg t path st c.name).kind=0 then some (st,(1:Int)) else(runF t path I ((st.again k (wg t path st c.name)).note 0 c.name) k (wg t path st c.name)).bind λ r=>some (r.1.note (if r.2=0 then 1 else 2) c.name,r.2))=some r->
      ∃ e',((wJ (rnr t path jE st 0) c.name).bind λ v26=>
if(cmpI .eql v26.2.kind (0:Int))=true then(some ({ v26.1 with fin:=(1:Int) }))
else((yL v26.1 (0:Int) c.name).bind λ v39=>
(atI v39.mods (k:Int)).bind λ v42=>
Option.bind (α:=Runner) (if(cmpI .geq v26.2.file (0:Int))=true then((js ({ v39 with mods:=(v39.mods.set (k:Int).toNat ({ v42 with kind:=v26.2.kind,roots:=v26.2.roots })) }) v26.2.file).bind λ v55=>
(R.spec_runBody v55.1 (k:Int) v55.2).bind λ v58=>
some v58)
else(some ({ v39 with mods:=(v39.mods.set (k:Int).toNat ({ v42 with kind:=v26.2.kind,roots:=v26.2.roots })) }))) λ o49=>
if(cmpI .neq o49.fin (0:Int))=true then((yL o49 (2:Int) c.name).bind λ v66=>
some v66)
else((yL o49 (1:Int) c.name).bind λ v70=>
some v70)))=some (rnr t path jE r.1 e')/\e'=r.2:=λ _ hr=>by
     rw[zco hp h sm 0 hc,Kd];generalize wg t path st c.name=sp at*;by_cases hz:sp.kind=0
     ·rw[Ke hz] at hr;injection hr with hr;subst hr;rw[Ke (xN hz)];exact⟨_,Z,Z⟩
     ·rw[Kf hz] at hr;have⟨q,hq,hr⟩:=bs hr;injection hr with hr;subst hr;obtain⟨a1,a2⟩:=again_at k2 sp;have hi:=(h.again k hlr).note 0 c.name;have hz1:((st.again k sp).note 0 c.name).size=st.size+1:=by rw[zcp,za3]
      have hrun:=srun_eq hv hB hi (show((st.again k sp).note 0 c.name).mods[k]?=some _ from a2) (by show 4*st.left.toNat<=n+1;omega) hle (by omega) hlf hq;obtain⟨q',hq',hb⟩:=zcm (path:=path) hv hI hi (by show 4*st.left.toNat<=n+1;omega) k sp;rw[hq] at hq';injection hq' with hq';subst hq';have hbs:=hb.size;rw[Kf (by rw[xI hz];decide),WU sm.log,Kd,show(rnr t path jE (st.note 0 c.name) 0).mods=st.mods from Z,zK,k2,Kd,Int.toNat_natCast,
       show({ rnr t path jE (st.note 0 c.name) 0 with mods:=st.mods.set k { m with kind:=sp.kind,roots:=sp.roots } }:Runner)=rnr t path jE ((st.again k sp).note 0 c.name) 0 by rw[← a1];rfl]
      simp only;rw[hrun,Kd,show(rnr t path jE q.1 q.2).fin=q.2 from Z];have smq:=RSt.small (st:=q.1) (n:=20100) (by omega);by_cases he:q.2=0
      ·rw[Kf (by rw[he];decide),WU smq.log,Ke he];exact⟨_,Z,Z⟩
      ·rw[Ke (Jy he),WU smq.log,Kf he];exact⟨_,Z,Z⟩
    have fin:∀ {o:Option Runner},(∃ e',o=some (rnr t path jE r.1 e')/\e'=r.2)->∃ e',Option.bind (α:=Runner⊕(Runner×Int)) (o.bind λ v18=>some (.inl v18)) (Sum.elim (λ b4=>some (b4,b4.fin)) some)=some (rnr t path jE r.1 e',r.2):=λ⟨e',h1,h2⟩=>by
     subst h2;rw[h1];exact⟨_,Z⟩
    by_cases hpar:zF c.name=emptyS
    ·rw[Kf λ e:(false=true\/_)=>e.elim (λ e=>Bool.noConfusion e) λ e=>e.1 hpar] at hr;have hd:decide (zF c.name≠(⟨[]⟩:Str))=false:=by rw[hpar];rfl
     rw[hd,show(false == true)=false from Z,Zm,Kd,Zm,Kd,Kf (show ¬ ((false&&_)=true) from Bool.noConfusion),Kf (show ¬ (false=true) by decide)];exact fin (key (.inl hpar) hr)
    ·have hd:decide (zF c.name≠(⟨[]⟩:Str))=true:=decide_eq_true hpar;rw[hd,show(true == true)=true from Z,YC,Kd,YC,Z3 sm.mods,Kd];cases hl:cmpI .lss (cix st (zF c.name)) 0 with
     |true=>rw[Ke (.inr ⟨hpar,hl⟩)] at hr;injection hr with hr;subst hr;rw[Ke (show(true&&true)=true from Z)];exact⟨_,Z⟩
     |false=>rw[Kf λ e:(false=true\/_)=>e.elim (λ e=>Bool.noConfusion e) λ e=>Bool.noConfusion (hl.symm.trans e.2)] at hr;rw[Kf (show ¬ ((true&&false)=true) by decide),Ke (show true=true from Z)];exact fin (key (.inr hl) hr)
theorem copies_eq(h:Inv st)(hs:Small st):qY st.mods=some st.mods:=by
 have hm:=hs.mods;have hl:zH (λ s5=>xA st.mods s5) (([]:List GMod),(0:Int))=some st.mods:=by
  refine copy_fold st.mods hm (λ i out x hx hi ho=>?_) λ out=>?_
  ·have hx':=h.at_ hx;unfold xA;simp only;rw[zS,Ke (decide_eq_true hi),zK,hx,Kd,xw (by simp;omega) (by simp;omega),Kd,List.nil_append,xw (by simp;omega) (by simp;omega),Kd,List.nil_append,xw (by simp only[List.length_cons,List.length_nil];omega) (by simp only[List.length_cons,List.length_nil];omega),Kd,zJ (by omega)];rfl
  ·unfold xA;simp only;rw[zS,Kf (by simp)]
 unfold qY;rw[hl];rfl
theorem Qa(hl:l.length<=1048576)(hn:∀ c∈l,sho c.name):wO l=some (QQ l):=by
 have h2:zH (λ s4=>y9 l s4) 0=some (if l.any (λ c=>!WG c)=true then .inr false else .inl ()):=by
  refine Xe _ _ _ _ (λ k x hx hlt=>?_) ?_ (by omega) Z
  ·unfold y9;rw[zS,Ke (decide_eq_true hlt),zK,hx,Kd,show jF x.kind 0 2=some (cmpI .geq x.kind 0&&cmpI .leq x.kind 2) from Z,Kd,xm,Kd,zJ (by omega)];unfold WG;cases(cmpI .geq x.kind 0&&cmpI .leq x.kind 2)
   ·rfl
   ·rw[Ke (show((!true) == false)=true from Z),show xk x.name=some (zm x.name) from Ke (hn x (List.mem_of_getElem? hx)).mid];cases zm x.name <;> rfl
  ·unfold y9;rw[zS,Kf (by simp)]
 unfold wO QQ;rw[h2,zaG];cases l.all WG <;> rfl
theorem zai(ht:YI t)(hp:path.length<=1048576)(hl:l.length<=1048576)(hn:∀ c∈l,sho c.name)(f:Int):wB (scc qb) t path l f=some (runV t path l f):=by
 have hval:Zi t path l f=some (okR t path l f):=by
  unfold Zi okR;rw[show qF t=some (ya t) from Ke ht,Kd,show qG path=some (wW path) from Ke trivial,xm,Kd,Qa hl hn,xm,Kd,show jF f 0 120=some (cmpI .geq f 0&&cmpI .leq f 120) from Z,xm,Kd];generalize ya t=a;generalize wW path=b;generalize QQ l=c;generalize (cmpI .geq f 0&&cmpI .leq f 120)=d;cases a <;> cases b <;> cases c <;> cases d <;> rfl
 unfold wB;rw[hval,Kd];by_cases h:okR t path l f=true
 ·obtain⟨hv,_,hc,hlen,f0,f1⟩:=zbR h;obtain⟨h1,h2,h3,h4⟩:=cmdsR_ok hp h;have hL:ImpEq t path jE 483 (scc qb) (imp t path 483):=scc_imp hv hp 483 qb (by decide);have hB:zad t path jE 483 (scc qb) (imp t path 483):=sbody_of (M:=2416) hv hp λ j=>scc_imp hv hp 483 (2416+j) (by omega)
  have hz:(fst0 f).size=100*f.toNat:=by unfold RSt.size fst0;simp
  obtain⟨s',hs',e',hR⟩:=zcq (Rp:=λ st s=>∃ e,s=rnr t path jE st e) (run:=ZR (scc qb)) hv hp (W9 hv hp 483) (λ st s c r hi hn hle hsz hk hR hr=>by
   obtain⟨e,hR⟩:=hR;subst hR;obtain⟨e',he⟩:=scmd_eq hv hp (W9 hv hp 483) hL hB hi hn hle hsz (Jz hk).1 (Jz hk).2 e hr;exact⟨_,he,e',Z⟩) l hc (by omega) l.length 0 (fst0 f) (rnr t path jE (fst0 f) 0) [] (Yw t path l f) (by omega) (fst0_inv f0) (by show 4*f.toNat+3<=483;omega) (by show f<=1000000;omega) (by omega) Z ⟨0,Z⟩ (by rw[List.drop_zero];exact h1)
  subst hR;have sm:=RSt.small h4;have ho:=sm.out;have hg:=sm.log;have hloop:zH (λ s22=>jP (scc qb) l s22) (rnr t path jE (fst0 f) 0,([]:List Int),(0:Int))=some (rnr t path jE (Yw t path l f).1 e',(Yw t path l f).2):=ji (m:=l.length+1) hs' (by omega);rw[h,Kf (by decide),show Xo t path f=some (rnr t path jE (fst0 f) 0) from Z,Kd,hloop,Kd];simp only;rw[show(rnr t path jE (Yw t path l f).1 e').out=(Yw t path l f).1.out from Z,show(rnr t path jE (Yw t path l f).1 e').log=(Yw t path l f).1.log from Z,show(rnr t path jE (Yw t path l f).1 e').mods=(Yw t path l f).1.mods from Z,xw (by simp;omega) (by simp;omega),Kd,List.nil_append,xw (by simp;omega) (by simp;omega),Kd,List.nil_append,copies_eq h2.inv sm,Kd];unfold runV;rw[Ke h];rfl
 ·have h0:okR t path l f=false:=Bool.eq_false_iff.2 h;rw[runV_off h0,h0];rfl
end Go.Proofs.YtbbfcjifihknnaaGreatDoor
