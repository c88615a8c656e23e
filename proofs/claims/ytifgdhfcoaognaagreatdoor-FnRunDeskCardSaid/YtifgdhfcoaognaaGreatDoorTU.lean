import Derived.Test.YtifgdhfcoaognaaGreatDoorTP
import Derived.Test.YtifgdhfcoaognaaGreatDoorTN
namespace Go.Proofs.YtifgdhfcoaognaaGreatDoor
open Go.RowKit
variable{c:Bool}{d:Disk}{m m':GMod}{e lf:Int}{l:List GAttr}{y:List GEvent}{o path roots rs:List Int}{g pt:List Str}{M i j k:Nat}{R:Rec}{x:Stmt}{nm p s:Str}{t:Tree}
structure RSt where
 mods:List GMod
 log:List GEvent
 out:List Int
 left:Int
 part:List Str
variable{a b st:RSt}{v:RSt×GVal×Int}{q r:RSt×Int}
def hits(s:Str)(m:GMod):Bool:=decide (m.name=s)&&m.cached
def cix(st:RSt)(s:Str):Int:=xU (hits s) st.mods
def aix(l:List GAttr)(s:Str):Int:=xU (λ a=>decide (a.name=s)) l
def updA{α:Type}(l:List α)(k:Nat)(f:α->α):List α:=match l[k]? with | some x=>l.set k (f x) | none=>l
theorem Wy{α:Type}{l:List α}{x:α}(f:α->α)(h:l[k]?=some x):updA l k f=l.set k (f x):=by unfold updA;rw[h]
theorem Wa{α:Type}(l:List α)(k:Nat)(f:α->α):(updA l k f).length=l.length:=by unfold updA;split <;> simp
theorem zat{α:Type}{l:List α}{f:α->α}(i:Nat):(updA l k f)[i]?=if i=k then l[k]?.map f else l[i]?:=by
 unfold updA;split
 ·rename_i x hx;by_cases e:i=k
  ·subst e;have:=zG hx;rw[Ke Z,hx,List.getElem?_set_self this];rfl
  ·rw[Kf e,List.getElem?_set_ne (λ h=>e h.symm)]
 ·rename_i hx;by_cases e:i=k
  ·subst e;simp[hx]
  ·rw[Kf e]
def j9(l:List GAttr)(s:Str)(v:GVal):List GAttr:=if cmpI .geq (aix l s) 0=true then updA l (aix l s).toNat (λ a=>{ a with value:=v }) else l++[⟨s,v⟩]
def RSt.note(st:RSt)(k:Int)(s:Str):RSt:={ st with log:=st.log++[⟨k,s⟩] }
def RSt.doneAt(st:RSt)(k:Nat):Bool:=((st.mods[k]?).map (·.done)).getD false
def RSt.hit(st:RSt)(k:Nat)(s:Str):RSt:={ st with log:=st.log++[⟨3,s⟩],part:=if st.doneAt k=false/\s ∉ st.part then st.part++[s] else st.part }
def RSt.give(st:RSt)(at_:Nat)(s:Str)(v:GVal):RSt:={ st with mods:=updA st.mods at_ (λ m=>{ m with attrs:=j9 m.attrs s v }) }
def RSt.begin(st:RSt)(s:Str)(sp:Spec):RSt:={ st with mods:=st.mods++[⟨s,sp.kind,sp.roots,true,false,[]⟩],log:=st.log++[⟨0,s⟩] }
def RSt.fail(st:RSt)(at_:Nat)(s:Str):RSt:={ st with mods:=updA st.mods at_ (λ m=>{ m with cached:=false }),log:=st.log++[⟨2,s⟩] }
def RSt.done(st:RSt)(at_:Nat)(s:Str):RSt:={ st with mods:=updA st.mods at_ (λ m=>{ m with done:=true }),log:=st.log++[⟨1,s⟩] }
def RSt.tell(st:RSt)(at_:Nat)(s:Str):RSt:=if cmpI .geq (cix st (zM s)) 0=true then st.give (cix st (zM s)).toNat (ji s) ⟨1,(at_:Int)⟩ else st
def RSt.kindAt(st:RSt)(k:Nat):Int:=((st.mods[k]?).map (·.kind)).getD 0
def RSt.rootsAt(st:RSt)(k:Nat):List Int:=((st.mods[k]?).map (·.roots)).getD []
def RSt.attrsAt(st:RSt)(k:Nat):List GAttr:=((st.mods[k]?).map (·.attrs)).getD []
def RSt.nameAt(st:RSt)(k:Nat):Str:=((st.mods[k]?).map (·.name)).getD emptyS
def XD(t:Tree)(path:List Int)(st:RSt)(s:Str):Spec:=
 if zM s=emptyS then jE t.files path emptyS s
 else if cmpI .lss (cix st (zM s)) 0=true then Wg
 else if st.kindAt (cix st (zM s)).toNat=1 then Wg
 else jE t.files (st.rootsAt (cix st (zM s)).toNat) (zM s) (ji s)
def Z1(s:Str):Str:=(zi s dot).headD emptyS
section
variable(t:Tree)(path:List Int)
abbrev RImp:=RSt->Str->Option (RSt×Int×Int)
def zau(at_:Nat)(l:List GAttr)(st:RSt):RSt:=l.foldl (λ st a=>if(a.name.l.headD 0 == 122)=true then st else st.give at_ a.name a.value) st
def Qt(st:RSt)(at_:Nat):Str:=if st.kindAt at_=1 then zM (st.nameAt at_) else st.nameAt at_
def JG(I:RImp)(st:RSt)(k:Nat)(s:Str):Option (RSt×GVal×Int):=
 if cmpI .geq (aix (st.attrsAt k) s) 0=true then some (st,(((st.attrsAt k)[(aix (st.attrsAt k) s).toNat]?).map (·.value)).getD ⟨0,0⟩,0)
 else if st.kindAt k=1\/zf (child (st.nameAt k) s)=false then some (st,⟨0,0⟩,2)
 else if cmpI .lss (cix st (child (st.nameAt k) s)) 0=true/\(XD t path st (child (st.nameAt k) s)).kind=0 then some (st,⟨0,0⟩,2)
 else(I st (child (st.nameAt k) s)).bind λ r=>some (r.1,⟨1,r.2.1⟩,r.2.2)
def ZI(I:RImp)(st:RSt)(at_:Nat)(x:Stmt):Option (RSt×Int):=
 if x.kind=0 then(I st x.module).bind λ r=>
  if r.2.2≠0 then some (r.1,r.2.2) else if cmpI .lss (cix r.1 (Z1 x.module)) 0=true then some (r.1,1) else some (r.1.give at_ (Z1 x.module) ⟨1,cix r.1 (Z1 x.module)⟩,0)
 else if x.kind=1 then
  if zf (Yh (Qt st at_) x.level x.module)=false then some (st,5) else
  (I st (Yh (Qt st at_) x.level x.module)).bind λ r=>if r.2.2≠0 then some (r.1,r.2.2) else
  (JG t path I r.1 r.2.1.toNat x.name).bind λ q=>if q.2.2≠0 then some (q.1,q.2.2) else some (q.1.give at_ x.name q.2.1,0)
 else if x.kind=2 then(I st x.module).bind λ r=>
  if r.2.2≠0 then some (r.1,r.2.2) else some (zau at_ (r.1.attrsAt r.2.1.toNat) r.1,0)
 else if x.kind=3 then some (st.give at_ x.name ⟨0,x.value⟩,0)
 else if x.kind=4 then
  if cmpI .lss (aix (st.attrsAt at_) x.name) 0=true then some (st,3) else
  some ({ st with out:=st.out++[(let v:=(((st.attrsAt at_)[(aix (st.attrsAt at_) x.name).toNat]?).map (·.value)).getD ⟨0,0⟩;if v.kind=1 then -1 else v.num)] },0)
 else if x.kind=5 then some (st,4)
 else some (st,0)
def Jn(I:RImp)(at_:Nat):List Stmt->RSt->Option (RSt×Int)
 | [],st=>some (st,0)
 | x::xs,st=>if st.left=0 then some (st,6) else(ZI t path I { st with left:=st.left - 1 } at_ x).bind λ r=>if r.2≠0 then some r else Jn I at_ xs r.1
def runF(I:RImp)(st:RSt)(at_:Nat)(sp:Spec):Option (RSt×Int):=if cmpI .geq sp.file 0=true then Jn t path I at_ (JF t.files sp.file).body st else some (st,0)
def newF(I:RImp)(st:RSt)(s:Str)(sp:Spec):Option (RSt×Int×Int):=
 if sp.kind=0 then some (st,-1,1) else
 (runF t path I (st.begin s sp) st.mods.length sp).bind λ r=>
  if r.2≠0 then some (r.1.fail st.mods.length s,-1,r.2) else some ((r.1.done st.mods.length s).tell st.mods.length s,(st.mods.length:Int),0)
def impF(I:RImp)(st:RSt)(s:Str):Option (RSt×Int×Int):=
 if cmpI .geq (cix st s) 0=true then some (st.hit (cix st s).toNat s,cix st s,0) else
 (if zM s=emptyS then some (st,0,0) else I st (zM s)).bind λ r=>
  if r.2.2≠0 then some (r.1,-1,r.2.2) else
  if cmpI .geq (cix r.1 s) 0=true then some (r.1.hit (cix r.1 s).toNat s,cix r.1 s,0) else newF t path I r.1 s (XD t path r.1 s)
def imp:Nat->RImp
 | 0=>λ _ _=>none
 | n+1=>impF t path (imp n)
end
variable{I:RImp}
theorem zaL{α:Type}{p:α->Bool}{l:List α}(h:cmpI .geq (xU p l) 0=true):∃ x,l[(xU p l).toNat]?=some x/\p x=true/\0<=xU p l:=by
 rw[lss_geq] at h;have h':cmpI .lss (xU p l) 0=false:=by simpa using h
 obtain⟨x,h1,h2⟩:=idxOf_some h';exact⟨x,h1,h2,by simpa[cmpI] using h'⟩
theorem Xf(s:Str):1<=(zi s dot).length:=by have:=X7 s dot;omega
theorem j7(h:zf s=true):(zi s dot).length<=3:=(xd h).2
theorem Ys(h:zf s=true)(hp:zM s≠emptyS):(zi (zM s) dot).length+1=(zi s dot).length/\zf (zM s)=true:=by
 obtain⟨h1,h2⟩:=xd h;have h0:=Xf s;by_cases e:(zi s dot).length=1
 ·exfalso
  apply hp;unfold zM;rw[e];rfl
 ·have hne:(zi s dot).take ((zi s dot).length - 1)≠[]:=λ e1=>by
   have:=congrArg List.length e1;rw[List.length_take,List.length_nil] at this;omega
  have hv:∀ x∈(zi s dot).take ((zi s dot).length - 1),zD x=true:=λ x hx=>h1 x (List.mem_of_mem_take hx)
  constructor
  ·unfold zM;rw[zbH hne hv,List.length_take];omega
  ·exact zbI hne (by rw[List.length_take];omega) hv
theorem Qu(h:zf s=true):zD (ji s)=true:=(xd h).1 _ (List.mem_of_getElem? (last_get s))
theorem first_valid(h:zf s=true):zD (Z1 s)=true:=by
 unfold Z1;have h1:=(xd h).1;have h0:=Xf s;cases hs:zi s dot with
 | nil=>rw[hs] at h0;simp at h0
 | cons a l=>exact h1 a (by rw[hs];exact List.mem_cons_self ..)
theorem Zp(h:zX x=true)(hk:x.kind=0\/x.kind=2):zf x.module=true:=by
 rcases YW h with h1 | h1 | h1
 ·exact h1.2
 ·omega
 ·omega
theorem J3(h:zX x=true)(hk:x.kind=1\/x.kind=3\/x.kind=4):zD x.name=true:=by
 unfold zX at h;rcases hk with hk | hk | hk <;> simp only[hk,cmpI] at h <;> simp at h <;> first | exact h.1.2 | exact h.2.1 | exact h.1.1.2 | (exact h.1.2.1) | (exact h.2.2.1)
structure Inv(st:RSt):Prop where
 names:∀ m∈st.mods,zf m.name=true
 roots:∀ m∈st.mods,m.roots.length<=1048576
 parts:∀ m∈st.mods,∀ a∈m.attrs,zD a.name=true
 apart:∀ m∈st.mods,(m.attrs.map (·.name)).Nodup
 left:0<=st.left
structure Grow(a b:RSt):Prop where
 left:b.left<=a.left
 old:∀ (i:Nat) (m:GMod),a.mods[i]?=some m->∃ m',b.mods[i]?=some m'/\m'.name=m.name
theorem Grow.refl(a:RSt):Grow a a:=⟨Int.le_refl _,λ _ m h=>⟨m,h,Z⟩⟩
theorem Grow.trans{a b c:RSt}(h:Grow a b)(k:Grow b c):Grow a c:=⟨Int.le_trans k.left h.left,λ i m hm=>let⟨m1,h1,h2⟩:=h.old i m hm;let⟨m2,k1,k2⟩:=k.old i m1 h1;⟨m2,k1,k2.trans h2⟩⟩
def RSt.size(st:RSt):Nat:=st.log.length+st.out.length+st.mods.length+st.part.length+100*st.left.toNat
theorem zcy{α:Type}{l:List α}{f:α->α}{x:α}(h:x∈updA l k f):x∈l\/∃ y∈l,x=f y:=by
 unfold updA at h;split at h
 ·rename_i y hy;rcases List.mem_or_eq_of_mem_set h with h | h
  ·exact .inl h
  ·exact .inr ⟨y,List.mem_of_getElem? hy,h⟩
 ·exact .inl h
theorem updA_old{l:List GMod}{f:GMod->GMod}(hf:∀ m,(f m).name=m.name)(h:l[i]?=some m):∃ m',(updA l k f)[i]?=some m'/\m'.name=m.name:=by
 rw[zat];by_cases e:i=k
 ·subst e;rw[Ke Z,h];exact⟨f m,Z,hf m⟩
 ·rw[Kf e];exact⟨m,h,Z⟩
theorem zdh(l:List GAttr)(s:Str)(v:GVal):(j9 l s v).map (·.name)=if cmpI .geq (aix l s) 0=true then l.map (·.name) else l.map (·.name)++[s]:=by
 unfold j9;split
 ·rename_i h;obtain⟨x,h1,h2,_⟩:=zaL h;have h1':l[(aix l s).toNat]?=some x:=h1;rw[Wy _ h1',List.map_set];apply List.ext_getElem?;intro i;by_cases e:(aix l s).toNat=i
  ·subst e;have:=zG h1';rw[List.getElem?_set_self (by simpa using this),List.getElem?_map,h1'];rfl
  ·rw[List.getElem?_set_ne e]
 ·simp
theorem Qv{α:Type}{p:α->Bool}{l:List α}(h:cmpI .geq (xU p l) 0=false):∀ x∈l,p x=false:=by
 rw[J1] at h;intro x hx;cases hp:p x with
 | false=>rfl
 | true=>rw[List.any_eq_true.2 ⟨x,hx,hp⟩] at h;cases h
theorem put_apart{v:GVal}(h:(l.map (·.name)).Nodup):((j9 l s v).map (·.name)).Nodup:=by
 rw[zdh];split
 ·exact h
 ·rename_i hh;have hn:=Qv (by simpa[aix] using hh);refine List.nodup_append.2 ⟨h,by simp,λ a ha b hb e=>?_⟩;simp only[List.mem_singleton] at hb;subst hb;subst e;obtain⟨x,hx,hxa⟩:=List.mem_map.1 ha;have:=hn x hx;simp[hxa] at this
theorem put_parts{v:GVal}(hs:zD s=true)(h:∀ a∈l,zD a.name=true):∀ a∈j9 l s v,zD a.name=true:=by
 intro a ha;have:a.name∈(j9 l s v).map (·.name):=List.mem_map_of_mem ha;rw[zdh] at this;split at this
 ·obtain⟨x,hx,e⟩:=List.mem_map.1 this;rw[← e];exact h x hx
 ·rcases List.mem_append.1 this with h1 | h1
  ·obtain⟨x,hx,e⟩:=List.mem_map.1 h1;rw[← e];exact h x hx
  ·simp only[List.mem_singleton] at h1;rw[h1];exact hs
theorem Inv.upd(h:Inv st){f:GMod->GMod}(h1:∀ m,(f m).name=m.name)(h2:∀ m∈st.mods,(f m).roots.length<=1048576)(h3:∀ m∈st.mods,∀ a∈(f m).attrs,zD a.name=true)(h4:∀ m∈st.mods,((f m).attrs.map (·.name)).Nodup){lg:List GEvent}:Inv { st with mods:=updA st.mods k f,log:=lg,out:=o } where
 names:=λ m hm=>(zcy hm).elim (h.names m) λ⟨y,hy,e⟩=>by rw[e,h1];exact h.names y hy
 roots:=λ m hm=>(zcy hm).elim (h.roots m) λ⟨y,hy,e⟩=>by rw[e];exact h2 y hy
 parts:=λ m hm=>(zcy hm).elim (h.parts m) λ⟨y,hy,e⟩=>by rw[e];exact h3 y hy
 apart:=λ m hm=>(zcy hm).elim (h.apart m) λ⟨y,hy,e⟩=>by rw[e];exact h4 y hy
 left:=h.left
theorem Inv.hit(h:Inv st)(k:Nat)(s:Str):Inv (st.hit k s):=⟨h.names,h.roots,h.parts,h.apart,h.left⟩
theorem size_hit(st:RSt)(k:Nat)(s:Str):(st.hit k s).size<=st.size+2:=by
 unfold RSt.size RSt.hit;simp only[List.length_append,List.length_cons,List.length_nil];split
 ·simp only[List.length_append,List.length_cons,List.length_nil];omega
 ·omega
theorem Inv.note(h:Inv st)(k:Int)(s:Str):Inv (st.note k s):=⟨h.names,h.roots,h.parts,h.apart,h.left⟩
theorem Inv.give(h:Inv st)(k:Nat){s:Str}(v:GVal)(hs:zD s=true):Inv (st.give k s v):=
 h.upd (f:=λ m=>{ m with attrs:=j9 m.attrs s v }) (lg:=st.log) (o:=st.out) (λ _=>Z) h.roots (λ m hm=>put_parts hs (h.parts m hm)) λ m hm=>put_apart (h.apart m hm)
theorem Inv.fail(h:Inv st)(k:Nat)(s:Str):Inv (st.fail k s):=h.upd (f:=λ m=>{ m with cached:=false }) (λ _=>Z) h.roots h.parts h.apart
theorem Inv.done(h:Inv st)(k:Nat)(s:Str):Inv (st.done k s):=h.upd (f:=λ m=>{ m with done:=true }) (λ _=>Z) h.roots h.parts h.apart
theorem Inv.begin(h:Inv st){s:Str}{sp:Spec}(hs:zf s=true)(hr:sp.roots.length<=1048576):Inv (st.begin s sp) where
 names:=λ m hm=>(List.mem_append.1 hm).elim (h.names m) λ e=>by simp only[List.mem_singleton] at e;rw[e];exact hs
 roots:=λ m hm=>(List.mem_append.1 hm).elim (h.roots m) λ e=>by simp only[List.mem_singleton] at e;rw[e];exact hr
 parts:=λ m hm=>(List.mem_append.1 hm).elim (h.parts m) λ e=>by simp only[List.mem_singleton] at e;rw[e];intro a ha;simp at ha
 apart:=λ m hm=>(List.mem_append.1 hm).elim (h.apart m) λ e=>by simp only[List.mem_singleton] at e;rw[e];exact List.Pairwise.nil
 left:=h.left
theorem Grow.upd{f:GMod->GMod}(h1:∀ m,(f m).name=m.name){lg:List GEvent}:Grow st { st with mods:=updA st.mods k f,log:=lg,out:=o }:=⟨Int.le_refl _,λ _ _ h=>updA_old h1 h⟩
theorem Grow.give(k:Nat)(s:Str)(v:GVal):Grow st (st.give k s v):=Grow.upd (f:=λ m=>{ m with attrs:=j9 m.attrs s v }) (lg:=st.log) (o:=st.out) λ _=>Z
theorem Grow.begin(s:Str)(sp:Spec):Grow st (st.begin s sp):=⟨Int.le_refl _,λ i m h=>⟨m,by
 show(st.mods++_)[i]?=some m;rw[List.getElem?_append_left (zG h)];exact h,Z⟩⟩
theorem J4(k:Nat)(s:Str)(v:GVal):(st.give k s v).size=st.size:=by unfold RSt.size RSt.give;simp[Wa]
theorem Inv.tell(h:Inv st)(k:Nat){s:Str}(hs:zf s=true):Inv (st.tell k s):=by
 unfold RSt.tell;split
 ·exact h.give _ _ (Qu hs)
 ·exact h
theorem Grow.tell(k:Nat)(s:Str):Grow st (st.tell k s):=by
 unfold RSt.tell;split
 ·exact Grow.give ..
 ·exact Grow.refl _
theorem size_tell(k:Nat)(s:Str):(st.tell k s).size=st.size:=by
 unfold RSt.tell;split
 ·exact J4 ..
 ·rfl
theorem star_ok(at_:Nat):∀ (l:List GAttr) {st:RSt},Inv st->(∀ a∈l,zD a.name=true)->Inv (zau at_ l st)/\Grow st (zau at_ l st)/\(zau at_ l st).size=st.size
 | [],st,h,_=>⟨h,Grow.refl _,Z⟩
 |a::l,st,h,hl=>by
  unfold zau;rw[List.foldl_cons];have hl':=λ b hb=>hl b (List.mem_cons_of_mem _ hb)
  split
  ·exact star_ok at_ l h hl'
  ·have h1:=star_ok at_ l (h.give at_ a.value (hl a (List.mem_cons_self ..))) hl';exact⟨h1.1,(Grow.give at_ a.name a.value).trans h1.2.1,h1.2.2.trans (J4 ..)⟩
structure ImpPost(st:RSt)(s:Str)(r:RSt×Int×Int):Prop where
 inv:Inv r.1
 grow:Grow st r.1
 size:r.1.size<=st.size+4*(zi s dot).length
 good:r.2.2=0->∃ m,r.1.mods[r.2.1.toNat]?=some m/\m.name=s/\0<=r.2.1
 bad:r.2.2≠0->r.2.1=-1
 ends:0<=r.2.2/\r.2.2<=6
def Yi(n:Nat)(I:RImp):Prop:=∀ (st:RSt) (s:Str),Inv st->zf s=true->4*st.left.toNat+(zi s dot).length<=n->∃ r,I st s=some r/\ImpPost st s r
structure BodyPost(st:RSt)(c:Nat)(r:RSt×Int):Prop where
 inv:Inv r.1
 grow:Grow st r.1
 size:r.1.size<=st.size+c
 ends:0<=r.2/\r.2<=6
theorem Inv.attrs(h:Inv st)(k:Nat):(∀ a∈st.attrsAt k,zD a.name=true)/\((st.attrsAt k).map (·.name)).Nodup:=by
 unfold RSt.attrsAt;cases hm:st.mods[k]? with
 | none=>exact⟨by simp,by simp⟩
 | some m=>exact⟨h.parts m (List.mem_of_getElem? hm),h.apart m (List.mem_of_getElem? hm)⟩
theorem zcz(tf:List File)(h:roots.length<=1048576):(jE tf roots p s).roots.length<=1048576:=by
 have:=Je tf p s roots [];unfold jE;simp at this;omega
theorem zbJ(h:Inv st)(hp:path.length<=1048576)(s:Str):(XD t path st s).roots.length<=1048576:=by
 unfold XD;split
 ·exact zcz _ hp
 ·split
  ·exact Nat.zero_le _
  ·split
   ·exact Nat.zero_le _
   ·refine zcz _ ?_;unfold RSt.rootsAt;cases hm:st.mods[(cix st (zM s)).toNat]? with
    | none=>exact Nat.zero_le _
    | some m=>exact h.roots m (List.mem_of_getElem? hm)
theorem value_ok{n:Nat}(hI:Yi n I)(h:Inv st)(hn:4*st.left.toNat+3<=n)(k:Nat)(s:Str)(_hs:zD s=true):∃ r,JG t path I st k s=some r/\BodyPost st 12 (r.1,r.2.2):=by
 unfold JG;have h0:∀ {v:GVal} {e:Int},0<=e->e<=6->∃ r,some (st,v,e)=some r/\BodyPost st 12 (r.1,r.2.2):=λ h1 h2=>⟨_,Z,h,Grow.refl _,Nat.le_add_right _ _,h1,h2⟩
 split
 ·exact h0 (by decide) (by decide)
 ·split
  ·exact h0 (by decide) (by decide)
  ·rename_i hc;split
   ·exact h0 (by decide) (by decide)
   ·have hv:zf (child (st.nameAt k) s)=true:=by
     cases hv:zf (child (st.nameAt k) s) with
     | true=>rfl
     | false=>exact absurd (.inr hv) hc
    have hp:=j7 hv;obtain⟨r,hr,hk⟩:=hI st _ h hv (by omega);rw[hr];have:=hk.size;exact⟨_,Z,hk.inv,hk.grow,by simp only;omega,hk.ends⟩
theorem stmt_ok{n:Nat}(hI:Yi n I)(h:Inv st)(hn:4*st.left.toNat+3<=n)(at_:Nat)(hx:zX x=true):∃ r,ZI t path I st at_ x=some r/\BodyPost st 30 r:=by
 have h0:∀ {e:Int},0<=e->e<=6->∃ r,some (st,e)=some r/\BodyPost st 30 r:=λ h1 h2=>⟨_,Z,h,Grow.refl _,Nat.le_add_right _ _,h1,h2⟩
 have key:∀ {s:Str} (hv:zf s=true),∃ r,I st s=some r/\ImpPost st s r/\r.1.size<=st.size+12:=λ hv=>by
  have hp:=j7 hv;obtain⟨r,hr,hk⟩:=hI st _ h hv (by omega);have:=hk.size;exact⟨r,hr,hk,by omega⟩
 unfold ZI;split
 ·rename_i hk;have hv:zf x.module=true:=Zp hx (.inl hk);obtain⟨r,hr,hp,hsz⟩:=key hv;rw[hr];simp only[Kd];split
  ·exact⟨_,Z,hp.inv,hp.grow,by simp only;omega,hp.ends⟩
  ·split
   ·exact⟨_,Z,hp.inv,hp.grow,by simp only;omega,by simp,by simp⟩
   ·exact⟨_,Z,hp.inv.give _ _ (first_valid hv),hp.grow.trans (Grow.give ..),by simp only[J4];omega,by simp,by simp⟩
 ·rename_i k0;split
  ·rename_i k1;split
   ·exact h0 (by decide) (by decide)
   ·rename_i hv;have hv':zf (Yh (Qt st at_) x.level x.module)=true:=by simpa using hv
    obtain⟨r,hr,hp,hsz⟩:=key hv';rw[hr];simp only[Kd];split
    ·exact⟨_,Z,hp.inv,hp.grow,by simp only;omega,hp.ends⟩
    ·have hl:=hp.grow.left;obtain⟨q,hq,hb⟩:=value_ok (t:=t) (path:=path) hI hp.inv (by have:=h.left;have:=hp.inv.left;omega) r.2.1.toNat x.name (J3 hx (.inl k1));have hbs:=hb.size;rw[hq];simp only[Kd];split
     ·exact⟨_,Z,hb.inv,hp.grow.trans hb.grow,by simp only at hbs ⊢;omega,hb.ends⟩
     ·exact⟨_,Z,hb.inv.give _ _ (J3 hx (.inl k1)),hp.grow.trans (hb.grow.trans (Grow.give ..)),by simp only[J4] at hbs ⊢;omega,by simp,by simp⟩
  ·rename_i k1;split
   ·rename_i k2;obtain⟨r,hr,hp,hsz⟩:=key (Zp hx (.inr k2));rw[hr];simp only[Kd];split
    ·exact⟨_,Z,hp.inv,hp.grow,by simp only;omega,hp.ends⟩
    ·have h1:=star_ok at_ _ hp.inv (hp.inv.attrs r.2.1.toNat).1;exact⟨_,Z,h1.1,hp.grow.trans h1.2.1,by simp only[h1.2.2];omega,by simp,by simp⟩
   ·split
    ·rename_i k3;exact⟨_,Z,h.give _ _ (J3 hx (.inr (.inl k3))),Grow.give ..,by simp only[J4];omega,by simp,by simp⟩
    ·split
     ·split
      ·exact h0 (by decide) (by decide)
      ·refine⟨_,Z,⟨h.names,h.roots,h.parts,h.apart,h.left⟩,⟨Int.le_refl _,λ _ m h=>⟨m,h,Z⟩⟩,?_,by simp,by simp⟩;unfold RSt.size;simp only[List.length_append,List.length_cons,List.length_nil];omega
     ·split
      ·exact h0 (by decide) (by decide)
      ·exact h0 (by decide) (by decide)
theorem body_ok{n:Nat}{I:RImp}(hI:Yi n I)(at_:Nat):∀ (l:List Stmt) (st:RSt),Inv st->4*st.left.toNat<=n+1->(∀ x∈l,zX x=true)->∃ r,Jn t path I at_ l st=some r/\BodyPost st 0 r
 | [],st,h,_,_=>⟨_,Z,h,Grow.refl _,Nat.le_refl _,by simp,by simp⟩
 |x::l,st,h,hn,hl=>by
  unfold Jn;split
  ·exact⟨_,Z,h,Grow.refl _,Nat.le_refl _,by simp,by simp⟩
  ·rename_i hz;have h1:Inv { st with left:=st.left - 1 }:=⟨h.names,h.roots,h.parts,h.apart,by have:=h.left;show(0:Int)<=st.left - 1;omega⟩;have hgr:Grow st { st with left:=st.left - 1 }:=⟨by show st.left - 1<=st.left;omega,λ _ m h=>⟨m,h,Z⟩⟩;have hsz:RSt.size { st with left:=st.left - 1 }+100=st.size:=by
    unfold RSt.size;have:=h.left;simp only;omega
   obtain⟨r,hr,hb⟩:=stmt_ok (t:=t) (path:=path) hI h1 (by have:=h.left;show 4*(st.left - 1).toNat+3<=n;omega) at_ (hl x (List.mem_cons_self ..));have hbs:=hb.size;rw[hr];simp only[Kd];split
   ·exact⟨_,Z,hb.inv,hgr.trans hb.grow,by omega,hb.ends⟩
   ·have hle:=hb.grow.left;obtain⟨q,hq,hk⟩:=body_ok hI at_ l r.1 hb.inv (by have:=h.left;have:=hb.inv.left;simp only at hle;omega) λ y hy=>hl y (List.mem_cons_of_mem _ hy)
    have hks:=hk.size;exact⟨q,hq,hk.inv,hgr.trans (hb.grow.trans hk.grow),by omega,hk.ends⟩
theorem Wz(hv:zB t=true)(k:Int):∀ x∈(JF t.files k).body,zX x=true:=by
 unfold JF;cases hf:t.files[k.toNat]? with
 | none=>intro x hx;simp at hx;cases hx
 |some f=>have:=W7 hv (List.mem_of_getElem? hf);unfold jr at this;simp only[Bool.and_eq_true] at this;exact List.all_eq_true.1 this.1
theorem run_ok{n:Nat}(hv:zB t=true)(hI:Yi n I)(h:Inv st)(hn:4*st.left.toNat<=n+1)(at_:Nat)(sp:Spec):∃ r,runF t path I st at_ sp=some r/\BodyPost st 0 r:=by
 unfold runF;split
 ·exact body_ok hI at_ _ st h hn (Wz hv _)
 ·exact⟨_,Z,h,Grow.refl _,Nat.le_refl _,by simp,by simp⟩
theorem new_ok{n:Nat}(hv:zB t=true)(hI:Yi n I)(h:Inv st)(hn:4*st.left.toNat<=n+1)(hs:zf s=true){sp:Spec}(hr:sp.roots.length<=1048576):∃ r,newF t path I st s sp=some r/\ImpPost st s r/\r.1.size<=st.size+3:=by
 unfold newF;have hpp:=Xf s;split
 ·exact⟨_,Z,⟨h,Grow.refl _,Nat.le_add_right _ _,λ e=>absurd e (by simp),λ _=>Z,by simp,by simp⟩,Nat.le_add_right _ _⟩
 ·have h1:=h.begin (sp:=sp) hs hr;have hbz:(st.begin s sp).size=st.size+2:=by unfold RSt.size RSt.begin;simp only[List.length_append,List.length_cons,List.length_nil];omega
  obtain⟨r,hr,hb⟩:=run_ok (path:=path) hv hI h1 (by show 4*st.left.toNat<=n+1;exact hn) st.mods.length sp;have hbs:=hb.size;have hg:Grow st r.1:=(Grow.begin s sp).trans hb.grow;obtain⟨m,hm,hmn⟩:=hb.grow.old st.mods.length ⟨s,sp.kind,sp.roots,true,false,[]⟩ (by unfold RSt.begin;simp);rw[hr];simp only[Kd];split
  ·rename_i he;have hsz:(r.1.fail st.mods.length s).size=r.1.size+1:=by unfold RSt.size RSt.fail;simp only[Wa,List.length_append,List.length_cons,List.length_nil];omega
   exact⟨_,Z,⟨hb.inv.fail _ _,hg.trans (Grow.upd (f:=λ m=>{ m with cached:=false }) λ _=>Z),by simp only;omega,λ e=>absurd e he,λ _=>Z,hb.ends⟩,by simp only;omega⟩
  ·have hsz:(r.1.done st.mods.length s).size=r.1.size+1:=by unfold RSt.size RSt.done;simp only[Wa,List.length_append,List.length_cons,List.length_nil];omega
   have hgd:Grow r.1 (r.1.done st.mods.length s):=Grow.upd (f:=λ m=>{ m with done:=true }) λ _=>Z
   have hgt:=Grow.tell (st:=r.1.done st.mods.length s) st.mods.length s;refine⟨_,Z,⟨(hb.inv.done _ _).tell _ hs,hg.trans (hgd.trans hgt),by simp only[size_tell];omega,λ _=>?_,λ e=>absurd Z e,by simp,by simp⟩,by simp only[size_tell];omega⟩;obtain⟨m2,hm2,hn2⟩:=(hgd.trans hgt).old _ m hm;exact⟨m2,by simpa using hm2,hn2.trans hmn,by simp only;omega⟩
theorem zbK(hv:zB t=true)(hp:path.length<=1048576):∀ n,Yi n (imp t path n)
 | 0=>λ st s _ _ hn=>absurd (Xf s) (by omega)
 |n+1=>by
  intro st s h hs hn;have hpp:=Xf s;unfold imp impF;have hhit:∀ {st':RSt},Inv st'->Grow st st'->st'.size+2<=st.size+4*(zi s dot).length->cmpI .geq (cix st' s) 0=true->∃ r,some (st'.hit (cix st' s).toNat s,cix st' s,(0:Int))=some r/\ImpPost st s r:=λ h' hg hsz hc=>by
   obtain⟨m,h1,h2,h3⟩:=zaL hc;refine⟨_,Z,h'.hit _ _,hg.trans ⟨Int.le_refl _,λ _ m h=>⟨m,h,Z⟩⟩,?_,λ _=>⟨m,h1,?_,h3⟩,λ e=>absurd Z e,by simp,by simp⟩
   ·exact Nat.le_trans (size_hit _ _ s) hsz
   ·unfold hits at h2;simp only[Bool.and_eq_true,decide_eq_true_eq] at h2;exact h2.1
  split
  ·rename_i hc;exact hhit h (Grow.refl _) (by omega) hc
  ·have hpar:∃ r,(if zM s=emptyS then some (st,(0:Int),(0:Int)) else imp t path n st (zM s))=some r/\Inv r.1/\Grow st r.1/\r.1.size+4<=st.size+4*(zi s dot).length/\0<=r.2.2/\r.2.2<=6:=by
    split
    ·exact⟨_,Z,h,Grow.refl _,by simp only;omega,by simp,by simp⟩
    ·rename_i he;obtain⟨e1,e2⟩:=Ys hs he;obtain⟨r,hr,hk⟩:=zbK hv hp n st (zM s) h e2 (by omega);have:=hk.size;exact⟨r,hr,hk.inv,hk.grow,by omega,hk.ends⟩
   obtain⟨r,hr,hi,hg,hsz,he⟩:=hpar;rw[hr];simp only[Kd];split
   ·rename_i hne;exact⟨_,Z,hi,hg,by simp only;omega,λ e=>absurd e hne,λ _=>Z,he⟩
   ·split
    ·rename_i hc;exact hhit hi hg (by omega) hc
    ·have hl:=hg.left;obtain⟨q,hq,hk,hks⟩:=new_ok (path:=path) hv (zbK hv hp n) hi (by have:=h.left;have:=hi.left;omega) hs (zbJ (t:=t) hi hp s);exact⟨q,hq,hk.inv,hg.trans hk.grow,by omega,hk.good,hk.bad,hk.ends⟩
theorem idxOf_cases{α:Type}(p:α->Bool)(l:List α):(xU p l=-1/\∀ x∈l,p x=false)\/∃ (k:Nat) (x:α),xU p l=(k:Int)/\l[k]?=some x/\p x=true:=by
 cases h:cmpI .geq (xU p l) 0 with
 |true=>obtain⟨x,h1,h2,h3⟩:=zaL h;exact .inr ⟨(xU p l).toNat,x,(Int.toNat_of_nonneg h3).symm,h1,h2⟩
 |false=>refine .inl ⟨?_,Qv h⟩;have hn:=Qv h;unfold xU;rw[List.findIdx?_eq_none_iff.2 hn]
theorem ZS(st:RSt)(s:Str):(cix st s=-1/\∀ m∈st.mods,hits s m=false)\/∃ (k:Nat) (m:GMod),cix st s=(k:Int)/\st.mods[k]?=some m/\m.name=s/\m.cached=true:=by
 rcases idxOf_cases (hits s) st.mods with h | ⟨k,m,h1,h2,h3⟩
 ·exact .inl h
 ·unfold hits at h3;simp only[Bool.and_eq_true,decide_eq_true_eq] at h3;exact .inr ⟨k,m,h1,h2,h3.1,h3.2⟩
theorem Zx(k:Nat):cmpI .geq (k:Int) 0=true:=by simp[cmpI]
theorem zcA(k:Nat):cmpI .lss (k:Int) 0=false:=by simp[cmpI]
theorem geq_m1:cmpI .geq (-1:Int) 0=false:=rfl
theorem lss_m1:cmpI .lss (-1:Int) 0=true:=rfl
def enc(s:Str):Nat:=match s.l with
 | [a]=>a.toNat
 | [a,b]=>a.toNat+256*b.toNat
 | [a,b,c]=>a.toNat+256*b.toNat+65536*c.toNat
 | _=>0
theorem Qw(h:zD s=true):(∃ a,s=⟨[a]⟩/\1<=a.toNat)\/(∃ a b,s=⟨[a,b]⟩/\1<=a.toNat/\1<=b.toNat)\/∃ a b c,s=⟨[a,b,c]⟩/\1<=a.toNat/\1<=b.toNat/\1<=c.toNat:=by
 have hl:∀ {b:UInt8},low b=true->1<=b.toNat:=λ{b} hb=>by
  unfold low at hb;simp[cmpB] at hb;have h1:=hb.1;rw[UInt8.le_iff_toNat_le] at h1;simp at h1;omega
 unfold zD inR at h;simp only[Bool.and_eq_true,List.all_eq_true] at h;obtain⟨h1,h2⟩:=h;cases s with
 | mk l=>
 match l,h1,h2 with
 | [],h1,_=>simp[cmpI] at h1
 | [a],_,h2=>exact .inl ⟨a,Z,hl (h2 a (by simp))⟩
 | [a,b],_,h2=>exact .inr (.inl ⟨a,b,Z,hl (h2 a (by simp)),hl (h2 b (by simp))⟩)
 | [a,b,c],_,h2=>exact .inr (.inr ⟨a,b,c,Z,hl (h2 a (by simp)),hl (h2 b (by simp)),hl (h2 c (by simp))⟩)
 | a::b::c::d::l,h1,_=>simp[cmpI] at h1;omega
theorem enc_inj{t:Str}(hs:zD s=true)(ht:zD t=true)(h:enc s=enc t):s=t:=by
 have lt:∀ a:UInt8,a.toNat<256:=λ a=>a.toNat_lt
 have inj:∀ {a b:UInt8},a.toNat=b.toNat->a=b:=λ h=>UInt8.toNat_inj.1 h
 rcases Qw hs with⟨a,rfl,h1⟩ | ⟨a,b,rfl,h1,h2⟩ | ⟨a,b,c,rfl,h1,h2,h3⟩ <;> rcases Qw ht with⟨x,rfl,k1⟩ | ⟨x,y,rfl,k1,k2⟩ | ⟨x,y,z,rfl,k1,k2,k3⟩ <;> simp only[enc] at h
 ·rw[inj (a:=a) (b:=x) (by omega)]
 ·have:=lt a;have:=lt x;omega
 ·have:=lt a;have:=lt x;have:=lt y;omega
 ·have:=lt a;have:=lt x;omega
 ·have:=lt a;have:=lt x;rw[inj (a:=a) (b:=x) (by omega),inj (a:=b) (b:=y) (by omega)]
 ·have:=lt a;have:=lt x;have:=lt b;have:=lt y;omega
 ·have:=lt a;have:=lt x;have:=lt b;omega
 ·have:=lt a;have:=lt x;have:=lt b;have:=lt y;omega
 ·have:=lt a;have:=lt x;have:=lt b;have:=lt y;rw[inj (a:=a) (b:=x) (by omega),inj (a:=b) (b:=y) (by omega),inj (a:=c) (b:=z) (by omega)]
theorem enc_lt(s:Str):enc s<16777216:=by
 unfold enc;have lt:∀ a:UInt8,a.toNat<256:=λ a=>a.toNat_lt
 split
 ·rename_i a _;have:=lt a;omega
 ·rename_i a b _;have:=lt a;have:=lt b;omega
 ·rename_i a b c _;have:=lt a;have:=lt b;have:=lt c;omega
 ·omega
theorem attrs_few(h1:∀ a∈l,zD a.name=true)(h2:(l.map (·.name)).Nodup):l.length<=16777216:=by
 have h3:((l.map (·.name)).map enc).Nodup:=by
  unfold List.Nodup;rw[List.pairwise_map];refine List.Pairwise.imp_of_mem (λ{a b} ha hb hne e=>hne (enc_inj ?_ ?_ e)) h2
  ·obtain⟨x,hx,rfl⟩:=List.mem_map.1 ha;exact h1 x hx
  ·obtain⟨x,hx,rfl⟩:=List.mem_map.1 hb;exact h1 x hx
 have h4:=nodupLen (m:=List.range 16777216) h3 (λ x hx=>by
  obtain⟨y,_,rfl⟩:=List.mem_map.1 hx;exact List.mem_range.2 (enc_lt y))
 simpa using h4
variable(t:Tree)(path:List Int)
def bxs(l:List GMod):List (Bx GMod):=l.map λ m=>⟨m⟩
def mach(st:RSt):Machine:=⟨t,path,⟨⟩,⟨xj⟩,bxs st.mods,st.out,st.log,st.part,st.left⟩
variable{t path}
theorem bxs_get(l:List GMod)(k:Nat):(bxs l)[k]?=(l[k]?).map λ m=>⟨m⟩:=List.getElem?_map ..
theorem bxs_len(l:List GMod):(bxs l).length=l.length:=List.length_map ..
theorem zcB(l:List GMod)(k:Nat)(m:GMod):(bxs l).set k ⟨m⟩=bxs (l.set k m):=(List.map_set).symm
theorem bxs_app(l:List GMod)(m:GMod):bxs l++[⟨m⟩]=bxs (l++[m]):=by unfold bxs;rw[List.map_append];rfl
theorem bxs_idx(l:List GMod)(s:Str):xU (λ x:Bx GMod=>hits s x.x) (bxs l)=xU (hits s) l:=by
 unfold xU bxs;rw[List.findIdx?_map];rfl
theorem WF(h:st.mods.length<=1048576)(s:Str):ye (mach t path st) s=some (cix st s):=by
 unfold ye y9;have hl:zP (λ s4=>zW (bxs st.mods) (λ a0=>xy a0 s) s4) 0=some (match (bxs st.mods).findIdx? (λ x=>hits s x.x) with | some i=>(Sum.inr (i:Int):Unit⊕Int) | none=>Sum.inl ()):=by
  refine J0 (bxs st.mods) (λ x=>hits s x.x) (λ i=>Sum.inr i) _ (λ k x hx hlt=>?_) ?_ (by rw[bxs_len];omega) Z
  ·unfold zW;have hb:=bxs_len st.mods;rw[zI,Ke (decide_eq_true hlt),zL,hx,Kd];show Option.bind (xy x.x s) _=_;rw[show xy x.x s=some (hits s x.x) from congrArg some (Bool.and_comm ..),Kd,zS (by omega)];cases hits s x.x <;> rfl
  ·unfold zW;rw[zI,Kf (by simp)]
 rw[show(mach t path st).modules=bxs st.mods from Z,hl,show cix st s=xU (λ x:Bx GMod=>hits s x.x) (bxs st.mods) from(bxs_idx ..).symm];unfold xU;cases List.findIdx? (λ x:Bx GMod=>hits s x.x) (bxs st.mods) <;> rfl
theorem zcC(h:st.log.length<=1048576)(k:Int)(s:Str):xI (mach t path st) k s=some (mach t path (st.note k s)):=by
 unfold xI;rw[xb (by show(st.log.length+1)*24<=_;omega) (by show st.log.length+1<=_;omega),Kd];rfl
theorem hit_eq(h:st.log.length<=1048576)(hp:st.part.length<=1048576)(hm:st.mods[k]?=some m):jY (mach t path st) (k:Int)=some (mach t path (st.hit k m.name),(k:Int)):=by
 have hb:(bxs st.mods)[k]?=some ⟨m⟩:=by rw[bxs_get,hm];rfl
 have hd:st.doneAt k=m.done:=by unfold RSt.doneAt;rw[hm];rfl
 unfold jY;rw[show(mach t path st).modules=bxs st.mods from Z,zL,hb,Kd,Int.toNat_natCast,hb,Kd,zcC h,Kd,
  show(mach t path (st.note 3 m.name)).modules=bxs st.mods from Z,hb,Kd,xA,Kd,show(mach t path (st.note 3 m.name)).part=st.part from Z]
 have hc:∀ x,yw st.part x=some (decide (x∈st.part)):=λ x=>ContainsS_eq hp
 rw[hc,xA,Kd];cases hdn:m.done with
 |true=>rw[hdn] at hd;rw[Kf (by simp),Kd];unfold RSt.hit;rw[Kf (by rw[hd];simp)];rfl
 |false=>
  rw[hdn] at hd;by_cases hi:m.name∈st.part
  ·rw[Kf (by simp[hi]),Kd];unfold RSt.hit;rw[Kf (by simp[hi])];rfl
  ·rw[Ke (by simp[hi]),Kd,xb (by show(st.part.length+1)*16<=_;omega) (by show st.part.length+1<=_;omega),Kd,Kd];unfold RSt.hit;rw[Ke ⟨hd,hi⟩];rfl
def val0(l:List GAttr)(j:Int):GVal:=((l[j.toNat]?).map (·.value)).getD ⟨0,0⟩
theorem loop_idxc{α β γ:Type}{c:γ}{step:γ×Int->Option ((γ×Int)⊕β)}(xs:List α)(p:α->Bool)(f:Int->β)(e:β)
  (h:∀ k x,xs[k]?=some x->k<xs.length->step (c,(k:Int))=some (if p x=true then .inr (f k) else .inl (c,((k+1:Nat):Int))))
  (hend:step (c,(xs.length:Int))=some (.inr e)) (hlen:xs.length<576460752303423488):zP step (c,(0:Int))=some (match xs.findIdx? p with | some i=>f (i:Int) | none=>e):=by
 have key:=JZ (σ:=Unit) (step:=step) xs (λ _ k=>(c,(k:Int))) (λ k _ x=>match (if p x=true then some (f k) else none) with | none=>.inl () | some b=>.inr b) (λ _=>e) (λ _ _=>True) (λ k _ x hx hlt _=>by
  have:=h k x hx hlt;cases hp:p x with
  | true=>rw[hp] at this;exact this
  | false=>rw[hp] at this;exact⟨this,trivial⟩) (λ _ _=>hend) (s0:=()) trivial hlen
 refine key.trans ((congrArg some (runL_idx p f e 0 xs)).trans ?_);cases xs.findIdx? p <;> simp
theorem attr_eq(h:m.attrs.length<=16777216)(s:Str):wn m s=some (match (m.attrs.findIdx? (λ a=>decide (a.name=s))) with | some i=>(val0 m.attrs (i:Int),true) | none=>(⟨0,0⟩,false)):=by
 unfold wn;have hl:zP (λ s6=>wd m s s6) (zGVal,(0:Int))=some (match m.attrs.findIdx? (λ a=>decide (a.name=s)) with | some i=>(Sum.inr (val0 m.attrs (i:Int),true):GVal⊕(GVal×Bool)) | none=>Sum.inl zGVal):=by
  refine loop_idxc m.attrs (λ a=>decide (a.name=s)) (λ j=>Sum.inr (val0 m.attrs j,true)) (Sum.inl zGVal) (λ k x hx hlt=>?_) ?_ (by omega)
  ·unfold wd;rw[show((zGVal,(k:Int)):GVal×Int).2=(k:Int) from Z,zI,Ke (decide_eq_true hlt),zL,hx,Kd,zS (by omega),Kd,show val0 m.attrs (k:Int)=x.value by unfold val0;rw[Int.toNat_natCast,hx];rfl];cases decide (x.name=s) <;> rfl
  ·unfold wd;rw[show((zGVal,(m.attrs.length:Int)):GVal×Int).2=(m.attrs.length:Int) from Z,zI,Kf (by simp)]
 rw[hl];cases m.attrs.findIdx? (λ a=>decide (a.name=s)) <;> rfl
theorem J5(l:List GAttr)(s:Str):(aix l s=-1/\l.findIdx? (λ a=>decide (a.name=s))=none)\/∃ (k:Nat) (a:GAttr),aix l s=(k:Int)/\l.findIdx? (λ a=>decide (a.name=s))=some k/\l[k]?=some a/\a.name=s:=by
 unfold aix xU;cases h:l.findIdx? (λ a=>decide (a.name=s)) with
 | none=>exact .inl ⟨Z,Z⟩
 |some k=>obtain⟨h1,h2,_⟩:=List.findIdx?_eq_some_iff_getElem.1 h;exact .inr ⟨k,l[k],Z,Z,List.getElem?_eq_getElem h1,by simpa using h2⟩
theorem attr_eq'(h:m.attrs.length<=16777216)(s:Str):wn m s=some (if cmpI .geq (aix m.attrs s) 0=true then(val0 m.attrs (aix m.attrs s),true) else(⟨0,0⟩,false)):=by
 rw[attr_eq h];rcases J5 m.attrs s with⟨h1,h2⟩ | ⟨k,a,h1,h2,_⟩
 ·rw[h1,h2];rfl
 ·rw[h1,h2,Ke (Zx k)]
theorem give_eq(h:m.attrs.length<=16777216)(s:Str)(v:GVal):yG m s v=some { m with attrs:=j9 m.attrs s v }:=by
 unfold yG;have hl:zP (λ s6=>we m s v s6) (m,(0:Int))=some (match m.attrs.findIdx? (λ a=>decide (a.name=s)) with | some i=>(Sum.inr { m with attrs:=updA m.attrs (i:Int).toNat (λ a=>{ a with value:=v }) }:GMod⊕GMod) | none=>Sum.inl m):=by
  refine loop_idxc m.attrs (λ a=>decide (a.name=s)) (λ j=>Sum.inr { m with attrs:=updA m.attrs j.toNat (λ a=>{ a with value:=v }) }) (Sum.inl m) (λ k x hx hlt=>?_) ?_ (by omega)
  ·unfold we;rw[show((m,(k:Int)):GMod×Int).2=(k:Int) from Z,show((m,(k:Int)):GMod×Int).1=m from Z,zI,Ke (decide_eq_true hlt),zL,hx,Kd,Kd,zS (by omega),Kd,Int.toNat_natCast,Wy _ hx];cases decide (x.name=s) <;> rfl
  ·unfold we;rw[show((m,(m.attrs.length:Int)):GMod×Int).2=(m.attrs.length:Int) from Z,zI,Kf (by simp)]
 rw[hl];unfold j9;rcases J5 m.attrs s with⟨h1,h2⟩ | ⟨k,a,h1,h2,_⟩
 ·rw[h2,h1,Kf (by decide)];show Option.bind (appO 32 m.attrs [⟨s,v⟩]) _=_;rw[xb (by show(m.attrs.length+1)*32<=_;omega) (by show m.attrs.length+1<=_;omega),Kd]
 ·rw[h2,h1,Ke (Zx k),Int.toNat_natCast];rfl
theorem packOf_eq(h:zf m.name=true):wu m=some (if m.kind=1 then zM m.name else m.name):=by
 unfold wu;by_cases hk:m.kind=1
 ·rw[Ke (by simp[cmpI,hk]),Ke hk,Jm h];rfl
 ·rw[Kf (by simp[cmpI,hk]),Kf hk]
theorem CutF_eq(hs:s.l.length<=4611686018427387904):∃ a b,jc s ⟨[46]⟩=some (Z1 s,a,b):=by
 have hge:=Lib.indexByte_ge s.l 46;have hf:Z1 s=((zi s dot)[0]?).getD emptyS:=by unfold Z1;cases zi s dot <;> rfl
 rw[hf];unfold jc xH;rw[show yK s ⟨[46]⟩=some (Lib.indexByte s.l 46) from Z,Kd,yI];cases hc:cmpI .geq (Lib.indexByte s.l 46) 0 with
 |false=>
  rw[Kf (by decide),Kd];have h0:Lib.indexByte s.l 46<0:=by have:=of_decide_eq_false hc;omega
  have h1:cutF dot s.l=[s.l]:=YJ 46 s.l h0;rw[h1];exact⟨_,_,Z⟩
 |true=>
  have h0:0<=Lib.indexByte s.l 46:=oD hc;obtain⟨h1,h2⟩:=YK 46 s.l h0;obtain⟨n,hn⟩:∃ n:Nat,Lib.indexByte s.l 46=n:=⟨_,(Int.toNat_of_nonneg h0).symm⟩;rw[hn] at h1 h2 ⊢;have h3:cutF dot s.l=s.l.take n::cutF 46 (s.l.drop (n+1)):=h2;have hl:n+1<=s.l.length:=by omega
  rw[Ke Z,Xd (by omega),Kd,show((n:Int)+((⟨[46]⟩:Str).l.length:Int))=((n:Int)+1) from Z,xx (by omega) (by omega),Kd,show((n:Int)+1)=((n+1:Nat):Int) from Z,WC hl,Kd,Kd,h3];exact⟨_,_,Z⟩
structure Small(st:RSt):Prop where
 mods:st.mods.length<=1048576
 log:st.log.length<=1048576
 out:st.out.length<=1048576
 part:st.part.length<=1048576
theorem RSt.small{n:Nat}(h:st.size<=n)(hn:n<=1048576:=by decide):Small st:=by
 unfold RSt.size at h;exact⟨by omega,by omega,by omega,by omega⟩
theorem Inv.few(h:Inv st)(hm:m∈st.mods):m.attrs.length<=16777216:=attrs_few (h.parts m hm) (h.apart m hm)
theorem Inv.at_(h:Inv st)(hm:st.mods[k]?=some m):m∈st.mods/\zf m.name=true/\m.attrs.length<=16777216/\m.roots.length<=1048576:=
 have hi:=List.mem_of_getElem? hm
 ⟨hi,h.names m hi,h.few hi,h.roots m hi⟩
theorem ZT(h:zf s=true):zx s=true:=by unfold zx;rw[h,Bool.or_true]
theorem WG(hm:st.mods[k]?=some m):st.kindAt k=m.kind:=by unfold RSt.kindAt;rw[hm];rfl
theorem zeB(hm:st.mods[k]?=some m):st.rootsAt k=m.roots:=by unfold RSt.rootsAt;rw[hm];rfl
theorem XQ(hm:st.mods[k]?=some m):st.attrsAt k=m.attrs:=by unfold RSt.attrsAt;rw[hm];rfl
theorem zaM(hm:st.mods[k]?=some m):st.nameAt k=m.name:=by unfold RSt.nameAt;rw[hm];rfl
theorem set_give(hm:st.mods[k]?=some m)(s:Str)(v:GVal):st.mods.set k { m with attrs:=j9 m.attrs s v }=(st.give k s v).mods:=(Wy (λ m:GMod=>{ m with attrs:=j9 m.attrs s v }) hm).symm
theorem mach_give(hm:st.mods[k]?=some m)(s:Str)(v:GVal):({ mach t path st with modules:=(bxs st.mods).set k ⟨{ m with attrs:=j9 m.attrs s v }⟩ }:Machine)=mach t path (st.give k s v):=by
 rw[zcB,set_give hm];rfl
theorem look_eq(ht:Good t)(hp:path.length<=1048576)(h:Inv st)(hs:Small st)(hv:zf s=true):xX (mach t path st) s=some (mach t path st,XD t path st s):=by
 have hn:=name_of hv;unfold xX XD;rw[Jm hv,Kd];by_cases he:zM s=emptyS
 ·have hl:ji s=s:=by
   rw[he] at hn;unfold child at hn;rw[Ke Z] at hn;exact hn.symm
  rw[Ke (decide_eq_true (show zM s=(⟨[]⟩:Str) from he)),Ke he,show(mach t path st).t=t from Z,show(mach t path st).path=path from Z,
   find_eq ht hp (p:=(⟨[]⟩:Str)) (by rfl) (by rw[← hl];exact Qu hv) (show zf (child emptyS s)=true by unfold child;rw[Ke Z];exact hv),Kd]
  rfl
 ·have he':¬ zM s=(⟨[]⟩:Str):=he;rw[Kf (by simp[he']),Kf he,WF hs.mods,Kd];rcases ZS st (zM s) with⟨h1,_⟩ | ⟨k,m,h1,h2,h3,_⟩
  ·rw[h1,lss_m1];rw[show((true == false):Bool)=false from Z,X9,Kd,X9,Kd,Ke (by simp),Ke Z];rfl
  ·have hb:(bxs st.mods)[k]?=some ⟨m⟩:=by rw[bxs_get,h2];rfl
   rw[h1,zcA,show((false == false):Bool)=true from Z,q6,q6,show(mach t path st).modules=bxs st.mods from Z,zL,hb,Kd,Int.toNat_natCast,hb,Kd,Bool.false_or,Kf (by decide:¬ (false=true)),WG h2,zeB h2];by_cases hk:m.kind=1
   ·rw[Ke (by simp[cmpI,hk]),Ke hk];rfl
   ·rw[Kf (by simp[cmpI,hk]),Kf hk,Kd,Kd,LastOf_eq hv,Kd];have hpp:=(Ys hv he).2;rw[show(mach t path st).t=t from Z,find_eq ht (h.at_ h2).2.2.2 (ZT hpp) (Qu hv) (by rw[← hn];exact hv),Kd]
variable{n:Nat}
def zav(t:Tree)(path:List Int)(n:Nat)(R:Rec)(I:RImp):Prop:=
 ∀ (st:RSt) (s:Str) (r:RSt×Int×Int),Inv st->zf s=true->4*st.left.toNat+(zi s dot).length<=n->st.size<=20000->I st s=some r->R.impl_machine_load1 (mach t path st) s=some (mach t path r.1,r.2.1,r.2.2)
theorem QK(h:¬ e=0):cmpI .neq e 0=true:=by simp[cmpI,h]
theorem jF{a b:Int}(h:a=b):cmpI .eql a b=true:=by simp[cmpI,h]
theorem ja{a b:Int}(h:¬ a=b):cmpI .eql a b=false:=by simp[cmpI,h]
theorem qO{l:List GMod}(h:l[k]?=some m):(bxs l)[k]?=some ⟨m⟩:=by rw[bxs_get,h];rfl
theorem Grow.at_(h:Grow a b)(hm:a.mods[k]?=some m):∃ m',b.mods[k]?=some m':=let⟨m',h1,_⟩:=h.old k m hm;⟨m',h1⟩
theorem give_at(h:Inv st)(hm:st.mods[k]?=some m)(s:Str)(v:GVal){β:Type}(f:Machine->β):
  (((mach t path st).modules[k]?).bind λ v39=>(yG v39.x s v).bind λ v41=>some (f { mach t path st with modules:=(mach t path st).modules.set k ⟨v41⟩ }))=some (f (mach t path (st.give k s v))):=by
 rw[show(mach t path st).modules=bxs st.mods from Z,qO hm,Kd,give_eq (h.at_ hm).2.2.1,Kd,mach_give hm]
theorem do_0(hI:Yi n I)(hL:zav t path n R I)(h:Inv st)(hn:4*st.left.toNat+3<=n)(hsz:st.size<=19950)(hk:st.mods[k]?=some m)(hx:zX x=true)(hkd:x.kind=0)(hr:ZI t path I st k x=some r):
  yP R (mach t path st) (k:Int) x=some (mach t path r.1,r.2):=by
 have hv:=Zp hx (.inl hkd);have hpl:=j7 hv;obtain⟨q,hq,hp⟩:=hI st x.module h hv (by omega);have hqs:=hp.size;unfold ZI at hr;rw[Ke hkd,hq,Kd] at hr;have hld:=hL st x.module q h hv (by omega) (by omega) hq;unfold yP;rw[show(mach t path st).modules=bxs st.mods from Z,zL,qO hk,Kd,Ke (jF hkd),hld,Kd];by_cases he:q.2.2=0
 ·rw[Kf (by simp[he])] at hr;have hc:=CutF_eq (s:=x.module) (by have:=yu hv;omega);obtain⟨a,b,hc⟩:=hc;obtain⟨m',hm'⟩:=hp.grow.at_ hk;simp only;rw[he,Kf (by decide),hc,Kd,WF (RSt.small (n:=20000) (by omega) (hn:=(by omega))).mods,Kd];cases hcx:cmpI .lss (cix q.1 (Z1 x.module)) 0 with
  |true=>rw[Ke hcx] at hr;rw[Ke Z];cases hr;rfl
  |false=>rw[Kf (by simp[hcx])] at hr;cases hr;rw[Kf (by decide),Int.toNat_natCast];have:=give_at (t:=t) (path:=path) hp.inv hm' (Z1 x.module) ⟨1,cix q.1 (Z1 x.module)⟩ (λ mm=>(Sum.inl mm:Machine⊕(Machine×Int)));rw[this];rfl
 ·rw[Ke he] at hr;cases hr;simp only;rw[Ke (QK he)];rfl
theorem do_2loop(hk':∃ m,st.mods[k]?=some m)(l:List GAttr)(h:Inv st)(hl:∀ a∈l,zD a.name=true)(hb:l.length<=16777216):
  zP (λ s248=>y8 R (k:Int) l s248) (mach t path st,(0:Int))=some (Sum.inl (mach t path (zau k l st))):=by
 obtain⟨m0,hm0⟩:=hk';have key:=ju (step:=λ s248=>y8 R (k:Int) l s248) l (λ(s:RSt) j=>(mach t path s,(j:Int))) (λ s a=>if(a.name.l.headD 0 == 122)=true then s else s.give k a.name a.value) (λ s=>(Sum.inl (mach t path s):Machine⊕(Machine×Int))) (λ _ s=>Inv s/\∃ m,s.mods[k]?=some m)
  (λ j s a ha hlt ⟨hi,m1,hm1⟩=>by
   have hva:=hl a (List.mem_of_getElem? ha);have hne:a.name.l[0]?=some (a.name.l.headD 0):=by
    rcases Qw hva with⟨c,e,_⟩ | ⟨c,d,e,_⟩ | ⟨c,d,e',e,_⟩ <;> rw[e] <;> rfl
   have hat:atI a.name.l (0:Int)=some (a.name.l.headD 0):=hne;have hgr:=Grow.give (st:=s) k a.name a.value;obtain⟨m2,hm2⟩:=hgr.at_ hm1;have hs:y8 R (k:Int) l (mach t path s,(j:Int))=some (.inl (mach t path (if(a.name.l.headD 0 == 122)=true then s else s.give k a.name a.value),((j+1:Nat):Int))):=by
    unfold y8;simp only;rw[zI,Ke (decide_eq_true hlt),zL,ha,Kd,hat,Kd,zS (by omega),Int.toNat_natCast];cases hz:(a.name.l.headD 0 == 122) with
    |true=>rw[Kf (by simp[cmpB] at hz ⊢;exact hz),Ke Z];rfl
    |false=>have hg:=give_at (t:=t) (path:=path) hi hm1 a.name a.value (λ mm=>mm);rw[Ke (by simp[cmpB] at hz ⊢;exact hz),hg,Kf (by decide)];rfl
   refine⟨hs,?_⟩;split
   ·exact⟨hi,m1,hm1⟩
   ·exact⟨hi.give k _ hva,m2,hm2⟩)
  (λ s _=>by
   unfold y8;simp only;rw[zI,Kf (by simp)]) (s0:=st) ⟨h,m0,hm0⟩ (by omega)
 exact key
theorem do_2(hI:Yi n I)(hL:zav t path n R I)(h:Inv st)(hn:4*st.left.toNat+3<=n)(hsz:st.size<=19950)(hk:st.mods[k]?=some m)(hx:zX x=true)(hkd:x.kind=2)(hr:ZI t path I st k x=some r):
  yP R (mach t path st) (k:Int) x=some (mach t path r.1,r.2):=by
 have hv:=Zp hx (.inr hkd);have hpl:=j7 hv;obtain⟨q,hq,hp⟩:=hI st x.module h hv (by omega);have hqs:=hp.size;unfold ZI at hr;rw[Kf (by omega),Kf (by omega),Ke hkd,hq,Kd] at hr;have hld:=hL st x.module q h hv (by omega) (by omega) hq;unfold yP;rw[show(mach t path st).modules=bxs st.mods from Z,zL,qO hk,Kd,Kf (by rw[ja (by omega)];decide),Kf (by rw[ja (by omega)];decide),Ke (jF hkd),hld,Kd];by_cases he:q.2.2=0
 ·rw[Kf (by simp[he])] at hr;obtain⟨m',hm'⟩:=hp.grow.at_ hk;obtain⟨m2,hm2,_,h0⟩:=hp.good he;have hi2:=hp.inv.at_ hm2;obtain⟨j,hj⟩:∃ j:Nat,q.2.1=j:=⟨_,(Int.toNat_of_nonneg h0).symm⟩;rw[hj,Int.toNat_natCast] at hm2;rw[hj,Int.toNat_natCast,XQ hm2] at hr;cases hr;simp only;rw[he,Kf (by decide),hj,show(mach t path q.1).modules=bxs q.1.mods from Z,zL,qO hm2,Kd,Int.toNat_natCast,qO hm2,Kd,
   xb (by simp;omega) (by simp;omega),Kd,List.nil_append,do_2loop ⟨m',hm'⟩ m2.attrs hp.inv (hp.inv.parts m2 hi2.1) hi2.2.2.1]
  rfl
 ·rw[Ke he] at hr;cases hr;simp only;rw[Ke (QK he)];rfl
theorem do_3(h:Inv st)(hsz:st.size<=19950)(hk:st.mods[k]?=some m)(hkd:x.kind≠0/\x.kind≠1/\x.kind≠2)(hr:ZI t path I st k x=some r):
  yP R (mach t path st) (k:Int) x=some (mach t path r.1,r.2):=by
 have hi:=h.at_ hk;unfold ZI at hr;rw[Kf hkd.1,Kf hkd.2.1,Kf hkd.2.2] at hr;unfold yP;rw[show(mach t path st).modules=bxs st.mods from Z,zL,qO hk,Kd,Kf (by rw[ja hkd.1];decide),Kf (by rw[ja hkd.2.1];decide),Kf (by rw[ja hkd.2.2];decide),Int.toNat_natCast];by_cases h3:x.kind=3
 ·rw[Ke h3] at hr;cases hr;have:=give_at (t:=t) (path:=path) h hk x.name ⟨0,x.value⟩ (λ mm=>(Sum.inl mm:Machine⊕(Machine×Int)));rw[Ke (jF h3)];refine(congrArg (λ o=>Option.bind o _) this).trans ?_;rfl
 ·rw[Kf h3] at hr;rw[Kf (by rw[ja h3];decide)];by_cases h4:x.kind=4
  ·rw[Ke h4,XQ hk] at hr;rw[Ke (jF h4),qO hk,Kd,attr_eq' hi.2.2.1,Kd];cases hg:cmpI .geq (aix m.attrs x.name) 0 with
   |false=>
    have hl:cmpI .lss (aix m.attrs x.name) 0=true:=by rw[lss_geq] at hg;simpa using hg
    rw[Ke hl] at hr;cases hr;rw[Kz];rfl
   |true=>
    have hl:cmpI .lss (aix m.attrs x.name) 0=false:=by rw[lss_geq] at hg;simpa using hg
    rw[hl,Kf (by decide)] at hr;cases hr;have ho:st.out.length<=19950:=by unfold RSt.size at hsz;omega
    rw[Ke (show true=true from Z)];show Option.bind (if cmpI .eql (val0 m.attrs (aix m.attrs x.name)).kind 1=true then _ else _) _=some (mach t path { st with out:=st.out++[if(val0 m.attrs (aix m.attrs x.name)).kind=1 then -1 else(val0 m.attrs (aix m.attrs x.name)).num] },0);by_cases hz:(val0 m.attrs (aix m.attrs x.name)).kind=1
    ·rw[Ke (jF hz),Ke hz,xb (by show(st.out.length+1)*8<=_;omega) (by show st.out.length+1<=_;omega),Kd];rfl
    ·rw[Kf (by rw[ja hz];decide),Kf hz,xb (by show(st.out.length+1)*8<=_;omega) (by show st.out.length+1<=_;omega),Kd];rfl
  ·rw[Kf h4] at hr;rw[Kf (by rw[ja h4];decide)];by_cases h5:x.kind=5
   ·rw[Ke h5] at hr;cases hr;rw[Ke (jF h5)];rfl
   ·rw[Kf h5] at hr;cases hr;rw[Kf (by rw[ja h5];decide)];rfl
variable{n:Nat}
theorem childOk_eq(hp:zf p=true)(hs:zD s=true):XC p s=if zf (child p s)=true then child p s else emptyS:=by
 unfold XC;rw[ZT hp,hs];cases zf (child p s) <;> rfl
theorem valid_ne(h:zf s=true):¬ s=(⟨[]⟩:Str):=λ e=>by rw[e,show zf (⟨[]⟩:Str)=false from Z] at h;cases h
theorem part_len(h:zD s=true):s.l.length<=3:=by
 unfold zD inR at h;simp only[Bool.and_eq_true,cmpI,decide_eq_true_eq] at h;have:=h.1.2;omega
theorem value_eq(ht:Good t)(hp:path.length<=1048576)(hI:Yi n I)(hL:zav t path n R I)(h:Inv st)(hn:4*st.left.toNat+3<=n)(hsz:st.size<=20000)(hj:st.mods[j]?=some m)(hnm:zD nm=true)(hv:JG t path I st j nm=some v):
  (if(!(if cmpI .geq (aix m.attrs nm) 0=true then(val0 m.attrs (aix m.attrs nm),true) else((⟨0,0⟩:GVal),false)).2)=true then((wj m.name nm).bind λ v171=>
(atI (mach t path st).modules (j:Int)).bind λ _v175=>
((mach t path st).modules[(j:Int).toNat]?).bind λ v177=>
(gO ((cmpI .eql v177.x.kind (1:Int)||decide (v171=(⟨[]⟩:Str))) == false) (ye (mach t path st) v171)).bind λ v178=>
(gO (((cmpI .eql v177.x.kind (1:Int)||decide (v171=(⟨[]⟩:Str))) == false)&&(cmpI .lss v178 (0:Int) == true)) (xX (mach t path st) v171)).bind λ v184=>
if((cmpI .eql v177.x.kind (1:Int)||decide (v171=(⟨[]⟩:Str)))||(cmpI .lss v178 (0:Int)&&cmpI .eql v184.2.kind (0:Int)))=true then(some (.inr (.inr ((if(((cmpI .eql v177.x.kind (1:Int)||decide (v171=(⟨[]⟩:Str))) == false)&&(cmpI .lss v178 (0:Int) == true))=true then v184.1 else(mach t path st)),(2:Int)))))
else((R.impl_machine_load1 (if(((cmpI .eql v177.x.kind (1:Int)||decide (v171=(⟨[]⟩:Str))) == false)&&(cmpI .lss v178 (0:Int) == true))=true then v184.1 else(mach t path st)) v171).bind λ v196=>
if(cmpI .neq v196.2.2 (0:Int))=true then(some (.inr (.inr (v196.1,v196.2.2))))
else(some (.inl (v196.1,(⟨(1:Int),v196.2.1⟩:GVal))))))
else(some (.inl ((mach t path st),(if cmpI .geq (aix m.attrs nm) 0=true then(val0 m.attrs (aix m.attrs nm),true) else((⟨0,0⟩:GVal),false)).1))):Option ((Machine×GVal)⊕(Machine⊕(Machine×Int))))=some (if v.2.2=0 then .inl (mach t path v.1,v.2.1) else .inr (.inr (mach t path v.1,v.2.2))):=by
 have hi:=h.at_ hj;have hnl:=yu hi.2.1;have hnp:=part_len hnm;unfold JG at hv;rw[XQ hj,WG hj,zaM hj] at hv;cases hg:cmpI .geq (aix m.attrs nm) 0 with
 |true=>rw[Ke hg] at hv;cases hv;rfl
 |false=>
  rw[hg,Kz] at hv;rw[Kz,Ke (show(!false)=true from Z),W6 (by omega),Kd,childOk_eq hi.2.1 hnm,show(mach t path st).modules=bxs st.mods from Z,zL,qO hj,Kd,Int.toNat_natCast,qO hj,Kd];by_cases hc:m.kind=1\/zf (child m.name nm)=false
  ·rw[Ke hc] at hv;cases hv;have hd:(cmpI .eql m.kind (1:Int)||decide ((if zf (child m.name nm)=true then child m.name nm else emptyS)=(⟨[]⟩:Str)))=true:=by
    rcases hc with hc | hc
    ·rw[jF hc];rfl
    ·rw[hc,Bool.or_eq_true];exact .inr Z
   simp only;rw[hd,show(true == false)=false from Z,X9,Kd,Bool.false_and,X9,Kd,Bool.true_or,Ke (show true=true from Z),Kz];rfl
  ·rw[Kf hc] at hv;have hk1:¬ m.kind=1:=λ e=>hc (.inl e)
   have hvc:zf (child m.name nm)=true:=by cases e:zf (child m.name nm) with | true=>rfl | false=>exact absurd (.inr e) hc
   have hpl:=j7 hvc;rw[Ke hvc];have hd:(cmpI .eql m.kind (1:Int)||decide (child m.name nm=(⟨[]⟩:Str)))=false:=by rw[ja hk1,decide_eq_false (valid_ne hvc)];rfl
   obtain⟨q,hq,hqp⟩:=hI st _ h hvc (by omega);have hld:=hL st _ q h hvc (by omega) hsz hq;have sm:=RSt.small hsz;have fin:(R.impl_machine_load1 (mach t path st) (child m.name nm)).bind (λ v196=>if(cmpI .neq v196.2.2 (0:Int))=true then(some (.inr (.inr (v196.1,v196.2.2)))) else(some (.inl (v196.1,(⟨(1:Int),v196.2.1⟩:GVal)))))=some ((if q.2.2=0 then .inl (mach t path q.1,⟨1,q.2.1⟩) else .inr (.inr (mach t path q.1,q.2.2))):(Machine×GVal)⊕(Machine⊕(Machine×Int))):=by
    rw[hld,Kd];by_cases he:q.2.2=0
    ·simp only;rw[he,Kf (by decide),Ke Z]
    ·simp only;rw[Ke (QK he),Kf he]
   simp only;rw[hd,show(false == false)=true from Z,q6,WF sm.mods,Kd,Bool.true_and];simp only[Bool.false_or];cases hl:cmpI .lss (cix st (child m.name nm)) 0 with
   |true=>
    rw[show(true == true)=true from Z,q6,look_eq ht hp h sm hvc,Kd,Bool.true_and];simp only[if_true];by_cases hz:(XD t path st (child m.name nm)).kind=0
    ·rw[Ke ⟨hl,hz⟩] at hv;cases hv;rw[Ke (jF hz)];rfl
    ·rw[Kf (λ e=>hz e.2),hq,Kd] at hv;cases hv;rw[Kf (by rw[ja hz];decide)];exact fin
   |false=>rw[Kf (λ e=>by rw[hl] at e;exact absurd e.1 (by decide)),hq,Kd] at hv;cases hv;rw[show(false == true)=false from Z,X9,Kd,Bool.false_and,Kz,Kz];exact fin
theorem do_1(ht:Good t)(hp:path.length<=1048576)(hI:Yi n I)(hL:zav t path n R I)(h:Inv st)(hn:4*st.left.toNat+3<=n)(hsz:st.size<=19950)(hk:st.mods[k]?=some m)(hx:zX x=true)(hkd:x.kind=1)(hr:ZI t path I st k x=some r):
  yP R (mach t path st) (k:Int) x=some (mach t path r.1,r.2):=by
 have hi:=h.at_ hk;have hsx:zx x.module=true/\0<=x.level/\x.level<=3:=by
  rcases YW hx with h1 | h1 | h1
  ·exact absurd h1.1 (by omega)
  ·exact⟨h1.2.1,h1.2.2.1,h1.2.2.2⟩
  ·exact absurd hkd h1.2.1
 have hnm:=J3 hx (.inl hkd);unfold ZI at hr;have hpk:Qt st k=if m.kind=1 then zM m.name else m.name:=by unfold Qt;rw[WG hk,zaM hk]
 rw[Kf (by omega),Ke hkd,hpk] at hr;have hpv:zx (if m.kind=1 then zM m.name else m.name)=true:=by
  split
  ·exact W8 (ZT hi.2.1)
  ·exact ZT hi.2.1
 unfold yP;rw[show(mach t path st).modules=bxs st.mods from Z,zL,qO hk,Kd,Kf (by rw[ja (by omega)];decide),Ke (jF hkd),Int.toNat_natCast,qO hk,Kd,packOf_eq hi.2.1,Kd,zeA hpv hsx.1 hsx.2.1 hsx.2.2,Kd];generalize Yh (if m.kind=1 then zM m.name else m.name) x.level x.module=s1 at*;unfold orE;cases hv:zf s1 with
 |false=>rw[Ke hv] at hr;cases hr;rw[Kz,Ke (show decide (emptyS=(⟨[]⟩:Str))=true from Z)];rfl
 |true=>
  rw[Kf (by rw[hv];decide)] at hr;have hpl:=j7 hv;obtain⟨q,hq,hqp⟩:=hI st s1 h hv (by omega);have hqs:=hqp.size;have hld:=hL st s1 q h hv (by omega) (by omega) hq;rw[hq,Kd] at hr;rw[Ke (show true=true from Z),Kf (by rw[decide_eq_false (valid_ne hv)];decide),hld,Kd];by_cases he:q.2.2=0
  ·rw[Kf (by simp[he])] at hr;obtain⟨m',hm'⟩:=hqp.grow.at_ hk;obtain⟨m2,hm2,hmn,h0⟩:=hqp.good he;have hi2:=hqp.inv.at_ hm2;have hlq:=hqp.grow.left;obtain⟨j,hj⟩:∃ j:Nat,q.2.1=j:=⟨_,(Int.toNat_of_nonneg h0).symm⟩;rw[hj,Int.toNat_natCast] at hm2;rw[hj,Int.toNat_natCast] at hr;have hn':4*q.1.left.toNat+3<=n:=by have:=h.left;have:=hqp.inv.left;omega
   obtain⟨v,hve,hvb⟩:=value_ok (t:=t) (path:=path) hI hqp.inv hn' j x.name hnm;have hval:=value_eq ht hp hI hL hqp.inv hn' (by omega) hm2 hnm hve;rw[hmn] at hval;rw[hve,Kd] at hr;obtain⟨m3,hm3⟩:=hvb.grow.at_ hm';simp only;rw[he,Kf (by decide),hj,show(mach t path q.1).modules=bxs q.1.mods from Z,zL,qO hm2,Kd,Int.toNat_natCast,qO hm2,Kd,attr_eq' hi2.2.2.1,Kd,Kd];rw[show(mach t path q.1).modules=bxs q.1.mods from Z,zL,Int.toNat_natCast,qO hm2] at hval;dsimp only at hval ⊢;rw[hval];by_cases hz:v.2.2=0
   ·rw[Ke hz];rw[Kf (by simp[hz])] at hr;cases hr;have:=give_at (t:=t) (path:=path) hvb.inv hm3 x.name v.2.1 (λ mm=>(Sum.inl mm:Machine⊕(Machine×Int)));simp only[Kd,Sum.elim_inl];refine(congrArg (λ o=>Option.bind o _) this).trans ?_;rfl
   ·rw[Kf hz];rw[Ke hz] at hr;cases hr;rfl
  ·rw[Ke he] at hr;cases hr;simp only;rw[Ke (QK he)];rfl
theorem do_eq(ht:Good t)(hp:path.length<=1048576)(hI:Yi n I)(hL:zav t path n R I)(h:Inv st)(hn:4*st.left.toNat+3<=n)(hsz:st.size<=19950)(hk:st.mods[k]?=some m)(hx:zX x=true)(hr:ZI t path I st k x=some r):
  yP R (mach t path st) (k:Int) x=some (mach t path r.1,r.2):=by
 by_cases h0:x.kind=0
 ·exact do_0 hI hL h hn hsz hk hx h0 hr
 ·by_cases h1:x.kind=1
  ·exact do_1 ht hp hI hL h hn hsz hk hx h1 hr
  ·by_cases h2:x.kind=2
   ·exact do_2 hI hL h hn hsz hk hx h2 hr
   ·exact do_3 h hsz hk ⟨h0,h1,h2⟩ hr
variable{n:Nat}
def DoEq(t:Tree)(path:List Int)(n:Nat)(R:Rec)(I:RImp):Prop:=
 ∀ (st:RSt) (k:Nat) (m:GMod) (x:Stmt) (r:RSt×Int),Inv st->st.mods[k]?=some m->zX x=true->4*st.left.toNat+3<=n->st.size<=19950->ZI t path I st k x=some r->R.impl_machine_do (mach t path st) (k:Int) x=some (mach t path r.1,r.2)
def RSt.tick(st:RSt):RSt:={ st with left:=st.left - 1 }
theorem Inv.tick(h:Inv st)(hz:¬ st.left=0):Inv st.tick:=⟨h.names,h.roots,h.parts,h.apart,by have:=h.left;show(0:Int)<=st.left - 1;omega⟩
theorem size_tick(h:Inv st)(hz:¬ st.left=0):st.tick.size+100=st.size:=by
 unfold RSt.size RSt.tick;have:=h.left;simp only;omega
theorem body_loop(hI:Yi n I)(hD:DoEq t path n R I)(k:Nat)(l:List Stmt)(hl:∀ x∈l,zX x=true)(hlen:l.length<1000000000):∀ (m i:Nat) (st:RSt) (r:RSt×Int),i+m=l.length->Inv st->(∃ mm,st.mods[k]?=some mm)->4*st.left.toNat<=n+1->st.left<=1000000->st.size<=20050->Jn t path I k (l.drop i) st=some r->
  qb (λ s24=>yy R (k:Int) l s24) (m+1) (mach t path st,(0:Int),(i:Int))=some (mach t path r.1,r.2)
 |0,i,st,r,hi,_,_,_,_,_,hr=>by
  have:i=l.length:=by omega
  subst this;rw[List.drop_length] at hr;unfold Jn at hr;cases hr;refine xS ?_;unfold yy;simp only;rw[zI,Kf (by simp)]
 |m+1,i,st,r,hi,h,⟨mm,hmm⟩,hn,hle,hsz,hr=>by
  have hlt:i<l.length:=by omega
  have hx:l[i]?=some l[i]:=List.getElem?_eq_getElem hlt;have hv:=hl l[i] (List.getElem_mem hlt);rw[List.drop_eq_getElem_cons hlt] at hr;unfold Jn at hr;have hl0:=h.left;by_cases hz:st.left=0
  ·rw[Ke hz] at hr;cases hr;refine xS ?_;unfold yy;simp only;rw[zI,Ke (decide_eq_true hlt),zL,hx,Kd,show(mach t path st).left=st.left from Z,Ke (jF hz)]
  ·rw[Kf hz] at hr;have ht:=h.tick hz;have hts:=size_tick h hz;have htl:st.tick.left=st.left - 1:=rfl;obtain⟨q,hq,hb⟩:=stmt_ok (t:=t) (path:=path) hI ht (by rw[htl];omega) k hv;have hbs:=hb.size;have hbl:=hb.grow.left;have hbi:=hb.inv.left;obtain⟨m2,hm2⟩:=hb.grow.at_ (show st.tick.mods[k]?=some mm from hmm);have hd:=hD st.tick k mm l[i] q ht hmm hv (by rw[htl];omega) (by omega) hq;rw[show ZI t path I { st with left:=st.left - 1 } k l[i]=some q from hq,Kd] at hr;have hs:yy R (k:Int) l (mach t path st,(0:Int),(i:Int))=some (if q.2≠0 then .inr (mach t path q.1,q.2) else .inl (mach t path q.1,q.2,((i+1:Nat):Int))):=by
    unfold yy;simp only;rw[zI,Ke (decide_eq_true hlt),zL,hx,Kd,show(mach t path st).left=st.left from Z,Kf (by rw[ja hz];decide),xx (by omega) (by omega),Kd,
     show({ mach t path st with left:=st.left - 1 }:Machine)=mach t path st.tick from Z,hd,Kd,zS (by omega),Kd]
    by_cases he:q.2=0
    ·simp only;rw[he,Kf (by decide),Kf (by simp)]
    ·simp only;rw[Ke (QK he),Ke he]
   by_cases he:q.2=0
   ·rw[Kf (by simp[he])] at hr;rw[Kf (by simp[he]),he] at hs;rw[ZR hs];exact body_loop hI hD k l hl hlen m (i+1) q.1 r (by omega) hb.inv ⟨m2,hm2⟩ (by rw[htl] at hbl;omega) (by rw[htl] at hbl;omega) (by omega) hr
   ·rw[Ke he] at hr;cases hr;rw[Ke he] at hs;exact xS hs
theorem zeC(tf:List File)(roots:List Int)(p s:Str):(jE tf roots p s).file<tf.length:=zb1 tf p s roots []
theorem look_file(s:Str):(XD t path st s).file<t.files.length:=by
 unfold XD;split
 ·exact zeC ..
 ·split
  ·show(-1:Int)<_;omega
  ·split
   ·show(-1:Int)<_;omega
   ·exact zeC ..
theorem body_eq(hv:zB t=true)(hI:Yi n I)(hD:DoEq t path n R I)(h:Inv st)(hn:4*st.left.toNat<=n+1)(hle:st.left<=1000000)(hsz:st.size<=20040)(hk:st.mods[k]?=some m){sp:Spec}(hf:sp.file<t.files.length)(hr:runF t path I (st.note 0 m.name) k sp=some r):
  qZ R (mach t path st) (k:Int) sp=some (mach t path (r.1.note (if r.2=0 then 1 else 2) m.name),r.2):=by
 have sm:=RSt.small hsz;have hi:Inv (st.note 0 m.name):=h.note _ _;have hnz:(st.note 0 m.name).size=st.size+1:=by unfold RSt.size RSt.note;simp only[List.length_append,List.length_cons,List.length_nil];omega
 obtain⟨q,hq,hb⟩:=run_ok (path:=path) hv hI hi (by exact hn) k sp;rw[hq] at hr;injection hr with hr;subst hr;have hqs:=hb.size;have smq:=RSt.small (st:=q.1) (n:=20050) (by omega);have hrun:(if(cmpI .geq sp.file (0:Int))=true then((atI t.files sp.file).bind λ v19=>(xj v19).bind λ v20=>zP (λ s24=>yy R (k:Int) v20 s24) (mach t path (st.note 0 m.name),(0:Int),(0:Int))) else(some (mach t path (st.note 0 m.name),(0:Int))))=some (mach t path q.1,q.2):=by
  unfold runF at hq;cases hg:cmpI .geq sp.file 0 with
  |false=>rw[hg,Kz] at hq;cases hq;rw[Kz]
  |true=>
   have h0:0<=sp.file:=oD hg;rw[hg,Ke (show true=true from Z)] at hq;have hbv:=Wz hv sp.file;have hbl:(JF t.files sp.file).body.length<=8:=by
    unfold JF;cases hfl:t.files[sp.file.toNat]? with
    | none=>exact Nat.zero_le _
    |some f=>have:=W7 hv (List.mem_of_getElem? hfl);unfold jr at this;simp only[Bool.and_eq_true,cmpI,decide_eq_true_eq] at this;show f.body.length<=8;omega
   rw[Ke (show true=true from Z),atI_file h0 hf,Kd,show xj ((t.files[sp.file.toNat]?).getD default)=some (JF t.files sp.file).body from Z,Kd];refine Yg (m:=(JF t.files sp.file).body.length+1) (body_loop hI hD k _ hbv (by omega) _ 0 (st.note 0 m.name) q (by omega) hi ⟨m,hk⟩ hn hle (by omega) (by rw[List.drop_zero];exact hq)) (by omega)
 unfold qZ;rw[show(mach t path st).modules=bxs st.mods from Z,zL,qO hk,Kd,Int.toNat_natCast,qO hk,Kd,zcC sm.log,Kd];rw[show(mach t path (st.note 0 m.name)).t=t from Z,show(mach t path (st.note 0 m.name)).load.g=xj from Z,hrun,Kd];by_cases he:q.2=0
 ·simp only;rw[Ke (jF he),Ke he,zcC smq.log];rfl
 ·simp only;rw[Kf (by rw[ja he];decide),Kf he,zcC smq.log];rfl
theorem cix_empty(h:Inv st):cix st emptyS=-1:=by
 rcases ZS st emptyS with h1 | ⟨k,m,_,h2,h3,_⟩
 ·exact h1.1
 ·have:=h.names m (List.mem_of_getElem? h2);rw[h3] at this;cases this
theorem set_fail(hm:st.mods[k]?=some m)(s:Str):({ mach t path (st.note 2 s) with modules:=(bxs st.mods).set k ⟨{ m with cached:=false }⟩ }:Machine)=mach t path (st.fail k s):=by
 rw[zcB];unfold RSt.fail;rw[Wy _ hm];rfl
theorem set_done(hm:st.mods[k]?=some m)(s:Str):({ mach t path (st.note 1 s) with modules:=(bxs st.mods).set k ⟨{ m with done:=true }⟩ }:Machine)=mach t path (st.done k s):=by
 rw[zcB];unfold RSt.done;rw[Wy _ hm];rfl
variable{n:Nat}
def BodyEq(t:Tree)(path:List Int)(n:Nat)(R:Rec)(I:RImp):Prop:=
 ∀
  (st:RSt) (k:Nat) (m:GMod) (sp:Spec) (r:RSt×Int),Inv st->4*st.left.toNat<=n+1->st.left<=1000000->st.size<=20040->st.mods[k]?=some m->sp.file<t.files.length->runF t path I (st.note 0 m.name) k sp=some r->
  R.impl_machine_body (mach t path st) (k:Int) sp=some (mach t path (r.1.note (if r.2=0 then 1 else 2) m.name),r.2)
def RSt.grown(st:RSt)(s:Str)(sp:Spec):RSt:={ st with mods:=st.mods++[⟨s,sp.kind,sp.roots,true,false,[]⟩] }
theorem load_new(ht:Good t)(hp:path.length<=1048576)(hI:Yi n I)(hB:BodyEq t path n R I)(h:Inv st)(hn:4*st.left.toNat<=n+1)(hle:st.left<=1000000)(hsz:st.size<=20020)(hs:zf s=true){r:RSt×Int×Int}(hr:newF t path I st s (XD t path st s)=some r):
  ((xX (mach t path st) s).bind λ v48=>
if(cmpI .eql v48.2.kind (0:Int))=true then(some (v48.1,(-1:Int),(1:Int)))
else((appO 8 [] v48.2.roots).bind λ v63=>
(appO 8 v48.1.modules [⟨(⟨s,v48.2.kind,v63,true,false,[]⟩:GMod)⟩]).bind λ v84=>
(R.impl_machine_body ({ v48.1 with modules:=v84 }) (v48.1.modules.length:Int) v48.2).bind λ v93=>
if(cmpI .neq v93.2 (0:Int))=true then((v93.1.modules[v48.1.modules.length]?).bind λ v100=>
some ({ v93.1 with modules:=(v93.1.modules.set v48.1.modules.length ⟨{ v100.x with cached:=false }⟩) },(-1:Int),v93.2))
else((v93.1.modules[v48.1.modules.length]?).bind λ v106=>
Option.bind (α:=Machine) ((ye ({ v93.1 with modules:=(v93.1.modules.set v48.1.modules.length ⟨{ v106.x with done:=true }⟩) }) (zM s)).bind λ v111=>
if(decide (zM s≠(⟨[]⟩:Str))&&cmpI .geq v111 (0:Int))=true then((atI (v93.1.modules.set v48.1.modules.length ⟨{ v106.x with done:=true }⟩) v111).bind λ _v118=>
(jH s).bind λ v120=>
((v93.1.modules.set v48.1.modules.length ⟨{ v106.x with done:=true }⟩)[v111.toNat]?).bind λ v125=>
(yG v125.x v120 (⟨(1:Int),(v48.1.modules.length:Int)⟩:GVal)).bind λ v127=>
some ({ v93.1 with modules:=((v93.1.modules.set v48.1.modules.length ⟨{ v106.x with done:=true }⟩).set v111.toNat ⟨v127⟩) }))
else(some ({ v93.1 with modules:=(v93.1.modules.set v48.1.modules.length ⟨{ v106.x with done:=true }⟩) }))) λ o110=>
some (o110,(v48.1.modules.length:Int),(0:Int)))))=some (mach t path r.1,r.2.1,r.2.2):=by
 have sm:=RSt.small hsz;have hlr:=zbJ (t:=t) h hp s;have hlf:=look_file (t:=t) (path:=path) (st:=st) s;rw[look_eq ht hp h sm hs,Kd];unfold newF at hr;generalize XD t path st s=sp at*;by_cases hk:sp.kind=0
 ·rw[Ke hk] at hr;cases hr;rw[Ke (jF hk)]
 ·rw[Kf hk] at hr;have hgi:Inv (st.grown s sp):=⟨(h.begin (sp:=sp) hs hlr).names,(h.begin (sp:=sp) hs hlr).roots,(h.begin (sp:=sp) hs hlr).parts,(h.begin (sp:=sp) hs hlr).apart,h.left⟩;have hgz:(st.grown s sp).size=st.size+1:=by unfold RSt.size RSt.grown;simp only[List.length_append,List.length_cons,List.length_nil];omega
  have hgm:(st.grown s sp).mods[st.mods.length]?=some ⟨s,sp.kind,sp.roots,true,false,[]⟩:=by unfold RSt.grown;simp
  have hbz:(st.begin s sp).size=st.size+2:=by unfold RSt.size RSt.begin;simp only[List.length_append,List.length_cons,List.length_nil];omega
  obtain⟨q,hq,hb⟩:=run_ok (path:=path) ht.ok hI (h.begin (sp:=sp) hs hlr) (by exact hn) st.mods.length sp;have hqs:=hb.size;rw[hq,Kd] at hr;have hbody:=hB (st.grown s sp) st.mods.length _ sp q hgi (by exact hn) hle (by omega) hgm hlf hq;obtain⟨m,hm⟩:=hb.grow.at_ (show(st.begin s sp).mods[st.mods.length]?=some ⟨s,sp.kind,sp.roots,true,false,[]⟩ by unfold RSt.begin;simp);have hlen:(bxs st.mods).length=st.mods.length:=bxs_len _;rw[Kf (by rw[ja hk];decide),xb (by simp;omega) (by simp;omega),Kd,List.nil_append,show(mach t path st).modules=bxs st.mods from Z,xb (by rw[hlen];have:=sm.mods;show(st.mods.length+1)*8<=_;omega) (by rw[hlen];have:=sm.mods;show st.mods.length+1<=_;omega),Kd,bxs_app,hlen,
   show({ mach t path st with modules:=bxs (st.mods++[⟨s,sp.kind,sp.roots,true,false,[]⟩]) }:Machine)=mach t path (st.grown s sp) from Z,hbody,Kd]
  by_cases he:q.2=0
  ·rw[Kf (by simp[he])] at hr;cases hr;simp only;rw[he,Kf (by decide),Ke Z,show ∀ (z:RSt),(mach t path z).modules=bxs z.mods from λ _=>Z,show(q.1.note 1 s).mods=q.1.mods from Z,qO hm,Kd];have hsd:=set_done (t:=t) (path:=path) hm s;have hmd:(bxs q.1.mods).set st.mods.length ⟨{ m with done:=true }⟩=bxs (q.1.done st.mods.length s).mods:=by
    rw[zcB];unfold RSt.done;rw[Wy _ hm]
   have hid:=hb.inv.done st.mods.length s;have hdz:(q.1.done st.mods.length s).size=q.1.size+1:=by unfold RSt.size RSt.done;simp only[Wa,List.length_append,List.length_cons,List.length_nil];omega
   rw[hmd,show({ mach t path (q.1.note 1 s) with modules:=bxs (q.1.done st.mods.length s).mods }:Machine)=mach t path (q.1.done st.mods.length s) by rw[← hmd];exact hsd];rw[WF (RSt.small (n:=20100) (by omega)).mods,Kd];have hfin:((if(decide (zM s≠(⟨[]⟩:Str))&&cmpI .geq (cix (q.1.done st.mods.length s) (zM s)) (0:Int))=true then((atI (bxs (q.1.done st.mods.length s).mods) (cix (q.1.done st.mods.length s) (zM s))).bind λ v118=>
     (jH s).bind λ v120=>
     ((bxs (q.1.done st.mods.length s).mods)[(cix (q.1.done st.mods.length s) (zM s)).toNat]?).bind λ v125=>
     (yG v125.x v120 (⟨(1:Int),(st.mods.length:Int)⟩:GVal)).bind λ v127=>
     some ({ mach t path (q.1.note 1 s) with modules:=((bxs (q.1.done st.mods.length s).mods).set (cix (q.1.done st.mods.length s) (zM s)).toNat ⟨v127⟩) }:Machine))
     else(some (mach t path (q.1.done st.mods.length s)))):Option Machine)=some (mach t path ((q.1.done st.mods.length s).tell st.mods.length s)):=by
    unfold RSt.tell;rcases ZS (q.1.done st.mods.length s) (zM s) with⟨h1,_⟩ | ⟨k,m2,h1,h2,h3,_⟩
    ·rw[h1,geq_m1,Bool.and_false,Kz,Kz]
    ·have hne:¬ zM s=(⟨[]⟩:Str):=λ e=>by
      have:=cix_empty hid;rw[show emptyS=zM s from e.symm,h1] at this;omega
     rw[h1,Zx,decide_eq_true hne,Bool.true_and,Ke (show true=true from Z),Ke (show true=true from Z),zL,qO h2,Kd,LastOf_eq hs,Kd,Int.toNat_natCast,qO h2,Kd,give_eq (hid.at_ h2).2.2.1,Kd,zcB,set_give h2];rfl
   rw[hfin,Kd]
  ·rw[Ke he] at hr;cases hr;simp only;rw[Ke (QK he),Kf he,show ∀ (z:RSt),(mach t path z).modules=bxs z.mods from λ _=>Z,show(q.1.note 2 s).mods=q.1.mods from Z,qO hm,Kd,set_fail hm s]
theorem load_eq(ht:Good t)(hp:path.length<=1048576)(hI:Yi n I)(hL:zav t path n R I)(hB:BodyEq t path n R I)(h:Inv st)(hs:zf s=true)(hn:4*st.left.toNat+(zi s dot).length<=n+1)(hle:st.left<=1000000)(hsz:st.size<=20000){r:RSt×Int×Int}(hr:impF t path I st s=some r):
  qC R (mach t path st) s=some (mach t path r.1,r.2.1,r.2.2):=by
 have sm:=RSt.small hsz;have hpp:=Xf s;have hpl:=j7 hs;unfold impF at hr;unfold qC;rw[WF sm.mods,Kd];rcases ZS st s with⟨h1,_⟩ | ⟨k,m,h1,h2,h3,_⟩
 ·rw[h1,Kf (by decide)] at hr;rw[h1,Kf (by decide),Jm hs,Kd];by_cases he:zM s=emptyS
  ·rw[Ke he,Kd,Kf (by simp)] at hr;simp only at hr;rw[h1,Kf (by decide)] at hr;rw[Kf (by rw[show zM s=(⟨[]⟩:Str) from he];decide),Kd,Sum.elim_inl];exact load_new ht hp hI hB h (by omega) hle (by omega) hs hr
  ·have he':¬ zM s=(⟨[]⟩:Str):=he;obtain⟨e1,e2⟩:=Ys hs he;obtain⟨q,hq,hqp⟩:=hI st (zM s) h e2 (by omega);have hqs:=hqp.size;have hql:=hqp.grow.left;have hqi:=hqp.inv.left;have hl0:=h.left;have hld:=hL st (zM s) q h e2 (by omega) hsz hq;rw[Kf he,hq,Kd] at hr;rw[Ke (by rw[decide_eq_true he']),hld,Kd];by_cases hz:q.2.2=0
   ·rw[Kf (by simp[hz])] at hr;simp only;rw[hz,Kf (by decide),WF (RSt.small (n:=20100) (by omega)).mods,Kd];rcases ZS q.1 s with⟨k1,_⟩ | ⟨k,m,k1,k2,k3,_⟩
    ·rw[k1,Kf (by decide)] at hr;rw[k1,Kf (by decide),Kd,Sum.elim_inl];exact load_new ht hp hI hB hqp.inv (by omega) (by omega) (by omega) hs hr
    ·have smq:=RSt.small (st:=q.1) (n:=20100) (by omega);rw[k1,Ke (Zx k),Int.toNat_natCast] at hr;cases hr;rw[k1,Ke (Zx k),hit_eq smq.log smq.part k2,Kd,k3];rfl
   ·rw[Ke hz] at hr;cases hr;simp only;rw[Ke (QK hz)];rfl
 ·rw[h1,Ke (Zx k),Int.toNat_natCast] at hr;cases hr;rw[h1,Ke (Zx k),hit_eq sm.log sm.part h2,Kd,h3]
theorem left_of(h:Inv st){z:Nat}(hz:st.size<=z)(hh:z<=100000:=by decide):st.left<=1000000:=by
 unfold RSt.size at hz;have:=h.left;omega
theorem body_of(ht:Good t)(hp:path.length<=1048576)(hL:zav t path k (scc M) (imp t path k)):BodyEq t path k (scc (M+2)) (imp t path k):=
 have hI:=zbK ht.ok hp k;have hD:DoEq t path k (scc (M+1)) (imp t path k):=λ _ _ _ _ _ h hm hx hn hsz hr=>do_eq ht hp hI hL h hn hsz hm hx hr
 λ _ _ _ _ _ h hn hle hsz hm hf hr=>body_eq ht.ok hI hD h hn hle hsz hm hf hr
theorem scc_load(ht:Good t)(hp:path.length<=1048576):∀ (k N:Nat),3*k<=N->zav t path k (scc N) (imp t path k)
 | 0,_,_=>λ _ _ _ _ _ _ _ hr=>by cases hr
 |k+1,N,hN=>λ st s r h hs hn hsz hr=>by
  obtain⟨M,rfl⟩:∃ M,N=M+3:=⟨N - 3,by omega⟩;exact load_eq ht hp (zbK ht.ok hp k) (scc_load ht hp k (M+2) (by omega)) (body_of ht hp (scc_load ht hp k M (by omega))) h hs hn (left_of h hsz) hsz hr
variable(t:Tree)(path:List Int)
def rnr(d:Disk)(st:RSt)(e:Int):Runner:=⟨t,path,st.mods,st.log,st.out,e,st.left,⟨⟨false,d,Jg,[],0⟩⟩⟩
variable{t path}{n:Nat}
theorem Wb(h:st.mods.length<=1048576)(e:Int)(s:Str):xo (rnr t path d st e) s=some (rnr t path d st e,cix st s):=by
 unfold xo;have hl:zP (λ s4=>qj (rnr t path d st e) s s4) 0=some (match st.mods.findIdx? (hits s) with | some i=>(Sum.inr (rnr t path d st e,(i:Int)):Unit⊕(Runner×Int)) | none=>Sum.inl ()):=by
  refine J0 st.mods (hits s) (λ i=>Sum.inr (rnr t path d st e,i)) _ (λ k x hx hlt=>?_) ?_ (by omega) Z
  ·unfold qj;rw[show(rnr t path d st e).mods=st.mods from Z,zI,Ke (decide_eq_true hlt),zL,hx,Kd,xA,Kd,zS (by omega)];unfold hits;cases decide (x.name=s) with
   |true=>rw[Ke (show(true == true)=true from Z)];cases x.cached <;> rfl
   | false=>rfl
  ·unfold qj;rw[show(rnr t path d st e).mods=st.mods from Z,zI,Kf (by simp)]
 rw[hl];unfold cix xU;cases List.findIdx? (hits s) st.mods <;> rfl
theorem zcD(h:st.log.length<=1048576)(e k:Int)(s:Str):x9 (rnr t path d st e) k s=some (rnr t path d (st.note k s) e):=by
 unfold x9;rw[show(rnr t path d st e).log=st.log from Z,xb (by show(st.log.length+1)*24<=_;omega) (by show st.log.length+1<=_;omega),Kd];rfl
theorem zdi(h:l.length<=16777216)(s:Str):qM l s=some (aix l s):=by
 unfold qM;have hl:zP (λ s4=>jP l s s4) 0=some (match l.findIdx? (λ a=>decide (a.name=s)) with | some i=>(Sum.inr (i:Int):Unit⊕Int) | none=>Sum.inl ()):=by
  refine J0 l (λ a=>decide (a.name=s)) (λ i=>Sum.inr i) _ (λ k x hx hlt=>?_) ?_ (by omega) Z
  ·unfold jP;rw[zI,Ke (decide_eq_true hlt),zL,hx,Kd,zS (by omega),Kd];cases decide (x.name=s) <;> rfl
  ·unfold jP;rw[zI,Kf (by simp)]
 rw[hl];unfold aix xU;cases List.findIdx? (λ a:GAttr=>decide (a.name=s)) l <;> rfl
theorem W9(h:Inv st)(hm:st.mods[k]?=some m)(e:Int)(s:Str)(v:GVal):wF (rnr t path d st e) (k:Int) s v=some (rnr t path d (st.give k s v) e):=by
 have hi:=h.at_ hm;unfold wF;rw[show(rnr t path d st e).mods=st.mods from Z,zL,hm,Kd,zdi hi.2.2.1,Kd,Kd,Int.toNat_natCast];have hg:rnr t path d (st.give k s v) e={ rnr t path d st e with mods:=st.mods.set k { m with attrs:=j9 m.attrs s v } }:=by rw[set_give hm];rfl
 rw[hg];unfold j9;rcases J5 m.attrs s with⟨h1,_⟩ | ⟨j,a,h1,_,h3,_⟩
 ·rw[h1,geq_m1,Kz,Kz,Kd,xb (by show(m.attrs.length+1)*32<=_;omega) (by show m.attrs.length+1<=_;omega),Kd,Kd]
 ·rw[h1,Zx,Ke (show true=true from Z),Ke (show true=true from Z),zL,h3,Kd,Int.toNat_natCast,Wy _ h3]
theorem spackageOf_eq(h:zf m.name=true):Zj m=some (if m.kind=1 then zM m.name else m.name):=by
 unfold Zj;by_cases hk:m.kind=1
 ·rw[Ke (by simp[cmpI,hk]),Ke hk,show xi m.name=some (zM m.name) from Ke (wk h).mid];rfl
 ·rw[Kf (by simp[cmpI,hk]),Kf hk]
theorem zdK(e:Int)(hr:rs.length<=1048576)(hp:p.l.length+s.l.length<=100):ZD (rnr t path d st e) rs p s=some (rnr t path d st e,jE t.files rs p s):=by
 unfold ZD;rw[Ke (show(!(rnr t path d st e).warm.x.on)=true from Z),show YG (rnr t path d st e).t rs p s=some (jE t.files rs p s) from Ke ⟨by omega,by omega⟩,Kd]
theorem specIn_eq(hp:path.length<=1048576)(h:Inv st)(hs:Small st)(e:Int)(hv:zf s=true):jI (rnr t path d st e) s=some (rnr t path d st e,XD t path st s):=by
 have hl:=yu hv;unfold jI XD;rw[show xi s=some (zM s) from Ke (wk hv).mid,Kd];by_cases he:zM s=emptyS
 ·rw[Ke (decide_eq_true (show zM s=(⟨[]⟩:Str) from he)),Ke he,show(rnr t path d st e).path=path from Z,zdK e hp (by show 0+s.l.length<=_;omega),Kd];rfl
 ·have he':¬ zM s=(⟨[]⟩:Str):=he;have hpp:=(Ys hv he).2;have hpl:=yu hpp;have hla:=part_len (Qu hv);rw[Kf (by simp[he']),Kf he,Wb hs.mods,Kd];rcases ZS st (zM s) with⟨h1,_⟩ | ⟨k,m,h1,h2,h3,_⟩
  ·rw[h1,lss_m1];rw[show((true == false):Bool)=false from Z,X9,Kd,Ke (by simp),Ke Z];rfl
  ·rw[h1,zcA,show((false == false):Bool)=true from Z,q6,show(rnr t path d st e).mods=st.mods from Z,zL,h2,Kd,Bool.false_or,Kf (by decide:¬ (false=true)),Int.toNat_natCast,WG h2,zeB h2];by_cases hk:m.kind=1
   ·rw[Ke (by simp[cmpI,hk]),Ke hk];rfl
   ·rw[Kf (by simp[cmpI,hk]),Kf hk,Kd,show Zn s=some (ji s) from Ke (wk hv).mid,Kd,zdK e (h.at_ h2).2.2.2 (by omega),Kd]
def ImpEq(t:Tree)(path:List Int)(d:Disk)(n:Nat)(R:Rec)(I:RImp):Prop:=
 ∀ (st:RSt) (s:Str) (r:RSt×Int×Int),Inv st->zf s=true->4*st.left.toNat+(zi s dot).length<=n->st.size<=20000->I st s=some r->R.spec_importName (rnr t path d st 0) s=some (rnr t path d r.1 r.2.2,r.2.1)
def ValEq(t:Tree)(path:List Int)(d:Disk)(n:Nat)(R:Rec)(I:RImp):Prop:=
 ∀ (st:RSt) (j:Nat) (m:GMod) (s:Str) (v:RSt×GVal×Int),Inv st->st.mods[j]?=some m->zD s=true->4*st.left.toNat+3<=n->st.size<=20000->JG t path I st j s=some v->R.spec_fromName (rnr t path d st 0) (j:Int) s=some (rnr t path d v.1 v.2.2,v.2.1)
theorem val_eq(hp:path.length<=1048576)(hL:ImpEq t path d n R I)(hI:Yi n I)(h:Inv st)(hn:4*st.left.toNat+3<=n)(hsz:st.size<=20000)(hj:st.mods[j]?=some m)(hnm:zD nm=true)(hv:JG t path I st j nm=some v):
  YP R (rnr t path d st 0) (j:Int) nm=some (rnr t path d v.1 v.2.2,v.2.1):=by
 have hi:=h.at_ hj;have hnl:=yu hi.2.1;have hnp:=part_len hnm;have hcl:=zdg m.name nm;have sm:=RSt.small hsz;unfold JG at hv;rw[XQ hj,WG hj,zaM hj] at hv;unfold YP;rw[show(rnr t path d st 0).mods=st.mods from Z,zL,hj,Kd,zdi hi.2.2.1,Kd];rcases J5 m.attrs nm with⟨h1,_⟩ | ⟨k,a,h1,_,h3,_⟩
 ·rw[h1,geq_m1,Kz] at hv;have hvn:yL (child m.name nm)=some (zf (child m.name nm)):=Ke (by unfold mid;omega);rw[h1,geq_m1,Kz,Kd,show Zs m.name nm=some (child m.name nm) from Ke (by omega),Kd,Kd,hvn,xA,Kd];by_cases hk:m.kind=1
  ·rw[Ke (.inl hk)] at hv;cases hv;rw[jF hk,Ke (by rfl)];rfl
  ·rw[ja hk,show(false == false)=true from Z,Ke (show true=true from Z),Bool.false_or];cases hc:zf (child m.name nm) with
   |false=>rw[Ke (.inr hc)] at hv;cases hv;rw[Ke (by rfl)];rfl
   |true=>
    have hpl:=j7 hc;rw[Kf (λ e=>e.elim hk λ e=>by rw[hc] at e;cases e)] at hv;obtain⟨q,hq,hqp⟩:=hI st _ h hc (by omega);have hld:=hL st _ q h hc (by omega) hsz hq;rw[Kf (by decide),Wb sm.mods,Kd];cases hl:cmpI .lss (cix st (child m.name nm)) 0 with
    |true=>
     rw[show(true == true)=true from Z,q6,specIn_eq hp h sm 0 hc,Kd,Bool.true_and,Ke (show true=true from Z)];by_cases hz:(XD t path st (child m.name nm)).kind=0
     ·rw[Ke ⟨hl,hz⟩] at hv;cases hv;rw[Ke (jF hz)];rfl
     ·rw[Kf (λ e=>hz e.2),hq,Kd] at hv;cases hv;rw[Kf (by rw[ja hz];decide),hld,Kd]
    |false=>rw[Kf (λ e=>by rw[hl] at e;exact absurd e.1 (by decide)),hq,Kd] at hv;cases hv;rw[show(false == true)=false from Z,X9,Kd,Bool.false_and,Kz,Kz,hld,Kd]
 ·rw[h1,Zx,Ke (show true=true from Z),Int.toNat_natCast,h3] at hv;cases hv;rw[h1,Zx,Ke (show true=true from Z),Kd,zL,h3,Kd];rfl
theorem star_loop(hk':∃ m,st.mods[k]?=some m)(l:List GAttr)(h:Inv st)(hl:∀ a∈l,zD a.name=true)(hb:l.length<=16777216):
  zP (λ s19=>wc R (k:Int) l s19) (rnr t path d st 0,(0:Int))=some (rnr t path d (zau k l st) 0):=by
 obtain⟨m0,hm0⟩:=hk';have key:=ju (step:=λ s19=>wc R (k:Int) l s19) l (λ(s:RSt) j=>(rnr t path d s 0,(j:Int))) (λ s a=>if(a.name.l.headD 0 == 122)=true then s else s.give k a.name a.value) (λ s=>rnr t path d s 0) (λ _ s=>Inv s/\∃ m,s.mods[k]?=some m)
  (λ j s a ha hlt ⟨hi,m1,hm1⟩=>by
   have hva:=hl a (List.mem_of_getElem? ha);have hne:a.name.l[0]?=some (a.name.l.headD 0):=by
    rcases Qw hva with⟨c,e,_⟩ | ⟨c,d,e,_⟩ | ⟨c,d,e',e,_⟩ <;> rw[e] <;> rfl
   have hat:atI a.name.l (0:Int)=some (a.name.l.headD 0):=hne;have hgr:=Grow.give (st:=s) k a.name a.value;obtain⟨m2,hm2⟩:=hgr.at_ hm1;have hs:wc R (k:Int) l (rnr t path d s 0,(j:Int))=some (.inl (rnr t path d (if(a.name.l.headD 0 == 122)=true then s else s.give k a.name a.value) 0,((j+1:Nat):Int))):=by
    unfold wc;simp only;rw[zI,Ke (decide_eq_true hlt),zL,ha,Kd,hat,Kd,zS (by omega)];cases hz:(a.name.l.headD 0 == 122) with
    |true=>rw[Kf (by simp[cmpB] at hz ⊢;exact hz),Ke Z];rfl
    |false=>rw[Ke (by simp[cmpB] at hz ⊢;exact hz),Kd,Kd,W9 hi hm1,Kf (by decide)];rfl
   refine⟨hs,?_⟩;split
   ·exact⟨hi,m1,hm1⟩
   ·exact⟨hi.give k _ hva,m2,hm2⟩)
  (λ s _=>by
   unfold wc;simp only;rw[zI,Kf (by simp)]) (s0:=st) ⟨h,m0,hm0⟩ (by omega)
 exact key
variable{n:Nat}
theorem from_eq(_hp:path.length<=1048576)(hI:Yi n I)(hL:ImpEq t path d n R I)(hV:ValEq t path d n R I)(h:Inv st)(hn:4*st.left.toNat+3<=n)(hsz:st.size<=19950)(hk:st.mods[k]?=some m)(hx:zX x=true)(hkd:x.kind=1)(hr:ZI t path I st k x=some r):
  Xy R (rnr t path d st 0) (k:Int) x=some (rnr t path d r.1 r.2):=by
 have hi:=h.at_ hk;have hsx:zx x.module=true/\0<=x.level/\x.level<=3:=by
  rcases YW hx with h1 | h1 | h1
  ·exact absurd h1.1 (by omega)
  ·exact⟨h1.2.1,h1.2.2.1,h1.2.2.2⟩
  ·exact absurd hkd h1.2.1
 have hnm:=J3 hx (.inl hkd);unfold ZI at hr;have hpk:Qt st k=if m.kind=1 then zM m.name else m.name:=by unfold Qt;rw[WG hk,zaM hk]
 rw[Kf (by omega),Ke hkd,hpk] at hr;have hpv:zx (if m.kind=1 then zM m.name else m.name)=true:=by
  split
  ·exact W8 (ZT hi.2.1)
  ·exact ZT hi.2.1
 have hsh:sho (Yh (if m.kind=1 then zM m.name else m.name) x.level x.module):=by
  have:=stName_sho hpv hx;unfold stName at this;rw[Kf (by simp[cmpI,hkd]),Ke (by simp[cmpI,hkd])] at this;exact this
 unfold Xy;rw[show(rnr t path d st 0).mods=st.mods from Z,zL,hk,Kd,spackageOf_eq hi.2.1,Kd,zd8 hpv hsx.2.1 (by omega) (pkg_sho hsx.1),Kd];generalize Yh (if m.kind=1 then zM m.name else m.name) x.level x.module=s1 at*;rw[show yL s1=some (zf s1) from Ke hsh.mid,Kd];cases hv:zf s1 with
 |false=>rw[Ke hv] at hr;cases hr;rw[Ke (by rfl)];rfl
 |true=>
  rw[Kf (by rw[hv];decide)] at hr;have hpl:=j7 hv;obtain⟨q,hq,hqp⟩:=hI st s1 h hv (by omega);have hqs:=hqp.size;have hld:=hL st s1 q h hv (by omega) (by omega) hq;rw[hq,Kd] at hr;rw[Kf (by decide),hld,Kd];by_cases he:q.2.2=0
  ·rw[Kf (by simp[he])] at hr;obtain⟨m',hm'⟩:=hqp.grow.at_ hk;obtain⟨m2,hm2,hmn,h0⟩:=hqp.good he;have hlq:=hqp.grow.left;obtain⟨j,hj⟩:∃ j:Nat,q.2.1=j:=⟨_,(Int.toNat_of_nonneg h0).symm⟩;rw[hj,Int.toNat_natCast] at hm2;rw[hj,Int.toNat_natCast] at hr;have hn':4*q.1.left.toNat+3<=n:=by have:=h.left;have:=hqp.inv.left;omega
   obtain⟨v,hve,hvb⟩:=value_ok (t:=t) (path:=path) hI hqp.inv hn' j x.name hnm;have hval:=hV q.1 j m2 x.name v hqp.inv hm2 hnm hn' (by omega) hve;rw[hve,Kd] at hr;obtain⟨m3,hm3⟩:=hvb.grow.at_ hm';simp only;rw[show(rnr t path d q.1 q.2.2).fin=q.2.2 from Z,he,Kf (by decide),hj,hval,Kd];by_cases hz:v.2.2=0
   ·rw[Kf (by simp[hz])] at hr;cases hr;simp only;rw[show(rnr t path d v.1 v.2.2).fin=v.2.2 from Z,Ke (jF hz),W9 hvb.inv hm3,hz];rfl
   ·rw[Ke hz] at hr;cases hr;simp only;rw[show(rnr t path d v.1 v.2.2).fin=v.2.2 from Z,Kf (by rw[ja hz];decide)]
  ·rw[Ke he] at hr;cases hr;simp only;rw[show(rnr t path d q.1 q.2.2).fin=q.2.2 from Z,Ke (QK he)]
theorem star_eq(hI:Yi n I)(hL:ImpEq t path d n R I)(h:Inv st)(hn:4*st.left.toNat+3<=n)(hsz:st.size<=19950)(hk:st.mods[k]?=some m)(hx:zX x=true)(hkd:x.kind=2)(hr:ZI t path I st k x=some r):
  Yf R (rnr t path d st 0) (k:Int) x=some (rnr t path d r.1 r.2):=by
 have hv:=Zp hx (.inr hkd);have hpl:=j7 hv;obtain⟨q,hq,hp⟩:=hI st x.module h hv (by omega);have hqs:=hp.size;unfold ZI at hr;rw[Kf (by omega),Kf (by omega),Ke hkd,hq,Kd] at hr;have hld:=hL st x.module q h hv (by omega) (by omega) hq;unfold Yf;rw[hld,Kd];by_cases he:q.2.2=0
 ·rw[Kf (by simp[he])] at hr;obtain⟨m',hm'⟩:=hp.grow.at_ hk;obtain⟨m2,hm2,_,h0⟩:=hp.good he;have hi2:=hp.inv.at_ hm2;obtain⟨j,hj⟩:∃ j:Nat,q.2.1=j:=⟨_,(Int.toNat_of_nonneg h0).symm⟩;rw[hj,Int.toNat_natCast] at hm2;rw[hj,Int.toNat_natCast,XQ hm2] at hr;cases hr;simp only;rw[show(rnr t path d q.1 q.2.2).fin=q.2.2 from Z,he,Kf (by decide),hj,show(rnr t path d q.1 0).mods=q.1.mods from Z,zL,hm2,Kd,
   xb (by simp;omega) (by simp;omega),Kd,List.nil_append,star_loop ⟨m',hm'⟩ m2.attrs hp.inv (hp.inv.parts m2 hi2.1) hi2.2.2.1]
 ·rw[Ke he] at hr;cases hr;simp only;rw[show(rnr t path d q.1 q.2.2).fin=q.2.2 from Z,Ke (QK he)]
def StEq(t:Tree)(path:List Int)(d:Disk)(n:Nat)(F:Runner->Int->Stmt->Option Runner)(I:RImp)(P:Int->Prop):Prop:=
 ∀ (st:RSt) (k:Nat) (m:GMod) (x:Stmt) (r:RSt×Int),Inv st->st.mods[k]?=some m->zX x=true->P x.kind->4*st.left.toNat+3<=n->st.size<=19950->ZI t path I st k x=some r->F (rnr t path d st 0) (k:Int) x=some (rnr t path d r.1 r.2)
theorem first_get(s:Str):(zi s dot)[0]?=some (Z1 s):=by
 have:=Xf s;unfold Z1;cases h:zi s dot with
 | nil=>rw[h] at this;simp at this
 | cons a l=>rfl
theorem sstmt_eq(hI:Yi n I)(hL:ImpEq t path d n R I)(hF:StEq t path d n R.spec_runFrom I (·=1))(hS:StEq t path d n R.spec_runStar I (·=2))(h:Inv st)(hn:4*st.left.toNat+3<=n)(hsz:st.size<=19950)(hk:st.mods[k]?=some m)(hx:zX x=true)(hr:ZI t path I st k x=some r):
  Xx R (rnr t path d st 0) (k:Int) x=some (rnr t path d r.1 r.2):=by
 have hi:=h.at_ hk;unfold Xx;by_cases h0:x.kind=0
 ·have hv:=Zp hx (.inl h0);have hpl:=j7 hv;obtain⟨q,hq,hp⟩:=hI st x.module h hv (by omega);have hqs:=hp.size;unfold ZI at hr;rw[Ke h0,hq,Kd] at hr;have hld:=hL st x.module q h hv (by omega) (by omega) hq;have smq:=RSt.small (st:=q.1) (n:=20000) (by omega);rw[Ke (jF h0),hld,Kd,show xG x.module (UInt8.ofNat 46)=some (zi x.module dot) from Ke (wk hv).mid,Kd,show atI (zi x.module dot) (0:Int)=(zi x.module dot)[0]? from Z,first_get,Kd];simp only;rw[show(rnr t path d q.1 q.2.2).fin=q.2.2 from Z];by_cases he:q.2.2=0
  ·rw[Kf (by simp[he])] at hr;obtain⟨m',hm'⟩:=hp.grow.at_ hk;rw[he,Kf (by decide),Wb smq.mods,Kd];cases hc:cmpI .lss (cix q.1 (Z1 x.module)) 0 with
   |true=>rw[Ke hc] at hr;cases hr;rw[Ke (show true=true from Z)];rfl
   |false=>rw[Kf (by simp[hc])] at hr;cases hr;rw[Kf (by decide),Wb smq.mods,Kd,W9 hp.inv hm'];rfl
  ·rw[Ke he] at hr;cases hr;rw[Ke (QK he)]
 ·rw[Kf (by rw[ja h0];decide)];by_cases h1:x.kind=1
  ·rw[Ke (jF h1),hF st k m x r h hk hx h1 hn hsz hr];rfl
  ·rw[Kf (by rw[ja h1];decide)];by_cases h2:x.kind=2
   ·rw[Ke (jF h2),hS st k m x r h hk hx h2 hn hsz hr];rfl
   ·unfold ZI at hr;rw[Kf h0,Kf h1,Kf h2] at hr;rw[Kf (by rw[ja h2];decide)];by_cases h3:x.kind=3
    ·rw[Ke h3] at hr;cases hr;rw[Ke (jF h3),W9 h hk];rfl
    ·rw[Kf h3] at hr;rw[Kf (by rw[ja h3];decide)];by_cases h4:x.kind=4
     ·rw[Ke h4,XQ hk] at hr;rw[Ke (jF h4),show(rnr t path d st 0).mods=st.mods from Z,zL,hk,Kd,zdi hi.2.2.1,Kd];rcases J5 m.attrs x.name with⟨k1,_⟩ | ⟨j,a,k1,_,k3,_⟩
      ·rw[k1,lss_m1,Ke (show true=true from Z)] at hr;cases hr;rw[k1,lss_m1,Ke (show true=true from Z)];rfl
      ·rw[k1,zcA,Kz,Int.toNat_natCast,k3] at hr;cases hr;have ho:st.out.length<=19950:=by unfold RSt.size at hsz;omega
       rw[k1,zcA,Kz,Kd,zL,k3,Kd];have hsh:Xw a.value=some (if a.value.kind=1 then -1 else a.value.num):=by
        unfold Xw;by_cases hz:a.value.kind=1
        ·rw[Ke (jF hz),Ke hz]
        ·rw[Kf (by rw[ja hz];decide),Kf hz]
       rw[hsh,Kd,show(rnr t path d st 0).out=st.out from Z,xb (by show(st.out.length+1)*8<=_;omega) (by show st.out.length+1<=_;omega),Kd];rfl
     ·rw[Kf h4] at hr;rw[Kf (by rw[ja h4];decide)];by_cases h5:x.kind=5
      ·rw[Ke h5] at hr;cases hr;rw[Ke (jF h5)];rfl
      ·rw[Kf h5] at hr;cases hr;rw[Kf (by rw[ja h5];decide)]
theorem zeD(hI:Yi n I)(hD:StEq t path d n R.spec_runStmt I (λ _=>True))(k:Nat)(l:List Stmt)(hl:∀ x∈l,zX x=true)(hlen:l.length<1000000000):∀ (m i:Nat) (st:RSt) (r:RSt×Int),i+m=l.length->Inv st->(∃ mm,st.mods[k]?=some mm)->4*st.left.toNat<=n+1->st.left<=1000000->st.size<=20050->Jn t path I k (l.drop i) st=some r->
  qb (λ s2=>wa R (k:Int) l s2) (m+1) (rnr t path d st 0,(i:Int))=some (rnr t path d r.1 r.2)
 |0,i,st,r,hi,_,_,_,_,_,hr=>by
  have:i=l.length:=by omega
  subst this;rw[List.drop_length] at hr;unfold Jn at hr;cases hr;refine xS ?_;unfold wa;simp only;rw[zI,Kf (by simp)]
 |m+1,i,st,r,hi,h,⟨mm,hmm⟩,hn,hle,hsz,hr=>by
  have hlt:i<l.length:=by omega
  have hx:l[i]?=some l[i]:=List.getElem?_eq_getElem hlt;have hv:=hl l[i] (List.getElem_mem hlt);rw[List.drop_eq_getElem_cons hlt] at hr;unfold Jn at hr;have hl0:=h.left;by_cases hz:st.left=0
  ·rw[Ke hz] at hr;cases hr;refine xS ?_;unfold wa;simp only;rw[zI,Ke (decide_eq_true hlt),show(rnr t path d st 0).left=st.left from Z,Ke (jF hz)];rfl
  ·rw[Kf hz] at hr;have ht:=h.tick hz;have hts:=size_tick h hz;have htl:st.tick.left=st.left - 1:=rfl;obtain⟨q,hq,hb⟩:=stmt_ok (t:=t) (path:=path) hI ht (by rw[htl];omega) k hv;have hbs:=hb.size;have hbl:=hb.grow.left;have hbi:=hb.inv.left;obtain⟨m2,hm2⟩:=hb.grow.at_ (show st.tick.mods[k]?=some mm from hmm);have hd:=hD st.tick k mm l[i] q ht hmm hv trivial (by rw[htl];omega) (by omega) hq;rw[show ZI t path I { st with left:=st.left - 1 } k l[i]=some q from hq,Kd] at hr;have hs:wa R (k:Int) l (rnr t path d st 0,(i:Int))=some (if q.2≠0 then .inr (rnr t path d q.1 q.2) else .inl (rnr t path d q.1 q.2,((i+1:Nat):Int))):=by
    unfold wa;simp only;rw[zI,Ke (decide_eq_true hlt),show(rnr t path d st 0).left=st.left from Z,Kf (by rw[ja hz];decide),xx (by omega) (by omega),Kd,zL,hx,Kd,
     show({ rnr t path d st 0 with left:=st.left - 1 }:Runner)=rnr t path d st.tick 0 from Z,hd,Kd,zS (by omega),Kd,show(rnr t path d q.1 q.2).fin=q.2 from Z]
    by_cases he:q.2=0
    ·rw[he,Kf (by decide),Kf (by simp)]
    ·rw[Ke (QK he),Ke he]
   by_cases he:q.2=0
   ·rw[Kf (by simp[he])] at hr;rw[Kf (by simp[he]),he] at hs;rw[ZR hs];exact zeD hI hD k l hl hlen m (i+1) q.1 r (by omega) hb.inv ⟨m2,hm2⟩ (by rw[htl] at hbl;omega) (by rw[htl] at hbl;omega) (by omega) hr
   ·rw[Ke he] at hr;cases hr;rw[Ke he] at hs;exact xS hs
def SBodyEq(t:Tree)(path:List Int)(d:Disk)(n:Nat)(R:Rec)(I:RImp):Prop:=
 ∀ (st:RSt) (k:Nat) (m:GMod) (l:List Stmt) (r:RSt×Int),Inv st->st.mods[k]?=some m->(∀ x∈l,zX x=true)->l.length<1000000000->4*st.left.toNat<=n+1->st.left<=1000000->st.size<=20050->Jn t path I k l st=some r->R.spec_runBody (rnr t path d st 0) (k:Int) l=some (rnr t path d r.1 r.2)
theorem sbody_eq(hI:Yi n I)(hD:StEq t path d n R.spec_runStmt I (λ _=>True))(h:Inv st)(hk:st.mods[k]?=some m){l:List Stmt}(hl:∀ x∈l,zX x=true)(hlen:l.length<1000000000)(hn:4*st.left.toNat<=n+1)(hle:st.left<=1000000)(hsz:st.size<=20050)(hr:Jn t path I k l st=some r):W2 R (rnr t path d st 0) (k:Int) l=some (rnr t path d r.1 r.2):=
 Yg (m:=l.length+1) (zeD hI hD k l hl hlen l.length 0 st r (by omega) h ⟨m,hk⟩ hn hle hsz (by rw[List.drop_zero];exact hr)) (by omega)
variable{n:Nat}
theorem srun_eq(hv:zB t=true)(hB:SBodyEq t path d n R I)(h:Inv st)(hm:st.mods[k]?=some m)(hn:4*st.left.toNat<=n+1)(hle:st.left<=1000000)(hsz:st.size<=20050){sp:Spec}(hlf:sp.file<t.files.length)(hq:runF t path I st k sp=some q):
  (if(cmpI .geq sp.file (0:Int))=true then((qL (rnr t path d st 0) sp.file).bind λ v149=>
(R.spec_runBody v149.1 (k:Int) v149.2).bind λ v153=>
some v153)
else(some (rnr t path d st 0)))=some (rnr t path d q.1 q.2):=by
 unfold runF at hq;cases hg:cmpI .geq sp.file 0 with
 |false=>rw[hg,Kz] at hq;cases hq;rw[Kz]
 |true=>
  have h0:0<=sp.file:=oD hg;rw[hg,Ke (show true=true from Z)] at hq;have hbv:=Wz hv sp.file;have hbl:(JF t.files sp.file).body.length<=8:=by
   unfold JF;cases hfl:t.files[sp.file.toNat]? with
   | none=>exact Nat.zero_le _
   |some f=>have:=W7 hv (List.mem_of_getElem? hfl);unfold jr at this;simp only[Bool.and_eq_true,cmpI,decide_eq_true_eq] at this;show f.body.length<=8;omega
  have hbo:qL (rnr t path d st 0) sp.file=some (rnr t path d st 0,(JF t.files sp.file).body):=by
   unfold qL;rw[Ke (show(!(rnr t path d st 0).warm.x.on)=true from Z),show(rnr t path d st 0).t=t from Z,atI_file h0 hlf,Kd];rfl
  rw[Ke (show true=true from Z),hbo,Kd,hB st k m _ q h hm hbv (by omega) hn hle hsz hq,Kd]
theorem imp_new(hv:zB t=true)(hp:path.length<=1048576)(hI:Yi n I)(hB:SBodyEq t path d n R I)(h:Inv st)(hn:4*st.left.toNat<=n+1)(hle:st.left<=1000000)(hsz:st.size<=20020)(hs:zf s=true){r:RSt×Int×Int}(hr:newF t path I st s (XD t path st s)=some r):
  ((jI (rnr t path d st 0) s).bind λ v46=>
if(cmpI .eql v46.2.kind (0:Int))=true then(some ({ v46.1 with fin:=(1:Int) },(-1:Int)))
else(Option.bind (α:=Runner) ((appO 80 v46.1.mods [(⟨s,v46.2.kind,v46.2.roots,true,false,[]⟩:GMod)]).bind λ v86=>
some ({ v46.1 with mods:=v86 })) λ o65=>
(x9 o65 (0:Int) s).bind λ v140=>
Option.bind (α:=Runner) (if(cmpI .geq v46.2.file (0:Int))=true then((qL v140 v46.2.file).bind λ v149=>
(R.spec_runBody v149.1 (v46.1.mods.length:Int) v149.2).bind λ v153=>
some v153)
else(some v140)) λ o143=>
if(cmpI .neq o143.fin (0:Int))=true then((atI o143.mods (v46.1.mods.length:Int)).bind λ v161=>
(x9 ({ o143 with mods:=(o143.mods.set (v46.1.mods.length:Int).toNat ({ v161 with cached:=false })) }) (2:Int) s).bind λ v167=>
some (v167,(-1:Int)))
else((atI o143.mods (v46.1.mods.length:Int)).bind λ v172=>
(x9 ({ o143 with mods:=(o143.mods.set (v46.1.mods.length:Int).toNat ({ v172 with done:=true })) }) (1:Int) s).bind λ v178=>
Option.bind (α:=Runner) ((xo v178 (zM s)).bind λ v184=>
if(cmpI .geq v184.2 (0:Int))=true then((Zn s).bind λ v191=>
(wF v184.1 v184.2 v191 (⟨(1:Int),(v46.1.mods.length:Int)⟩:GVal)).bind λ v195=>
some v195)
else(some v184.1)) λ o181=>
some (o181,(v46.1.mods.length:Int)))))=some (rnr t path d r.1 r.2.2,r.2.1):=by
 have sm:=RSt.small hsz;have hlr:=zbJ (t:=t) h hp s;have hlf:=look_file (t:=t) (path:=path) (st:=st) s;rw[specIn_eq hp h sm 0 hs,Kd];unfold newF at hr;generalize XD t path st s=sp at*;by_cases hk:sp.kind=0
 ·rw[Ke hk] at hr;cases hr;rw[Ke (jF hk)];rfl
 ·rw[Kf hk] at hr;have hbi:=h.begin (sp:=sp) hs hlr;have hbz:(st.begin s sp).size=st.size+2:=by unfold RSt.size RSt.begin;simp only[List.length_append,List.length_cons,List.length_nil];omega
  have hbm:(st.begin s sp).mods[st.mods.length]?=some ⟨s,sp.kind,sp.roots,true,false,[]⟩:=by unfold RSt.begin;simp
  obtain⟨q,hq,hb⟩:=run_ok (path:=path) hv hI hbi (by exact hn) st.mods.length sp;have hqs:=hb.size;rw[hq,Kd] at hr;obtain⟨m,hm⟩:=hb.grow.at_ hbm;have hrun:=srun_eq hv hB hbi hbm (by exact hn) hle (by omega) hlf hq;rw[Kf (by rw[ja hk];decide),show(rnr t path d st 0).mods=st.mods from Z,xb (by have:=sm.mods;show(st.mods.length+1)*80<=_;omega) (by have:=sm.mods;show st.mods.length+1<=_;omega),Kd,Kd,
   show({ rnr t path d st 0 with mods:=st.mods++[⟨s,sp.kind,sp.roots,true,false,[]⟩] }:Runner)=rnr t path d (st.grown s sp) 0 from Z,zcD (st:=st.grown s sp) sm.log,Kd,show(st.grown s sp).note 0 s=st.begin s sp from Z]
  simp only;rw[hrun,Kd,Int.toNat_natCast,show(rnr t path d q.1 q.2).fin=q.2 from Z,show(rnr t path d q.1 q.2).mods=q.1.mods from Z,zL,hm,Kd];have smq:=RSt.small (st:=q.1) (n:=20100) (by omega);by_cases he:q.2=0
  ·rw[Kf (by simp[he])] at hr;cases hr;rw[he,Kf (by decide),Kd];have hid:=hb.inv.done st.mods.length s;have hdz:(q.1.done st.mods.length s).size=q.1.size+1:=by unfold RSt.size RSt.done;simp only[Wa,List.length_append,List.length_cons,List.length_nil];omega
   have hdn:RSt.note { q.1 with mods:=q.1.mods.set st.mods.length { m with done:=true } } 1 s=q.1.done st.mods.length s:=by unfold RSt.done;rw[Wy _ hm];rfl
   have hn2:=zcD (t:=t) (path:=path) (d:=d) (st:={ q.1 with mods:=q.1.mods.set st.mods.length { m with done:=true } }) smq.log 0 1 s;rw[hdn] at hn2;refine(congrFun (congrArg Option.bind hn2) _).trans ?_;rw[Kd,Wb (RSt.small (n:=20100) (by omega)).mods,Kd];unfold RSt.tell;rcases ZS (q.1.done st.mods.length s) (zM s) with⟨h1,_⟩ | ⟨k,m2,h1,h2,h3,_⟩
   ·simp only;rw[h1,geq_m1,Kz,Kz,Kd]
   ·simp only;rw[h1,Zx,Ke (show true=true from Z),Ke (show true=true from Z),show Zn s=some (ji s) from Ke (wk hs).mid,Kd,W9 hid h2,Kd,Kd,Int.toNat_natCast]
  ·rw[Ke he] at hr;cases hr;have hdn:RSt.note { q.1 with mods:=q.1.mods.set st.mods.length { m with cached:=false } } 2 s=q.1.fail st.mods.length s:=by unfold RSt.fail;rw[Wy _ hm];rfl
   have hn2:=zcD (t:=t) (path:=path) (d:=d) (st:={ q.1 with mods:=q.1.mods.set st.mods.length { m with cached:=false } }) smq.log q.2 2 s;rw[hdn] at hn2;rw[Ke (QK he)];refine(congrFun (congrArg Option.bind hn2) _).trans ?_;rfl
theorem simp_eq(hv:zB t=true)(hp:path.length<=1048576)(hI:Yi n I)(hL:ImpEq t path d n R I)(hB:SBodyEq t path d n R I)(h:Inv st)(hs:zf s=true)(hn:4*st.left.toNat+(zi s dot).length<=n+1)(hle:st.left<=1000000)(hsz:st.size<=20000){r:RSt×Int×Int}(hr:impF t path I st s=some r):
  Z0 R (rnr t path d st 0) s=some (rnr t path d r.1 r.2.2,r.2.1):=by
 have sm:=RSt.small hsz;have hpp:=Xf s;have hpl:=j7 hs;unfold impF at hr;unfold Z0;rw[Wb sm.mods,Kd];simp only;rcases ZS st s with⟨h1,_⟩ | ⟨k,m,h1,h2,h3,_⟩
 ·rw[h1,Kf (by decide)] at hr;rw[h1,Kf (by decide),show xi s=some (zM s) from Ke (wk hs).mid,Kd];by_cases he:zM s=emptyS
  ·rw[Ke he,Kd,Kf (by simp)] at hr;simp only at hr;rw[h1,Kf (by decide)] at hr;have hd:decide (zM s≠(⟨[]⟩:Str))=false:=by rw[show zM s=(⟨[]⟩:Str) from he];rfl
   rw[hd,show(false == true)=false from Z,X9,Kd,Bool.false_and,Kz,Kz,Wb sm.mods,Kd];simp only;rw[h1,Kf (by decide)];exact imp_new hv hp hI hB h (by omega) hle (by omega) hs hr
  ·have he':¬ zM s=(⟨[]⟩:Str):=he;obtain⟨e1,e2⟩:=Ys hs he;obtain⟨q,hq,hqp⟩:=hI st (zM s) h e2 (by omega);have hqs:=hqp.size;have hql:=hqp.grow.left;have hqi:=hqp.inv.left;have hl0:=h.left;have hld:=hL st (zM s) q h e2 (by omega) hsz hq;rw[Kf he,hq,Kd] at hr;have hd:decide (zM s≠(⟨[]⟩:Str))=true:=decide_eq_true he';rw[hd,show(true == true)=true from Z,q6,hld,Kd,Bool.true_and,Ke (show true=true from Z)];simp only;by_cases hz:q.2.2=0
   ·rw[Kf (by simp[hz])] at hr;obtain⟨_,_,_,h0⟩:=hqp.good hz;rw[Kf (by simp[cmpI];omega),hz,Wb (RSt.small (n:=20100) (by omega)).mods,Kd];simp only;rcases ZS q.1 s with⟨k1,_⟩ | ⟨k,m,k1,k2,k3,_⟩
    ·rw[k1,Kf (by decide)] at hr;rw[k1,Kf (by decide)];exact imp_new hv hp hI hB hqp.inv (by omega) (by omega) (by omega) hs hr
    ·have smq:=RSt.small (st:=q.1) (n:=20100) (by omega);rw[k1,Ke (Zx k),Int.toNat_natCast] at hr;cases hr;rw[k1,Ke (Zx k),zcD smq.log,Kd];rfl
   ·have hb:=hqp.bad hz;rw[Ke hz] at hr;cases hr;rw[Ke (by rw[hb];decide)]
 ·rw[h1,Ke (Zx k),Int.toNat_natCast] at hr;cases hr;rw[h1,Ke (Zx k),zcD sm.log,Kd];rfl
theorem sbody_of(hv:zB t=true)(hp:path.length<=1048576)(hL:∀ j,ImpEq t path d k (scc (M+j)) (imp t path k)):SBodyEq t path d k (scc (M+4)) (imp t path k):=
 have hI:=zbK hv hp k;have hV:ValEq t path d k (scc (M+1)) (imp t path k):=λ _ _ _ _ _ h hm hs hn hsz hv=>val_eq hp (hL 0) hI h hn hsz hm hs hv
 have hF:StEq t path d k (scc (M+2)).spec_runFrom (imp t path k) (·=1):=λ _ _ _ _ _ h hm hx hk hn hsz hr=>from_eq hp hI (hL 1) hV h hn hsz hm hx hk hr
 have hS:StEq t path d k (scc (M+2)).spec_runStar (imp t path k) (·=2):=λ _ _ _ _ _ h hm hx hk hn hsz hr=>star_eq hI (hL 1) h hn hsz hm hx hk hr
 have hD:StEq t path d k (scc (M+3)).spec_runStmt (imp t path k) (λ _=>True):=λ _ _ _ _ _ h hm hx _ hn hsz hr=>sstmt_eq hI (hL 2) hF hS h hn hsz hm hx hr
 λ _ _ _ _ _ h hm hl hlen hn hle hsz hr=>sbody_eq hI hD h hm hl hlen hn hle hsz hr
theorem scc_imp(hv:zB t=true)(hp:path.length<=1048576):∀ (k N:Nat),5*k<=N->ImpEq t path d k (scc N) (imp t path k)
 | 0,_,_=>λ _ _ _ _ _ _ _ hr=>by cases hr
 |k+1,N,hN=>λ st s r h hs hn hsz hr=>by
  obtain⟨M,rfl⟩:∃ M,N=M+5:=⟨N - 5,by omega⟩;exact simp_eq hv hp (zbK hv hp k) (scc_imp hv hp k (M+4) (by omega)) (sbody_of hv hp λ j=>scc_imp hv hp k (M+j) (by omega)) h hs hn (left_of h hsz) hsz hr
def st0:RSt:=⟨[],[],[],120,[]⟩
theorem st0_inv:Inv st0:=⟨(λ _ h=>by cases h),(λ _ h=>by cases h),(λ _ h=>by cases h),(λ _ h=>by cases h),by decide⟩
theorem st0_size:st0.size=12000:=rfl
def yE:Nat:=2420
def ranR(t:Tree)(path:List Int)(s:Str):RSt×Int×Int:=(imp t path 483 st0 s).getD (st0,0,0)
theorem zbL(hv:zB t=true)(hp:path.length<=1048576)(hs:zf s=true):imp t path 483 st0 s=some (ranR t path s)/\ImpPost st0 s (ranR t path s)/\(ranR t path s).1.size<=12012:=by
 have hpl:=j7 hs;obtain⟨r,hr,hk⟩:=zbK hv hp 483 st0 s st0_inv hs (by show 4*120+_<=_;omega);have:ranR t path s=r:=by unfold ranR;rw[hr];rfl
 rw[this];have h1:=hk.size;rw[st0_size] at h1;exact⟨hr,hk,by omega⟩
theorem zdL(hv:zB t=true)(hp:path.length<=1048576)(hs:zf s=true):XP (scc yE) t path [s]=some (rnr t path YA (ranR t path s).1 (ranR t path s).2.2):=by
 have hpl:=j7 hs;obtain⟨h1,_,_⟩:=zbL hv hp hs;have h2:=scc_imp (d:=YA) hv hp 483 yE (by decide) st0 s _ st0_inv hs (by show 4*120+_<=_;omega) (by decide) h1;have h3:Xz (scc yE) (rnr t path YA st0 0) (⟨(0:Int),s⟩:GCmd)=some (rnr t path YA (ranR t path s).1 (ranR t path s).2.2,(ranR t path s).2.2):=by
  unfold Xz;rw[Ke (show cmpI .eql (⟨(0:Int),s⟩:GCmd).kind 0=true from Z),show({ rnr t path YA st0 0 with fin:=(0:Int) }:Runner)=rnr t path YA st0 0 from Z,h2];rfl
 have h4:zP (λ s11=>YH (scc yE) [s] s11) (rnr t path YA st0 0,(0:Int))=some (rnr t path YA (ranR t path s).1 (ranR t path s).2.2):=by
  refine Yg (m:=2) ?_ (by decide);rw[ZR (s':=(rnr t path YA (ranR t path s).1 (ranR t path s).2.2,(1:Int)))]
  ·exact xS Z
  ·unfold YH;simp only;rw[Ke (show cmpI .lss (0:Int) (([s]:List Str).length:Int)=true from Z),show atI [s] (0:Int)=some s from Z,Kd,h3,Kd];rfl
 unfold XP;rw[show XO t path 120=some (rnr t path YA st0 0) from Z,Kd,h4];rfl
theorem zaw(ht:xw t)(hp:path.length<=1048576)(hn:sho s):jZ (scc yE) t path s=some (if okG t path s=true then(⟨some (mach t path (ranR t path s).1)⟩,(ranR t path s).2.2) else(⟨none⟩,-1)):=by
 unfold jZ;rw[Yq ht,Kd,Zw hp,xA,Kd,xu hn,xA,Kd];have key:okG t path s=true->(ZZ t path 120).bind (λ v15=>((scc yE).impl_machine_load1 v15 s).bind λ v21=>some ((⟨some v21.1⟩:Np Machine),v21.2.2))=some (⟨some (mach t path (ranR t path s).1)⟩,(ranR t path s).2.2):=λ h=>by
  obtain⟨hv,_,hs⟩:=zar h;have hpl:=j7 hs;obtain⟨h1,_,_⟩:=zbL hv hp hs;have h2:=scc_load ⟨ht,hv⟩ hp 483 yE (by decide) st0 s _ st0_inv hs (by show 4*120+_<=_;omega) (by decide) h1;rw[show ZZ t path 120=some (mach t path st0) from Z,Kd,h2];rfl
 unfold okG at key ⊢;cases h1:zB t with
 | false=>rfl
 |true=>
  cases h2:yk path with
  | false=>rfl
  |true=>
   cases h3:zf s with
   | false=>rfl
   | true=>exact key (by rw[h1,h2,h3];rfl)
def evs(k:Int)(l:List GEvent):List Str:=(l.filter (λ e=>cmpI .eql e.kind k)).map (·.name)
theorem evs_fold(k:Int):∀ (l:List GEvent) (out:List Str),l.foldl (λ o e=>if cmpI .eql e.kind k=true then o++[e.name] else o) out=out++evs k l
 | [],out=>by simp[evs]
 |e::l,out=>by
  rw[List.foldl_cons,evs_fold k l];unfold evs;cases h:cmpI .eql e.kind k with
  | true=>rw[Ke Z,List.filter_cons_of_pos (by simpa using h)];simp
  | false=>rw[Kf (by decide),List.filter_cons_of_neg (by simp[h])]
theorem evs_len(k:Int)(l:List GEvent):(evs k l).length<=l.length:=by
 unfold evs;rw[List.length_map];exact List.length_filter_le ..
theorem ev_loop{step:List Str×Int->Option ((List Str×Int)⊕List Str)}(k:Int)(l:List GEvent)(hl:l.length<=1048576)
  (h:∀ i out x,l[i]?=some x->i<l.length->out.length<=1048576->step (out,(i:Int))=some (.inl (if cmpI .eql x.kind k=true then out++[x.name] else out,((i+1:Nat):Int))))
  (hend:∀ out,step (out,(l.length:Int))=some (.inr out)):zP step (([]:List Str),(0:Int))=some (evs k l):=by
 have key:=ju (step:=step) l (λ(o:List Str) i=>(o,(i:Int))) (λ o e=>if cmpI .eql e.kind k=true then o++[e.name] else o) (λ o=>o) (λ i o=>o.length<=i)
  (λ i o e he hi ho=>⟨h i o e he hi (by omega),by
   split
   ·rw[List.length_append];show o.length+1<=_;omega
   ·omega⟩) (λ o _=>hend o) (s0:=[]) (Nat.zero_le _) (by omega)
 rw[evs_fold,List.nil_append] at key;exact key
def logV(t:Tree)(path:List Int)(s:Str):List GEvent:=(ranR t path s).1.log
theorem log_len(hv:zB t=true)(hp:path.length<=1048576)(hs:zf s=true):(logV t path s).length<=12012:=by
 have:=(zbL hv hp hs).2.2;unfold RSt.size at this;unfold logV;omega
def evV(k:Int)(t:Tree)(path:List Int)(s:Str):List Str:=if okG t path s=true then evs k (logV t path s) else[]
theorem evV_len(hp:path.length<=1048576)(k:Int):(evV k t path s).length<=12012:=by
 unfold evV;split
 ·rename_i h;obtain⟨hv,_,hs⟩:=zar h;have h1:=evs_len k (logV t path s);have h2:=log_len hv hp hs;omega
 ·exact Nat.zero_le _
theorem zcE(ht:xw t)(hp:path.length<=1048576)(hn:sho s):Zk (scc yE) t path s=some (evV 1 t path s):=by
 unfold Zk;refine okG_cases t path s ht hn (λ h=>by unfold evV;rw[h];rfl) λ h=>?_
 obtain⟨hv,_,hs⟩:=zar h;have hll:=log_len hv hp hs;have hl:zP (λ s18=>wH (scc yE) (rnr t path YA (ranR t path s).1 (ranR t path s).2.2) s18) (([]:List Str),(0:Int))=some (evs 1 (logV t path s)):=by
  refine ev_loop 1 (logV t path s) (by omega) (λ i out x hx hi ho=>?_) λ out=>?_
  ·unfold wH;simp only;rw[show(rnr t path YA (ranR t path s).1 (ranR t path s).2.2).log=logV t path s from Z,zI,Ke (decide_eq_true hi),zL,hx,Kd,zS (by omega)];cases hk:cmpI .eql x.kind 1 with
   | true=>rw[Ke Z,Kd,xb (by show(out.length+1)*16<=_;omega) (by show out.length+1<=_;omega)];rfl
   | false=>rfl
  ·unfold wH;simp only;rw[show(rnr t path YA (ranR t path s).1 (ranR t path s).2.2).log=logV t path s from Z,zI,Kf (by simp)]
 rw[zdL hv hp hs,Kd,hl,Kd];unfold evV;rw[Ke h]
theorem eventNames_eq(ht:xw t)(hp:path.length<=1048576)(hn:sho s)(k:Int):qD (scc yE) t path s k=some (evV k t path s):=by
 unfold qD;rw[zaw ht hp hn,Kd];unfold evV;cases h:okG t path s with
 | false=>rfl
 |true=>
  obtain⟨hv,_,hs⟩:=zar h;have hll:=log_len hv hp hs;have hl:zP (λ s13=>wv (scc yE) k (mach t path (ranR t path s).1) s13) (([]:List Str),(0:Int))=some (evs k (logV t path s)):=by
   refine ev_loop k (logV t path s) (by omega) (λ i out x hx hi ho=>?_) λ out=>?_
   ·unfold wv;simp only;rw[show(mach t path (ranR t path s).1).log=logV t path s from Z,zI,Ke (decide_eq_true hi),zL,hx,Kd,zS (by omega)];cases hk:cmpI .eql x.kind k with
    | true=>rw[Ke Z,xb (by show(out.length+1)*16<=_;omega) (by show out.length+1<=_;omega)];rfl
    | false=>rfl
   ·unfold wv;simp only;rw[show(mach t path (ranR t path s).1).log=logV t path s from Z,zI,Kf (by simp)]
  rw[Ke Z,Ke Z];simp only;rw[Ke (show(some (mach t path (ranR t path s).1)).isSome=true from Z),Kd,hl];rfl
theorem DoneOrder_eq(ht:xw t)(hp:path.length<=1048576)(hn:sho s):Zi (scc yE) t path s=some (evV 1 t path s):=by
 unfold Zi;rw[eventNames_eq ht hp hn];rfl
def cachN(l:List GMod):List Str:=(l.filter (·.cached)).map (·.name)
theorem cach_fold:∀ (l:List GMod) (out:List Str),l.foldl (λ o m=>if m.cached=true then o++[m.name] else o) out=out++cachN l
 | [],out=>by simp[cachN]
 |m::l,out=>by
  rw[List.foldl_cons,cach_fold l];unfold cachN;cases h:m.cached with
  | true=>rw[Ke Z,List.filter_cons_of_pos (by simpa using h)];simp
  | false=>rw[Kf (by decide),List.filter_cons_of_neg (by simp[h])]
theorem cach_loop{step:List Str×Int->Option ((List Str×Int)⊕List Str)}(l:List GMod)(hl:l.length<=1048576)
  (h:∀ i out m,l[i]?=some m->i<l.length->out.length<=1048576->step (out,(i:Int))=some (.inl (if m.cached=true then out++[m.name] else out,((i+1:Nat):Int))))
  (hend:∀ out,step (out,(l.length:Int))=some (.inr out)):zP step (([]:List Str),(0:Int))=some (cachN l):=by
 have key:=ju (step:=step) l (λ(o:List Str) i=>(o,(i:Int))) (λ o m=>if m.cached=true then o++[m.name] else o) (λ o=>o) (λ i o=>o.length<=i)
  (λ i o m he hi ho=>⟨h i o m he hi (by omega),by
   split
   ·rw[List.length_append];show o.length+1<=_;omega
   ·omega⟩) (λ o _=>hend o) (s0:=[]) (Nat.zero_le _) (by omega)
 rw[cach_fold,List.nil_append] at key;exact key
def endV(t:Tree)(path:List Int)(s:Str):Int:=if okG t path s=true then(ranR t path s).2.2 else -1
def cachV(t:Tree)(path:List Int)(s:Str):List Str:=if okG t path s=true then cachN (ranR t path s).1.mods else[]
theorem mods_len(hv:zB t=true)(hp:path.length<=1048576)(hs:zf s=true):(ranR t path s).1.mods.length<=12012:=by
 have:=(zbL hv hp hs).2.2;unfold RSt.size at this;omega
theorem ImportOne_eq(ht:xw t)(hp:path.length<=1048576)(hn:sho s):jO (scc yE) t path s=some (endV t path s,cachV t path s):=by
 unfold jO;rw[zaw ht hp hn,Kd];unfold endV cachV;cases h:okG t path s with
 | false=>rfl
 |true=>
  obtain⟨hv,_,hs⟩:=zar h;have hml:=mods_len hv hp hs;have hl:zP (λ s13=>wG (scc yE) (mach t path (ranR t path s).1) s13) (([]:List Str),(0:Int))=some (cachN (ranR t path s).1.mods):=by
   refine cach_loop (ranR t path s).1.mods (by omega) (λ i out x hx hi ho=>?_) λ out=>?_
   ·unfold wG;simp only;rw[show(mach t path (ranR t path s).1).modules=bxs (ranR t path s).1.mods from Z,show((bxs (ranR t path s).1.mods).length:Int)=((ranR t path s).1.mods.length:Int) by unfold bxs;rw[List.length_map],zI,Ke (decide_eq_true hi),zL,qO hx,Kd,zS (by omega)];cases hk:x.cached with
    | true=>rw[Ke Z,xb (by show(out.length+1)*16<=_;omega) (by show out.length+1<=_;omega)];rfl
    | false=>rfl
   ·unfold wG;simp only;rw[show(mach t path (ranR t path s).1).modules=bxs (ranR t path s).1.mods from Z,show((bxs (ranR t path s).1.mods).length:Int)=((ranR t path s).1.mods.length:Int) by unfold bxs;rw[List.length_map],zI,Kf (by simp)]
  rw[Ke Z,Ke Z];simp only;rw[Ke (show(some (mach t path (ranR t path s).1)).isSome=true from Z),Kd,hl];rfl
def remF(l:List Str)(x:Str):List Str:=l.take (xU (λ y=>decide (y=x)) l).toNat++l.drop ((xU (λ y=>decide (y=x)) l).toNat+1)
theorem remF_last(h:s ∉ g):xU (λ y=>decide (y=s)) (g++[s])=(g.length:Int)/\remF (g++[s]) s=g:=by
 have e:xU (λ y=>decide (y=s)) (g++[s])=(g.length:Int):=by
  refine idx_hit (x:=s) ?_ (by simp) (by simp);rw[List.take_left,List.any_eq_false];intro x hx hd;have:x=s:=by simpa using hd
  rw[this] at hx;exact h hx
 refine⟨e,?_⟩;unfold remF;rw[e,Int.toNat_natCast,List.take_left,List.drop_eq_nil_of_le (by simp),List.append_nil]
def pst(s:List Str×List Str)(e:GEvent):Option (List Str×List Str):=
 if e.kind=0 then some (s.1,s.2++[e.name])
 else if e.kind=1\/e.kind=2 then(if e.name∈s.2 then some (s.1,remF s.2 e.name) else none)
 else if e.kind=3 then some (if e.name∈s.2/\e.name ∉ s.1 then(s.1++[e.name],s.2) else s)
 else some s
def pfold(l:List GEvent)(s:List Str×List Str):Option (List Str×List Str):=l.foldlM pst s
theorem zdj(l m:List GEvent)(s:List Str×List Str):pfold (l++m) s=(pfold l s).bind (pfold m):=by unfold pfold;rw[List.foldlM_append];rfl
theorem zdk(e:GEvent)(s:List Str×List Str):pfold [e] s=pst s e:=by
 unfold pfold;rw[List.foldlM_cons];show(pst s e).bind (λ s=>some s)=_;cases pst s e <;> rfl
abbrev Flag:=Str×Bool×Bool
variable{F:List Flag}
def jv(st:RSt):List Flag:=st.mods.map λ m=>(m.name,m.cached,m.done)
structure PI(g:List Str)(st:RSt):Prop where
 fold:pfold st.log ([],[])=some (st.part,g)
 mem:∀ s,s∈g ↔ (s,true,false)∈jv st
 uniq:∀ (i j:Nat) (s:Str) (d d':Bool),(jv st)[i]?=some (s,true,d)->(jv st)[j]?=some (s,true,d')->i=j
def Keep(a b:RSt):Prop:=∃ l,jv b=jv a++l
variable{α:Type}
theorem Keep.refl(a:RSt):Keep a a:=⟨[],by simp⟩
theorem Keep.trans{c:RSt}(h:Keep a b)(k:Keep b c):Keep a c:=by
 obtain⟨l,h⟩:=h;obtain⟨m,k⟩:=k;exact⟨l++m,by rw[k,h,List.append_assoc]⟩
theorem updA_map{β:Type}(l:List α)(k:Nat)(f:α->α)(g:α->β)(h:∀ x,g (f x)=g x):(updA l k f).map g=l.map g:=by
 unfold updA;split
 ·rename_i x hx;rw[List.map_set,h];apply List.ext_getElem?;intro i;by_cases e:k=i
  ·subst e;rw[List.getElem?_set_self (by rw[List.length_map];exact zG hx),List.getElem?_map,hx];rfl
  ·rw[List.getElem?_set_ne e]
 ·rfl
theorem flags_give(st:RSt)(k:Nat)(s:Str)(v:GVal):jv (st.give k s v)=jv st:=updA_map _ _ _ _ λ _=>Z
theorem PI.same(h:PI g a)(h1:b.log=a.log)(h2:b.part=a.part)(h3:jv b=jv a):PI g b:=⟨by rw[h1,h2];exact h.fold,by rw[h3];exact h.mem,by rw[h3];exact h.uniq⟩
def Nice(a b:RSt):Prop:=Keep a b/\∀ g,PI g a->PI g b
theorem Nice.refl(a:RSt):Nice a a:=⟨Keep.refl a,λ _ h=>h⟩
theorem Nice.trans{a b c:RSt}(h:Nice a b)(k:Nice b c):Nice a c:=⟨h.1.trans k.1,λ g p=>k.2 g (h.2 g p)⟩
theorem Nice.of(h1:b.log=a.log)(h2:b.part=a.part)(h3:jv b=jv a):Nice a b:=⟨⟨[],by rw[h3,List.append_nil]⟩,λ _ h=>h.same h1 h2 h3⟩
theorem Nice.give(st:RSt)(k:Nat)(s:Str)(v:GVal):Nice st (st.give k s v):=Nice.of Z Z (flags_give ..)
theorem Nice.tell(st:RSt)(k:Nat)(s:Str):Nice st (st.tell k s):=by
 unfold RSt.tell;split
 ·exact Nice.give ..
 ·exact Nice.refl _
theorem Nice.star(k:Nat):∀ (l:List GAttr) (st:RSt),Nice st (zau k l st)
 | [],st=>Nice.refl st
 |a::l,st=>by
  unfold zau;rw[List.foldl_cons];split
  ·exact Nice.star k l st
  ·exact(Nice.give st k a.name a.value).trans (Nice.star k l _)
theorem flag_at(h:st.mods[k]?=some m):(jv st)[k]?=some (m.name,m.cached,m.done):=by unfold jv;rw[List.getElem?_map,h];rfl
theorem Nice.hit{st:RSt}{k:Nat}{m:GMod}(hm:st.mods[k]?=some m)(hc:m.cached=true):Nice st (st.hit k m.name):=by
 refine⟨⟨[],by rw[List.append_nil];rfl⟩,λ g h=>⟨?_,h.mem,h.uniq⟩⟩;have hf:=flag_at hm;rw[hc] at hf;have hd:st.doneAt k=m.done:=by unfold RSt.doneAt;rw[hm];rfl
 have hg:st.doneAt k=false ↔ m.name∈g:=by
  rw[hd,h.mem];constructor
  ·intro e;rw[e] at hf;exact List.mem_of_getElem? hf
  ·intro e;obtain⟨j,hj⟩:=List.getElem?_of_mem e;have:=h.uniq k j m.name m.done false hf hj;subst this;rw[hf] at hj;injection hj with hj;injection hj with _ hj;injection hj
 show pfold (st.log++[⟨3,m.name⟩]) ([],[])=_;rw[zdj,h.fold,Kd,zdk];unfold pst RSt.hit;rw[Kf (by simp),Kf (by simp),Ke Z];by_cases hc2:st.doneAt k=false/\m.name ∉ st.part
 ·rw[Ke ⟨hg.1 hc2.1,hc2.2⟩];simp only;rw[Ke hc2]
 ·rw[Kf (λ e=>hc2 ⟨hg.2 e.1,e.2⟩)];simp only;rw[Kf hc2]
theorem PI.begin{g:List Str}{st:RSt}(h:PI g st){s:Str}(hc:cix st s=-1)(sp:Spec):PI (g++[s]) (st.begin s sp)/\jv (st.begin s sp)=jv st++[(s,true,false)]/\s ∉ g:=by
 have hno:∀ d,(s,true,d) ∉ jv st:=λ d hd=>by
  unfold jv at hd;obtain⟨m,hm,e⟩:=List.mem_map.1 hd;rcases ZS st s with⟨_,k2⟩ | ⟨k,_,k1,_⟩
  ·have:=k2 m hm;injection e with e1 e2;injection e2 with e2 _;unfold hits at this;rw[e1,e2] at this;simp at this
  ·rw[hc] at k1;omega
 have hf:jv (st.begin s sp)=jv st++[(s,true,false)]:=by unfold jv RSt.begin;simp
 refine⟨⟨?_,λ x=>?_,λ i j x d d' h1 h2=>?_⟩,hf,λ e=>hno false ((h.mem s).1 e)⟩
 ·show pfold (st.log++[⟨0,s⟩]) ([],[])=_;rw[zdj,h.fold,Kd,zdk];rfl
 ·rw[hf,List.mem_append,List.mem_append,h.mem x];simp
 ·rw[hf] at h1 h2;by_cases i1:i<(jv st).length
  ·rw[List.getElem?_append_left i1] at h1;by_cases j1:j<(jv st).length
   ·rw[List.getElem?_append_left j1] at h2;exact h.uniq i j x d d' h1 h2
   ·rw[List.getElem?_append_right (by omega)] at h2;have hj:j - (jv st).length=0:=by have:=zG h2;simp at this;omega
    rw[hj] at h2;simp at h2;exact absurd (List.mem_of_getElem? (h2.1 ▸ h1)) (hno d)
  ·rw[List.getElem?_append_right (by omega)] at h1;have hi:i - (jv st).length=0:=by have:=zG h1;simp at this;omega
   by_cases j1:j<(jv st).length
   ·rw[List.getElem?_append_left j1] at h2;rw[hi] at h1;simp at h1;exact absurd (List.mem_of_getElem? (h1.1 ▸ h2)) (hno d')
   ·rw[List.getElem?_append_right (by omega)] at h2;have hj:j - (jv st).length=0:=by have:=zG h2;simp at this;omega
    omega
theorem PI.stop{q:RSt}{l:List Flag}{d:Bool}(h:PI (g++[s]) q)(hg:s ∉ g)(hq:jv q=F++(s,true,false)::l)(hb:jv b=F++(s,c,d)::l)(hcd:(c,d)≠(true,false)){k:Int}(hk:k=1\/k=2)(hl:b.log=q.log++[⟨k,s⟩])(hp:b.part=q.part):PI g b:=by
 have hat:(jv q)[F.length]?=some (s,true,false):=by rw[hq];simp
 have hget:∀ i,i≠F.length->(jv b)[i]?=(jv q)[i]?:=λ i hi=>by
  rw[hb,hq];by_cases h1:i<F.length
  ·rw[List.getElem?_append_left h1,List.getElem?_append_left h1]
  ·rw[List.getElem?_append_right (by omega),List.getElem?_append_right (by omega)];obtain⟨n,hn⟩:∃ n,i - F.length=n+1:=⟨i - F.length - 1,by omega⟩;rw[hn];rfl
 have hbt:(jv b)[F.length]?=some (s,c,d):=by rw[hb];simp
 refine⟨?_,λ x=>?_,λ i j x e e' h1 h2=>?_⟩
 ·rw[hl,hp,zdj,h.fold,Kd,zdk];unfold pst;simp only;rw[Kf (by rcases hk with hk | hk <;> rw[hk] <;> decide),Ke (by rcases hk with hk | hk <;> rw[hk] <;> decide),Ke (by simp),(remF_last hg).2]
 ·constructor
  ·intro hx;obtain⟨i,hi⟩:=List.getElem?_of_mem ((h.mem x).1 (List.mem_append_left _ hx));have hne:i≠F.length:=λ e=>by
    rw[e,hat] at hi;injection hi with hi;injection hi with hi _;rw[hi] at hg;exact hg hx
   rw[← hget i hne] at hi;exact List.mem_of_getElem? hi
  ·intro hx;obtain⟨i,hi⟩:=List.getElem?_of_mem hx;have hne:i≠F.length:=λ e=>by
    rw[e,hbt] at hi;injection hi with hi;injection hi with _ hi;exact hcd hi
   rw[hget i hne] at hi;have:=(h.mem x).2 (List.mem_of_getElem? hi);rcases List.mem_append.1 this with h1 | h1
   ·exact h1
   ·simp only[List.mem_singleton] at h1;subst h1;exact absurd (h.uniq i F.length x false false hi hat) hne
 ·have key:∀ (i:Nat) (e:Bool),(jv b)[i]?=some (x,true,e)->∃ e2,(jv q)[i]?=some (x,true,e2):=λ i e hi=>by
   by_cases hne:i=F.length
   ·rw[hne,hbt] at hi;injection hi with hi;injection hi with hi _;rw[hne,hat,hi];exact⟨_,Z⟩
   ·rw[hget i hne] at hi;exact⟨_,hi⟩
  obtain⟨_,k1⟩:=key i e h1;obtain⟨_,k2⟩:=key j e' h2;exact h.uniq i j x _ _ k1 k2
structure New(t:Tree)(path:List Int)(st:RSt)(s:Str):Prop where
 name:zf s=true
 gone:∀ m∈st.mods,hits s m=false
 up:zM s=emptyS\/∃ m∈st.mods,hits (zM s) m=true
 kind:(XD t path st s).kind≠0
inductive Tr (t:Tree) (path:List Int):RSt->RSt->Int->Prop
 | stop (a:RSt) (e:Int):Tr t path a a e
 | seq {a b c:RSt} {e:Int} (h:Tr t path a b 0) (k:Tr t path b c e):Tr t path a c e
 | tick (a:RSt):Tr t path a { a with left:=a.left - 1 } 0
 | out (a:RSt) (o:List Int):Tr t path a { a with out:=a.out++o } 0
 | give (a:RSt) (k:Nat) (s:Str) (v:GVal):Tr t path a (a.give k s v) 0
 | hit (a:RSt) (k:Nat) (s:Str) {m:GMod} (hm:a.mods[k]?=some m) (hs:hits s m=true):Tr t path a (a.hit k s) 0
 | bad {a b:RSt} {s:Str} {e:Int} (n:New t path a s) (h:Tr t path (a.begin s (XD t path a s)) b e) (he:e≠0):Tr t path a (b.fail a.mods.length s) e
 | good {a b:RSt} {s:Str} (n:New t path a s) (h:Tr t path (a.begin s (XD t path a s)) b 0):Tr t path a ((b.done a.mods.length s).tell a.mods.length s) 0
structure Kept(m m':GMod):Prop where
 name:m'.name=m.name
 cached:m'.cached=m.cached
 kind:m'.kind=m.kind
 roots:m'.roots=m.roots
 done:m.done=true->m'.done=true
 attrs:∀ x∈m.attrs.map (·.name),x∈m'.attrs.map (·.name)
theorem Kept.refl(m:GMod):Kept m m:=⟨Z,Z,Z,Z,id,λ _ h=>h⟩
theorem Kept.trans{m n o:GMod}(h:Kept m n)(k:Kept n o):Kept m o:=⟨k.name.trans h.name,k.cached.trans h.cached,k.kind.trans h.kind,k.roots.trans h.roots,λ e=>k.done (h.done e),λ x hx=>k.attrs x (h.attrs x hx)⟩
theorem put_mem{v:GVal}:∀ x∈l.map (·.name),x∈(j9 l s v).map (·.name):=λ x hx=>by
 rw[zdh];split
 ·exact hx
 ·exact List.mem_append_left _ hx
theorem giv_at(a:RSt)(k:Nat)(s:Str)(v:GVal)(i:Nat):(a.give k s v).mods[i]?=if i=k then a.mods[k]?.map (λ m=>{ m with attrs:=j9 m.attrs s v }) else a.mods[i]?:=zat i
theorem zdl(a:RSt)(k:Nat)(s:Str)(v:GVal)(h:a.mods[i]?=some m):∃ m',(a.give k s v).mods[i]?=some m'/\Kept m m':=by
 rw[giv_at];by_cases e:i=k
 ·subst e;rw[Ke Z,h];exact⟨_,Z,Z,Z,Z,Z,id,put_mem⟩
 ·rw[Kf e];exact⟨m,h,Kept.refl m⟩
theorem zdm(a:RSt)(k:Nat)(s:Str)(h:a.mods[i]?=some m):∃ m',(a.tell k s).mods[i]?=some m'/\Kept m m':=by
 unfold RSt.tell;split
 ·exact zdl _ _ _ _ h
 ·exact⟨m,h,Kept.refl m⟩
theorem done_at(a:RSt)(k:Nat)(s:Str)(i:Nat):(a.done k s).mods[i]?=if i=k then a.mods[k]?.map (λ m=>{ m with done:=true }) else a.mods[i]?:=zat i
theorem done_kept(a:RSt)(k:Nat)(s:Str)(h:a.mods[i]?=some m):∃ m',(a.done k s).mods[i]?=some m'/\Kept m m':=by
 rw[done_at];by_cases e:i=k
 ·subst e;rw[Ke Z,h];exact⟨_,Z,Z,Z,Z,Z,λ _=>Z,λ _ h=>h⟩
 ·rw[Kf e];exact⟨m,h,Kept.refl m⟩
theorem fail_at(a:RSt)(k:Nat)(s:Str)(i:Nat):(a.fail k s).mods[i]?=if i=k then a.mods[k]?.map (λ m=>{ m with cached:=false }) else a.mods[i]?:=zat i
theorem zcF(a:RSt)(s:Str)(sp:Spec)(h:a.mods[i]?=some m):(a.begin s sp).mods[i]?=some m:=by
 show(a.mods++_)[i]?=some m;rw[List.getElem?_append_left (zG h)];exact h
theorem zeE(a:RSt)(s:Str)(sp:Spec):(a.begin s sp).mods[a.mods.length]?=some ⟨s,sp.kind,sp.roots,true,false,[]⟩:=by
 show(a.mods++[_])[a.mods.length]?=_;simp
theorem tell_len(a:RSt)(k:Nat)(s:Str):(a.tell k s).mods.length=a.mods.length:=by
 unfold RSt.tell;split
 ·exact Wa ..
 ·rfl
theorem Tr.kept(h:Tr t path a b e):∀ (i:Nat) (m:GMod),a.mods[i]?=some m->∃ m',b.mods[i]?=some m'/\Kept m m':=by
 induction h with
 | stop=>exact λ i m h=>⟨m,h,Kept.refl m⟩
 |seq _ _ h1 h2=>intro i m h;obtain⟨m1,k1,k2⟩:=h1 i m h;obtain⟨m2,k3,k4⟩:=h2 i m1 k1;exact⟨m2,k3,k2.trans k4⟩
 | tick=>exact λ i m h=>⟨m,h,Kept.refl m⟩
 | out=>exact λ i m h=>⟨m,h,Kept.refl m⟩
 | give=>exact λ i m h=>zdl _ _ _ _ h
 | hit=>exact λ i m h=>⟨m,h,Kept.refl m⟩
 |bad n h he ih=>rename_i a b s e;intro i m h;obtain⟨m1,k1,k2⟩:=ih i m (zcF _ _ _ h);refine⟨m1,?_,k2⟩;rw[fail_at,Kf (by have:=zG h;omega)];exact k1
 |good n h ih=>intro i m h;obtain⟨m1,k1,k2⟩:=ih i m (zcF _ _ _ h);obtain⟨m2,k3,k4⟩:=done_kept _ _ _ k1;obtain⟨m3,k5,k6⟩:=zdm _ _ _ k3;exact⟨m3,k5,k2.trans (k4.trans k6)⟩
theorem Tr.len(h:Tr t path a b e):a.mods.length<=b.mods.length:=by
 rcases Nat.eq_zero_or_pos a.mods.length with h0 | h0
 ·omega
 ·obtain⟨m,hm,_⟩:=h.kept (a.mods.length - 1) _ (List.getElem?_eq_getElem (by omega));have:=zG hm;omega
theorem Tr.to0(h:Tr t path a b e)(he:e=0):Tr t path a b 0:=he ▸ h
def ImpTr(t:Tree)(path:List Int)(I:RImp):Prop:=∀ (st:RSt) (s:Str) (r:RSt×Int×Int),zf s=true->I st s=some r->Tr t path st r.1 r.2.2/\(r.2.2=0->∃ m,r.1.mods[r.2.1.toNat]?=some m/\hits s m=true)
theorem hit_of(st:RSt)(s:Str)(h:cmpI .geq (cix st s) 0=true):∃ m,st.mods[(cix st s).toNat]?=some m/\hits s m=true:=by
 obtain⟨m,h1,h2,_⟩:=zaL h;exact⟨m,h1,h2⟩
theorem star_tr(at_:Nat):∀ (l:List GAttr) (st:RSt),Tr t path st (zau at_ l st) 0
 | [],st=>.stop st 0
 |x::l,st=>by
  unfold zau;rw[List.foldl_cons];split
  ·exact star_tr at_ l st
  ·exact .seq (.give ..) (star_tr at_ l _)
theorem value_tr(hI:ImpTr t path I){r:RSt×GVal×Int}(h:JG t path I st k s=some r):Tr t path st r.1 r.2.2:=by
 unfold JG at h;split at h
 ·cases h;exact .stop ..
 ·split at h
  ·cases h;exact .stop ..
  ·rename_i hc;split at h
   ·cases h;exact .stop ..
   ·have hv:zf (child (st.nameAt k) s)=true:=by
     cases hv:zf (child (st.nameAt k) s) with
     | true=>rfl
     | false=>exact absurd (.inr hv) hc
    have⟨q,hq,hr⟩:=bs h;cases hr;exact(hI _ _ _ hv hq).1
theorem stmt_tr(hI:ImpTr t path I){at_:Nat}(hx:zX x=true)(h:ZI t path I st at_ x=some r):Tr t path st r.1 r.2:=by
 unfold ZI at h;split at h
 ·rename_i hk;have⟨q,hq,hr⟩:=bs h;have h1:=(hI _ _ _ (Zp hx (.inl hk)) hq).1;split at hr
  ·cases hr;exact h1
  ·rename_i he;have h1:=h1.to0 (by omega);split at hr
   ·cases hr;exact .seq h1 (.stop ..)
   ·cases hr;exact .seq h1 (.give ..)
 ·split at h
  ·split at h
   ·cases h;exact .stop ..
   ·rename_i hv;have⟨q,hq,hr⟩:=bs h;have h1:=(hI _ _ _ (by simpa using hv) hq).1;split at hr
    ·cases hr;exact h1
    ·rename_i he;have h1:=h1.to0 (by omega);have⟨u,hu,hr⟩:=bs hr;have h2:=value_tr hI hu;split at hr
     ·cases hr;exact .seq h1 h2
     ·rename_i he;cases hr;exact .seq h1 (.seq (h2.to0 (by omega)) (.give ..))
  ·split at h
   ·rename_i k2;have⟨q,hq,hr⟩:=bs h;have h1:=(hI _ _ _ (Zp hx (.inr k2)) hq).1;split at hr
    ·cases hr;exact h1
    ·rename_i he;cases hr;exact .seq (h1.to0 (by omega)) (star_tr ..)
   ·split at h
    ·cases h;exact .give ..
    ·split at h
     ·split at h
      ·cases h;exact .stop ..
      ·cases h;exact .out ..
     ·split at h
      ·cases h;exact .stop ..
      ·cases h;exact .stop ..
theorem body_tr{I:RImp}(hI:ImpTr t path I)(at_:Nat):∀ (l:List Stmt) (st:RSt) (r:RSt×Int),(∀ x∈l,zX x=true)->Jn t path I at_ l st=some r->Tr t path st r.1 r.2
 | [],st,r,_,h=>by cases h;exact .stop ..
 |x::l,st,r,hl,h=>by
  unfold Jn at h;split at h
  ·cases h;exact .stop ..
  ·have⟨q,hq,hr⟩:=bs h;have h1:=stmt_tr hI (hl x (List.mem_cons_self ..)) hq;split at hr
   ·cases hr;exact .seq (.tick ..) h1
   ·rename_i he;exact .seq (.tick ..) (.seq (h1.to0 (by omega)) (body_tr hI at_ l _ _ (λ y hy=>hl y (List.mem_cons_of_mem _ hy)) hr))
theorem run_tr(hv:zB t=true)(hI:ImpTr t path I){at_:Nat}{sp:Spec}(h:runF t path I st at_ sp=some r):Tr t path st r.1 r.2:=by
 unfold runF at h;split at h
 ·exact body_tr hI at_ _ _ _ (Wz hv _) h
 ·cases h;exact .stop ..
theorem imp_tr(hv:zB t=true):∀ n,ImpTr t path (imp t path n)
 | 0=>λ _ _ _ _ h=>by cases h
 |n+1=>by
  intro st s r hs h;unfold imp impF at h;have hhit:∀ {st':RSt},Tr t path st st' 0->cmpI .geq (cix st' s) 0=true->∀ {r},some (st'.hit (cix st' s).toNat s,cix st' s,(0:Int))=some r->Tr t path st r.1 r.2.2/\(r.2.2=0->∃ m,r.1.mods[r.2.1.toNat]?=some m/\hits s m=true):=λ ht hc r hr=>by
   cases hr;obtain⟨m,h1,h2⟩:=hit_of _ _ hc;exact⟨.seq ht (.hit _ _ _ h1 h2),λ _=>⟨m,h1,h2⟩⟩
  split at h
  ·rename_i hc;exact hhit (.stop st 0) hc h
  ·rename_i hc0;have⟨q,hq,hr⟩:=bs h;have hpar:Tr t path st q.1 q.2.2/\(q.2.2=0->zM s=emptyS\/∃ m∈q.1.mods,hits (zM s) m=true):=by
    split at hq
    ·rename_i he;cases hq;exact⟨.stop ..,λ _=>.inl he⟩
    ·rename_i he;obtain⟨h1,h2⟩:=imp_tr hv n _ _ _ (Ys hs he).2 hq;exact⟨h1,λ e=>.inr (let⟨m,k1,k2⟩:=h2 e;⟨m,List.mem_of_getElem? k1,k2⟩)⟩
   obtain⟨h1,h2⟩:=hpar;split at hr
   ·rename_i hne;cases hr;exact⟨h1,λ e=>absurd e hne⟩
   ·rename_i he;have he:q.2.2=0:=by omega
    have h1:=h1.to0 he;split at hr
    ·rename_i hc;exact hhit h1 hc hr
    ·rename_i hc;unfold newF at hr;split at hr
     ·cases hr;exact⟨.seq h1 (.stop ..),λ e=>absurd e (by simp)⟩
     ·rename_i hk;have⟨u,hu,hr⟩:=bs hr;have hn:New t path q.1 s:=⟨hs,Qv (by simpa[cix] using hc),h2 he,hk⟩;have h3:=run_tr hv (imp_tr hv n) hu;split at hr
      ·rename_i hne;cases hr;exact⟨.seq h1 (.bad hn h3 hne),λ e=>absurd e hne⟩
      ·rename_i he2;have h3:=h3.to0 (by omega);cases hr;refine⟨.seq h1 (.good hn h3),λ _=>?_⟩;obtain⟨m1,k1,k2⟩:=h3.kept _ _ (zeE ..);obtain⟨m2,k3,k4⟩:=done_kept _ q.1.mods.length s k1;obtain⟨m3,k5,k6⟩:=zdm _ q.1.mods.length s k3;have k7:=k2.trans (k4.trans k6);refine⟨m3,by simpa using k5,?_⟩;unfold hits;rw[k7.name,k7.cached];simp
theorem jw(k:Int)(l m:List GEvent):evs k (l++m)=evs k l++evs k m:=by unfold evs;rw[List.filter_append,List.map_append]
theorem zax{k j:Int}(h:j=k):evs k [⟨j,s⟩]=[s]:=by subst h;simp[evs,cmpI]
theorem qP{k j:Int}(h:j≠k:=by decide):evs k [⟨j,s⟩]=[]:=by simp[evs,cmpI,h]
theorem updA_inv{l:List α}{f:α->α}{x:α}(h:(updA l k f)[i]?=some x):∃ y,l[i]?=some y/\((x=y/\i≠k)\/(i=k/\x=f y)):=by
 rw[zat] at h;by_cases e:i=k
 ·subst e;rw[Ke Z] at h;cases hl:l[i]? with
  | none=>rw[hl] at h;cases h
  | some y=>rw[hl] at h;injection h with h;exact⟨y,Z,.inr ⟨Z,h.symm⟩⟩
 ·rw[Kf e] at h;exact⟨x,h,.inl ⟨Z,e⟩⟩
theorem zay{l:List α}{x y:α}(h:(l++[x])[i]?=some y):l[i]?=some y\/(i=l.length/\y=x):=by
 by_cases h1:i<l.length
 ·rw[List.getElem?_append_left h1] at h;exact .inl h
 ·rw[List.getElem?_append_right (by omega)] at h;have h2:i - l.length=0:=by have:=zG h;simp at this;omega
  rw[h2] at h;injection h with h;exact .inr ⟨by omega,h.symm⟩
structure Wf(st:RSt):Prop where
 starts:evs 0 st.log=st.mods.map (·.name)
 dones:∀ (i:Nat) (m:GMod),st.mods[i]?=some m->m.done=true->m.name∈evs 1 st.log
 fails:∀ (i:Nat) (m:GMod),st.mods[i]?=some m->m.cached=false->m.name∈evs 2 st.log
 dist:∀ (i j:Nat) (m m':GMod),st.mods[i]?=some m->st.mods[j]?=some m'->m.cached=true->m'.cached=true->m.name=m'.name->i=j
 part:∀ s∈st.part,s∈st.mods.map (·.name)
 order:∀ (i:Nat) (m:GMod),st.mods[i]?=some m->zM m.name≠emptyS->∃ (j:Nat) (m':GMod),j<i/\st.mods[j]?=some m'/\m'.name=zM m.name
theorem Wf.upd(h:Wf a){f:GMod->GMod}{lg:List GEvent}(hn:∀ m,(f m).name=m.name)(hc:∀ m,(f m).cached=true->m.cached=true)(h0:evs 0 lg=evs 0 a.log)
  (hd:∀ m,a.mods[k]?=some m->(f m).done=true->m.name∈evs 1 lg) (hf:∀ m,a.mods[k]?=some m->(f m).cached=false->m.name∈evs 2 lg) (h1:∀ x∈evs 1 a.log,x∈evs 1 lg) (h2:∀ x∈evs 2 a.log,x∈evs 2 lg) (hp:∀ s∈pt,s∈a.mods.map (·.name)):Wf ⟨updA a.mods k f,lg,o,lf,pt⟩:=by
 have hm:(updA a.mods k f).map (·.name)=a.mods.map (·.name):=updA_map _ _ _ _ hn;have nm:∀ {i:Nat} {m:GMod},(updA a.mods k f)[i]?=some m->∃ y,a.mods[i]?=some y/\m.name=y.name/\(m.cached=true->y.cached=true):=λ h=>by
  obtain⟨y,h1,h2⟩:=updA_inv h;rcases h2 with⟨rfl,_⟩ | ⟨_,rfl⟩
  ·exact⟨_,h1,Z,id⟩
  ·exact⟨y,h1,hn y,hc y⟩
 refine⟨?_,λ i m hi hdn=>?_,λ i m hi hcf=>?_,λ i j m m' hi hj c1 c2 he=>?_,λ x hx=>?_,λ i m hi hpn=>?_⟩
 ·show evs 0 lg=_;rw[h0,h.starts];exact hm.symm
 ·obtain⟨y,k1,k2⟩:=updA_inv hi;rcases k2 with⟨rfl,_⟩ | ⟨rfl,rfl⟩
  ·exact h1 _ (h.dones i _ k1 hdn)
  ·rw[hn];exact hd y k1 hdn
 ·obtain⟨y,k1,k2⟩:=updA_inv hi;rcases k2 with⟨rfl,_⟩ | ⟨rfl,rfl⟩
  ·exact h2 _ (h.fails i _ k1 hcf)
  ·rw[hn];exact hf y k1 hcf
 ·obtain⟨y,k1,k2,k3⟩:=nm hi;obtain⟨y',j1,j2,j3⟩:=nm hj;exact h.dist i j y y' k1 j1 (k3 c1) (j3 c2) (k2.symm.trans (he.trans j2))
 ·show x∈(updA a.mods k f).map (·.name);rw[hm];exact hp x hx
 ·obtain⟨y,k1,k2,_⟩:=nm hi;rw[k2] at hpn ⊢;obtain⟨j,m',j1,j2,j3⟩:=h.order i y k1 hpn;obtain⟨m2,j4,j5⟩:=updA_old hn j2;exact⟨j,m2,j1,j4,j5.trans j3⟩
theorem Wf.begin(h:Wf a){s:Str}(sp:Spec)(hg:∀ m∈a.mods,hits s m=false)(hu:zM s=emptyS\/∃ m∈a.mods,hits (zM s) m=true):Wf (a.begin s sp):=by
 have hne:∀ {i:Nat} {m:GMod},a.mods[i]?=some m->m.cached=true->m.name≠s:=λ h1 h2 e=>by
  have:=hg _ (List.mem_of_getElem? h1);unfold hits at this;rw[h2] at this;simp at this;exact this e
 refine⟨?_,λ i m hi hd=>?_,λ i m hi hc=>?_,λ i j m m' hi hj c1 c2 he=>?_,λ x hx=>?_,λ i m hi hpn=>?_⟩
 ·show evs 0 (a.log++[⟨0,s⟩])=(a.mods++[_]).map _;rw[jw,zax Z,h.starts,List.map_append];rfl
 ·show m.name∈evs 1 (a.log++[⟨0,s⟩]);rw[jw,qP,List.append_nil];rcases zay hi with h1 | ⟨_,h1⟩
  ·exact h.dones i m h1 hd
  ·rw[h1] at hd;cases hd
 ·show m.name∈evs 2 (a.log++[⟨0,s⟩]);rw[jw,qP,List.append_nil];rcases zay hi with h1 | ⟨_,h1⟩
  ·exact h.fails i m h1 hc
  ·rw[h1] at hc;cases hc
 ·rcases zay hi with h1 | ⟨i1,h1⟩ <;> rcases zay hj with h2 | ⟨j1,h2⟩
  ·exact h.dist i j m m' h1 h2 c1 c2 he
  ·rw[h2] at he;exact absurd he (hne h1 c1)
  ·rw[h1] at he;exact absurd he.symm (hne h2 c2)
  ·omega
 ·show x∈(a.mods++[_]).map _;rw[List.map_append];exact List.mem_append_left _ (h.part x hx)
 ·rcases zay hi with h1 | ⟨i1,h1⟩
  ·obtain⟨j,m',j1,j2,j3⟩:=h.order i m h1 hpn;exact⟨j,m',j1,zcF _ _ _ j2,j3⟩
  ·rw[h1] at hpn ⊢;rcases hu with e | ⟨m',k1,k2⟩
   ·exact absurd e hpn
   ·obtain⟨j,hj⟩:=List.getElem?_of_mem k1;unfold hits at k2;simp only[Bool.and_eq_true,decide_eq_true_eq] at k2;exact⟨j,m',by have:=zG hj;omega,zcF _ _ _ hj,k2.1⟩
theorem Wf.give(h:Wf a)(k:Nat)(s:Str)(v:GVal):Wf (a.give k s v):=
 h.upd (f:=λ m=>{ m with attrs:=j9 m.attrs s v }) (λ _=>Z) (λ _ h=>h) Z (λ m hm hd=>h.dones k m hm hd) (λ m hm hc=>h.fails k m hm hc) (λ _ h=>h) (λ _ h=>h) h.part
theorem Wf.tell(h:Wf a)(k:Nat)(s:Str):Wf (a.tell k s):=by
 unfold RSt.tell;split
 ·exact h.give ..
 ·exact h
theorem Wf.done(h:Wf a){k:Nat}{s:Str}(hk:∀ m,a.mods[k]?=some m->m.name=s):Wf (a.done k s):=
 h.upd (f:=λ m=>{ m with done:=true }) (λ _=>Z) (λ _ h=>h) (by rw[jw,qP,List.append_nil]) (λ m hm _=>by rw[jw,zax Z,hk m hm];simp) (λ m hm hc=>by rw[jw,qP,List.append_nil];exact h.fails k m hm hc)
  (λ x hx=>by rw[jw];exact List.mem_append_left _ hx) (λ x hx=>by rw[jw];exact List.mem_append_left _ hx) h.part
theorem Wf.fail(h:Wf a){k:Nat}{s:Str}(hk:∀ m,a.mods[k]?=some m->m.name=s):Wf (a.fail k s):=
 h.upd (f:=λ m=>{ m with cached:=false }) (λ _=>Z) (λ _ h=>by cases h) (by rw[jw,qP,List.append_nil]) (λ m hm hd=>by rw[jw,qP,List.append_nil];exact h.dones k m hm hd) (λ m hm _=>by rw[jw,zax Z,hk m hm];simp)
  (λ x hx=>by rw[jw];exact List.mem_append_left _ hx) (λ x hx=>by rw[jw];exact List.mem_append_left _ hx) h.part
theorem Wf.hit(h:Wf a){k:Nat}{s:Str}{m:GMod}(hm:a.mods[k]?=some m)(hs:hits s m=true):Wf (a.hit k s):=by
 have e:∀ k:Int,3≠k->evs k (a.log++[⟨3,s⟩])=evs k a.log:=λ k hk=>by rw[jw,qP (h:=hk),List.append_nil]
 refine⟨(e 0 (by decide)).trans h.starts,λ i m hi hd=>?_,λ i m hi hc=>?_,h.dist,λ x hx=>?_,h.order⟩
 ·show _∈evs 1 (a.log++[⟨3,s⟩]);rw[e 1 (by decide)];exact h.dones i m hi hd
 ·show _∈evs 2 (a.log++[⟨3,s⟩]);rw[e 2 (by decide)];exact h.fails i m hi hc
 ·have hx':x∈if a.doneAt k=false/\s ∉ a.part then a.part++[s] else a.part:=hx
  split at hx'
  ·rcases List.mem_append.1 hx' with h1 | h1
   ·exact h.part x h1
   ·simp only[List.mem_singleton] at h1;rw[h1];unfold hits at hs;simp only[Bool.and_eq_true,decide_eq_true_eq] at hs;exact List.mem_map.2 ⟨m,List.mem_of_getElem? hm,hs.1⟩
  ·exact h.part x hx'
theorem Tr.own{x:Spec}(h:Tr t path (a.begin s x) b e):∃ m,b.mods[a.mods.length]?=some m/\m.name=s/\m.cached=true:=by
 obtain⟨m,h1,h2⟩:=h.kept _ _ (zeE ..);exact⟨m,h1,h2.name,h2.cached⟩
theorem Tr.wf(h:Tr t path a b e)(w:Wf a):Wf b:=by
 induction h with
 | stop=>exact w
 | seq _ _ h1 h2=>exact h2 (h1 w)
 | tick=>exact⟨w.starts,w.dones,w.fails,w.dist,w.part,w.order⟩
 | out=>exact⟨w.starts,w.dones,w.fails,w.dist,w.part,w.order⟩
 | give=>exact w.give ..
 | hit _ _ _ hm hs=>exact w.hit hm hs
 |bad n h he ih=>obtain⟨m,h1,h2,_⟩:=h.own;exact(ih (w.begin _ n.gone n.up)).fail λ m' hm'=>by rw[h1] at hm';injection hm' with hm';rw[← hm'];exact h2
 |good n h ih=>obtain⟨m,h1,h2,_⟩:=h.own;exact((ih (w.begin _ n.gone n.up)).done λ m' hm'=>by rw[h1] at hm';injection hm' with hm';rw[← hm'];exact h2).tell ..
theorem Tr.fresh(h:Tr t path a b e):∀ (i:Nat) (m:GMod),a.mods.length<=i->b.mods[i]?=some m->m.cached=true->m.done=true:=by
 induction h with
 | stop=>intro i m h1 h2;have:=zG h2;omega
 | tick=>intro i m h1 h2;have:=zG h2;simp at this;omega
 | out=>intro i m h1 h2;have:=zG h2;simp at this;omega
 | give=>intro i m h1 h2;have:=zG h2;unfold RSt.give at this;simp only[Wa] at this;omega
 | hit=>intro i m h1 h2;have:=zG h2;unfold RSt.hit at this;simp only at this;omega
 |seq h k ih1 ih2=>
  rename_i a b c e;intro i m h1 h2 h3;by_cases hb:i<b.mods.length
  ·obtain⟨m',k1,k2⟩:=k.kept i _ (List.getElem?_eq_getElem hb);rw[h2] at k1;cases k1;exact k2.done (ih1 i _ h1 (List.getElem?_eq_getElem hb) (k2.cached ▸ h3))
  ·exact ih2 i m (by omega) h2 h3
 |bad n h he ih=>
  rename_i a b s e;intro i m h1 h2 h3;rw[fail_at] at h2;split at h2
  ·cases hb:b.mods[a.mods.length]? with
   | none=>rw[hb] at h2;cases h2
   | some y=>rw[hb] at h2;injection h2 with h2;rw[← h2] at h3;cases h3
  ·exact ih i m (by show(a.mods++[_]).length<=i;simp;omega) h2 h3
 |good n h ih=>
  rename_i a b s;intro i m h1 h2 h3;have hl:i<(b.done a.mods.length s).mods.length:=by rw[← tell_len _ a.mods.length s];exact zG h2
  obtain⟨m',k1,k2⟩:=zdm _ a.mods.length s (List.getElem?_eq_getElem hl);rw[h2] at k1;cases k1;refine k2.done ?_;have h4:=List.getElem?_eq_getElem hl;have h5:=k2.cached ▸ h3;generalize (b.done a.mods.length s).mods[i]=y at*;rw[done_at] at h4;split at h4
  ·cases hb:b.mods[a.mods.length]? with
   | none=>rw[hb] at h4;cases h4
   | some z=>rw[hb] at h4;injection h4 with h4;rw[← h4]
  ·exact ih i y (by show(a.mods++[_]).length<=i;simp;omega) h4 h5
def Upw(st:RSt):Prop:=∀ (i:Nat) (m:GMod),st.mods[i]?=some m->m.cached=true->zM m.name≠emptyS->∃ (j:Nat) (m':GMod),st.mods[j]?=some m'/\hits (zM m.name) m'=true
def Told(st:RSt):Prop:=∀ (i:Nat) (m:GMod),st.mods[i]?=some m->m.cached=true->m.done=true->zM m.name≠emptyS->∀ (j:Nat) (p:GMod),st.mods[j]?=some p->hits (zM m.name) p=true->ji m.name∈p.attrs.map (·.name)
def Sm(a b:RSt):Prop:=b.mods.length=a.mods.length/\∀ (i:Nat) (m:GMod),a.mods[i]?=some m->∃ m',b.mods[i]?=some m'/\Kept m m'
theorem Sm.back(h:Sm a b)(hm:b.mods[i]?=some m'):∃ m,a.mods[i]?=some m/\Kept m m':=by
 have hl:i<a.mods.length:=by rw[← h.1];exact zG hm
 obtain⟨m2,h1,h2⟩:=h.2 i _ (List.getElem?_eq_getElem hl);rw[hm] at h1;cases h1;exact⟨_,List.getElem?_eq_getElem hl,h2⟩
theorem Kept.hits{m m':GMod}(h:Kept m m')(s:Str):hits s m'=hits s m:=by unfold Go.Proofs.YtifgdhfcoaognaaGreatDoor.hits;rw[h.name,h.cached]
theorem Upw.sm(u:Upw a)(h:Sm a b):Upw b:=λ i m hm hc hp=>by
 obtain⟨y,h1,h2⟩:=h.back hm;rw[h2.name] at hp ⊢;obtain⟨j,m',j1,j2⟩:=u i y h1 (h2.cached ▸ hc) hp;obtain⟨m2,j3,j4⟩:=h.2 j m' j1;exact⟨j,m2,j3,by rw[j4.hits];exact j2⟩
theorem give_sm(a:RSt)(k:Nat)(s:Str)(v:GVal):Sm a (a.give k s v):=⟨Wa ..,λ _ _ h=>zdl _ _ _ _ h⟩
theorem Told.give(d:Told a)(k:Nat)(s:Str)(v:GVal):Told (a.give k s v):=λ i m hm hc hd hp j p hj hh=>by
 obtain⟨p0,j1,j2⟩:=(give_sm a k s v).back hj;obtain⟨m0,i1,i2⟩:=(give_sm a k s v).back hm;have i3:m0.done=m.done:=by
  rw[giv_at] at hm;split at hm
  ·rename_i e;subst e;rw[i1] at hm;injection hm with hm;rw[← hm]
  ·rw[i1] at hm;injection hm with hm;rw[hm]
 rw[i2.name] at hp hh ⊢;exact j2.attrs _ (d i m0 i1 (i2.cached ▸ hc) (i3 ▸ hd) hp j p0 j1 (by rw[← j2.hits];exact hh))
inductive Bal:List GEvent->Prop
 | nil:Bal []
 | hit (s:Str) {l:List GEvent} (h:Bal l):Bal (⟨3,s⟩::l)
 | run (s:Str) {x y:List GEvent} {k:Int} (hk:k=1\/k=2) (h:Bal x) (r:Bal y):Bal (⟨0,s⟩::(x++⟨k,s⟩::y))
theorem Bal.app{x:List GEvent}(h:Bal x)(k:Bal y):Bal (x++y):=by
 induction h with
 | nil=>exact k
 | hit s _ ih=>exact .hit s ih
 |run s hk h r _ ih=>rename_i x z k;have:=Bal.run s hk h ih;simpa using this
theorem tell_log(a:RSt)(k:Nat)(s:Str):(a.tell k s).log=a.log:=by unfold RSt.tell;split <;> rfl
theorem Tr.bal(h:Tr t path a b e):∃ l,b.log=a.log++l/\Bal l/\(e=0->∀ ev∈l,ev.kind≠2):=by
 have z:∀ {a b:RSt} {e:Int},b.log=a.log->∃ l,b.log=a.log++l/\Bal l/\(e=0->∀ ev∈l,ev.kind≠2):=λ h=>⟨[],by rw[h,List.append_nil],.nil,λ _ _ h=>by cases h⟩
 induction h with
 | stop=>exact z Z
 | tick=>exact z Z
 | out=>exact z Z
 | give=>exact z Z
 | hit a k s=>exact⟨[⟨3,s⟩],Z,.hit s .nil,λ _ ev h=>by simp only[List.mem_singleton] at h;rw[h];show(3:Int)≠2;decide⟩
 |seq h k ih1 ih2=>obtain⟨x,h1,h2,h3⟩:=ih1;obtain⟨y,k1,k2,k3⟩:=ih2;exact⟨x++y,by rw[k1,h1,List.append_assoc],h2.app k2,λ e ev hv=>(List.mem_append.1 hv).elim (h3 Z ev) (k3 e ev)⟩
 |bad n h he ih=>rename_i a b s e;obtain⟨x,h1,h2,_⟩:=ih;refine⟨⟨0,s⟩::(x++⟨2,s⟩::[]),?_,.run s (.inr Z) h2 .nil,λ e=>absurd e he⟩;show b.log++[_]=_;rw[h1];show((a.log++[⟨0,s⟩])++x)++[_]=_;simp
 |good n h ih=>
  rename_i a b s;obtain⟨x,h1,h2,h3⟩:=ih;refine⟨⟨0,s⟩::(x++⟨1,s⟩::[]),?_,.run s (.inl Z) h2 .nil,λ _ ev hv=>?_⟩
  ·rw[tell_log];show b.log++[_]=_;rw[h1];show((a.log++[⟨0,s⟩])++x)++[_]=_;simp
  ·rcases List.mem_cons.1 hv with hv | hv
   ·rw[hv];show(0:Int)≠2;decide
   ·rcases List.mem_append.1 hv with hv | hv
    ·exact h3 Z ev hv
    ·simp only[List.mem_singleton] at hv;rw[hv];show(1:Int)≠2;decide
theorem j8(k:Int)(x:GEvent)(l:List GEvent):evs k (x::l)=evs k [x]++evs k l:=jw k [x] l
theorem Bal.sub{l:List GEvent}(h:Bal l):∀ s,s∈evs 1 l\/s∈evs 2 l->s∈evs 0 l:=by
 induction h with
 | nil=>intro s h;rcases h with h | h <;> cases h
 |hit s _ ih=>intro x h;rw[j8,qP,List.nil_append] at h ⊢;rw[j8,qP,List.nil_append] at h;exact ih x h
 |run s hk h r ih1 ih2=>
  rename_i x y k;intro z hz;have e0:evs 0 (⟨0,s⟩::(x++⟨k,s⟩::y))=s::(evs 0 x++evs 0 y):=by
   rw[j8,zax Z,jw,j8 0 ⟨k,s⟩ y,qP (h:=(by rcases hk with hk | hk <;> rw[hk] <;> decide))];simp
  have e1:∀ j:Int,j≠0->∀ z∈evs j (⟨0,s⟩::(x++⟨k,s⟩::y)),z=s\/z∈evs j x\/z∈evs j y:=λ j hj z hz=>by
   rw[j8,qP (h:=(Ne.symm hj)),List.nil_append,jw,j8 j ⟨k,s⟩ y] at hz;rcases List.mem_append.1 hz with hz | hz
   ·exact .inr (.inl hz)
   ·rcases List.mem_append.1 hz with hz | hz
    ·by_cases e:k=j
     ·rw[zax e] at hz;simp only[List.mem_singleton] at hz;exact .inl hz
     ·rw[qP (h:=e)] at hz;cases hz
    ·exact .inr (.inr hz)
  rw[e0];rcases hz with hz | hz
  ·rcases e1 1 (by decide) z hz with h | h | h
   ·rw[h];simp
   ·simp[ih1 z (.inl h)]
   ·simp[ih2 z (.inl h)]
  ·rcases e1 2 (by decide) z hz with h | h | h
   ·rw[h];simp
   ·simp[ih1 z (.inr h)]
   ·simp[ih2 z (.inr h)]
theorem Bal.count{l:List GEvent}(h:Bal l):(evs 0 l).length=(evs 1 l).length+(evs 2 l).length:=by
 induction h with
 | nil=>rfl
 |hit s _ ih=>rw[j8 0,j8 1,j8 2,qP,qP,qP];simpa using ih
 |run s hk h r ih1 ih2=>
  rename_i x y k;rw[j8 0,j8 1,j8 2,zax Z,qP,qP,jw,jw,jw,j8 0 ⟨k,s⟩ y,j8 1 ⟨k,s⟩ y,j8 2 ⟨k,s⟩ y];rcases hk with rfl | rfl
  ·rw[qP (k:=0),zax (k:=1) Z,qP (k:=2)];simp only[List.length_append,List.length_cons,List.length_nil];omega
  ·rw[qP (k:=0),qP (k:=1),zax (k:=2) Z];simp only[List.length_append,List.length_cons,List.length_nil];omega
theorem find_kind(hs:zf s=true):okKind (find t.files path s):=by
 rcases find_last (t:=t.files) (path:=path) hs with h | ⟨r,p,x,h,_⟩
 ·rw[h];exact .inl Z
 ·rw[h];exact Qp ..
theorem wf0:Wf st0:=⟨Z,(λ _ _ h=>by cases h),(λ _ _ h=>by cases h),(λ _ _ _ _ h=>by cases h),(λ _ h=>by cases h),(λ _ _ h=>by cases h)⟩
theorem ran_tr(hv:zB t=true)(hp:path.length<=1048576)(hs:zf s=true):Tr t path st0 (ranR t path s).1 (ranR t path s).2.2/\((ranR t path s).2.2=0->∃ m,(ranR t path s).1.mods[(ranR t path s).2.1.toNat]?=some m/\hits s m=true):=
 imp_tr hv 483 st0 s _ hs (zbL hv hp hs).1
section
variable(hv:zB t=true)(hp:path.length<=1048576)(hs:zf s=true)
include hv hp hs
theorem ran_wf:Wf (ranR t path s).1:=(ran_tr hv hp hs).1.wf wf0
theorem ran_bal:Bal (logV t path s)/\((ranR t path s).2.2=0->evs 2 (logV t path s)=[]):=by
 obtain⟨l,h1,h2,h3⟩:=(ran_tr hv hp hs).1.bal;have h1:(ranR t path s).1.log=l:=h1;unfold logV;rw[h1];refine⟨h2,λ e=>?_⟩;have:=h3 e;unfold evs;rw[List.filter_eq_nil_iff.2 (λ ev hev=>by simpa[cmpI] using this ev hev)];rfl
end
end Go.Proofs.YtifgdhfcoaognaaGreatDoor
