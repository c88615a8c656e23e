import Derived.Test.YtandbaloaenciaaGreatDoorRP
import Derived.Test.YtandbaloaenciaaGreatDoorRN
namespace Go.Proofs.YtandbaloaenciaaGreatDoor
open Go.RowKit
variable{d:Disk}{m:GMod}{f:GMod->GMod}{a b e:Int}{l:List GAttr}{o path roots rs:List Int}{M i j k:Nat}{R:Rec}{x:Stmt}{nm p s:Str}{t:Tree}
structure RSt where
 mods:List GMod
 log:List GEvent
 out:List Int
 left:Int
 part:List Str
variable{st:RSt}{v:RSt×GVal×Int}{q r:RSt×Int}
def hits(s:Str)(m:GMod):Bool:=decide (m.name=s)&&m.cached
def cix(st:RSt)(s:Str):Int:=xm (hits s) st.mods
def aix(l:List GAttr)(s:Str):Int:=xm (λ a=>decide (a.name=s)) l
def updA{α:Type}(l:List α)(k:Nat)(f:α->α):List α:=match l[k]? with | some x=>l.set k (f x) | none=>l
theorem WK{α:Type}{l:List α}{x:α}(f:α->α)(h:l[k]?=some x):updA l k f=l.set k (f x):=by unfold updA;rw[h]
theorem zav{α:Type}(l:List α)(k:Nat)(f:α->α):(updA l k f).length=l.length:=by unfold updA;split <;> simp
theorem updA_get{α:Type}{l:List α}{f:α->α}(i:Nat):(updA l k f)[i]?=if i=k then l[k]?.map f else l[i]?:=by
 unfold updA;split
 ·rename_i x hx;by_cases e:i=k
  ·subst e;have:=zK hx;rw[Ke Z,hx,List.getElem?_set_self this];rfl
  ·rw[Kf e,List.getElem?_set_ne (λ h=>e h.symm)]
 ·rename_i hx;by_cases e:i=k
  ·subst e;simp[hx]
  ·rw[Kf e]
def Zz(l:List GAttr)(s:Str)(v:GVal):List GAttr:=if cmpI .geq (aix l s) 0=true then updA l (aix l s).toNat (λ a=>{ a with value:=v }) else l++[⟨s,v⟩]
def RSt.note(st:RSt)(k:Int)(s:Str):RSt:={ st with log:=st.log++[⟨k,s⟩] }
def RSt.doneAt(st:RSt)(k:Nat):Bool:=((st.mods[k]?).map (·.done)).getD false
def RSt.hit(st:RSt)(k:Nat)(s:Str):RSt:={ st with log:=st.log++[⟨3,s⟩],part:=if st.doneAt k=false/\s ∉ st.part then st.part++[s] else st.part }
def RSt.give(st:RSt)(at_:Nat)(s:Str)(v:GVal):RSt:={ st with mods:=updA st.mods at_ (λ m=>{ m with attrs:=Zz m.attrs s v }) }
def RSt.begin(st:RSt)(s:Str)(sp:Spec):RSt:={ st with mods:=st.mods++[⟨s,sp.kind,sp.roots,true,false,[]⟩],log:=st.log++[⟨0,s⟩] }
def RSt.fail(st:RSt)(at_:Nat)(s:Str):RSt:={ st with mods:=updA st.mods at_ (λ m=>{ m with cached:=false }),log:=st.log++[⟨2,s⟩] }
def RSt.done(st:RSt)(at_:Nat)(s:Str):RSt:={ st with mods:=updA st.mods at_ (λ m=>{ m with done:=true }),log:=st.log++[⟨1,s⟩] }
def RSt.tell(st:RSt)(at_:Nat)(s:Str):RSt:=if cmpI .geq (cix st (zN s)) 0=true then st.give (cix st (zN s)).toNat (jh s) ⟨1,(at_:Int)⟩ else st
def RSt.kindAt(st:RSt)(k:Nat):Int:=((st.mods[k]?).map (·.kind)).getD 0
def RSt.rootsAt(st:RSt)(k:Nat):List Int:=((st.mods[k]?).map (·.roots)).getD []
def RSt.attrsAt(st:RSt)(k:Nat):List GAttr:=((st.mods[k]?).map (·.attrs)).getD []
def RSt.nameAt(st:RSt)(k:Nat):Str:=((st.mods[k]?).map (·.name)).getD emptyS
def WC(t:Tree)(path:List Int)(st:RSt)(s:Str):Spec:=
 if zN s=emptyS then YY t.files path emptyS s
 else if cmpI .lss (cix st (zN s)) 0=true then noSpec
 else if st.kindAt (cix st (zN s)).toNat=1 then noSpec
 else YY t.files (st.rootsAt (cix st (zN s)).toNat) (zN s) (jh s)
def ZZ(s:Str):Str:=(zx s dot).headD emptyS
section
variable(t:Tree)(path:List Int)
abbrev RImp:=RSt->Str->Option (RSt×Int×Int)
def starF(at_:Nat)(l:List GAttr)(st:RSt):RSt:=l.foldl (λ st a=>if(a.name.l.headD 0 == 122)=true then st else st.give at_ a.name a.value) st
def Qv(st:RSt)(at_:Nat):Str:=if st.kindAt at_=1 then zN (st.nameAt at_) else st.nameAt at_
def zaw(I:RImp)(st:RSt)(k:Nat)(s:Str):Option (RSt×GVal×Int):=
 if cmpI .geq (aix (st.attrsAt k) s) 0=true then some (st,(((st.attrsAt k)[(aix (st.attrsAt k) s).toNat]?).map (·.value)).getD ⟨0,0⟩,0)
 else if st.kindAt k=1\/zj (child (st.nameAt k) s)=false then some (st,⟨0,0⟩,2)
 else if cmpI .lss (cix st (child (st.nameAt k) s)) 0=true/\(WC t path st (child (st.nameAt k) s)).kind=0 then some (st,⟨0,0⟩,2)
 else(I st (child (st.nameAt k) s)).bind λ r=>some (r.1,⟨1,r.2.1⟩,r.2.2)
def Yl(I:RImp)(st:RSt)(at_:Nat)(x:Stmt):Option (RSt×Int):=
 if x.kind=0 then(I st x.module).bind λ r=>
  if r.2.2≠0 then some (r.1,r.2.2) else if cmpI .lss (cix r.1 (ZZ x.module)) 0=true then some (r.1,1) else some (r.1.give at_ (ZZ x.module) ⟨1,cix r.1 (ZZ x.module)⟩,0)
 else if x.kind=1 then
  if zj (Yk (Qv st at_) x.level x.module)=false then some (st,5) else
  (I st (Yk (Qv st at_) x.level x.module)).bind λ r=>if r.2.2≠0 then some (r.1,r.2.2) else
  (zaw t path I r.1 r.2.1.toNat x.name).bind λ q=>if q.2.2≠0 then some (q.1,q.2.2) else some (q.1.give at_ x.name q.2.1,0)
 else if x.kind=2 then(I st x.module).bind λ r=>
  if r.2.2≠0 then some (r.1,r.2.2) else some (starF at_ (r.1.attrsAt r.2.1.toNat) r.1,0)
 else if x.kind=3 then some (st.give at_ x.name ⟨0,x.value⟩,0)
 else if x.kind=4 then
  if cmpI .lss (aix (st.attrsAt at_) x.name) 0=true then some (st,3) else
  some ({ st with out:=st.out++[(let v:=(((st.attrsAt at_)[(aix (st.attrsAt at_) x.name).toNat]?).map (·.value)).getD ⟨0,0⟩;if v.kind=1 then -1 else v.num)] },0)
 else if x.kind=5 then some (st,4)
 else some (st,0)
def QN(I:RImp)(at_:Nat):List Stmt->RSt->Option (RSt×Int)
 | [],st=>some (st,0)
 | x::xs,st=>if st.left=0 then some (st,6) else(Yl t path I { st with left:=st.left - 1 } at_ x).bind λ r=>if r.2≠0 then some r else QN I at_ xs r.1
def runF(I:RImp)(st:RSt)(at_:Nat)(sp:Spec):Option (RSt×Int):=if cmpI .geq sp.file 0=true then QN t path I at_ (JN t.files sp.file).body st else some (st,0)
def newF(I:RImp)(st:RSt)(s:Str)(sp:Spec):Option (RSt×Int×Int):=
 if sp.kind=0 then some (st,-1,1) else
 (runF t path I (st.begin s sp) st.mods.length sp).bind λ r=>
  if r.2≠0 then some (r.1.fail st.mods.length s,-1,r.2) else some ((r.1.done st.mods.length s).tell st.mods.length s,(st.mods.length:Int),0)
def impF(I:RImp)(st:RSt)(s:Str):Option (RSt×Int×Int):=
 if cmpI .geq (cix st s) 0=true then some (st.hit (cix st s).toNat s,cix st s,0) else
 (if zN s=emptyS then some (st,0,0) else I st (zN s)).bind λ r=>
  if r.2.2≠0 then some (r.1,-1,r.2.2) else
  if cmpI .geq (cix r.1 s) 0=true then some (r.1.hit (cix r.1 s).toNat s,cix r.1 s,0) else newF t path I r.1 s (WC t path r.1 s)
def imp:Nat->RImp
 | 0=>λ _ _=>none
 | n+1=>impF t path (imp n)
end
variable{I:RImp}
theorem zcX{α:Type}{p:α->Bool}{l:List α}(h:cmpI .geq (xm p l) 0=true):∃ x,l[(xm p l).toNat]?=some x/\p x=true/\0<=xm p l:=by
 rw[lss_geq] at h;have h':cmpI .lss (xm p l) 0=false:=by simpa using h
 obtain⟨x,h1,h2⟩:=idxOf_some h';exact⟨x,h1,h2,by simpa[cmpI] using h'⟩
theorem Y7(s:Str):1<=(zx s dot).length:=by have:=QX s dot;omega
theorem jT(h:zj s=true):(zx s dot).length<=3:=(jf h).2
theorem XB(h:zj s=true)(hp:zN s≠emptyS):(zx (zN s) dot).length+1=(zx s dot).length/\zj (zN s)=true:=by
 obtain⟨h1,h2⟩:=jf h;have h0:=Y7 s;by_cases e:(zx s dot).length=1
 ·exfalso
  apply hp;unfold zN;rw[e];rfl
 ·have hne:(zx s dot).take ((zx s dot).length - 1)≠[]:=λ e1=>by
   have:=congrArg List.length e1;rw[List.length_take,List.length_nil] at this;omega
  have hv:∀ x∈(zx s dot).take ((zx s dot).length - 1),zB x=true:=λ x hx=>h1 x (List.mem_of_mem_take hx)
  constructor
  ·unfold zN;rw[zdU hne hv,List.length_take];omega
  ·exact zdV hne (by rw[List.length_take];omega) hv
theorem Qw(h:zj s=true):zB (jh s)=true:=(jf h).1 _ (List.mem_of_getElem? (last_get s))
theorem first_valid(h:zj s=true):zB (ZZ s)=true:=by
 unfold ZZ;have h1:=(jf h).1;have h0:=Y7 s;cases hs:zx s dot with
 | nil=>rw[hs] at h0;simp at h0
 | cons a l=>exact h1 a (by rw[hs];exact List.mem_cons_self ..)
theorem Y8(h:zP x=true)(hk:x.kind=0\/x.kind=2):zj x.module=true:=by
 rcases YW h with h1 | h1 | h1
 ·exact h1.2
 ·omega
 ·omega
theorem Qa(h:zP x=true)(hk:x.kind=1\/x.kind=3\/x.kind=4):zB x.name=true:=by
 unfold zP at h;rcases hk with hk | hk | hk <;> simp only[hk,cmpI] at h <;> simp at h <;> first | exact h.1.2 | exact h.2.1 | exact h.1.1.2 | (exact h.1.2.1) | (exact h.2.2.1)
structure Inv(st:RSt):Prop where
 names:∀ m∈st.mods,zj m.name=true
 roots:∀ m∈st.mods,m.roots.length<=1048576
 parts:∀ m∈st.mods,∀ a∈m.attrs,zB a.name=true
 apart:∀ m∈st.mods,(m.attrs.map (·.name)).Nodup
 left:0<=st.left
structure Grow(a b:RSt):Prop where
 left:b.left<=a.left
 old:∀ (i:Nat) (m:GMod),a.mods[i]?=some m->∃ m',b.mods[i]?=some m'/\m'.name=m.name
theorem Grow.refl(a:RSt):Grow a a:=⟨Int.le_refl _,λ _ m h=>⟨m,h,Z⟩⟩
theorem Grow.trans{a b c:RSt}(h:Grow a b)(k:Grow b c):Grow a c:=⟨Int.le_trans k.left h.left,λ i m hm=>let⟨m1,h1,h2⟩:=h.old i m hm;let⟨m2,k1,k2⟩:=k.old i m1 h1;⟨m2,k1,k2.trans h2⟩⟩
def RSt.size(st:RSt):Nat:=st.log.length+st.out.length+st.mods.length+st.part.length+100*st.left.toNat
theorem zco{α:Type}{l:List α}{f:α->α}{x:α}(h:x∈updA l k f):x∈l\/∃ y∈l,x=f y:=by
 unfold updA at h;split at h
 ·rename_i y hy;rcases List.mem_or_eq_of_mem_set h with h | h
  ·exact .inl h
  ·exact .inr ⟨y,List.mem_of_getElem? hy,h⟩
 ·exact .inl h
theorem updA_old{l:List GMod}(hf:∀ m,(f m).name=m.name)(h:l[i]?=some m):∃ m',(updA l k f)[i]?=some m'/\m'.name=m.name:=by
 rw[updA_get];by_cases e:i=k
 ·subst e;rw[Ke Z,h];exact⟨f m,Z,hf m⟩
 ·rw[Kf e];exact⟨m,h,Z⟩
theorem put_names(l:List GAttr)(s:Str)(v:GVal):(Zz l s v).map (·.name)=if cmpI .geq (aix l s) 0=true then l.map (·.name) else l.map (·.name)++[s]:=by
 unfold Zz;split
 ·rename_i h;obtain⟨x,h1,h2,_⟩:=zcX h;have h1':l[(aix l s).toNat]?=some x:=h1;rw[WK _ h1',List.map_set];apply List.ext_getElem?;intro i;by_cases e:(aix l s).toNat=i
  ·subst e;have:=zK h1';rw[List.getElem?_set_self (by simpa using this),List.getElem?_map,h1'];rfl
  ·rw[List.getElem?_set_ne e]
 ·simp
theorem zbw{α:Type}{p:α->Bool}{l:List α}(h:cmpI .geq (xm p l) 0=false):∀ x∈l,p x=false:=by
 rw[J6] at h;intro x hx;cases hp:p x with
 | false=>rfl
 | true=>rw[List.any_eq_true.2 ⟨x,hx,hp⟩] at h;cases h
theorem put_apart{v:GVal}(h:(l.map (·.name)).Nodup):((Zz l s v).map (·.name)).Nodup:=by
 rw[put_names];split
 ·exact h
 ·rename_i hh;have hn:=zbw (by simpa[aix] using hh);refine List.nodup_append.2 ⟨h,by simp,λ a ha b hb e=>?_⟩;simp only[List.mem_singleton] at hb;subst hb;subst e;obtain⟨x,hx,hxa⟩:=List.mem_map.1 ha;have:=hn x hx;simp[hxa] at this
theorem put_parts{v:GVal}(hs:zB s=true)(h:∀ a∈l,zB a.name=true):∀ a∈Zz l s v,zB a.name=true:=by
 intro a ha;have:a.name∈(Zz l s v).map (·.name):=List.mem_map_of_mem ha;rw[put_names] at this;split at this
 ·obtain⟨x,hx,e⟩:=List.mem_map.1 this;rw[← e];exact h x hx
 ·rcases List.mem_append.1 this with h1 | h1
  ·obtain⟨x,hx,e⟩:=List.mem_map.1 h1;rw[← e];exact h x hx
  ·simp only[List.mem_singleton] at h1;rw[h1];exact hs
theorem Inv.upd(h:Inv st)(h1:∀ m,(f m).name=m.name)(h2:∀ m∈st.mods,(f m).roots.length<=1048576)(h3:∀ m∈st.mods,∀ a∈(f m).attrs,zB a.name=true)(h4:∀ m∈st.mods,((f m).attrs.map (·.name)).Nodup){lg:List GEvent}:Inv { st with mods:=updA st.mods k f,log:=lg,out:=o } where
 names:=λ m hm=>(zco hm).elim (h.names m) λ⟨y,hy,e⟩=>by rw[e,h1];exact h.names y hy
 roots:=λ m hm=>(zco hm).elim (h.roots m) λ⟨y,hy,e⟩=>by rw[e];exact h2 y hy
 parts:=λ m hm=>(zco hm).elim (h.parts m) λ⟨y,hy,e⟩=>by rw[e];exact h3 y hy
 apart:=λ m hm=>(zco hm).elim (h.apart m) λ⟨y,hy,e⟩=>by rw[e];exact h4 y hy
 left:=h.left
theorem Inv.hit(h:Inv st)(k:Nat)(s:Str):Inv (st.hit k s):=⟨h.names,h.roots,h.parts,h.apart,h.left⟩
theorem size_hit(st:RSt)(k:Nat)(s:Str):(st.hit k s).size<=st.size+2:=by
 unfold RSt.size RSt.hit;simp only[List.length_append,List.length_cons,List.length_nil];split
 ·simp only[List.length_append,List.length_cons,List.length_nil];omega
 ·omega
theorem Inv.note(h:Inv st)(k:Int)(s:Str):Inv (st.note k s):=⟨h.names,h.roots,h.parts,h.apart,h.left⟩
theorem Inv.give(h:Inv st)(k:Nat){s:Str}(v:GVal)(hs:zB s=true):Inv (st.give k s v):=
 h.upd (f:=λ m=>{ m with attrs:=Zz m.attrs s v }) (lg:=st.log) (o:=st.out) (λ _=>Z) h.roots (λ m hm=>put_parts hs (h.parts m hm)) λ m hm=>put_apart (h.apart m hm)
theorem Inv.fail(h:Inv st)(k:Nat)(s:Str):Inv (st.fail k s):=h.upd (f:=λ m=>{ m with cached:=false }) (λ _=>Z) h.roots h.parts h.apart
theorem Inv.done(h:Inv st)(k:Nat)(s:Str):Inv (st.done k s):=h.upd (f:=λ m=>{ m with done:=true }) (λ _=>Z) h.roots h.parts h.apart
theorem Inv.begin(h:Inv st){s:Str}{sp:Spec}(hs:zj s=true)(hr:sp.roots.length<=1048576):Inv (st.begin s sp) where
 names:=λ m hm=>(List.mem_append.1 hm).elim (h.names m) λ e=>by simp only[List.mem_singleton] at e;rw[e];exact hs
 roots:=λ m hm=>(List.mem_append.1 hm).elim (h.roots m) λ e=>by simp only[List.mem_singleton] at e;rw[e];exact hr
 parts:=λ m hm=>(List.mem_append.1 hm).elim (h.parts m) λ e=>by simp only[List.mem_singleton] at e;rw[e];intro a ha;simp at ha
 apart:=λ m hm=>(List.mem_append.1 hm).elim (h.apart m) λ e=>by simp only[List.mem_singleton] at e;rw[e];exact List.Pairwise.nil
 left:=h.left
theorem Grow.upd(h1:∀ m,(f m).name=m.name){lg:List GEvent}:Grow st { st with mods:=updA st.mods k f,log:=lg,out:=o }:=⟨Int.le_refl _,λ _ _ h=>updA_old h1 h⟩
theorem Grow.give(k:Nat)(s:Str)(v:GVal):Grow st (st.give k s v):=Grow.upd (f:=λ m=>{ m with attrs:=Zz m.attrs s v }) (lg:=st.log) (o:=st.out) λ _=>Z
theorem Grow.begin(s:Str)(sp:Spec):Grow st (st.begin s sp):=⟨Int.le_refl _,λ i m h=>⟨m,by
 show(st.mods++_)[i]?=some m;rw[List.getElem?_append_left (zK h)];exact h,Z⟩⟩
theorem Qb(k:Nat)(s:Str)(v:GVal):(st.give k s v).size=st.size:=by unfold RSt.size RSt.give;simp[zav]
theorem Inv.tell(h:Inv st)(k:Nat){s:Str}(hs:zj s=true):Inv (st.tell k s):=by
 unfold RSt.tell;split
 ·exact h.give _ _ (Qw hs)
 ·exact h
theorem Grow.tell(k:Nat)(s:Str):Grow st (st.tell k s):=by
 unfold RSt.tell;split
 ·exact Grow.give ..
 ·exact Grow.refl _
theorem size_tell(k:Nat)(s:Str):(st.tell k s).size=st.size:=by
 unfold RSt.tell;split
 ·exact Qb ..
 ·rfl
theorem star_ok(at_:Nat):∀ (l:List GAttr) {st:RSt},Inv st->(∀ a∈l,zB a.name=true)->Inv (starF at_ l st)/\Grow st (starF at_ l st)/\(starF at_ l st).size=st.size
 | [],st,h,_=>⟨h,Grow.refl _,Z⟩
 |a::l,st,h,hl=>by
  unfold starF;rw[List.foldl_cons];have hl':=λ b hb=>hl b (List.mem_cons_of_mem _ hb)
  split
  ·exact star_ok at_ l h hl'
  ·have h1:=star_ok at_ l (h.give at_ a.value (hl a (List.mem_cons_self ..))) hl';exact⟨h1.1,(Grow.give at_ a.name a.value).trans h1.2.1,h1.2.2.trans (Qb ..)⟩
structure ImpPost(st:RSt)(s:Str)(r:RSt×Int×Int):Prop where
 inv:Inv r.1
 grow:Grow st r.1
 size:r.1.size<=st.size+4*(zx s dot).length
 good:r.2.2=0->∃ m,r.1.mods[r.2.1.toNat]?=some m/\m.name=s/\0<=r.2.1
 bad:r.2.2≠0->r.2.1=-1
 ends:0<=r.2.2/\r.2.2<=6
def Ym(n:Nat)(I:RImp):Prop:=∀ (st:RSt) (s:Str),Inv st->zj s=true->4*st.left.toNat+(zx s dot).length<=n->∃ r,I st s=some r/\ImpPost st s r
structure BodyPost(st:RSt)(c:Nat)(r:RSt×Int):Prop where
 inv:Inv r.1
 grow:Grow st r.1
 size:r.1.size<=st.size+c
 ends:0<=r.2/\r.2<=6
theorem Inv.attrs(h:Inv st)(k:Nat):(∀ a∈st.attrsAt k,zB a.name=true)/\((st.attrsAt k).map (·.name)).Nodup:=by
 unfold RSt.attrsAt;cases hm:st.mods[k]? with
 | none=>exact⟨by simp,by simp⟩
 | some m=>exact⟨h.parts m (List.mem_of_getElem? hm),h.apart m (List.mem_of_getElem? hm)⟩
theorem zcp(tf:List File)(h:roots.length<=1048576):(YY tf roots p s).roots.length<=1048576:=by
 have:=zc6 tf p s roots [];unfold YY;simp at this;omega
theorem zbx(h:Inv st)(hp:path.length<=1048576)(s:Str):(WC t path st s).roots.length<=1048576:=by
 unfold WC;split
 ·exact zcp _ hp
 ·split
  ·exact Nat.zero_le _
  ·split
   ·exact Nat.zero_le _
   ·refine zcp _ ?_;unfold RSt.rootsAt;cases hm:st.mods[(cix st (zN s)).toNat]? with
    | none=>exact Nat.zero_le _
    | some m=>exact h.roots m (List.mem_of_getElem? hm)
theorem value_ok{n:Nat}(hI:Ym n I)(h:Inv st)(hn:4*st.left.toNat+3<=n)(k:Nat)(s:Str)(_hs:zB s=true):∃ r,zaw t path I st k s=some r/\BodyPost st 12 (r.1,r.2.2):=by
 unfold zaw;have h0:∀ {v:GVal} {e:Int},0<=e->e<=6->∃ r,some (st,v,e)=some r/\BodyPost st 12 (r.1,r.2.2):=λ h1 h2=>⟨_,Z,h,Grow.refl _,Nat.le_add_right _ _,h1,h2⟩
 split
 ·exact h0 (by decide) (by decide)
 ·split
  ·exact h0 (by decide) (by decide)
  ·rename_i hc;split
   ·exact h0 (by decide) (by decide)
   ·have hv:zj (child (st.nameAt k) s)=true:=by
     cases hv:zj (child (st.nameAt k) s) with
     | true=>rfl
     | false=>exact absurd (.inr hv) hc
    have hp:=jT hv;obtain⟨r,hr,hk⟩:=hI st _ h hv (by omega);rw[hr];have:=hk.size;exact⟨_,Z,hk.inv,hk.grow,by simp only;omega,hk.ends⟩
theorem stmt_ok{n:Nat}(hI:Ym n I)(h:Inv st)(hn:4*st.left.toNat+3<=n)(at_:Nat)(hx:zP x=true):∃ r,Yl t path I st at_ x=some r/\BodyPost st 30 r:=by
 have h0:∀ {e:Int},0<=e->e<=6->∃ r,some (st,e)=some r/\BodyPost st 30 r:=λ h1 h2=>⟨_,Z,h,Grow.refl _,Nat.le_add_right _ _,h1,h2⟩
 have key:∀ {s:Str} (hv:zj s=true),∃ r,I st s=some r/\ImpPost st s r/\r.1.size<=st.size+12:=λ hv=>by
  have hp:=jT hv;obtain⟨r,hr,hk⟩:=hI st _ h hv (by omega);have:=hk.size;exact⟨r,hr,hk,by omega⟩
 unfold Yl;split
 ·rename_i hk;have hv:zj x.module=true:=Y8 hx (.inl hk);obtain⟨r,hr,hp,hsz⟩:=key hv;rw[hr];simp only[Kd];split
  ·exact⟨_,Z,hp.inv,hp.grow,by simp only;omega,hp.ends⟩
  ·split
   ·exact⟨_,Z,hp.inv,hp.grow,by simp only;omega,by simp,by simp⟩
   ·exact⟨_,Z,hp.inv.give _ _ (first_valid hv),hp.grow.trans (Grow.give ..),by simp only[Qb];omega,by simp,by simp⟩
 ·rename_i k0;split
  ·rename_i k1;split
   ·exact h0 (by decide) (by decide)
   ·rename_i hv;have hv':zj (Yk (Qv st at_) x.level x.module)=true:=by simpa using hv
    obtain⟨r,hr,hp,hsz⟩:=key hv';rw[hr];simp only[Kd];split
    ·exact⟨_,Z,hp.inv,hp.grow,by simp only;omega,hp.ends⟩
    ·have hl:=hp.grow.left;obtain⟨q,hq,hb⟩:=value_ok (t:=t) (path:=path) hI hp.inv (by have:=h.left;have:=hp.inv.left;omega) r.2.1.toNat x.name (Qa hx (.inl k1));have hbs:=hb.size;rw[hq];simp only[Kd];split
     ·exact⟨_,Z,hb.inv,hp.grow.trans hb.grow,by simp only at hbs ⊢;omega,hb.ends⟩
     ·exact⟨_,Z,hb.inv.give _ _ (Qa hx (.inl k1)),hp.grow.trans (hb.grow.trans (Grow.give ..)),by simp only[Qb] at hbs ⊢;omega,by simp,by simp⟩
  ·rename_i k1;split
   ·rename_i k2;obtain⟨r,hr,hp,hsz⟩:=key (Y8 hx (.inr k2));rw[hr];simp only[Kd];split
    ·exact⟨_,Z,hp.inv,hp.grow,by simp only;omega,hp.ends⟩
    ·have h1:=star_ok at_ _ hp.inv (hp.inv.attrs r.2.1.toNat).1;exact⟨_,Z,h1.1,hp.grow.trans h1.2.1,by simp only[h1.2.2];omega,by simp,by simp⟩
   ·split
    ·rename_i k3;exact⟨_,Z,h.give _ _ (Qa hx (.inr (.inl k3))),Grow.give ..,by simp only[Qb];omega,by simp,by simp⟩
    ·split
     ·split
      ·exact h0 (by decide) (by decide)
      ·refine⟨_,Z,⟨h.names,h.roots,h.parts,h.apart,h.left⟩,⟨Int.le_refl _,λ _ m h=>⟨m,h,Z⟩⟩,?_,by simp,by simp⟩;unfold RSt.size;simp only[List.length_append,List.length_cons,List.length_nil];omega
     ·split
      ·exact h0 (by decide) (by decide)
      ·exact h0 (by decide) (by decide)
theorem body_ok{n:Nat}{I:RImp}(hI:Ym n I)(at_:Nat):∀ (l:List Stmt) (st:RSt),Inv st->4*st.left.toNat<=n+1->(∀ x∈l,zP x=true)->∃ r,QN t path I at_ l st=some r/\BodyPost st 0 r
 | [],st,h,_,_=>⟨_,Z,h,Grow.refl _,Nat.le_refl _,by simp,by simp⟩
 |x::l,st,h,hn,hl=>by
  unfold QN;split
  ·exact⟨_,Z,h,Grow.refl _,Nat.le_refl _,by simp,by simp⟩
  ·rename_i hz;have h1:Inv { st with left:=st.left - 1 }:=⟨h.names,h.roots,h.parts,h.apart,by have:=h.left;show(0:Int)<=st.left - 1;omega⟩;have hgr:Grow st { st with left:=st.left - 1 }:=⟨by show st.left - 1<=st.left;omega,λ _ m h=>⟨m,h,Z⟩⟩;have hsz:RSt.size { st with left:=st.left - 1 }+100=st.size:=by
    unfold RSt.size;have:=h.left;simp only;omega
   obtain⟨r,hr,hb⟩:=stmt_ok (t:=t) (path:=path) hI h1 (by have:=h.left;show 4*(st.left - 1).toNat+3<=n;omega) at_ (hl x (List.mem_cons_self ..));have hbs:=hb.size;rw[hr];simp only[Kd];split
   ·exact⟨_,Z,hb.inv,hgr.trans hb.grow,by omega,hb.ends⟩
   ·have hle:=hb.grow.left;obtain⟨q,hq,hk⟩:=body_ok hI at_ l r.1 hb.inv (by have:=h.left;have:=hb.inv.left;simp only at hle;omega) λ y hy=>hl y (List.mem_cons_of_mem _ hy)
    have hks:=hk.size;exact⟨q,hq,hk.inv,hgr.trans (hb.grow.trans hk.grow),by omega,hk.ends⟩
theorem Qx(hv:zI t=true)(k:Int):∀ x∈(JN t.files k).body,zP x=true:=by
 unfold JN;cases hf:t.files[k.toNat]? with
 | none=>intro x hx;simp at hx;cases hx
 |some f=>have:=Jf hv (List.mem_of_getElem? hf);unfold yc at this;simp only[Bool.and_eq_true] at this;exact List.all_eq_true.1 this.1
theorem run_ok{n:Nat}(hv:zI t=true)(hI:Ym n I)(h:Inv st)(hn:4*st.left.toNat<=n+1)(at_:Nat)(sp:Spec):∃ r,runF t path I st at_ sp=some r/\BodyPost st 0 r:=by
 unfold runF;split
 ·exact body_ok hI at_ _ st h hn (Qx hv _)
 ·exact⟨_,Z,h,Grow.refl _,Nat.le_refl _,by simp,by simp⟩
theorem new_ok{n:Nat}(hv:zI t=true)(hI:Ym n I)(h:Inv st)(hn:4*st.left.toNat<=n+1)(hs:zj s=true){sp:Spec}(hr:sp.roots.length<=1048576):∃ r,newF t path I st s sp=some r/\ImpPost st s r/\r.1.size<=st.size+3:=by
 unfold newF;have hpp:=Y7 s;split
 ·exact⟨_,Z,⟨h,Grow.refl _,Nat.le_add_right _ _,λ e=>absurd e (by simp),λ _=>Z,by simp,by simp⟩,Nat.le_add_right _ _⟩
 ·have h1:=h.begin (sp:=sp) hs hr;have hbz:(st.begin s sp).size=st.size+2:=by unfold RSt.size RSt.begin;simp only[List.length_append,List.length_cons,List.length_nil];omega
  obtain⟨r,hr,hb⟩:=run_ok (path:=path) hv hI h1 (by show 4*st.left.toNat<=n+1;exact hn) st.mods.length sp;have hbs:=hb.size;have hg:Grow st r.1:=(Grow.begin s sp).trans hb.grow;obtain⟨m,hm,hmn⟩:=hb.grow.old st.mods.length ⟨s,sp.kind,sp.roots,true,false,[]⟩ (by unfold RSt.begin;simp);rw[hr];simp only[Kd];split
  ·rename_i he;have hsz:(r.1.fail st.mods.length s).size=r.1.size+1:=by unfold RSt.size RSt.fail;simp only[zav,List.length_append,List.length_cons,List.length_nil];omega
   exact⟨_,Z,⟨hb.inv.fail _ _,hg.trans (Grow.upd (f:=λ m=>{ m with cached:=false }) λ _=>Z),by simp only;omega,λ e=>absurd e he,λ _=>Z,hb.ends⟩,by simp only;omega⟩
  ·have hsz:(r.1.done st.mods.length s).size=r.1.size+1:=by unfold RSt.size RSt.done;simp only[zav,List.length_append,List.length_cons,List.length_nil];omega
   have hgd:Grow r.1 (r.1.done st.mods.length s):=Grow.upd (f:=λ m=>{ m with done:=true }) λ _=>Z
   have hgt:=Grow.tell (st:=r.1.done st.mods.length s) st.mods.length s;refine⟨_,Z,⟨(hb.inv.done _ _).tell _ hs,hg.trans (hgd.trans hgt),by simp only[size_tell];omega,λ _=>?_,λ e=>absurd Z e,by simp,by simp⟩,by simp only[size_tell];omega⟩;obtain⟨m2,hm2,hn2⟩:=(hgd.trans hgt).old _ m hm;exact⟨m2,by simpa using hm2,hn2.trans hmn,by simp only;omega⟩
theorem zby(hv:zI t=true)(hp:path.length<=1048576):∀ n,Ym n (imp t path n)
 | 0=>λ st s _ _ hn=>absurd (Y7 s) (by omega)
 |n+1=>by
  intro st s h hs hn;have hpp:=Y7 s;unfold imp impF;have hhit:∀ {st':RSt},Inv st'->Grow st st'->st'.size+2<=st.size+4*(zx s dot).length->cmpI .geq (cix st' s) 0=true->∃ r,some (st'.hit (cix st' s).toNat s,cix st' s,(0:Int))=some r/\ImpPost st s r:=λ h' hg hsz hc=>by
   obtain⟨m,h1,h2,h3⟩:=zcX hc;refine⟨_,Z,h'.hit _ _,hg.trans ⟨Int.le_refl _,λ _ m h=>⟨m,h,Z⟩⟩,?_,λ _=>⟨m,h1,?_,h3⟩,λ e=>absurd Z e,by simp,by simp⟩
   ·exact Nat.le_trans (size_hit _ _ s) hsz
   ·unfold hits at h2;simp only[Bool.and_eq_true,decide_eq_true_eq] at h2;exact h2.1
  split
  ·rename_i hc;exact hhit h (Grow.refl _) (by omega) hc
  ·have hpar:∃ r,(if zN s=emptyS then some (st,(0:Int),(0:Int)) else imp t path n st (zN s))=some r/\Inv r.1/\Grow st r.1/\r.1.size+4<=st.size+4*(zx s dot).length/\0<=r.2.2/\r.2.2<=6:=by
    split
    ·exact⟨_,Z,h,Grow.refl _,by simp only;omega,by simp,by simp⟩
    ·rename_i he;obtain⟨e1,e2⟩:=XB hs he;obtain⟨r,hr,hk⟩:=zby hv hp n st (zN s) h e2 (by omega);have:=hk.size;exact⟨r,hr,hk.inv,hk.grow,by omega,hk.ends⟩
   obtain⟨r,hr,hi,hg,hsz,he⟩:=hpar;rw[hr];simp only[Kd];split
   ·rename_i hne;exact⟨_,Z,hi,hg,by simp only;omega,λ e=>absurd e hne,λ _=>Z,he⟩
   ·split
    ·rename_i hc;exact hhit hi hg (by omega) hc
    ·have hl:=hg.left;obtain⟨q,hq,hk,hks⟩:=new_ok (path:=path) hv (zby hv hp n) hi (by have:=h.left;have:=hi.left;omega) hs (zbx (t:=t) hi hp s);exact⟨q,hq,hk.inv,hg.trans hk.grow,by omega,hk.good,hk.bad,hk.ends⟩
theorem idxOf_cases{α:Type}(p:α->Bool)(l:List α):(xm p l=-1/\∀ x∈l,p x=false)\/∃ (k:Nat) (x:α),xm p l=(k:Int)/\l[k]?=some x/\p x=true:=by
 cases h:cmpI .geq (xm p l) 0 with
 |true=>obtain⟨x,h1,h2,h3⟩:=zcX h;exact .inr ⟨(xm p l).toNat,x,(Int.toNat_of_nonneg h3).symm,h1,h2⟩
 |false=>refine .inl ⟨?_,zbw h⟩;have hn:=zbw h;unfold xm;rw[List.findIdx?_eq_none_iff.2 hn]
theorem Yz(st:RSt)(s:Str):(cix st s=-1/\∀ m∈st.mods,hits s m=false)\/∃ (k:Nat) (m:GMod),cix st s=(k:Int)/\st.mods[k]?=some m/\m.name=s/\m.cached=true:=by
 rcases idxOf_cases (hits s) st.mods with h | ⟨k,m,h1,h2,h3⟩
 ·exact .inl h
 ·unfold hits at h3;simp only[Bool.and_eq_true,decide_eq_true_eq] at h3;exact .inr ⟨k,m,h1,h2,h3.1,h3.2⟩
theorem ZA(k:Nat):cmpI .geq (k:Int) 0=true:=by simp[cmpI]
theorem zcq(k:Nat):cmpI .lss (k:Int) 0=false:=by simp[cmpI]
theorem geq_m1:cmpI .geq (-1:Int) 0=false:=rfl
theorem lss_m1:cmpI .lss (-1:Int) 0=true:=rfl
def enc(s:Str):Nat:=match s.l with
 | [a]=>a.toNat
 | [a,b]=>a.toNat+256*b.toNat
 | [a,b,c]=>a.toNat+256*b.toNat+65536*c.toNat
 | _=>0
theorem Qy(h:zB s=true):(∃ a,s=⟨[a]⟩/\1<=a.toNat)\/(∃ a b,s=⟨[a,b]⟩/\1<=a.toNat/\1<=b.toNat)\/∃ a b c,s=⟨[a,b,c]⟩/\1<=a.toNat/\1<=b.toNat/\1<=c.toNat:=by
 have hl:∀ {b:UInt8},low b=true->1<=b.toNat:=λ{b} hb=>by
  unfold low at hb;simp[cmpB] at hb;have h1:=hb.1;rw[UInt8.le_iff_toNat_le] at h1;simp at h1;omega
 unfold zB inR at h;simp only[Bool.and_eq_true,List.all_eq_true] at h;obtain⟨h1,h2⟩:=h;cases s with
 | mk l=>
 match l,h1,h2 with
 | [],h1,_=>simp[cmpI] at h1
 | [a],_,h2=>exact .inl ⟨a,Z,hl (h2 a (by simp))⟩
 | [a,b],_,h2=>exact .inr (.inl ⟨a,b,Z,hl (h2 a (by simp)),hl (h2 b (by simp))⟩)
 | [a,b,c],_,h2=>exact .inr (.inr ⟨a,b,c,Z,hl (h2 a (by simp)),hl (h2 b (by simp)),hl (h2 c (by simp))⟩)
 | a::b::c::d::l,h1,_=>simp[cmpI] at h1;omega
theorem enc_inj{t:Str}(hs:zB s=true)(ht:zB t=true)(h:enc s=enc t):s=t:=by
 have lt:∀ a:UInt8,a.toNat<256:=λ a=>a.toNat_lt
 have inj:∀ {a b:UInt8},a.toNat=b.toNat->a=b:=λ h=>UInt8.toNat_inj.1 h
 rcases Qy hs with⟨a,rfl,h1⟩ | ⟨a,b,rfl,h1,h2⟩ | ⟨a,b,c,rfl,h1,h2,h3⟩ <;> rcases Qy ht with⟨x,rfl,k1⟩ | ⟨x,y,rfl,k1,k2⟩ | ⟨x,y,z,rfl,k1,k2,k3⟩ <;> simp only[enc] at h
 ·rw[inj (a:=a) (b:=x) (by omega)]
 ·have:=lt a;have:=lt x;omega
 ·have:=lt a;have:=lt x;have:=lt y;omega
 ·have:=lt a;have:=lt x;omega
 ·have:=lt a;have:=lt x;rw[inj (a:=a) (b:=x) (by omega),inj (a:=b) (b:=y) (by omega)]
 ·have:=lt a;have:=lt x;have:=lt b;have:=lt y;omega
 ·have:=lt a;have:=lt x;have:=lt b;omega
 ·have:=lt a;have:=lt x;have:=lt b;have:=lt y;omega
 ·have:=lt a;have:=lt x;have:=lt b;have:=lt y;rw[inj (a:=a) (b:=x) (by omega),inj (a:=b) (b:=y) (by omega),inj (a:=c) (b:=z) (by omega)]
theorem enc_lt(s:Str):enc s<16777216:=by
 unfold enc;have lt:∀ a:UInt8,a.toNat<256:=λ a=>a.toNat_lt
 split
 ·rename_i a _;have:=lt a;omega
 ·rename_i a b _;have:=lt a;have:=lt b;omega
 ·rename_i a b c _;have:=lt a;have:=lt b;have:=lt c;omega
 ·omega
theorem attrs_few(h1:∀ a∈l,zB a.name=true)(h2:(l.map (·.name)).Nodup):l.length<=16777216:=by
 have h3:((l.map (·.name)).map enc).Nodup:=by
  unfold List.Nodup;rw[List.pairwise_map];refine List.Pairwise.imp_of_mem (λ{a b} ha hb hne e=>hne (enc_inj ?_ ?_ e)) h2
  ·obtain⟨x,hx,rfl⟩:=List.mem_map.1 ha;exact h1 x hx
  ·obtain⟨x,hx,rfl⟩:=List.mem_map.1 hb;exact h1 x hx
 have h4:=nodupLen (m:=List.range 16777216) h3 (λ x hx=>by
  obtain⟨y,_,rfl⟩:=List.mem_map.1 hx;exact List.mem_range.2 (enc_lt y))
 simpa using h4
variable(t:Tree)(path:List Int)
def bxs(l:List GMod):List (Bx GMod):=l.map λ m=>⟨m⟩
def mach(st:RSt):Machine:=⟨t,path,⟨⟩,⟨yK⟩,bxs st.mods,st.out,st.log,st.part,st.left⟩
variable{t path}
theorem bxs_get(l:List GMod)(k:Nat):(bxs l)[k]?=(l[k]?).map λ m=>⟨m⟩:=List.getElem?_map ..
theorem bxs_len(l:List GMod):(bxs l).length=l.length:=List.length_map ..
theorem zcr(l:List GMod)(k:Nat)(m:GMod):(bxs l).set k ⟨m⟩=bxs (l.set k m):=(List.map_set).symm
theorem bxs_app(l:List GMod)(m:GMod):bxs l++[⟨m⟩]=bxs (l++[m]):=by unfold bxs;rw[List.map_append];rfl
theorem bxs_idx(l:List GMod)(s:Str):xm (λ x:Bx GMod=>hits s x.x) (bxs l)=xm (hits s) l:=by
 unfold xm bxs;rw[List.findIdx?_map];rfl
theorem WR(h:st.mods.length<=1048576)(s:Str):zZ (mach t path st) s=some (cix st s):=by
 unfold zZ yU;have hl:zE (λ s4=>zQ (bxs st.mods) (λ a0=>yN a0 s) s4) 0=some (match (bxs st.mods).findIdx? (λ x=>hits s x.x) with | some i=>(Sum.inr (i:Int):Unit⊕Int) | none=>Sum.inl ()):=by
  refine Wo (bxs st.mods) (λ x=>hits s x.x) (λ i=>Sum.inr i) _ (λ k x hx hlt=>?_) ?_ (by rw[bxs_len];omega) Z
  ·unfold zQ;have hb:=bxs_len st.mods;rw[zC,Ke (decide_eq_true hlt),zH,hx,Kd];show Option.bind (yN x.x s) _=_;rw[show yN x.x s=some (hits s x.x) from congrArg some (Bool.and_comm ..),Kd,zG (by omega)];cases hits s x.x <;> rfl
  ·unfold zQ;rw[zC,Kf (by simp)]
 rw[show(mach t path st).modules=bxs st.mods from Z,hl,show cix st s=xm (λ x:Bx GMod=>hits s x.x) (bxs st.mods) from(bxs_idx ..).symm];unfold xm;cases List.findIdx? (λ x:Bx GMod=>hits s x.x) (bxs st.mods) <;> rfl
theorem zcs(h:st.log.length<=1048576)(k:Int)(s:Str):xj (mach t path st) k s=some (mach t path (st.note k s)):=by
 unfold xj;rw[yu (by show(st.log.length+1)*24<=_;omega) (by show st.log.length+1<=_;omega),Kd];rfl
theorem hit_eq(h:st.log.length<=1048576)(hp:st.part.length<=1048576)(hm:st.mods[k]?=some m):jP (mach t path st) (k:Int)=some (mach t path (st.hit k m.name),(k:Int)):=by
 have hb:(bxs st.mods)[k]?=some ⟨m⟩:=by rw[bxs_get,hm];rfl
 have hd:st.doneAt k=m.done:=by unfold RSt.doneAt;rw[hm];rfl
 unfold jP;rw[show(mach t path st).modules=bxs st.mods from Z,zH,hb,Kd,Int.toNat_natCast,hb,Kd,zcs h,Kd,
  show(mach t path (st.note 3 m.name)).modules=bxs st.mods from Z,hb,Kd,zY,Kd,show(mach t path (st.note 3 m.name)).part=st.part from Z]
 have hc:∀ x,yn st.part x=some (decide (x∈st.part)):=λ x=>ContainsS_eq hp
 rw[hc,zY,Kd];cases hdn:m.done with
 |true=>rw[hdn] at hd;rw[Kf (by simp),Kd];unfold RSt.hit;rw[Kf (by rw[hd];simp)];rfl
 |false=>
  rw[hdn] at hd;by_cases hi:m.name∈st.part
  ·rw[Kf (by simp[hi]),Kd];unfold RSt.hit;rw[Kf (by simp[hi])];rfl
  ·rw[Ke (by simp[hi]),Kd,yu (by show(st.part.length+1)*16<=_;omega) (by show st.part.length+1<=_;omega),Kd,Kd];unfold RSt.hit;rw[Ke ⟨hd,hi⟩];rfl
def val0(l:List GAttr)(j:Int):GVal:=((l[j.toNat]?).map (·.value)).getD ⟨0,0⟩
theorem loop_idxc{α β γ:Type}{c:γ}{step:γ×Int->Option ((γ×Int)⊕β)}(xs:List α)(p:α->Bool)(f:Int->β)(e:β)
  (h:∀ k x,xs[k]?=some x->k<xs.length->step (c,(k:Int))=some (if p x=true then .inr (f k) else .inl (c,((k+1:Nat):Int))))
  (hend:step (c,(xs.length:Int))=some (.inr e)) (hlen:xs.length<576460752303423488):zE step (c,(0:Int))=some (match xs.findIdx? p with | some i=>f (i:Int) | none=>e):=by
 have key:=zcf (σ:=Unit) (step:=step) xs (λ _ k=>(c,(k:Int))) (λ k _ x=>match (if p x=true then some (f k) else none) with | none=>.inl () | some b=>.inr b) (λ _=>e) (λ _ _=>True) (λ k _ x hx hlt _=>by
  have:=h k x hx hlt;cases hp:p x with
  | true=>rw[hp] at this;exact this
  | false=>rw[hp] at this;exact⟨this,trivial⟩) (λ _ _=>hend) (s0:=()) trivial hlen
 refine key.trans ((congrArg some (runL_idx p f e 0 xs)).trans ?_);cases xs.findIdx? p <;> simp
theorem attr_eq(h:m.attrs.length<=16777216)(s:Str):xP m s=some (match (m.attrs.findIdx? (λ a=>decide (a.name=s))) with | some i=>(val0 m.attrs (i:Int),true) | none=>(⟨0,0⟩,false)):=by
 unfold xP;have hl:zE (λ s6=>xG m s s6) (zGVal,(0:Int))=some (match m.attrs.findIdx? (λ a=>decide (a.name=s)) with | some i=>(Sum.inr (val0 m.attrs (i:Int),true):GVal⊕(GVal×Bool)) | none=>Sum.inl zGVal):=by
  refine loop_idxc m.attrs (λ a=>decide (a.name=s)) (λ j=>Sum.inr (val0 m.attrs j,true)) (Sum.inl zGVal) (λ k x hx hlt=>?_) ?_ (by omega)
  ·unfold xG;rw[show((zGVal,(k:Int)):GVal×Int).2=(k:Int) from Z,zC,Ke (decide_eq_true hlt),zH,hx,Kd,zG (by omega),Kd,show val0 m.attrs (k:Int)=x.value by unfold val0;rw[Int.toNat_natCast,hx];rfl];cases decide (x.name=s) <;> rfl
  ·unfold xG;rw[show((zGVal,(m.attrs.length:Int)):GVal×Int).2=(m.attrs.length:Int) from Z,zC,Kf (by simp)]
 rw[hl];cases m.attrs.findIdx? (λ a=>decide (a.name=s)) <;> rfl
theorem Qc(l:List GAttr)(s:Str):(aix l s=-1/\l.findIdx? (λ a=>decide (a.name=s))=none)\/∃ (k:Nat) (a:GAttr),aix l s=(k:Int)/\l.findIdx? (λ a=>decide (a.name=s))=some k/\l[k]?=some a/\a.name=s:=by
 unfold aix xm;cases h:l.findIdx? (λ a=>decide (a.name=s)) with
 | none=>exact .inl ⟨Z,Z⟩
 |some k=>obtain⟨h1,h2,_⟩:=List.findIdx?_eq_some_iff_getElem.1 h;exact .inr ⟨k,l[k],Z,Z,List.getElem?_eq_getElem h1,by simpa using h2⟩
theorem attr_eq'(h:m.attrs.length<=16777216)(s:Str):xP m s=some (if cmpI .geq (aix m.attrs s) 0=true then(val0 m.attrs (aix m.attrs s),true) else(⟨0,0⟩,false)):=by
 rw[attr_eq h];rcases Qc m.attrs s with⟨h1,h2⟩ | ⟨k,a,h1,h2,_⟩
 ·rw[h1,h2];rfl
 ·rw[h1,h2,Ke (ZA k)]
theorem give_eq(h:m.attrs.length<=16777216)(s:Str)(v:GVal):yv m s v=some { m with attrs:=Zz m.attrs s v }:=by
 unfold yv;have hl:zE (λ s6=>xH m s v s6) (m,(0:Int))=some (match m.attrs.findIdx? (λ a=>decide (a.name=s)) with | some i=>(Sum.inr { m with attrs:=updA m.attrs (i:Int).toNat (λ a=>{ a with value:=v }) }:GMod⊕GMod) | none=>Sum.inl m):=by
  refine loop_idxc m.attrs (λ a=>decide (a.name=s)) (λ j=>Sum.inr { m with attrs:=updA m.attrs j.toNat (λ a=>{ a with value:=v }) }) (Sum.inl m) (λ k x hx hlt=>?_) ?_ (by omega)
  ·unfold xH;rw[show((m,(k:Int)):GMod×Int).2=(k:Int) from Z,show((m,(k:Int)):GMod×Int).1=m from Z,zC,Ke (decide_eq_true hlt),zH,hx,Kd,Kd,zG (by omega),Kd,Int.toNat_natCast,WK _ hx];cases decide (x.name=s) <;> rfl
  ·unfold xH;rw[show((m,(m.attrs.length:Int)):GMod×Int).2=(m.attrs.length:Int) from Z,zC,Kf (by simp)]
 rw[hl];unfold Zz;rcases Qc m.attrs s with⟨h1,h2⟩ | ⟨k,a,h1,h2,_⟩
 ·rw[h2,h1,Kf (by decide)];show Option.bind (appO 32 m.attrs [⟨s,v⟩]) _=_;rw[yu (by show(m.attrs.length+1)*32<=_;omega) (by show m.attrs.length+1<=_;omega),Kd]
 ·rw[h2,h1,Ke (ZA k),Int.toNat_natCast];rfl
theorem packOf_eq(h:zj m.name=true):xX m=some (if m.kind=1 then zN m.name else m.name):=by
 unfold xX;by_cases hk:m.kind=1
 ·rw[Ke (by simp[cmpI,hk]),Ke hk,Jw h];rfl
 ·rw[Kf (by simp[cmpI,hk]),Kf hk]
theorem CutF_eq(hs:s.l.length<=4611686018427387904):∃ a b,YL s ⟨[46]⟩=some (ZZ s,a,b):=by
 have hge:=Lib.indexByte_ge s.l 46;have hf:ZZ s=((zx s dot)[0]?).getD emptyS:=by unfold ZZ;cases zx s dot <;> rfl
 rw[hf];unfold YL we;rw[show yX s ⟨[46]⟩=some (Lib.indexByte s.l 46) from Z,Kd,jt];cases hc:cmpI .geq (Lib.indexByte s.l 46) 0 with
 |false=>
  rw[Kf (by decide),Kd];have h0:Lib.indexByte s.l 46<0:=by have:=of_decide_eq_false hc;omega
  have h1:cutF dot s.l=[s.l]:=X8 46 s.l h0;rw[h1];exact⟨_,_,Z⟩
 |true=>
  have h0:0<=Lib.indexByte s.l 46:=oD hc;obtain⟨h1,h2⟩:=X9 46 s.l h0;obtain⟨n,hn⟩:∃ n:Nat,Lib.indexByte s.l 46=n:=⟨_,(Int.toNat_of_nonneg h0).symm⟩;rw[hn] at h1 h2 ⊢;have h3:cutF dot s.l=s.l.take n::cutF 46 (s.l.drop (n+1)):=h2;have hl:n+1<=s.l.length:=by omega
  rw[Ke Z,zaG (by omega),Kd,show((n:Int)+((⟨[46]⟩:Str).l.length:Int))=((n:Int)+1) from Z,js (by omega) (by omega),Kd,show((n:Int)+1)=((n+1:Nat):Int) from Z,zaH hl,Kd,Kd,h3];exact⟨_,_,Z⟩
structure Small(st:RSt):Prop where
 mods:st.mods.length<=1048576
 log:st.log.length<=1048576
 out:st.out.length<=1048576
 part:st.part.length<=1048576
theorem RSt.small{n:Nat}(h:st.size<=n)(hn:n<=1048576:=by decide):Small st:=by
 unfold RSt.size at h;exact⟨by omega,by omega,by omega,by omega⟩
theorem Inv.few(h:Inv st)(hm:m∈st.mods):m.attrs.length<=16777216:=attrs_few (h.parts m hm) (h.apart m hm)
theorem Inv.at_(h:Inv st)(hm:st.mods[k]?=some m):m∈st.mods/\zj m.name=true/\m.attrs.length<=16777216/\m.roots.length<=1048576:=
 have hi:=List.mem_of_getElem? hm
 ⟨hi,h.names m hi,h.few hi,h.roots m hi⟩
theorem ZW(h:zj s=true):zi s=true:=by unfold zi;rw[h,Bool.or_true]
theorem WS(hm:st.mods[k]?=some m):st.kindAt k=m.kind:=by unfold RSt.kindAt;rw[hm];rfl
theorem zdY(hm:st.mods[k]?=some m):st.rootsAt k=m.roots:=by unfold RSt.rootsAt;rw[hm];rfl
theorem X0(hm:st.mods[k]?=some m):st.attrsAt k=m.attrs:=by unfold RSt.attrsAt;rw[hm];rfl
theorem zaK(hm:st.mods[k]?=some m):st.nameAt k=m.name:=by unfold RSt.nameAt;rw[hm];rfl
theorem set_give(hm:st.mods[k]?=some m)(s:Str)(v:GVal):st.mods.set k { m with attrs:=Zz m.attrs s v }=(st.give k s v).mods:=(WK (λ m:GMod=>{ m with attrs:=Zz m.attrs s v }) hm).symm
theorem mach_give(hm:st.mods[k]?=some m)(s:Str)(v:GVal):({ mach t path st with modules:=(bxs st.mods).set k ⟨{ m with attrs:=Zz m.attrs s v }⟩ }:Machine)=mach t path (st.give k s v):=by
 rw[zcr,set_give hm];rfl
theorem look_eq(ht:Good t)(hp:path.length<=1048576)(h:Inv st)(hs:Small st)(hv:zj s=true):xw (mach t path st) s=some (mach t path st,WC t path st s):=by
 have hn:=name_of hv;unfold xw WC;rw[Jw hv,Kd];by_cases he:zN s=emptyS
 ·have hl:jh s=s:=by
   rw[he] at hn;unfold child at hn;rw[Ke Z] at hn;exact hn.symm
  rw[Ke (decide_eq_true (show zN s=(⟨[]⟩:Str) from he)),Ke he,show(mach t path st).t=t from Z,show(mach t path st).path=path from Z,
   find_eq ht hp (p:=(⟨[]⟩:Str)) (by rfl) (by rw[← hl];exact Qw hv) (show zj (child emptyS s)=true by unfold child;rw[Ke Z];exact hv),Kd]
  rfl
 ·have he':¬ zN s=(⟨[]⟩:Str):=he;rw[Kf (by simp[he']),Kf he,WR hs.mods,Kd];rcases Yz st (zN s) with⟨h1,_⟩ | ⟨k,m,h1,h2,h3,_⟩
  ·rw[h1,lss_m1];rw[show((true == false):Bool)=false from Z,Wn,Kd,Wn,Kd,Ke (by simp),Ke Z];rfl
  ·have hb:(bxs st.mods)[k]?=some ⟨m⟩:=by rw[bxs_get,h2];rfl
   rw[h1,zcq,show((false == false):Bool)=true from Z,qt,qt,show(mach t path st).modules=bxs st.mods from Z,zH,hb,Kd,Int.toNat_natCast,hb,Kd,Bool.false_or,Kf (by decide:¬ (false=true)),WS h2,zdY h2];by_cases hk:m.kind=1
   ·rw[Ke (by simp[cmpI,hk]),Ke hk];rfl
   ·rw[Kf (by simp[cmpI,hk]),Kf hk,Kd,Kd,LastOf_eq hv,Kd];have hpp:=(XB hv he).2;rw[show(mach t path st).t=t from Z,find_eq ht (h.at_ h2).2.2.2 (ZW hpp) (Qw hv) (by rw[← hn];exact hv),Kd]
variable{n:Nat}
def zax(t:Tree)(path:List Int)(n:Nat)(R:Rec)(I:RImp):Prop:=
 ∀ (st:RSt) (s:Str) (r:RSt×Int×Int),Inv st->zj s=true->4*st.left.toNat+(zx s dot).length<=n->st.size<=20000->I st s=some r->R.impl_machine_load1 (mach t path st) s=some (mach t path r.1,r.2.1,r.2.2)
theorem QO(h:¬ e=0):cmpI .neq e 0=true:=by simp[cmpI,h]
theorem jg(h:a=b):cmpI .eql a b=true:=by simp[cmpI,h]
theorem xR(h:¬ a=b):cmpI .eql a b=false:=by simp[cmpI,h]
theorem Zr{l:List GMod}(h:l[k]?=some m):(bxs l)[k]?=some ⟨m⟩:=by rw[bxs_get,h];rfl
theorem Grow.at_{a b:RSt}(h:Grow a b)(hm:a.mods[k]?=some m):∃ m',b.mods[k]?=some m':=let⟨m',h1,_⟩:=h.old k m hm;⟨m',h1⟩
theorem give_at(h:Inv st)(hm:st.mods[k]?=some m)(s:Str)(v:GVal){β:Type}(f:Machine->β):
  (((mach t path st).modules[k]?).bind λ v39=>(yv v39.x s v).bind λ v41=>some (f { mach t path st with modules:=(mach t path st).modules.set k ⟨v41⟩ }))=some (f (mach t path (st.give k s v))):=by
 rw[show(mach t path st).modules=bxs st.mods from Z,Zr hm,Kd,give_eq (h.at_ hm).2.2.1,Kd,mach_give hm]
theorem do_0(hI:Ym n I)(hL:zax t path n R I)(h:Inv st)(hn:4*st.left.toNat+3<=n)(hsz:st.size<=19950)(hk:st.mods[k]?=some m)(hx:zP x=true)(hkd:x.kind=0)(hr:Yl t path I st k x=some r):
  yE R (mach t path st) (k:Int) x=some (mach t path r.1,r.2):=by
 have hv:=Y8 hx (.inl hkd);have hpl:=jT hv;obtain⟨q,hq,hp⟩:=hI st x.module h hv (by omega);have hqs:=hp.size;unfold Yl at hr;rw[Ke hkd,hq,Kd] at hr;have hld:=hL st x.module q h hv (by omega) (by omega) hq;unfold yE;rw[show(mach t path st).modules=bxs st.mods from Z,zH,Zr hk,Kd,Ke (jg hkd),hld,Kd];by_cases he:q.2.2=0
 ·rw[Kf (by simp[he])] at hr;have hc:=CutF_eq (s:=x.module) (by have:=yF hv;omega);obtain⟨a,b,hc⟩:=hc;obtain⟨m',hm'⟩:=hp.grow.at_ hk;simp only;rw[he,Kf (by decide),hc,Kd,WR (RSt.small (n:=20000) (by omega) (hn:=(by omega))).mods,Kd];cases hcx:cmpI .lss (cix q.1 (ZZ x.module)) 0 with
  |true=>rw[Ke hcx] at hr;rw[Ke Z];injection hr with hr;subst hr;rfl
  |false=>rw[Kf (by simp[hcx])] at hr;injection hr with hr;subst hr;rw[Kf (by decide),Int.toNat_natCast];have:=give_at (t:=t) (path:=path) hp.inv hm' (ZZ x.module) ⟨1,cix q.1 (ZZ x.module)⟩ (λ mm=>(Sum.inl mm:Machine⊕(Machine×Int)));rw[this];rfl
 ·rw[Ke he] at hr;injection hr with hr;subst hr;simp only;rw[Ke (QO he)];rfl
theorem do_2loop(hk':∃ m,st.mods[k]?=some m)(l:List GAttr)(h:Inv st)(hl:∀ a∈l,zB a.name=true)(hb:l.length<=16777216):
  zE (λ s248=>yT R (k:Int) l s248) (mach t path st,(0:Int))=some (Sum.inl (mach t path (starF k l st))):=by
 obtain⟨m0,hm0⟩:=hk';have key:=zaI (step:=λ s248=>yT R (k:Int) l s248) l (λ(s:RSt) j=>(mach t path s,(j:Int))) (λ s a=>if(a.name.l.headD 0 == 122)=true then s else s.give k a.name a.value) (λ s=>(Sum.inl (mach t path s):Machine⊕(Machine×Int))) (λ _ s=>Inv s/\∃ m,s.mods[k]?=some m)
  (λ j s a ha hlt ⟨hi,m1,hm1⟩=>by
   have hva:=hl a (List.mem_of_getElem? ha);have hne:a.name.l[0]?=some (a.name.l.headD 0):=by
    rcases Qy hva with⟨c,e,_⟩ | ⟨c,d,e,_⟩ | ⟨c,d,e',e,_⟩ <;> rw[e] <;> rfl
   have hat:atI a.name.l (0:Int)=some (a.name.l.headD 0):=hne;have hgr:=Grow.give (st:=s) k a.name a.value;obtain⟨m2,hm2⟩:=hgr.at_ hm1;have hs:yT R (k:Int) l (mach t path s,(j:Int))=some (.inl (mach t path (if(a.name.l.headD 0 == 122)=true then s else s.give k a.name a.value),((j+1:Nat):Int))):=by
    unfold yT;simp only;rw[zC,Ke (decide_eq_true hlt),zH,ha,Kd,hat,Kd,zG (by omega),Int.toNat_natCast];cases hz:(a.name.l.headD 0 == 122) with
    |true=>rw[Kf (by simp[cmpB] at hz ⊢;exact hz),Ke Z];rfl
    |false=>have hg:=give_at (t:=t) (path:=path) hi hm1 a.name a.value (λ mm=>mm);rw[Ke (by simp[cmpB] at hz ⊢;exact hz),hg,Kf (by decide)];rfl
   refine⟨hs,?_⟩;split
   ·exact⟨hi,m1,hm1⟩
   ·exact⟨hi.give k _ hva,m2,hm2⟩)
  (λ s _=>by
   unfold yT;simp only;rw[zC,Kf (by simp)]) (s0:=st) ⟨h,m0,hm0⟩ (by omega)
 exact key
theorem do_2(hI:Ym n I)(hL:zax t path n R I)(h:Inv st)(hn:4*st.left.toNat+3<=n)(hsz:st.size<=19950)(hk:st.mods[k]?=some m)(hx:zP x=true)(hkd:x.kind=2)(hr:Yl t path I st k x=some r):
  yE R (mach t path st) (k:Int) x=some (mach t path r.1,r.2):=by
 have hv:=Y8 hx (.inr hkd);have hpl:=jT hv;obtain⟨q,hq,hp⟩:=hI st x.module h hv (by omega);have hqs:=hp.size;unfold Yl at hr;rw[Kf (by omega),Kf (by omega),Ke hkd,hq,Kd] at hr;have hld:=hL st x.module q h hv (by omega) (by omega) hq;unfold yE;rw[show(mach t path st).modules=bxs st.mods from Z,zH,Zr hk,Kd,Kf (by rw[xR (by omega)];decide),Kf (by rw[xR (by omega)];decide),Ke (jg hkd),hld,Kd];by_cases he:q.2.2=0
 ·rw[Kf (by simp[he])] at hr;obtain⟨m',hm'⟩:=hp.grow.at_ hk;obtain⟨m2,hm2,_,h0⟩:=hp.good he;have hi2:=hp.inv.at_ hm2;obtain⟨j,hj⟩:∃ j:Nat,q.2.1=j:=⟨_,(Int.toNat_of_nonneg h0).symm⟩;rw[hj,Int.toNat_natCast] at hm2;rw[hj,Int.toNat_natCast,X0 hm2] at hr;injection hr with hr;subst hr;simp only;rw[he,Kf (by decide),hj,show(mach t path q.1).modules=bxs q.1.mods from Z,zH,Zr hm2,Kd,Int.toNat_natCast,Zr hm2,Kd,
   yu (by simp;omega) (by simp;omega),Kd,List.nil_append,do_2loop ⟨m',hm'⟩ m2.attrs hp.inv (hp.inv.parts m2 hi2.1) hi2.2.2.1]
  rfl
 ·rw[Ke he] at hr;injection hr with hr;subst hr;simp only;rw[Ke (QO he)];rfl
theorem do_3(h:Inv st)(hsz:st.size<=19950)(hk:st.mods[k]?=some m)(hkd:x.kind≠0/\x.kind≠1/\x.kind≠2)(hr:Yl t path I st k x=some r):
  yE R (mach t path st) (k:Int) x=some (mach t path r.1,r.2):=by
 have hi:=h.at_ hk;unfold Yl at hr;rw[Kf hkd.1,Kf hkd.2.1,Kf hkd.2.2] at hr;unfold yE;rw[show(mach t path st).modules=bxs st.mods from Z,zH,Zr hk,Kd,Kf (by rw[xR hkd.1];decide),Kf (by rw[xR hkd.2.1];decide),Kf (by rw[xR hkd.2.2];decide),Int.toNat_natCast];by_cases h3:x.kind=3
 ·rw[Ke h3] at hr;injection hr with hr;subst hr;have:=give_at (t:=t) (path:=path) h hk x.name ⟨0,x.value⟩ (λ mm=>(Sum.inl mm:Machine⊕(Machine×Int)));rw[Ke (jg h3)];refine(congrArg (λ o=>Option.bind o _) this).trans ?_;rfl
 ·rw[Kf h3] at hr;rw[Kf (by rw[xR h3];decide)];by_cases h4:x.kind=4
  ·rw[Ke h4,X0 hk] at hr;rw[Ke (jg h4),Zr hk,Kd,attr_eq' hi.2.2.1,Kd];cases hg:cmpI .geq (aix m.attrs x.name) 0 with
   |false=>
    have hl:cmpI .lss (aix m.attrs x.name) 0=true:=by rw[lss_geq] at hg;simpa using hg
    rw[Ke hl] at hr;injection hr with hr;subst hr;rw[Kf (show ¬ (false=true) by decide)];rfl
   |true=>
    have hl:cmpI .lss (aix m.attrs x.name) 0=false:=by rw[lss_geq] at hg;simpa using hg
    rw[hl,Kf (by decide)] at hr;injection hr with hr;subst hr;have ho:st.out.length<=19950:=by unfold RSt.size at hsz;omega
    rw[Ke (show true=true from Z)];show Option.bind (if cmpI .eql (val0 m.attrs (aix m.attrs x.name)).kind 1=true then _ else _) _=some (mach t path { st with out:=st.out++[if(val0 m.attrs (aix m.attrs x.name)).kind=1 then -1 else(val0 m.attrs (aix m.attrs x.name)).num] },0);by_cases hz:(val0 m.attrs (aix m.attrs x.name)).kind=1
    ·rw[Ke (jg hz),Ke hz,yu (by show(st.out.length+1)*8<=_;omega) (by show st.out.length+1<=_;omega),Kd];rfl
    ·rw[Kf (by rw[xR hz];decide),Kf hz,yu (by show(st.out.length+1)*8<=_;omega) (by show st.out.length+1<=_;omega),Kd];rfl
  ·rw[Kf h4] at hr;rw[Kf (by rw[xR h4];decide)];by_cases h5:x.kind=5
   ·rw[Ke h5] at hr;injection hr with hr;subst hr;rw[Ke (jg h5)];rfl
   ·rw[Kf h5] at hr;injection hr with hr;subst hr;rw[Kf (by rw[xR h5];decide)];rfl
variable{n:Nat}
theorem childOk_eq(hp:zj p=true)(hs:zB s=true):Jt p s=if zj (child p s)=true then child p s else emptyS:=by
 unfold Jt;rw[ZW hp,hs];cases zj (child p s) <;> rfl
theorem valid_ne(h:zj s=true):¬ s=(⟨[]⟩:Str):=λ e=>by rw[e,show zj (⟨[]⟩:Str)=false from Z] at h;cases h
theorem part_len(h:zB s=true):s.l.length<=3:=by
 unfold zB inR at h;simp only[Bool.and_eq_true,cmpI,decide_eq_true_eq] at h;have:=h.1.2;omega
theorem value_eq(ht:Good t)(hp:path.length<=1048576)(hI:Ym n I)(hL:zax t path n R I)(h:Inv st)(hn:4*st.left.toNat+3<=n)(hsz:st.size<=20000)(hj:st.mods[j]?=some m)(hnm:zB nm=true)(hv:zaw t path I st j nm=some v):
  (if(!(if cmpI .geq (aix m.attrs nm) 0=true then(val0 m.attrs (aix m.attrs nm),true) else((⟨0,0⟩:GVal),false)).2)=true then((wX m.name nm).bind λ v171=>
(atI (mach t path st).modules (j:Int)).bind λ _v175=>
((mach t path st).modules[(j:Int).toNat]?).bind λ v177=>
(gO ((cmpI .eql v177.x.kind (1:Int)||decide (v171=(⟨[]⟩:Str))) == false) (zZ (mach t path st) v171)).bind λ v178=>
(gO (((cmpI .eql v177.x.kind (1:Int)||decide (v171=(⟨[]⟩:Str))) == false)&&(cmpI .lss v178 (0:Int) == true)) (xw (mach t path st) v171)).bind λ v184=>
if((cmpI .eql v177.x.kind (1:Int)||decide (v171=(⟨[]⟩:Str)))||(cmpI .lss v178 (0:Int)&&cmpI .eql v184.2.kind (0:Int)))=true then(some (.inr (.inr ((if(((cmpI .eql v177.x.kind (1:Int)||decide (v171=(⟨[]⟩:Str))) == false)&&(cmpI .lss v178 (0:Int) == true))=true then v184.1 else(mach t path st)),(2:Int)))))
else((R.impl_machine_load1 (if(((cmpI .eql v177.x.kind (1:Int)||decide (v171=(⟨[]⟩:Str))) == false)&&(cmpI .lss v178 (0:Int) == true))=true then v184.1 else(mach t path st)) v171).bind λ v196=>
if(cmpI .neq v196.2.2 (0:Int))=true then(some (.inr (.inr (v196.1,v196.2.2))))
else(some (.inl (v196.1,(⟨(1:Int),v196.2.1⟩:GVal))))))
else(some (.inl ((mach t path st),(if cmpI .geq (aix m.attrs nm) 0=true then(val0 m.attrs (aix m.attrs nm),true) else((⟨0,0⟩:GVal),false)).1))):Option ((Machine×GVal)⊕(Machine⊕(Machine×Int))))=some (if v.2.2=0 then .inl (mach t path v.1,v.2.1) else .inr (.inr (mach t path v.1,v.2.2))):=by
 have hi:=h.at_ hj;have hnl:=yF hi.2.1;have hnp:=part_len hnm;unfold zaw at hv;rw[X0 hj,WS hj,zaK hj] at hv;cases hg:cmpI .geq (aix m.attrs nm) 0 with
 |true=>rw[Ke hg] at hv;injection hv with hv;subst hv;rfl
 |false=>
  rw[hg,Kf (show ¬ (false=true) by decide)] at hv;rw[Kf (show ¬ (false=true) by decide),Ke (show(!false)=true from Z),zbs (by omega),Kd,childOk_eq hi.2.1 hnm,show(mach t path st).modules=bxs st.mods from Z,zH,Zr hj,Kd,Int.toNat_natCast,Zr hj,Kd];by_cases hc:m.kind=1\/zj (child m.name nm)=false
  ·rw[Ke hc] at hv;injection hv with hv;subst hv;have hd:(cmpI .eql m.kind (1:Int)||decide ((if zj (child m.name nm)=true then child m.name nm else emptyS)=(⟨[]⟩:Str)))=true:=by
    rcases hc with hc | hc
    ·rw[jg hc];rfl
    ·rw[hc,Bool.or_eq_true];exact .inr Z
   simp only;rw[hd,show(true == false)=false from Z,Wn,Kd,Bool.false_and,Wn,Kd,Bool.true_or,Ke (show true=true from Z),Kf (show ¬ (false=true) by decide)];rfl
  ·rw[Kf hc] at hv;have hk1:¬ m.kind=1:=λ e=>hc (.inl e)
   have hvc:zj (child m.name nm)=true:=by cases e:zj (child m.name nm) with | true=>rfl | false=>exact absurd (.inr e) hc
   have hpl:=jT hvc;rw[Ke hvc];have hd:(cmpI .eql m.kind (1:Int)||decide (child m.name nm=(⟨[]⟩:Str)))=false:=by rw[xR hk1,decide_eq_false (valid_ne hvc)];rfl
   obtain⟨q,hq,hqp⟩:=hI st _ h hvc (by omega);have hld:=hL st _ q h hvc (by omega) hsz hq;have sm:=RSt.small hsz;have fin:(R.impl_machine_load1 (mach t path st) (child m.name nm)).bind (λ v196=>if(cmpI .neq v196.2.2 (0:Int))=true then(some (.inr (.inr (v196.1,v196.2.2)))) else(some (.inl (v196.1,(⟨(1:Int),v196.2.1⟩:GVal)))))=some ((if q.2.2=0 then .inl (mach t path q.1,⟨1,q.2.1⟩) else .inr (.inr (mach t path q.1,q.2.2))):(Machine×GVal)⊕(Machine⊕(Machine×Int))):=by
    rw[hld,Kd];by_cases he:q.2.2=0
    ·simp only;rw[he,Kf (by decide),Ke Z]
    ·simp only;rw[Ke (QO he),Kf he]
   simp only;rw[hd,show(false == false)=true from Z,qt,WR sm.mods,Kd,Bool.true_and];simp only[Bool.false_or];cases hl:cmpI .lss (cix st (child m.name nm)) 0 with
   |true=>
    rw[show(true == true)=true from Z,qt,look_eq ht hp h sm hvc,Kd,Bool.true_and];simp only[if_true];by_cases hz:(WC t path st (child m.name nm)).kind=0
    ·rw[Ke ⟨hl,hz⟩] at hv;injection hv with hv;subst hv;rw[Ke (jg hz)];rfl
    ·rw[Kf (λ e=>hz e.2),hq,Kd] at hv;injection hv with hv;subst hv;rw[Kf (by rw[xR hz];decide)];exact fin
   |false=>rw[Kf (λ e=>by rw[hl] at e;exact absurd e.1 (by decide)),hq,Kd] at hv;injection hv with hv;subst hv;rw[show(false == true)=false from Z,Wn,Kd,Bool.false_and,Kf (show ¬ (false=true) by decide),Kf (show ¬ (false=true) by decide)];exact fin
theorem do_1(ht:Good t)(hp:path.length<=1048576)(hI:Ym n I)(hL:zax t path n R I)(h:Inv st)(hn:4*st.left.toNat+3<=n)(hsz:st.size<=19950)(hk:st.mods[k]?=some m)(hx:zP x=true)(hkd:x.kind=1)(hr:Yl t path I st k x=some r):
  yE R (mach t path st) (k:Int) x=some (mach t path r.1,r.2):=by
 have hi:=h.at_ hk;have hsx:zi x.module=true/\0<=x.level/\x.level<=3:=by
  rcases YW hx with h1 | h1 | h1
  ·exact absurd h1.1 (by omega)
  ·exact⟨h1.2.1,h1.2.2.1,h1.2.2.2⟩
  ·exact absurd hkd h1.2.1
 have hnm:=Qa hx (.inl hkd);unfold Yl at hr;have hpk:Qv st k=if m.kind=1 then zN m.name else m.name:=by unfold Qv;rw[WS hk,zaK hk]
 rw[Kf (by omega),Ke hkd,hpk] at hr;have hpv:zi (if m.kind=1 then zN m.name else m.name)=true:=by
  split
  ·exact Jg (ZW hi.2.1)
  ·exact ZW hi.2.1
 unfold yE;rw[show(mach t path st).modules=bxs st.mods from Z,zH,Zr hk,Kd,Kf (by rw[xR (by omega)];decide),Ke (jg hkd),Int.toNat_natCast,Zr hk,Kd,packOf_eq hi.2.1,Kd,zdX hpv hsx.1 hsx.2.1 hsx.2.2,Kd];generalize Yk (if m.kind=1 then zN m.name else m.name) x.level x.module=s1 at*;unfold orE;cases hv:zj s1 with
 |false=>rw[Ke hv] at hr;injection hr with hr;subst hr;rw[Kf (show ¬ (false=true) by decide),Ke (show decide (emptyS=(⟨[]⟩:Str))=true from Z)];rfl
 |true=>
  rw[Kf (by rw[hv];decide)] at hr;have hpl:=jT hv;obtain⟨q,hq,hqp⟩:=hI st s1 h hv (by omega);have hqs:=hqp.size;have hld:=hL st s1 q h hv (by omega) (by omega) hq;rw[hq,Kd] at hr;rw[Ke (show true=true from Z),Kf (by rw[decide_eq_false (valid_ne hv)];decide),hld,Kd];by_cases he:q.2.2=0
  ·rw[Kf (by simp[he])] at hr;obtain⟨m',hm'⟩:=hqp.grow.at_ hk;obtain⟨m2,hm2,hmn,h0⟩:=hqp.good he;have hi2:=hqp.inv.at_ hm2;have hlq:=hqp.grow.left;obtain⟨j,hj⟩:∃ j:Nat,q.2.1=j:=⟨_,(Int.toNat_of_nonneg h0).symm⟩;rw[hj,Int.toNat_natCast] at hm2;rw[hj,Int.toNat_natCast] at hr;have hn':4*q.1.left.toNat+3<=n:=by have:=h.left;have:=hqp.inv.left;omega
   obtain⟨v,hve,hvb⟩:=value_ok (t:=t) (path:=path) hI hqp.inv hn' j x.name hnm;have hval:=value_eq ht hp hI hL hqp.inv hn' (by omega) hm2 hnm hve;rw[hmn] at hval;rw[hve,Kd] at hr;obtain⟨m3,hm3⟩:=hvb.grow.at_ hm';simp only;rw[he,Kf (by decide),hj,show(mach t path q.1).modules=bxs q.1.mods from Z,zH,Zr hm2,Kd,Int.toNat_natCast,Zr hm2,Kd,attr_eq' hi2.2.2.1,Kd,Kd];rw[show(mach t path q.1).modules=bxs q.1.mods from Z,zH,Int.toNat_natCast,Zr hm2] at hval;dsimp only at hval ⊢;rw[hval];by_cases hz:v.2.2=0
   ·rw[Ke hz];rw[Kf (by simp[hz])] at hr;injection hr with hr;subst hr;have:=give_at (t:=t) (path:=path) hvb.inv hm3 x.name v.2.1 (λ mm=>(Sum.inl mm:Machine⊕(Machine×Int)));simp only[Kd,Sum.elim_inl];refine(congrArg (λ o=>Option.bind o _) this).trans ?_;rfl
   ·rw[Kf hz];rw[Ke hz] at hr;injection hr with hr;subst hr;rfl
  ·rw[Ke he] at hr;injection hr with hr;subst hr;simp only;rw[Ke (QO he)];rfl
theorem do_eq(ht:Good t)(hp:path.length<=1048576)(hI:Ym n I)(hL:zax t path n R I)(h:Inv st)(hn:4*st.left.toNat+3<=n)(hsz:st.size<=19950)(hk:st.mods[k]?=some m)(hx:zP x=true)(hr:Yl t path I st k x=some r):
  yE R (mach t path st) (k:Int) x=some (mach t path r.1,r.2):=by
 by_cases h0:x.kind=0
 ·exact do_0 hI hL h hn hsz hk hx h0 hr
 ·by_cases h1:x.kind=1
  ·exact do_1 ht hp hI hL h hn hsz hk hx h1 hr
  ·by_cases h2:x.kind=2
   ·exact do_2 hI hL h hn hsz hk hx h2 hr
   ·exact do_3 h hsz hk ⟨h0,h1,h2⟩ hr
variable{n:Nat}
def DoEq(t:Tree)(path:List Int)(n:Nat)(R:Rec)(I:RImp):Prop:=
 ∀ (st:RSt) (k:Nat) (m:GMod) (x:Stmt) (r:RSt×Int),Inv st->st.mods[k]?=some m->zP x=true->4*st.left.toNat+3<=n->st.size<=19950->Yl t path I st k x=some r->R.impl_machine_do (mach t path st) (k:Int) x=some (mach t path r.1,r.2)
def RSt.tick(st:RSt):RSt:={ st with left:=st.left - 1 }
theorem Inv.tick(h:Inv st)(hz:¬ st.left=0):Inv st.tick:=⟨h.names,h.roots,h.parts,h.apart,by have:=h.left;show(0:Int)<=st.left - 1;omega⟩
theorem size_tick(h:Inv st)(hz:¬ st.left=0):st.tick.size+100=st.size:=by
 unfold RSt.size RSt.tick;have:=h.left;simp only;omega
theorem body_loop(hI:Ym n I)(hD:DoEq t path n R I)(k:Nat)(l:List Stmt)(hl:∀ x∈l,zP x=true)(hlen:l.length<1000000000):∀ (m i:Nat) (st:RSt) (r:RSt×Int),i+m=l.length->Inv st->(∃ mm,st.mods[k]?=some mm)->4*st.left.toNat<=n+1->st.left<=1000000->st.size<=20050->QN t path I k (l.drop i) st=some r->
  wy (λ s24=>yp R (k:Int) l s24) (m+1) (mach t path st,(0:Int),(i:Int))=some (mach t path r.1,r.2)
 |0,i,st,r,hi,_,_,_,_,_,hr=>by
  have:i=l.length:=by omega
  subst this;rw[List.drop_length] at hr;unfold QN at hr;injection hr with hr;subst hr;refine yq ?_;unfold yp;simp only;rw[zC,Kf (by simp)]
 |m+1,i,st,r,hi,h,⟨mm,hmm⟩,hn,hle,hsz,hr=>by
  have hlt:i<l.length:=by omega
  have hx:l[i]?=some l[i]:=List.getElem?_eq_getElem hlt;have hv:=hl l[i] (List.getElem_mem hlt);rw[List.drop_eq_getElem_cons hlt] at hr;unfold QN at hr;have hl0:=h.left;by_cases hz:st.left=0
  ·rw[Ke hz] at hr;injection hr with hr;subst hr;refine yq ?_;unfold yp;simp only;rw[zC,Ke (decide_eq_true hlt),zH,hx,Kd,show(mach t path st).left=st.left from Z,Ke (jg hz)]
  ·rw[Kf hz] at hr;have ht:=h.tick hz;have hts:=size_tick h hz;have htl:st.tick.left=st.left - 1:=rfl;obtain⟨q,hq,hb⟩:=stmt_ok (t:=t) (path:=path) hI ht (by rw[htl];omega) k hv;have hbs:=hb.size;have hbl:=hb.grow.left;have hbi:=hb.inv.left;obtain⟨m2,hm2⟩:=hb.grow.at_ (show st.tick.mods[k]?=some mm from hmm);have hd:=hD st.tick k mm l[i] q ht hmm hv (by rw[htl];omega) (by omega) hq;rw[show Yl t path I { st with left:=st.left - 1 } k l[i]=some q from hq,Kd] at hr;have hs:yp R (k:Int) l (mach t path st,(0:Int),(i:Int))=some (if q.2≠0 then .inr (mach t path q.1,q.2) else .inl (mach t path q.1,q.2,((i+1:Nat):Int))):=by
    unfold yp;simp only;rw[zC,Ke (decide_eq_true hlt),zH,hx,Kd,show(mach t path st).left=st.left from Z,Kf (by rw[xR hz];decide),js (by omega) (by omega),Kd,
     show({ mach t path st with left:=st.left - 1 }:Machine)=mach t path st.tick from Z,hd,Kd,zG (by omega),Kd]
    by_cases he:q.2=0
    ·simp only;rw[he,Kf (by decide),Kf (by simp)]
    ·simp only;rw[Ke (QO he),Ke he]
   by_cases he:q.2=0
   ·rw[Kf (by simp[he])] at hr;rw[Kf (by simp[he]),he] at hs;rw[x8 hs];exact body_loop hI hD k l hl hlen m (i+1) q.1 r (by omega) hb.inv ⟨m2,hm2⟩ (by rw[htl] at hbl;omega) (by rw[htl] at hbl;omega) (by omega) hr
   ·rw[Ke he] at hr;injection hr with hr;subst hr;rw[Ke he] at hs;exact yq hs
theorem zdZ(tf:List File)(roots:List Int)(p s:Str):(YY tf roots p s).file<tf.length:=zbL tf p s roots []
theorem look_file(s:Str):(WC t path st s).file<t.files.length:=by
 unfold WC;split
 ·exact zdZ ..
 ·split
  ·show(-1:Int)<_;omega
  ·split
   ·show(-1:Int)<_;omega
   ·exact zdZ ..
theorem body_eq(hv:zI t=true)(hI:Ym n I)(hD:DoEq t path n R I)(h:Inv st)(hn:4*st.left.toNat<=n+1)(hle:st.left<=1000000)(hsz:st.size<=20040)(hk:st.mods[k]?=some m){sp:Spec}(hf:sp.file<t.files.length)(hr:runF t path I (st.note 0 m.name) k sp=some r):
  qQ R (mach t path st) (k:Int) sp=some (mach t path (r.1.note (if r.2=0 then 1 else 2) m.name),r.2):=by
 have sm:=RSt.small hsz;have hi:Inv (st.note 0 m.name):=h.note _ _;have hnz:(st.note 0 m.name).size=st.size+1:=by unfold RSt.size RSt.note;simp only[List.length_append,List.length_cons,List.length_nil];omega
 obtain⟨q,hq,hb⟩:=run_ok (path:=path) hv hI hi (by exact hn) k sp;rw[hq] at hr;injection hr with hr;subst hr;have hqs:=hb.size;have smq:=RSt.small (st:=q.1) (n:=20050) (by omega);have hrun:(if(cmpI .geq sp.file (0:Int))=true then((atI t.files sp.file).bind λ v19=>(yK v19).bind λ v20=>zE (λ s24=>yp R (k:Int) v20 s24) (mach t path (st.note 0 m.name),(0:Int),(0:Int))) else(some (mach t path (st.note 0 m.name),(0:Int))))=some (mach t path q.1,q.2):=by
  unfold runF at hq;cases hg:cmpI .geq sp.file 0 with
  |false=>rw[hg,Kf (show ¬ (false=true) by decide)] at hq;injection hq with hq;subst hq;rw[Kf (show ¬ (false=true) by decide)]
  |true=>
   have h0:0<=sp.file:=oD hg;rw[hg,Ke (show true=true from Z)] at hq;have hbv:=Qx hv sp.file;have hbl:(JN t.files sp.file).body.length<=8:=by
    unfold JN;cases hfl:t.files[sp.file.toNat]? with
    | none=>exact Nat.zero_le _
    |some f=>have:=Jf hv (List.mem_of_getElem? hfl);unfold yc at this;simp only[Bool.and_eq_true,cmpI,decide_eq_true_eq] at this;show f.body.length<=8;omega
   rw[Ke (show true=true from Z),atI_file h0 hf,Kd,show yK ((t.files[sp.file.toNat]?).getD default)=some (JN t.files sp.file).body from Z,Kd];refine jk (m:=(JN t.files sp.file).body.length+1) (body_loop hI hD k _ hbv (by omega) _ 0 (st.note 0 m.name) q (by omega) hi ⟨m,hk⟩ hn hle (by omega) (by rw[List.drop_zero];exact hq)) (by omega)
 unfold qQ;rw[show(mach t path st).modules=bxs st.mods from Z,zH,Zr hk,Kd,Int.toNat_natCast,Zr hk,Kd,zcs sm.log,Kd];rw[show(mach t path (st.note 0 m.name)).t=t from Z,show(mach t path (st.note 0 m.name)).load.g=yK from Z,hrun,Kd];by_cases he:q.2=0
 ·simp only;rw[Ke (jg he),Ke he,zcs smq.log];rfl
 ·simp only;rw[Kf (by rw[xR he];decide),Kf he,zcs smq.log];rfl
theorem cix_empty(h:Inv st):cix st emptyS=-1:=by
 rcases Yz st emptyS with h1 | ⟨k,m,_,h2,h3,_⟩
 ·exact h1.1
 ·have:=h.names m (List.mem_of_getElem? h2);rw[h3] at this;cases this
theorem set_fail(hm:st.mods[k]?=some m)(s:Str):({ mach t path (st.note 2 s) with modules:=(bxs st.mods).set k ⟨{ m with cached:=false }⟩ }:Machine)=mach t path (st.fail k s):=by
 rw[zcr];unfold RSt.fail;rw[WK _ hm];rfl
theorem set_done(hm:st.mods[k]?=some m)(s:Str):({ mach t path (st.note 1 s) with modules:=(bxs st.mods).set k ⟨{ m with done:=true }⟩ }:Machine)=mach t path (st.done k s):=by
 rw[zcr];unfold RSt.done;rw[WK _ hm];rfl
variable{n:Nat}
def BodyEq(t:Tree)(path:List Int)(n:Nat)(R:Rec)(I:RImp):Prop:=
 ∀
  (st:RSt) (k:Nat) (m:GMod) (sp:Spec) (r:RSt×Int),Inv st->4*st.left.toNat<=n+1->st.left<=1000000->st.size<=20040->st.mods[k]?=some m->sp.file<t.files.length->runF t path I (st.note 0 m.name) k sp=some r->
  R.impl_machine_body (mach t path st) (k:Int) sp=some (mach t path (r.1.note (if r.2=0 then 1 else 2) m.name),r.2)
def RSt.grown(st:RSt)(s:Str)(sp:Spec):RSt:={ st with mods:=st.mods++[⟨s,sp.kind,sp.roots,true,false,[]⟩] }
theorem load_new(ht:Good t)(hp:path.length<=1048576)(hI:Ym n I)(hB:BodyEq t path n R I)(h:Inv st)(hn:4*st.left.toNat<=n+1)(hle:st.left<=1000000)(hsz:st.size<=20020)(hs:zj s=true){r:RSt×Int×Int}(hr:newF t path I st s (WC t path st s)=some r):
  ((xw (mach t path st) s).bind λ v48=>
if(cmpI .eql v48.2.kind (0:Int))=true then(some (v48.1,(-1:Int),(1:Int)))
else((appO 8 [] v48.2.roots).bind λ v63=>
(appO 8 v48.1.modules [⟨(⟨s,v48.2.kind,v63,true,false,[]⟩:GMod)⟩]).bind λ v84=>
(R.impl_machine_body ({ v48.1 with modules:=v84 }) (v48.1.modules.length:Int) v48.2).bind λ v93=>
if(cmpI .neq v93.2 (0:Int))=true then((v93.1.modules[v48.1.modules.length]?).bind λ v100=>
some ({ v93.1 with modules:=(v93.1.modules.set v48.1.modules.length ⟨{ v100.x with cached:=false }⟩) },(-1:Int),v93.2))
else((v93.1.modules[v48.1.modules.length]?).bind λ v106=>
Option.bind (α:=Machine) ((zZ ({ v93.1 with modules:=(v93.1.modules.set v48.1.modules.length ⟨{ v106.x with done:=true }⟩) }) (zN s)).bind λ v111=>
if(decide (zN s≠(⟨[]⟩:Str))&&cmpI .geq v111 (0:Int))=true then((atI (v93.1.modules.set v48.1.modules.length ⟨{ v106.x with done:=true }⟩) v111).bind λ _v118=>
(jv s).bind λ v120=>
((v93.1.modules.set v48.1.modules.length ⟨{ v106.x with done:=true }⟩)[v111.toNat]?).bind λ v125=>
(yv v125.x v120 (⟨(1:Int),(v48.1.modules.length:Int)⟩:GVal)).bind λ v127=>
some ({ v93.1 with modules:=((v93.1.modules.set v48.1.modules.length ⟨{ v106.x with done:=true }⟩).set v111.toNat ⟨v127⟩) }))
else(some ({ v93.1 with modules:=(v93.1.modules.set v48.1.modules.length ⟨{ v106.x with done:=true }⟩) }))) λ o110=>
some (o110,(v48.1.modules.length:Int),(0:Int)))))=some (mach t path r.1,r.2.1,r.2.2):=by
 have sm:=RSt.small hsz;have hlr:=zbx (t:=t) h hp s;have hlf:=look_file (t:=t) (path:=path) (st:=st) s;rw[look_eq ht hp h sm hs,Kd];unfold newF at hr;generalize WC t path st s=sp at*;by_cases hk:sp.kind=0
 ·rw[Ke hk] at hr;injection hr with hr;subst hr;rw[Ke (jg hk)]
 ·rw[Kf hk] at hr;have hgi:Inv (st.grown s sp):=⟨(h.begin (sp:=sp) hs hlr).names,(h.begin (sp:=sp) hs hlr).roots,(h.begin (sp:=sp) hs hlr).parts,(h.begin (sp:=sp) hs hlr).apart,h.left⟩;have hgz:(st.grown s sp).size=st.size+1:=by unfold RSt.size RSt.grown;simp only[List.length_append,List.length_cons,List.length_nil];omega
  have hgm:(st.grown s sp).mods[st.mods.length]?=some ⟨s,sp.kind,sp.roots,true,false,[]⟩:=by unfold RSt.grown;simp
  have hbz:(st.begin s sp).size=st.size+2:=by unfold RSt.size RSt.begin;simp only[List.length_append,List.length_cons,List.length_nil];omega
  obtain⟨q,hq,hb⟩:=run_ok (path:=path) ht.ok hI (h.begin (sp:=sp) hs hlr) (by exact hn) st.mods.length sp;have hqs:=hb.size;rw[hq,Kd] at hr;have hbody:=hB (st.grown s sp) st.mods.length _ sp q hgi (by exact hn) hle (by omega) hgm hlf hq;obtain⟨m,hm⟩:=hb.grow.at_ (show(st.begin s sp).mods[st.mods.length]?=some ⟨s,sp.kind,sp.roots,true,false,[]⟩ by unfold RSt.begin;simp);have hlen:(bxs st.mods).length=st.mods.length:=bxs_len _;rw[Kf (by rw[xR hk];decide),yu (by simp;omega) (by simp;omega),Kd,List.nil_append,show(mach t path st).modules=bxs st.mods from Z,yu (by rw[hlen];have:=sm.mods;show(st.mods.length+1)*8<=_;omega) (by rw[hlen];have:=sm.mods;show st.mods.length+1<=_;omega),Kd,bxs_app,hlen,
   show({ mach t path st with modules:=bxs (st.mods++[⟨s,sp.kind,sp.roots,true,false,[]⟩]) }:Machine)=mach t path (st.grown s sp) from Z,hbody,Kd]
  by_cases he:q.2=0
  ·rw[Kf (by simp[he])] at hr;injection hr with hr;subst hr;simp only;rw[he,Kf (by decide),Ke Z,show ∀ (z:RSt),(mach t path z).modules=bxs z.mods from λ _=>Z,show(q.1.note 1 s).mods=q.1.mods from Z,Zr hm,Kd];have hsd:=set_done (t:=t) (path:=path) hm s;have hmd:(bxs q.1.mods).set st.mods.length ⟨{ m with done:=true }⟩=bxs (q.1.done st.mods.length s).mods:=by
    rw[zcr];unfold RSt.done;rw[WK _ hm]
   have hid:=hb.inv.done st.mods.length s;have hdz:(q.1.done st.mods.length s).size=q.1.size+1:=by unfold RSt.size RSt.done;simp only[zav,List.length_append,List.length_cons,List.length_nil];omega
   rw[hmd,show({ mach t path (q.1.note 1 s) with modules:=bxs (q.1.done st.mods.length s).mods }:Machine)=mach t path (q.1.done st.mods.length s) by rw[← hmd];exact hsd];rw[WR (RSt.small (n:=20100) (by omega)).mods,Kd];have hfin:((if(decide (zN s≠(⟨[]⟩:Str))&&cmpI .geq (cix (q.1.done st.mods.length s) (zN s)) (0:Int))=true then((atI (bxs (q.1.done st.mods.length s).mods) (cix (q.1.done st.mods.length s) (zN s))).bind λ v118=>
     (jv s).bind λ v120=>
     ((bxs (q.1.done st.mods.length s).mods)[(cix (q.1.done st.mods.length s) (zN s)).toNat]?).bind λ v125=>
     (yv v125.x v120 (⟨(1:Int),(st.mods.length:Int)⟩:GVal)).bind λ v127=>
     some ({ mach t path (q.1.note 1 s) with modules:=((bxs (q.1.done st.mods.length s).mods).set (cix (q.1.done st.mods.length s) (zN s)).toNat ⟨v127⟩) }:Machine))
     else(some (mach t path (q.1.done st.mods.length s)))):Option Machine)=some (mach t path ((q.1.done st.mods.length s).tell st.mods.length s)):=by
    unfold RSt.tell;rcases Yz (q.1.done st.mods.length s) (zN s) with⟨h1,_⟩ | ⟨k,m2,h1,h2,h3,_⟩
    ·rw[h1,geq_m1,Bool.and_false,Kf (show ¬ (false=true) by decide),Kf (show ¬ (false=true) by decide)]
    ·have hne:¬ zN s=(⟨[]⟩:Str):=λ e=>by
      have:=cix_empty hid;rw[show emptyS=zN s from e.symm,h1] at this;omega
     rw[h1,ZA,decide_eq_true hne,Bool.true_and,Ke (show true=true from Z),Ke (show true=true from Z),zH,Zr h2,Kd,LastOf_eq hs,Kd,Int.toNat_natCast,Zr h2,Kd,give_eq (hid.at_ h2).2.2.1,Kd,zcr,set_give h2];rfl
   rw[hfin,Kd]
  ·rw[Ke he] at hr;injection hr with hr;subst hr;simp only;rw[Ke (QO he),Kf he,show ∀ (z:RSt),(mach t path z).modules=bxs z.mods from λ _=>Z,show(q.1.note 2 s).mods=q.1.mods from Z,Zr hm,Kd,set_fail hm s]
theorem load_eq(ht:Good t)(hp:path.length<=1048576)(hI:Ym n I)(hL:zax t path n R I)(hB:BodyEq t path n R I)(h:Inv st)(hs:zj s=true)(hn:4*st.left.toNat+(zx s dot).length<=n+1)(hle:st.left<=1000000)(hsz:st.size<=20000){r:RSt×Int×Int}(hr:impF t path I st s=some r):
  qj R (mach t path st) s=some (mach t path r.1,r.2.1,r.2.2):=by
 have sm:=RSt.small hsz;have hpp:=Y7 s;have hpl:=jT hs;unfold impF at hr;unfold qj;rw[WR sm.mods,Kd];rcases Yz st s with⟨h1,_⟩ | ⟨k,m,h1,h2,h3,_⟩
 ·rw[h1,Kf (by decide)] at hr;rw[h1,Kf (by decide),Jw hs,Kd];by_cases he:zN s=emptyS
  ·rw[Ke he,Kd,Kf (by simp)] at hr;simp only at hr;rw[h1,Kf (by decide)] at hr;rw[Kf (by rw[show zN s=(⟨[]⟩:Str) from he];decide),Kd,Sum.elim_inl];exact load_new ht hp hI hB h (by omega) hle (by omega) hs hr
  ·have he':¬ zN s=(⟨[]⟩:Str):=he;obtain⟨e1,e2⟩:=XB hs he;obtain⟨q,hq,hqp⟩:=hI st (zN s) h e2 (by omega);have hqs:=hqp.size;have hql:=hqp.grow.left;have hqi:=hqp.inv.left;have hl0:=h.left;have hld:=hL st (zN s) q h e2 (by omega) hsz hq;rw[Kf he,hq,Kd] at hr;rw[Ke (by rw[decide_eq_true he']),hld,Kd];by_cases hz:q.2.2=0
   ·rw[Kf (by simp[hz])] at hr;simp only;rw[hz,Kf (by decide),WR (RSt.small (n:=20100) (by omega)).mods,Kd];rcases Yz q.1 s with⟨k1,_⟩ | ⟨k,m,k1,k2,k3,_⟩
    ·rw[k1,Kf (by decide)] at hr;rw[k1,Kf (by decide),Kd,Sum.elim_inl];exact load_new ht hp hI hB hqp.inv (by omega) (by omega) (by omega) hs hr
    ·have smq:=RSt.small (st:=q.1) (n:=20100) (by omega);rw[k1,Ke (ZA k),Int.toNat_natCast] at hr;injection hr with hr;subst hr;rw[k1,Ke (ZA k),hit_eq smq.log smq.part k2,Kd,k3];rfl
   ·rw[Ke hz] at hr;injection hr with hr;subst hr;simp only;rw[Ke (QO hz)];rfl
 ·rw[h1,Ke (ZA k),Int.toNat_natCast] at hr;injection hr with hr;subst hr;rw[h1,Ke (ZA k),hit_eq sm.log sm.part h2,Kd,h3]
theorem left_of(h:Inv st){z:Nat}(hz:st.size<=z)(hh:z<=100000:=by decide):st.left<=1000000:=by
 unfold RSt.size at hz;have:=h.left;omega
theorem body_of(ht:Good t)(hp:path.length<=1048576)(hL:zax t path k (scc M) (imp t path k)):BodyEq t path k (scc (M+2)) (imp t path k):=
 have hI:=zby ht.ok hp k;have hD:DoEq t path k (scc (M+1)) (imp t path k):=λ _ _ _ _ _ h hm hx hn hsz hr=>do_eq ht hp hI hL h hn hsz hm hx hr
 λ _ _ _ _ _ h hn hle hsz hm hf hr=>body_eq ht.ok hI hD h hn hle hsz hm hf hr
theorem scc_load(ht:Good t)(hp:path.length<=1048576):∀ (k N:Nat),3*k<=N->zax t path k (scc N) (imp t path k)
 | 0,_,_=>λ _ _ _ _ _ _ _ hr=>by cases hr
 |k+1,N,hN=>λ st s r h hs hn hsz hr=>by
  obtain⟨M,rfl⟩:∃ M,N=M+3:=⟨N - 3,by omega⟩;exact load_eq ht hp (zby ht.ok hp k) (scc_load ht hp k (M+2) (by omega)) (body_of ht hp (scc_load ht hp k M (by omega))) h hs hn (left_of h hsz) hsz hr
variable(t:Tree)(path:List Int)
def rnr(d:Disk)(st:RSt)(e:Int):Runner:=⟨t,path,st.mods,st.log,st.out,e,st.left,⟨⟨false,d,jW,[],0⟩⟩⟩
variable{t path}{n:Nat}
theorem Wq(h:st.mods.length<=1048576)(e:Int)(s:Str):wg (rnr t path d st e) s=some (rnr t path d st e,cix st s):=by
 unfold wg;have hl:zE (λ s4=>j4 (rnr t path d st e) s s4) 0=some (match st.mods.findIdx? (hits s) with | some i=>(Sum.inr (rnr t path d st e,(i:Int)):Unit⊕(Runner×Int)) | none=>Sum.inl ()):=by
  refine Wo st.mods (hits s) (λ i=>Sum.inr (rnr t path d st e,i)) _ (λ k x hx hlt=>?_) ?_ (by omega) Z
  ·unfold j4;rw[show(rnr t path d st e).mods=st.mods from Z,zC,Ke (decide_eq_true hlt),zH,hx,Kd,zY,Kd,zG (by omega)];unfold hits;cases decide (x.name=s) with
   |true=>rw[Ke (show(true == true)=true from Z)];cases x.cached <;> rfl
   | false=>rfl
  ·unfold j4;rw[show(rnr t path d st e).mods=st.mods from Z,zC,Kf (by simp)]
 rw[hl];unfold cix xm;cases List.findIdx? (hits s) st.mods <;> rfl
theorem zct(h:st.log.length<=1048576)(e k:Int)(s:Str):wY (rnr t path d st e) k s=some (rnr t path d (st.note k s) e):=by
 unfold wY;rw[show(rnr t path d st e).log=st.log from Z,yu (by show(st.log.length+1)*24<=_;omega) (by show st.log.length+1<=_;omega),Kd];rfl
theorem zcY(h:l.length<=16777216)(s:Str):qA l s=some (aix l s):=by
 unfold qA;have hl:zE (λ s4=>jD l s s4) 0=some (match l.findIdx? (λ a=>decide (a.name=s)) with | some i=>(Sum.inr (i:Int):Unit⊕Int) | none=>Sum.inl ()):=by
  refine Wo l (λ a=>decide (a.name=s)) (λ i=>Sum.inr i) _ (λ k x hx hlt=>?_) ?_ (by omega) Z
  ·unfold jD;rw[zC,Ke (decide_eq_true hlt),zH,hx,Kd,zG (by omega),Kd];cases decide (x.name=s) <;> rfl
  ·unfold jD;rw[zC,Kf (by simp)]
 rw[hl];unfold aix xm;cases List.findIdx? (λ a:GAttr=>decide (a.name=s)) l <;> rfl
theorem Jh(h:Inv st)(hm:st.mods[k]?=some m)(e:Int)(s:Str)(v:GVal):wh (rnr t path d st e) (k:Int) s v=some (rnr t path d (st.give k s v) e):=by
 have hi:=h.at_ hm;unfold wh;rw[show(rnr t path d st e).mods=st.mods from Z,zH,hm,Kd,zcY hi.2.2.1,Kd,Kd,Int.toNat_natCast];have hg:rnr t path d (st.give k s v) e={ rnr t path d st e with mods:=st.mods.set k { m with attrs:=Zz m.attrs s v } }:=by rw[set_give hm];rfl
 rw[hg];unfold Zz;rcases Qc m.attrs s with⟨h1,_⟩ | ⟨j,a,h1,_,h3,_⟩
 ·rw[h1,geq_m1,Kf (show ¬ (false=true) by decide),Kf (show ¬ (false=true) by decide),Kd,yu (by show(m.attrs.length+1)*32<=_;omega) (by show m.attrs.length+1<=_;omega),Kd,Kd]
 ·rw[h1,ZA,Ke (show true=true from Z),Ke (show true=true from Z),zH,h3,Kd,Int.toNat_natCast,WK _ h3]
theorem spackageOf_eq(h:zj m.name=true):Zd m=some (if m.kind=1 then zN m.name else m.name):=by
 unfold Zd;by_cases hk:m.kind=1
 ·rw[Ke (by simp[cmpI,hk]),Ke hk,show xJ m.name=some (zN m.name) from Ke (wU h).mid];rfl
 ·rw[Kf (by simp[cmpI,hk]),Kf hk]
theorem zdd(e:Int)(hr:rs.length<=1048576)(hp:p.l.length+s.l.length<=100):ZE (rnr t path d st e) rs p s=some (rnr t path d st e,YY t.files rs p s):=by
 unfold ZE;rw[Ke (show(!(rnr t path d st e).warm.x.on)=true from Z),show YK (rnr t path d st e).t rs p s=some (YY t.files rs p s) from Ke ⟨by omega,by omega⟩,Kd]
theorem specIn_eq(hp:path.length<=1048576)(h:Inv st)(hs:Small st)(e:Int)(hv:zj s=true):qB (rnr t path d st e) s=some (rnr t path d st e,WC t path st s):=by
 have hl:=yF hv;unfold qB WC;rw[show xJ s=some (zN s) from Ke (wU hv).mid,Kd];by_cases he:zN s=emptyS
 ·rw[Ke (decide_eq_true (show zN s=(⟨[]⟩:Str) from he)),Ke he,show(rnr t path d st e).path=path from Z,zdd e hp (by show 0+s.l.length<=_;omega),Kd];rfl
 ·have he':¬ zN s=(⟨[]⟩:Str):=he;have hpp:=(XB hv he).2;have hpl:=yF hpp;have hla:=part_len (Qw hv);rw[Kf (by simp[he']),Kf he,Wq hs.mods,Kd];rcases Yz st (zN s) with⟨h1,_⟩ | ⟨k,m,h1,h2,h3,_⟩
  ·rw[h1,lss_m1];rw[show((true == false):Bool)=false from Z,Wn,Kd,Ke (by simp),Ke Z];rfl
  ·rw[h1,zcq,show((false == false):Bool)=true from Z,qt,show(rnr t path d st e).mods=st.mods from Z,zH,h2,Kd,Bool.false_or,Kf (by decide:¬ (false=true)),Int.toNat_natCast,WS h2,zdY h2];by_cases hk:m.kind=1
   ·rw[Ke (by simp[cmpI,hk]),Ke hk];rfl
   ·rw[Kf (by simp[cmpI,hk]),Kf hk,Kd,show Zu s=some (jh s) from Ke (wU hv).mid,Kd,zdd e (h.at_ h2).2.2.2 (by omega),Kd]
def ImpEq(t:Tree)(path:List Int)(d:Disk)(n:Nat)(R:Rec)(I:RImp):Prop:=
 ∀ (st:RSt) (s:Str) (r:RSt×Int×Int),Inv st->zj s=true->4*st.left.toNat+(zx s dot).length<=n->st.size<=20000->I st s=some r->R.spec_importName (rnr t path d st 0) s=some (rnr t path d r.1 r.2.2,r.2.1)
def ValEq(t:Tree)(path:List Int)(d:Disk)(n:Nat)(R:Rec)(I:RImp):Prop:=
 ∀ (st:RSt) (j:Nat) (m:GMod) (s:Str) (v:RSt×GVal×Int),Inv st->st.mods[j]?=some m->zB s=true->4*st.left.toNat+3<=n->st.size<=20000->zaw t path I st j s=some v->R.spec_fromName (rnr t path d st 0) (j:Int) s=some (rnr t path d v.1 v.2.2,v.2.1)
theorem val_eq(hp:path.length<=1048576)(hL:ImpEq t path d n R I)(hI:Ym n I)(h:Inv st)(hn:4*st.left.toNat+3<=n)(hsz:st.size<=20000)(hj:st.mods[j]?=some m)(hnm:zB nm=true)(hv:zaw t path I st j nm=some v):
  YT R (rnr t path d st 0) (j:Int) nm=some (rnr t path d v.1 v.2.2,v.2.1):=by
 have hi:=h.at_ hj;have hnl:=yF hi.2.1;have hnp:=part_len hnm;have hcl:=zcW m.name nm;have sm:=RSt.small hsz;unfold zaw at hv;rw[X0 hj,WS hj,zaK hj] at hv;unfold YT;rw[show(rnr t path d st 0).mods=st.mods from Z,zH,hj,Kd,zcY hi.2.2.1,Kd];rcases Qc m.attrs nm with⟨h1,_⟩ | ⟨k,a,h1,_,h3,_⟩
 ·rw[h1,geq_m1,Kf (show ¬ (false=true) by decide)] at hv;have hvn:ye (child m.name nm)=some (zj (child m.name nm)):=Ke (by unfold mid;omega);rw[h1,geq_m1,Kf (show ¬ (false=true) by decide),Kd,show jr m.name nm=some (child m.name nm) from Ke (by omega),Kd,Kd,hvn,zY,Kd];by_cases hk:m.kind=1
  ·rw[Ke (.inl hk)] at hv;injection hv with hv;subst hv;rw[jg hk,Ke (by rfl)];rfl
  ·rw[xR hk,show(false == false)=true from Z,Ke (show true=true from Z),Bool.false_or];cases hc:zj (child m.name nm) with
   |false=>rw[Ke (.inr hc)] at hv;injection hv with hv;subst hv;rw[Ke (by rfl)];rfl
   |true=>
    have hpl:=jT hc;rw[Kf (λ e=>e.elim hk λ e=>by rw[hc] at e;cases e)] at hv;obtain⟨q,hq,hqp⟩:=hI st _ h hc (by omega);have hld:=hL st _ q h hc (by omega) hsz hq;rw[Kf (by decide),Wq sm.mods,Kd];cases hl:cmpI .lss (cix st (child m.name nm)) 0 with
    |true=>
     rw[show(true == true)=true from Z,qt,specIn_eq hp h sm 0 hc,Kd,Bool.true_and,Ke (show true=true from Z)];by_cases hz:(WC t path st (child m.name nm)).kind=0
     ·rw[Ke ⟨hl,hz⟩] at hv;injection hv with hv;subst hv;rw[Ke (jg hz)];rfl
     ·rw[Kf (λ e=>hz e.2),hq,Kd] at hv;injection hv with hv;subst hv;rw[Kf (by rw[xR hz];decide),hld,Kd]
    |false=>rw[Kf (λ e=>by rw[hl] at e;exact absurd e.1 (by decide)),hq,Kd] at hv;injection hv with hv;subst hv;rw[show(false == true)=false from Z,Wn,Kd,Bool.false_and,Kf (show ¬ (false=true) by decide),Kf (show ¬ (false=true) by decide),hld,Kd]
 ·rw[h1,ZA,Ke (show true=true from Z),Int.toNat_natCast,h3] at hv;injection hv with hv;subst hv;rw[h1,ZA,Ke (show true=true from Z),Kd,zH,h3,Kd];rfl
theorem star_loop(hk':∃ m,st.mods[k]?=some m)(l:List GAttr)(h:Inv st)(hl:∀ a∈l,zB a.name=true)(hb:l.length<=16777216):
  zE (λ s19=>xE R (k:Int) l s19) (rnr t path d st 0,(0:Int))=some (rnr t path d (starF k l st) 0):=by
 obtain⟨m0,hm0⟩:=hk';have key:=zaI (step:=λ s19=>xE R (k:Int) l s19) l (λ(s:RSt) j=>(rnr t path d s 0,(j:Int))) (λ s a=>if(a.name.l.headD 0 == 122)=true then s else s.give k a.name a.value) (λ s=>rnr t path d s 0) (λ _ s=>Inv s/\∃ m,s.mods[k]?=some m)
  (λ j s a ha hlt ⟨hi,m1,hm1⟩=>by
   have hva:=hl a (List.mem_of_getElem? ha);have hne:a.name.l[0]?=some (a.name.l.headD 0):=by
    rcases Qy hva with⟨c,e,_⟩ | ⟨c,d,e,_⟩ | ⟨c,d,e',e,_⟩ <;> rw[e] <;> rfl
   have hat:atI a.name.l (0:Int)=some (a.name.l.headD 0):=hne;have hgr:=Grow.give (st:=s) k a.name a.value;obtain⟨m2,hm2⟩:=hgr.at_ hm1;have hs:xE R (k:Int) l (rnr t path d s 0,(j:Int))=some (.inl (rnr t path d (if(a.name.l.headD 0 == 122)=true then s else s.give k a.name a.value) 0,((j+1:Nat):Int))):=by
    unfold xE;simp only;rw[zC,Ke (decide_eq_true hlt),zH,ha,Kd,hat,Kd,zG (by omega)];cases hz:(a.name.l.headD 0 == 122) with
    |true=>rw[Kf (by simp[cmpB] at hz ⊢;exact hz),Ke Z];rfl
    |false=>rw[Ke (by simp[cmpB] at hz ⊢;exact hz),Kd,Kd,Jh hi hm1,Kf (by decide)];rfl
   refine⟨hs,?_⟩;split
   ·exact⟨hi,m1,hm1⟩
   ·exact⟨hi.give k _ hva,m2,hm2⟩)
  (λ s _=>by
   unfold xE;simp only;rw[zC,Kf (by simp)]) (s0:=st) ⟨h,m0,hm0⟩ (by omega)
 exact key
variable{n:Nat}
theorem from_eq(_hp:path.length<=1048576)(hI:Ym n I)(hL:ImpEq t path d n R I)(hV:ValEq t path d n R I)(h:Inv st)(hn:4*st.left.toNat+3<=n)(hsz:st.size<=19950)(hk:st.mods[k]?=some m)(hx:zP x=true)(hkd:x.kind=1)(hr:Yl t path I st k x=some r):
  Xr R (rnr t path d st 0) (k:Int) x=some (rnr t path d r.1 r.2):=by
 have hi:=h.at_ hk;have hsx:zi x.module=true/\0<=x.level/\x.level<=3:=by
  rcases YW hx with h1 | h1 | h1
  ·exact absurd h1.1 (by omega)
  ·exact⟨h1.2.1,h1.2.2.1,h1.2.2.2⟩
  ·exact absurd hkd h1.2.1
 have hnm:=Qa hx (.inl hkd);unfold Yl at hr;have hpk:Qv st k=if m.kind=1 then zN m.name else m.name:=by unfold Qv;rw[WS hk,zaK hk]
 rw[Kf (by omega),Ke hkd,hpk] at hr;have hpv:zi (if m.kind=1 then zN m.name else m.name)=true:=by
  split
  ·exact Jg (ZW hi.2.1)
  ·exact ZW hi.2.1
 have hsh:sho (Yk (if m.kind=1 then zN m.name else m.name) x.level x.module):=by
  have:=stName_sho hpv hx;unfold stName at this;rw[Kf (by simp[cmpI,hkd]),Ke (by simp[cmpI,hkd])] at this;exact this
 unfold Xr;rw[show(rnr t path d st 0).mods=st.mods from Z,zH,hk,Kd,spackageOf_eq hi.2.1,Kd,zdp hpv hsx.2.1 (by omega) (pkg_sho hsx.1),Kd];generalize Yk (if m.kind=1 then zN m.name else m.name) x.level x.module=s1 at*;rw[show ye s1=some (zj s1) from Ke hsh.mid,Kd];cases hv:zj s1 with
 |false=>rw[Ke hv] at hr;injection hr with hr;subst hr;rw[Ke (by rfl)];rfl
 |true=>
  rw[Kf (by rw[hv];decide)] at hr;have hpl:=jT hv;obtain⟨q,hq,hqp⟩:=hI st s1 h hv (by omega);have hqs:=hqp.size;have hld:=hL st s1 q h hv (by omega) (by omega) hq;rw[hq,Kd] at hr;rw[Kf (by decide),hld,Kd];by_cases he:q.2.2=0
  ·rw[Kf (by simp[he])] at hr;obtain⟨m',hm'⟩:=hqp.grow.at_ hk;obtain⟨m2,hm2,hmn,h0⟩:=hqp.good he;have hlq:=hqp.grow.left;obtain⟨j,hj⟩:∃ j:Nat,q.2.1=j:=⟨_,(Int.toNat_of_nonneg h0).symm⟩;rw[hj,Int.toNat_natCast] at hm2;rw[hj,Int.toNat_natCast] at hr;have hn':4*q.1.left.toNat+3<=n:=by have:=h.left;have:=hqp.inv.left;omega
   obtain⟨v,hve,hvb⟩:=value_ok (t:=t) (path:=path) hI hqp.inv hn' j x.name hnm;have hval:=hV q.1 j m2 x.name v hqp.inv hm2 hnm hn' (by omega) hve;rw[hve,Kd] at hr;obtain⟨m3,hm3⟩:=hvb.grow.at_ hm';simp only;rw[show(rnr t path d q.1 q.2.2).fin=q.2.2 from Z,he,Kf (by decide),hj,hval,Kd];by_cases hz:v.2.2=0
   ·rw[Kf (by simp[hz])] at hr;injection hr with hr;subst hr;simp only;rw[show(rnr t path d v.1 v.2.2).fin=v.2.2 from Z,Ke (jg hz),Jh hvb.inv hm3,hz];rfl
   ·rw[Ke hz] at hr;injection hr with hr;subst hr;simp only;rw[show(rnr t path d v.1 v.2.2).fin=v.2.2 from Z,Kf (by rw[xR hz];decide)]
  ·rw[Ke he] at hr;injection hr with hr;subst hr;simp only;rw[show(rnr t path d q.1 q.2.2).fin=q.2.2 from Z,Ke (QO he)]
theorem star_eq(hI:Ym n I)(hL:ImpEq t path d n R I)(h:Inv st)(hn:4*st.left.toNat+3<=n)(hsz:st.size<=19950)(hk:st.mods[k]?=some m)(hx:zP x=true)(hkd:x.kind=2)(hr:Yl t path I st k x=some r):
  Yc R (rnr t path d st 0) (k:Int) x=some (rnr t path d r.1 r.2):=by
 have hv:=Y8 hx (.inr hkd);have hpl:=jT hv;obtain⟨q,hq,hp⟩:=hI st x.module h hv (by omega);have hqs:=hp.size;unfold Yl at hr;rw[Kf (by omega),Kf (by omega),Ke hkd,hq,Kd] at hr;have hld:=hL st x.module q h hv (by omega) (by omega) hq;unfold Yc;rw[hld,Kd];by_cases he:q.2.2=0
 ·rw[Kf (by simp[he])] at hr;obtain⟨m',hm'⟩:=hp.grow.at_ hk;obtain⟨m2,hm2,_,h0⟩:=hp.good he;have hi2:=hp.inv.at_ hm2;obtain⟨j,hj⟩:∃ j:Nat,q.2.1=j:=⟨_,(Int.toNat_of_nonneg h0).symm⟩;rw[hj,Int.toNat_natCast] at hm2;rw[hj,Int.toNat_natCast,X0 hm2] at hr;injection hr with hr;subst hr;simp only;rw[show(rnr t path d q.1 q.2.2).fin=q.2.2 from Z,he,Kf (by decide),hj,show(rnr t path d q.1 0).mods=q.1.mods from Z,zH,hm2,Kd,
   yu (by simp;omega) (by simp;omega),Kd,List.nil_append,star_loop ⟨m',hm'⟩ m2.attrs hp.inv (hp.inv.parts m2 hi2.1) hi2.2.2.1]
 ·rw[Ke he] at hr;injection hr with hr;subst hr;simp only;rw[show(rnr t path d q.1 q.2.2).fin=q.2.2 from Z,Ke (QO he)]
def StEq(t:Tree)(path:List Int)(d:Disk)(n:Nat)(F:Runner->Int->Stmt->Option Runner)(I:RImp)(P:Int->Prop):Prop:=
 ∀ (st:RSt) (k:Nat) (m:GMod) (x:Stmt) (r:RSt×Int),Inv st->st.mods[k]?=some m->zP x=true->P x.kind->4*st.left.toNat+3<=n->st.size<=19950->Yl t path I st k x=some r->F (rnr t path d st 0) (k:Int) x=some (rnr t path d r.1 r.2)
theorem first_get(s:Str):(zx s dot)[0]?=some (ZZ s):=by
 have:=Y7 s;unfold ZZ;cases h:zx s dot with
 | nil=>rw[h] at this;simp at this
 | cons a l=>rfl
theorem sstmt_eq(hI:Ym n I)(hL:ImpEq t path d n R I)(hF:StEq t path d n R.spec_runFrom I (·=1))(hS:StEq t path d n R.spec_runStar I (·=2))(h:Inv st)(hn:4*st.left.toNat+3<=n)(hsz:st.size<=19950)(hk:st.mods[k]?=some m)(hx:zP x=true)(hr:Yl t path I st k x=some r):
  Xq R (rnr t path d st 0) (k:Int) x=some (rnr t path d r.1 r.2):=by
 have hi:=h.at_ hk;unfold Xq;by_cases h0:x.kind=0
 ·have hv:=Y8 hx (.inl h0);have hpl:=jT hv;obtain⟨q,hq,hp⟩:=hI st x.module h hv (by omega);have hqs:=hp.size;unfold Yl at hr;rw[Ke h0,hq,Kd] at hr;have hld:=hL st x.module q h hv (by omega) (by omega) hq;have smq:=RSt.small (st:=q.1) (n:=20000) (by omega);rw[Ke (jg h0),hld,Kd,show Z8 x.module (UInt8.ofNat 46)=some (zx x.module dot) from Ke (wU hv).mid,Kd,show atI (zx x.module dot) (0:Int)=(zx x.module dot)[0]? from Z,first_get,Kd];simp only;rw[show(rnr t path d q.1 q.2.2).fin=q.2.2 from Z];by_cases he:q.2.2=0
  ·rw[Kf (by simp[he])] at hr;obtain⟨m',hm'⟩:=hp.grow.at_ hk;rw[he,Kf (by decide),Wq smq.mods,Kd];cases hc:cmpI .lss (cix q.1 (ZZ x.module)) 0 with
   |true=>rw[Ke hc] at hr;injection hr with hr;subst hr;rw[Ke (show true=true from Z)];rfl
   |false=>rw[Kf (by simp[hc])] at hr;injection hr with hr;subst hr;rw[Kf (by decide),Wq smq.mods,Kd,Jh hp.inv hm'];rfl
  ·rw[Ke he] at hr;injection hr with hr;subst hr;rw[Ke (QO he)]
 ·rw[Kf (by rw[xR h0];decide)];by_cases h1:x.kind=1
  ·rw[Ke (jg h1),hF st k m x r h hk hx h1 hn hsz hr];rfl
  ·rw[Kf (by rw[xR h1];decide)];by_cases h2:x.kind=2
   ·rw[Ke (jg h2),hS st k m x r h hk hx h2 hn hsz hr];rfl
   ·unfold Yl at hr;rw[Kf h0,Kf h1,Kf h2] at hr;rw[Kf (by rw[xR h2];decide)];by_cases h3:x.kind=3
    ·rw[Ke h3] at hr;injection hr with hr;subst hr;rw[Ke (jg h3),Jh h hk];rfl
    ·rw[Kf h3] at hr;rw[Kf (by rw[xR h3];decide)];by_cases h4:x.kind=4
     ·rw[Ke h4,X0 hk] at hr;rw[Ke (jg h4),show(rnr t path d st 0).mods=st.mods from Z,zH,hk,Kd,zcY hi.2.2.1,Kd];rcases Qc m.attrs x.name with⟨k1,_⟩ | ⟨j,a,k1,_,k3,_⟩
      ·rw[k1,lss_m1,Ke (show true=true from Z)] at hr;injection hr with hr;subst hr;rw[k1,lss_m1,Ke (show true=true from Z)];rfl
      ·rw[k1,zcq,Kf (show ¬ (false=true) by decide),Int.toNat_natCast,k3] at hr;injection hr with hr;subst hr;have ho:st.out.length<=19950:=by unfold RSt.size at hsz;omega
       rw[k1,zcq,Kf (show ¬ (false=true) by decide),Kd,zH,k3,Kd];have hsh:Xp a.value=some (if a.value.kind=1 then -1 else a.value.num):=by
        unfold Xp;by_cases hz:a.value.kind=1
        ·rw[Ke (jg hz),Ke hz]
        ·rw[Kf (by rw[xR hz];decide),Kf hz]
       rw[hsh,Kd,show(rnr t path d st 0).out=st.out from Z,yu (by show(st.out.length+1)*8<=_;omega) (by show st.out.length+1<=_;omega),Kd];rfl
     ·rw[Kf h4] at hr;rw[Kf (by rw[xR h4];decide)];by_cases h5:x.kind=5
      ·rw[Ke h5] at hr;injection hr with hr;subst hr;rw[Ke (jg h5)];rfl
      ·rw[Kf h5] at hr;injection hr with hr;subst hr;rw[Kf (by rw[xR h5];decide)]
theorem zd0(hI:Ym n I)(hD:StEq t path d n R.spec_runStmt I (λ _=>True))(k:Nat)(l:List Stmt)(hl:∀ x∈l,zP x=true)(hlen:l.length<1000000000):∀ (m i:Nat) (st:RSt) (r:RSt×Int),i+m=l.length->Inv st->(∃ mm,st.mods[k]?=some mm)->4*st.left.toNat<=n+1->st.left<=1000000->st.size<=20050->QN t path I k (l.drop i) st=some r->
  wy (λ s2=>xB R (k:Int) l s2) (m+1) (rnr t path d st 0,(i:Int))=some (rnr t path d r.1 r.2)
 |0,i,st,r,hi,_,_,_,_,_,hr=>by
  have:i=l.length:=by omega
  subst this;rw[List.drop_length] at hr;unfold QN at hr;injection hr with hr;subst hr;refine yq ?_;unfold xB;simp only;rw[zC,Kf (by simp)]
 |m+1,i,st,r,hi,h,⟨mm,hmm⟩,hn,hle,hsz,hr=>by
  have hlt:i<l.length:=by omega
  have hx:l[i]?=some l[i]:=List.getElem?_eq_getElem hlt;have hv:=hl l[i] (List.getElem_mem hlt);rw[List.drop_eq_getElem_cons hlt] at hr;unfold QN at hr;have hl0:=h.left;by_cases hz:st.left=0
  ·rw[Ke hz] at hr;injection hr with hr;subst hr;refine yq ?_;unfold xB;simp only;rw[zC,Ke (decide_eq_true hlt),show(rnr t path d st 0).left=st.left from Z,Ke (jg hz)];rfl
  ·rw[Kf hz] at hr;have ht:=h.tick hz;have hts:=size_tick h hz;have htl:st.tick.left=st.left - 1:=rfl;obtain⟨q,hq,hb⟩:=stmt_ok (t:=t) (path:=path) hI ht (by rw[htl];omega) k hv;have hbs:=hb.size;have hbl:=hb.grow.left;have hbi:=hb.inv.left;obtain⟨m2,hm2⟩:=hb.grow.at_ (show st.tick.mods[k]?=some mm from hmm);have hd:=hD st.tick k mm l[i] q ht hmm hv trivial (by rw[htl];omega) (by omega) hq;rw[show Yl t path I { st with left:=st.left - 1 } k l[i]=some q from hq,Kd] at hr;have hs:xB R (k:Int) l (rnr t path d st 0,(i:Int))=some (if q.2≠0 then .inr (rnr t path d q.1 q.2) else .inl (rnr t path d q.1 q.2,((i+1:Nat):Int))):=by
    unfold xB;simp only;rw[zC,Ke (decide_eq_true hlt),show(rnr t path d st 0).left=st.left from Z,Kf (by rw[xR hz];decide),js (by omega) (by omega),Kd,zH,hx,Kd,
     show({ rnr t path d st 0 with left:=st.left - 1 }:Runner)=rnr t path d st.tick 0 from Z,hd,Kd,zG (by omega),Kd,show(rnr t path d q.1 q.2).fin=q.2 from Z]
    by_cases he:q.2=0
    ·rw[he,Kf (by decide),Kf (by simp)]
    ·rw[Ke (QO he),Ke he]
   by_cases he:q.2=0
   ·rw[Kf (by simp[he])] at hr;rw[Kf (by simp[he]),he] at hs;rw[x8 hs];exact zd0 hI hD k l hl hlen m (i+1) q.1 r (by omega) hb.inv ⟨m2,hm2⟩ (by rw[htl] at hbl;omega) (by rw[htl] at hbl;omega) (by omega) hr
   ·rw[Ke he] at hr;injection hr with hr;subst hr;rw[Ke he] at hs;exact yq hs
def SBodyEq(t:Tree)(path:List Int)(d:Disk)(n:Nat)(R:Rec)(I:RImp):Prop:=
 ∀ (st:RSt) (k:Nat) (m:GMod) (l:List Stmt) (r:RSt×Int),Inv st->st.mods[k]?=some m->(∀ x∈l,zP x=true)->l.length<1000000000->4*st.left.toNat<=n+1->st.left<=1000000->st.size<=20050->QN t path I k l st=some r->R.spec_runBody (rnr t path d st 0) (k:Int) l=some (rnr t path d r.1 r.2)
theorem sbody_eq(hI:Ym n I)(hD:StEq t path d n R.spec_runStmt I (λ _=>True))(h:Inv st)(hk:st.mods[k]?=some m){l:List Stmt}(hl:∀ x∈l,zP x=true)(hlen:l.length<1000000000)(hn:4*st.left.toNat<=n+1)(hle:st.left<=1000000)(hsz:st.size<=20050)(hr:QN t path I k l st=some r):Jd R (rnr t path d st 0) (k:Int) l=some (rnr t path d r.1 r.2):=
 jk (m:=l.length+1) (zd0 hI hD k l hl hlen l.length 0 st r (by omega) h ⟨m,hk⟩ hn hle hsz (by rw[List.drop_zero];exact hr)) (by omega)
variable{n:Nat}
theorem srun_eq(hv:zI t=true)(hB:SBodyEq t path d n R I)(h:Inv st)(hm:st.mods[k]?=some m)(hn:4*st.left.toNat<=n+1)(hle:st.left<=1000000)(hsz:st.size<=20050){sp:Spec}(hlf:sp.file<t.files.length)(hq:runF t path I st k sp=some q):
  (if(cmpI .geq sp.file (0:Int))=true then((ZQ (rnr t path d st 0) sp.file).bind λ v149=>
(R.spec_runBody v149.1 (k:Int) v149.2).bind λ v153=>
some v153)
else(some (rnr t path d st 0)))=some (rnr t path d q.1 q.2):=by
 unfold runF at hq;cases hg:cmpI .geq sp.file 0 with
 |false=>rw[hg,Kf (show ¬ (false=true) by decide)] at hq;injection hq with hq;subst hq;rw[Kf (show ¬ (false=true) by decide)]
 |true=>
  have h0:0<=sp.file:=oD hg;rw[hg,Ke (show true=true from Z)] at hq;have hbv:=Qx hv sp.file;have hbl:(JN t.files sp.file).body.length<=8:=by
   unfold JN;cases hfl:t.files[sp.file.toNat]? with
   | none=>exact Nat.zero_le _
   |some f=>have:=Jf hv (List.mem_of_getElem? hfl);unfold yc at this;simp only[Bool.and_eq_true,cmpI,decide_eq_true_eq] at this;show f.body.length<=8;omega
  have hbo:ZQ (rnr t path d st 0) sp.file=some (rnr t path d st 0,(JN t.files sp.file).body):=by
   unfold ZQ;rw[Ke (show(!(rnr t path d st 0).warm.x.on)=true from Z),show(rnr t path d st 0).t=t from Z,atI_file h0 hlf,Kd];rfl
  rw[Ke (show true=true from Z),hbo,Kd,hB st k m _ q h hm hbv (by omega) hn hle hsz hq,Kd]
theorem imp_new(hv:zI t=true)(hp:path.length<=1048576)(hI:Ym n I)(hB:SBodyEq t path d n R I)(h:Inv st)(hn:4*st.left.toNat<=n+1)(hle:st.left<=1000000)(hsz:st.size<=20020)(hs:zj s=true){r:RSt×Int×Int}(hr:newF t path I st s (WC t path st s)=some r):
  ((qB (rnr t path d st 0) s).bind λ v46=>
if(cmpI .eql v46.2.kind (0:Int))=true then(some ({ v46.1 with fin:=(1:Int) },(-1:Int)))
else(Option.bind (α:=Runner) ((appO 80 v46.1.mods [(⟨s,v46.2.kind,v46.2.roots,true,false,[]⟩:GMod)]).bind λ v86=>
some ({ v46.1 with mods:=v86 })) λ o65=>
(wY o65 (0:Int) s).bind λ v140=>
Option.bind (α:=Runner) (if(cmpI .geq v46.2.file (0:Int))=true then((ZQ v140 v46.2.file).bind λ v149=>
(R.spec_runBody v149.1 (v46.1.mods.length:Int) v149.2).bind λ v153=>
some v153)
else(some v140)) λ o143=>
if(cmpI .neq o143.fin (0:Int))=true then((atI o143.mods (v46.1.mods.length:Int)).bind λ v161=>
(wY ({ o143 with mods:=(o143.mods.set (v46.1.mods.length:Int).toNat ({ v161 with cached:=false })) }) (2:Int) s).bind λ v167=>
some (v167,(-1:Int)))
else((atI o143.mods (v46.1.mods.length:Int)).bind λ v172=>
(wY ({ o143 with mods:=(o143.mods.set (v46.1.mods.length:Int).toNat ({ v172 with done:=true })) }) (1:Int) s).bind λ v178=>
Option.bind (α:=Runner) ((wg v178 (zN s)).bind λ v184=>
if(cmpI .geq v184.2 (0:Int))=true then((Zu s).bind λ v191=>
(wh v184.1 v184.2 v191 (⟨(1:Int),(v46.1.mods.length:Int)⟩:GVal)).bind λ v195=>
some v195)
else(some v184.1)) λ o181=>
some (o181,(v46.1.mods.length:Int)))))=some (rnr t path d r.1 r.2.2,r.2.1):=by
 have sm:=RSt.small hsz;have hlr:=zbx (t:=t) h hp s;have hlf:=look_file (t:=t) (path:=path) (st:=st) s;rw[specIn_eq hp h sm 0 hs,Kd];unfold newF at hr;generalize WC t path st s=sp at*;by_cases hk:sp.kind=0
 ·rw[Ke hk] at hr;injection hr with hr;subst hr;rw[Ke (jg hk)];rfl
 ·rw[Kf hk] at hr;have hbi:=h.begin (sp:=sp) hs hlr;have hbz:(st.begin s sp).size=st.size+2:=by unfold RSt.size RSt.begin;simp only[List.length_append,List.length_cons,List.length_nil];omega
  have hbm:(st.begin s sp).mods[st.mods.length]?=some ⟨s,sp.kind,sp.roots,true,false,[]⟩:=by unfold RSt.begin;simp
  obtain⟨q,hq,hb⟩:=run_ok (path:=path) hv hI hbi (by exact hn) st.mods.length sp;have hqs:=hb.size;rw[hq,Kd] at hr;obtain⟨m,hm⟩:=hb.grow.at_ hbm;have hrun:=srun_eq hv hB hbi hbm (by exact hn) hle (by omega) hlf hq;rw[Kf (by rw[xR hk];decide),show(rnr t path d st 0).mods=st.mods from Z,yu (by have:=sm.mods;show(st.mods.length+1)*80<=_;omega) (by have:=sm.mods;show st.mods.length+1<=_;omega),Kd,Kd,
   show({ rnr t path d st 0 with mods:=st.mods++[⟨s,sp.kind,sp.roots,true,false,[]⟩] }:Runner)=rnr t path d (st.grown s sp) 0 from Z,zct (st:=st.grown s sp) sm.log,Kd,show(st.grown s sp).note 0 s=st.begin s sp from Z]
  simp only;rw[hrun,Kd,Int.toNat_natCast,show(rnr t path d q.1 q.2).fin=q.2 from Z,show(rnr t path d q.1 q.2).mods=q.1.mods from Z,zH,hm,Kd];have smq:=RSt.small (st:=q.1) (n:=20100) (by omega);by_cases he:q.2=0
  ·rw[Kf (by simp[he])] at hr;injection hr with hr;subst hr;rw[he,Kf (by decide),Kd];have hid:=hb.inv.done st.mods.length s;have hdz:(q.1.done st.mods.length s).size=q.1.size+1:=by unfold RSt.size RSt.done;simp only[zav,List.length_append,List.length_cons,List.length_nil];omega
   have hdn:RSt.note { q.1 with mods:=q.1.mods.set st.mods.length { m with done:=true } } 1 s=q.1.done st.mods.length s:=by unfold RSt.done;rw[WK _ hm];rfl
   have hn2:=zct (t:=t) (path:=path) (d:=d) (st:={ q.1 with mods:=q.1.mods.set st.mods.length { m with done:=true } }) smq.log 0 1 s;rw[hdn] at hn2;refine(congrFun (congrArg Option.bind hn2) _).trans ?_;rw[Kd,Wq (RSt.small (n:=20100) (by omega)).mods,Kd];unfold RSt.tell;rcases Yz (q.1.done st.mods.length s) (zN s) with⟨h1,_⟩ | ⟨k,m2,h1,h2,h3,_⟩
   ·simp only;rw[h1,geq_m1,Kf (show ¬ (false=true) by decide),Kf (show ¬ (false=true) by decide),Kd]
   ·simp only;rw[h1,ZA,Ke (show true=true from Z),Ke (show true=true from Z),show Zu s=some (jh s) from Ke (wU hs).mid,Kd,Jh hid h2,Kd,Kd,Int.toNat_natCast]
  ·rw[Ke he] at hr;injection hr with hr;subst hr;have hdn:RSt.note { q.1 with mods:=q.1.mods.set st.mods.length { m with cached:=false } } 2 s=q.1.fail st.mods.length s:=by unfold RSt.fail;rw[WK _ hm];rfl
   have hn2:=zct (t:=t) (path:=path) (d:=d) (st:={ q.1 with mods:=q.1.mods.set st.mods.length { m with cached:=false } }) smq.log q.2 2 s;rw[hdn] at hn2;rw[Ke (QO he)];refine(congrFun (congrArg Option.bind hn2) _).trans ?_;rfl
theorem simp_eq(hv:zI t=true)(hp:path.length<=1048576)(hI:Ym n I)(hL:ImpEq t path d n R I)(hB:SBodyEq t path d n R I)(h:Inv st)(hs:zj s=true)(hn:4*st.left.toNat+(zx s dot).length<=n+1)(hle:st.left<=1000000)(hsz:st.size<=20000){r:RSt×Int×Int}(hr:impF t path I st s=some r):
  ZY R (rnr t path d st 0) s=some (rnr t path d r.1 r.2.2,r.2.1):=by
 have sm:=RSt.small hsz;have hpp:=Y7 s;have hpl:=jT hs;unfold impF at hr;unfold ZY;rw[Wq sm.mods,Kd];simp only;rcases Yz st s with⟨h1,_⟩ | ⟨k,m,h1,h2,h3,_⟩
 ·rw[h1,Kf (by decide)] at hr;rw[h1,Kf (by decide),show xJ s=some (zN s) from Ke (wU hs).mid,Kd];by_cases he:zN s=emptyS
  ·rw[Ke he,Kd,Kf (by simp)] at hr;simp only at hr;rw[h1,Kf (by decide)] at hr;have hd:decide (zN s≠(⟨[]⟩:Str))=false:=by rw[show zN s=(⟨[]⟩:Str) from he];rfl
   rw[hd,show(false == true)=false from Z,Wn,Kd,Bool.false_and,Kf (show ¬ (false=true) by decide),Kf (show ¬ (false=true) by decide),Wq sm.mods,Kd];simp only;rw[h1,Kf (by decide)];exact imp_new hv hp hI hB h (by omega) hle (by omega) hs hr
  ·have he':¬ zN s=(⟨[]⟩:Str):=he;obtain⟨e1,e2⟩:=XB hs he;obtain⟨q,hq,hqp⟩:=hI st (zN s) h e2 (by omega);have hqs:=hqp.size;have hql:=hqp.grow.left;have hqi:=hqp.inv.left;have hl0:=h.left;have hld:=hL st (zN s) q h e2 (by omega) hsz hq;rw[Kf he,hq,Kd] at hr;have hd:decide (zN s≠(⟨[]⟩:Str))=true:=decide_eq_true he';rw[hd,show(true == true)=true from Z,qt,hld,Kd,Bool.true_and,Ke (show true=true from Z)];simp only;by_cases hz:q.2.2=0
   ·rw[Kf (by simp[hz])] at hr;obtain⟨_,_,_,h0⟩:=hqp.good hz;rw[Kf (by simp[cmpI];omega),hz,Wq (RSt.small (n:=20100) (by omega)).mods,Kd];simp only;rcases Yz q.1 s with⟨k1,_⟩ | ⟨k,m,k1,k2,k3,_⟩
    ·rw[k1,Kf (by decide)] at hr;rw[k1,Kf (by decide)];exact imp_new hv hp hI hB hqp.inv (by omega) (by omega) (by omega) hs hr
    ·have smq:=RSt.small (st:=q.1) (n:=20100) (by omega);rw[k1,Ke (ZA k),Int.toNat_natCast] at hr;injection hr with hr;subst hr;rw[k1,Ke (ZA k),zct smq.log,Kd];rfl
   ·have hb:=hqp.bad hz;rw[Ke hz] at hr;injection hr with hr;subst hr;rw[Ke (by rw[hb];decide)]
 ·rw[h1,Ke (ZA k),Int.toNat_natCast] at hr;injection hr with hr;subst hr;rw[h1,Ke (ZA k),zct sm.log,Kd];rfl
theorem sbody_of(hv:zI t=true)(hp:path.length<=1048576)(hL:∀ j,ImpEq t path d k (scc (M+j)) (imp t path k)):SBodyEq t path d k (scc (M+4)) (imp t path k):=
 have hI:=zby hv hp k;have hV:ValEq t path d k (scc (M+1)) (imp t path k):=λ _ _ _ _ _ h hm hs hn hsz hv=>val_eq hp (hL 0) hI h hn hsz hm hs hv
 have hF:StEq t path d k (scc (M+2)).spec_runFrom (imp t path k) (·=1):=λ _ _ _ _ _ h hm hx hk hn hsz hr=>from_eq hp hI (hL 1) hV h hn hsz hm hx hk hr
 have hS:StEq t path d k (scc (M+2)).spec_runStar (imp t path k) (·=2):=λ _ _ _ _ _ h hm hx hk hn hsz hr=>star_eq hI (hL 1) h hn hsz hm hx hk hr
 have hD:StEq t path d k (scc (M+3)).spec_runStmt (imp t path k) (λ _=>True):=λ _ _ _ _ _ h hm hx _ hn hsz hr=>sstmt_eq hI (hL 2) hF hS h hn hsz hm hx hr
 λ _ _ _ _ _ h hm hl hlen hn hle hsz hr=>sbody_eq hI hD h hm hl hlen hn hle hsz hr
theorem scc_imp(hv:zI t=true)(hp:path.length<=1048576):∀ (k N:Nat),5*k<=N->ImpEq t path d k (scc N) (imp t path k)
 | 0,_,_=>λ _ _ _ _ _ _ _ hr=>by cases hr
 |k+1,N,hN=>λ st s r h hs hn hsz hr=>by
  obtain⟨M,rfl⟩:∃ M,N=M+5:=⟨N - 5,by omega⟩;exact simp_eq hv hp (zby hv hp k) (scc_imp hv hp k (M+4) (by omega)) (sbody_of hv hp λ j=>scc_imp hv hp k (M+j) (by omega)) h hs hn (left_of h hsz) hsz hr
def st0:RSt:=⟨[],[],[],120,[]⟩
theorem st0_inv:Inv st0:=⟨(λ _ h=>by cases h),(λ _ h=>by cases h),(λ _ h=>by cases h),(λ _ h=>by cases h),by decide⟩
theorem st0_size:st0.size=12000:=rfl
def YX:Nat:=2420
def ranR(t:Tree)(path:List Int)(s:Str):RSt×Int×Int:=(imp t path 483 st0 s).getD (st0,0,0)
theorem ran_ok(hv:zI t=true)(hp:path.length<=1048576)(hs:zj s=true):imp t path 483 st0 s=some (ranR t path s)/\ImpPost st0 s (ranR t path s)/\(ranR t path s).1.size<=12012:=by
 have hpl:=jT hs;obtain⟨r,hr,hk⟩:=zby hv hp 483 st0 s st0_inv hs (by show 4*120+_<=_;omega);have:ranR t path s=r:=by unfold ranR;rw[hr];rfl
 rw[this];have h1:=hk.size;rw[st0_size] at h1;exact⟨hr,hk,by omega⟩
end Go.Proofs.YtandbaloaenciaaGreatDoor
