/-
  Plain: a run of imports as a function of its state, by fuel; what it keeps.
  Plain: a run comes to an end; what it keeps.
-/
import Derived.Test.YtiiiokblnnlapaaGreatDoorRPDO
import Derived.Test.YtiiiokblnnlapaaGreatDoorRNDO
namespace Go.Proofs.YtiiiokblnnlapaaGreatDoor
open Go.RowKit
structure RSt where
 mods:List GMod
 log:List GEvent
 out:List Int
 left:Int
 part:List Str
def hits(s:Str)(m:GMod):Bool:=decide (m.name=s)&&m.cached
def cix(st:RSt)(s:Str):Int:=xt (hits s) st.mods
def aix(l:List GAttr)(s:Str):Int:=xt (λ a=>decide (a.name=s)) l
def updA{α:Type}(l:List α)(k:Nat)(f:α->α):List α:=match l[k]? with | some x=>l.set k (f x) | none=>l
theorem Ym{α:Type}{l:List α}{k:Nat}{x:α}(f:α->α)(h:l[k]?=some x):updA l k f=l.set k (f x):=by unfold updA;rw[h]
theorem Wq{α:Type}(l:List α)(k:Nat)(f:α->α):(updA l k f).length=l.length:=by unfold updA;split <;> simp
theorem updA_get{α:Type}{l:List α}{k:Nat}{f:α->α}(i:Nat):(updA l k f)[i]?=if i=k then l[k]?.map f else l[i]?:=by
 unfold updA
 split
 ·
  rename_i x hx
  by_cases e:i=k
  ·
   subst e
   have:=zH hx
   rw[if_pos rfl,hx,List.getElem?_set_self this];rfl
  ·
   rw[if_neg e,List.getElem?_set_ne (λ h=>e h.symm)]
 ·
  rename_i hx
  by_cases e:i=k
  ·
   subst e;simp[hx]
  ·
   rw[if_neg e]
def jX(l:List GAttr)(s:Str)(v:GVal):List GAttr:=if cmpI .geq (aix l s) 0=true then updA l (aix l s).toNat (λ a=>{ a with value:=v }) else l++[⟨s,v⟩]
def RSt.note(st:RSt)(k:Int)(s:Str):RSt:={ st with log:=st.log++[⟨k,s⟩] }
def RSt.doneAt(st:RSt)(k:Nat):Bool:=((st.mods[k]?).map (·.done)).getD false
def RSt.hit(st:RSt)(k:Nat)(s:Str):RSt:={ st with log:=st.log++[⟨3,s⟩],part:=if st.doneAt k=false/\s ∉ st.part then st.part++[s] else st.part }
def RSt.give(st:RSt)(at_:Nat)(s:Str)(v:GVal):RSt:={ st with mods:=updA st.mods at_ (λ m=>{ m with attrs:=jX m.attrs s v }) }
def RSt.begin(st:RSt)(s:Str)(sp:Spec):RSt:={ st with mods:=st.mods++[⟨s,sp.kind,sp.roots,true,false,[]⟩],log:=st.log++[⟨0,s⟩] }
def RSt.fail(st:RSt)(at_:Nat)(s:Str):RSt:={ st with mods:=updA st.mods at_ (λ m=>{ m with cached:=false }),log:=st.log++[⟨2,s⟩] }
def RSt.done(st:RSt)(at_:Nat)(s:Str):RSt:={ st with mods:=updA st.mods at_ (λ m=>{ m with done:=true }),log:=st.log++[⟨1,s⟩] }
def RSt.tell(st:RSt)(at_:Nat)(s:Str):RSt:=if cmpI .geq (cix st (zG s)) 0=true then st.give (cix st (zG s)).toNat (wo s) ⟨1,(at_:Int)⟩ else st
def RSt.kindAt(st:RSt)(k:Nat):Int:=((st.mods[k]?).map (·.kind)).getD 0
def RSt.rootsAt(st:RSt)(k:Nat):List Int:=((st.mods[k]?).map (·.roots)).getD []
def RSt.attrsAt(st:RSt)(k:Nat):List GAttr:=((st.mods[k]?).map (·.attrs)).getD []
def RSt.nameAt(st:RSt)(k:Nat):Str:=((st.mods[k]?).map (·.name)).getD emptyS
def Yg(t:Tree)(path:List Int)(st:RSt)(s:Str):Spec:=
 if zG s=emptyS then Zf t.files path emptyS s
 else if cmpI .lss (cix st (zG s)) 0=true then noSpec
 else if st.kindAt (cix st (zG s)).toNat=1 then noSpec
 else Zf t.files (st.rootsAt (cix st (zG s)).toNat) (zG s) (wo s)
def qc(s:Str):Str:=(zC s dot).headD emptyS
section
variable(t:Tree)(path:List Int)
abbrev RImp:=RSt->Str->Option (RSt×Int×Int)
def starF(at_:Nat)(l:List GAttr)(st:RSt):RSt:=l.foldl (λ st a=>if(a.name.l.headD 0 == 122)=true then st else st.give at_ a.name a.value) st
def XJ(st:RSt)(at_:Nat):Str:=if st.kindAt at_=1 then zG (st.nameAt at_) else st.nameAt at_
def Wr(I:RImp)(st:RSt)(k:Nat)(s:Str):Option (RSt×GVal×Int):=
 if cmpI .geq (aix (st.attrsAt k) s) 0=true then some (st,(((st.attrsAt k)[(aix (st.attrsAt k) s).toNat]?).map (·.value)).getD ⟨0,0⟩,0)
 else if st.kindAt k=1\/zn (child (st.nameAt k) s)=false then some (st,⟨0,0⟩,2)
 else if cmpI .lss (cix st (child (st.nameAt k) s)) 0=true/\(Yg t path st (child (st.nameAt k) s)).kind=0 then some (st,⟨0,0⟩,2)
 else(I st (child (st.nameAt k) s)).bind λ r=>some (r.1,⟨1,r.2.1⟩,r.2.2)
def qE(I:RImp)(st:RSt)(at_:Nat)(x:Stmt):Option (RSt×Int):=
 if x.kind=0 then(I st x.module).bind λ r=>
  if r.2.2≠0 then some (r.1,r.2.2) else if cmpI .lss (cix r.1 (qc x.module)) 0=true then some (r.1,1) else some (r.1.give at_ (qc x.module) ⟨1,cix r.1 (qc x.module)⟩,0)
 else if x.kind=1 then
  if zn (qD (XJ st at_) x.level x.module)=false then some (st,5) else
  (I st (qD (XJ st at_) x.level x.module)).bind λ r=>if r.2.2≠0 then some (r.1,r.2.2) else
  (Wr t path I r.1 r.2.1.toNat x.name).bind λ q=>if q.2.2≠0 then some (q.1,q.2.2) else some (q.1.give at_ x.name q.2.1,0)
 else if x.kind=2 then(I st x.module).bind λ r=>
  if r.2.2≠0 then some (r.1,r.2.2) else some (starF at_ (r.1.attrsAt r.2.1.toNat) r.1,0)
 else if x.kind=3 then some (st.give at_ x.name ⟨0,x.value⟩,0)
 else if x.kind=4 then
  if cmpI .lss (aix (st.attrsAt at_) x.name) 0=true then some (st,3) else
  some ({ st with out:=st.out++[(let v:=(((st.attrsAt at_)[(aix (st.attrsAt at_) x.name).toNat]?).map (·.value)).getD ⟨0,0⟩;if v.kind=1 then -1 else v.num)] },0)
 else if x.kind=5 then some (st,4)
 else some (st,0)
def XV(I:RImp)(at_:Nat):List Stmt->RSt->Option (RSt×Int)
 | [],st=>some (st,0)
 | x::xs,st=>if st.left=0 then some (st,6) else(qE t path I { st with left:=st.left - 1 } at_ x).bind λ r=>if r.2≠0 then some r else XV I at_ xs r.1
def runF(I:RImp)(st:RSt)(at_:Nat)(sp:Spec):Option (RSt×Int):=if cmpI .geq sp.file 0=true then XV t path I at_ (Y9 t.files sp.file).body st else some (st,0)
def newF(I:RImp)(st:RSt)(s:Str)(sp:Spec):Option (RSt×Int×Int):=
 if sp.kind=0 then some (st,-1,1) else
 (runF t path I (st.begin s sp) st.mods.length sp).bind λ r=>
  if r.2≠0 then some (r.1.fail st.mods.length s,-1,r.2) else some ((r.1.done st.mods.length s).tell st.mods.length s,(st.mods.length:Int),0)
def impF(I:RImp)(st:RSt)(s:Str):Option (RSt×Int×Int):=
 if cmpI .geq (cix st s) 0=true then some (st.hit (cix st s).toNat s,cix st s,0) else
 (if zG s=emptyS then some (st,0,0) else I st (zG s)).bind λ r=>
  if r.2.2≠0 then some (r.1,-1,r.2.2) else
  if cmpI .geq (cix r.1 s) 0=true then some (r.1.hit (cix r.1 s).toNat s,cix r.1 s,0) else newF t path I r.1 s (Yg t path r.1 s)
def imp:Nat->RImp
 | 0=>λ _ _=>none
 | n+1=>impF t path (imp n)
end
open Go.RowKit
theorem Qj{α:Type}{p:α->Bool}{l:List α}(h:cmpI .geq (xt p l) 0=true):∃ x,l[(xt p l).toNat]?=some x/\p x=true/\0<=xt p l:=by
 rw[lss_geq] at h
 have h':cmpI .lss (xt p l) 0=false:=by simpa using h
 obtain⟨x,h1,h2⟩:=idxOf_some h'
 exact⟨x,h1,h2,by simpa[cmpI] using h'⟩
theorem Zp(s:Str):1<=(zC s dot).length:=by have:=X4 s dot;omega
theorem wU{s:Str}(h:zn s=true):(zC s dot).length<=3:=(jf h).2
theorem ZB{s:Str}(h:zn s=true)(hp:zG s≠emptyS):(zC (zG s) dot).length+1=(zC s dot).length/\zn (zG s)=true:=by
 obtain⟨h1,h2⟩:=jf h
 have h0:=Zp s
 by_cases e:(zC s dot).length=1
 ·
  exfalso
  apply hp
  unfold zG
  rw[e]
  rfl
 ·
  have hne:(zC s dot).take ((zC s dot).length - 1)≠[]:=λ e1=>by
   have:=congrArg List.length e1
   rw[List.length_take,List.length_nil] at this
   omega
  have hv:∀ x∈(zC s dot).take ((zC s dot).length - 1),zy x=true:=λ x hx=>h1 x (List.mem_of_mem_take hx)
  constructor
  ·
   unfold zG
   rw[Q0 hne hv,List.length_take]
   omega
  ·
   exact Q1 hne (by rw[List.length_take];omega) hv
theorem XK{s:Str}(h:zn s=true):zy (wo s)=true:=(jf h).1 _ (List.mem_of_getElem? (last_get s))
theorem first_valid{s:Str}(h:zn s=true):zy (qc s)=true:=by
 unfold qc
 have h1:=(jf h).1
 have h0:=Zp s
 cases hs:zC s dot with
 | nil=>rw[hs] at h0;simp at h0
 | cons a l=>exact h1 a (by rw[hs];exact List.mem_cons_self ..)
theorem Zq{x:Stmt}(h:zP x=true)(hk:x.kind=0\/x.kind=2):zn x.module=true:=by
 rcases Ze h with h1 | h1 | h1
 ·
  exact h1.2
 ·
  omega
 ·
  omega
theorem Xp{x:Stmt}(h:zP x=true)(hk:x.kind=1\/x.kind=3\/x.kind=4):zy x.name=true:=by
 unfold zP at h
 rcases hk with hk | hk | hk <;> simp only[hk,cmpI] at h <;> simp at h <;> first | exact h.1.2 | exact h.2.1 | exact h.1.1.2 | (exact h.1.2.1) | (exact h.2.2.1)
structure Inv(st:RSt):Prop where
 names:∀ m∈st.mods,zn m.name=true
 roots:∀ m∈st.mods,m.roots.length<=1048576
 parts:∀ m∈st.mods,∀ a∈m.attrs,zy a.name=true
 apart:∀ m∈st.mods,(m.attrs.map (·.name)).Nodup
 left:0<=st.left
structure Grow(a b:RSt):Prop where
 left:b.left<=a.left
 old:∀ (i:Nat) (m:GMod),a.mods[i]?=some m->∃ m',b.mods[i]?=some m'/\m'.name=m.name
theorem Grow.refl(a:RSt):Grow a a:=⟨Int.le_refl _,λ _ m h=>⟨m,h,rfl⟩⟩
theorem Grow.trans{a b c:RSt}(h:Grow a b)(k:Grow b c):Grow a c:=⟨Int.le_trans k.left h.left,λ i m hm=>let⟨m1,h1,h2⟩:=h.old i m hm;let⟨m2,k1,k2⟩:=k.old i m1 h1;⟨m2,k1,k2.trans h2⟩⟩
def RSt.size(st:RSt):Nat:=st.log.length+st.out.length+st.mods.length+st.part.length+100*st.left.toNat
theorem JN{α:Type}{l:List α}{k:Nat}{f:α->α}{x:α}(h:x∈updA l k f):x∈l\/∃ y∈l,x=f y:=by
 unfold updA at h
 split at h
 ·
  rename_i y hy
  rcases List.mem_or_eq_of_mem_set h with h | h
  ·
   exact .inl h
  ·
   exact .inr ⟨y,List.mem_of_getElem? hy,h⟩
 ·
  exact .inl h
theorem updA_old{l:List GMod}{k:Nat}{f:GMod->GMod}(hf:∀ m,(f m).name=m.name){i:Nat}{m:GMod}(h:l[i]?=some m):∃ m',(updA l k f)[i]?=some m'/\m'.name=m.name:=by
 rw[updA_get]
 by_cases e:i=k
 ·
  subst e
  rw[if_pos rfl,h]
  exact⟨f m,rfl,hf m⟩
 ·
  rw[if_neg e]
  exact⟨m,h,rfl⟩
theorem put_names(l:List GAttr)(s:Str)(v:GVal):(jX l s v).map (·.name)=if cmpI .geq (aix l s) 0=true then l.map (·.name) else l.map (·.name)++[s]:=by
 unfold jX
 split
 ·
  rename_i h
  obtain⟨x,h1,h2,_⟩:=Qj h
  have h1':l[(aix l s).toNat]?=some x:=h1
  rw[Ym _ h1',List.map_set]
  apply List.ext_getElem?
  intro i
  by_cases e:(aix l s).toNat=i
  ·
   subst e
   have:=zH h1'
   rw[List.getElem?_set_self (by simpa using this),List.getElem?_map,h1'];rfl
  ·
   rw[List.getElem?_set_ne e]
 ·
  simp
theorem W9{α:Type}{p:α->Bool}{l:List α}(h:cmpI .geq (xt p l) 0=false):∀ x∈l,p x=false:=by
 rw[Wm] at h
 intro x hx
 cases hp:p x with
 | false=>rfl
 | true=>rw[List.any_eq_true.2 ⟨x,hx,hp⟩] at h;cases h
theorem put_apart{l:List GAttr}{s:Str}{v:GVal}(h:(l.map (·.name)).Nodup):((jX l s v).map (·.name)).Nodup:=by
 rw[put_names]
 split
 ·
  exact h
 ·
  rename_i hh
  have hn:=W9 (by simpa[aix] using hh)
  refine List.nodup_append.2 ⟨h,by simp,λ a ha b hb e=>?_⟩
  simp only[List.mem_singleton] at hb
  subst hb;subst e
  obtain⟨x,hx,hxa⟩:=List.mem_map.1 ha
  have:=hn x hx
  simp[hxa] at this
theorem put_parts{l:List GAttr}{s:Str}{v:GVal}(hs:zy s=true)(h:∀ a∈l,zy a.name=true):∀ a∈jX l s v,zy a.name=true:=by
 intro a ha
 have:a.name∈(jX l s v).map (·.name):=List.mem_map_of_mem ha
 rw[put_names] at this
 split at this
 ·
  obtain⟨x,hx,e⟩:=List.mem_map.1 this;rw[← e];exact h x hx
 ·
  rcases List.mem_append.1 this with h1 | h1
  ·
   obtain⟨x,hx,e⟩:=List.mem_map.1 h1;rw[← e];exact h x hx
  ·
   simp only[List.mem_singleton] at h1;rw[h1];exact hs
variable{st:RSt}
theorem Inv.upd(h:Inv st){k:Nat}{f:GMod->GMod}(h1:∀ m,(f m).name=m.name)(h2:∀ m∈st.mods,(f m).roots.length<=1048576)(h3:∀ m∈st.mods,∀ a∈(f m).attrs,zy a.name=true)(h4:∀ m∈st.mods,((f m).attrs.map (·.name)).Nodup){lg:List GEvent}{o:List Int}:Inv { st with mods:=updA st.mods k f,log:=lg,out:=o } where
 names:=λ m hm=>(JN hm).elim (h.names m) λ⟨y,hy,e⟩=>by rw[e,h1];exact h.names y hy
 roots:=λ m hm=>(JN hm).elim (h.roots m) λ⟨y,hy,e⟩=>by rw[e];exact h2 y hy
 parts:=λ m hm=>(JN hm).elim (h.parts m) λ⟨y,hy,e⟩=>by rw[e];exact h3 y hy
 apart:=λ m hm=>(JN hm).elim (h.apart m) λ⟨y,hy,e⟩=>by rw[e];exact h4 y hy
 left:=h.left
theorem Inv.hit(h:Inv st)(k:Nat)(s:Str):Inv (st.hit k s):=⟨h.names,h.roots,h.parts,h.apart,h.left⟩
theorem size_hit(st:RSt)(k:Nat)(s:Str):(st.hit k s).size<=st.size+2:=by
 unfold RSt.size RSt.hit
 simp only[List.length_append,List.length_cons,List.length_nil]
 split
 ·
  simp only[List.length_append,List.length_cons,List.length_nil];omega
 ·
  omega
theorem Inv.note(h:Inv st)(k:Int)(s:Str):Inv (st.note k s):=⟨h.names,h.roots,h.parts,h.apart,h.left⟩
theorem Inv.give(h:Inv st)(k:Nat){s:Str}(v:GVal)(hs:zy s=true):Inv (st.give k s v):=
 h.upd (f:=λ m=>{ m with attrs:=jX m.attrs s v }) (lg:=st.log) (o:=st.out) (λ _=>rfl) h.roots (λ m hm=>put_parts hs (h.parts m hm)) λ m hm=>put_apart (h.apart m hm)
theorem Inv.fail(h:Inv st)(k:Nat)(s:Str):Inv (st.fail k s):=h.upd (f:=λ m=>{ m with cached:=false }) (λ _=>rfl) h.roots h.parts h.apart
theorem Inv.done(h:Inv st)(k:Nat)(s:Str):Inv (st.done k s):=h.upd (f:=λ m=>{ m with done:=true }) (λ _=>rfl) h.roots h.parts h.apart
theorem Inv.begin(h:Inv st){s:Str}{sp:Spec}(hs:zn s=true)(hr:sp.roots.length<=1048576):Inv (st.begin s sp) where
 names:=λ m hm=>(List.mem_append.1 hm).elim (h.names m) λ e=>by simp only[List.mem_singleton] at e;rw[e];exact hs
 roots:=λ m hm=>(List.mem_append.1 hm).elim (h.roots m) λ e=>by simp only[List.mem_singleton] at e;rw[e];exact hr
 parts:=λ m hm=>(List.mem_append.1 hm).elim (h.parts m) λ e=>by simp only[List.mem_singleton] at e;rw[e];intro a ha;simp at ha
 apart:=λ m hm=>(List.mem_append.1 hm).elim (h.apart m) λ e=>by simp only[List.mem_singleton] at e;rw[e];exact List.Pairwise.nil
 left:=h.left
theorem Grow.upd{k:Nat}{f:GMod->GMod}(h1:∀ m,(f m).name=m.name){lg:List GEvent}{o:List Int}:Grow st { st with mods:=updA st.mods k f,log:=lg,out:=o }:=⟨Int.le_refl _,λ _ _ h=>updA_old h1 h⟩
theorem Grow.give(k:Nat)(s:Str)(v:GVal):Grow st (st.give k s v):=Grow.upd (f:=λ m=>{ m with attrs:=jX m.attrs s v }) (lg:=st.log) (o:=st.out) λ _=>rfl
theorem Grow.begin(s:Str)(sp:Spec):Grow st (st.begin s sp):=⟨Int.le_refl _,λ i m h=>⟨m,by
 show(st.mods++_)[i]?=some m
 rw[List.getElem?_append_left (zH h)];exact h,rfl⟩⟩
theorem Xq(k:Nat)(s:Str)(v:GVal):(st.give k s v).size=st.size:=by unfold RSt.size RSt.give;simp[Wq]
theorem Inv.tell(h:Inv st)(k:Nat){s:Str}(hs:zn s=true):Inv (st.tell k s):=by
 unfold RSt.tell;split
 ·
  exact h.give _ _ (XK hs)
 ·
  exact h
theorem Grow.tell(k:Nat)(s:Str):Grow st (st.tell k s):=by
 unfold RSt.tell;split
 ·
  exact Grow.give ..
 ·
  exact Grow.refl _
theorem size_tell(k:Nat)(s:Str):(st.tell k s).size=st.size:=by
 unfold RSt.tell;split
 ·
  exact Xq ..
 ·
  rfl
theorem star_ok(at_:Nat):∀ (l:List GAttr) {st:RSt},Inv st->(∀ a∈l,zy a.name=true)->Inv (starF at_ l st)/\Grow st (starF at_ l st)/\(starF at_ l st).size=st.size
 | [],st,h,_=>⟨h,Grow.refl _,rfl⟩
 |
  a::l,st,h,hl=>by
  unfold starF
  rw[List.foldl_cons]
  have hl':=λ b hb=>hl b (List.mem_cons_of_mem _ hb)
  split
  ·
   exact star_ok at_ l h hl'
  ·
   have h1:=star_ok at_ l (h.give at_ a.value (hl a (List.mem_cons_self ..))) hl'
   exact⟨h1.1,(Grow.give at_ a.name a.value).trans h1.2.1,h1.2.2.trans (Xq ..)⟩
variable{t:Tree}{path:List Int}
structure ImpPost(st:RSt)(s:Str)(r:RSt×Int×Int):Prop where
 inv:Inv r.1
 grow:Grow st r.1
 size:r.1.size<=st.size+4*(zC s dot).length
 good:r.2.2=0->∃ m,r.1.mods[r.2.1.toNat]?=some m/\m.name=s/\0<=r.2.1
 bad:r.2.2≠0->r.2.1=-1
 ends:0<=r.2.2/\r.2.2<=6
def qF(n:Nat)(I:RImp):Prop:=∀ (st:RSt) (s:Str),Inv st->zn s=true->4*st.left.toNat+(zC s dot).length<=n->∃ r,I st s=some r/\ImpPost st s r
structure BodyPost(st:RSt)(c:Nat)(r:RSt×Int):Prop where
 inv:Inv r.1
 grow:Grow st r.1
 size:r.1.size<=st.size+c
 ends:0<=r.2/\r.2<=6
theorem Inv.attrs(h:Inv st)(k:Nat):(∀ a∈st.attrsAt k,zy a.name=true)/\((st.attrsAt k).map (·.name)).Nodup:=by
 unfold RSt.attrsAt
 cases hm:st.mods[k]? with
 | none=>exact⟨by simp,by simp⟩
 | some m=>exact⟨h.parts m (List.mem_of_getElem? hm),h.apart m (List.mem_of_getElem? hm)⟩
theorem JO(tf:List File){roots:List Int}{p s:Str}(h:roots.length<=1048576):(Zf tf roots p s).roots.length<=1048576:=by
 have:=Qo tf p s roots []
 unfold Zf
 simp at this
 omega
theorem Ja(h:Inv st)(hp:path.length<=1048576)(s:Str):(Yg t path st s).roots.length<=1048576:=by
 unfold Yg
 split
 ·
  exact JO _ hp
 ·
  split
  ·
   exact Nat.zero_le _
  ·
   split
   ·
    exact Nat.zero_le _
   ·
    refine JO _ ?_
    unfold RSt.rootsAt
    cases hm:st.mods[(cix st (zG s)).toNat]? with
    | none=>exact Nat.zero_le _
    | some m=>exact h.roots m (List.mem_of_getElem? hm)
theorem value_ok{n:Nat}{I:RImp}(hI:qF n I)(h:Inv st)(hn:4*st.left.toNat+3<=n)(k:Nat)(s:Str)(_hs:zy s=true):∃ r,Wr t path I st k s=some r/\BodyPost st 12 (r.1,r.2.2):=by
 unfold Wr
 have h0:∀ {v:GVal} {e:Int},0<=e->e<=6->∃ r,some (st,v,e)=some r/\BodyPost st 12 (r.1,r.2.2):=λ h1 h2=>⟨_,rfl,h,Grow.refl _,Nat.le_add_right _ _,h1,h2⟩
 split
 ·
  exact h0 (by decide) (by decide)
 ·
  split
  ·
   exact h0 (by decide) (by decide)
  ·
   rename_i hc
   split
   ·
    exact h0 (by decide) (by decide)
   ·
    have hv:zn (child (st.nameAt k) s)=true:=by
     cases hv:zn (child (st.nameAt k) s) with
     | true=>rfl
     | false=>exact absurd (.inr hv) hc
    have hp:=wU hv
    obtain⟨r,hr,hk⟩:=hI st _ h hv (by omega)
    rw[hr]
    have:=hk.size
    exact⟨_,rfl,hk.inv,hk.grow,by simp only;omega,hk.ends⟩
theorem stmt_ok{n:Nat}{I:RImp}(hI:qF n I)(h:Inv st)(hn:4*st.left.toNat+3<=n)(at_:Nat){x:Stmt}(hx:zP x=true):∃ r,qE t path I st at_ x=some r/\BodyPost st 30 r:=by
 have h0:∀ {e:Int},0<=e->e<=6->∃ r,some (st,e)=some r/\BodyPost st 30 r:=λ h1 h2=>⟨_,rfl,h,Grow.refl _,Nat.le_add_right _ _,h1,h2⟩
 have key:∀ {s:Str} (hv:zn s=true),∃ r,I st s=some r/\ImpPost st s r/\r.1.size<=st.size+12:=λ hv=>by
  have hp:=wU hv
  obtain⟨r,hr,hk⟩:=hI st _ h hv (by omega)
  have:=hk.size
  exact⟨r,hr,hk,by omega⟩
 unfold qE
 split
 ·
  rename_i hk
  have hv:zn x.module=true:=Zq hx (.inl hk)
  obtain⟨r,hr,hp,hsz⟩:=key hv
  rw[hr]
  simp only[obS]
  split
  ·
   exact⟨_,rfl,hp.inv,hp.grow,by simp only;omega,hp.ends⟩
  ·
   split
   ·
    exact⟨_,rfl,hp.inv,hp.grow,by simp only;omega,by simp,by simp⟩
   ·
    exact⟨_,rfl,hp.inv.give _ _ (first_valid hv),hp.grow.trans (Grow.give ..),by simp only[Xq];omega,by simp,by simp⟩
 ·
  rename_i k0
  split
  ·
   rename_i k1
   split
   ·
    exact h0 (by decide) (by decide)
   ·
    rename_i hv
    have hv':zn (qD (XJ st at_) x.level x.module)=true:=by simpa using hv
    obtain⟨r,hr,hp,hsz⟩:=key hv'
    rw[hr]
    simp only[obS]
    split
    ·
     exact⟨_,rfl,hp.inv,hp.grow,by simp only;omega,hp.ends⟩
    ·
     have hl:=hp.grow.left
     obtain⟨q,hq,hb⟩:=value_ok (t:=t) (path:=path) hI hp.inv (by have:=h.left;have:=hp.inv.left;omega) r.2.1.toNat x.name (Xp hx (.inl k1))
     have hbs:=hb.size
     rw[hq]
     simp only[obS]
     split
     ·
      exact⟨_,rfl,hb.inv,hp.grow.trans hb.grow,by simp only at hbs ⊢;omega,hb.ends⟩
     ·
      exact⟨_,rfl,hb.inv.give _ _ (Xp hx (.inl k1)),hp.grow.trans (hb.grow.trans (Grow.give ..)),by simp only[Xq] at hbs ⊢;omega,by simp,by simp⟩
  ·
   rename_i k1
   split
   ·
    rename_i k2
    obtain⟨r,hr,hp,hsz⟩:=key (Zq hx (.inr k2))
    rw[hr]
    simp only[obS]
    split
    ·
     exact⟨_,rfl,hp.inv,hp.grow,by simp only;omega,hp.ends⟩
    ·
     have h1:=star_ok at_ _ hp.inv (hp.inv.attrs r.2.1.toNat).1
     exact⟨_,rfl,h1.1,hp.grow.trans h1.2.1,by simp only[h1.2.2];omega,by simp,by simp⟩
   ·
    split
    ·
     rename_i k3
     exact⟨_,rfl,h.give _ _ (Xp hx (.inr (.inl k3))),Grow.give ..,by simp only[Xq];omega,by simp,by simp⟩
    ·
     split
     ·
      split
      ·
       exact h0 (by decide) (by decide)
      ·
       refine⟨_,rfl,⟨h.names,h.roots,h.parts,h.apart,h.left⟩,⟨Int.le_refl _,λ _ m h=>⟨m,h,rfl⟩⟩,?_,by simp,by simp⟩
       unfold RSt.size
       simp only[List.length_append,List.length_cons,List.length_nil]
       omega
     ·
      split
      ·
       exact h0 (by decide) (by decide)
      ·
       exact h0 (by decide) (by decide)
theorem body_ok{n:Nat}{I:RImp}(hI:qF n I)(at_:Nat):∀ (l:List Stmt) (st:RSt),Inv st->4*st.left.toNat<=n+1->(∀ x∈l,zP x=true)->∃ r,XV t path I at_ l st=some r/\BodyPost st 0 r
 | [],st,h,_,_=>⟨_,rfl,h,Grow.refl _,Nat.le_refl _,by simp,by simp⟩
 |
  x::l,st,h,hn,hl=>by
  unfold XV
  split
  ·
   exact⟨_,rfl,h,Grow.refl _,Nat.le_refl _,by simp,by simp⟩
  ·
   rename_i hz
   have h1:Inv { st with left:=st.left - 1 }:=⟨h.names,h.roots,h.parts,h.apart,by have:=h.left;show(0:Int)<=st.left - 1;omega⟩
   have hgr:Grow st { st with left:=st.left - 1 }:=⟨by show st.left - 1<=st.left;omega,λ _ m h=>⟨m,h,rfl⟩⟩
   have hsz:RSt.size { st with left:=st.left - 1 }+100=st.size:=by
    unfold RSt.size
    have:=h.left
    simp only
    omega
   obtain⟨r,hr,hb⟩:=stmt_ok (t:=t) (path:=path) hI h1 (by have:=h.left;show 4*(st.left - 1).toNat+3<=n;omega) at_ (hl x (List.mem_cons_self ..))
   have hbs:=hb.size
   rw[hr]
   simp only[obS]
   split
   ·
    exact⟨_,rfl,hb.inv,hgr.trans hb.grow,by omega,hb.ends⟩
   ·
    have hle:=hb.grow.left
    obtain⟨q,hq,hk⟩:=body_ok hI at_ l r.1 hb.inv (by have:=h.left;have:=hb.inv.left;simp only at hle;omega) λ y hy=>hl y (List.mem_cons_of_mem _ hy)
    have hks:=hk.size
    exact⟨q,hq,hk.inv,hgr.trans (hb.grow.trans hk.grow),by omega,hk.ends⟩
theorem XL(hv:ye t=true)(k:Int):∀ x∈(Y9 t.files k).body,zP x=true:=by
 unfold Y9
 cases hf:t.files[k.toNat]? with
 | none=>intro x hx;simp at hx;cases hx
 |
  some f=>
  have:=YJ hv (List.mem_of_getElem? hf)
  unfold wZ at this
  simp only[Bool.and_eq_true] at this
  exact List.all_eq_true.1 this.1
theorem run_ok{n:Nat}{I:RImp}(hv:ye t=true)(hI:qF n I)(h:Inv st)(hn:4*st.left.toNat<=n+1)(at_:Nat)(sp:Spec):∃ r,runF t path I st at_ sp=some r/\BodyPost st 0 r:=by
 unfold runF
 split
 ·
  exact body_ok hI at_ _ st h hn (XL hv _)
 ·
  exact⟨_,rfl,h,Grow.refl _,Nat.le_refl _,by simp,by simp⟩
theorem new_ok{n:Nat}{I:RImp}(hv:ye t=true)(hI:qF n I)(h:Inv st)(hn:4*st.left.toNat<=n+1){s:Str}(hs:zn s=true){sp:Spec}(hr:sp.roots.length<=1048576):∃ r,newF t path I st s sp=some r/\ImpPost st s r/\r.1.size<=st.size+3:=by
 unfold newF
 have hpp:=Zp s
 split
 ·
  exact⟨_,rfl,⟨h,Grow.refl _,Nat.le_add_right _ _,λ e=>absurd e (by simp),λ _=>rfl,by simp,by simp⟩,Nat.le_add_right _ _⟩
 ·
  have h1:=h.begin (sp:=sp) hs hr
  have hbz:(st.begin s sp).size=st.size+2:=by unfold RSt.size RSt.begin;simp only[List.length_append,List.length_cons,List.length_nil];omega
  obtain⟨r,hr,hb⟩:=run_ok (path:=path) hv hI h1 (by show 4*st.left.toNat<=n+1;exact hn) st.mods.length sp
  have hbs:=hb.size
  have hg:Grow st r.1:=(Grow.begin s sp).trans hb.grow
  obtain⟨m,hm,hmn⟩:=hb.grow.old st.mods.length ⟨s,sp.kind,sp.roots,true,false,[]⟩ (by unfold RSt.begin;simp)
  rw[hr]
  simp only[obS]
  split
  ·
   rename_i he
   have hsz:(r.1.fail st.mods.length s).size=r.1.size+1:=by unfold RSt.size RSt.fail;simp only[Wq,List.length_append,List.length_cons,List.length_nil];omega
   exact⟨_,rfl,⟨hb.inv.fail _ _,hg.trans (Grow.upd (f:=λ m=>{ m with cached:=false }) λ _=>rfl),by simp only;omega,λ e=>absurd e he,λ _=>rfl,hb.ends⟩,by simp only;omega⟩
  ·
   have hsz:(r.1.done st.mods.length s).size=r.1.size+1:=by unfold RSt.size RSt.done;simp only[Wq,List.length_append,List.length_cons,List.length_nil];omega
   have hgd:Grow r.1 (r.1.done st.mods.length s):=Grow.upd (f:=λ m=>{ m with done:=true }) λ _=>rfl
   have hgt:=Grow.tell (st:=r.1.done st.mods.length s) st.mods.length s
   refine⟨_,rfl,⟨(hb.inv.done _ _).tell _ hs,hg.trans (hgd.trans hgt),by simp only[size_tell];omega,λ _=>?_,λ e=>absurd rfl e,by simp,by simp⟩,by simp only[size_tell];omega⟩
   obtain⟨m2,hm2,hn2⟩:=(hgd.trans hgt).old _ m hm
   exact⟨m2,by simpa using hm2,hn2.trans hmn,by simp only;omega⟩
theorem imp_ok(hv:ye t=true)(hp:path.length<=1048576):∀ n,qF n (imp t path n)
 | 0=>λ st s _ _ hn=>absurd (Zp s) (by omega)
 |
  n+1=>by
  intro st s h hs hn
  have hpp:=Zp s
  unfold imp impF
  have hhit:∀ {st':RSt},Inv st'->Grow st st'->st'.size+2<=st.size+4*(zC s dot).length->cmpI .geq (cix st' s) 0=true->∃ r,some (st'.hit (cix st' s).toNat s,cix st' s,(0:Int))=some r/\ImpPost st s r:=λ h' hg hsz hc=>by
   obtain⟨m,h1,h2,h3⟩:=Qj hc
   refine⟨_,rfl,h'.hit _ _,hg.trans ⟨Int.le_refl _,λ _ m h=>⟨m,h,rfl⟩⟩,?_,λ _=>⟨m,h1,?_,h3⟩,λ e=>absurd rfl e,by simp,by simp⟩
   ·
    exact Nat.le_trans (size_hit _ _ s) hsz
   ·
    unfold hits at h2
    simp only[Bool.and_eq_true,decide_eq_true_eq] at h2
    exact h2.1
  split
  ·
   rename_i hc
   exact hhit h (Grow.refl _) (by omega) hc
  ·
   have hpar:∃ r,(if zG s=emptyS then some (st,(0:Int),(0:Int)) else imp t path n st (zG s))=some r/\Inv r.1/\Grow st r.1/\r.1.size+4<=st.size+4*(zC s dot).length/\0<=r.2.2/\r.2.2<=6:=by
    split
    ·
     exact⟨_,rfl,h,Grow.refl _,by simp only;omega,by simp,by simp⟩
    ·
     rename_i he
     obtain⟨e1,e2⟩:=ZB hs he
     obtain⟨r,hr,hk⟩:=imp_ok hv hp n st (zG s) h e2 (by omega)
     have:=hk.size
     exact⟨r,hr,hk.inv,hk.grow,by omega,hk.ends⟩
   obtain⟨r,hr,hi,hg,hsz,he⟩:=hpar
   rw[hr]
   simp only[obS]
   split
   ·
    rename_i hne
    exact⟨_,rfl,hi,hg,by simp only;omega,λ e=>absurd e hne,λ _=>rfl,he⟩
   ·
    split
    ·
     rename_i hc
     exact hhit hi hg (by omega) hc
    ·
     have hl:=hg.left
     obtain⟨q,hq,hk,hks⟩:=new_ok (path:=path) hv (imp_ok hv hp n) hi (by have:=h.left;have:=hi.left;omega) hs (Ja (t:=t) hi hp s)
     exact⟨q,hq,hk.inv,hg.trans hk.grow,by omega,hk.good,hk.bad,hk.ends⟩
open Go.RowKit
theorem idxOf_cases{α:Type}(p:α->Bool)(l:List α):(xt p l=-1/\∀ x∈l,p x=false)\/∃ (k:Nat) (x:α),xt p l=(k:Int)/\l[k]?=some x/\p x=true:=by
 cases h:cmpI .geq (xt p l) 0 with
 |
  true=>
  obtain⟨x,h1,h2,h3⟩:=Qj h
  exact .inr ⟨(xt p l).toNat,x,(Int.toNat_of_nonneg h3).symm,h1,h2⟩
 |
  false=>
  refine .inl ⟨?_,W9 h⟩
  have hn:=W9 h
  unfold xt
  rw[List.findIdx?_eq_none_iff.2 hn]
theorem qL(st:RSt)(s:Str):(cix st s=-1/\∀ m∈st.mods,hits s m=false)\/∃ (k:Nat) (m:GMod),cix st s=(k:Int)/\st.mods[k]?=some m/\m.name=s/\m.cached=true:=by
 rcases idxOf_cases (hits s) st.mods with h | ⟨k,m,h1,h2,h3⟩
 ·
  exact .inl h
 ·
  unfold hits at h3
  simp only[Bool.and_eq_true,decide_eq_true_eq] at h3
  exact .inr ⟨k,m,h1,h2,h3.1,h3.2⟩
theorem jY(k:Nat):cmpI .geq (k:Int) 0=true:=by simp[cmpI]
theorem JP(k:Nat):cmpI .lss (k:Int) 0=false:=by simp[cmpI]
theorem geq_m1:cmpI .geq (-1:Int) 0=false:=rfl
theorem lss_m1:cmpI .lss (-1:Int) 0=true:=rfl
def enc(s:Str):Nat:=match s.l with
 | [a]=>a.toNat
 | [a,b]=>a.toNat+256*b.toNat
 | [a,b,c]=>a.toNat+256*b.toNat+65536*c.toNat
 | _=>0
theorem XM{s:Str}(h:zy s=true):(∃ a,s=⟨[a]⟩/\1<=a.toNat)\/(∃ a b,s=⟨[a,b]⟩/\1<=a.toNat/\1<=b.toNat)\/∃ a b c,s=⟨[a,b,c]⟩/\1<=a.toNat/\1<=b.toNat/\1<=c.toNat:=by
 have hl:∀ {b:UInt8},low b=true->1<=b.toNat:=λ{b} hb=>by
  unfold low at hb
  simp[cmpB] at hb
  have h1:=hb.1
  rw[UInt8.le_iff_toNat_le] at h1
  simp at h1
  omega
 unfold zy inR at h
 simp only[Bool.and_eq_true,List.all_eq_true] at h
 obtain⟨h1,h2⟩:=h
 cases s with
 | mk l=>
 match l,h1,h2 with
 | [],h1,_=>simp[cmpI] at h1
 | [a],_,h2=>exact .inl ⟨a,rfl,hl (h2 a (by simp))⟩
 | [a,b],_,h2=>exact .inr (.inl ⟨a,b,rfl,hl (h2 a (by simp)),hl (h2 b (by simp))⟩)
 | [a,b,c],_,h2=>exact .inr (.inr ⟨a,b,c,rfl,hl (h2 a (by simp)),hl (h2 b (by simp)),hl (h2 c (by simp))⟩)
 | a::b::c::d::l,h1,_=>simp[cmpI] at h1;omega
theorem enc_inj{s t:Str}(hs:zy s=true)(ht:zy t=true)(h:enc s=enc t):s=t:=by
 have lt:∀ a:UInt8,a.toNat<256:=λ a=>a.toNat_lt
 have inj:∀ {a b:UInt8},a.toNat=b.toNat->a=b:=λ h=>UInt8.toNat_inj.1 h
 rcases XM hs with⟨a,rfl,h1⟩ | ⟨a,b,rfl,h1,h2⟩ | ⟨a,b,c,rfl,h1,h2,h3⟩ <;> rcases XM ht with⟨x,rfl,k1⟩ | ⟨x,y,rfl,k1,k2⟩ | ⟨x,y,z,rfl,k1,k2,k3⟩ <;> simp only[enc] at h
 ·
  rw[inj (a:=a) (b:=x) (by omega)]
 ·
  have:=lt a;have:=lt x;omega
 ·
  have:=lt a;have:=lt x;have:=lt y;omega
 ·
  have:=lt a;have:=lt x;omega
 ·
  have:=lt a;have:=lt x;rw[inj (a:=a) (b:=x) (by omega),inj (a:=b) (b:=y) (by omega)]
 ·
  have:=lt a;have:=lt x;have:=lt b;have:=lt y;omega
 ·
  have:=lt a;have:=lt x;have:=lt b;omega
 ·
  have:=lt a;have:=lt x;have:=lt b;have:=lt y;omega
 ·
  have:=lt a;have:=lt x;have:=lt b;have:=lt y;rw[inj (a:=a) (b:=x) (by omega),inj (a:=b) (b:=y) (by omega),inj (a:=c) (b:=z) (by omega)]
theorem enc_lt(s:Str):enc s<16777216:=by
 unfold enc
 have lt:∀ a:UInt8,a.toNat<256:=λ a=>a.toNat_lt
 split
 ·
  rename_i a _;have:=lt a;omega
 ·
  rename_i a b _;have:=lt a;have:=lt b;omega
 ·
  rename_i a b c _;have:=lt a;have:=lt b;have:=lt c;omega
 ·
  omega
theorem attrs_few{l:List GAttr}(h1:∀ a∈l,zy a.name=true)(h2:(l.map (·.name)).Nodup):l.length<=16777216:=by
 have h3:((l.map (·.name)).map enc).Nodup:=by
  unfold List.Nodup
  rw[List.pairwise_map]
  refine List.Pairwise.imp_of_mem (λ{a b} ha hb hne e=>hne (enc_inj ?_ ?_ e)) h2
  ·
   obtain⟨x,hx,rfl⟩:=List.mem_map.1 ha;exact h1 x hx
  ·
   obtain⟨x,hx,rfl⟩:=List.mem_map.1 hb;exact h1 x hx
 have h4:=nodupLen (m:=List.range 16777216) h3 (λ x hx=>by
  obtain⟨y,_,rfl⟩:=List.mem_map.1 hx
  exact List.mem_range.2 (enc_lt y))
 simpa using h4
variable(t:Tree)(path:List Int)
def bxs(l:List GMod):List (Bx GMod):=l.map λ m=>⟨m⟩
def mach(st:RSt):Machine:=⟨t,path,⟨⟩,⟨yt⟩,bxs st.mods,st.out,st.log,st.part,st.left⟩
variable{t path}
theorem bxs_get(l:List GMod)(k:Nat):(bxs l)[k]?=(l[k]?).map λ m=>⟨m⟩:=List.getElem?_map ..
theorem bxs_len(l:List GMod):(bxs l).length=l.length:=List.length_map ..
theorem JQ(l:List GMod)(k:Nat)(m:GMod):(bxs l).set k ⟨m⟩=bxs (l.set k m):=(List.map_set).symm
theorem bxs_app(l:List GMod)(m:GMod):bxs l++[⟨m⟩]=bxs (l++[m]):=by unfold bxs;rw[List.map_append];rfl
theorem bxs_idx(l:List GMod)(s:Str):xt (λ x:Bx GMod=>hits s x.x) (bxs l)=xt (hits s) l:=by
 unfold xt bxs
 rw[List.findIdx?_map]
 rfl
theorem Yp{st:RSt}(h:st.mods.length<=1048576)(s:Str):zS (mach t path st) s=some (cix st s):=by
 unfold zS yg
 have hl:zO (λ s4=>zK (bxs st.mods) (λ a0=>yw a0 s) s4) 0=some (match (bxs st.mods).findIdx? (λ x=>hits s x.x) with | some i=>(Sum.inr (i:Int):Unit⊕Int) | none=>Sum.inl ()):=by
  refine Xm (bxs st.mods) (λ x=>hits s x.x) (λ i=>Sum.inr i) _ (λ k x hx hlt=>?_) ?_ (by rw[bxs_len];omega) rfl
  ·
   unfold zK
   have hb:=bxs_len st.mods
   rw[zR,if_pos (decide_eq_true hlt),zN,hx,obS]
   show Option.bind (yw x.x s) _=_
   rw[show yw x.x s=some (hits s x.x) from congrArg some (Bool.and_comm ..),obS,zQ (by omega)]
   cases hits s x.x <;> rfl
  ·
   unfold zK
   rw[zR,if_neg (by simp)]
 rw[show(mach t path st).modules=bxs st.mods from rfl,hl,show cix st s=xt (λ x:Bx GMod=>hits s x.x) (bxs st.mods) from(bxs_idx ..).symm]
 unfold xt
 cases List.findIdx? (λ x:Bx GMod=>hits s x.x) (bxs st.mods) <;> rfl
theorem JR{st:RSt}(h:st.log.length<=1048576)(k:Int)(s:Str):yx (mach t path st) k s=some (mach t path (st.note k s)):=by
 unfold yx
 rw[jz (by show(st.log.length+1)*24<=_;omega) (by show st.log.length+1<=_;omega),obS]
 rfl
theorem hit_eq{st:RSt}(h:st.log.length<=1048576)(hp:st.part.length<=1048576){k:Nat}{m:GMod}(hm:st.mods[k]?=some m):xP (mach t path st) (k:Int)=some (mach t path (st.hit k m.name),(k:Int)):=by
 have hb:(bxs st.mods)[k]?=some ⟨m⟩:=by rw[bxs_get,hm];rfl
 have hd:st.doneAt k=m.done:=by unfold RSt.doneAt;rw[hm];rfl
 unfold xP
 rw[show(mach t path st).modules=bxs st.mods from rfl,zN,hb,obS,Int.toNat_natCast,hb,obS,JR h,obS,
  show(mach t path (st.note 3 m.name)).modules=bxs st.mods from rfl,hb,obS,xV,obS,show(mach t path (st.note 3 m.name)).part=st.part from rfl]
 have hc:∀ x,yf st.part x=some (decide (x∈st.part)):=λ x=>ContainsS_eq hp
 rw[hc,xV,obS]
 cases hdn:m.done with
 |
  true=>
  rw[hdn] at hd
  rw[if_neg (by simp),obS]
  unfold RSt.hit
  rw[if_neg (by rw[hd];simp)]
  rfl
 |
  false=>
  rw[hdn] at hd
  by_cases hi:m.name∈st.part
  ·
   rw[if_neg (by simp[hi]),obS]
   unfold RSt.hit
   rw[if_neg (by simp[hi])]
   rfl
  ·
   rw[if_pos (by simp[hi]),obS,jz (by show(st.part.length+1)*16<=_;omega) (by show st.part.length+1<=_;omega),obS,obS]
   unfold RSt.hit
   rw[if_pos ⟨hd,hi⟩]
   rfl
def val0(l:List GAttr)(j:Int):GVal:=((l[j.toNat]?).map (·.value)).getD ⟨0,0⟩
theorem loop_idxc{α β γ:Type}{c:γ}{step:γ×Int->Option ((γ×Int)⊕β)}(xs:List α)(p:α->Bool)(f:Int->β)(e:β)
  (h:∀ k x,xs[k]?=some x->k<xs.length->step (c,(k:Int))=some (if p x=true then .inr (f k) else .inl (c,((k+1:Nat):Int))))
  (hend:step (c,(xs.length:Int))=some (.inr e)) (hlen:xs.length<576460752303423488):zO step (c,(0:Int))=some (match xs.findIdx? p with | some i=>f (i:Int) | none=>e):=by
 have key:=JE (σ:=Unit) (step:=step) xs (λ _ k=>(c,(k:Int))) (λ k _ x=>match (if p x=true then some (f k) else none) with | none=>.inl () | some b=>.inr b) (λ _=>e) (λ _ _=>True) (λ k _ x hx hlt _=>by
  have:=h k x hx hlt
  cases hp:p x with
  | true=>rw[hp] at this;exact this
  | false=>rw[hp] at this;exact⟨this,trivial⟩) (λ _ _=>hend) (s0:=()) trivial hlen
 refine key.trans ((congrArg some (runL_idx p f e 0 xs)).trans ?_)
 cases xs.findIdx? p <;> simp
theorem attr_eq{m:GMod}(h:m.attrs.length<=16777216)(s:Str):xp m s=some (match (m.attrs.findIdx? (λ a=>decide (a.name=s))) with | some i=>(val0 m.attrs (i:Int),true) | none=>(⟨0,0⟩,false)):=by
 unfold xp
 have hl:zO (λ s6=>xd m s s6) (zGVal,(0:Int))=some (match m.attrs.findIdx? (λ a=>decide (a.name=s)) with | some i=>(Sum.inr (val0 m.attrs (i:Int),true):GVal⊕(GVal×Bool)) | none=>Sum.inl zGVal):=by
  refine loop_idxc m.attrs (λ a=>decide (a.name=s)) (λ j=>Sum.inr (val0 m.attrs j,true)) (Sum.inl zGVal) (λ k x hx hlt=>?_) ?_ (by omega)
  ·
   unfold xd
   rw[show((zGVal,(k:Int)):GVal×Int).2=(k:Int) from rfl,zR,if_pos (decide_eq_true hlt),zN,hx,obS,zQ (by omega),obS,show val0 m.attrs (k:Int)=x.value by unfold val0;rw[Int.toNat_natCast,hx];rfl]
   cases decide (x.name=s) <;> rfl
  ·
   unfold xd
   rw[show((zGVal,(m.attrs.length:Int)):GVal×Int).2=(m.attrs.length:Int) from rfl,zR,if_neg (by simp)]
 rw[hl]
 cases m.attrs.findIdx? (λ a=>decide (a.name=s)) <;> rfl
open Go.RowKit
theorem Xr(l:List GAttr)(s:Str):(aix l s=-1/\l.findIdx? (λ a=>decide (a.name=s))=none)\/∃ (k:Nat) (a:GAttr),aix l s=(k:Int)/\l.findIdx? (λ a=>decide (a.name=s))=some k/\l[k]?=some a/\a.name=s:=by
 unfold aix xt
 cases h:l.findIdx? (λ a=>decide (a.name=s)) with
 | none=>exact .inl ⟨rfl,rfl⟩
 |
  some k=>
  obtain⟨h1,h2,_⟩:=List.findIdx?_eq_some_iff_getElem.1 h
  exact .inr ⟨k,l[k],rfl,rfl,List.getElem?_eq_getElem h1,by simpa using h2⟩
theorem attr_eq'{m:GMod}(h:m.attrs.length<=16777216)(s:Str):xp m s=some (if cmpI .geq (aix m.attrs s) 0=true then(val0 m.attrs (aix m.attrs s),true) else(⟨0,0⟩,false)):=by
 rw[attr_eq h]
 rcases Xr m.attrs s with⟨h1,h2⟩ | ⟨k,a,h1,h2,_⟩
 ·
  rw[h1,h2];rfl
 ·
  rw[h1,h2,if_pos (jY k)]
theorem give_eq{m:GMod}(h:m.attrs.length<=16777216)(s:Str)(v:GVal):yb m s v=some { m with attrs:=jX m.attrs s v }:=by
 unfold yb
 have hl:zO (λ s6=>xe m s v s6) (m,(0:Int))=some (match m.attrs.findIdx? (λ a=>decide (a.name=s)) with | some i=>(Sum.inr { m with attrs:=updA m.attrs (i:Int).toNat (λ a=>{ a with value:=v }) }:GMod⊕GMod) | none=>Sum.inl m):=by
  refine loop_idxc m.attrs (λ a=>decide (a.name=s)) (λ j=>Sum.inr { m with attrs:=updA m.attrs j.toNat (λ a=>{ a with value:=v }) }) (Sum.inl m) (λ k x hx hlt=>?_) ?_ (by omega)
  ·
   unfold xe
   rw[show((m,(k:Int)):GMod×Int).2=(k:Int) from rfl,show((m,(k:Int)):GMod×Int).1=m from rfl,zR,if_pos (decide_eq_true hlt),zN,hx,obS,obS,zQ (by omega),obS,Int.toNat_natCast,Ym _ hx]
   cases decide (x.name=s) <;> rfl
  ·
   unfold xe
   rw[show((m,(m.attrs.length:Int)):GMod×Int).2=(m.attrs.length:Int) from rfl,zR,if_neg (by simp)]
 rw[hl]
 unfold jX
 rcases Xr m.attrs s with⟨h1,h2⟩ | ⟨k,a,h1,h2,_⟩
 ·
  rw[h2,h1,if_neg (by decide)]
  show Option.bind (appO 32 m.attrs [⟨s,v⟩]) _=_
  rw[jz (by show(m.attrs.length+1)*32<=_;omega) (by show m.attrs.length+1<=_;omega),obS]
 ·
  rw[h2,h1,if_pos (jY k),Int.toNat_natCast]
  rfl
theorem packOf_eq{m:GMod}(h:zn m.name=true):xu m=some (if m.kind=1 then zG m.name else m.name):=by
 unfold xu
 by_cases hk:m.kind=1
 ·
  rw[if_pos (by simp[cmpI,hk]),if_pos hk,YZ h];rfl
 ·
  rw[if_neg (by simp[cmpI,hk]),if_neg hk]
theorem CutF_eq{s:Str}(hs:s.l.length<=4611686018427387904):∃ a b,qU s ⟨[46]⟩=some (qc s,a,b):=by
 have hge:=Lib.indexByte_ge s.l 46
 have hf:qc s=((zC s dot)[0]?).getD emptyS:=by unfold qc;cases zC s dot <;> rfl
 rw[hf]
 unfold qU xC
 rw[show xj s ⟨[46]⟩=some (Lib.indexByte s.l 46) from rfl,obS,wz]
 cases hc:cmpI .geq (Lib.indexByte s.l 46) 0 with
 |
  false=>
  rw[if_neg (by decide),obS]
  have h0:Lib.indexByte s.l 46<0:=by have:=of_decide_eq_false hc;omega
  have h1:cutF dot s.l=[s.l]:=ZW 46 s.l h0
  rw[h1]
  exact⟨_,_,rfl⟩
 |
  true=>
  have h0:0<=Lib.indexByte s.l 46:=of_decide_eq_true hc
  obtain⟨h1,h2⟩:=ZX 46 s.l h0
  obtain⟨n,hn⟩:∃ n:Nat,Lib.indexByte s.l 46=n:=⟨_,(Int.toNat_of_nonneg h0).symm⟩
  rw[hn] at h1 h2 ⊢
  have h3:cutF dot s.l=s.l.take n::cutF 46 (s.l.drop (n+1)):=h2
  have hl:n+1<=s.l.length:=by omega
  rw[if_pos rfl,Wu (by omega),obS,show((n:Int)+((⟨[46]⟩:Str).l.length:Int))=((n:Int)+1) from rfl,Zh (by omega) (by omega),obS,show((n:Int)+1)=((n+1:Nat):Int) from rfl,Wv hl,obS,obS,h3]
  exact⟨_,_,rfl⟩
variable{t:Tree}{path:List Int}{st:RSt}
structure Small(st:RSt):Prop where
 mods:st.mods.length<=1048576
 log:st.log.length<=1048576
 out:st.out.length<=1048576
 part:st.part.length<=1048576
theorem RSt.small{n:Nat}(h:st.size<=n)(hn:n<=1048576):Small st:=by
 unfold RSt.size at h
 exact⟨by omega,by omega,by omega,by omega⟩
theorem Inv.few(h:Inv st){m:GMod}(hm:m∈st.mods):m.attrs.length<=16777216:=attrs_few (h.parts m hm) (h.apart m hm)
theorem Inv.at_(h:Inv st){k:Nat}{m:GMod}(hm:st.mods[k]?=some m):m∈st.mods/\zn m.name=true/\m.attrs.length<=16777216/\m.roots.length<=1048576:=
 have hi:=List.mem_of_getElem? hm
 ⟨hi,h.names m hi,h.few hi,h.roots m hi⟩
theorem j8{s:Str}(h:zn s=true):zv s=true:=by unfold zv;rw[h,Bool.or_true]
theorem Yq{k:Nat}{m:GMod}(hm:st.mods[k]?=some m):st.kindAt k=m.kind:=by unfold RSt.kindAt;rw[hm];rfl
theorem Q5{k:Nat}{m:GMod}(hm:st.mods[k]?=some m):st.rootsAt k=m.roots:=by unfold RSt.rootsAt;rw[hm];rfl
theorem ZN{k:Nat}{m:GMod}(hm:st.mods[k]?=some m):st.attrsAt k=m.attrs:=by unfold RSt.attrsAt;rw[hm];rfl
theorem Wx{k:Nat}{m:GMod}(hm:st.mods[k]?=some m):st.nameAt k=m.name:=by unfold RSt.nameAt;rw[hm];rfl
theorem set_give{k:Nat}{m:GMod}(hm:st.mods[k]?=some m)(s:Str)(v:GVal):st.mods.set k { m with attrs:=jX m.attrs s v }=(st.give k s v).mods:=(Ym (λ m:GMod=>{ m with attrs:=jX m.attrs s v }) hm).symm
theorem mach_give{k:Nat}{m:GMod}(hm:st.mods[k]?=some m)(s:Str)(v:GVal):({ mach t path st with modules:=(bxs st.mods).set k ⟨{ m with attrs:=jX m.attrs s v }⟩ }:Machine)=mach t path (st.give k s v):=by
 rw[JQ,set_give hm];rfl
theorem look_eq(ht:Good t)(hp:path.length<=1048576)(h:Inv st)(hs:Small st){s:Str}(hv:zn s=true):yE (mach t path st) s=some (mach t path st,Yg t path st s):=by
 have hn:=name_of hv
 unfold yE Yg
 rw[YZ hv,obS]
 by_cases he:zG s=emptyS
 ·
  have hl:wo s=s:=by
   rw[he] at hn
   unfold child at hn
   rw[if_pos rfl] at hn
   exact hn.symm
  rw[if_pos (decide_eq_true (show zG s=(⟨[]⟩:Str) from he)),if_pos he,show(mach t path st).t=t from rfl,show(mach t path st).path=path from rfl,
   find_eq ht hp (p:=(⟨[]⟩:Str)) (by rfl) (by rw[← hl];exact XK hv) (show zn (child emptyS s)=true by unfold child;rw[if_pos rfl];exact hv),obS]
  rfl
 ·
  have he':¬ zG s=(⟨[]⟩:Str):=he
  rw[if_neg (by simp[he']),if_neg he,Yp hs.mods,obS]
  rcases qL st (zG s) with⟨h1,_⟩ | ⟨k,m,h1,h2,h3,_⟩
  ·
   rw[h1,lss_m1]
   rw[show((true == false):Bool)=false from rfl,Z9,obS,Z9,obS,if_pos (by simp),if_pos rfl]
   rfl
  ·
   have hb:(bxs st.mods)[k]?=some ⟨m⟩:=by rw[bxs_get,h2];rfl
   rw[h1,JP,show((false == false):Bool)=true from rfl,Yj,Yj,show(mach t path st).modules=bxs st.mods from rfl,zN,hb,obS,Int.toNat_natCast,hb,obS,Bool.false_or,if_neg (by decide:¬ (false=true)),Yq h2,Q5 h2]
   by_cases hk:m.kind=1
   ·
    rw[if_pos (by simp[cmpI,hk]),if_pos hk];rfl
   ·
    rw[if_neg (by simp[cmpI,hk]),if_neg hk,obS,obS,LastOf_eq hv,obS]
    have hpp:=(ZB hv he).2
    rw[show(mach t path st).t=t from rfl,find_eq ht (h.at_ h2).2.2.2 (j8 hpp) (XK hv) (by rw[← hn];exact hv),obS]
open Go.RowKit
variable{t:Tree}{path:List Int}{st:RSt}{n:Nat}{R:Rec}{I:RImp}
def XN(t:Tree)(path:List Int)(n:Nat)(R:Rec)(I:RImp):Prop:=
 ∀ (st:RSt) (s:Str) (r:RSt×Int×Int),Inv st->zn s=true->4*st.left.toNat+(zC s dot).length<=n->st.size<=20000->I st s=some r->R.impl_machine_load1 (mach t path st) s=some (mach t path r.1,r.2.1,r.2.2)
theorem XW{e:Int}(h:¬ e=0):cmpI .neq e 0=true:=by simp[cmpI,h]
theorem wA{a b:Int}(h:a=b):cmpI .eql a b=true:=by simp[cmpI,h]
theorem xT{a b:Int}(h:¬ a=b):cmpI .eql a b=false:=by simp[cmpI,h]
theorem jP{l:List GMod}{k:Nat}{m:GMod}(h:l[k]?=some m):(bxs l)[k]?=some ⟨m⟩:=by rw[bxs_get,h];rfl
theorem Grow.at_{a b:RSt}(h:Grow a b){k:Nat}{m:GMod}(hm:a.mods[k]?=some m):∃ m',b.mods[k]?=some m':=let⟨m',h1,_⟩:=h.old k m hm;⟨m',h1⟩
theorem give_at(h:Inv st){k:Nat}{m:GMod}(hm:st.mods[k]?=some m)(s:Str)(v:GVal){β:Type}(f:Machine->β):
  (((mach t path st).modules[k]?).bind λ v39=>(yb v39.x s v).bind λ v41=>some (f { mach t path st with modules:=(mach t path st).modules.set k ⟨v41⟩ }))=some (f (mach t path (st.give k s v))):=by
 rw[show(mach t path st).modules=bxs st.mods from rfl,jP hm,obS,give_eq (h.at_ hm).2.2.1,obS,mach_give hm]
theorem do_0(hI:qF n I)(hL:XN t path n R I)(h:Inv st)(hn:4*st.left.toNat+3<=n)(hsz:st.size<=19950){k:Nat}{m:GMod}(hk:st.mods[k]?=some m){x:Stmt}(hx:zP x=true)(hkd:x.kind=0){r:RSt×Int}(hr:qE t path I st k x=some r):
  yi R (mach t path st) (k:Int) x=some (mach t path r.1,r.2):=by
 have hv:=Zq hx (.inl hkd)
 have hpl:=wU hv
 obtain⟨q,hq,hp⟩:=hI st x.module h hv (by omega)
 have hqs:=hp.size
 unfold qE at hr
 rw[if_pos hkd,hq,obS] at hr
 have hld:=hL st x.module q h hv (by omega) (by omega) hq
 unfold yi
 rw[show(mach t path st).modules=bxs st.mods from rfl,zN,jP hk,obS,if_pos (wA hkd),hld,obS]
 by_cases he:q.2.2=0
 ·
  rw[if_neg (by simp[he])] at hr
  have hc:=CutF_eq (s:=x.module) (by have:=yQ hv;omega)
  obtain⟨a,b,hc⟩:=hc
  obtain⟨m',hm'⟩:=hp.grow.at_ hk
  simp only
  rw[he,if_neg (by decide),hc,obS,Yp (RSt.small (n:=20000) (by omega) (by omega)).mods,obS]
  cases hcx:cmpI .lss (cix q.1 (qc x.module)) 0 with
  |
   true=>
   rw[if_pos hcx] at hr
   rw[if_pos rfl]
   injection hr with hr;subst hr;rfl
  |
   false=>
   rw[if_neg (by simp[hcx])] at hr
   injection hr with hr;subst hr
   rw[if_neg (by decide),Int.toNat_natCast]
   have:=give_at (t:=t) (path:=path) hp.inv hm' (qc x.module) ⟨1,cix q.1 (qc x.module)⟩ (λ mm=>(Sum.inl mm:Machine⊕(Machine×Int)))
   rw[this]
   rfl
 ·
  rw[if_pos he] at hr
  injection hr with hr;subst hr
  simp only
  rw[if_pos (XW he)]
  rfl
theorem do_2loop{k:Nat}(hk':∃ m,st.mods[k]?=some m)(l:List GAttr)(h:Inv st)(hl:∀ a∈l,zy a.name=true)(hb:l.length<=16777216):
  zO (λ s248=>yy R (k:Int) l s248) (mach t path st,(0:Int))=some (Sum.inl (mach t path (starF k l st))):=by
 obtain⟨m0,hm0⟩:=hk'
 have key:=Qe (step:=λ s248=>yy R (k:Int) l s248) l (λ(s:RSt) j=>(mach t path s,(j:Int))) (λ s a=>if(a.name.l.headD 0 == 122)=true then s else s.give k a.name a.value) (λ s=>(Sum.inl (mach t path s):Machine⊕(Machine×Int))) (λ _ s=>Inv s/\∃ m,s.mods[k]?=some m)
  (λ j s a ha hlt ⟨hi,m1,hm1⟩=>by
   have hva:=hl a (List.mem_of_getElem? ha)
   have hne:a.name.l[0]?=some (a.name.l.headD 0):=by
    rcases XM hva with⟨c,e,_⟩ | ⟨c,d,e,_⟩ | ⟨c,d,e',e,_⟩ <;> rw[e] <;> rfl
   have hat:atI a.name.l (0:Int)=some (a.name.l.headD 0):=hne
   have hgr:=Grow.give (st:=s) k a.name a.value
   obtain⟨m2,hm2⟩:=hgr.at_ hm1
   have hs:yy R (k:Int) l (mach t path s,(j:Int))=some (.inl (mach t path (if(a.name.l.headD 0 == 122)=true then s else s.give k a.name a.value),((j+1:Nat):Int))):=by
    unfold yy
    simp only
    rw[zR,if_pos (decide_eq_true hlt),zN,ha,obS,hat,obS,zQ (by omega),Int.toNat_natCast]
    cases hz:(a.name.l.headD 0 == 122) with
    |
     true=>
     rw[if_neg (by simp[cmpB] at hz ⊢;exact hz),if_pos rfl]
     rfl
    |
     false=>
     have hg:=give_at (t:=t) (path:=path) hi hm1 a.name a.value (λ mm=>mm)
     rw[if_pos (by simp[cmpB] at hz ⊢;exact hz),hg,if_neg (by decide)]
     rfl
   refine⟨hs,?_⟩
   split
   ·
    exact⟨hi,m1,hm1⟩
   ·
    exact⟨hi.give k _ hva,m2,hm2⟩)
  (λ s _=>by
   unfold yy
   simp only
   rw[zR,if_neg (by simp)]) (s0:=st) ⟨h,m0,hm0⟩ (by omega)
 exact key
theorem do_2(hI:qF n I)(hL:XN t path n R I)(h:Inv st)(hn:4*st.left.toNat+3<=n)(hsz:st.size<=19950){k:Nat}{m:GMod}(hk:st.mods[k]?=some m){x:Stmt}(hx:zP x=true)(hkd:x.kind=2){r:RSt×Int}(hr:qE t path I st k x=some r):
  yi R (mach t path st) (k:Int) x=some (mach t path r.1,r.2):=by
 have hv:=Zq hx (.inr hkd)
 have hpl:=wU hv
 obtain⟨q,hq,hp⟩:=hI st x.module h hv (by omega)
 have hqs:=hp.size
 unfold qE at hr
 rw[if_neg (by omega),if_neg (by omega),if_pos hkd,hq,obS] at hr
 have hld:=hL st x.module q h hv (by omega) (by omega) hq
 unfold yi
 rw[show(mach t path st).modules=bxs st.mods from rfl,zN,jP hk,obS,if_neg (by rw[xT (by omega)];decide),if_neg (by rw[xT (by omega)];decide),if_pos (wA hkd),hld,obS]
 by_cases he:q.2.2=0
 ·
  rw[if_neg (by simp[he])] at hr
  obtain⟨m',hm'⟩:=hp.grow.at_ hk
  obtain⟨m2,hm2,_,h0⟩:=hp.good he
  have hi2:=hp.inv.at_ hm2
  obtain⟨j,hj⟩:∃ j:Nat,q.2.1=j:=⟨_,(Int.toNat_of_nonneg h0).symm⟩
  rw[hj,Int.toNat_natCast] at hm2
  rw[hj,Int.toNat_natCast,ZN hm2] at hr
  injection hr with hr;subst hr
  simp only
  rw[he,if_neg (by decide),hj,show(mach t path q.1).modules=bxs q.1.mods from rfl,zN,jP hm2,obS,Int.toNat_natCast,jP hm2,obS,
   jz (by simp;omega) (by simp;omega),obS,List.nil_append,do_2loop ⟨m',hm'⟩ m2.attrs hp.inv (hp.inv.parts m2 hi2.1) hi2.2.2.1]
  rfl
 ·
  rw[if_pos he] at hr
  injection hr with hr;subst hr
  simp only
  rw[if_pos (XW he)]
  rfl
theorem do_3(h:Inv st)(hsz:st.size<=19950){k:Nat}{m:GMod}(hk:st.mods[k]?=some m){x:Stmt}(hkd:x.kind≠0/\x.kind≠1/\x.kind≠2){r:RSt×Int}(hr:qE t path I st k x=some r):
  yi R (mach t path st) (k:Int) x=some (mach t path r.1,r.2):=by
 have hi:=h.at_ hk
 unfold qE at hr
 rw[if_neg hkd.1,if_neg hkd.2.1,if_neg hkd.2.2] at hr
 unfold yi
 rw[show(mach t path st).modules=bxs st.mods from rfl,zN,jP hk,obS,if_neg (by rw[xT hkd.1];decide),if_neg (by rw[xT hkd.2.1];decide),if_neg (by rw[xT hkd.2.2];decide),Int.toNat_natCast]
 by_cases h3:x.kind=3
 ·
  rw[if_pos h3] at hr
  injection hr with hr;subst hr
  have:=give_at (t:=t) (path:=path) h hk x.name ⟨0,x.value⟩ (λ mm=>(Sum.inl mm:Machine⊕(Machine×Int)))
  rw[if_pos (wA h3)]
  refine(congrArg (λ o=>Option.bind o _) this).trans ?_
  rfl
 ·
  rw[if_neg h3] at hr
  rw[if_neg (by rw[xT h3];decide)]
  by_cases h4:x.kind=4
  ·
   rw[if_pos h4,ZN hk] at hr
   rw[if_pos (wA h4),jP hk,obS,attr_eq' hi.2.2.1,obS]
   cases hg:cmpI .geq (aix m.attrs x.name) 0 with
   |
    false=>
    have hl:cmpI .lss (aix m.attrs x.name) 0=true:=by rw[lss_geq] at hg;simpa using hg
    rw[if_pos hl] at hr
    injection hr with hr;subst hr
    rw[if_neg (show ¬ (false=true) by decide)]
    rfl
   |
    true=>
    have hl:cmpI .lss (aix m.attrs x.name) 0=false:=by rw[lss_geq] at hg;simpa using hg
    rw[hl,if_neg (by decide)] at hr
    injection hr with hr;subst hr
    have ho:st.out.length<=19950:=by unfold RSt.size at hsz;omega
    rw[if_pos (show true=true from rfl)]
    show Option.bind (if cmpI .eql (val0 m.attrs (aix m.attrs x.name)).kind 1=true then _ else _) _=some (mach t path { st with out:=st.out++[if(val0 m.attrs (aix m.attrs x.name)).kind=1 then -1 else(val0 m.attrs (aix m.attrs x.name)).num] },0)
    by_cases hz:(val0 m.attrs (aix m.attrs x.name)).kind=1
    ·
     rw[if_pos (wA hz),if_pos hz,jz (by show(st.out.length+1)*8<=_;omega) (by show st.out.length+1<=_;omega),obS]
     rfl
    ·
     rw[if_neg (by rw[xT hz];decide),if_neg hz,jz (by show(st.out.length+1)*8<=_;omega) (by show st.out.length+1<=_;omega),obS]
     rfl
  ·
   rw[if_neg h4] at hr
   rw[if_neg (by rw[xT h4];decide)]
   by_cases h5:x.kind=5
   ·
    rw[if_pos h5] at hr
    injection hr with hr;subst hr
    rw[if_pos (wA h5)]
    rfl
   ·
    rw[if_neg h5] at hr
    injection hr with hr;subst hr
    rw[if_neg (by rw[xT h5];decide)]
    rfl
open Go.RowKit
variable{t:Tree}{path:List Int}{st:RSt}{n:Nat}{R:Rec}{I:RImp}
theorem childOk_eq{p s:Str}(hp:zn p=true)(hs:zy s=true):YX p s=if zn (child p s)=true then child p s else emptyS:=by
 unfold YX
 rw[j8 hp,hs]
 cases zn (child p s) <;> rfl
theorem valid_ne{s:Str}(h:zn s=true):¬ s=(⟨[]⟩:Str):=λ e=>by rw[e,show zn (⟨[]⟩:Str)=false from rfl] at h;cases h
theorem part_len{s:Str}(h:zy s=true):s.l.length<=3:=by
 unfold zy inR at h
 simp only[Bool.and_eq_true,cmpI,decide_eq_true_eq] at h
 have:=h.1.2
 omega
theorem value_eq(ht:Good t)(hp:path.length<=1048576)(hI:qF n I)(hL:XN t path n R I)(h:Inv st)(hn:4*st.left.toNat+3<=n)(hsz:st.size<=20000){j:Nat}{m:GMod}(hj:st.mods[j]?=some m){nm:Str}(hnm:zy nm=true){v:RSt×GVal×Int}(hv:Wr t path I st j nm=some v):
  (if(!(if cmpI .geq (aix m.attrs nm) 0=true then(val0 m.attrs (aix m.attrs nm),true) else((⟨0,0⟩:GVal),false)).2)=true then((xY m.name nm).bind λ v171=>
(atI (mach t path st).modules (j:Int)).bind λ _v175=>
((mach t path st).modules[(j:Int).toNat]?).bind λ v177=>
(gO ((cmpI .eql v177.x.kind (1:Int)||decide (v171=(⟨[]⟩:Str))) == false) (zS (mach t path st) v171)).bind λ v178=>
(gO (((cmpI .eql v177.x.kind (1:Int)||decide (v171=(⟨[]⟩:Str))) == false)&&(cmpI .lss v178 (0:Int) == true)) (yE (mach t path st) v171)).bind λ v184=>
if((cmpI .eql v177.x.kind (1:Int)||decide (v171=(⟨[]⟩:Str)))||(cmpI .lss v178 (0:Int)&&cmpI .eql v184.2.kind (0:Int)))=true then(some (.inr (.inr ((if(((cmpI .eql v177.x.kind (1:Int)||decide (v171=(⟨[]⟩:Str))) == false)&&(cmpI .lss v178 (0:Int) == true))=true then v184.1 else(mach t path st)),(2:Int)))))
else((R.impl_machine_load1 (if(((cmpI .eql v177.x.kind (1:Int)||decide (v171=(⟨[]⟩:Str))) == false)&&(cmpI .lss v178 (0:Int) == true))=true then v184.1 else(mach t path st)) v171).bind λ v196=>
if(cmpI .neq v196.2.2 (0:Int))=true then(some (.inr (.inr (v196.1,v196.2.2))))
else(some (.inl (v196.1,(⟨(1:Int),v196.2.1⟩:GVal))))))
else(some (.inl ((mach t path st),(if cmpI .geq (aix m.attrs nm) 0=true then(val0 m.attrs (aix m.attrs nm),true) else((⟨0,0⟩:GVal),false)).1))):Option ((Machine×GVal)⊕(Machine⊕(Machine×Int))))=some (if v.2.2=0 then .inl (mach t path v.1,v.2.1) else .inr (.inr (mach t path v.1,v.2.2))):=by
 have hi:=h.at_ hj
 have hnl:=yQ hi.2.1
 have hnp:=part_len hnm
 unfold Wr at hv
 rw[ZN hj,Yq hj,Wx hj] at hv
 cases hg:cmpI .geq (aix m.attrs nm) 0 with
 |
  true=>
  rw[if_pos hg] at hv
  injection hv with hv;subst hv
  rfl
 |
  false=>
  rw[hg,if_neg (show ¬ (false=true) by decide)] at hv
  rw[if_neg (show ¬ (false=true) by decide),if_pos (show(!false)=true from rfl),W7 (by omega),obS,childOk_eq hi.2.1 hnm,show(mach t path st).modules=bxs st.mods from rfl,zN,jP hj,obS,Int.toNat_natCast,jP hj,obS]
  by_cases hc:m.kind=1\/zn (child m.name nm)=false
  ·
   rw[if_pos hc] at hv
   injection hv with hv;subst hv
   have hd:(cmpI .eql m.kind (1:Int)||decide ((if zn (child m.name nm)=true then child m.name nm else emptyS)=(⟨[]⟩:Str)))=true:=by
    rcases hc with hc | hc
    ·
     rw[wA hc];rfl
    ·
     rw[hc,Bool.or_eq_true];exact .inr rfl
   simp only
   rw[hd,show(true == false)=false from rfl,Z9,obS,Bool.false_and,Z9,obS,Bool.true_or,if_pos (show true=true from rfl),if_neg (show ¬ (false=true) by decide)]
   rfl
  ·
   rw[if_neg hc] at hv
   have hk1:¬ m.kind=1:=λ e=>hc (.inl e)
   have hvc:zn (child m.name nm)=true:=by cases e:zn (child m.name nm) with | true=>rfl | false=>exact absurd (.inr e) hc
   have hpl:=wU hvc
   rw[if_pos hvc]
   have hd:(cmpI .eql m.kind (1:Int)||decide (child m.name nm=(⟨[]⟩:Str)))=false:=by rw[xT hk1,decide_eq_false (valid_ne hvc)];rfl
   obtain⟨q,hq,hqp⟩:=hI st _ h hvc (by omega)
   have hld:=hL st _ q h hvc (by omega) hsz hq
   have sm:=RSt.small hsz (by decide)
   have fin:(R.impl_machine_load1 (mach t path st) (child m.name nm)).bind (λ v196=>if(cmpI .neq v196.2.2 (0:Int))=true then(some (.inr (.inr (v196.1,v196.2.2)))) else(some (.inl (v196.1,(⟨(1:Int),v196.2.1⟩:GVal)))))=some ((if q.2.2=0 then .inl (mach t path q.1,⟨1,q.2.1⟩) else .inr (.inr (mach t path q.1,q.2.2))):(Machine×GVal)⊕(Machine⊕(Machine×Int))):=by
    rw[hld,obS]
    by_cases he:q.2.2=0
    ·
     simp only
     rw[he,if_neg (by decide),if_pos rfl]
    ·
     simp only
     rw[if_pos (XW he),if_neg he]
   simp only
   rw[hd,show(false == false)=true from rfl,Yj,Yp sm.mods,obS,Bool.true_and]
   simp only[Bool.false_or]
   cases hl:cmpI .lss (cix st (child m.name nm)) 0 with
   |
    true=>
    rw[show(true == true)=true from rfl,Yj,look_eq ht hp h sm hvc,obS,Bool.true_and]
    simp only[if_true]
    by_cases hz:(Yg t path st (child m.name nm)).kind=0
    ·
     rw[if_pos ⟨hl,hz⟩] at hv
     injection hv with hv;subst hv
     rw[if_pos (wA hz)]
     rfl
    ·
     rw[if_neg (λ e=>hz e.2),hq,obS] at hv
     injection hv with hv;subst hv
     rw[if_neg (by rw[xT hz];decide)]
     exact fin
   |
    false=>
    rw[if_neg (λ e=>by rw[hl] at e;exact absurd e.1 (by decide)),hq,obS] at hv
    injection hv with hv;subst hv
    rw[show(false == true)=false from rfl,Z9,obS,Bool.false_and,if_neg (show ¬ (false=true) by decide),if_neg (show ¬ (false=true) by decide)]
    exact fin
theorem do_1(ht:Good t)(hp:path.length<=1048576)(hI:qF n I)(hL:XN t path n R I)(h:Inv st)(hn:4*st.left.toNat+3<=n)(hsz:st.size<=19950){k:Nat}{m:GMod}(hk:st.mods[k]?=some m){x:Stmt}(hx:zP x=true)(hkd:x.kind=1){r:RSt×Int}(hr:qE t path I st k x=some r):
  yi R (mach t path st) (k:Int) x=some (mach t path r.1,r.2):=by
 have hi:=h.at_ hk
 have hsx:zv x.module=true/\0<=x.level/\x.level<=3:=by
  rcases Ze hx with h1 | h1 | h1
  ·
   exact absurd h1.1 (by omega)
  ·
   exact⟨h1.2.1,h1.2.2.1,h1.2.2.2⟩
  ·
   exact absurd hkd h1.2.1
 have hnm:=Xp hx (.inl hkd)
 unfold qE at hr
 have hpk:XJ st k=if m.kind=1 then zG m.name else m.name:=by unfold XJ;rw[Yq hk,Wx hk]
 rw[if_neg (by omega),if_pos hkd,hpk] at hr
 have hpv:zv (if m.kind=1 then zG m.name else m.name)=true:=by
  split
  ·
   exact YK (j8 hi.2.1)
  ·
   exact j8 hi.2.1
 unfold yi
 rw[show(mach t path st).modules=bxs st.mods from rfl,zN,jP hk,obS,if_neg (by rw[xT (by omega)];decide),if_pos (wA hkd),Int.toNat_natCast,jP hk,obS,packOf_eq hi.2.1,obS,Q4 hpv hsx.1 hsx.2.1 hsx.2.2,obS]
 generalize qD (if m.kind=1 then zG m.name else m.name) x.level x.module=s1 at*
 unfold orE
 cases hv:zn s1 with
 |
  false=>
  rw[if_pos hv] at hr
  injection hr with hr;subst hr
  rw[if_neg (show ¬ (false=true) by decide),if_pos (show decide (emptyS=(⟨[]⟩:Str))=true from rfl)]
  rfl
 |
  true=>
  rw[if_neg (by rw[hv];decide)] at hr
  have hpl:=wU hv
  obtain⟨q,hq,hqp⟩:=hI st s1 h hv (by omega)
  have hqs:=hqp.size
  have hld:=hL st s1 q h hv (by omega) (by omega) hq
  rw[hq,obS] at hr
  rw[if_pos (show true=true from rfl),if_neg (by rw[decide_eq_false (valid_ne hv)];decide),hld,obS]
  by_cases he:q.2.2=0
  ·
   rw[if_neg (by simp[he])] at hr
   obtain⟨m',hm'⟩:=hqp.grow.at_ hk
   obtain⟨m2,hm2,hmn,h0⟩:=hqp.good he
   have hi2:=hqp.inv.at_ hm2
   have hlq:=hqp.grow.left
   obtain⟨j,hj⟩:∃ j:Nat,q.2.1=j:=⟨_,(Int.toNat_of_nonneg h0).symm⟩
   rw[hj,Int.toNat_natCast] at hm2
   rw[hj,Int.toNat_natCast] at hr
   have hn':4*q.1.left.toNat+3<=n:=by have:=h.left;have:=hqp.inv.left;omega
   obtain⟨v,hve,hvb⟩:=value_ok (t:=t) (path:=path) hI hqp.inv hn' j x.name hnm
   have hval:=value_eq ht hp hI hL hqp.inv hn' (by omega) hm2 hnm hve
   rw[hmn] at hval
   rw[hve,obS] at hr
   obtain⟨m3,hm3⟩:=hvb.grow.at_ hm'
   simp only
   rw[he,if_neg (by decide),hj,show(mach t path q.1).modules=bxs q.1.mods from rfl,zN,jP hm2,obS,Int.toNat_natCast,jP hm2,obS,attr_eq' hi2.2.2.1,obS,obS]
   rw[show(mach t path q.1).modules=bxs q.1.mods from rfl,zN,Int.toNat_natCast,jP hm2] at hval
   dsimp only at hval ⊢
   rw[hval]
   by_cases hz:v.2.2=0
   ·
    rw[if_pos hz]
    rw[if_neg (by simp[hz])] at hr
    injection hr with hr;subst hr
    have:=give_at (t:=t) (path:=path) hvb.inv hm3 x.name v.2.1 (λ mm=>(Sum.inl mm:Machine⊕(Machine×Int)))
    simp only[obS,Sum.elim_inl]
    refine(congrArg (λ o=>Option.bind o _) this).trans ?_
    rfl
   ·
    rw[if_neg hz]
    rw[if_pos hz] at hr
    injection hr with hr;subst hr
    rfl
  ·
   rw[if_pos he] at hr
   injection hr with hr;subst hr
   simp only
   rw[if_pos (XW he)]
   rfl
theorem do_eq(ht:Good t)(hp:path.length<=1048576)(hI:qF n I)(hL:XN t path n R I)(h:Inv st)(hn:4*st.left.toNat+3<=n)(hsz:st.size<=19950){k:Nat}{m:GMod}(hk:st.mods[k]?=some m){x:Stmt}(hx:zP x=true){r:RSt×Int}(hr:qE t path I st k x=some r):
  yi R (mach t path st) (k:Int) x=some (mach t path r.1,r.2):=by
 by_cases h0:x.kind=0
 ·
  exact do_0 hI hL h hn hsz hk hx h0 hr
 ·
  by_cases h1:x.kind=1
  ·
   exact do_1 ht hp hI hL h hn hsz hk hx h1 hr
  ·
   by_cases h2:x.kind=2
   ·
    exact do_2 hI hL h hn hsz hk hx h2 hr
   ·
    exact do_3 h hsz hk ⟨h0,h1,h2⟩ hr
open Go.RowKit
variable{t:Tree}{path:List Int}{st:RSt}{n:Nat}{R:Rec}{I:RImp}
def DoEq(t:Tree)(path:List Int)(n:Nat)(R:Rec)(I:RImp):Prop:=
 ∀ (st:RSt) (k:Nat) (m:GMod) (x:Stmt) (r:RSt×Int),Inv st->st.mods[k]?=some m->zP x=true->4*st.left.toNat+3<=n->st.size<=19950->qE t path I st k x=some r->R.impl_machine_do (mach t path st) (k:Int) x=some (mach t path r.1,r.2)
def RSt.tick(st:RSt):RSt:={ st with left:=st.left - 1 }
theorem Inv.tick(h:Inv st)(hz:¬ st.left=0):Inv st.tick:=⟨h.names,h.roots,h.parts,h.apart,by have:=h.left;show(0:Int)<=st.left - 1;omega⟩
theorem size_tick(h:Inv st)(hz:¬ st.left=0):st.tick.size+100=st.size:=by
 unfold RSt.size RSt.tick
 have:=h.left
 simp only
 omega
theorem body_loop(hI:qF n I)(hD:DoEq t path n R I)(k:Nat)(l:List Stmt)(hl:∀ x∈l,zP x=true)(hlen:l.length<1000000000):∀ (m i:Nat) (st:RSt) (r:RSt×Int),i+m=l.length->Inv st->(∃ mm,st.mods[k]?=some mm)->4*st.left.toNat<=n+1->st.left<=1000000->st.size<=20050->XV t path I k (l.drop i) st=some r->
  wn (λ s24=>yh R (k:Int) l s24) (m+1) (mach t path st,(0:Int),(i:Int))=some (mach t path r.1,r.2)
 |
  0,i,st,r,hi,_,_,_,_,_,hr=>by
  have:i=l.length:=by omega
  subst this
  rw[List.drop_length] at hr
  unfold XV at hr
  injection hr with hr;subst hr
  refine yq ?_
  unfold yh
  simp only
  rw[zR,if_neg (by simp)]
 |
  m+1,i,st,r,hi,h,⟨mm,hmm⟩,hn,hle,hsz,hr=>by
  have hlt:i<l.length:=by omega
  have hx:l[i]?=some l[i]:=List.getElem?_eq_getElem hlt
  have hv:=hl l[i] (List.getElem_mem hlt)
  rw[List.drop_eq_getElem_cons hlt] at hr
  unfold XV at hr
  have hl0:=h.left
  by_cases hz:st.left=0
  ·
   rw[if_pos hz] at hr
   injection hr with hr;subst hr
   refine yq ?_
   unfold yh
   simp only
   rw[zR,if_pos (decide_eq_true hlt),zN,hx,obS,show(mach t path st).left=st.left from rfl,if_pos (wA hz)]
  ·
   rw[if_neg hz] at hr
   have ht:=h.tick hz
   have hts:=size_tick h hz
   have htl:st.tick.left=st.left - 1:=rfl
   obtain⟨q,hq,hb⟩:=stmt_ok (t:=t) (path:=path) hI ht (by rw[htl];omega) k hv
   have hbs:=hb.size
   have hbl:=hb.grow.left
   have hbi:=hb.inv.left
   obtain⟨m2,hm2⟩:=hb.grow.at_ (show st.tick.mods[k]?=some mm from hmm)
   have hd:=hD st.tick k mm l[i] q ht hmm hv (by rw[htl];omega) (by omega) hq
   rw[show qE t path I { st with left:=st.left - 1 } k l[i]=some q from hq,obS] at hr
   have hs:yh R (k:Int) l (mach t path st,(0:Int),(i:Int))=some (if q.2≠0 then .inr (mach t path q.1,q.2) else .inl (mach t path q.1,q.2,((i+1:Nat):Int))):=by
    unfold yh
    simp only
    rw[zR,if_pos (decide_eq_true hlt),zN,hx,obS,show(mach t path st).left=st.left from rfl,if_neg (by rw[xT hz];decide),Zh (by omega) (by omega),obS,
     show({ mach t path st with left:=st.left - 1 }:Machine)=mach t path st.tick from rfl,hd,obS,zQ (by omega),obS]
    by_cases he:q.2=0
    ·
     simp only
     rw[he,if_neg (by decide),if_neg (by simp)]
    ·
     simp only
     rw[if_pos (XW he),if_pos he]
   by_cases he:q.2=0
   ·
    rw[if_neg (by simp[he])] at hr
    rw[if_neg (by simp[he]),he] at hs
    rw[wi hs]
    exact body_loop hI hD k l hl hlen m (i+1) q.1 r (by omega) hb.inv ⟨m2,hm2⟩ (by rw[htl] at hbl;omega) (by rw[htl] at hbl;omega) (by omega) hr
   ·
    rw[if_pos he] at hr
    injection hr with hr;subst hr
    rw[if_pos he] at hs
    exact yq hs
theorem Q6(tf:List File)(roots:List Int)(p s:Str):(Zf tf roots p s).file<tf.length:=Jh tf p s roots []
theorem look_file(s:Str):(Yg t path st s).file<t.files.length:=by
 unfold Yg
 split
 ·
  exact Q6 ..
 ·
  split
  ·
   show(-1:Int)<_;omega
  ·
   split
   ·
    show(-1:Int)<_;omega
   ·
    exact Q6 ..
theorem body_eq(hv:ye t=true)(hI:qF n I)(hD:DoEq t path n R I)(h:Inv st)(hn:4*st.left.toNat<=n+1)(hle:st.left<=1000000)(hsz:st.size<=20040){k:Nat}{m:GMod}(hk:st.mods[k]?=some m){sp:Spec}(hf:sp.file<t.files.length){r:RSt×Int}(hr:runF t path I (st.note 0 m.name) k sp=some r):
  ws R (mach t path st) (k:Int) sp=some (mach t path (r.1.note (if r.2=0 then 1 else 2) m.name),r.2):=by
 have sm:=RSt.small hsz (by decide)
 have hi:Inv (st.note 0 m.name):=h.note _ _
 have hnz:(st.note 0 m.name).size=st.size+1:=by unfold RSt.size RSt.note;simp only[List.length_append,List.length_cons,List.length_nil];omega
 obtain⟨q,hq,hb⟩:=run_ok (path:=path) hv hI hi (by exact hn) k sp
 rw[hq] at hr
 injection hr with hr;subst hr
 have hqs:=hb.size
 have smq:=RSt.small (st:=q.1) (n:=20050) (by omega) (by decide)
 have hrun:(if(cmpI .geq sp.file (0:Int))=true then((atI t.files sp.file).bind λ v19=>(yt v19).bind λ v20=>zO (λ s24=>yh R (k:Int) v20 s24) (mach t path (st.note 0 m.name),(0:Int),(0:Int))) else(some (mach t path (st.note 0 m.name),(0:Int))))=some (mach t path q.1,q.2):=by
  unfold runF at hq
  cases hg:cmpI .geq sp.file 0 with
  |
   false=>
   rw[hg,if_neg (show ¬ (false=true) by decide)] at hq
   injection hq with hq;subst hq
   rw[if_neg (show ¬ (false=true) by decide)]
  |
   true=>
   have h0:0<=sp.file:=of_decide_eq_true hg
   rw[hg,if_pos (show true=true from rfl)] at hq
   have hbv:=XL hv sp.file
   have hbl:(Y9 t.files sp.file).body.length<=8:=by
    unfold Y9
    cases hfl:t.files[sp.file.toNat]? with
    | none=>exact Nat.zero_le _
    |
     some f=>
     have:=YJ hv (List.mem_of_getElem? hfl)
     unfold wZ at this
     simp only[Bool.and_eq_true,cmpI,decide_eq_true_eq] at this
     show f.body.length<=8
     omega
   rw[if_pos (show true=true from rfl),atI_file h0 hf,obS,show yt ((t.files[sp.file.toNat]?).getD default)=some (Y9 t.files sp.file).body from rfl,obS]
   refine wT (m:=(Y9 t.files sp.file).body.length+1) (body_loop hI hD k _ hbv (by omega) _ 0 (st.note 0 m.name) q (by omega) hi ⟨m,hk⟩ hn hle (by omega) (by rw[List.drop_zero];exact hq)) (by omega)
 unfold ws
 rw[show(mach t path st).modules=bxs st.mods from rfl,zN,jP hk,obS,Int.toNat_natCast,jP hk,obS,JR sm.log,obS]
 rw[show(mach t path (st.note 0 m.name)).t=t from rfl,show(mach t path (st.note 0 m.name)).load.g=yt from rfl,hrun,obS]
 by_cases he:q.2=0
 ·
  simp only
  rw[if_pos (wA he),if_pos he,JR smq.log]
  rfl
 ·
  simp only
  rw[if_neg (by rw[xT he];decide),if_neg he,JR smq.log]
  rfl
theorem cix_empty(h:Inv st):cix st emptyS=-1:=by
 rcases qL st emptyS with h1 | ⟨k,m,_,h2,h3,_⟩
 ·
  exact h1.1
 ·
  have:=h.names m (List.mem_of_getElem? h2)
  rw[h3] at this
  cases this
theorem set_fail{k:Nat}{m:GMod}(hm:st.mods[k]?=some m)(s:Str):({ mach t path (st.note 2 s) with modules:=(bxs st.mods).set k ⟨{ m with cached:=false }⟩ }:Machine)=mach t path (st.fail k s):=by
 rw[JQ]
 unfold RSt.fail
 rw[Ym _ hm]
 rfl
theorem set_done{k:Nat}{m:GMod}(hm:st.mods[k]?=some m)(s:Str):({ mach t path (st.note 1 s) with modules:=(bxs st.mods).set k ⟨{ m with done:=true }⟩ }:Machine)=mach t path (st.done k s):=by
 rw[JQ]
 unfold RSt.done
 rw[Ym _ hm]
 rfl
open Go.RowKit
variable{t:Tree}{path:List Int}{st:RSt}{n:Nat}{R:Rec}{I:RImp}
def BodyEq(t:Tree)(path:List Int)(n:Nat)(R:Rec)(I:RImp):Prop:=
 ∀
  (st:RSt) (k:Nat) (m:GMod) (sp:Spec) (r:RSt×Int),Inv st->4*st.left.toNat<=n+1->st.left<=1000000->st.size<=20040->st.mods[k]?=some m->sp.file<t.files.length->runF t path I (st.note 0 m.name) k sp=some r->
  R.impl_machine_body (mach t path st) (k:Int) sp=some (mach t path (r.1.note (if r.2=0 then 1 else 2) m.name),r.2)
def RSt.grown(st:RSt)(s:Str)(sp:Spec):RSt:={ st with mods:=st.mods++[⟨s,sp.kind,sp.roots,true,false,[]⟩] }
theorem load_new(ht:Good t)(hp:path.length<=1048576)(hI:qF n I)(hB:BodyEq t path n R I)(h:Inv st)(hn:4*st.left.toNat<=n+1)(hle:st.left<=1000000)(hsz:st.size<=20020){s:Str}(hs:zn s=true){r:RSt×Int×Int}(hr:newF t path I st s (Yg t path st s)=some r):
  ((yE (mach t path st) s).bind λ v48=>
if(cmpI .eql v48.2.kind (0:Int))=true then(some (v48.1,(-1:Int),(1:Int)))
else((appO 8 [] v48.2.roots).bind λ v63=>
(appO 8 v48.1.modules [⟨(⟨s,v48.2.kind,v63,true,false,[]⟩:GMod)⟩]).bind λ v84=>
(R.impl_machine_body ({ v48.1 with modules:=v84 }) (v48.1.modules.length:Int) v48.2).bind λ v93=>
if(cmpI .neq v93.2 (0:Int))=true then((v93.1.modules[v48.1.modules.length]?).bind λ v100=>
some ({ v93.1 with modules:=(v93.1.modules.set v48.1.modules.length ⟨{ v100.x with cached:=false }⟩) },(-1:Int),v93.2))
else((v93.1.modules[v48.1.modules.length]?).bind λ v106=>
Option.bind (α:=Machine) ((zS ({ v93.1 with modules:=(v93.1.modules.set v48.1.modules.length ⟨{ v106.x with done:=true }⟩) }) (zG s)).bind λ v111=>
if(decide (zG s≠(⟨[]⟩:Str))&&cmpI .geq v111 (0:Int))=true then((atI (v93.1.modules.set v48.1.modules.length ⟨{ v106.x with done:=true }⟩) v111).bind λ _v118=>
(wB s).bind λ v120=>
((v93.1.modules.set v48.1.modules.length ⟨{ v106.x with done:=true }⟩)[v111.toNat]?).bind λ v125=>
(yb v125.x v120 (⟨(1:Int),(v48.1.modules.length:Int)⟩:GVal)).bind λ v127=>
some ({ v93.1 with modules:=((v93.1.modules.set v48.1.modules.length ⟨{ v106.x with done:=true }⟩).set v111.toNat ⟨v127⟩) }))
else(some ({ v93.1 with modules:=(v93.1.modules.set v48.1.modules.length ⟨{ v106.x with done:=true }⟩) }))) λ o110=>
some (o110,(v48.1.modules.length:Int),(0:Int)))))=some (mach t path r.1,r.2.1,r.2.2):=by
 have sm:=RSt.small hsz (by decide)
 have hlr:=Ja (t:=t) h hp s
 have hlf:=look_file (t:=t) (path:=path) (st:=st) s
 rw[look_eq ht hp h sm hs,obS]
 unfold newF at hr
 generalize Yg t path st s=sp at*
 by_cases hk:sp.kind=0
 ·
  rw[if_pos hk] at hr
  injection hr with hr;subst hr
  rw[if_pos (wA hk)]
 ·
  rw[if_neg hk] at hr
  have hgi:Inv (st.grown s sp):=⟨(h.begin (sp:=sp) hs hlr).names,(h.begin (sp:=sp) hs hlr).roots,(h.begin (sp:=sp) hs hlr).parts,(h.begin (sp:=sp) hs hlr).apart,h.left⟩
  have hgz:(st.grown s sp).size=st.size+1:=by unfold RSt.size RSt.grown;simp only[List.length_append,List.length_cons,List.length_nil];omega
  have hgm:(st.grown s sp).mods[st.mods.length]?=some ⟨s,sp.kind,sp.roots,true,false,[]⟩:=by unfold RSt.grown;simp
  have hbz:(st.begin s sp).size=st.size+2:=by unfold RSt.size RSt.begin;simp only[List.length_append,List.length_cons,List.length_nil];omega
  obtain⟨q,hq,hb⟩:=run_ok (path:=path) ht.ok hI (h.begin (sp:=sp) hs hlr) (by exact hn) st.mods.length sp
  have hqs:=hb.size
  rw[hq,obS] at hr
  have hbody:=hB (st.grown s sp) st.mods.length _ sp q hgi (by exact hn) hle (by omega) hgm hlf hq
  obtain⟨m,hm⟩:=hb.grow.at_ (show(st.begin s sp).mods[st.mods.length]?=some ⟨s,sp.kind,sp.roots,true,false,[]⟩ by unfold RSt.begin;simp)
  have hlen:(bxs st.mods).length=st.mods.length:=bxs_len _
  rw[if_neg (by rw[xT hk];decide),jz (by simp;omega) (by simp;omega),obS,List.nil_append,show(mach t path st).modules=bxs st.mods from rfl,jz (by rw[hlen];have:=sm.mods;show(st.mods.length+1)*8<=_;omega) (by rw[hlen];have:=sm.mods;show st.mods.length+1<=_;omega),obS,bxs_app,hlen,
   show({ mach t path st with modules:=bxs (st.mods++[⟨s,sp.kind,sp.roots,true,false,[]⟩]) }:Machine)=mach t path (st.grown s sp) from rfl,hbody,obS]
  by_cases he:q.2=0
  ·
   rw[if_neg (by simp[he])] at hr
   injection hr with hr;subst hr
   simp only
   rw[he,if_neg (by decide),if_pos rfl,show ∀ (z:RSt),(mach t path z).modules=bxs z.mods from λ _=>rfl,show(q.1.note 1 s).mods=q.1.mods from rfl,jP hm,obS]
   have hsd:=set_done (t:=t) (path:=path) hm s
   have hmd:(bxs q.1.mods).set st.mods.length ⟨{ m with done:=true }⟩=bxs (q.1.done st.mods.length s).mods:=by
    rw[JQ];unfold RSt.done;rw[Ym _ hm]
   have hid:=hb.inv.done st.mods.length s
   have hdz:(q.1.done st.mods.length s).size=q.1.size+1:=by unfold RSt.size RSt.done;simp only[Wq,List.length_append,List.length_cons,List.length_nil];omega
   rw[hmd,show({ mach t path (q.1.note 1 s) with modules:=bxs (q.1.done st.mods.length s).mods }:Machine)=mach t path (q.1.done st.mods.length s) by rw[← hmd];exact hsd]
   rw[Yp (RSt.small (n:=20100) (by omega) (by decide)).mods,obS]
   have hfin:((if(decide (zG s≠(⟨[]⟩:Str))&&cmpI .geq (cix (q.1.done st.mods.length s) (zG s)) (0:Int))=true then((atI (bxs (q.1.done st.mods.length s).mods) (cix (q.1.done st.mods.length s) (zG s))).bind λ v118=>
     (wB s).bind λ v120=>
     ((bxs (q.1.done st.mods.length s).mods)[(cix (q.1.done st.mods.length s) (zG s)).toNat]?).bind λ v125=>
     (yb v125.x v120 (⟨(1:Int),(st.mods.length:Int)⟩:GVal)).bind λ v127=>
     some ({ mach t path (q.1.note 1 s) with modules:=((bxs (q.1.done st.mods.length s).mods).set (cix (q.1.done st.mods.length s) (zG s)).toNat ⟨v127⟩) }:Machine))
     else(some (mach t path (q.1.done st.mods.length s)))):Option Machine)=some (mach t path ((q.1.done st.mods.length s).tell st.mods.length s)):=by
    unfold RSt.tell
    rcases qL (q.1.done st.mods.length s) (zG s) with⟨h1,_⟩ | ⟨k,m2,h1,h2,h3,_⟩
    ·
     rw[h1,geq_m1,Bool.and_false,if_neg (show ¬ (false=true) by decide),if_neg (show ¬ (false=true) by decide)]
    ·
     have hne:¬ zG s=(⟨[]⟩:Str):=λ e=>by
      have:=cix_empty hid
      rw[show emptyS=zG s from e.symm,h1] at this
      omega
     rw[h1,jY,decide_eq_true hne,Bool.true_and,if_pos (show true=true from rfl),if_pos (show true=true from rfl),zN,jP h2,obS,LastOf_eq hs,obS,Int.toNat_natCast,jP h2,obS,give_eq (hid.at_ h2).2.2.1,obS,JQ,set_give h2]
     rfl
   rw[hfin,obS]
  ·
   rw[if_pos he] at hr
   injection hr with hr;subst hr
   simp only
   rw[if_pos (XW he),if_neg he,show ∀ (z:RSt),(mach t path z).modules=bxs z.mods from λ _=>rfl,show(q.1.note 2 s).mods=q.1.mods from rfl,jP hm,obS,set_fail hm s]
theorem load_eq(ht:Good t)(hp:path.length<=1048576)(hI:qF n I)(hL:XN t path n R I)(hB:BodyEq t path n R I)(h:Inv st){s:Str}(hs:zn s=true)(hn:4*st.left.toNat+(zC s dot).length<=n+1)(hle:st.left<=1000000)(hsz:st.size<=20000){r:RSt×Int×Int}(hr:impF t path I st s=some r):
  xZ R (mach t path st) s=some (mach t path r.1,r.2.1,r.2.2):=by
 have sm:=RSt.small hsz (by decide)
 have hpp:=Zp s
 have hpl:=wU hs
 unfold impF at hr
 unfold xZ
 rw[Yp sm.mods,obS]
 rcases qL st s with⟨h1,_⟩ | ⟨k,m,h1,h2,h3,_⟩
 ·
  rw[h1,if_neg (by decide)] at hr
  rw[h1,if_neg (by decide),YZ hs,obS]
  by_cases he:zG s=emptyS
  ·
   rw[if_pos he,obS,if_neg (by simp)] at hr
   simp only at hr
   rw[h1,if_neg (by decide)] at hr
   rw[if_neg (by rw[show zG s=(⟨[]⟩:Str) from he];decide),obS,Sum.elim_inl]
   exact load_new ht hp hI hB h (by omega) hle (by omega) hs hr
  ·
   have he':¬ zG s=(⟨[]⟩:Str):=he
   obtain⟨e1,e2⟩:=ZB hs he
   obtain⟨q,hq,hqp⟩:=hI st (zG s) h e2 (by omega)
   have hqs:=hqp.size
   have hql:=hqp.grow.left
   have hqi:=hqp.inv.left
   have hl0:=h.left
   have hld:=hL st (zG s) q h e2 (by omega) hsz hq
   rw[if_neg he,hq,obS] at hr
   rw[if_pos (by rw[decide_eq_true he']),hld,obS]
   by_cases hz:q.2.2=0
   ·
    rw[if_neg (by simp[hz])] at hr
    simp only
    rw[hz,if_neg (by decide),Yp (RSt.small (n:=20100) (by omega) (by decide)).mods,obS]
    rcases qL q.1 s with⟨k1,_⟩ | ⟨k,m,k1,k2,k3,_⟩
    ·
     rw[k1,if_neg (by decide)] at hr
     rw[k1,if_neg (by decide),obS,Sum.elim_inl]
     exact load_new ht hp hI hB hqp.inv (by omega) (by omega) (by omega) hs hr
    ·
     have smq:=RSt.small (st:=q.1) (n:=20100) (by omega) (by decide)
     rw[k1,if_pos (jY k),Int.toNat_natCast] at hr
     injection hr with hr;subst hr
     rw[k1,if_pos (jY k),hit_eq smq.log smq.part k2,obS,k3]
     rfl
   ·
    rw[if_pos hz] at hr
    injection hr with hr;subst hr
    simp only
    rw[if_pos (XW hz)]
    rfl
 ·
  rw[h1,if_pos (jY k),Int.toNat_natCast] at hr
  injection hr with hr;subst hr
  rw[h1,if_pos (jY k),hit_eq sm.log sm.part h2,obS,h3]
theorem left_of(h:Inv st){z:Nat}(hz:st.size<=z)(hh:z<=100000):st.left<=1000000:=by
 unfold RSt.size at hz
 have:=h.left
 omega
theorem scc_load(ht:Good t)(hp:path.length<=1048576):∀ (k N:Nat),3*k<=N->XN t path k (scc N) (imp t path k)
 | 0,_,_=>λ _ _ _ _ _ _ _ hr=>by cases hr
 |
  k+1,N,hN=>λ st s r h hs hn hsz hr=>by
  obtain⟨M,rfl⟩:∃ M,N=M+3:=⟨N - 3,by omega⟩
  have hI:=imp_ok ht.ok hp k
  have hL0:XN t path k (scc M) (imp t path k):=scc_load ht hp k M (by omega)
  have hL2:XN t path k (scc (M+2)) (imp t path k):=scc_load ht hp k (M+2) (by omega)
  have hD:DoEq t path k (scc (M+1)) (imp t path k):=λ st k' m x r h hm hx hn hsz hr=>do_eq ht hp hI hL0 h hn hsz hm hx hr
  have hB:BodyEq t path k (scc (M+2)) (imp t path k):=λ st k' m sp r h hn hle hsz hm hf hr=>body_eq ht.ok hI hD h hn hle hsz hm hf hr
  exact load_eq ht hp hI hL2 hB h hs hn (left_of h hsz (by decide)) hsz hr
open Go.RowKit
variable(t:Tree)(path:List Int)
def rnr(st:RSt)(e:Int):Runner:=⟨t,path,st.mods,st.log,st.out,e,st.left,⟨⟨false,zDisk,YR,[],0⟩⟩⟩
variable{t path}{st:RSt}{n:Nat}{R:Rec}{I:RImp}
theorem Ya(h:st.mods.length<=1048576)(e:Int)(s:Str):xm (rnr t path st e) s=some (rnr t path st e,cix st s):=by
 unfold xm
 have hl:zO (λ s4=>jc (rnr t path st e) s s4) 0=some (match st.mods.findIdx? (hits s) with | some i=>(Sum.inr (rnr t path st e,(i:Int)):Unit⊕(Runner×Int)) | none=>Sum.inl ()):=by
  refine Xm st.mods (hits s) (λ i=>Sum.inr (rnr t path st e,i)) _ (λ k x hx hlt=>?_) ?_ (by omega) rfl
  ·
   unfold jc
   rw[show(rnr t path st e).mods=st.mods from rfl,zR,if_pos (decide_eq_true hlt),zN,hx,obS,xV,obS,zQ (by omega)]
   unfold hits
   cases decide (x.name=s) with
   |
    true=>
    rw[if_pos (show(true == true)=true from rfl)]
    cases x.cached <;> rfl
   | false=>rfl
  ·
   unfold jc
   rw[show(rnr t path st e).mods=st.mods from rfl,zR,if_neg (by simp)]
 rw[hl]
 unfold cix xt
 cases List.findIdx? (hits s) st.mods <;> rfl
theorem JS(h:st.log.length<=1048576)(e k:Int)(s:Str):xN (rnr t path st e) k s=some (rnr t path (st.note k s) e):=by
 unfold xN
 rw[show(rnr t path st e).log=st.log from rfl,jz (by show(st.log.length+1)*24<=_;omega) (by show st.log.length+1<=_;omega),obS]
 rfl
theorem Qk{l:List GAttr}(h:l.length<=16777216)(s:Str):jx l s=some (aix l s):=by
 unfold jx
 have hl:zO (λ s4=>wJ l s s4) 0=some (match l.findIdx? (λ a=>decide (a.name=s)) with | some i=>(Sum.inr (i:Int):Unit⊕Int) | none=>Sum.inl ()):=by
  refine Xm l (λ a=>decide (a.name=s)) (λ i=>Sum.inr i) _ (λ k x hx hlt=>?_) ?_ (by omega) rfl
  ·
   unfold wJ
   rw[zR,if_pos (decide_eq_true hlt),zN,hx,obS,zQ (by omega),obS]
   cases decide (x.name=s) <;> rfl
  ·
   unfold wJ
   rw[zR,if_neg (by simp)]
 rw[hl]
 unfold aix xt
 cases List.findIdx? (λ a:GAttr=>decide (a.name=s)) l <;> rfl
theorem YL(h:Inv st){k:Nat}{m:GMod}(hm:st.mods[k]?=some m)(e:Int)(s:Str)(v:GVal):xi (rnr t path st e) (k:Int) s v=some (rnr t path (st.give k s v) e):=by
 have hi:=h.at_ hm
 unfold xi
 rw[show(rnr t path st e).mods=st.mods from rfl,zN,hm,obS,Qk hi.2.2.1,obS,obS,Int.toNat_natCast]
 have hg:rnr t path (st.give k s v) e={ rnr t path st e with mods:=st.mods.set k { m with attrs:=jX m.attrs s v } }:=by rw[set_give hm];rfl
 rw[hg]
 unfold jX
 rcases Xr m.attrs s with⟨h1,_⟩ | ⟨j,a,h1,_,h3,_⟩
 ·
  rw[h1,geq_m1,if_neg (show ¬ (false=true) by decide),if_neg (show ¬ (false=true) by decide),obS,jz (by show(m.attrs.length+1)*32<=_;omega) (by show m.attrs.length+1<=_;omega),obS,obS]
 ·
  rw[h1,jY,if_pos (show true=true from rfl),if_pos (show true=true from rfl),zN,h3,obS,Int.toNat_natCast,Ym _ h3]
theorem spackageOf_eq{m:GMod}(h:zn m.name=true):jL m=some (if m.kind=1 then zG m.name else m.name):=by
 unfold jL
 by_cases hk:m.kind=1
 ·
  rw[if_pos (by simp[cmpI,hk]),if_pos hk,show xx m.name=some (zG m.name) from if_pos (xX h).mid];rfl
 ·
  rw[if_neg (by simp[cmpI,hk]),if_neg hk]
theorem Qv(e:Int){rs:List Int}(hr:rs.length<=1048576){p s:Str}(hp:p.l.length+s.l.length<=100):jd (rnr t path st e) rs p s=some (rnr t path st e,Zf t.files rs p s):=by
 unfold jd
 rw[if_pos (show(!(rnr t path st e).warm.x.on)=true from rfl),show ZT (rnr t path st e).t rs p s=some (Zf t.files rs p s) from if_pos ⟨by omega,by omega⟩,obS]
theorem specIn_eq(hp:path.length<=1048576)(h:Inv st)(hs:Small st)(e:Int){s:Str}(hv:zn s=true):jy (rnr t path st e) s=some (rnr t path st e,Yg t path st s):=by
 have hl:=yQ hv
 unfold jy Yg
 rw[show xx s=some (zG s) from if_pos (xX hv).mid,obS]
 by_cases he:zG s=emptyS
 ·
  rw[if_pos (decide_eq_true (show zG s=(⟨[]⟩:Str) from he)),if_pos he,show(rnr t path st e).path=path from rfl,Qv e hp (by show 0+s.l.length<=_;omega),obS]
  rfl
 ·
  have he':¬ zG s=(⟨[]⟩:Str):=he
  have hpp:=(ZB hv he).2
  have hpl:=yQ hpp
  have hla:=part_len (XK hv)
  rw[if_neg (by simp[he']),if_neg he,Ya hs.mods,obS]
  rcases qL st (zG s) with⟨h1,_⟩ | ⟨k,m,h1,h2,h3,_⟩
  ·
   rw[h1,lss_m1]
   rw[show((true == false):Bool)=false from rfl,Z9,obS,if_pos (by simp),if_pos rfl]
   rfl
  ·
   rw[h1,JP,show((false == false):Bool)=true from rfl,Yj,show(rnr t path st e).mods=st.mods from rfl,zN,h2,obS,Bool.false_or,if_neg (by decide:¬ (false=true)),Int.toNat_natCast,Yq h2,Q5 h2]
   by_cases hk:m.kind=1
   ·
    rw[if_pos (by simp[cmpI,hk]),if_pos hk];rfl
   ·
    rw[if_neg (by simp[cmpI,hk]),if_neg hk,obS,show ql s=some (wo s) from if_pos (xX hv).mid,obS,Qv e (h.at_ h2).2.2.2 (by omega),obS]
def WN(t:Tree)(path:List Int)(n:Nat)(R:Rec)(I:RImp):Prop:=
 ∀ (st:RSt) (s:Str) (r:RSt×Int×Int),Inv st->zn s=true->4*st.left.toNat+(zC s dot).length<=n->st.size<=20000->I st s=some r->R.spec_importName (rnr t path st 0) s=some (rnr t path r.1 r.2.2,r.2.1)
def ValEq(t:Tree)(path:List Int)(n:Nat)(R:Rec)(I:RImp):Prop:=
 ∀ (st:RSt) (j:Nat) (m:GMod) (s:Str) (v:RSt×GVal×Int),Inv st->st.mods[j]?=some m->zy s=true->4*st.left.toNat+3<=n->st.size<=20000->Wr t path I st j s=some v->R.spec_fromName (rnr t path st 0) (j:Int) s=some (rnr t path v.1 v.2.2,v.2.1)
theorem val_eq(hp:path.length<=1048576)(hL:WN t path n R I)(hI:qF n I)(h:Inv st)(hn:4*st.left.toNat+3<=n)(hsz:st.size<=20000){j:Nat}{m:GMod}(hj:st.mods[j]?=some m){nm:Str}(hnm:zy nm=true){v:RSt×GVal×Int}(hv:Wr t path I st j nm=some v):
  jZ R (rnr t path st 0) (j:Int) nm=some (rnr t path v.1 v.2.2,v.2.1):=by
 have hi:=h.at_ hj
 have hnl:=yQ hi.2.1
 have hnp:=part_len hnm
 have hcl:=Qi m.name nm
 have sm:=RSt.small hsz (by decide)
 unfold Wr at hv
 rw[ZN hj,Yq hj,Wx hj] at hv
 unfold jZ
 rw[show(rnr t path st 0).mods=st.mods from rfl,zN,hj,obS,Qk hi.2.2.1,obS]
 rcases Xr m.attrs nm with⟨h1,_⟩ | ⟨k,a,h1,_,h3,_⟩
 ·
  rw[h1,geq_m1,if_neg (show ¬ (false=true) by decide)] at hv
  have hvn:yW (child m.name nm)=some (zn (child m.name nm)):=if_pos (by unfold mid;omega)
  rw[h1,geq_m1,if_neg (show ¬ (false=true) by decide),obS,show qI m.name nm=some (child m.name nm) from if_pos (by omega),obS,obS,hvn,xV,obS]
  by_cases hk:m.kind=1
  ·
   rw[if_pos (.inl hk)] at hv
   injection hv with hv;subst hv
   rw[wA hk,if_pos (by rfl)]
   rfl
  ·
   rw[xT hk,show(false == false)=true from rfl,if_pos (show true=true from rfl),Bool.false_or]
   cases hc:zn (child m.name nm) with
   |
    false=>
    rw[if_pos (.inr hc)] at hv
    injection hv with hv;subst hv
    rw[if_pos (by rfl)]
    rfl
   |
    true=>
    have hpl:=wU hc
    rw[if_neg (λ e=>e.elim hk λ e=>by rw[hc] at e;cases e)] at hv
    obtain⟨q,hq,hqp⟩:=hI st _ h hc (by omega)
    have hld:=hL st _ q h hc (by omega) hsz hq
    rw[if_neg (by decide),Ya sm.mods,obS]
    cases hl:cmpI .lss (cix st (child m.name nm)) 0 with
    |
     true=>
     rw[show(true == true)=true from rfl,Yj,specIn_eq hp h sm 0 hc,obS,Bool.true_and,if_pos (show true=true from rfl)]
     by_cases hz:(Yg t path st (child m.name nm)).kind=0
     ·
      rw[if_pos ⟨hl,hz⟩] at hv
      injection hv with hv;subst hv
      rw[if_pos (wA hz)]
      rfl
     ·
      rw[if_neg (λ e=>hz e.2),hq,obS] at hv
      injection hv with hv;subst hv
      rw[if_neg (by rw[xT hz];decide),hld,obS]
    |
     false=>
     rw[if_neg (λ e=>by rw[hl] at e;exact absurd e.1 (by decide)),hq,obS] at hv
     injection hv with hv;subst hv
     rw[show(false == true)=false from rfl,Z9,obS,Bool.false_and,if_neg (show ¬ (false=true) by decide),if_neg (show ¬ (false=true) by decide),hld,obS]
 ·
  rw[h1,jY,if_pos (show true=true from rfl),Int.toNat_natCast,h3] at hv
  injection hv with hv;subst hv
  rw[h1,jY,if_pos (show true=true from rfl),obS,zN,h3,obS]
  rfl
theorem star_loop{k:Nat}(hk':∃ m,st.mods[k]?=some m)(l:List GAttr)(h:Inv st)(hl:∀ a∈l,zy a.name=true)(hb:l.length<=16777216):
  zO (λ s19=>xb R (k:Int) l s19) (rnr t path st 0,(0:Int))=some (rnr t path (starF k l st) 0):=by
 obtain⟨m0,hm0⟩:=hk'
 have key:=Qe (step:=λ s19=>xb R (k:Int) l s19) l (λ(s:RSt) j=>(rnr t path s 0,(j:Int))) (λ s a=>if(a.name.l.headD 0 == 122)=true then s else s.give k a.name a.value) (λ s=>rnr t path s 0) (λ _ s=>Inv s/\∃ m,s.mods[k]?=some m)
  (λ j s a ha hlt ⟨hi,m1,hm1⟩=>by
   have hva:=hl a (List.mem_of_getElem? ha)
   have hne:a.name.l[0]?=some (a.name.l.headD 0):=by
    rcases XM hva with⟨c,e,_⟩ | ⟨c,d,e,_⟩ | ⟨c,d,e',e,_⟩ <;> rw[e] <;> rfl
   have hat:atI a.name.l (0:Int)=some (a.name.l.headD 0):=hne
   have hgr:=Grow.give (st:=s) k a.name a.value
   obtain⟨m2,hm2⟩:=hgr.at_ hm1
   have hs:xb R (k:Int) l (rnr t path s 0,(j:Int))=some (.inl (rnr t path (if(a.name.l.headD 0 == 122)=true then s else s.give k a.name a.value) 0,((j+1:Nat):Int))):=by
    unfold xb
    simp only
    rw[zR,if_pos (decide_eq_true hlt),zN,ha,obS,hat,obS,zQ (by omega)]
    cases hz:(a.name.l.headD 0 == 122) with
    |
     true=>
     rw[if_neg (by simp[cmpB] at hz ⊢;exact hz),if_pos rfl]
     rfl
    |
     false=>
     rw[if_pos (by simp[cmpB] at hz ⊢;exact hz),obS,obS,YL hi hm1,if_neg (by decide)]
     rfl
   refine⟨hs,?_⟩
   split
   ·
    exact⟨hi,m1,hm1⟩
   ·
    exact⟨hi.give k _ hva,m2,hm2⟩)
  (λ s _=>by
   unfold xb
   simp only
   rw[zR,if_neg (by simp)]) (s0:=st) ⟨h,m0,hm0⟩ (by omega)
 exact key
open Go.RowKit
variable{t:Tree}{path:List Int}{st:RSt}{n:Nat}{R:Rec}{I:RImp}
theorem from_eq(_hp:path.length<=1048576)(hI:qF n I)(hL:WN t path n R I)(hV:ValEq t path n R I)(h:Inv st)(hn:4*st.left.toNat+3<=n)(hsz:st.size<=19950){k:Nat}{m:GMod}(hk:st.mods[k]?=some m){x:Stmt}(hx:zP x=true)(hkd:x.kind=1){r:RSt×Int}(hr:qE t path I st k x=some r):
  qr R (rnr t path st 0) (k:Int) x=some (rnr t path r.1 r.2):=by
 have hi:=h.at_ hk
 have hsx:zv x.module=true/\0<=x.level/\x.level<=3:=by
  rcases Ze hx with h1 | h1 | h1
  ·
   exact absurd h1.1 (by omega)
  ·
   exact⟨h1.2.1,h1.2.2.1,h1.2.2.2⟩
  ·
   exact absurd hkd h1.2.1
 have hnm:=Xp hx (.inl hkd)
 unfold qE at hr
 have hpk:XJ st k=if m.kind=1 then zG m.name else m.name:=by unfold XJ;rw[Yq hk,Wx hk]
 rw[if_neg (by omega),if_pos hkd,hpk] at hr
 have hpv:zv (if m.kind=1 then zG m.name else m.name)=true:=by
  split
  ·
   exact YK (j8 hi.2.1)
  ·
   exact j8 hi.2.1
 have hsh:sho (qD (if m.kind=1 then zG m.name else m.name) x.level x.module):=by
  have:=stName_sho hpv hx
  unfold stName at this
  rw[if_neg (by simp[cmpI,hkd]),if_pos (by simp[cmpI,hkd])] at this
  exact this
 unfold qr
 rw[show(rnr t path st 0).mods=st.mods from rfl,zN,hk,obS,spackageOf_eq hi.2.1,obS,QC hpv hsx.2.1 (by omega) (pkg_sho hsx.1),obS]
 generalize qD (if m.kind=1 then zG m.name else m.name) x.level x.module=s1 at*
 rw[show yW s1=some (zn s1) from if_pos hsh.mid,obS]
 cases hv:zn s1 with
 |
  false=>
  rw[if_pos hv] at hr
  injection hr with hr;subst hr
  rw[if_pos (by rfl)]
  rfl
 |
  true=>
  rw[if_neg (by rw[hv];decide)] at hr
  have hpl:=wU hv
  obtain⟨q,hq,hqp⟩:=hI st s1 h hv (by omega)
  have hqs:=hqp.size
  have hld:=hL st s1 q h hv (by omega) (by omega) hq
  rw[hq,obS] at hr
  rw[if_neg (by decide),hld,obS]
  by_cases he:q.2.2=0
  ·
   rw[if_neg (by simp[he])] at hr
   obtain⟨m',hm'⟩:=hqp.grow.at_ hk
   obtain⟨m2,hm2,hmn,h0⟩:=hqp.good he
   have hlq:=hqp.grow.left
   obtain⟨j,hj⟩:∃ j:Nat,q.2.1=j:=⟨_,(Int.toNat_of_nonneg h0).symm⟩
   rw[hj,Int.toNat_natCast] at hm2
   rw[hj,Int.toNat_natCast] at hr
   have hn':4*q.1.left.toNat+3<=n:=by have:=h.left;have:=hqp.inv.left;omega
   obtain⟨v,hve,hvb⟩:=value_ok (t:=t) (path:=path) hI hqp.inv hn' j x.name hnm
   have hval:=hV q.1 j m2 x.name v hqp.inv hm2 hnm hn' (by omega) hve
   rw[hve,obS] at hr
   obtain⟨m3,hm3⟩:=hvb.grow.at_ hm'
   simp only
   rw[show(rnr t path q.1 q.2.2).fin=q.2.2 from rfl,he,if_neg (by decide),hj,hval,obS]
   by_cases hz:v.2.2=0
   ·
    rw[if_neg (by simp[hz])] at hr
    injection hr with hr;subst hr
    simp only
    rw[show(rnr t path v.1 v.2.2).fin=v.2.2 from rfl,if_pos (wA hz),YL hvb.inv hm3,hz]
    rfl
   ·
    rw[if_pos hz] at hr
    injection hr with hr;subst hr
    simp only
    rw[show(rnr t path v.1 v.2.2).fin=v.2.2 from rfl,if_neg (by rw[xT hz];decide)]
  ·
   rw[if_pos he] at hr
   injection hr with hr;subst hr
   simp only
   rw[show(rnr t path q.1 q.2.2).fin=q.2.2 from rfl,if_pos (XW he)]
theorem star_eq(hI:qF n I)(hL:WN t path n R I)(h:Inv st)(hn:4*st.left.toNat+3<=n)(hsz:st.size<=19950){k:Nat}{m:GMod}(hk:st.mods[k]?=some m){x:Stmt}(hx:zP x=true)(hkd:x.kind=2){r:RSt×Int}(hr:qE t path I st k x=some r):
  qq R (rnr t path st 0) (k:Int) x=some (rnr t path r.1 r.2):=by
 have hv:=Zq hx (.inr hkd)
 have hpl:=wU hv
 obtain⟨q,hq,hp⟩:=hI st x.module h hv (by omega)
 have hqs:=hp.size
 unfold qE at hr
 rw[if_neg (by omega),if_neg (by omega),if_pos hkd,hq,obS] at hr
 have hld:=hL st x.module q h hv (by omega) (by omega) hq
 unfold qq
 rw[hld,obS]
 by_cases he:q.2.2=0
 ·
  rw[if_neg (by simp[he])] at hr
  obtain⟨m',hm'⟩:=hp.grow.at_ hk
  obtain⟨m2,hm2,_,h0⟩:=hp.good he
  have hi2:=hp.inv.at_ hm2
  obtain⟨j,hj⟩:∃ j:Nat,q.2.1=j:=⟨_,(Int.toNat_of_nonneg h0).symm⟩
  rw[hj,Int.toNat_natCast] at hm2
  rw[hj,Int.toNat_natCast,ZN hm2] at hr
  injection hr with hr;subst hr
  simp only
  rw[show(rnr t path q.1 q.2.2).fin=q.2.2 from rfl,he,if_neg (by decide),hj,show(rnr t path q.1 0).mods=q.1.mods from rfl,zN,hm2,obS,
   jz (by simp;omega) (by simp;omega),obS,List.nil_append,star_loop ⟨m',hm'⟩ m2.attrs hp.inv (hp.inv.parts m2 hi2.1) hi2.2.2.1]
 ·
  rw[if_pos he] at hr
  injection hr with hr;subst hr
  simp only
  rw[show(rnr t path q.1 q.2.2).fin=q.2.2 from rfl,if_pos (XW he)]
def StEq(t:Tree)(path:List Int)(n:Nat)(F:Runner->Int->Stmt->Option Runner)(I:RImp)(P:Int->Prop):Prop:=
 ∀ (st:RSt) (k:Nat) (m:GMod) (x:Stmt) (r:RSt×Int),Inv st->st.mods[k]?=some m->zP x=true->P x.kind->4*st.left.toNat+3<=n->st.size<=19950->qE t path I st k x=some r->F (rnr t path st 0) (k:Int) x=some (rnr t path r.1 r.2)
theorem first_get(s:Str):(zC s dot)[0]?=some (qc s):=by
 have:=Zp s
 unfold qc
 cases h:zC s dot with
 | nil=>rw[h] at this;simp at this
 | cons a l=>rfl
theorem sstmt_eq(hI:qF n I)(hL:WN t path n R I)(hF:StEq t path n R.spec_runFrom I (·=1))(hS:StEq t path n R.spec_runStar I (·=2))(h:Inv st)(hn:4*st.left.toNat+3<=n)(hsz:st.size<=19950){k:Nat}{m:GMod}(hk:st.mods[k]?=some m){x:Stmt}(hx:zP x=true){r:RSt×Int}(hr:qE t path I st k x=some r):
  qo R (rnr t path st 0) (k:Int) x=some (rnr t path r.1 r.2):=by
 have hi:=h.at_ hk
 unfold qo
 by_cases h0:x.kind=0
 ·
  have hv:=Zq hx (.inl h0)
  have hpl:=wU hv
  obtain⟨q,hq,hp⟩:=hI st x.module h hv (by omega)
  have hqs:=hp.size
  unfold qE at hr
  rw[if_pos h0,hq,obS] at hr
  have hld:=hL st x.module q h hv (by omega) (by omega) hq
  have smq:=RSt.small (st:=q.1) (n:=20000) (by omega) (by decide)
  rw[if_pos (wA h0),hld,obS,show Zw x.module (UInt8.ofNat 46)=some (zC x.module dot) from if_pos (xX hv).mid,obS,show atI (zC x.module dot) (0:Int)=(zC x.module dot)[0]? from rfl,first_get,obS]
  simp only
  rw[show(rnr t path q.1 q.2.2).fin=q.2.2 from rfl]
  by_cases he:q.2.2=0
  ·
   rw[if_neg (by simp[he])] at hr
   obtain⟨m',hm'⟩:=hp.grow.at_ hk
   rw[he,if_neg (by decide),Ya smq.mods,obS]
   cases hc:cmpI .lss (cix q.1 (qc x.module)) 0 with
   |
    true=>
    rw[if_pos hc] at hr
    injection hr with hr;subst hr
    rw[if_pos (show true=true from rfl)]
    rfl
   |
    false=>
    rw[if_neg (by simp[hc])] at hr
    injection hr with hr;subst hr
    rw[if_neg (by decide),Ya smq.mods,obS,YL hp.inv hm']
    rfl
  ·
   rw[if_pos he] at hr
   injection hr with hr;subst hr
   rw[if_pos (XW he)]
 ·
  rw[if_neg (by rw[xT h0];decide)]
  by_cases h1:x.kind=1
  ·
   rw[if_pos (wA h1),hF st k m x r h hk hx h1 hn hsz hr];rfl
  ·
   rw[if_neg (by rw[xT h1];decide)]
   by_cases h2:x.kind=2
   ·
    rw[if_pos (wA h2),hS st k m x r h hk hx h2 hn hsz hr];rfl
   ·
    unfold qE at hr
    rw[if_neg h0,if_neg h1,if_neg h2] at hr
    rw[if_neg (by rw[xT h2];decide)]
    by_cases h3:x.kind=3
    ·
     rw[if_pos h3] at hr
     injection hr with hr;subst hr
     rw[if_pos (wA h3),YL h hk];rfl
    ·
     rw[if_neg h3] at hr
     rw[if_neg (by rw[xT h3];decide)]
     by_cases h4:x.kind=4
     ·
      rw[if_pos h4,ZN hk] at hr
      rw[if_pos (wA h4),show(rnr t path st 0).mods=st.mods from rfl,zN,hk,obS,Qk hi.2.2.1,obS]
      rcases Xr m.attrs x.name with⟨k1,_⟩ | ⟨j,a,k1,_,k3,_⟩
      ·
       rw[k1,lss_m1,if_pos (show true=true from rfl)] at hr
       injection hr with hr;subst hr
       rw[k1,lss_m1,if_pos (show true=true from rfl)];rfl
      ·
       rw[k1,JP,if_neg (show ¬ (false=true) by decide),Int.toNat_natCast,k3] at hr
       injection hr with hr;subst hr
       have ho:st.out.length<=19950:=by unfold RSt.size at hsz;omega
       rw[k1,JP,if_neg (show ¬ (false=true) by decide),obS,zN,k3,obS]
       have hsh:Zy a.value=some (if a.value.kind=1 then -1 else a.value.num):=by
        unfold Zy
        by_cases hz:a.value.kind=1
        ·
         rw[if_pos (wA hz),if_pos hz]
        ·
         rw[if_neg (by rw[xT hz];decide),if_neg hz]
       rw[hsh,obS,show(rnr t path st 0).out=st.out from rfl,jz (by show(st.out.length+1)*8<=_;omega) (by show st.out.length+1<=_;omega),obS]
       rfl
     ·
      rw[if_neg h4] at hr
      rw[if_neg (by rw[xT h4];decide)]
      by_cases h5:x.kind=5
      ·
       rw[if_pos h5] at hr
       injection hr with hr;subst hr
       rw[if_pos (wA h5)];rfl
      ·
       rw[if_neg h5] at hr
       injection hr with hr;subst hr
       rw[if_neg (by rw[xT h5];decide)]
theorem Q7(hI:qF n I)(hD:StEq t path n R.spec_runStmt I (λ _=>True))(k:Nat)(l:List Stmt)(hl:∀ x∈l,zP x=true)(hlen:l.length<1000000000):∀ (m i:Nat) (st:RSt) (r:RSt×Int),i+m=l.length->Inv st->(∃ mm,st.mods[k]?=some mm)->4*st.left.toNat<=n+1->st.left<=1000000->st.size<=20050->XV t path I k (l.drop i) st=some r->
  wn (λ s2=>xa R (k:Int) l s2) (m+1) (rnr t path st 0,(i:Int))=some (rnr t path r.1 r.2)
 |
  0,i,st,r,hi,_,_,_,_,_,hr=>by
  have:i=l.length:=by omega
  subst this
  rw[List.drop_length] at hr
  unfold XV at hr
  injection hr with hr;subst hr
  refine yq ?_
  unfold xa
  simp only
  rw[zR,if_neg (by simp)]
 |
  m+1,i,st,r,hi,h,⟨mm,hmm⟩,hn,hle,hsz,hr=>by
  have hlt:i<l.length:=by omega
  have hx:l[i]?=some l[i]:=List.getElem?_eq_getElem hlt
  have hv:=hl l[i] (List.getElem_mem hlt)
  rw[List.drop_eq_getElem_cons hlt] at hr
  unfold XV at hr
  have hl0:=h.left
  by_cases hz:st.left=0
  ·
   rw[if_pos hz] at hr
   injection hr with hr;subst hr
   refine yq ?_
   unfold xa
   simp only
   rw[zR,if_pos (decide_eq_true hlt),show(rnr t path st 0).left=st.left from rfl,if_pos (wA hz)]
   rfl
  ·
   rw[if_neg hz] at hr
   have ht:=h.tick hz
   have hts:=size_tick h hz
   have htl:st.tick.left=st.left - 1:=rfl
   obtain⟨q,hq,hb⟩:=stmt_ok (t:=t) (path:=path) hI ht (by rw[htl];omega) k hv
   have hbs:=hb.size
   have hbl:=hb.grow.left
   have hbi:=hb.inv.left
   obtain⟨m2,hm2⟩:=hb.grow.at_ (show st.tick.mods[k]?=some mm from hmm)
   have hd:=hD st.tick k mm l[i] q ht hmm hv trivial (by rw[htl];omega) (by omega) hq
   rw[show qE t path I { st with left:=st.left - 1 } k l[i]=some q from hq,obS] at hr
   have hs:xa R (k:Int) l (rnr t path st 0,(i:Int))=some (if q.2≠0 then .inr (rnr t path q.1 q.2) else .inl (rnr t path q.1 q.2,((i+1:Nat):Int))):=by
    unfold xa
    simp only
    rw[zR,if_pos (decide_eq_true hlt),show(rnr t path st 0).left=st.left from rfl,if_neg (by rw[xT hz];decide),Zh (by omega) (by omega),obS,zN,hx,obS,
     show({ rnr t path st 0 with left:=st.left - 1 }:Runner)=rnr t path st.tick 0 from rfl,hd,obS,zQ (by omega),obS,show(rnr t path q.1 q.2).fin=q.2 from rfl]
    by_cases he:q.2=0
    ·
     rw[he,if_neg (by decide),if_neg (by simp)]
    ·
     rw[if_pos (XW he),if_pos he]
   by_cases he:q.2=0
   ·
    rw[if_neg (by simp[he])] at hr
    rw[if_neg (by simp[he]),he] at hs
    rw[wi hs]
    exact Q7 hI hD k l hl hlen m (i+1) q.1 r (by omega) hb.inv ⟨m2,hm2⟩ (by rw[htl] at hbl;omega) (by rw[htl] at hbl;omega) (by omega) hr
   ·
    rw[if_pos he] at hr
    injection hr with hr;subst hr
    rw[if_pos he] at hs
    exact yq hs
def SBodyEq(t:Tree)(path:List Int)(n:Nat)(R:Rec)(I:RImp):Prop:=
 ∀ (st:RSt) (k:Nat) (m:GMod) (l:List Stmt) (r:RSt×Int),Inv st->st.mods[k]?=some m->(∀ x∈l,zP x=true)->l.length<1000000000->4*st.left.toNat<=n+1->st.left<=1000000->st.size<=20050->XV t path I k l st=some r->R.spec_runBody (rnr t path st 0) (k:Int) l=some (rnr t path r.1 r.2)
theorem sbody_eq(hI:qF n I)(hD:StEq t path n R.spec_runStmt I (λ _=>True))(h:Inv st){k:Nat}{m:GMod}(hk:st.mods[k]?=some m){l:List Stmt}(hl:∀ x∈l,zP x=true)(hlen:l.length<1000000000)(hn:4*st.left.toNat<=n+1)(hle:st.left<=1000000)(hsz:st.size<=20050){r:RSt×Int}(hr:XV t path I k l st=some r):Zz R (rnr t path st 0) (k:Int) l=some (rnr t path r.1 r.2):=
 wT (m:=l.length+1) (Q7 hI hD k l hl hlen l.length 0 st r (by omega) h ⟨m,hk⟩ hn hle hsz (by rw[List.drop_zero];exact hr)) (by omega)
open Go.RowKit
variable{t:Tree}{path:List Int}{st:RSt}{n:Nat}{R:Rec}{I:RImp}
theorem imp_new(hv:ye t=true)(hp:path.length<=1048576)(hI:qF n I)(hB:SBodyEq t path n R I)(h:Inv st)(hn:4*st.left.toNat<=n+1)(hle:st.left<=1000000)(hsz:st.size<=20020){s:Str}(hs:zn s=true){r:RSt×Int×Int}(hr:newF t path I st s (Yg t path st s)=some r):
  ((jy (rnr t path st 0) s).bind λ v46=>
if(cmpI .eql v46.2.kind (0:Int))=true then(some ({ v46.1 with fin:=(1:Int) },(-1:Int)))
else(Option.bind (α:=Runner) ((appO 80 v46.1.mods [(⟨s,v46.2.kind,v46.2.roots,true,false,[]⟩:GMod)]).bind λ v86=>
some ({ v46.1 with mods:=v86 })) λ o65=>
(xN o65 (0:Int) s).bind λ v140=>
Option.bind (α:=Runner) (if(cmpI .geq v46.2.file (0:Int))=true then((jw v140 v46.2.file).bind λ v149=>
(R.spec_runBody v149.1 (v46.1.mods.length:Int) v149.2).bind λ v153=>
some v153)
else(some v140)) λ o143=>
if(cmpI .neq o143.fin (0:Int))=true then((atI o143.mods (v46.1.mods.length:Int)).bind λ v161=>
(xN ({ o143 with mods:=(o143.mods.set (v46.1.mods.length:Int).toNat ({ v161 with cached:=false })) }) (2:Int) s).bind λ v167=>
some (v167,(-1:Int)))
else((atI o143.mods (v46.1.mods.length:Int)).bind λ v172=>
(xN ({ o143 with mods:=(o143.mods.set (v46.1.mods.length:Int).toNat ({ v172 with done:=true })) }) (1:Int) s).bind λ v178=>
Option.bind (α:=Runner) ((xm v178 (zG s)).bind λ v184=>
if(cmpI .geq v184.2 (0:Int))=true then((ql s).bind λ v191=>
(xi v184.1 v184.2 v191 (⟨(1:Int),(v46.1.mods.length:Int)⟩:GVal)).bind λ v195=>
some v195)
else(some v184.1)) λ o181=>
some (o181,(v46.1.mods.length:Int)))))=some (rnr t path r.1 r.2.2,r.2.1):=by
 have sm:=RSt.small hsz (by decide)
 have hlr:=Ja (t:=t) h hp s
 have hlf:=look_file (t:=t) (path:=path) (st:=st) s
 rw[specIn_eq hp h sm 0 hs,obS]
 unfold newF at hr
 generalize Yg t path st s=sp at*
 by_cases hk:sp.kind=0
 ·
  rw[if_pos hk] at hr
  injection hr with hr;subst hr
  rw[if_pos (wA hk)]
  rfl
 ·
  rw[if_neg hk] at hr
  have hbi:=h.begin (sp:=sp) hs hlr
  have hbz:(st.begin s sp).size=st.size+2:=by unfold RSt.size RSt.begin;simp only[List.length_append,List.length_cons,List.length_nil];omega
  have hbm:(st.begin s sp).mods[st.mods.length]?=some ⟨s,sp.kind,sp.roots,true,false,[]⟩:=by unfold RSt.begin;simp
  obtain⟨q,hq,hb⟩:=run_ok (path:=path) hv hI hbi (by exact hn) st.mods.length sp
  have hqs:=hb.size
  rw[hq,obS] at hr
  obtain⟨m,hm⟩:=hb.grow.at_ hbm
  have hrun:(if(cmpI .geq sp.file (0:Int))=true then((jw (rnr t path (st.begin s sp) 0) sp.file).bind λ v149=>(R.spec_runBody v149.1 (st.mods.length:Int) v149.2).bind λ v153=>some v153) else(some (rnr t path (st.begin s sp) 0)))=some (rnr t path q.1 q.2):=by
   unfold runF at hq
   cases hg:cmpI .geq sp.file 0 with
   |
    false=>
    rw[hg,if_neg (show ¬ (false=true) by decide)] at hq
    injection hq with hq;subst hq
    rw[if_neg (show ¬ (false=true) by decide)]
   |
    true=>
    have h0:0<=sp.file:=of_decide_eq_true hg
    rw[hg,if_pos (show true=true from rfl)] at hq
    have hbv:=XL hv sp.file
    have hbl:(Y9 t.files sp.file).body.length<=8:=by
     unfold Y9
     cases hfl:t.files[sp.file.toNat]? with
     | none=>exact Nat.zero_le _
     |
      some f=>
      have:=YJ hv (List.mem_of_getElem? hfl)
      unfold wZ at this
      simp only[Bool.and_eq_true,cmpI,decide_eq_true_eq] at this
      show f.body.length<=8
      omega
    have hbo:jw (rnr t path (st.begin s sp) 0) sp.file=some (rnr t path (st.begin s sp) 0,(Y9 t.files sp.file).body):=by
     unfold jw
     rw[if_pos (show(!(rnr t path (st.begin s sp) 0).warm.x.on)=true from rfl),show(rnr t path (st.begin s sp) 0).t=t from rfl,atI_file h0 hlf,obS]
     rfl
    rw[if_pos (show true=true from rfl),hbo,obS,hB (st.begin s sp) st.mods.length _ _ q hbi hbm hbv (by omega) hn hle (by omega) hq,obS]
  rw[if_neg (by rw[xT hk];decide),show(rnr t path st 0).mods=st.mods from rfl,jz (by have:=sm.mods;show(st.mods.length+1)*80<=_;omega) (by have:=sm.mods;show st.mods.length+1<=_;omega),obS,obS,
   show({ rnr t path st 0 with mods:=st.mods++[⟨s,sp.kind,sp.roots,true,false,[]⟩] }:Runner)=rnr t path (st.grown s sp) 0 from rfl,JS (st:=st.grown s sp) sm.log,obS,show(st.grown s sp).note 0 s=st.begin s sp from rfl]
  simp only
  rw[hrun,obS,Int.toNat_natCast,show(rnr t path q.1 q.2).fin=q.2 from rfl,show(rnr t path q.1 q.2).mods=q.1.mods from rfl,zN,hm,obS]
  have smq:=RSt.small (st:=q.1) (n:=20100) (by omega) (by decide)
  by_cases he:q.2=0
  ·
   rw[if_neg (by simp[he])] at hr
   injection hr with hr;subst hr
   rw[he,if_neg (by decide),obS]
   have hid:=hb.inv.done st.mods.length s
   have hdz:(q.1.done st.mods.length s).size=q.1.size+1:=by unfold RSt.size RSt.done;simp only[Wq,List.length_append,List.length_cons,List.length_nil];omega
   have hdn:RSt.note { q.1 with mods:=q.1.mods.set st.mods.length { m with done:=true } } 1 s=q.1.done st.mods.length s:=by unfold RSt.done;rw[Ym _ hm];rfl
   have hn2:=JS (t:=t) (path:=path) (st:={ q.1 with mods:=q.1.mods.set st.mods.length { m with done:=true } }) smq.log 0 1 s
   rw[hdn] at hn2
   refine(congrFun (congrArg Option.bind hn2) _).trans ?_
   rw[obS,Ya (RSt.small (n:=20100) (by omega) (by decide)).mods,obS]
   unfold RSt.tell
   rcases qL (q.1.done st.mods.length s) (zG s) with⟨h1,_⟩ | ⟨k,m2,h1,h2,h3,_⟩
   ·
    simp only
    rw[h1,geq_m1,if_neg (show ¬ (false=true) by decide),if_neg (show ¬ (false=true) by decide),obS]
   ·
    simp only
    rw[h1,jY,if_pos (show true=true from rfl),if_pos (show true=true from rfl),show ql s=some (wo s) from if_pos (xX hs).mid,obS,YL hid h2,obS,obS,Int.toNat_natCast]
  ·
   rw[if_pos he] at hr
   injection hr with hr;subst hr
   have hdn:RSt.note { q.1 with mods:=q.1.mods.set st.mods.length { m with cached:=false } } 2 s=q.1.fail st.mods.length s:=by unfold RSt.fail;rw[Ym _ hm];rfl
   have hn2:=JS (t:=t) (path:=path) (st:={ q.1 with mods:=q.1.mods.set st.mods.length { m with cached:=false } }) smq.log q.2 2 s
   rw[hdn] at hn2
   rw[if_pos (XW he)]
   refine(congrFun (congrArg Option.bind hn2) _).trans ?_
   rfl
theorem simp_eq(hv:ye t=true)(hp:path.length<=1048576)(hI:qF n I)(hL:WN t path n R I)(hB:SBodyEq t path n R I)(h:Inv st){s:Str}(hs:zn s=true)(hn:4*st.left.toNat+(zC s dot).length<=n+1)(hle:st.left<=1000000)(hsz:st.size<=20000){r:RSt×Int×Int}(hr:impF t path I st s=some r):
  jq R (rnr t path st 0) s=some (rnr t path r.1 r.2.2,r.2.1):=by
 have sm:=RSt.small hsz (by decide)
 have hpp:=Zp s
 have hpl:=wU hs
 unfold impF at hr
 unfold jq
 rw[Ya sm.mods,obS]
 simp only
 rcases qL st s with⟨h1,_⟩ | ⟨k,m,h1,h2,h3,_⟩
 ·
  rw[h1,if_neg (by decide)] at hr
  rw[h1,if_neg (by decide),show xx s=some (zG s) from if_pos (xX hs).mid,obS]
  by_cases he:zG s=emptyS
  ·
   rw[if_pos he,obS,if_neg (by simp)] at hr
   simp only at hr
   rw[h1,if_neg (by decide)] at hr
   have hd:decide (zG s≠(⟨[]⟩:Str))=false:=by rw[show zG s=(⟨[]⟩:Str) from he];rfl
   rw[hd,show(false == true)=false from rfl,Z9,obS,Bool.false_and,if_neg (show ¬ (false=true) by decide),if_neg (show ¬ (false=true) by decide),Ya sm.mods,obS]
   simp only
   rw[h1,if_neg (by decide)]
   exact imp_new hv hp hI hB h (by omega) hle (by omega) hs hr
  ·
   have he':¬ zG s=(⟨[]⟩:Str):=he
   obtain⟨e1,e2⟩:=ZB hs he
   obtain⟨q,hq,hqp⟩:=hI st (zG s) h e2 (by omega)
   have hqs:=hqp.size
   have hql:=hqp.grow.left
   have hqi:=hqp.inv.left
   have hl0:=h.left
   have hld:=hL st (zG s) q h e2 (by omega) hsz hq
   rw[if_neg he,hq,obS] at hr
   have hd:decide (zG s≠(⟨[]⟩:Str))=true:=decide_eq_true he'
   rw[hd,show(true == true)=true from rfl,Yj,hld,obS,Bool.true_and,if_pos (show true=true from rfl)]
   simp only
   by_cases hz:q.2.2=0
   ·
    rw[if_neg (by simp[hz])] at hr
    obtain⟨_,_,_,h0⟩:=hqp.good hz
    rw[if_neg (by simp[cmpI];omega),hz,Ya (RSt.small (n:=20100) (by omega) (by decide)).mods,obS]
    simp only
    rcases qL q.1 s with⟨k1,_⟩ | ⟨k,m,k1,k2,k3,_⟩
    ·
     rw[k1,if_neg (by decide)] at hr
     rw[k1,if_neg (by decide)]
     exact imp_new hv hp hI hB hqp.inv (by omega) (by omega) (by omega) hs hr
    ·
     have smq:=RSt.small (st:=q.1) (n:=20100) (by omega) (by decide)
     rw[k1,if_pos (jY k),Int.toNat_natCast] at hr
     injection hr with hr;subst hr
     rw[k1,if_pos (jY k),JS smq.log,obS]
     rfl
   ·
    have hb:=hqp.bad hz
    rw[if_pos hz] at hr
    injection hr with hr;subst hr
    rw[if_pos (by rw[hb];decide)]
 ·
  rw[h1,if_pos (jY k),Int.toNat_natCast] at hr
  injection hr with hr;subst hr
  rw[h1,if_pos (jY k),JS sm.log,obS]
  rfl
theorem JT(hv:ye t=true)(hp:path.length<=1048576):∀ (k N:Nat),5*k<=N->WN t path k (scc N) (imp t path k)
 | 0,_,_=>λ _ _ _ _ _ _ _ hr=>by cases hr
 |
  k+1,N,hN=>λ st s r h hs hn hsz hr=>by
  obtain⟨M,rfl⟩:∃ M,N=M+5:=⟨N - 5,by omega⟩
  have hI:=imp_ok hv hp k
  have hL0:WN t path k (scc M) (imp t path k):=JT hv hp k M (by omega)
  have hL1:WN t path k (scc (M+1)) (imp t path k):=JT hv hp k (M+1) (by omega)
  have hL2:WN t path k (scc (M+2)) (imp t path k):=JT hv hp k (M+2) (by omega)
  have hL4:WN t path k (scc (M+4)) (imp t path k):=JT hv hp k (M+4) (by omega)
  have hV:ValEq t path k (scc (M+1)) (imp t path k):=λ st j m s v h hm hs hn hsz hv=>val_eq hp hL0 hI h hn hsz hm hs hv
  have hF:StEq t path k (scc (M+2)).spec_runFrom (imp t path k) (·=1):=λ st k' m x r h hm hx hk hn hsz hr=>from_eq hp hI hL1 hV h hn hsz hm hx hk hr
  have hS:StEq t path k (scc (M+2)).spec_runStar (imp t path k) (·=2):=λ st k' m x r h hm hx hk hn hsz hr=>star_eq hI hL1 h hn hsz hm hx hk hr
  have hD:StEq t path k (scc (M+3)).spec_runStmt (imp t path k) (λ _=>True):=λ st k' m x r h hm hx _ hn hsz hr=>sstmt_eq hI hL2 hF hS h hn hsz hm hx hr
  have hB:SBodyEq t path k (scc (M+4)) (imp t path k):=λ st k' m l r h hm hl hlen hn hle hsz hr=>sbody_eq hI hD h hm hl hlen hn hle hsz hr
  exact simp_eq hv hp hI hL4 hB h hs hn (left_of h hsz (by decide)) hsz hr
open Go.RowKit
def st0:RSt:=⟨[],[],[],120,[]⟩
theorem st0_inv:Inv st0:=⟨(λ _ h=>by cases h),(λ _ h=>by cases h),(λ _ h=>by cases h),(λ _ h=>by cases h),by decide⟩
theorem st0_size:st0.size=12000:=rfl
def jA:Nat:=2415
variable{t:Tree}{path:List Int}{s:Str}
def ranR(t:Tree)(path:List Int)(s:Str):RSt×Int×Int:=(imp t path 483 st0 s).getD (st0,0,0)
theorem ran_ok(hv:ye t=true)(hp:path.length<=1048576)(hs:zn s=true):imp t path 483 st0 s=some (ranR t path s)/\ImpPost st0 s (ranR t path s)/\(ranR t path s).1.size<=12012:=by
 have hpl:=wU hs
 obtain⟨r,hr,hk⟩:=imp_ok hv hp 483 st0 s st0_inv hs (by show 4*120+_<=_;omega)
 have:ranR t path s=r:=by unfold ranR;rw[hr];rfl
 rw[this]
 have h1:=hk.size
 rw[st0_size] at h1
 exact⟨hr,hk,by omega⟩
theorem spec_ran_eq(hv:ye t=true)(hp:path.length<=1048576)(hs:zn s=true):YG (scc jA) t path [s]=some (rnr t path (ranR t path s).1 (ranR t path s).2.2):=by
 have hpl:=wU hs
 obtain⟨h1,_,_⟩:=ran_ok hv hp hs
 have h2:=JT hv hp 483 jA (by decide) st0 s _ st0_inv hs (by show 4*120+_<=_;omega) (by decide) h1
 have h3:qt (scc jA) (rnr t path st0 0) (⟨(0:Int),s⟩:GCmd)=some (rnr t path (ranR t path s).1 (ranR t path s).2.2,(ranR t path s).2.2):=by
  unfold qt
  rw[if_pos (show cmpI .eql (⟨(0:Int),s⟩:GCmd).kind 0=true from rfl),show({ rnr t path st0 0 with fin:=(0:Int) }:Runner)=rnr t path st0 0 from rfl,h2]
  rfl
 have h4:zO (λ s11=>qV (scc jA) [s] s11) (rnr t path st0 0,(0:Int))=some (rnr t path (ranR t path s).1 (ranR t path s).2.2):=by
  refine wT (m:=2) ?_ (by decide)
  rw[wi (s':=(rnr t path (ranR t path s).1 (ranR t path s).2.2,(1:Int)))]
  ·
   exact yq rfl
  ·
   unfold qV
   simp only
   rw[if_pos (show cmpI .lss (0:Int) (([s]:List Str).length:Int)=true from rfl),show atI [s] (0:Int)=some s from rfl,obS,h3,obS]
   rfl
 unfold YG
 rw[show qK t path 120=some (rnr t path st0 0) from rfl,obS,h4]
 rfl
theorem Q8(ht:ZG t)(hp:path.length<=1048576)(hn:sho s):wS (scc jA) t path s=some (if okG t path s=true then(⟨some (mach t path (ranR t path s).1)⟩,(ranR t path s).2.2) else(⟨none⟩,-1)):=by
 unfold wS
 rw[ValidTree_eq ht,obS,ValidPath_eq hp,xV,obS,xW hn,xV,obS]
 have key:okG t path s=true->(jl t path 120).bind (λ v15=>((scc jA).impl_machine_load1 v15 s).bind λ v21=>some ((⟨some v21.1⟩:Np Machine),v21.2.2))=some (⟨some (mach t path (ranR t path s).1)⟩,(ranR t path s).2.2):=λ h=>by
  obtain⟨hv,_,hs⟩:=JL h
  have hpl:=wU hs
  obtain⟨h1,_,_⟩:=ran_ok hv hp hs
  have h2:=scc_load ⟨ht,hv⟩ hp 483 jA (by decide) st0 s _ st0_inv hs (by show 4*120+_<=_;omega) (by decide) h1
  rw[show jl t path 120=some (mach t path st0) from rfl,obS,h2]
  rfl
 unfold okG at key ⊢
 cases h1:ye t with
 | false=>rfl
 |
  true=>
  cases h2:wF path with
  | false=>rfl
  |
   true=>
   cases h3:zn s with
   | false=>rfl
   | true=>exact key (by rw[h1,h2,h3];rfl)
def evs(k:Int)(l:List GEvent):List Str:=(l.filter (λ e=>cmpI .eql e.kind k)).map (·.name)
theorem evs_fold(k:Int):∀ (l:List GEvent) (out:List Str),l.foldl (λ o e=>if cmpI .eql e.kind k=true then o++[e.name] else o) out=out++evs k l
 | [],out=>by simp[evs]
 |
  e::l,out=>by
  rw[List.foldl_cons,evs_fold k l]
  unfold evs
  cases h:cmpI .eql e.kind k with
  | true=>rw[if_pos rfl,List.filter_cons_of_pos (by simpa using h)];simp
  | false=>rw[if_neg (by decide),List.filter_cons_of_neg (by simp[h])]
theorem evs_len(k:Int)(l:List GEvent):(evs k l).length<=l.length:=by
 unfold evs
 rw[List.length_map]
 exact List.length_filter_le ..
theorem ev_loop{step:List Str×Int->Option ((List Str×Int)⊕List Str)}(k:Int)(l:List GEvent)(hl:l.length<=1048576)
  (h:∀ i out x,l[i]?=some x->i<l.length->out.length<=1048576->step (out,(i:Int))=some (.inl (if cmpI .eql x.kind k=true then out++[x.name] else out,((i+1:Nat):Int))))
  (hend:∀ out,step (out,(l.length:Int))=some (.inr out)):zO step (([]:List Str),(0:Int))=some (evs k l):=by
 have key:=Qe (step:=step) l (λ(o:List Str) i=>(o,(i:Int))) (λ o e=>if cmpI .eql e.kind k=true then o++[e.name] else o) (λ o=>o) (λ i o=>o.length<=i)
  (λ i o e he hi ho=>⟨h i o e he hi (by omega),by
   split
   ·
    rw[List.length_append];show o.length+1<=_;omega
   ·
    omega⟩) (λ o _=>hend o) (s0:=[]) (Nat.zero_le _) (by omega)
 rw[evs_fold,List.nil_append] at key
 exact key
def logV(t:Tree)(path:List Int)(s:Str):List GEvent:=(ranR t path s).1.log
theorem log_len(hv:ye t=true)(hp:path.length<=1048576)(hs:zn s=true):(logV t path s).length<=12012:=by
 have:=(ran_ok hv hp hs).2.2
 unfold RSt.size at this
 unfold logV
 omega
def evV(k:Int)(t:Tree)(path:List Int)(s:Str):List Str:=if okG t path s=true then evs k (logV t path s) else[]
theorem evV_len(hp:path.length<=1048576)(k:Int):(evV k t path s).length<=12012:=by
 unfold evV
 split
 ·
  rename_i h
  obtain⟨hv,_,hs⟩:=JL h
  have h1:=evs_len k (logV t path s)
  have h2:=log_len hv hp hs
  omega
 ·
  exact Nat.zero_le _
theorem JU(ht:ZG t)(hp:path.length<=1048576)(hn:sho s):wK (scc jA) t path s=some (evV 1 t path s):=by
 unfold wK
 refine okG_cases t path s ht hn (λ h=>by unfold evV;rw[h];rfl) λ h=>?_
 obtain⟨hv,_,hs⟩:=JL h
 have hll:=log_len hv hp hs
 have hl:zO (λ s18=>xK (scc jA) (rnr t path (ranR t path s).1 (ranR t path s).2.2) s18) (([]:List Str),(0:Int))=some (evs 1 (logV t path s)):=by
  refine ev_loop 1 (logV t path s) (by omega) (λ i out x hx hi ho=>?_) (λ out=>?_)
  ·
   unfold xK
   simp only
   rw[show(rnr t path (ranR t path s).1 (ranR t path s).2.2).log=logV t path s from rfl,zR,if_pos (decide_eq_true hi),zN,hx,obS,zQ (by omega)]
   cases hk:cmpI .eql x.kind 1 with
   | true=>rw[if_pos rfl,obS,jz (by show(out.length+1)*16<=_;omega) (by show out.length+1<=_;omega)];rfl
   | false=>rfl
  ·
   unfold xK
   simp only
   rw[show(rnr t path (ranR t path s).1 (ranR t path s).2.2).log=logV t path s from rfl,zR,if_neg (by simp)]
 rw[spec_ran_eq hv hp hs,obS,hl,obS]
 unfold evV
 rw[if_pos h]
theorem eventNames_eq(ht:ZG t)(hp:path.length<=1048576)(hn:sho s)(k:Int):jp (scc jA) t path s k=some (evV k t path s):=by
 unfold jp
 rw[Q8 ht hp hn,obS]
 unfold evV
 cases h:okG t path s with
 | false=>rfl
 |
  true=>
  obtain⟨hv,_,hs⟩:=JL h
  have hll:=log_len hv hp hs
  have hl:zO (λ s13=>xv (scc jA) k (mach t path (ranR t path s).1) s13) (([]:List Str),(0:Int))=some (evs k (logV t path s)):=by
   refine ev_loop k (logV t path s) (by omega) (λ i out x hx hi ho=>?_) (λ out=>?_)
   ·
    unfold xv
    simp only
    rw[show(mach t path (ranR t path s).1).log=logV t path s from rfl,zR,if_pos (decide_eq_true hi),zN,hx,obS,zQ (by omega)]
    cases hk:cmpI .eql x.kind k with
    | true=>rw[if_pos rfl,jz (by show(out.length+1)*16<=_;omega) (by show out.length+1<=_;omega)];rfl
    | false=>rfl
   ·
    unfold xv
    simp only
    rw[show(mach t path (ranR t path s).1).log=logV t path s from rfl,zR,if_neg (by simp)]
  rw[if_pos rfl,if_pos rfl]
  simp only
  rw[if_pos (show(some (mach t path (ranR t path s).1)).isSome=true from rfl),obS,hl]
  rfl
theorem DoneOrder_eq(ht:ZG t)(hp:path.length<=1048576)(hn:sho s):xQ (scc jA) t path s=some (evV 1 t path s):=by
 unfold xQ
 rw[eventNames_eq ht hp hn];rfl
end Go.Proofs.YtiiiokblnnlapaaGreatDoor
