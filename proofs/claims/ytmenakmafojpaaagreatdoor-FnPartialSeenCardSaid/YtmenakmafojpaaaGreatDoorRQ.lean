import Derived.Test.YtmenakmafojpaaaGreatDoorRP
import Derived.Test.YtmenakmafojpaaaGreatDoorRN
namespace Go.Proofs.YtmenakmafojpaaaGreatDoor
open Go.RowKit
structure RSt where
 mods:List GMod
 log:List GEvent
 out:List Int
 left:Int
 part:List Str
def hits(s:Str)(m:GMod):Bool:=decide (m.name=s)&&m.cached
def cix(st:RSt)(s:Str):Int:=yB (hits s) st.mods
def aix(l:List GAttr)(s:Str):Int:=yB (λ a=>decide (a.name=s)) l
def updA{α:Type}(l:List α)(k:Nat)(f:α->α):List α:=match l[k]? with | some x=>l.set k (f x) | none=>l
theorem Zj{α:Type}{l:List α}{k:Nat}{x:α}(f:α->α)(h:l[k]?=some x):updA l k f=l.set k (f x):=by unfold updA;rw[h]
theorem qG{α:Type}(l:List α)(k:Nat)(f:α->α):(updA l k f).length=l.length:=by unfold updA;split <;> simp
theorem X0{α:Type}{l:List α}{k:Nat}{f:α->α}(i:Nat):(updA l k f)[i]?=if i=k then l[k]?.map f else l[i]?:=by
 unfold updA;split
 ·
  rename_i x hx;by_cases e:i=k
  ·
   subst e;have:=zv hx;rw[if_pos rfl,hx,List.getElem?_set_self this];rfl
  ·
   rw[if_neg e,List.getElem?_set_ne (λ h=>e h.symm)]
 ·
  rename_i hx;by_cases e:i=k
  ·
   subst e;simp[hx]
  ·
   rw[if_neg e]
def jy(l:List GAttr)(s:Str)(v:GVal):List GAttr:=if cmpI .geq (aix l s) 0=true then updA l (aix l s).toNat (λ a=>{ a with value:=v }) else l++[⟨s,v⟩]
def RSt.note(st:RSt)(k:Int)(s:Str):RSt:={ st with log:=st.log++[⟨k,s⟩] }
def RSt.doneAt(st:RSt)(k:Nat):Bool:=((st.mods[k]?).map (·.done)).getD false
def RSt.hit(st:RSt)(k:Nat)(s:Str):RSt:={ st with log:=st.log++[⟨3,s⟩],part:=if st.doneAt k=false/\s ∉ st.part then st.part++[s] else st.part }
def RSt.give(st:RSt)(at_:Nat)(s:Str)(v:GVal):RSt:={ st with mods:=updA st.mods at_ (λ m=>{ m with attrs:=jy m.attrs s v }) }
def RSt.begin(st:RSt)(s:Str)(sp:Spec):RSt:={ st with mods:=st.mods++[⟨s,sp.kind,sp.roots,true,false,[]⟩],log:=st.log++[⟨0,s⟩] }
def RSt.fail(st:RSt)(at_:Nat)(s:Str):RSt:={ st with mods:=updA st.mods at_ (λ m=>{ m with cached:=false }),log:=st.log++[⟨2,s⟩] }
def RSt.done(st:RSt)(at_:Nat)(s:Str):RSt:={ st with mods:=updA st.mods at_ (λ m=>{ m with done:=true }),log:=st.log++[⟨1,s⟩] }
def RSt.tell(st:RSt)(at_:Nat)(s:Str):RSt:=if cmpI .geq (cix st (zt s)) 0=true then st.give (cix st (zt s)).toNat (xL s) ⟨1,(at_:Int)⟩ else st
def RSt.kindAt(st:RSt)(k:Nat):Int:=((st.mods[k]?).map (·.kind)).getD 0
def RSt.rootsAt(st:RSt)(k:Nat):List Int:=((st.mods[k]?).map (·.roots)).getD []
def RSt.attrsAt(st:RSt)(k:Nat):List GAttr:=((st.mods[k]?).map (·.attrs)).getD []
def RSt.nameAt(st:RSt)(k:Nat):Str:=((st.mods[k]?).map (·.name)).getD emptyS
def xz(t:Tree)(path:List Int)(st:RSt)(s:Str):Spec:=
 if zt s=emptyS then jp t.files path emptyS s
 else if cmpI .lss (cix st (zt s)) 0=true then YT
 else if st.kindAt (cix st (zt s)).toNat=1 then YT
 else jp t.files (st.rootsAt (cix st (zt s)).toNat) (zt s) (xL s)
def qQ(s:Str):Str:=(zp s dot).headD emptyS
section
variable(t:Tree)(path:List Int)
abbrev RImp:=RSt->Str->Option (RSt×Int×Int)
def W3(at_:Nat)(l:List GAttr)(st:RSt):RSt:=l.foldl (λ st a=>if(a.name.l.headD 0 == 122)=true then st else st.give at_ a.name a.value) st
def Xt(st:RSt)(at_:Nat):Str:=if st.kindAt at_=1 then zt (st.nameAt at_) else st.nameAt at_
def Yb(I:RImp)(st:RSt)(k:Nat)(s:Str):Option (RSt×GVal×Int):=
 if cmpI .geq (aix (st.attrsAt k) s) 0=true then some (st,(((st.attrsAt k)[(aix (st.attrsAt k) s).toNat]?).map (·.value)).getD ⟨0,0⟩,0)
 else if st.kindAt k=1\/zf (child (st.nameAt k) s)=false then some (st,⟨0,0⟩,2)
 else if cmpI .lss (cix st (child (st.nameAt k) s)) 0=true/\(xz t path st (child (st.nameAt k) s)).kind=0 then some (st,⟨0,0⟩,2)
 else(I st (child (st.nameAt k) s)).bind λ r=>some (r.1,⟨1,r.2.1⟩,r.2.2)
def jB(I:RImp)(st:RSt)(at_:Nat)(x:Stmt):Option (RSt×Int):=
 if x.kind=0 then(I st x.module).bind λ r=>
  if r.2.2≠0 then some (r.1,r.2.2) else if cmpI .lss (cix r.1 (qQ x.module)) 0=true then some (r.1,1) else some (r.1.give at_ (qQ x.module) ⟨1,cix r.1 (qQ x.module)⟩,0)
 else if x.kind=1 then
  if zf (qF (Xt st at_) x.level x.module)=false then some (st,5) else
  (I st (qF (Xt st at_) x.level x.module)).bind λ r=>if r.2.2≠0 then some (r.1,r.2.2) else
  (Yb t path I r.1 r.2.1.toNat x.name).bind λ q=>if q.2.2≠0 then some (q.1,q.2.2) else some (q.1.give at_ x.name q.2.1,0)
 else if x.kind=2 then(I st x.module).bind λ r=>
  if r.2.2≠0 then some (r.1,r.2.2) else some (W3 at_ (r.1.attrsAt r.2.1.toNat) r.1,0)
 else if x.kind=3 then some (st.give at_ x.name ⟨0,x.value⟩,0)
 else if x.kind=4 then
  if cmpI .lss (aix (st.attrsAt at_) x.name) 0=true then some (st,3) else
  some ({ st with out:=st.out++[(let v:=(((st.attrsAt at_)[(aix (st.attrsAt at_) x.name).toNat]?).map (·.value)).getD ⟨0,0⟩;if v.kind=1 then -1 else v.num)] },0)
 else if x.kind=5 then some (st,4)
 else some (st,0)
def Yw(I:RImp)(at_:Nat):List Stmt->RSt->Option (RSt×Int)
 | [],st=>some (st,0)
 | x::xs,st=>if st.left=0 then some (st,6) else(jB t path I { st with left:=st.left - 1 } at_ x).bind λ r=>if r.2≠0 then some r else Yw I at_ xs r.1
def runF(I:RImp)(st:RSt)(at_:Nat)(sp:Spec):Option (RSt×Int):=if cmpI .geq sp.file 0=true then Yw t path I at_ (XF t.files sp.file).body st else some (st,0)
def newF(I:RImp)(st:RSt)(s:Str)(sp:Spec):Option (RSt×Int×Int):=
 if sp.kind=0 then some (st,-1,1) else
 (runF t path I (st.begin s sp) st.mods.length sp).bind λ r=>
  if r.2≠0 then some (r.1.fail st.mods.length s,-1,r.2) else some ((r.1.done st.mods.length s).tell st.mods.length s,(st.mods.length:Int),0)
def impF(I:RImp)(st:RSt)(s:Str):Option (RSt×Int×Int):=
 if cmpI .geq (cix st s) 0=true then some (st.hit (cix st s).toNat s,cix st s,0) else
 (if zt s=emptyS then some (st,0,0) else I st (zt s)).bind λ r=>
  if r.2.2≠0 then some (r.1,-1,r.2.2) else
  if cmpI .geq (cix r.1 s) 0=true then some (r.1.hit (cix r.1 s).toNat s,cix r.1 s,0) else newF t path I r.1 s (xz t path r.1 s)
def imp:Nat->RImp
 | 0=>λ _ _=>none
 | n+1=>impF t path (imp n)
end
open Go.RowKit
theorem Jm{α:Type}{p:α->Bool}{l:List α}(h:cmpI .geq (yB p l) 0=true):∃ x,l[(yB p l).toNat]?=some x/\p x=true/\0<=yB p l:=by
 rw[lss_geq] at h;have h':cmpI .lss (yB p l) 0=false:=by simpa using h
 obtain⟨x,h1,h2⟩:=idxOf_some h';exact⟨x,h1,h2,by simpa[cmpI] using h'⟩
theorem qK(s:Str):1<=(zp s dot).length:=by have:=XM s dot;omega
theorem wN{s:Str}(h:zf s=true):(zp s dot).length<=3:=(xI h).2
theorem qt{s:Str}(h:zf s=true)(hp:zt s≠emptyS):(zp (zt s) dot).length+1=(zp s dot).length/\zf (zt s)=true:=by
 obtain⟨h1,h2⟩:=xI h;have h0:=qK s;by_cases e:(zp s dot).length=1
 ·
  exfalso
  apply hp;unfold zt;rw[e];rfl
 ·
  have hne:(zp s dot).take ((zp s dot).length - 1)≠[]:=λ e1=>by
   have:=congrArg List.length e1;rw[List.length_take,List.length_nil] at this;omega
  have hv:∀ x∈(zp s dot).take ((zp s dot).length - 1),zy x=true:=λ x hx=>h1 x (List.mem_of_mem_take hx)
  constructor
  ·
   unfold zt;rw[Wn hne hv,List.length_take];omega
  ·
   exact Qh hne (by rw[List.length_take];omega) hv
theorem Wp{s:Str}(h:zf s=true):zy (xL s)=true:=(xI h).1 _ (List.mem_of_getElem? (last_get s))
theorem first_valid{s:Str}(h:zf s=true):zy (qQ s)=true:=by
 unfold qQ;have h1:=(xI h).1;have h0:=qK s;cases hs:zp s dot with
 | nil=>rw[hs] at h0;simp at h0
 | cons a l=>exact h1 a (by rw[hs];exact List.mem_cons_self ..)
theorem qg{x:Stmt}(h:zU x=true)(hk:x.kind=0\/x.kind=2):zf x.module=true:=by
 rcases ZC h with h1 | h1 | h1
 ·
  exact h1.2
 ·
  omega
 ·
  omega
theorem X1{x:Stmt}(h:zU x=true)(hk:x.kind=1\/x.kind=3\/x.kind=4):zy x.name=true:=by
 unfold zU at h;rcases hk with hk | hk | hk <;> simp only[hk,cmpI] at h <;> simp at h <;> first | exact h.1.2 | exact h.2.1 | exact h.1.1.2 | (exact h.1.2.1) | (exact h.2.2.1)
structure Inv(st:RSt):Prop where
 names:∀ m∈st.mods,zf m.name=true
 roots:∀ m∈st.mods,m.roots.length<=1048576
 parts:∀ m∈st.mods,∀ a∈m.attrs,zy a.name=true
 apart:∀ m∈st.mods,(m.attrs.map (·.name)).Nodup
 left:0<=st.left
structure Grow(a b:RSt):Prop where
 left:b.left<=a.left
 old:∀ (i:Nat) (m:GMod),a.mods[i]?=some m->∃ m',b.mods[i]?=some m'/\m'.name=m.name
theorem Grow.refl(a:RSt):Grow a a:=⟨Int.le_refl _,λ _ m h=>⟨m,h,rfl⟩⟩
theorem Grow.trans{a b c:RSt}(h:Grow a b)(k:Grow b c):Grow a c:=⟨Int.le_trans k.left h.left,λ i m hm=>let⟨m1,h1,h2⟩:=h.old i m hm;let⟨m2,k1,k2⟩:=k.old i m1 h1;⟨m2,k1,k2.trans h2⟩⟩
def RSt.size(st:RSt):Nat:=st.log.length+st.out.length+st.mods.length+st.part.length+100*st.left.toNat
theorem QX{α:Type}{l:List α}{k:Nat}{f:α->α}{x:α}(h:x∈updA l k f):x∈l\/∃ y∈l,x=f y:=by
 unfold updA at h;split at h
 ·
  rename_i y hy;rcases List.mem_or_eq_of_mem_set h with h | h
  ·
   exact .inl h
  ·
   exact .inr ⟨y,List.mem_of_getElem? hy,h⟩
 ·
  exact .inl h
theorem updA_old{l:List GMod}{k:Nat}{f:GMod->GMod}(hf:∀ m,(f m).name=m.name){i:Nat}{m:GMod}(h:l[i]?=some m):∃ m',(updA l k f)[i]?=some m'/\m'.name=m.name:=by
 rw[X0];by_cases e:i=k
 ·
  subst e;rw[if_pos rfl,h];exact⟨f m,rfl,hf m⟩
 ·
  rw[if_neg e];exact⟨m,h,rfl⟩
theorem zan(l:List GAttr)(s:Str)(v:GVal):(jy l s v).map (·.name)=if cmpI .geq (aix l s) 0=true then l.map (·.name) else l.map (·.name)++[s]:=by
 unfold jy;split
 ·
  rename_i h;obtain⟨x,h1,h2,_⟩:=Jm h;have h1':l[(aix l s).toNat]?=some x:=h1;rw[Zj _ h1',List.map_set];apply List.ext_getElem?;intro i;by_cases e:(aix l s).toNat=i
  ·
   subst e;have:=zv h1';rw[List.getElem?_set_self (by simpa using this),List.getElem?_map,h1'];rfl
  ·
   rw[List.getElem?_set_ne e]
 ·
  simp
theorem Wq{α:Type}{p:α->Bool}{l:List α}(h:cmpI .geq (yB p l) 0=false):∀ x∈l,p x=false:=by
 rw[Y7] at h;intro x hx;cases hp:p x with
 | false=>rfl
 | true=>rw[List.any_eq_true.2 ⟨x,hx,hp⟩] at h;cases h
theorem put_apart{l:List GAttr}{s:Str}{v:GVal}(h:(l.map (·.name)).Nodup):((jy l s v).map (·.name)).Nodup:=by
 rw[zan];split
 ·
  exact h
 ·
  rename_i hh;have hn:=Wq (by simpa[aix] using hh);refine List.nodup_append.2 ⟨h,by simp,λ a ha b hb e=>?_⟩;simp only[List.mem_singleton] at hb;subst hb;subst e;obtain⟨x,hx,hxa⟩:=List.mem_map.1 ha;have:=hn x hx;simp[hxa] at this
theorem put_parts{l:List GAttr}{s:Str}{v:GVal}(hs:zy s=true)(h:∀ a∈l,zy a.name=true):∀ a∈jy l s v,zy a.name=true:=by
 intro a ha;have:a.name∈(jy l s v).map (·.name):=List.mem_map_of_mem ha;rw[zan] at this;split at this
 ·
  obtain⟨x,hx,e⟩:=List.mem_map.1 this;rw[← e];exact h x hx
 ·
  rcases List.mem_append.1 this with h1 | h1
  ·
   obtain⟨x,hx,e⟩:=List.mem_map.1 h1;rw[← e];exact h x hx
  ·
   simp only[List.mem_singleton] at h1;rw[h1];exact hs
variable{st:RSt}
theorem Inv.upd(h:Inv st){k:Nat}{f:GMod->GMod}(h1:∀ m,(f m).name=m.name)(h2:∀ m∈st.mods,(f m).roots.length<=1048576)(h3:∀ m∈st.mods,∀ a∈(f m).attrs,zy a.name=true)(h4:∀ m∈st.mods,((f m).attrs.map (·.name)).Nodup){lg:List GEvent}{o:List Int}:Inv { st with mods:=updA st.mods k f,log:=lg,out:=o } where
 names:=λ m hm=>(QX hm).elim (h.names m) λ⟨y,hy,e⟩=>by rw[e,h1];exact h.names y hy
 roots:=λ m hm=>(QX hm).elim (h.roots m) λ⟨y,hy,e⟩=>by rw[e];exact h2 y hy
 parts:=λ m hm=>(QX hm).elim (h.parts m) λ⟨y,hy,e⟩=>by rw[e];exact h3 y hy
 apart:=λ m hm=>(QX hm).elim (h.apart m) λ⟨y,hy,e⟩=>by rw[e];exact h4 y hy
 left:=h.left
theorem Inv.hit(h:Inv st)(k:Nat)(s:Str):Inv (st.hit k s):=⟨h.names,h.roots,h.parts,h.apart,h.left⟩
theorem size_hit(st:RSt)(k:Nat)(s:Str):(st.hit k s).size<=st.size+2:=by
 unfold RSt.size RSt.hit;simp only[List.length_append,List.length_cons,List.length_nil];split
 ·
  simp only[List.length_append,List.length_cons,List.length_nil];omega
 ·
  omega
theorem Inv.note(h:Inv st)(k:Int)(s:Str):Inv (st.note k s):=⟨h.names,h.roots,h.parts,h.apart,h.left⟩
theorem Inv.give(h:Inv st)(k:Nat){s:Str}(v:GVal)(hs:zy s=true):Inv (st.give k s v):=
 h.upd (f:=λ m=>{ m with attrs:=jy m.attrs s v }) (lg:=st.log) (o:=st.out) (λ _=>rfl) h.roots (λ m hm=>put_parts hs (h.parts m hm)) λ m hm=>put_apart (h.apart m hm)
theorem Inv.fail(h:Inv st)(k:Nat)(s:Str):Inv (st.fail k s):=h.upd (f:=λ m=>{ m with cached:=false }) (λ _=>rfl) h.roots h.parts h.apart
theorem Inv.done(h:Inv st)(k:Nat)(s:Str):Inv (st.done k s):=h.upd (f:=λ m=>{ m with done:=true }) (λ _=>rfl) h.roots h.parts h.apart
theorem Inv.begin(h:Inv st){s:Str}{sp:Spec}(hs:zf s=true)(hr:sp.roots.length<=1048576):Inv (st.begin s sp) where
 names:=λ m hm=>(List.mem_append.1 hm).elim (h.names m) λ e=>by simp only[List.mem_singleton] at e;rw[e];exact hs
 roots:=λ m hm=>(List.mem_append.1 hm).elim (h.roots m) λ e=>by simp only[List.mem_singleton] at e;rw[e];exact hr
 parts:=λ m hm=>(List.mem_append.1 hm).elim (h.parts m) λ e=>by simp only[List.mem_singleton] at e;rw[e];intro a ha;simp at ha
 apart:=λ m hm=>(List.mem_append.1 hm).elim (h.apart m) λ e=>by simp only[List.mem_singleton] at e;rw[e];exact List.Pairwise.nil
 left:=h.left
theorem Grow.upd{k:Nat}{f:GMod->GMod}(h1:∀ m,(f m).name=m.name){lg:List GEvent}{o:List Int}:Grow st { st with mods:=updA st.mods k f,log:=lg,out:=o }:=⟨Int.le_refl _,λ _ _ h=>updA_old h1 h⟩
theorem Grow.give(k:Nat)(s:Str)(v:GVal):Grow st (st.give k s v):=Grow.upd (f:=λ m=>{ m with attrs:=jy m.attrs s v }) (lg:=st.log) (o:=st.out) λ _=>rfl
theorem Grow.begin(s:Str)(sp:Spec):Grow st (st.begin s sp):=⟨Int.le_refl _,λ i m h=>⟨m,by
 show(st.mods++_)[i]?=some m;rw[List.getElem?_append_left (zv h)];exact h,rfl⟩⟩
theorem X2(k:Nat)(s:Str)(v:GVal):(st.give k s v).size=st.size:=by unfold RSt.size RSt.give;simp[qG]
theorem Inv.tell(h:Inv st)(k:Nat){s:Str}(hs:zf s=true):Inv (st.tell k s):=by
 unfold RSt.tell;split
 ·
  exact h.give _ _ (Wp hs)
 ·
  exact h
theorem Grow.tell(k:Nat)(s:Str):Grow st (st.tell k s):=by
 unfold RSt.tell;split
 ·
  exact Grow.give ..
 ·
  exact Grow.refl _
theorem size_tell(k:Nat)(s:Str):(st.tell k s).size=st.size:=by
 unfold RSt.tell;split
 ·
  exact X2 ..
 ·
  rfl
theorem star_ok(at_:Nat):∀ (l:List GAttr) {st:RSt},Inv st->(∀ a∈l,zy a.name=true)->Inv (W3 at_ l st)/\Grow st (W3 at_ l st)/\(W3 at_ l st).size=st.size
 | [],st,h,_=>⟨h,Grow.refl _,rfl⟩
 |
  a::l,st,h,hl=>by
  unfold W3;rw[List.foldl_cons];have hl':=λ b hb=>hl b (List.mem_cons_of_mem _ hb)
  split
  ·
   exact star_ok at_ l h hl'
  ·
   have h1:=star_ok at_ l (h.give at_ a.value (hl a (List.mem_cons_self ..))) hl';exact⟨h1.1,(Grow.give at_ a.name a.value).trans h1.2.1,h1.2.2.trans (X2 ..)⟩
variable{t:Tree}{path:List Int}
structure ImpPost(st:RSt)(s:Str)(r:RSt×Int×Int):Prop where
 inv:Inv r.1
 grow:Grow st r.1
 size:r.1.size<=st.size+4*(zp s dot).length
 good:r.2.2=0->∃ m,r.1.mods[r.2.1.toNat]?=some m/\m.name=s/\0<=r.2.1
 bad:r.2.2≠0->r.2.1=-1
 ends:0<=r.2.2/\r.2.2<=6
def qh(n:Nat)(I:RImp):Prop:=∀ (st:RSt) (s:Str),Inv st->zf s=true->4*st.left.toNat+(zp s dot).length<=n->∃ r,I st s=some r/\ImpPost st s r
structure BodyPost(st:RSt)(c:Nat)(r:RSt×Int):Prop where
 inv:Inv r.1
 grow:Grow st r.1
 size:r.1.size<=st.size+c
 ends:0<=r.2/\r.2<=6
theorem Inv.attrs(h:Inv st)(k:Nat):(∀ a∈st.attrsAt k,zy a.name=true)/\((st.attrsAt k).map (·.name)).Nodup:=by
 unfold RSt.attrsAt;cases hm:st.mods[k]? with
 | none=>exact⟨by simp,by simp⟩
 | some m=>exact⟨h.parts m (List.mem_of_getElem? hm),h.apart m (List.mem_of_getElem? hm)⟩
theorem QY(tf:List File){roots:List Int}{p s:Str}(h:roots.length<=1048576):(jp tf roots p s).roots.length<=1048576:=by
 have:=zaA tf p s roots [];unfold jp;simp at this;omega
theorem Xb(h:Inv st)(hp:path.length<=1048576)(s:Str):(xz t path st s).roots.length<=1048576:=by
 unfold xz;split
 ·
  exact QY _ hp
 ·
  split
  ·
   exact Nat.zero_le _
  ·
   split
   ·
    exact Nat.zero_le _
   ·
    refine QY _ ?_;unfold RSt.rootsAt;cases hm:st.mods[(cix st (zt s)).toNat]? with
    | none=>exact Nat.zero_le _
    | some m=>exact h.roots m (List.mem_of_getElem? hm)
theorem value_ok{n:Nat}{I:RImp}(hI:qh n I)(h:Inv st)(hn:4*st.left.toNat+3<=n)(k:Nat)(s:Str)(_hs:zy s=true):∃ r,Yb t path I st k s=some r/\BodyPost st 12 (r.1,r.2.2):=by
 unfold Yb;have h0:∀ {v:GVal} {e:Int},0<=e->e<=6->∃ r,some (st,v,e)=some r/\BodyPost st 12 (r.1,r.2.2):=λ h1 h2=>⟨_,rfl,h,Grow.refl _,Nat.le_add_right _ _,h1,h2⟩
 split
 ·
  exact h0 (by decide) (by decide)
 ·
  split
  ·
   exact h0 (by decide) (by decide)
  ·
   rename_i hc;split
   ·
    exact h0 (by decide) (by decide)
   ·
    have hv:zf (child (st.nameAt k) s)=true:=by
     cases hv:zf (child (st.nameAt k) s) with
     | true=>rfl
     | false=>exact absurd (.inr hv) hc
    have hp:=wN hv;obtain⟨r,hr,hk⟩:=hI st _ h hv (by omega);rw[hr];have:=hk.size;exact⟨_,rfl,hk.inv,hk.grow,by simp only;omega,hk.ends⟩
theorem stmt_ok{n:Nat}{I:RImp}(hI:qh n I)(h:Inv st)(hn:4*st.left.toNat+3<=n)(at_:Nat){x:Stmt}(hx:zU x=true):∃ r,jB t path I st at_ x=some r/\BodyPost st 30 r:=by
 have h0:∀ {e:Int},0<=e->e<=6->∃ r,some (st,e)=some r/\BodyPost st 30 r:=λ h1 h2=>⟨_,rfl,h,Grow.refl _,Nat.le_add_right _ _,h1,h2⟩
 have key:∀ {s:Str} (hv:zf s=true),∃ r,I st s=some r/\ImpPost st s r/\r.1.size<=st.size+12:=λ hv=>by
  have hp:=wN hv;obtain⟨r,hr,hk⟩:=hI st _ h hv (by omega);have:=hk.size;exact⟨r,hr,hk,by omega⟩
 unfold jB;split
 ·
  rename_i hk;have hv:zf x.module=true:=qg hx (.inl hk);obtain⟨r,hr,hp,hsz⟩:=key hv;rw[hr];simp only[obS];split
  ·
   exact⟨_,rfl,hp.inv,hp.grow,by simp only;omega,hp.ends⟩
  ·
   split
   ·
    exact⟨_,rfl,hp.inv,hp.grow,by simp only;omega,by simp,by simp⟩
   ·
    exact⟨_,rfl,hp.inv.give _ _ (first_valid hv),hp.grow.trans (Grow.give ..),by simp only[X2];omega,by simp,by simp⟩
 ·
  rename_i k0;split
  ·
   rename_i k1;split
   ·
    exact h0 (by decide) (by decide)
   ·
    rename_i hv;have hv':zf (qF (Xt st at_) x.level x.module)=true:=by simpa using hv
    obtain⟨r,hr,hp,hsz⟩:=key hv';rw[hr];simp only[obS];split
    ·
     exact⟨_,rfl,hp.inv,hp.grow,by simp only;omega,hp.ends⟩
    ·
     have hl:=hp.grow.left;obtain⟨q,hq,hb⟩:=value_ok (t:=t) (path:=path) hI hp.inv (by have:=h.left;have:=hp.inv.left;omega) r.2.1.toNat x.name (X1 hx (.inl k1));have hbs:=hb.size;rw[hq];simp only[obS];split
     ·
      exact⟨_,rfl,hb.inv,hp.grow.trans hb.grow,by simp only at hbs ⊢;omega,hb.ends⟩
     ·
      exact⟨_,rfl,hb.inv.give _ _ (X1 hx (.inl k1)),hp.grow.trans (hb.grow.trans (Grow.give ..)),by simp only[X2] at hbs ⊢;omega,by simp,by simp⟩
  ·
   rename_i k1;split
   ·
    rename_i k2;obtain⟨r,hr,hp,hsz⟩:=key (qg hx (.inr k2));rw[hr];simp only[obS];split
    ·
     exact⟨_,rfl,hp.inv,hp.grow,by simp only;omega,hp.ends⟩
    ·
     have h1:=star_ok at_ _ hp.inv (hp.inv.attrs r.2.1.toNat).1;exact⟨_,rfl,h1.1,hp.grow.trans h1.2.1,by simp only[h1.2.2];omega,by simp,by simp⟩
   ·
    split
    ·
     rename_i k3;exact⟨_,rfl,h.give _ _ (X1 hx (.inr (.inl k3))),Grow.give ..,by simp only[X2];omega,by simp,by simp⟩
    ·
     split
     ·
      split
      ·
       exact h0 (by decide) (by decide)
      ·
       refine⟨_,rfl,⟨h.names,h.roots,h.parts,h.apart,h.left⟩,⟨Int.le_refl _,λ _ m h=>⟨m,h,rfl⟩⟩,?_,by simp,by simp⟩;unfold RSt.size;simp only[List.length_append,List.length_cons,List.length_nil];omega
     ·
      split
      ·
       exact h0 (by decide) (by decide)
      ·
       exact h0 (by decide) (by decide)
theorem body_ok{n:Nat}{I:RImp}(hI:qh n I)(at_:Nat):∀ (l:List Stmt) (st:RSt),Inv st->4*st.left.toNat<=n+1->(∀ x∈l,zU x=true)->∃ r,Yw t path I at_ l st=some r/\BodyPost st 0 r
 | [],st,h,_,_=>⟨_,rfl,h,Grow.refl _,Nat.le_refl _,by simp,by simp⟩
 |
  x::l,st,h,hn,hl=>by
  unfold Yw;split
  ·
   exact⟨_,rfl,h,Grow.refl _,Nat.le_refl _,by simp,by simp⟩
  ·
   rename_i hz;have h1:Inv { st with left:=st.left - 1 }:=⟨h.names,h.roots,h.parts,h.apart,by have:=h.left;show(0:Int)<=st.left - 1;omega⟩;have hgr:Grow st { st with left:=st.left - 1 }:=⟨by show st.left - 1<=st.left;omega,λ _ m h=>⟨m,h,rfl⟩⟩;have hsz:RSt.size { st with left:=st.left - 1 }+100=st.size:=by
    unfold RSt.size;have:=h.left;simp only;omega
   obtain⟨r,hr,hb⟩:=stmt_ok (t:=t) (path:=path) hI h1 (by have:=h.left;show 4*(st.left - 1).toNat+3<=n;omega) at_ (hl x (List.mem_cons_self ..));have hbs:=hb.size;rw[hr];simp only[obS];split
   ·
    exact⟨_,rfl,hb.inv,hgr.trans hb.grow,by omega,hb.ends⟩
   ·
    have hle:=hb.grow.left;obtain⟨q,hq,hk⟩:=body_ok hI at_ l r.1 hb.inv (by have:=h.left;have:=hb.inv.left;simp only at hle;omega) λ y hy=>hl y (List.mem_cons_of_mem _ hy)
    have hks:=hk.size;exact⟨q,hq,hk.inv,hgr.trans (hb.grow.trans hk.grow),by omega,hk.ends⟩
theorem YJ(hv:zH t=true)(k:Int):∀ x∈(XF t.files k).body,zU x=true:=by
 unfold XF;cases hf:t.files[k.toNat]? with
 | none=>intro x hx;simp at hx;cases hx
 |
  some f=>
  have:=Y8 hv (List.mem_of_getElem? hf);unfold jF at this;simp only[Bool.and_eq_true] at this;exact List.all_eq_true.1 this.1
theorem run_ok{n:Nat}{I:RImp}(hv:zH t=true)(hI:qh n I)(h:Inv st)(hn:4*st.left.toNat<=n+1)(at_:Nat)(sp:Spec):∃ r,runF t path I st at_ sp=some r/\BodyPost st 0 r:=by
 unfold runF;split
 ·
  exact body_ok hI at_ _ st h hn (YJ hv _)
 ·
  exact⟨_,rfl,h,Grow.refl _,Nat.le_refl _,by simp,by simp⟩
theorem new_ok{n:Nat}{I:RImp}(hv:zH t=true)(hI:qh n I)(h:Inv st)(hn:4*st.left.toNat<=n+1){s:Str}(hs:zf s=true){sp:Spec}(hr:sp.roots.length<=1048576):∃ r,newF t path I st s sp=some r/\ImpPost st s r/\r.1.size<=st.size+3:=by
 unfold newF;have hpp:=qK s;split
 ·
  exact⟨_,rfl,⟨h,Grow.refl _,Nat.le_add_right _ _,λ e=>absurd e (by simp),λ _=>rfl,by simp,by simp⟩,Nat.le_add_right _ _⟩
 ·
  have h1:=h.begin (sp:=sp) hs hr;have hbz:(st.begin s sp).size=st.size+2:=by unfold RSt.size RSt.begin;simp only[List.length_append,List.length_cons,List.length_nil];omega
  obtain⟨r,hr,hb⟩:=run_ok (path:=path) hv hI h1 (by show 4*st.left.toNat<=n+1;exact hn) st.mods.length sp;have hbs:=hb.size;have hg:Grow st r.1:=(Grow.begin s sp).trans hb.grow;obtain⟨m,hm,hmn⟩:=hb.grow.old st.mods.length ⟨s,sp.kind,sp.roots,true,false,[]⟩ (by unfold RSt.begin;simp);rw[hr];simp only[obS];split
  ·
   rename_i he;have hsz:(r.1.fail st.mods.length s).size=r.1.size+1:=by unfold RSt.size RSt.fail;simp only[qG,List.length_append,List.length_cons,List.length_nil];omega
   exact⟨_,rfl,⟨hb.inv.fail _ _,hg.trans (Grow.upd (f:=λ m=>{ m with cached:=false }) λ _=>rfl),by simp only;omega,λ e=>absurd e he,λ _=>rfl,hb.ends⟩,by simp only;omega⟩
  ·
   have hsz:(r.1.done st.mods.length s).size=r.1.size+1:=by unfold RSt.size RSt.done;simp only[qG,List.length_append,List.length_cons,List.length_nil];omega
   have hgd:Grow r.1 (r.1.done st.mods.length s):=Grow.upd (f:=λ m=>{ m with done:=true }) λ _=>rfl
   have hgt:=Grow.tell (st:=r.1.done st.mods.length s) st.mods.length s;refine⟨_,rfl,⟨(hb.inv.done _ _).tell _ hs,hg.trans (hgd.trans hgt),by simp only[size_tell];omega,λ _=>?_,λ e=>absurd rfl e,by simp,by simp⟩,by simp only[size_tell];omega⟩;obtain⟨m2,hm2,hn2⟩:=(hgd.trans hgt).old _ m hm;exact⟨m2,by simpa using hm2,hn2.trans hmn,by simp only;omega⟩
theorem Wr(hv:zH t=true)(hp:path.length<=1048576):∀ n,qh n (imp t path n)
 | 0=>λ st s _ _ hn=>absurd (qK s) (by omega)
 |
  n+1=>by
  intro st s h hs hn;have hpp:=qK s;unfold imp impF;have hhit:∀ {st':RSt},Inv st'->Grow st st'->st'.size+2<=st.size+4*(zp s dot).length->cmpI .geq (cix st' s) 0=true->∃ r,some (st'.hit (cix st' s).toNat s,cix st' s,(0:Int))=some r/\ImpPost st s r:=λ h' hg hsz hc=>by
   obtain⟨m,h1,h2,h3⟩:=Jm hc;refine⟨_,rfl,h'.hit _ _,hg.trans ⟨Int.le_refl _,λ _ m h=>⟨m,h,rfl⟩⟩,?_,λ _=>⟨m,h1,?_,h3⟩,λ e=>absurd rfl e,by simp,by simp⟩
   ·
    exact Nat.le_trans (size_hit _ _ s) hsz
   ·
    unfold hits at h2;simp only[Bool.and_eq_true,decide_eq_true_eq] at h2;exact h2.1
  split
  ·
   rename_i hc;exact hhit h (Grow.refl _) (by omega) hc
  ·
   have hpar:∃ r,(if zt s=emptyS then some (st,(0:Int),(0:Int)) else imp t path n st (zt s))=some r/\Inv r.1/\Grow st r.1/\r.1.size+4<=st.size+4*(zp s dot).length/\0<=r.2.2/\r.2.2<=6:=by
    split
    ·
     exact⟨_,rfl,h,Grow.refl _,by simp only;omega,by simp,by simp⟩
    ·
     rename_i he;obtain⟨e1,e2⟩:=qt hs he;obtain⟨r,hr,hk⟩:=Wr hv hp n st (zt s) h e2 (by omega);have:=hk.size;exact⟨r,hr,hk.inv,hk.grow,by omega,hk.ends⟩
   obtain⟨r,hr,hi,hg,hsz,he⟩:=hpar;rw[hr];simp only[obS];split
   ·
    rename_i hne;exact⟨_,rfl,hi,hg,by simp only;omega,λ e=>absurd e hne,λ _=>rfl,he⟩
   ·
    split
    ·
     rename_i hc;exact hhit hi hg (by omega) hc
    ·
     have hl:=hg.left;obtain⟨q,hq,hk,hks⟩:=new_ok (path:=path) hv (Wr hv hp n) hi (by have:=h.left;have:=hi.left;omega) hs (Xb (t:=t) hi hp s);exact⟨q,hq,hk.inv,hg.trans hk.grow,by omega,hk.good,hk.bad,hk.ends⟩
open Go.RowKit
theorem W4{α:Type}(p:α->Bool)(l:List α):(yB p l=-1/\∀ x∈l,p x=false)\/∃ (k:Nat) (x:α),yB p l=(k:Int)/\l[k]?=some x/\p x=true:=by
 cases h:cmpI .geq (yB p l) 0 with
 |
  true=>
  obtain⟨x,h1,h2,h3⟩:=Jm h;exact .inr ⟨(yB p l).toNat,x,(Int.toNat_of_nonneg h3).symm,h1,h2⟩
 |
  false=>
  refine .inl ⟨?_,Wq h⟩;have hn:=Wq h;unfold yB;rw[List.findIdx?_eq_none_iff.2 hn]
theorem wz(st:RSt)(s:Str):(cix st s=-1/\∀ m∈st.mods,hits s m=false)\/∃ (k:Nat) (m:GMod),cix st s=(k:Int)/\st.mods[k]?=some m/\m.name=s/\m.cached=true:=by
 rcases W4 (hits s) st.mods with h | ⟨k,m,h1,h2,h3⟩
 ·
  exact .inl h
 ·
  unfold hits at h3;simp only[Bool.and_eq_true,decide_eq_true_eq] at h3;exact .inr ⟨k,m,h1,h2,h3.1,h3.2⟩
theorem j7(k:Nat):cmpI .geq (k:Int) 0=true:=by simp[cmpI]
theorem Z1(k:Nat):cmpI .lss (k:Int) 0=false:=by simp[cmpI]
theorem geq_m1:cmpI .geq (-1:Int) 0=false:=rfl
theorem W5:cmpI .lss (-1:Int) 0=true:=rfl
def enc(s:Str):Nat:=match s.l with
 | [a]=>a.toNat
 | [a,b]=>a.toNat+256*b.toNat
 | [a,b,c]=>a.toNat+256*b.toNat+65536*c.toNat
 | _=>0
theorem Ws{s:Str}(h:zy s=true):(∃ a,s=⟨[a]⟩/\1<=a.toNat)\/(∃ a b,s=⟨[a,b]⟩/\1<=a.toNat/\1<=b.toNat)\/∃ a b c,s=⟨[a,b,c]⟩/\1<=a.toNat/\1<=b.toNat/\1<=c.toNat:=by
 have hl:∀ {b:UInt8},low b=true->1<=b.toNat:=λ{b} hb=>by
  unfold low at hb;simp[cmpB] at hb;have h1:=hb.1;rw[UInt8.le_iff_toNat_le] at h1;simp at h1;omega
 unfold zy inR at h;simp only[Bool.and_eq_true,List.all_eq_true] at h;obtain⟨h1,h2⟩:=h;cases s with
 | mk l=>
 match l,h1,h2 with
 | [],h1,_=>simp[cmpI] at h1
 | [a],_,h2=>exact .inl ⟨a,rfl,hl (h2 a (by simp))⟩
 | [a,b],_,h2=>exact .inr (.inl ⟨a,b,rfl,hl (h2 a (by simp)),hl (h2 b (by simp))⟩)
 | [a,b,c],_,h2=>exact .inr (.inr ⟨a,b,c,rfl,hl (h2 a (by simp)),hl (h2 b (by simp)),hl (h2 c (by simp))⟩)
 | a::b::c::d::l,h1,_=>simp[cmpI] at h1;omega
theorem enc_inj{s t:Str}(hs:zy s=true)(ht:zy t=true)(h:enc s=enc t):s=t:=by
 have lt:∀ a:UInt8,a.toNat<256:=λ a=>a.toNat_lt
 have inj:∀ {a b:UInt8},a.toNat=b.toNat->a=b:=λ h=>UInt8.toNat_inj.1 h
 rcases Ws hs with⟨a,rfl,h1⟩ | ⟨a,b,rfl,h1,h2⟩ | ⟨a,b,c,rfl,h1,h2,h3⟩ <;> rcases Ws ht with⟨x,rfl,k1⟩ | ⟨x,y,rfl,k1,k2⟩ | ⟨x,y,z,rfl,k1,k2,k3⟩ <;> simp only[enc] at h
 ·
  rw[inj (a:=a) (b:=x) (by omega)]
 ·
  have:=lt a;have:=lt x;omega
 ·
  have:=lt a;have:=lt x;have:=lt y;omega
 ·
  have:=lt a;have:=lt x;omega
 ·
  have:=lt a;have:=lt x;rw[inj (a:=a) (b:=x) (by omega),inj (a:=b) (b:=y) (by omega)]
 ·
  have:=lt a;have:=lt x;have:=lt b;have:=lt y;omega
 ·
  have:=lt a;have:=lt x;have:=lt b;omega
 ·
  have:=lt a;have:=lt x;have:=lt b;have:=lt y;omega
 ·
  have:=lt a;have:=lt x;have:=lt b;have:=lt y;rw[inj (a:=a) (b:=x) (by omega),inj (a:=b) (b:=y) (by omega),inj (a:=c) (b:=z) (by omega)]
theorem enc_lt(s:Str):enc s<16777216:=by
 unfold enc;have lt:∀ a:UInt8,a.toNat<256:=λ a=>a.toNat_lt
 split
 ·
  rename_i a _;have:=lt a;omega
 ·
  rename_i a b _;have:=lt a;have:=lt b;omega
 ·
  rename_i a b c _;have:=lt a;have:=lt b;have:=lt c;omega
 ·
  omega
theorem attrs_few{l:List GAttr}(h1:∀ a∈l,zy a.name=true)(h2:(l.map (·.name)).Nodup):l.length<=16777216:=by
 have h3:((l.map (·.name)).map enc).Nodup:=by
  unfold List.Nodup;rw[List.pairwise_map];refine List.Pairwise.imp_of_mem (λ{a b} ha hb hne e=>hne (enc_inj ?_ ?_ e)) h2
  ·
   obtain⟨x,hx,rfl⟩:=List.mem_map.1 ha;exact h1 x hx
  ·
   obtain⟨x,hx,rfl⟩:=List.mem_map.1 hb;exact h1 x hx
 have h4:=nodupLen (m:=List.range 16777216) h3 (λ x hx=>by
  obtain⟨y,_,rfl⟩:=List.mem_map.1 hx;exact List.mem_range.2 (enc_lt y))
 simpa using h4
variable(t:Tree)(path:List Int)
def bxs(l:List GMod):List (Bx GMod):=l.map λ m=>⟨m⟩
def mach(st:RSt):Machine:=⟨t,path,⟨⟩,⟨yE⟩,bxs st.mods,st.out,st.log,st.part,st.left⟩
variable{t path}
theorem bxs_get(l:List GMod)(k:Nat):(bxs l)[k]?=(l[k]?).map λ m=>⟨m⟩:=List.getElem?_map ..
theorem bxs_len(l:List GMod):(bxs l).length=l.length:=List.length_map ..
theorem Xu(l:List GMod)(k:Nat)(m:GMod):(bxs l).set k ⟨m⟩=bxs (l.set k m):=(List.map_set).symm
theorem bxs_app(l:List GMod)(m:GMod):bxs l++[⟨m⟩]=bxs (l++[m]):=by unfold bxs;rw[List.map_append];rfl
theorem bxs_idx(l:List GMod)(s:Str):yB (λ x:Bx GMod=>hits s x.x) (bxs l)=yB (hits s) l:=by
 unfold yB bxs;rw[List.findIdx?_map];rfl
theorem ZM{st:RSt}(h:st.mods.length<=1048576)(s:Str):zT (mach t path st) s=some (cix st s):=by
 unfold zT yh;have hl:zS (λ s4=>zN (bxs st.mods) (λ a0=>yF a0 s) s4) 0=some (match (bxs st.mods).findIdx? (λ x=>hits s x.x) with | some i=>(Sum.inr (i:Int):Unit⊕Int) | none=>Sum.inl ()):=by
  refine Zv (bxs st.mods) (λ x=>hits s x.x) (λ i=>Sum.inr i) _ (λ k x hx hlt=>?_) ?_ (by rw[bxs_len];omega) rfl
  ·
   unfold zN;have hb:=bxs_len st.mods;rw[zE,if_pos (decide_eq_true hlt),zJ,hx,obS];show Option.bind (yF x.x s) _=_;rw[show yF x.x s=some (hits s x.x) from congrArg some (Bool.and_comm ..),obS,zR (by omega)];cases hits s x.x <;> rfl
  ·
   unfold zN;rw[zE,if_neg (by simp)]
 rw[show(mach t path st).modules=bxs st.mods from rfl,hl,show cix st s=yB (λ x:Bx GMod=>hits s x.x) (bxs st.mods) from(bxs_idx ..).symm];unfold yB;cases List.findIdx? (λ x:Bx GMod=>hits s x.x) (bxs st.mods) <;> rfl
theorem QZ{st:RSt}(h:st.log.length<=1048576)(k:Int)(s:Str):yH (mach t path st) k s=some (mach t path (st.note k s)):=by
 unfold yH;rw[yQ (by show(st.log.length+1)*24<=_;omega) (by show st.log.length+1<=_;omega),obS];rfl
theorem hit_eq{st:RSt}(h:st.log.length<=1048576)(hp:st.part.length<=1048576){k:Nat}{m:GMod}(hm:st.mods[k]?=some m):wt (mach t path st) (k:Int)=some (mach t path (st.hit k m.name),(k:Int)):=by
 have hb:(bxs st.mods)[k]?=some ⟨m⟩:=by rw[bxs_get,hm];rfl
 have hd:st.doneAt k=m.done:=by unfold RSt.doneAt;rw[hm];rfl
 unfold wt;rw[show(mach t path st).modules=bxs st.mods from rfl,zJ,hb,obS,Int.toNat_natCast,hb,obS,QZ h,obS,
  show(mach t path (st.note 3 m.name)).modules=bxs st.mods from rfl,hb,obS,xy,obS,show(mach t path (st.note 3 m.name)).part=st.part from rfl]
 have hc:∀ x,yf st.part x=some (decide (x∈st.part)):=λ x=>ContainsS_eq hp
 rw[hc,xy,obS];cases hdn:m.done with
 |
  true=>
  rw[hdn] at hd;rw[if_neg (by simp),obS];unfold RSt.hit;rw[if_neg (by rw[hd];simp)];rfl
 |
  false=>
  rw[hdn] at hd;by_cases hi:m.name∈st.part
  ·
   rw[if_neg (by simp[hi]),obS];unfold RSt.hit;rw[if_neg (by simp[hi])];rfl
  ·
   rw[if_pos (by simp[hi]),obS,yQ (by show(st.part.length+1)*16<=_;omega) (by show st.part.length+1<=_;omega),obS,obS];unfold RSt.hit;rw[if_pos ⟨hd,hi⟩];rfl
def val0(l:List GAttr)(j:Int):GVal:=((l[j.toNat]?).map (·.value)).getD ⟨0,0⟩
theorem loop_idxc{α β γ:Type}{c:γ}{step:γ×Int->Option ((γ×Int)⊕β)}(xs:List α)(p:α->Bool)(f:Int->β)(e:β)
  (h:∀ k x,xs[k]?=some x->k<xs.length->step (c,(k:Int))=some (if p x=true then .inr (f k) else .inl (c,((k+1:Nat):Int))))
  (hend:step (c,(xs.length:Int))=some (.inr e)) (hlen:xs.length<576460752303423488):zS step (c,(0:Int))=some (match xs.findIdx? p with | some i=>f (i:Int) | none=>e):=by
 have key:=QO (σ:=Unit) (step:=step) xs (λ _ k=>(c,(k:Int))) (λ k _ x=>match (if p x=true then some (f k) else none) with | none=>.inl () | some b=>.inr b) (λ _=>e) (λ _ _=>True) (λ k _ x hx hlt _=>by
  have:=h k x hx hlt;cases hp:p x with
  | true=>rw[hp] at this;exact this
  | false=>rw[hp] at this;exact⟨this,trivial⟩) (λ _ _=>hend) (s0:=()) trivial hlen
 refine key.trans ((congrArg some (runL_idx p f e 0 xs)).trans ?_);cases xs.findIdx? p <;> simp
theorem attr_eq{m:GMod}(h:m.attrs.length<=16777216)(s:Str):xJ m s=some (match (m.attrs.findIdx? (λ a=>decide (a.name=s))) with | some i=>(val0 m.attrs (i:Int),true) | none=>(⟨0,0⟩,false)):=by
 unfold xJ;have hl:zS (λ s6=>xA m s s6) (zGVal,(0:Int))=some (match m.attrs.findIdx? (λ a=>decide (a.name=s)) with | some i=>(Sum.inr (val0 m.attrs (i:Int),true):GVal⊕(GVal×Bool)) | none=>Sum.inl zGVal):=by
  refine loop_idxc m.attrs (λ a=>decide (a.name=s)) (λ j=>Sum.inr (val0 m.attrs j,true)) (Sum.inl zGVal) (λ k x hx hlt=>?_) ?_ (by omega)
  ·
   unfold xA;rw[show((zGVal,(k:Int)):GVal×Int).2=(k:Int) from rfl,zE,if_pos (decide_eq_true hlt),zJ,hx,obS,zR (by omega),obS,show val0 m.attrs (k:Int)=x.value by unfold val0;rw[Int.toNat_natCast,hx];rfl];cases decide (x.name=s) <;> rfl
  ·
   unfold xA;rw[show((zGVal,(m.attrs.length:Int)):GVal×Int).2=(m.attrs.length:Int) from rfl,zE,if_neg (by simp)]
 rw[hl];cases m.attrs.findIdx? (λ a=>decide (a.name=s)) <;> rfl
open Go.RowKit
theorem X3(l:List GAttr)(s:Str):(aix l s=-1/\l.findIdx? (λ a=>decide (a.name=s))=none)\/∃ (k:Nat) (a:GAttr),aix l s=(k:Int)/\l.findIdx? (λ a=>decide (a.name=s))=some k/\l[k]?=some a/\a.name=s:=by
 unfold aix yB;cases h:l.findIdx? (λ a=>decide (a.name=s)) with
 | none=>exact .inl ⟨rfl,rfl⟩
 |
  some k=>
  obtain⟨h1,h2,_⟩:=List.findIdx?_eq_some_iff_getElem.1 h;exact .inr ⟨k,l[k],rfl,rfl,List.getElem?_eq_getElem h1,by simpa using h2⟩
theorem attr_eq'{m:GMod}(h:m.attrs.length<=16777216)(s:Str):xJ m s=some (if cmpI .geq (aix m.attrs s) 0=true then(val0 m.attrs (aix m.attrs s),true) else(⟨0,0⟩,false)):=by
 rw[attr_eq h];rcases X3 m.attrs s with⟨h1,h2⟩ | ⟨k,a,h1,h2,_⟩
 ·
  rw[h1,h2];rfl
 ·
  rw[h1,h2,if_pos (j7 k)]
theorem give_eq{m:GMod}(h:m.attrs.length<=16777216)(s:Str)(v:GVal):ye m s v=some { m with attrs:=jy m.attrs s v }:=by
 unfold ye;have hl:zS (λ s6=>xB m s v s6) (m,(0:Int))=some (match m.attrs.findIdx? (λ a=>decide (a.name=s)) with | some i=>(Sum.inr { m with attrs:=updA m.attrs (i:Int).toNat (λ a=>{ a with value:=v }) }:GMod⊕GMod) | none=>Sum.inl m):=by
  refine loop_idxc m.attrs (λ a=>decide (a.name=s)) (λ j=>Sum.inr { m with attrs:=updA m.attrs j.toNat (λ a=>{ a with value:=v }) }) (Sum.inl m) (λ k x hx hlt=>?_) ?_ (by omega)
  ·
   unfold xB;rw[show((m,(k:Int)):GMod×Int).2=(k:Int) from rfl,show((m,(k:Int)):GMod×Int).1=m from rfl,zE,if_pos (decide_eq_true hlt),zJ,hx,obS,obS,zR (by omega),obS,Int.toNat_natCast,Zj _ hx];cases decide (x.name=s) <;> rfl
  ·
   unfold xB;rw[show((m,(m.attrs.length:Int)):GMod×Int).2=(m.attrs.length:Int) from rfl,zE,if_neg (by simp)]
 rw[hl];unfold jy;rcases X3 m.attrs s with⟨h1,h2⟩ | ⟨k,a,h1,h2,_⟩
 ·
  rw[h2,h1,if_neg (by decide)];show Option.bind (appO 32 m.attrs [⟨s,v⟩]) _=_;rw[yQ (by show(m.attrs.length+1)*32<=_;omega) (by show m.attrs.length+1<=_;omega),obS]
 ·
  rw[h2,h1,if_pos (j7 k),Int.toNat_natCast];rfl
theorem packOf_eq{m:GMod}(h:zf m.name=true):xO m=some (if m.kind=1 then zt m.name else m.name):=by
 unfold xO;by_cases hk:m.kind=1
 ·
  rw[if_pos (by simp[cmpI,hk]),if_pos hk,Yv h];rfl
 ·
  rw[if_neg (by simp[cmpI,hk]),if_neg hk]
theorem CutF_eq{s:Str}(hs:s.l.length<=4611686018427387904):∃ a b,Zt s ⟨[46]⟩=some (qQ s,a,b):=by
 have hge:=Lib.indexByte_ge s.l 46;have hf:qQ s=((zp s dot)[0]?).getD emptyS:=by unfold qQ;cases zp s dot <;> rfl
 rw[hf];unfold Zt x8;rw[show xF s ⟨[46]⟩=some (Lib.indexByte s.l 46) from rfl,obS,ja];cases hc:cmpI .geq (Lib.indexByte s.l 46) 0 with
 |
  false=>
  rw[if_neg (by decide),obS];have h0:Lib.indexByte s.l 46<0:=by have:=of_decide_eq_false hc;omega
  have h1:cutF dot s.l=[s.l]:=Yj 46 s.l h0;rw[h1];exact⟨_,_,rfl⟩
 |
  true=>
  have h0:0<=Lib.indexByte s.l 46:=oD hc;obtain⟨h1,h2⟩:=Yk 46 s.l h0;obtain⟨n,hn⟩:∃ n:Nat,Lib.indexByte s.l 46=n:=⟨_,(Int.toNat_of_nonneg h0).symm⟩;rw[hn] at h1 h2 ⊢;have h3:cutF dot s.l=s.l.take n::cutF 46 (s.l.drop (n+1)):=h2;have hl:n+1<=s.l.length:=by omega
  rw[if_pos rfl,Jh (by omega),obS,show((n:Int)+((⟨[46]⟩:Str).l.length:Int))=((n:Int)+1) from rfl,wM (by omega) (by omega),obS,show((n:Int)+1)=((n+1:Nat):Int) from rfl,Ji hl,obS,obS,h3];exact⟨_,_,rfl⟩
variable{t:Tree}{path:List Int}{st:RSt}
structure Small(st:RSt):Prop where
 mods:st.mods.length<=1048576
 log:st.log.length<=1048576
 out:st.out.length<=1048576
 part:st.part.length<=1048576
theorem RSt.small{n:Nat}(h:st.size<=n)(hn:n<=1048576):Small st:=by
 unfold RSt.size at h;exact⟨by omega,by omega,by omega,by omega⟩
theorem Inv.few(h:Inv st){m:GMod}(hm:m∈st.mods):m.attrs.length<=16777216:=attrs_few (h.parts m hm) (h.apart m hm)
theorem Inv.at_(h:Inv st){k:Nat}{m:GMod}(hm:st.mods[k]?=some m):m∈st.mods/\zf m.name=true/\m.attrs.length<=16777216/\m.roots.length<=1048576:=
 have hi:=List.mem_of_getElem? hm
 ⟨hi,h.names m hi,h.few hi,h.roots m hi⟩
theorem qL{s:Str}(h:zf s=true):zr s=true:=by unfold zr;rw[h,Bool.or_true]
theorem YL{k:Nat}{m:GMod}(hm:st.mods[k]?=some m):st.kindAt k=m.kind:=by unfold RSt.kindAt;rw[hm];rfl
theorem zbn{k:Nat}{m:GMod}(hm:st.mods[k]?=some m):st.rootsAt k=m.roots:=by unfold RSt.rootsAt;rw[hm];rfl
theorem Yc{k:Nat}{m:GMod}(hm:st.mods[k]?=some m):st.attrsAt k=m.attrs:=by unfold RSt.attrsAt;rw[hm];rfl
theorem Jn{k:Nat}{m:GMod}(hm:st.mods[k]?=some m):st.nameAt k=m.name:=by unfold RSt.nameAt;rw[hm];rfl
theorem set_give{k:Nat}{m:GMod}(hm:st.mods[k]?=some m)(s:Str)(v:GVal):st.mods.set k { m with attrs:=jy m.attrs s v }=(st.give k s v).mods:=(Zj (λ m:GMod=>{ m with attrs:=jy m.attrs s v }) hm).symm
theorem mach_give{k:Nat}{m:GMod}(hm:st.mods[k]?=some m)(s:Str)(v:GVal):({ mach t path st with modules:=(bxs st.mods).set k ⟨{ m with attrs:=jy m.attrs s v }⟩ }:Machine)=mach t path (st.give k s v):=by
 rw[Xu,set_give hm];rfl
theorem look_eq(ht:Good t)(hp:path.length<=1048576)(h:Inv st)(hs:Small st){s:Str}(hv:zf s=true):yp (mach t path st) s=some (mach t path st,xz t path st s):=by
 have hn:=name_of hv;unfold yp xz;rw[Yv hv,obS];by_cases he:zt s=emptyS
 ·
  have hl:xL s=s:=by
   rw[he] at hn;unfold child at hn;rw[if_pos rfl] at hn;exact hn.symm
  rw[if_pos (decide_eq_true (show zt s=(⟨[]⟩:Str) from he)),if_pos he,show(mach t path st).t=t from rfl,show(mach t path st).path=path from rfl,
   find_eq ht hp (p:=(⟨[]⟩:Str)) (by rfl) (by rw[← hl];exact Wp hv) (show zf (child emptyS s)=true by unfold child;rw[if_pos rfl];exact hv),obS]
  rfl
 ·
  have he':¬ zt s=(⟨[]⟩:Str):=he;rw[if_neg (by simp[he']),if_neg he,ZM hs.mods,obS];rcases wz st (zt s) with⟨h1,_⟩ | ⟨k,m,h1,h2,h3,_⟩
  ·
   rw[h1,W5];rw[show((true == false):Bool)=false from rfl,Za,obS,Za,obS,if_pos (by simp),if_pos rfl];rfl
  ·
   have hb:(bxs st.mods)[k]?=some ⟨m⟩:=by rw[bxs_get,h2];rfl
   rw[h1,Z1,show((false == false):Bool)=true from rfl,qr,qr,show(mach t path st).modules=bxs st.mods from rfl,zJ,hb,obS,Int.toNat_natCast,hb,obS,Bool.false_or,if_neg (by decide:¬ (false=true)),YL h2,zbn h2];by_cases hk:m.kind=1
   ·
    rw[if_pos (by simp[cmpI,hk]),if_pos hk];rfl
   ·
    rw[if_neg (by simp[cmpI,hk]),if_neg hk,obS,obS,LastOf_eq hv,obS];have hpp:=(qt hv he).2;rw[show(mach t path st).t=t from rfl,find_eq ht (h.at_ h2).2.2.2 (qL hpp) (Wp hv) (by rw[← hn];exact hv),obS]
open Go.RowKit
variable{t:Tree}{path:List Int}{st:RSt}{n:Nat}{R:Rec}{I:RImp}
def XG(t:Tree)(path:List Int)(n:Nat)(R:Rec)(I:RImp):Prop:=
 ∀ (st:RSt) (s:Str) (r:RSt×Int×Int),Inv st->zf s=true->4*st.left.toNat+(zp s dot).length<=n->st.size<=20000->I st s=some r->R.impl_machine_load1 (mach t path st) s=some (mach t path r.1,r.2.1,r.2.2)
theorem Wy{e:Int}(h:¬ e=0):cmpI .neq e 0=true:=by simp[cmpI,h]
theorem xK{a b:Int}(h:a=b):cmpI .eql a b=true:=by simp[cmpI,h]
theorem xo{a b:Int}(h:¬ a=b):cmpI .eql a b=false:=by simp[cmpI,h]
theorem wO{l:List GMod}{k:Nat}{m:GMod}(h:l[k]?=some m):(bxs l)[k]?=some ⟨m⟩:=by rw[bxs_get,h];rfl
theorem Grow.at_{a b:RSt}(h:Grow a b){k:Nat}{m:GMod}(hm:a.mods[k]?=some m):∃ m',b.mods[k]?=some m':=let⟨m',h1,_⟩:=h.old k m hm;⟨m',h1⟩
theorem give_at(h:Inv st){k:Nat}{m:GMod}(hm:st.mods[k]?=some m)(s:Str)(v:GVal){β:Type}(f:Machine->β):
  (((mach t path st).modules[k]?).bind λ v39=>(ye v39.x s v).bind λ v41=>some (f { mach t path st with modules:=(mach t path st).modules.set k ⟨v41⟩ }))=some (f (mach t path (st.give k s v))):=by
 rw[show(mach t path st).modules=bxs st.mods from rfl,wO hm,obS,give_eq (h.at_ hm).2.2.1,obS,mach_give hm]
theorem do_0(hI:qh n I)(hL:XG t path n R I)(h:Inv st)(hn:4*st.left.toNat+3<=n)(hsz:st.size<=19950){k:Nat}{m:GMod}(hk:st.mods[k]?=some m){x:Stmt}(hx:zU x=true)(hkd:x.kind=0){r:RSt×Int}(hr:jB t path I st k x=some r):
  yl R (mach t path st) (k:Int) x=some (mach t path r.1,r.2):=by
 have hv:=qg hx (.inl hkd);have hpl:=wN hv;obtain⟨q,hq,hp⟩:=hI st x.module h hv (by omega);have hqs:=hp.size;unfold jB at hr;rw[if_pos hkd,hq,obS] at hr;have hld:=hL st x.module q h hv (by omega) (by omega) hq;unfold yl;rw[show(mach t path st).modules=bxs st.mods from rfl,zJ,wO hk,obS,if_pos (xK hkd),hld,obS];by_cases he:q.2.2=0
 ·
  rw[if_neg (by simp[he])] at hr;have hc:=CutF_eq (s:=x.module) (by have:=xf hv;omega);obtain⟨a,b,hc⟩:=hc;obtain⟨m',hm'⟩:=hp.grow.at_ hk;simp only;rw[he,if_neg (by decide),hc,obS,ZM (RSt.small (n:=20000) (by omega) (by omega)).mods,obS];cases hcx:cmpI .lss (cix q.1 (qQ x.module)) 0 with
  |
   true=>
   rw[if_pos hcx] at hr;rw[if_pos rfl];injection hr with hr;subst hr;rfl
  |
   false=>
   rw[if_neg (by simp[hcx])] at hr;injection hr with hr;subst hr;rw[if_neg (by decide),Int.toNat_natCast];have:=give_at (t:=t) (path:=path) hp.inv hm' (qQ x.module) ⟨1,cix q.1 (qQ x.module)⟩ (λ mm=>(Sum.inl mm:Machine⊕(Machine×Int)));rw[this];rfl
 ·
  rw[if_pos he] at hr;injection hr with hr;subst hr;simp only;rw[if_pos (Wy he)];rfl
theorem do_2loop{k:Nat}(hk':∃ m,st.mods[k]?=some m)(l:List GAttr)(h:Inv st)(hl:∀ a∈l,zy a.name=true)(hb:l.length<=16777216):
  zS (λ s248=>yI R (k:Int) l s248) (mach t path st,(0:Int))=some (Sum.inl (mach t path (W3 k l st))):=by
 obtain⟨m0,hm0⟩:=hk';have key:=Jk (step:=λ s248=>yI R (k:Int) l s248) l (λ(s:RSt) j=>(mach t path s,(j:Int))) (λ s a=>if(a.name.l.headD 0 == 122)=true then s else s.give k a.name a.value) (λ s=>(Sum.inl (mach t path s):Machine⊕(Machine×Int))) (λ _ s=>Inv s/\∃ m,s.mods[k]?=some m)
  (λ j s a ha hlt ⟨hi,m1,hm1⟩=>by
   have hva:=hl a (List.mem_of_getElem? ha);have hne:a.name.l[0]?=some (a.name.l.headD 0):=by
    rcases Ws hva with⟨c,e,_⟩ | ⟨c,d,e,_⟩ | ⟨c,d,e',e,_⟩ <;> rw[e] <;> rfl
   have hat:atI a.name.l (0:Int)=some (a.name.l.headD 0):=hne;have hgr:=Grow.give (st:=s) k a.name a.value;obtain⟨m2,hm2⟩:=hgr.at_ hm1;have hs:yI R (k:Int) l (mach t path s,(j:Int))=some (.inl (mach t path (if(a.name.l.headD 0 == 122)=true then s else s.give k a.name a.value),((j+1:Nat):Int))):=by
    unfold yI;simp only;rw[zE,if_pos (decide_eq_true hlt),zJ,ha,obS,hat,obS,zR (by omega),Int.toNat_natCast];cases hz:(a.name.l.headD 0 == 122) with
    |
     true=>
     rw[if_neg (by simp[cmpB] at hz ⊢;exact hz),if_pos rfl];rfl
    |
     false=>
     have hg:=give_at (t:=t) (path:=path) hi hm1 a.name a.value (λ mm=>mm);rw[if_pos (by simp[cmpB] at hz ⊢;exact hz),hg,if_neg (by decide)];rfl
   refine⟨hs,?_⟩;split
   ·
    exact⟨hi,m1,hm1⟩
   ·
    exact⟨hi.give k _ hva,m2,hm2⟩)
  (λ s _=>by
   unfold yI;simp only;rw[zE,if_neg (by simp)]) (s0:=st) ⟨h,m0,hm0⟩ (by omega)
 exact key
theorem do_2(hI:qh n I)(hL:XG t path n R I)(h:Inv st)(hn:4*st.left.toNat+3<=n)(hsz:st.size<=19950){k:Nat}{m:GMod}(hk:st.mods[k]?=some m){x:Stmt}(hx:zU x=true)(hkd:x.kind=2){r:RSt×Int}(hr:jB t path I st k x=some r):
  yl R (mach t path st) (k:Int) x=some (mach t path r.1,r.2):=by
 have hv:=qg hx (.inr hkd);have hpl:=wN hv;obtain⟨q,hq,hp⟩:=hI st x.module h hv (by omega);have hqs:=hp.size;unfold jB at hr;rw[if_neg (by omega),if_neg (by omega),if_pos hkd,hq,obS] at hr;have hld:=hL st x.module q h hv (by omega) (by omega) hq;unfold yl;rw[show(mach t path st).modules=bxs st.mods from rfl,zJ,wO hk,obS,if_neg (by rw[xo (by omega)];decide),if_neg (by rw[xo (by omega)];decide),if_pos (xK hkd),hld,obS];by_cases he:q.2.2=0
 ·
  rw[if_neg (by simp[he])] at hr;obtain⟨m',hm'⟩:=hp.grow.at_ hk;obtain⟨m2,hm2,_,h0⟩:=hp.good he;have hi2:=hp.inv.at_ hm2;obtain⟨j,hj⟩:∃ j:Nat,q.2.1=j:=⟨_,(Int.toNat_of_nonneg h0).symm⟩;rw[hj,Int.toNat_natCast] at hm2;rw[hj,Int.toNat_natCast,Yc hm2] at hr;injection hr with hr;subst hr;simp only;rw[he,if_neg (by decide),hj,show(mach t path q.1).modules=bxs q.1.mods from rfl,zJ,wO hm2,obS,Int.toNat_natCast,wO hm2,obS,
   yQ (by simp;omega) (by simp;omega),obS,List.nil_append,do_2loop ⟨m',hm'⟩ m2.attrs hp.inv (hp.inv.parts m2 hi2.1) hi2.2.2.1]
  rfl
 ·
  rw[if_pos he] at hr;injection hr with hr;subst hr;simp only;rw[if_pos (Wy he)];rfl
theorem do_3(h:Inv st)(hsz:st.size<=19950){k:Nat}{m:GMod}(hk:st.mods[k]?=some m){x:Stmt}(hkd:x.kind≠0/\x.kind≠1/\x.kind≠2){r:RSt×Int}(hr:jB t path I st k x=some r):
  yl R (mach t path st) (k:Int) x=some (mach t path r.1,r.2):=by
 have hi:=h.at_ hk;unfold jB at hr;rw[if_neg hkd.1,if_neg hkd.2.1,if_neg hkd.2.2] at hr;unfold yl;rw[show(mach t path st).modules=bxs st.mods from rfl,zJ,wO hk,obS,if_neg (by rw[xo hkd.1];decide),if_neg (by rw[xo hkd.2.1];decide),if_neg (by rw[xo hkd.2.2];decide),Int.toNat_natCast];by_cases h3:x.kind=3
 ·
  rw[if_pos h3] at hr;injection hr with hr;subst hr;have:=give_at (t:=t) (path:=path) h hk x.name ⟨0,x.value⟩ (λ mm=>(Sum.inl mm:Machine⊕(Machine×Int)));rw[if_pos (xK h3)];refine(congrArg (λ o=>Option.bind o _) this).trans ?_;rfl
 ·
  rw[if_neg h3] at hr;rw[if_neg (by rw[xo h3];decide)];by_cases h4:x.kind=4
  ·
   rw[if_pos h4,Yc hk] at hr;rw[if_pos (xK h4),wO hk,obS,attr_eq' hi.2.2.1,obS];cases hg:cmpI .geq (aix m.attrs x.name) 0 with
   |
    false=>
    have hl:cmpI .lss (aix m.attrs x.name) 0=true:=by rw[lss_geq] at hg;simpa using hg
    rw[if_pos hl] at hr;injection hr with hr;subst hr;rw[if_neg (show ¬ (false=true) by decide)];rfl
   |
    true=>
    have hl:cmpI .lss (aix m.attrs x.name) 0=false:=by rw[lss_geq] at hg;simpa using hg
    rw[hl,if_neg (by decide)] at hr;injection hr with hr;subst hr;have ho:st.out.length<=19950:=by unfold RSt.size at hsz;omega
    rw[if_pos (show true=true from rfl)];show Option.bind (if cmpI .eql (val0 m.attrs (aix m.attrs x.name)).kind 1=true then _ else _) _=some (mach t path { st with out:=st.out++[if(val0 m.attrs (aix m.attrs x.name)).kind=1 then -1 else(val0 m.attrs (aix m.attrs x.name)).num] },0);by_cases hz:(val0 m.attrs (aix m.attrs x.name)).kind=1
    ·
     rw[if_pos (xK hz),if_pos hz,yQ (by show(st.out.length+1)*8<=_;omega) (by show st.out.length+1<=_;omega),obS];rfl
    ·
     rw[if_neg (by rw[xo hz];decide),if_neg hz,yQ (by show(st.out.length+1)*8<=_;omega) (by show st.out.length+1<=_;omega),obS];rfl
  ·
   rw[if_neg h4] at hr;rw[if_neg (by rw[xo h4];decide)];by_cases h5:x.kind=5
   ·
    rw[if_pos h5] at hr;injection hr with hr;subst hr;rw[if_pos (xK h5)];rfl
   ·
    rw[if_neg h5] at hr;injection hr with hr;subst hr;rw[if_neg (by rw[xo h5];decide)];rfl
open Go.RowKit
variable{t:Tree}{path:List Int}{st:RSt}{n:Nat}{R:Rec}{I:RImp}
theorem childOk_eq{p s:Str}(hp:zf p=true)(hs:zy s=true):Xr p s=if zf (child p s)=true then child p s else emptyS:=by
 unfold Xr;rw[qL hp,hs];cases zf (child p s) <;> rfl
theorem valid_ne{s:Str}(h:zf s=true):¬ s=(⟨[]⟩:Str):=λ e=>by rw[e,show zf (⟨[]⟩:Str)=false from rfl] at h;cases h
theorem part_len{s:Str}(h:zy s=true):s.l.length<=3:=by
 unfold zy inR at h;simp only[Bool.and_eq_true,cmpI,decide_eq_true_eq] at h;have:=h.1.2;omega
theorem value_eq(ht:Good t)(hp:path.length<=1048576)(hI:qh n I)(hL:XG t path n R I)(h:Inv st)(hn:4*st.left.toNat+3<=n)(hsz:st.size<=20000){j:Nat}{m:GMod}(hj:st.mods[j]?=some m){nm:Str}(hnm:zy nm=true){v:RSt×GVal×Int}(hv:Yb t path I st j nm=some v):
  (if(!(if cmpI .geq (aix m.attrs nm) 0=true then(val0 m.attrs (aix m.attrs nm),true) else((⟨0,0⟩:GVal),false)).2)=true then((wG m.name nm).bind λ v171=>
(atI (mach t path st).modules (j:Int)).bind λ _v175=>
((mach t path st).modules[(j:Int).toNat]?).bind λ v177=>
(gO ((cmpI .eql v177.x.kind (1:Int)||decide (v171=(⟨[]⟩:Str))) == false) (zT (mach t path st) v171)).bind λ v178=>
(gO (((cmpI .eql v177.x.kind (1:Int)||decide (v171=(⟨[]⟩:Str))) == false)&&(cmpI .lss v178 (0:Int) == true)) (yp (mach t path st) v171)).bind λ v184=>
if((cmpI .eql v177.x.kind (1:Int)||decide (v171=(⟨[]⟩:Str)))||(cmpI .lss v178 (0:Int)&&cmpI .eql v184.2.kind (0:Int)))=true then(some (.inr (.inr ((if(((cmpI .eql v177.x.kind (1:Int)||decide (v171=(⟨[]⟩:Str))) == false)&&(cmpI .lss v178 (0:Int) == true))=true then v184.1 else(mach t path st)),(2:Int)))))
else((R.impl_machine_load1 (if(((cmpI .eql v177.x.kind (1:Int)||decide (v171=(⟨[]⟩:Str))) == false)&&(cmpI .lss v178 (0:Int) == true))=true then v184.1 else(mach t path st)) v171).bind λ v196=>
if(cmpI .neq v196.2.2 (0:Int))=true then(some (.inr (.inr (v196.1,v196.2.2))))
else(some (.inl (v196.1,(⟨(1:Int),v196.2.1⟩:GVal))))))
else(some (.inl ((mach t path st),(if cmpI .geq (aix m.attrs nm) 0=true then(val0 m.attrs (aix m.attrs nm),true) else((⟨0,0⟩:GVal),false)).1))):Option ((Machine×GVal)⊕(Machine⊕(Machine×Int))))=some (if v.2.2=0 then .inl (mach t path v.1,v.2.1) else .inr (.inr (mach t path v.1,v.2.2))):=by
 have hi:=h.at_ hj;have hnl:=xf hi.2.1;have hnp:=part_len hnm;unfold Yb at hv;rw[Yc hj,YL hj,Jn hj] at hv;cases hg:cmpI .geq (aix m.attrs nm) 0 with
 |
  true=>
  rw[if_pos hg] at hv;injection hv with hv;subst hv;rfl
 |
  false=>
  rw[hg,if_neg (show ¬ (false=true) by decide)] at hv;rw[if_neg (show ¬ (false=true) by decide),if_pos (show(!false)=true from rfl),Qf (by omega),obS,childOk_eq hi.2.1 hnm,show(mach t path st).modules=bxs st.mods from rfl,zJ,wO hj,obS,Int.toNat_natCast,wO hj,obS];by_cases hc:m.kind=1\/zf (child m.name nm)=false
  ·
   rw[if_pos hc] at hv;injection hv with hv;subst hv;have hd:(cmpI .eql m.kind (1:Int)||decide ((if zf (child m.name nm)=true then child m.name nm else emptyS)=(⟨[]⟩:Str)))=true:=by
    rcases hc with hc | hc
    ·
     rw[xK hc];rfl
    ·
     rw[hc,Bool.or_eq_true];exact .inr rfl
   simp only;rw[hd,show(true == false)=false from rfl,Za,obS,Bool.false_and,Za,obS,Bool.true_or,if_pos (show true=true from rfl),if_neg (show ¬ (false=true) by decide)];rfl
  ·
   rw[if_neg hc] at hv;have hk1:¬ m.kind=1:=λ e=>hc (.inl e)
   have hvc:zf (child m.name nm)=true:=by cases e:zf (child m.name nm) with | true=>rfl | false=>exact absurd (.inr e) hc
   have hpl:=wN hvc;rw[if_pos hvc];have hd:(cmpI .eql m.kind (1:Int)||decide (child m.name nm=(⟨[]⟩:Str)))=false:=by rw[xo hk1,decide_eq_false (valid_ne hvc)];rfl
   obtain⟨q,hq,hqp⟩:=hI st _ h hvc (by omega);have hld:=hL st _ q h hvc (by omega) hsz hq;have sm:=RSt.small hsz (by decide);have fin:(R.impl_machine_load1 (mach t path st) (child m.name nm)).bind (λ v196=>if(cmpI .neq v196.2.2 (0:Int))=true then(some (.inr (.inr (v196.1,v196.2.2)))) else(some (.inl (v196.1,(⟨(1:Int),v196.2.1⟩:GVal)))))=some ((if q.2.2=0 then .inl (mach t path q.1,⟨1,q.2.1⟩) else .inr (.inr (mach t path q.1,q.2.2))):(Machine×GVal)⊕(Machine⊕(Machine×Int))):=by
    rw[hld,obS];by_cases he:q.2.2=0
    ·
     simp only;rw[he,if_neg (by decide),if_pos rfl]
    ·
     simp only;rw[if_pos (Wy he),if_neg he]
   simp only;rw[hd,show(false == false)=true from rfl,qr,ZM sm.mods,obS,Bool.true_and];simp only[Bool.false_or];cases hl:cmpI .lss (cix st (child m.name nm)) 0 with
   |
    true=>
    rw[show(true == true)=true from rfl,qr,look_eq ht hp h sm hvc,obS,Bool.true_and];simp only[if_true];by_cases hz:(xz t path st (child m.name nm)).kind=0
    ·
     rw[if_pos ⟨hl,hz⟩] at hv;injection hv with hv;subst hv;rw[if_pos (xK hz)];rfl
    ·
     rw[if_neg (λ e=>hz e.2),hq,obS] at hv;injection hv with hv;subst hv;rw[if_neg (by rw[xo hz];decide)];exact fin
   |
    false=>
    rw[if_neg (λ e=>by rw[hl] at e;exact absurd e.1 (by decide)),hq,obS] at hv;injection hv with hv;subst hv;rw[show(false == true)=false from rfl,Za,obS,Bool.false_and,if_neg (show ¬ (false=true) by decide),if_neg (show ¬ (false=true) by decide)];exact fin
theorem do_1(ht:Good t)(hp:path.length<=1048576)(hI:qh n I)(hL:XG t path n R I)(h:Inv st)(hn:4*st.left.toNat+3<=n)(hsz:st.size<=19950){k:Nat}{m:GMod}(hk:st.mods[k]?=some m){x:Stmt}(hx:zU x=true)(hkd:x.kind=1){r:RSt×Int}(hr:jB t path I st k x=some r):
  yl R (mach t path st) (k:Int) x=some (mach t path r.1,r.2):=by
 have hi:=h.at_ hk;have hsx:zr x.module=true/\0<=x.level/\x.level<=3:=by
  rcases ZC hx with h1 | h1 | h1
  ·
   exact absurd h1.1 (by omega)
  ·
   exact⟨h1.2.1,h1.2.2.1,h1.2.2.2⟩
  ·
   exact absurd hkd h1.2.1
 have hnm:=X1 hx (.inl hkd);unfold jB at hr;have hpk:Xt st k=if m.kind=1 then zt m.name else m.name:=by unfold Xt;rw[YL hk,Jn hk]
 rw[if_neg (by omega),if_pos hkd,hpk] at hr;have hpv:zr (if m.kind=1 then zt m.name else m.name)=true:=by
  split
  ·
   exact Xa (qL hi.2.1)
  ·
   exact qL hi.2.1
 unfold yl;rw[show(mach t path st).modules=bxs st.mods from rfl,zJ,wO hk,obS,if_neg (by rw[xo (by omega)];decide),if_pos (xK hkd),Int.toNat_natCast,wO hk,obS,packOf_eq hi.2.1,obS,zbm hpv hsx.1 hsx.2.1 hsx.2.2,obS];generalize qF (if m.kind=1 then zt m.name else m.name) x.level x.module=s1 at*;unfold orE;cases hv:zf s1 with
 |
  false=>
  rw[if_pos hv] at hr;injection hr with hr;subst hr;rw[if_neg (show ¬ (false=true) by decide),if_pos (show decide (emptyS=(⟨[]⟩:Str))=true from rfl)];rfl
 |
  true=>
  rw[if_neg (by rw[hv];decide)] at hr;have hpl:=wN hv;obtain⟨q,hq,hqp⟩:=hI st s1 h hv (by omega);have hqs:=hqp.size;have hld:=hL st s1 q h hv (by omega) (by omega) hq;rw[hq,obS] at hr;rw[if_pos (show true=true from rfl),if_neg (by rw[decide_eq_false (valid_ne hv)];decide),hld,obS];by_cases he:q.2.2=0
  ·
   rw[if_neg (by simp[he])] at hr;obtain⟨m',hm'⟩:=hqp.grow.at_ hk;obtain⟨m2,hm2,hmn,h0⟩:=hqp.good he;have hi2:=hqp.inv.at_ hm2;have hlq:=hqp.grow.left;obtain⟨j,hj⟩:∃ j:Nat,q.2.1=j:=⟨_,(Int.toNat_of_nonneg h0).symm⟩;rw[hj,Int.toNat_natCast] at hm2;rw[hj,Int.toNat_natCast] at hr;have hn':4*q.1.left.toNat+3<=n:=by have:=h.left;have:=hqp.inv.left;omega
   obtain⟨v,hve,hvb⟩:=value_ok (t:=t) (path:=path) hI hqp.inv hn' j x.name hnm;have hval:=value_eq ht hp hI hL hqp.inv hn' (by omega) hm2 hnm hve;rw[hmn] at hval;rw[hve,obS] at hr;obtain⟨m3,hm3⟩:=hvb.grow.at_ hm';simp only;rw[he,if_neg (by decide),hj,show(mach t path q.1).modules=bxs q.1.mods from rfl,zJ,wO hm2,obS,Int.toNat_natCast,wO hm2,obS,attr_eq' hi2.2.2.1,obS,obS];rw[show(mach t path q.1).modules=bxs q.1.mods from rfl,zJ,Int.toNat_natCast,wO hm2] at hval;dsimp only at hval ⊢;rw[hval];by_cases hz:v.2.2=0
   ·
    rw[if_pos hz];rw[if_neg (by simp[hz])] at hr;injection hr with hr;subst hr;have:=give_at (t:=t) (path:=path) hvb.inv hm3 x.name v.2.1 (λ mm=>(Sum.inl mm:Machine⊕(Machine×Int)));simp only[obS,Sum.elim_inl];refine(congrArg (λ o=>Option.bind o _) this).trans ?_;rfl
   ·
    rw[if_neg hz];rw[if_pos hz] at hr;injection hr with hr;subst hr;rfl
  ·
   rw[if_pos he] at hr;injection hr with hr;subst hr;simp only;rw[if_pos (Wy he)];rfl
theorem do_eq(ht:Good t)(hp:path.length<=1048576)(hI:qh n I)(hL:XG t path n R I)(h:Inv st)(hn:4*st.left.toNat+3<=n)(hsz:st.size<=19950){k:Nat}{m:GMod}(hk:st.mods[k]?=some m){x:Stmt}(hx:zU x=true){r:RSt×Int}(hr:jB t path I st k x=some r):
  yl R (mach t path st) (k:Int) x=some (mach t path r.1,r.2):=by
 by_cases h0:x.kind=0
 ·
  exact do_0 hI hL h hn hsz hk hx h0 hr
 ·
  by_cases h1:x.kind=1
  ·
   exact do_1 ht hp hI hL h hn hsz hk hx h1 hr
  ·
   by_cases h2:x.kind=2
   ·
    exact do_2 hI hL h hn hsz hk hx h2 hr
   ·
    exact do_3 h hsz hk ⟨h0,h1,h2⟩ hr
open Go.RowKit
variable{t:Tree}{path:List Int}{st:RSt}{n:Nat}{R:Rec}{I:RImp}
def DoEq(t:Tree)(path:List Int)(n:Nat)(R:Rec)(I:RImp):Prop:=
 ∀ (st:RSt) (k:Nat) (m:GMod) (x:Stmt) (r:RSt×Int),Inv st->st.mods[k]?=some m->zU x=true->4*st.left.toNat+3<=n->st.size<=19950->jB t path I st k x=some r->R.impl_machine_do (mach t path st) (k:Int) x=some (mach t path r.1,r.2)
def RSt.tick(st:RSt):RSt:={ st with left:=st.left - 1 }
theorem Inv.tick(h:Inv st)(hz:¬ st.left=0):Inv st.tick:=⟨h.names,h.roots,h.parts,h.apart,by have:=h.left;show(0:Int)<=st.left - 1;omega⟩
theorem size_tick(h:Inv st)(hz:¬ st.left=0):st.tick.size+100=st.size:=by
 unfold RSt.size RSt.tick;have:=h.left;simp only;omega
theorem body_loop(hI:qh n I)(hD:DoEq t path n R I)(k:Nat)(l:List Stmt)(hl:∀ x∈l,zU x=true)(hlen:l.length<1000000000):∀ (m i:Nat) (st:RSt) (r:RSt×Int),i+m=l.length->Inv st->(∃ mm,st.mods[k]?=some mm)->4*st.left.toNat<=n+1->st.left<=1000000->st.size<=20050->Yw t path I k (l.drop i) st=some r->
  jA (λ s24=>yi R (k:Int) l s24) (m+1) (mach t path st,(0:Int),(i:Int))=some (mach t path r.1,r.2)
 |
  0,i,st,r,hi,_,_,_,_,_,hr=>by
  have:i=l.length:=by omega
  subst this;rw[List.drop_length] at hr;unfold Yw at hr;injection hr with hr;subst hr;refine yK ?_;unfold yi;simp only;rw[zE,if_neg (by simp)]
 |
  m+1,i,st,r,hi,h,⟨mm,hmm⟩,hn,hle,hsz,hr=>by
  have hlt:i<l.length:=by omega
  have hx:l[i]?=some l[i]:=List.getElem?_eq_getElem hlt;have hv:=hl l[i] (List.getElem_mem hlt);rw[List.drop_eq_getElem_cons hlt] at hr;unfold Yw at hr;have hl0:=h.left;by_cases hz:st.left=0
  ·
   rw[if_pos hz] at hr;injection hr with hr;subst hr;refine yK ?_;unfold yi;simp only;rw[zE,if_pos (decide_eq_true hlt),zJ,hx,obS,show(mach t path st).left=st.left from rfl,if_pos (xK hz)]
  ·
   rw[if_neg hz] at hr;have ht:=h.tick hz;have hts:=size_tick h hz;have htl:st.tick.left=st.left - 1:=rfl;obtain⟨q,hq,hb⟩:=stmt_ok (t:=t) (path:=path) hI ht (by rw[htl];omega) k hv;have hbs:=hb.size;have hbl:=hb.grow.left;have hbi:=hb.inv.left;obtain⟨m2,hm2⟩:=hb.grow.at_ (show st.tick.mods[k]?=some mm from hmm);have hd:=hD st.tick k mm l[i] q ht hmm hv (by rw[htl];omega) (by omega) hq;rw[show jB t path I { st with left:=st.left - 1 } k l[i]=some q from hq,obS] at hr;have hs:yi R (k:Int) l (mach t path st,(0:Int),(i:Int))=some (if q.2≠0 then .inr (mach t path q.1,q.2) else .inl (mach t path q.1,q.2,((i+1:Nat):Int))):=by
    unfold yi;simp only;rw[zE,if_pos (decide_eq_true hlt),zJ,hx,obS,show(mach t path st).left=st.left from rfl,if_neg (by rw[xo hz];decide),wM (by omega) (by omega),obS,
     show({ mach t path st with left:=st.left - 1 }:Machine)=mach t path st.tick from rfl,hd,obS,zR (by omega),obS]
    by_cases he:q.2=0
    ·
     simp only;rw[he,if_neg (by decide),if_neg (by simp)]
    ·
     simp only;rw[if_pos (Wy he),if_pos he]
   by_cases he:q.2=0
   ·
    rw[if_neg (by simp[he])] at hr;rw[if_neg (by simp[he]),he] at hs;rw[jL hs];exact body_loop hI hD k l hl hlen m (i+1) q.1 r (by omega) hb.inv ⟨m2,hm2⟩ (by rw[htl] at hbl;omega) (by rw[htl] at hbl;omega) (by omega) hr
   ·
    rw[if_pos he] at hr;injection hr with hr;subst hr;rw[if_pos he] at hs;exact yK hs
theorem zbo(tf:List File)(roots:List Int)(p s:Str):(jp tf roots p s).file<tf.length:=Qu tf p s roots []
theorem zao(s:Str):(xz t path st s).file<t.files.length:=by
 unfold xz;split
 ·
  exact zbo ..
 ·
  split
  ·
   show(-1:Int)<_;omega
  ·
   split
   ·
    show(-1:Int)<_;omega
   ·
    exact zbo ..
theorem body_eq(hv:zH t=true)(hI:qh n I)(hD:DoEq t path n R I)(h:Inv st)(hn:4*st.left.toNat<=n+1)(hle:st.left<=1000000)(hsz:st.size<=20040){k:Nat}{m:GMod}(hk:st.mods[k]?=some m){sp:Spec}(hf:sp.file<t.files.length){r:RSt×Int}(hr:runF t path I (st.note 0 m.name) k sp=some r):
  wX R (mach t path st) (k:Int) sp=some (mach t path (r.1.note (if r.2=0 then 1 else 2) m.name),r.2):=by
 have sm:=RSt.small hsz (by decide);have hi:Inv (st.note 0 m.name):=h.note _ _;have hnz:(st.note 0 m.name).size=st.size+1:=by unfold RSt.size RSt.note;simp only[List.length_append,List.length_cons,List.length_nil];omega
 obtain⟨q,hq,hb⟩:=run_ok (path:=path) hv hI hi (by exact hn) k sp;rw[hq] at hr;injection hr with hr;subst hr;have hqs:=hb.size;have smq:=RSt.small (st:=q.1) (n:=20050) (by omega) (by decide);have hrun:(if(cmpI .geq sp.file (0:Int))=true then((atI t.files sp.file).bind λ v19=>(yE v19).bind λ v20=>zS (λ s24=>yi R (k:Int) v20 s24) (mach t path (st.note 0 m.name),(0:Int),(0:Int))) else(some (mach t path (st.note 0 m.name),(0:Int))))=some (mach t path q.1,q.2):=by
  unfold runF at hq;cases hg:cmpI .geq sp.file 0 with
  |
   false=>
   rw[hg,if_neg (show ¬ (false=true) by decide)] at hq;injection hq with hq;subst hq;rw[if_neg (show ¬ (false=true) by decide)]
  |
   true=>
   have h0:0<=sp.file:=oD hg;rw[hg,if_pos (show true=true from rfl)] at hq;have hbv:=YJ hv sp.file;have hbl:(XF t.files sp.file).body.length<=8:=by
    unfold XF;cases hfl:t.files[sp.file.toNat]? with
    | none=>exact Nat.zero_le _
    |
     some f=>
     have:=Y8 hv (List.mem_of_getElem? hfl);unfold jF at this;simp only[Bool.and_eq_true,cmpI,decide_eq_true_eq] at this;show f.body.length<=8;omega
   rw[if_pos (show true=true from rfl),atI_file h0 hf,obS,show yE ((t.files[sp.file.toNat]?).getD default)=some (XF t.files sp.file).body from rfl,obS];refine jT (m:=(XF t.files sp.file).body.length+1) (body_loop hI hD k _ hbv (by omega) _ 0 (st.note 0 m.name) q (by omega) hi ⟨m,hk⟩ hn hle (by omega) (by rw[List.drop_zero];exact hq)) (by omega)
 unfold wX;rw[show(mach t path st).modules=bxs st.mods from rfl,zJ,wO hk,obS,Int.toNat_natCast,wO hk,obS,QZ sm.log,obS];rw[show(mach t path (st.note 0 m.name)).t=t from rfl,show(mach t path (st.note 0 m.name)).load.g=yE from rfl,hrun,obS];by_cases he:q.2=0
 ·
  simp only;rw[if_pos (xK he),if_pos he,QZ smq.log];rfl
 ·
  simp only;rw[if_neg (by rw[xo he];decide),if_neg he,QZ smq.log];rfl
theorem cix_empty(h:Inv st):cix st emptyS=-1:=by
 rcases wz st emptyS with h1 | ⟨k,m,_,h2,h3,_⟩
 ·
  exact h1.1
 ·
  have:=h.names m (List.mem_of_getElem? h2);rw[h3] at this;cases this
theorem set_fail{k:Nat}{m:GMod}(hm:st.mods[k]?=some m)(s:Str):({ mach t path (st.note 2 s) with modules:=(bxs st.mods).set k ⟨{ m with cached:=false }⟩ }:Machine)=mach t path (st.fail k s):=by
 rw[Xu];unfold RSt.fail;rw[Zj _ hm];rfl
theorem set_done{k:Nat}{m:GMod}(hm:st.mods[k]?=some m)(s:Str):({ mach t path (st.note 1 s) with modules:=(bxs st.mods).set k ⟨{ m with done:=true }⟩ }:Machine)=mach t path (st.done k s):=by
 rw[Xu];unfold RSt.done;rw[Zj _ hm];rfl
open Go.RowKit
variable{t:Tree}{path:List Int}{st:RSt}{n:Nat}{R:Rec}{I:RImp}
def BodyEq(t:Tree)(path:List Int)(n:Nat)(R:Rec)(I:RImp):Prop:=
 ∀
  (st:RSt) (k:Nat) (m:GMod) (sp:Spec) (r:RSt×Int),Inv st->4*st.left.toNat<=n+1->st.left<=1000000->st.size<=20040->st.mods[k]?=some m->sp.file<t.files.length->runF t path I (st.note 0 m.name) k sp=some r->
  R.impl_machine_body (mach t path st) (k:Int) sp=some (mach t path (r.1.note (if r.2=0 then 1 else 2) m.name),r.2)
def RSt.grown(st:RSt)(s:Str)(sp:Spec):RSt:={ st with mods:=st.mods++[⟨s,sp.kind,sp.roots,true,false,[]⟩] }
theorem load_new(ht:Good t)(hp:path.length<=1048576)(hI:qh n I)(hB:BodyEq t path n R I)(h:Inv st)(hn:4*st.left.toNat<=n+1)(hle:st.left<=1000000)(hsz:st.size<=20020){s:Str}(hs:zf s=true){r:RSt×Int×Int}(hr:newF t path I st s (xz t path st s)=some r):
  ((yp (mach t path st) s).bind λ v48=>
if(cmpI .eql v48.2.kind (0:Int))=true then(some (v48.1,(-1:Int),(1:Int)))
else((appO 8 [] v48.2.roots).bind λ v63=>
(appO 8 v48.1.modules [⟨(⟨s,v48.2.kind,v63,true,false,[]⟩:GMod)⟩]).bind λ v84=>
(R.impl_machine_body ({ v48.1 with modules:=v84 }) (v48.1.modules.length:Int) v48.2).bind λ v93=>
if(cmpI .neq v93.2 (0:Int))=true then((v93.1.modules[v48.1.modules.length]?).bind λ v100=>
some ({ v93.1 with modules:=(v93.1.modules.set v48.1.modules.length ⟨{ v100.x with cached:=false }⟩) },(-1:Int),v93.2))
else((v93.1.modules[v48.1.modules.length]?).bind λ v106=>
Option.bind (α:=Machine) ((zT ({ v93.1 with modules:=(v93.1.modules.set v48.1.modules.length ⟨{ v106.x with done:=true }⟩) }) (zt s)).bind λ v111=>
if(decide (zt s≠(⟨[]⟩:Str))&&cmpI .geq v111 (0:Int))=true then((atI (v93.1.modules.set v48.1.modules.length ⟨{ v106.x with done:=true }⟩) v111).bind λ _v118=>
(jc s).bind λ v120=>
((v93.1.modules.set v48.1.modules.length ⟨{ v106.x with done:=true }⟩)[v111.toNat]?).bind λ v125=>
(ye v125.x v120 (⟨(1:Int),(v48.1.modules.length:Int)⟩:GVal)).bind λ v127=>
some ({ v93.1 with modules:=((v93.1.modules.set v48.1.modules.length ⟨{ v106.x with done:=true }⟩).set v111.toNat ⟨v127⟩) }))
else(some ({ v93.1 with modules:=(v93.1.modules.set v48.1.modules.length ⟨{ v106.x with done:=true }⟩) }))) λ o110=>
some (o110,(v48.1.modules.length:Int),(0:Int)))))=some (mach t path r.1,r.2.1,r.2.2):=by
 have sm:=RSt.small hsz (by decide);have hlr:=Xb (t:=t) h hp s;have hlf:=zao (t:=t) (path:=path) (st:=st) s;rw[look_eq ht hp h sm hs,obS];unfold newF at hr;generalize xz t path st s=sp at*;by_cases hk:sp.kind=0
 ·
  rw[if_pos hk] at hr;injection hr with hr;subst hr;rw[if_pos (xK hk)]
 ·
  rw[if_neg hk] at hr;have hgi:Inv (st.grown s sp):=⟨(h.begin (sp:=sp) hs hlr).names,(h.begin (sp:=sp) hs hlr).roots,(h.begin (sp:=sp) hs hlr).parts,(h.begin (sp:=sp) hs hlr).apart,h.left⟩;have hgz:(st.grown s sp).size=st.size+1:=by unfold RSt.size RSt.grown;simp only[List.length_append,List.length_cons,List.length_nil];omega
  have hgm:(st.grown s sp).mods[st.mods.length]?=some ⟨s,sp.kind,sp.roots,true,false,[]⟩:=by unfold RSt.grown;simp
  have hbz:(st.begin s sp).size=st.size+2:=by unfold RSt.size RSt.begin;simp only[List.length_append,List.length_cons,List.length_nil];omega
  obtain⟨q,hq,hb⟩:=run_ok (path:=path) ht.ok hI (h.begin (sp:=sp) hs hlr) (by exact hn) st.mods.length sp;have hqs:=hb.size;rw[hq,obS] at hr;have hbody:=hB (st.grown s sp) st.mods.length _ sp q hgi (by exact hn) hle (by omega) hgm hlf hq;obtain⟨m,hm⟩:=hb.grow.at_ (show(st.begin s sp).mods[st.mods.length]?=some ⟨s,sp.kind,sp.roots,true,false,[]⟩ by unfold RSt.begin;simp);have hlen:(bxs st.mods).length=st.mods.length:=bxs_len _;rw[if_neg (by rw[xo hk];decide),yQ (by simp;omega) (by simp;omega),obS,List.nil_append,show(mach t path st).modules=bxs st.mods from rfl,yQ (by rw[hlen];have:=sm.mods;show(st.mods.length+1)*8<=_;omega) (by rw[hlen];have:=sm.mods;show st.mods.length+1<=_;omega),obS,bxs_app,hlen,
   show({ mach t path st with modules:=bxs (st.mods++[⟨s,sp.kind,sp.roots,true,false,[]⟩]) }:Machine)=mach t path (st.grown s sp) from rfl,hbody,obS]
  by_cases he:q.2=0
  ·
   rw[if_neg (by simp[he])] at hr;injection hr with hr;subst hr;simp only;rw[he,if_neg (by decide),if_pos rfl,show ∀ (z:RSt),(mach t path z).modules=bxs z.mods from λ _=>rfl,show(q.1.note 1 s).mods=q.1.mods from rfl,wO hm,obS];have hsd:=set_done (t:=t) (path:=path) hm s;have hmd:(bxs q.1.mods).set st.mods.length ⟨{ m with done:=true }⟩=bxs (q.1.done st.mods.length s).mods:=by
    rw[Xu];unfold RSt.done;rw[Zj _ hm]
   have hid:=hb.inv.done st.mods.length s;have hdz:(q.1.done st.mods.length s).size=q.1.size+1:=by unfold RSt.size RSt.done;simp only[qG,List.length_append,List.length_cons,List.length_nil];omega
   rw[hmd,show({ mach t path (q.1.note 1 s) with modules:=bxs (q.1.done st.mods.length s).mods }:Machine)=mach t path (q.1.done st.mods.length s) by rw[← hmd];exact hsd];rw[ZM (RSt.small (n:=20100) (by omega) (by decide)).mods,obS];have hfin:((if(decide (zt s≠(⟨[]⟩:Str))&&cmpI .geq (cix (q.1.done st.mods.length s) (zt s)) (0:Int))=true then((atI (bxs (q.1.done st.mods.length s).mods) (cix (q.1.done st.mods.length s) (zt s))).bind λ v118=>
     (jc s).bind λ v120=>
     ((bxs (q.1.done st.mods.length s).mods)[(cix (q.1.done st.mods.length s) (zt s)).toNat]?).bind λ v125=>
     (ye v125.x v120 (⟨(1:Int),(st.mods.length:Int)⟩:GVal)).bind λ v127=>
     some ({ mach t path (q.1.note 1 s) with modules:=((bxs (q.1.done st.mods.length s).mods).set (cix (q.1.done st.mods.length s) (zt s)).toNat ⟨v127⟩) }:Machine))
     else(some (mach t path (q.1.done st.mods.length s)))):Option Machine)=some (mach t path ((q.1.done st.mods.length s).tell st.mods.length s)):=by
    unfold RSt.tell;rcases wz (q.1.done st.mods.length s) (zt s) with⟨h1,_⟩ | ⟨k,m2,h1,h2,h3,_⟩
    ·
     rw[h1,geq_m1,Bool.and_false,if_neg (show ¬ (false=true) by decide),if_neg (show ¬ (false=true) by decide)]
    ·
     have hne:¬ zt s=(⟨[]⟩:Str):=λ e=>by
      have:=cix_empty hid;rw[show emptyS=zt s from e.symm,h1] at this;omega
     rw[h1,j7,decide_eq_true hne,Bool.true_and,if_pos (show true=true from rfl),if_pos (show true=true from rfl),zJ,wO h2,obS,LastOf_eq hs,obS,Int.toNat_natCast,wO h2,obS,give_eq (hid.at_ h2).2.2.1,obS,Xu,set_give h2];rfl
   rw[hfin,obS]
  ·
   rw[if_pos he] at hr;injection hr with hr;subst hr;simp only;rw[if_pos (Wy he),if_neg he,show ∀ (z:RSt),(mach t path z).modules=bxs z.mods from λ _=>rfl,show(q.1.note 2 s).mods=q.1.mods from rfl,wO hm,obS,set_fail hm s]
theorem load_eq(ht:Good t)(hp:path.length<=1048576)(hI:qh n I)(hL:XG t path n R I)(hB:BodyEq t path n R I)(h:Inv st){s:Str}(hs:zf s=true)(hn:4*st.left.toNat+(zp s dot).length<=n+1)(hle:st.left<=1000000)(hsz:st.size<=20000){r:RSt×Int×Int}(hr:impF t path I st s=some r):
  wI R (mach t path st) s=some (mach t path r.1,r.2.1,r.2.2):=by
 have sm:=RSt.small hsz (by decide);have hpp:=qK s;have hpl:=wN hs;unfold impF at hr;unfold wI;rw[ZM sm.mods,obS];rcases wz st s with⟨h1,_⟩ | ⟨k,m,h1,h2,h3,_⟩
 ·
  rw[h1,if_neg (by decide)] at hr;rw[h1,if_neg (by decide),Yv hs,obS];by_cases he:zt s=emptyS
  ·
   rw[if_pos he,obS,if_neg (by simp)] at hr;simp only at hr;rw[h1,if_neg (by decide)] at hr;rw[if_neg (by rw[show zt s=(⟨[]⟩:Str) from he];decide),obS,Sum.elim_inl];exact load_new ht hp hI hB h (by omega) hle (by omega) hs hr
  ·
   have he':¬ zt s=(⟨[]⟩:Str):=he;obtain⟨e1,e2⟩:=qt hs he;obtain⟨q,hq,hqp⟩:=hI st (zt s) h e2 (by omega);have hqs:=hqp.size;have hql:=hqp.grow.left;have hqi:=hqp.inv.left;have hl0:=h.left;have hld:=hL st (zt s) q h e2 (by omega) hsz hq;rw[if_neg he,hq,obS] at hr;rw[if_pos (by rw[decide_eq_true he']),hld,obS];by_cases hz:q.2.2=0
   ·
    rw[if_neg (by simp[hz])] at hr;simp only;rw[hz,if_neg (by decide),ZM (RSt.small (n:=20100) (by omega) (by decide)).mods,obS];rcases wz q.1 s with⟨k1,_⟩ | ⟨k,m,k1,k2,k3,_⟩
    ·
     rw[k1,if_neg (by decide)] at hr;rw[k1,if_neg (by decide),obS,Sum.elim_inl];exact load_new ht hp hI hB hqp.inv (by omega) (by omega) (by omega) hs hr
    ·
     have smq:=RSt.small (st:=q.1) (n:=20100) (by omega) (by decide);rw[k1,if_pos (j7 k),Int.toNat_natCast] at hr;injection hr with hr;subst hr;rw[k1,if_pos (j7 k),hit_eq smq.log smq.part k2,obS,k3];rfl
   ·
    rw[if_pos hz] at hr;injection hr with hr;subst hr;simp only;rw[if_pos (Wy hz)];rfl
 ·
  rw[h1,if_pos (j7 k),Int.toNat_natCast] at hr;injection hr with hr;subst hr;rw[h1,if_pos (j7 k),hit_eq sm.log sm.part h2,obS,h3]
theorem left_of(h:Inv st){z:Nat}(hz:st.size<=z)(hh:z<=100000):st.left<=1000000:=by
 unfold RSt.size at hz;have:=h.left;omega
theorem body_of(ht:Good t)(hp:path.length<=1048576){k M:Nat}(hL:XG t path k (scc M) (imp t path k)):BodyEq t path k (scc (M+2)) (imp t path k):=
 have hI:=Wr ht.ok hp k;have hD:DoEq t path k (scc (M+1)) (imp t path k):=λ _ _ _ _ _ h hm hx hn hsz hr=>do_eq ht hp hI hL h hn hsz hm hx hr
 λ _ _ _ _ _ h hn hle hsz hm hf hr=>body_eq ht.ok hI hD h hn hle hsz hm hf hr
theorem W6(ht:Good t)(hp:path.length<=1048576):∀ (k N:Nat),3*k<=N->XG t path k (scc N) (imp t path k)
 | 0,_,_=>λ _ _ _ _ _ _ _ hr=>by cases hr
 |
  k+1,N,hN=>λ st s r h hs hn hsz hr=>by
  obtain⟨M,rfl⟩:∃ M,N=M+3:=⟨N - 3,by omega⟩;exact load_eq ht hp (Wr ht.ok hp k) (W6 ht hp k (M+2) (by omega)) (body_of ht hp (W6 ht hp k M (by omega))) h hs hn (left_of h hsz (by decide)) hsz hr
open Go.RowKit
variable(t:Tree)(path:List Int)
def rnr(st:RSt)(e:Int):Runner:=⟨t,path,st.mods,st.log,st.out,e,st.left,⟨⟨false,zDisk,Xj,[],0⟩⟩⟩
variable{t path}{st:RSt}{n:Nat}{R:Rec}{I:RImp}
theorem Yx(h:st.mods.length<=1048576)(e:Int)(s:Str):xH (rnr t path st e) s=some (rnr t path st e,cix st s):=by
 unfold xH;have hl:zS (λ s4=>jJ (rnr t path st e) s s4) 0=some (match st.mods.findIdx? (hits s) with | some i=>(Sum.inr (rnr t path st e,(i:Int)):Unit⊕(Runner×Int)) | none=>Sum.inl ()):=by
  refine Zv st.mods (hits s) (λ i=>Sum.inr (rnr t path st e,i)) _ (λ k x hx hlt=>?_) ?_ (by omega) rfl
  ·
   unfold jJ;rw[show(rnr t path st e).mods=st.mods from rfl,zE,if_pos (decide_eq_true hlt),zJ,hx,obS,xy,obS,zR (by omega)];unfold hits;cases decide (x.name=s) with
   |
    true=>
    rw[if_pos (show(true == true)=true from rfl)];cases x.cached <;> rfl
   | false=>rfl
  ·
   unfold jJ;rw[show(rnr t path st e).mods=st.mods from rfl,zE,if_neg (by simp)]
 rw[hl];unfold cix yB;cases List.findIdx? (hits s) st.mods <;> rfl
theorem Q0(h:st.log.length<=1048576)(e k:Int)(s:Str):wm (rnr t path st e) k s=some (rnr t path (st.note k s) e):=by
 unfold wm;rw[show(rnr t path st e).log=st.log from rfl,yQ (by show(st.log.length+1)*24<=_;omega) (by show st.log.length+1<=_;omega),obS];rfl
theorem zap{l:List GAttr}(h:l.length<=16777216)(s:Str):jY l s=some (aix l s):=by
 unfold jY;have hl:zS (λ s4=>jl l s s4) 0=some (match l.findIdx? (λ a=>decide (a.name=s)) with | some i=>(Sum.inr (i:Int):Unit⊕Int) | none=>Sum.inl ()):=by
  refine Zv l (λ a=>decide (a.name=s)) (λ i=>Sum.inr i) _ (λ k x hx hlt=>?_) ?_ (by omega) rfl
  ·
   unfold jl;rw[zE,if_pos (decide_eq_true hlt),zJ,hx,obS,zR (by omega),obS];cases decide (x.name=s) <;> rfl
  ·
   unfold jl;rw[zE,if_neg (by simp)]
 rw[hl];unfold aix yB;cases List.findIdx? (λ a:GAttr=>decide (a.name=s)) l <;> rfl
theorem Xc(h:Inv st){k:Nat}{m:GMod}(hm:st.mods[k]?=some m)(e:Int)(s:Str)(v:GVal):xE (rnr t path st e) (k:Int) s v=some (rnr t path (st.give k s v) e):=by
 have hi:=h.at_ hm;unfold xE;rw[show(rnr t path st e).mods=st.mods from rfl,zJ,hm,obS,zap hi.2.2.1,obS,obS,Int.toNat_natCast];have hg:rnr t path (st.give k s v) e={ rnr t path st e with mods:=st.mods.set k { m with attrs:=jy m.attrs s v } }:=by rw[set_give hm];rfl
 rw[hg];unfold jy;rcases X3 m.attrs s with⟨h1,_⟩ | ⟨j,a,h1,_,h3,_⟩
 ·
  rw[h1,geq_m1,if_neg (show ¬ (false=true) by decide),if_neg (show ¬ (false=true) by decide),obS,yQ (by show(m.attrs.length+1)*32<=_;omega) (by show m.attrs.length+1<=_;omega),obS,obS]
 ·
  rw[h1,j7,if_pos (show true=true from rfl),if_pos (show true=true from rfl),zJ,h3,obS,Int.toNat_natCast,Zj _ h3]
theorem spackageOf_eq{m:GMod}(h:zf m.name=true):qf m=some (if m.kind=1 then zt m.name else m.name):=by
 unfold qf;by_cases hk:m.kind=1
 ·
  rw[if_pos (by simp[cmpI,hk]),if_pos hk,show xT m.name=some (zt m.name) from if_pos (wE h).mid];rfl
 ·
  rw[if_neg (by simp[cmpI,hk]),if_neg hk]
theorem zaI(e:Int){rs:List Int}(hr:rs.length<=1048576){p s:Str}(hp:p.l.length+s.l.length<=100):jK (rnr t path st e) rs p s=some (rnr t path st e,jp t.files rs p s):=by
 unfold jK;rw[if_pos (show(!(rnr t path st e).warm.x.on)=true from rfl),show Yh (rnr t path st e).t rs p s=some (jp t.files rs p s) from if_pos ⟨by omega,by omega⟩,obS]
theorem specIn_eq(hp:path.length<=1048576)(h:Inv st)(hs:Small st)(e:Int){s:Str}(hv:zf s=true):jZ (rnr t path st e) s=some (rnr t path st e,xz t path st s):=by
 have hl:=xf hv;unfold jZ xz;rw[show xT s=some (zt s) from if_pos (wE hv).mid,obS];by_cases he:zt s=emptyS
 ·
  rw[if_pos (decide_eq_true (show zt s=(⟨[]⟩:Str) from he)),if_pos he,show(rnr t path st e).path=path from rfl,zaI e hp (by show 0+s.l.length<=_;omega),obS];rfl
 ·
  have he':¬ zt s=(⟨[]⟩:Str):=he;have hpp:=(qt hv he).2;have hpl:=xf hpp;have hla:=part_len (Wp hv);rw[if_neg (by simp[he']),if_neg he,Yx hs.mods,obS];rcases wz st (zt s) with⟨h1,_⟩ | ⟨k,m,h1,h2,h3,_⟩
  ·
   rw[h1,W5];rw[show((true == false):Bool)=false from rfl,Za,obS,if_pos (by simp),if_pos rfl];rfl
  ·
   rw[h1,Z1,show((false == false):Bool)=true from rfl,qr,show(rnr t path st e).mods=st.mods from rfl,zJ,h2,obS,Bool.false_or,if_neg (by decide:¬ (false=true)),Int.toNat_natCast,YL h2,zbn h2];by_cases hk:m.kind=1
   ·
    rw[if_pos (by simp[cmpI,hk]),if_pos hk];rfl
   ·
    rw[if_neg (by simp[cmpI,hk]),if_neg hk,obS,show qV s=some (xL s) from if_pos (wE hv).mid,obS,zaI e (h.at_ h2).2.2.2 (by omega),obS]
def ImpEq(t:Tree)(path:List Int)(n:Nat)(R:Rec)(I:RImp):Prop:=
 ∀ (st:RSt) (s:Str) (r:RSt×Int×Int),Inv st->zf s=true->4*st.left.toNat+(zp s dot).length<=n->st.size<=20000->I st s=some r->R.spec_importName (rnr t path st 0) s=some (rnr t path r.1 r.2.2,r.2.1)
def ValEq(t:Tree)(path:List Int)(n:Nat)(R:Rec)(I:RImp):Prop:=
 ∀ (st:RSt) (j:Nat) (m:GMod) (s:Str) (v:RSt×GVal×Int),Inv st->st.mods[j]?=some m->zy s=true->4*st.left.toNat+3<=n->st.size<=20000->Yb t path I st j s=some v->R.spec_fromName (rnr t path st 0) (j:Int) s=some (rnr t path v.1 v.2.2,v.2.1)
theorem val_eq(hp:path.length<=1048576)(hL:ImpEq t path n R I)(hI:qh n I)(h:Inv st)(hn:4*st.left.toNat+3<=n)(hsz:st.size<=20000){j:Nat}{m:GMod}(hj:st.mods[j]?=some m){nm:Str}(hnm:zy nm=true){v:RSt×GVal×Int}(hv:Yb t path I st j nm=some v):
  qw R (rnr t path st 0) (j:Int) nm=some (rnr t path v.1 v.2.2,v.2.1):=by
 have hi:=h.at_ hj;have hnl:=xf hi.2.1;have hnp:=part_len hnm;have hcl:=zam m.name nm;have sm:=RSt.small hsz (by decide);unfold Yb at hv;rw[Yc hj,YL hj,Jn hj] at hv;unfold qw;rw[show(rnr t path st 0).mods=st.mods from rfl,zJ,hj,obS,zap hi.2.2.1,obS];rcases X3 m.attrs nm with⟨h1,_⟩ | ⟨k,a,h1,_,h3,_⟩
 ·
  rw[h1,geq_m1,if_neg (show ¬ (false=true) by decide)] at hv;have hvn:yU (child m.name nm)=some (zf (child m.name nm)):=if_pos (by unfold mid;omega);rw[h1,geq_m1,if_neg (show ¬ (false=true) by decide),obS,show Zg m.name nm=some (child m.name nm) from if_pos (by omega),obS,obS,hvn,xy,obS];by_cases hk:m.kind=1
  ·
   rw[if_pos (.inl hk)] at hv;injection hv with hv;subst hv;rw[xK hk,if_pos (by rfl)];rfl
  ·
   rw[xo hk,show(false == false)=true from rfl,if_pos (show true=true from rfl),Bool.false_or];cases hc:zf (child m.name nm) with
   |
    false=>
    rw[if_pos (.inr hc)] at hv;injection hv with hv;subst hv;rw[if_pos (by rfl)];rfl
   |
    true=>
    have hpl:=wN hc;rw[if_neg (λ e=>e.elim hk λ e=>by rw[hc] at e;cases e)] at hv;obtain⟨q,hq,hqp⟩:=hI st _ h hc (by omega);have hld:=hL st _ q h hc (by omega) hsz hq;rw[if_neg (by decide),Yx sm.mods,obS];cases hl:cmpI .lss (cix st (child m.name nm)) 0 with
    |
     true=>
     rw[show(true == true)=true from rfl,qr,specIn_eq hp h sm 0 hc,obS,Bool.true_and,if_pos (show true=true from rfl)];by_cases hz:(xz t path st (child m.name nm)).kind=0
     ·
      rw[if_pos ⟨hl,hz⟩] at hv;injection hv with hv;subst hv;rw[if_pos (xK hz)];rfl
     ·
      rw[if_neg (λ e=>hz e.2),hq,obS] at hv;injection hv with hv;subst hv;rw[if_neg (by rw[xo hz];decide),hld,obS]
    |
     false=>
     rw[if_neg (λ e=>by rw[hl] at e;exact absurd e.1 (by decide)),hq,obS] at hv;injection hv with hv;subst hv;rw[show(false == true)=false from rfl,Za,obS,Bool.false_and,if_neg (show ¬ (false=true) by decide),if_neg (show ¬ (false=true) by decide),hld,obS]
 ·
  rw[h1,j7,if_pos (show true=true from rfl),Int.toNat_natCast,h3] at hv;injection hv with hv;subst hv;rw[h1,j7,if_pos (show true=true from rfl),obS,zJ,h3,obS];rfl
theorem star_loop{k:Nat}(hk':∃ m,st.mods[k]?=some m)(l:List GAttr)(h:Inv st)(hl:∀ a∈l,zy a.name=true)(hb:l.length<=16777216):
  zS (λ s19=>xw R (k:Int) l s19) (rnr t path st 0,(0:Int))=some (rnr t path (W3 k l st) 0):=by
 obtain⟨m0,hm0⟩:=hk';have key:=Jk (step:=λ s19=>xw R (k:Int) l s19) l (λ(s:RSt) j=>(rnr t path s 0,(j:Int))) (λ s a=>if(a.name.l.headD 0 == 122)=true then s else s.give k a.name a.value) (λ s=>rnr t path s 0) (λ _ s=>Inv s/\∃ m,s.mods[k]?=some m)
  (λ j s a ha hlt ⟨hi,m1,hm1⟩=>by
   have hva:=hl a (List.mem_of_getElem? ha);have hne:a.name.l[0]?=some (a.name.l.headD 0):=by
    rcases Ws hva with⟨c,e,_⟩ | ⟨c,d,e,_⟩ | ⟨c,d,e',e,_⟩ <;> rw[e] <;> rfl
   have hat:atI a.name.l (0:Int)=some (a.name.l.headD 0):=hne;have hgr:=Grow.give (st:=s) k a.name a.value;obtain⟨m2,hm2⟩:=hgr.at_ hm1;have hs:xw R (k:Int) l (rnr t path s 0,(j:Int))=some (.inl (rnr t path (if(a.name.l.headD 0 == 122)=true then s else s.give k a.name a.value) 0,((j+1:Nat):Int))):=by
    unfold xw;simp only;rw[zE,if_pos (decide_eq_true hlt),zJ,ha,obS,hat,obS,zR (by omega)];cases hz:(a.name.l.headD 0 == 122) with
    |
     true=>
     rw[if_neg (by simp[cmpB] at hz ⊢;exact hz),if_pos rfl];rfl
    |
     false=>
     rw[if_pos (by simp[cmpB] at hz ⊢;exact hz),obS,obS,Xc hi hm1,if_neg (by decide)];rfl
   refine⟨hs,?_⟩;split
   ·
    exact⟨hi,m1,hm1⟩
   ·
    exact⟨hi.give k _ hva,m2,hm2⟩)
  (λ s _=>by
   unfold xw;simp only;rw[zE,if_neg (by simp)]) (s0:=st) ⟨h,m0,hm0⟩ (by omega)
 exact key
open Go.RowKit
variable{t:Tree}{path:List Int}{st:RSt}{n:Nat}{R:Rec}{I:RImp}
theorem from_eq(_hp:path.length<=1048576)(hI:qh n I)(hL:ImpEq t path n R I)(hV:ValEq t path n R I)(h:Inv st)(hn:4*st.left.toNat+3<=n)(hsz:st.size<=19950){k:Nat}{m:GMod}(hk:st.mods[k]?=some m){x:Stmt}(hx:zU x=true)(hkd:x.kind=1){r:RSt×Int}(hr:jB t path I st k x=some r):
  q5 R (rnr t path st 0) (k:Int) x=some (rnr t path r.1 r.2):=by
 have hi:=h.at_ hk;have hsx:zr x.module=true/\0<=x.level/\x.level<=3:=by
  rcases ZC hx with h1 | h1 | h1
  ·
   exact absurd h1.1 (by omega)
  ·
   exact⟨h1.2.1,h1.2.2.1,h1.2.2.2⟩
  ·
   exact absurd hkd h1.2.1
 have hnm:=X1 hx (.inl hkd);unfold jB at hr;have hpk:Xt st k=if m.kind=1 then zt m.name else m.name:=by unfold Xt;rw[YL hk,Jn hk]
 rw[if_neg (by omega),if_pos hkd,hpk] at hr;have hpv:zr (if m.kind=1 then zt m.name else m.name)=true:=by
  split
  ·
   exact Xa (qL hi.2.1)
  ·
   exact qL hi.2.1
 have hsh:sho (qF (if m.kind=1 then zt m.name else m.name) x.level x.module):=by
  have:=stName_sho hpv hx;unfold stName at this;rw[if_neg (by simp[cmpI,hkd]),if_pos (by simp[cmpI,hkd])] at this;exact this
 unfold q5;rw[show(rnr t path st 0).mods=st.mods from rfl,zJ,hk,obS,spackageOf_eq hi.2.1,obS,zaV hpv hsx.2.1 (by omega) (pkg_sho hsx.1),obS];generalize qF (if m.kind=1 then zt m.name else m.name) x.level x.module=s1 at*;rw[show yU s1=some (zf s1) from if_pos hsh.mid,obS];cases hv:zf s1 with
 |
  false=>
  rw[if_pos hv] at hr;injection hr with hr;subst hr;rw[if_pos (by rfl)];rfl
 |
  true=>
  rw[if_neg (by rw[hv];decide)] at hr;have hpl:=wN hv;obtain⟨q,hq,hqp⟩:=hI st s1 h hv (by omega);have hqs:=hqp.size;have hld:=hL st s1 q h hv (by omega) (by omega) hq;rw[hq,obS] at hr;rw[if_neg (by decide),hld,obS];by_cases he:q.2.2=0
  ·
   rw[if_neg (by simp[he])] at hr;obtain⟨m',hm'⟩:=hqp.grow.at_ hk;obtain⟨m2,hm2,hmn,h0⟩:=hqp.good he;have hlq:=hqp.grow.left;obtain⟨j,hj⟩:∃ j:Nat,q.2.1=j:=⟨_,(Int.toNat_of_nonneg h0).symm⟩;rw[hj,Int.toNat_natCast] at hm2;rw[hj,Int.toNat_natCast] at hr;have hn':4*q.1.left.toNat+3<=n:=by have:=h.left;have:=hqp.inv.left;omega
   obtain⟨v,hve,hvb⟩:=value_ok (t:=t) (path:=path) hI hqp.inv hn' j x.name hnm;have hval:=hV q.1 j m2 x.name v hqp.inv hm2 hnm hn' (by omega) hve;rw[hve,obS] at hr;obtain⟨m3,hm3⟩:=hvb.grow.at_ hm';simp only;rw[show(rnr t path q.1 q.2.2).fin=q.2.2 from rfl,he,if_neg (by decide),hj,hval,obS];by_cases hz:v.2.2=0
   ·
    rw[if_neg (by simp[hz])] at hr;injection hr with hr;subst hr;simp only;rw[show(rnr t path v.1 v.2.2).fin=v.2.2 from rfl,if_pos (xK hz),Xc hvb.inv hm3,hz];rfl
   ·
    rw[if_pos hz] at hr;injection hr with hr;subst hr;simp only;rw[show(rnr t path v.1 v.2.2).fin=v.2.2 from rfl,if_neg (by rw[xo hz];decide)]
  ·
   rw[if_pos he] at hr;injection hr with hr;subst hr;simp only;rw[show(rnr t path q.1 q.2.2).fin=q.2.2 from rfl,if_pos (Wy he)]
theorem star_eq(hI:qh n I)(hL:ImpEq t path n R I)(h:Inv st)(hn:4*st.left.toNat+3<=n)(hsz:st.size<=19950){k:Nat}{m:GMod}(hk:st.mods[k]?=some m){x:Stmt}(hx:zU x=true)(hkd:x.kind=2){r:RSt×Int}(hr:jB t path I st k x=some r):
  qZ R (rnr t path st 0) (k:Int) x=some (rnr t path r.1 r.2):=by
 have hv:=qg hx (.inr hkd);have hpl:=wN hv;obtain⟨q,hq,hp⟩:=hI st x.module h hv (by omega);have hqs:=hp.size;unfold jB at hr;rw[if_neg (by omega),if_neg (by omega),if_pos hkd,hq,obS] at hr;have hld:=hL st x.module q h hv (by omega) (by omega) hq;unfold qZ;rw[hld,obS];by_cases he:q.2.2=0
 ·
  rw[if_neg (by simp[he])] at hr;obtain⟨m',hm'⟩:=hp.grow.at_ hk;obtain⟨m2,hm2,_,h0⟩:=hp.good he;have hi2:=hp.inv.at_ hm2;obtain⟨j,hj⟩:∃ j:Nat,q.2.1=j:=⟨_,(Int.toNat_of_nonneg h0).symm⟩;rw[hj,Int.toNat_natCast] at hm2;rw[hj,Int.toNat_natCast,Yc hm2] at hr;injection hr with hr;subst hr;simp only;rw[show(rnr t path q.1 q.2.2).fin=q.2.2 from rfl,he,if_neg (by decide),hj,show(rnr t path q.1 0).mods=q.1.mods from rfl,zJ,hm2,obS,
   yQ (by simp;omega) (by simp;omega),obS,List.nil_append,star_loop ⟨m',hm'⟩ m2.attrs hp.inv (hp.inv.parts m2 hi2.1) hi2.2.2.1]
 ·
  rw[if_pos he] at hr;injection hr with hr;subst hr;simp only;rw[show(rnr t path q.1 q.2.2).fin=q.2.2 from rfl,if_pos (Wy he)]
def StEq(t:Tree)(path:List Int)(n:Nat)(F:Runner->Int->Stmt->Option Runner)(I:RImp)(P:Int->Prop):Prop:=
 ∀ (st:RSt) (k:Nat) (m:GMod) (x:Stmt) (r:RSt×Int),Inv st->st.mods[k]?=some m->zU x=true->P x.kind->4*st.left.toNat+3<=n->st.size<=19950->jB t path I st k x=some r->F (rnr t path st 0) (k:Int) x=some (rnr t path r.1 r.2)
theorem first_get(s:Str):(zp s dot)[0]?=some (qQ s):=by
 have:=qK s;unfold qQ;cases h:zp s dot with
 | nil=>rw[h] at this;simp at this
 | cons a l=>rfl
theorem sstmt_eq(hI:qh n I)(hL:ImpEq t path n R I)(hF:StEq t path n R.spec_runFrom I (·=1))(hS:StEq t path n R.spec_runStar I (·=2))(h:Inv st)(hn:4*st.left.toNat+3<=n)(hsz:st.size<=19950){k:Nat}{m:GMod}(hk:st.mods[k]?=some m){x:Stmt}(hx:zU x=true){r:RSt×Int}(hr:jB t path I st k x=some r):
  qY R (rnr t path st 0) (k:Int) x=some (rnr t path r.1 r.2):=by
 have hi:=h.at_ hk;unfold qY;by_cases h0:x.kind=0
 ·
  have hv:=qg hx (.inl h0);have hpl:=wN hv;obtain⟨q,hq,hp⟩:=hI st x.module h hv (by omega);have hqs:=hp.size;unfold jB at hr;rw[if_pos h0,hq,obS] at hr;have hld:=hL st x.module q h hv (by omega) (by omega) hq;have smq:=RSt.small (st:=q.1) (n:=20000) (by omega) (by decide);rw[if_pos (xK h0),hld,obS,show ZW x.module (UInt8.ofNat 46)=some (zp x.module dot) from if_pos (wE hv).mid,obS,show atI (zp x.module dot) (0:Int)=(zp x.module dot)[0]? from rfl,first_get,obS];simp only;rw[show(rnr t path q.1 q.2.2).fin=q.2.2 from rfl];by_cases he:q.2.2=0
  ·
   rw[if_neg (by simp[he])] at hr;obtain⟨m',hm'⟩:=hp.grow.at_ hk;rw[he,if_neg (by decide),Yx smq.mods,obS];cases hc:cmpI .lss (cix q.1 (qQ x.module)) 0 with
   |
    true=>
    rw[if_pos hc] at hr;injection hr with hr;subst hr;rw[if_pos (show true=true from rfl)];rfl
   |
    false=>
    rw[if_neg (by simp[hc])] at hr;injection hr with hr;subst hr;rw[if_neg (by decide),Yx smq.mods,obS,Xc hp.inv hm'];rfl
  ·
   rw[if_pos he] at hr;injection hr with hr;subst hr;rw[if_pos (Wy he)]
 ·
  rw[if_neg (by rw[xo h0];decide)];by_cases h1:x.kind=1
  ·
   rw[if_pos (xK h1),hF st k m x r h hk hx h1 hn hsz hr];rfl
  ·
   rw[if_neg (by rw[xo h1];decide)];by_cases h2:x.kind=2
   ·
    rw[if_pos (xK h2),hS st k m x r h hk hx h2 hn hsz hr];rfl
   ·
    unfold jB at hr;rw[if_neg h0,if_neg h1,if_neg h2] at hr;rw[if_neg (by rw[xo h2];decide)];by_cases h3:x.kind=3
    ·
     rw[if_pos h3] at hr;injection hr with hr;subst hr;rw[if_pos (xK h3),Xc h hk];rfl
    ·
     rw[if_neg h3] at hr;rw[if_neg (by rw[xo h3];decide)];by_cases h4:x.kind=4
     ·
      rw[if_pos h4,Yc hk] at hr;rw[if_pos (xK h4),show(rnr t path st 0).mods=st.mods from rfl,zJ,hk,obS,zap hi.2.2.1,obS];rcases X3 m.attrs x.name with⟨k1,_⟩ | ⟨j,a,k1,_,k3,_⟩
      ·
       rw[k1,W5,if_pos (show true=true from rfl)] at hr;injection hr with hr;subst hr;rw[k1,W5,if_pos (show true=true from rfl)];rfl
      ·
       rw[k1,Z1,if_neg (show ¬ (false=true) by decide),Int.toNat_natCast,k3] at hr;injection hr with hr;subst hr;have ho:st.out.length<=19950:=by unfold RSt.size at hsz;omega
       rw[k1,Z1,if_neg (show ¬ (false=true) by decide),obS,zJ,k3,obS];have hsh:ZY a.value=some (if a.value.kind=1 then -1 else a.value.num):=by
        unfold ZY;by_cases hz:a.value.kind=1
        ·
         rw[if_pos (xK hz),if_pos hz]
        ·
         rw[if_neg (by rw[xo hz];decide),if_neg hz]
       rw[hsh,obS,show(rnr t path st 0).out=st.out from rfl,yQ (by show(st.out.length+1)*8<=_;omega) (by show st.out.length+1<=_;omega),obS];rfl
     ·
      rw[if_neg h4] at hr;rw[if_neg (by rw[xo h4];decide)];by_cases h5:x.kind=5
      ·
       rw[if_pos h5] at hr;injection hr with hr;subst hr;rw[if_pos (xK h5)];rfl
      ·
       rw[if_neg h5] at hr;injection hr with hr;subst hr;rw[if_neg (by rw[xo h5];decide)]
theorem zbp(hI:qh n I)(hD:StEq t path n R.spec_runStmt I (λ _=>True))(k:Nat)(l:List Stmt)(hl:∀ x∈l,zU x=true)(hlen:l.length<1000000000):∀ (m i:Nat) (st:RSt) (r:RSt×Int),i+m=l.length->Inv st->(∃ mm,st.mods[k]?=some mm)->4*st.left.toNat<=n+1->st.left<=1000000->st.size<=20050->Yw t path I k (l.drop i) st=some r->
  jA (λ s2=>xv R (k:Int) l s2) (m+1) (rnr t path st 0,(i:Int))=some (rnr t path r.1 r.2)
 |
  0,i,st,r,hi,_,_,_,_,_,hr=>by
  have:i=l.length:=by omega
  subst this;rw[List.drop_length] at hr;unfold Yw at hr;injection hr with hr;subst hr;refine yK ?_;unfold xv;simp only;rw[zE,if_neg (by simp)]
 |
  m+1,i,st,r,hi,h,⟨mm,hmm⟩,hn,hle,hsz,hr=>by
  have hlt:i<l.length:=by omega
  have hx:l[i]?=some l[i]:=List.getElem?_eq_getElem hlt;have hv:=hl l[i] (List.getElem_mem hlt);rw[List.drop_eq_getElem_cons hlt] at hr;unfold Yw at hr;have hl0:=h.left;by_cases hz:st.left=0
  ·
   rw[if_pos hz] at hr;injection hr with hr;subst hr;refine yK ?_;unfold xv;simp only;rw[zE,if_pos (decide_eq_true hlt),show(rnr t path st 0).left=st.left from rfl,if_pos (xK hz)];rfl
  ·
   rw[if_neg hz] at hr;have ht:=h.tick hz;have hts:=size_tick h hz;have htl:st.tick.left=st.left - 1:=rfl;obtain⟨q,hq,hb⟩:=stmt_ok (t:=t) (path:=path) hI ht (by rw[htl];omega) k hv;have hbs:=hb.size;have hbl:=hb.grow.left;have hbi:=hb.inv.left;obtain⟨m2,hm2⟩:=hb.grow.at_ (show st.tick.mods[k]?=some mm from hmm);have hd:=hD st.tick k mm l[i] q ht hmm hv trivial (by rw[htl];omega) (by omega) hq;rw[show jB t path I { st with left:=st.left - 1 } k l[i]=some q from hq,obS] at hr;have hs:xv R (k:Int) l (rnr t path st 0,(i:Int))=some (if q.2≠0 then .inr (rnr t path q.1 q.2) else .inl (rnr t path q.1 q.2,((i+1:Nat):Int))):=by
    unfold xv;simp only;rw[zE,if_pos (decide_eq_true hlt),show(rnr t path st 0).left=st.left from rfl,if_neg (by rw[xo hz];decide),wM (by omega) (by omega),obS,zJ,hx,obS,
     show({ rnr t path st 0 with left:=st.left - 1 }:Runner)=rnr t path st.tick 0 from rfl,hd,obS,zR (by omega),obS,show(rnr t path q.1 q.2).fin=q.2 from rfl]
    by_cases he:q.2=0
    ·
     rw[he,if_neg (by decide),if_neg (by simp)]
    ·
     rw[if_pos (Wy he),if_pos he]
   by_cases he:q.2=0
   ·
    rw[if_neg (by simp[he])] at hr;rw[if_neg (by simp[he]),he] at hs;rw[jL hs];exact zbp hI hD k l hl hlen m (i+1) q.1 r (by omega) hb.inv ⟨m2,hm2⟩ (by rw[htl] at hbl;omega) (by rw[htl] at hbl;omega) (by omega) hr
   ·
    rw[if_pos he] at hr;injection hr with hr;subst hr;rw[if_pos he] at hs;exact yK hs
def SBodyEq(t:Tree)(path:List Int)(n:Nat)(R:Rec)(I:RImp):Prop:=
 ∀ (st:RSt) (k:Nat) (m:GMod) (l:List Stmt) (r:RSt×Int),Inv st->st.mods[k]?=some m->(∀ x∈l,zU x=true)->l.length<1000000000->4*st.left.toNat<=n+1->st.left<=1000000->st.size<=20050->Yw t path I k l st=some r->R.spec_runBody (rnr t path st 0) (k:Int) l=some (rnr t path r.1 r.2)
theorem sbody_eq(hI:qh n I)(hD:StEq t path n R.spec_runStmt I (λ _=>True))(h:Inv st){k:Nat}{m:GMod}(hk:st.mods[k]?=some m){l:List Stmt}(hl:∀ x∈l,zU x=true)(hlen:l.length<1000000000)(hn:4*st.left.toNat<=n+1)(hle:st.left<=1000000)(hsz:st.size<=20050){r:RSt×Int}(hr:Yw t path I k l st=some r):ZZ R (rnr t path st 0) (k:Int) l=some (rnr t path r.1 r.2):=
 jT (m:=l.length+1) (zbp hI hD k l hl hlen l.length 0 st r (by omega) h ⟨m,hk⟩ hn hle hsz (by rw[List.drop_zero];exact hr)) (by omega)
open Go.RowKit
variable{t:Tree}{path:List Int}{st:RSt}{n:Nat}{R:Rec}{I:RImp}
theorem srun_eq(hv:zH t=true)(hB:SBodyEq t path n R I)(h:Inv st){k:Nat}{m:GMod}(hm:st.mods[k]?=some m)(hn:4*st.left.toNat<=n+1)(hle:st.left<=1000000)(hsz:st.size<=20050){sp:Spec}(hlf:sp.file<t.files.length){q:RSt×Int}(hq:runF t path I st k sp=some q):
  (if(cmpI .geq sp.file (0:Int))=true then((jX (rnr t path st 0) sp.file).bind λ v149=>
(R.spec_runBody v149.1 (k:Int) v149.2).bind λ v153=>
some v153)
else(some (rnr t path st 0)))=some (rnr t path q.1 q.2):=by
 unfold runF at hq;cases hg:cmpI .geq sp.file 0 with
 |
  false=>
  rw[hg,if_neg (show ¬ (false=true) by decide)] at hq;injection hq with hq;subst hq;rw[if_neg (show ¬ (false=true) by decide)]
 |
  true=>
  have h0:0<=sp.file:=oD hg;rw[hg,if_pos (show true=true from rfl)] at hq;have hbv:=YJ hv sp.file;have hbl:(XF t.files sp.file).body.length<=8:=by
   unfold XF;cases hfl:t.files[sp.file.toNat]? with
   | none=>exact Nat.zero_le _
   |
    some f=>
    have:=Y8 hv (List.mem_of_getElem? hfl);unfold jF at this;simp only[Bool.and_eq_true,cmpI,decide_eq_true_eq] at this;show f.body.length<=8;omega
  have hbo:jX (rnr t path st 0) sp.file=some (rnr t path st 0,(XF t.files sp.file).body):=by
   unfold jX;rw[if_pos (show(!(rnr t path st 0).warm.x.on)=true from rfl),show(rnr t path st 0).t=t from rfl,atI_file h0 hlf,obS];rfl
  rw[if_pos (show true=true from rfl),hbo,obS,hB st k m _ q h hm hbv (by omega) hn hle hsz hq,obS]
theorem imp_new(hv:zH t=true)(hp:path.length<=1048576)(hI:qh n I)(hB:SBodyEq t path n R I)(h:Inv st)(hn:4*st.left.toNat<=n+1)(hle:st.left<=1000000)(hsz:st.size<=20020){s:Str}(hs:zf s=true){r:RSt×Int×Int}(hr:newF t path I st s (xz t path st s)=some r):
  ((jZ (rnr t path st 0) s).bind λ v46=>
if(cmpI .eql v46.2.kind (0:Int))=true then(some ({ v46.1 with fin:=(1:Int) },(-1:Int)))
else(Option.bind (α:=Runner) ((appO 80 v46.1.mods [(⟨s,v46.2.kind,v46.2.roots,true,false,[]⟩:GMod)]).bind λ v86=>
some ({ v46.1 with mods:=v86 })) λ o65=>
(wm o65 (0:Int) s).bind λ v140=>
Option.bind (α:=Runner) (if(cmpI .geq v46.2.file (0:Int))=true then((jX v140 v46.2.file).bind λ v149=>
(R.spec_runBody v149.1 (v46.1.mods.length:Int) v149.2).bind λ v153=>
some v153)
else(some v140)) λ o143=>
if(cmpI .neq o143.fin (0:Int))=true then((atI o143.mods (v46.1.mods.length:Int)).bind λ v161=>
(wm ({ o143 with mods:=(o143.mods.set (v46.1.mods.length:Int).toNat ({ v161 with cached:=false })) }) (2:Int) s).bind λ v167=>
some (v167,(-1:Int)))
else((atI o143.mods (v46.1.mods.length:Int)).bind λ v172=>
(wm ({ o143 with mods:=(o143.mods.set (v46.1.mods.length:Int).toNat ({ v172 with done:=true })) }) (1:Int) s).bind λ v178=>
Option.bind (α:=Runner) ((xH v178 (zt s)).bind λ v184=>
if(cmpI .geq v184.2 (0:Int))=true then((qV s).bind λ v191=>
(xE v184.1 v184.2 v191 (⟨(1:Int),(v46.1.mods.length:Int)⟩:GVal)).bind λ v195=>
some v195)
else(some v184.1)) λ o181=>
some (o181,(v46.1.mods.length:Int)))))=some (rnr t path r.1 r.2.2,r.2.1):=by
 have sm:=RSt.small hsz (by decide);have hlr:=Xb (t:=t) h hp s;have hlf:=zao (t:=t) (path:=path) (st:=st) s;rw[specIn_eq hp h sm 0 hs,obS];unfold newF at hr;generalize xz t path st s=sp at*;by_cases hk:sp.kind=0
 ·
  rw[if_pos hk] at hr;injection hr with hr;subst hr;rw[if_pos (xK hk)];rfl
 ·
  rw[if_neg hk] at hr;have hbi:=h.begin (sp:=sp) hs hlr;have hbz:(st.begin s sp).size=st.size+2:=by unfold RSt.size RSt.begin;simp only[List.length_append,List.length_cons,List.length_nil];omega
  have hbm:(st.begin s sp).mods[st.mods.length]?=some ⟨s,sp.kind,sp.roots,true,false,[]⟩:=by unfold RSt.begin;simp
  obtain⟨q,hq,hb⟩:=run_ok (path:=path) hv hI hbi (by exact hn) st.mods.length sp;have hqs:=hb.size;rw[hq,obS] at hr;obtain⟨m,hm⟩:=hb.grow.at_ hbm;have hrun:=srun_eq hv hB hbi hbm (by exact hn) hle (by omega) hlf hq;rw[if_neg (by rw[xo hk];decide),show(rnr t path st 0).mods=st.mods from rfl,yQ (by have:=sm.mods;show(st.mods.length+1)*80<=_;omega) (by have:=sm.mods;show st.mods.length+1<=_;omega),obS,obS,
   show({ rnr t path st 0 with mods:=st.mods++[⟨s,sp.kind,sp.roots,true,false,[]⟩] }:Runner)=rnr t path (st.grown s sp) 0 from rfl,Q0 (st:=st.grown s sp) sm.log,obS,show(st.grown s sp).note 0 s=st.begin s sp from rfl]
  simp only;rw[hrun,obS,Int.toNat_natCast,show(rnr t path q.1 q.2).fin=q.2 from rfl,show(rnr t path q.1 q.2).mods=q.1.mods from rfl,zJ,hm,obS];have smq:=RSt.small (st:=q.1) (n:=20100) (by omega) (by decide);by_cases he:q.2=0
  ·
   rw[if_neg (by simp[he])] at hr;injection hr with hr;subst hr;rw[he,if_neg (by decide),obS];have hid:=hb.inv.done st.mods.length s;have hdz:(q.1.done st.mods.length s).size=q.1.size+1:=by unfold RSt.size RSt.done;simp only[qG,List.length_append,List.length_cons,List.length_nil];omega
   have hdn:RSt.note { q.1 with mods:=q.1.mods.set st.mods.length { m with done:=true } } 1 s=q.1.done st.mods.length s:=by unfold RSt.done;rw[Zj _ hm];rfl
   have hn2:=Q0 (t:=t) (path:=path) (st:={ q.1 with mods:=q.1.mods.set st.mods.length { m with done:=true } }) smq.log 0 1 s;rw[hdn] at hn2;refine(congrFun (congrArg Option.bind hn2) _).trans ?_;rw[obS,Yx (RSt.small (n:=20100) (by omega) (by decide)).mods,obS];unfold RSt.tell;rcases wz (q.1.done st.mods.length s) (zt s) with⟨h1,_⟩ | ⟨k,m2,h1,h2,h3,_⟩
   ·
    simp only;rw[h1,geq_m1,if_neg (show ¬ (false=true) by decide),if_neg (show ¬ (false=true) by decide),obS]
   ·
    simp only;rw[h1,j7,if_pos (show true=true from rfl),if_pos (show true=true from rfl),show qV s=some (xL s) from if_pos (wE hs).mid,obS,Xc hid h2,obS,obS,Int.toNat_natCast]
  ·
   rw[if_pos he] at hr;injection hr with hr;subst hr;have hdn:RSt.note { q.1 with mods:=q.1.mods.set st.mods.length { m with cached:=false } } 2 s=q.1.fail st.mods.length s:=by unfold RSt.fail;rw[Zj _ hm];rfl
   have hn2:=Q0 (t:=t) (path:=path) (st:={ q.1 with mods:=q.1.mods.set st.mods.length { m with cached:=false } }) smq.log q.2 2 s;rw[hdn] at hn2;rw[if_pos (Wy he)];refine(congrFun (congrArg Option.bind hn2) _).trans ?_;rfl
theorem simp_eq(hv:zH t=true)(hp:path.length<=1048576)(hI:qh n I)(hL:ImpEq t path n R I)(hB:SBodyEq t path n R I)(h:Inv st){s:Str}(hs:zf s=true)(hn:4*st.left.toNat+(zp s dot).length<=n+1)(hle:st.left<=1000000)(hsz:st.size<=20000){r:RSt×Int×Int}(hr:impF t path I st s=some r):
  jR R (rnr t path st 0) s=some (rnr t path r.1 r.2.2,r.2.1):=by
 have sm:=RSt.small hsz (by decide);have hpp:=qK s;have hpl:=wN hs;unfold impF at hr;unfold jR;rw[Yx sm.mods,obS];simp only;rcases wz st s with⟨h1,_⟩ | ⟨k,m,h1,h2,h3,_⟩
 ·
  rw[h1,if_neg (by decide)] at hr;rw[h1,if_neg (by decide),show xT s=some (zt s) from if_pos (wE hs).mid,obS];by_cases he:zt s=emptyS
  ·
   rw[if_pos he,obS,if_neg (by simp)] at hr;simp only at hr;rw[h1,if_neg (by decide)] at hr;have hd:decide (zt s≠(⟨[]⟩:Str))=false:=by rw[show zt s=(⟨[]⟩:Str) from he];rfl
   rw[hd,show(false == true)=false from rfl,Za,obS,Bool.false_and,if_neg (show ¬ (false=true) by decide),if_neg (show ¬ (false=true) by decide),Yx sm.mods,obS];simp only;rw[h1,if_neg (by decide)];exact imp_new hv hp hI hB h (by omega) hle (by omega) hs hr
  ·
   have he':¬ zt s=(⟨[]⟩:Str):=he;obtain⟨e1,e2⟩:=qt hs he;obtain⟨q,hq,hqp⟩:=hI st (zt s) h e2 (by omega);have hqs:=hqp.size;have hql:=hqp.grow.left;have hqi:=hqp.inv.left;have hl0:=h.left;have hld:=hL st (zt s) q h e2 (by omega) hsz hq;rw[if_neg he,hq,obS] at hr;have hd:decide (zt s≠(⟨[]⟩:Str))=true:=decide_eq_true he';rw[hd,show(true == true)=true from rfl,qr,hld,obS,Bool.true_and,if_pos (show true=true from rfl)];simp only;by_cases hz:q.2.2=0
   ·
    rw[if_neg (by simp[hz])] at hr;obtain⟨_,_,_,h0⟩:=hqp.good hz;rw[if_neg (by simp[cmpI];omega),hz,Yx (RSt.small (n:=20100) (by omega) (by decide)).mods,obS];simp only;rcases wz q.1 s with⟨k1,_⟩ | ⟨k,m,k1,k2,k3,_⟩
    ·
     rw[k1,if_neg (by decide)] at hr;rw[k1,if_neg (by decide)];exact imp_new hv hp hI hB hqp.inv (by omega) (by omega) (by omega) hs hr
    ·
     have smq:=RSt.small (st:=q.1) (n:=20100) (by omega) (by decide);rw[k1,if_pos (j7 k),Int.toNat_natCast] at hr;injection hr with hr;subst hr;rw[k1,if_pos (j7 k),Q0 smq.log,obS];rfl
   ·
    have hb:=hqp.bad hz;rw[if_pos hz] at hr;injection hr with hr;subst hr;rw[if_pos (by rw[hb];decide)]
 ·
  rw[h1,if_pos (j7 k),Int.toNat_natCast] at hr;injection hr with hr;subst hr;rw[h1,if_pos (j7 k),Q0 sm.log,obS];rfl
theorem sbody_of(hv:zH t=true)(hp:path.length<=1048576){k M:Nat}(hL:∀ j,ImpEq t path k (scc (M+j)) (imp t path k)):SBodyEq t path k (scc (M+4)) (imp t path k):=
 have hI:=Wr hv hp k;have hV:ValEq t path k (scc (M+1)) (imp t path k):=λ _ _ _ _ _ h hm hs hn hsz hv=>val_eq hp (hL 0) hI h hn hsz hm hs hv
 have hF:StEq t path k (scc (M+2)).spec_runFrom (imp t path k) (·=1):=λ _ _ _ _ _ h hm hx hk hn hsz hr=>from_eq hp hI (hL 1) hV h hn hsz hm hx hk hr
 have hS:StEq t path k (scc (M+2)).spec_runStar (imp t path k) (·=2):=λ _ _ _ _ _ h hm hx hk hn hsz hr=>star_eq hI (hL 1) h hn hsz hm hx hk hr
 have hD:StEq t path k (scc (M+3)).spec_runStmt (imp t path k) (λ _=>True):=λ _ _ _ _ _ h hm hx _ hn hsz hr=>sstmt_eq hI (hL 2) hF hS h hn hsz hm hx hr
 λ _ _ _ _ _ h hm hl hlen hn hle hsz hr=>sbody_eq hI hD h hm hl hlen hn hle hsz hr
theorem scc_imp(hv:zH t=true)(hp:path.length<=1048576):∀ (k N:Nat),5*k<=N->ImpEq t path k (scc N) (imp t path k)
 | 0,_,_=>λ _ _ _ _ _ _ _ hr=>by cases hr
 |
  k+1,N,hN=>λ st s r h hs hn hsz hr=>by
  obtain⟨M,rfl⟩:∃ M,N=M+5:=⟨N - 5,by omega⟩;exact simp_eq hv hp (Wr hv hp k) (scc_imp hv hp k (M+4) (by omega)) (sbody_of hv hp λ j=>scc_imp hv hp k (M+j) (by omega)) h hs hn (left_of h hsz (by decide)) hsz hr
open Go.RowKit
def st0:RSt:=⟨[],[],[],120,[]⟩
theorem st0_inv:Inv st0:=⟨(λ _ h=>by cases h),(λ _ h=>by cases h),(λ _ h=>by cases h),(λ _ h=>by cases h),by decide⟩
theorem st0_size:st0.size=12000:=rfl
def yt:Nat:=2420
variable{t:Tree}{path:List Int}{s:Str}
def ranR(t:Tree)(path:List Int)(s:Str):RSt×Int×Int:=(imp t path 483 st0 s).getD (st0,0,0)
theorem Qk(hv:zH t=true)(hp:path.length<=1048576)(hs:zf s=true):imp t path 483 st0 s=some (ranR t path s)/\ImpPost st0 s (ranR t path s)/\(ranR t path s).1.size<=12012:=by
 have hpl:=wN hs;obtain⟨r,hr,hk⟩:=Wr hv hp 483 st0 s st0_inv hs (by show 4*120+_<=_;omega);have:ranR t path s=r:=by unfold ranR;rw[hr];rfl
 rw[this];have h1:=hk.size;rw[st0_size] at h1;exact⟨hr,hk,by omega⟩
theorem zaJ(hv:zH t=true)(hp:path.length<=1048576)(hs:zf s=true):Z9 (scc yt) t path [s]=some (rnr t path (ranR t path s).1 (ranR t path s).2.2):=by
 have hpl:=wN hs;obtain⟨h1,_,_⟩:=Qk hv hp hs;have h2:=scc_imp hv hp 483 yt (by decide) st0 s _ st0_inv hs (by show 4*120+_<=_;omega) (by decide) h1;have h3:q6 (scc yt) (rnr t path st0 0) (⟨(0:Int),s⟩:GCmd)=some (rnr t path (ranR t path s).1 (ranR t path s).2.2,(ranR t path s).2.2):=by
  unfold q6;rw[if_pos (show cmpI .eql (⟨(0:Int),s⟩:GCmd).kind 0=true from rfl),show({ rnr t path st0 0 with fin:=(0:Int) }:Runner)=rnr t path st0 0 from rfl,h2];rfl
 have h4:zS (λ s11=>Zu (scc yt) [s] s11) (rnr t path st0 0,(0:Int))=some (rnr t path (ranR t path s).1 (ranR t path s).2.2):=by
  refine jT (m:=2) ?_ (by decide);rw[jL (s':=(rnr t path (ranR t path s).1 (ranR t path s).2.2,(1:Int)))]
  ·
   exact yK rfl
  ·
   unfold Zu;simp only;rw[if_pos (show cmpI .lss (0:Int) (([s]:List Str).length:Int)=true from rfl),show atI [s] (0:Int)=some s from rfl,obS,h3,obS];rfl
 unfold Z9;rw[show Zh t path 120=some (rnr t path st0 0) from rfl,obS,h4];rfl
theorem W7(ht:qm t)(hp:path.length<=1048576)(hn:sho s):wv (scc yt) t path s=some (if okG t path s=true then(⟨some (mach t path (ranR t path s).1)⟩,(ranR t path s).2.2) else(⟨none⟩,-1)):=by
 unfold wv;rw[YH ht,obS,YI hp,xy,obS,xk hn,xy,obS];have key:okG t path s=true->(xt t path 120).bind (λ v15=>((scc yt).impl_machine_load1 v15 s).bind λ v21=>some ((⟨some v21.1⟩:Np Machine),v21.2.2))=some (⟨some (mach t path (ranR t path s).1)⟩,(ranR t path s).2.2):=λ h=>by
  obtain⟨hv,_,hs⟩:=Y9 h;have hpl:=wN hs;obtain⟨h1,_,_⟩:=Qk hv hp hs;have h2:=W6 ⟨ht,hv⟩ hp 483 yt (by decide) st0 s _ st0_inv hs (by show 4*120+_<=_;omega) (by decide) h1;rw[show xt t path 120=some (mach t path st0) from rfl,obS,h2];rfl
 unfold okG at key ⊢;cases h1:zH t with
 | false=>rfl
 |
  true=>
  cases h2:yR path with
  | false=>rfl
  |
   true=>
   cases h3:zf s with
   | false=>rfl
   | true=>exact key (by rw[h1,h2,h3];rfl)
def evs(k:Int)(l:List GEvent):List Str:=(l.filter (λ e=>cmpI .eql e.kind k)).map (·.name)
theorem evs_fold(k:Int):∀ (l:List GEvent) (out:List Str),l.foldl (λ o e=>if cmpI .eql e.kind k=true then o++[e.name] else o) out=out++evs k l
 | [],out=>by simp[evs]
 |
  e::l,out=>by
  rw[List.foldl_cons,evs_fold k l];unfold evs;cases h:cmpI .eql e.kind k with
  | true=>rw[if_pos rfl,List.filter_cons_of_pos (by simpa using h)];simp
  | false=>rw[if_neg (by decide),List.filter_cons_of_neg (by simp[h])]
theorem evs_len(k:Int)(l:List GEvent):(evs k l).length<=l.length:=by
 unfold evs;rw[List.length_map];exact List.length_filter_le ..
theorem ev_loop{step:List Str×Int->Option ((List Str×Int)⊕List Str)}(k:Int)(l:List GEvent)(hl:l.length<=1048576)
  (h:∀ i out x,l[i]?=some x->i<l.length->out.length<=1048576->step (out,(i:Int))=some (.inl (if cmpI .eql x.kind k=true then out++[x.name] else out,((i+1:Nat):Int))))
  (hend:∀ out,step (out,(l.length:Int))=some (.inr out)):zS step (([]:List Str),(0:Int))=some (evs k l):=by
 have key:=Jk (step:=step) l (λ(o:List Str) i=>(o,(i:Int))) (λ o e=>if cmpI .eql e.kind k=true then o++[e.name] else o) (λ o=>o) (λ i o=>o.length<=i)
  (λ i o e he hi ho=>⟨h i o e he hi (by omega),by
   split
   ·
    rw[List.length_append];show o.length+1<=_;omega
   ·
    omega⟩) (λ o _=>hend o) (s0:=[]) (Nat.zero_le _) (by omega)
 rw[evs_fold,List.nil_append] at key;exact key
def logV(t:Tree)(path:List Int)(s:Str):List GEvent:=(ranR t path s).1.log
theorem Jo(hv:zH t=true)(hp:path.length<=1048576)(hs:zf s=true):(logV t path s).length<=12012:=by
 have:=(Qk hv hp hs).2.2;unfold RSt.size at this;unfold logV;omega
def evV(k:Int)(t:Tree)(path:List Int)(s:Str):List Str:=if okG t path s=true then evs k (logV t path s) else[]
theorem evV_len(hp:path.length<=1048576)(k:Int):(evV k t path s).length<=12012:=by
 unfold evV;split
 ·
  rename_i h;obtain⟨hv,_,hs⟩:=Y9 h;have h1:=evs_len k (logV t path s);have h2:=Jo hv hp hs;omega
 ·
  exact Nat.zero_le _
theorem JS(ht:qm t)(hp:path.length<=1048576)(hn:sho s)(k:Int):wS (scc yt) t path s k=some (evV k t path s):=by
 unfold wS;rw[W7 ht hp hn,obS];unfold evV;cases h:okG t path s with
 | false=>rfl
 |
  true=>
  obtain⟨hv,_,hs⟩:=Y9 h;have hll:=Jo hv hp hs;have hl:zS (λ s13=>xP (scc yt) k (mach t path (ranR t path s).1) s13) (([]:List Str),(0:Int))=some (evs k (logV t path s)):=by
   refine ev_loop k (logV t path s) (by omega) (λ i out x hx hi ho=>?_) (λ out=>?_)
   ·
    unfold xP;simp only;rw[show(mach t path (ranR t path s).1).log=logV t path s from rfl,zE,if_pos (decide_eq_true hi),zJ,hx,obS,zR (by omega)];cases hk:cmpI .eql x.kind k with
    | true=>rw[if_pos rfl,yQ (by show(out.length+1)*16<=_;omega) (by show out.length+1<=_;omega)];rfl
    | false=>rfl
   ·
    unfold xP;simp only;rw[show(mach t path (ranR t path s).1).log=logV t path s from rfl,zE,if_neg (by simp)]
  rw[if_pos rfl,if_pos rfl];simp only;rw[if_pos (show(some (mach t path (ranR t path s).1)).isSome=true from rfl),obS,hl];rfl
theorem JT(ht:qm t)(hp:path.length<=1048576)(hn:sho s):xu (scc yt) t path s=some (evV 0 t path s):=by
 unfold xu;rw[JS ht hp hn];rfl
def ZN(t:Tree)(path:List Int)(s:Str):Str:=(evV 2 t path s).headD emptyS
theorem zaX(ht:qm t)(hp:path.length<=1048576)(hn:sho s):wY (scc yt) t path s=some (ZN t path s):=by
 unfold wY ZN;rw[JS ht hp hn,obS];cases evV 2 t path s with
 | nil=>rfl
 | cons a l=>rw[if_neg (by simp[cmpI];omega)];rfl
theorem runL_find{α β:Type}(p:α->Bool)(f:α->β)(e:β):∀ (k:Nat) (xs:List α),runL (λ _ (_:Unit) x=>match (if p x=true then some (f x) else none) with | none=>.inl () | some b=>.inr b) (λ _=>e) k () xs=((xs.filter p).map f).headD e
 | _,[]=>rfl
 |
  k,x::xs=>by
  cases h:p x with
  | true=>simp[runL,h]
  | false=>simp only[runL,h,Bool.false_eq_true,if_false];rw[runL_find p f e (k+1) xs,List.filter_cons_of_neg (by simp[h])]
theorem W8(ht:qm t)(hp:path.length<=1048576)(hn:sho s):wl (scc yt) t path s=some (ZN t path s):=by
 unfold wl;refine okG_cases t path s ht hn (λ h=>by unfold ZN evV;rw[h];rfl) λ h=>?_
 obtain⟨hv,_,hs⟩:=Y9 h;have hll:=Jo hv hp hs;have hl:=zah (step:=λ s17=>xj (scc yt) (rnr t path (ranR t path s).1 (ranR t path s).2.2) s17) (logV t path s) (λ _ x=>if cmpI .eql x.kind 2=true then some (Sum.inr x.name:Unit⊕Str) else none) (Sum.inl ()) (λ k x hx hlt=>by
   unfold xj;rw[show(rnr t path (ranR t path s).1 (ranR t path s).2.2).log=logV t path s from rfl,zE,if_pos (decide_eq_true hlt),zJ,hx,obS,obS,zR (by omega)];cases cmpI .eql x.kind 2 <;> rfl) (by
   unfold xj;rw[show(rnr t path (ranR t path s).1 (ranR t path s).2.2).log=logV t path s from rfl,zE,if_neg (by simp)]) (by omega) (s:=0) rfl
 have hl2:=hl.trans (congrArg some (runL_find (λ x:GEvent=>cmpI .eql x.kind 2) (λ x=>(Sum.inr x.name:Unit⊕Str)) (Sum.inl ()) 0 (logV t path s)));rw[zaJ hv hp hs,obS,hl2,obS];unfold ZN evV;rw[if_pos h];unfold evs;cases(logV t path s).filter (λ e=>cmpI .eql e.kind 2) <;> rfl
open Go.RowKit
def remF(l:List Str)(x:Str):List Str:=l.take (yB (λ y=>decide (y=x)) l).toNat++l.drop ((yB (λ y=>decide (y=x)) l).toNat+1)
theorem remF_last{g:List Str}{s:Str}(h:s ∉ g):yB (λ y=>decide (y=s)) (g++[s])=(g.length:Int)/\remF (g++[s]) s=g:=by
 have e:yB (λ y=>decide (y=s)) (g++[s])=(g.length:Int):=by
  refine idx_hit (x:=s) ?_ (by simp) (by simp);rw[List.take_left,List.any_eq_false];intro x hx hd;have:x=s:=by simpa using hd
  rw[this] at hx;exact h hx
 refine⟨e,?_⟩;unfold remF;rw[e,Int.toNat_natCast,List.take_left,List.drop_eq_nil_of_le (by simp),List.append_nil]
def pst(s:List Str×List Str)(e:GEvent):Option (List Str×List Str):=
 if e.kind=0 then some (s.1,s.2++[e.name])
 else if e.kind=1\/e.kind=2 then(if e.name∈s.2 then some (s.1,remF s.2 e.name) else none)
 else if e.kind=3 then some (if e.name∈s.2/\e.name ∉ s.1 then(s.1++[e.name],s.2) else s)
 else some s
def Wz(l:List GEvent)(s:List Str×List Str):Option (List Str×List Str):=l.foldlM pst s
theorem Jp(l m:List GEvent)(s:List Str×List Str):Wz (l++m) s=(Wz l s).bind (Wz m):=by unfold Wz;rw[List.foldlM_append];rfl
theorem Jq(e:GEvent)(s:List Str×List Str):Wz [e] s=pst s e:=by
 unfold Wz;rw[List.foldlM_cons];show(pst s e).bind (λ s=>some s)=_;cases pst s e <;> rfl
abbrev Flag:=Str×Bool×Bool
def yX(st:RSt):List Flag:=st.mods.map λ m=>(m.name,m.cached,m.done)
structure PI(g:List Str)(st:RSt):Prop where
 fold:Wz st.log ([],[])=some (st.part,g)
 mem:∀ s,s∈g ↔ (s,true,false)∈yX st
 uniq:∀ (i j:Nat) (s:Str) (d d':Bool),(yX st)[i]?=some (s,true,d)->(yX st)[j]?=some (s,true,d')->i=j
def Keep(a b:RSt):Prop:=∃ l,yX b=yX a++l
theorem Keep.refl(a:RSt):Keep a a:=⟨[],by simp⟩
theorem Keep.trans{a b c:RSt}(h:Keep a b)(k:Keep b c):Keep a c:=by
 obtain⟨l,h⟩:=h;obtain⟨m,k⟩:=k;exact⟨l++m,by rw[k,h,List.append_assoc]⟩
theorem updA_map{α β:Type}(l:List α)(k:Nat)(f:α->α)(g:α->β)(h:∀ x,g (f x)=g x):(updA l k f).map g=l.map g:=by
 unfold updA;split
 ·
  rename_i x hx;rw[List.map_set,h];apply List.ext_getElem?;intro i;by_cases e:k=i
  ·
   subst e;rw[List.getElem?_set_self (by rw[List.length_map];exact zv hx),List.getElem?_map,hx];rfl
  ·
   rw[List.getElem?_set_ne e]
 ·
  rfl
theorem flags_give(st:RSt)(k:Nat)(s:Str)(v:GVal):yX (st.give k s v)=yX st:=updA_map _ _ _ _ λ _=>rfl
theorem PI.same{g:List Str}{a b:RSt}(h:PI g a)(h1:b.log=a.log)(h2:b.part=a.part)(h3:yX b=yX a):PI g b:=⟨by rw[h1,h2];exact h.fold,by rw[h3];exact h.mem,by rw[h3];exact h.uniq⟩
def Nice(a b:RSt):Prop:=Keep a b/\∀ g,PI g a->PI g b
theorem Nice.refl(a:RSt):Nice a a:=⟨Keep.refl a,λ _ h=>h⟩
theorem Nice.trans{a b c:RSt}(h:Nice a b)(k:Nice b c):Nice a c:=⟨h.1.trans k.1,λ g p=>k.2 g (h.2 g p)⟩
theorem Nice.of{a b:RSt}(h1:b.log=a.log)(h2:b.part=a.part)(h3:yX b=yX a):Nice a b:=⟨⟨[],by rw[h3,List.append_nil]⟩,λ _ h=>h.same h1 h2 h3⟩
theorem Nice.give(st:RSt)(k:Nat)(s:Str)(v:GVal):Nice st (st.give k s v):=Nice.of rfl rfl (flags_give ..)
theorem Nice.tell(st:RSt)(k:Nat)(s:Str):Nice st (st.tell k s):=by
 unfold RSt.tell;split
 ·
  exact Nice.give ..
 ·
  exact Nice.refl _
theorem Nice.star(k:Nat):∀ (l:List GAttr) (st:RSt),Nice st (W3 k l st)
 | [],st=>Nice.refl st
 |
  a::l,st=>by
  unfold W3;rw[List.foldl_cons];split
  ·
   exact Nice.star k l st
  ·
   exact(Nice.give st k a.name a.value).trans (Nice.star k l _)
theorem flag_at{st:RSt}{k:Nat}{m:GMod}(h:st.mods[k]?=some m):(yX st)[k]?=some (m.name,m.cached,m.done):=by unfold yX;rw[List.getElem?_map,h];rfl
theorem Nice.hit{st:RSt}{k:Nat}{m:GMod}(hm:st.mods[k]?=some m)(hc:m.cached=true):Nice st (st.hit k m.name):=by
 refine⟨⟨[],by rw[List.append_nil];rfl⟩,λ g h=>⟨?_,h.mem,h.uniq⟩⟩;have hf:=flag_at hm;rw[hc] at hf;have hd:st.doneAt k=m.done:=by unfold RSt.doneAt;rw[hm];rfl
 have hg:st.doneAt k=false ↔ m.name∈g:=by
  rw[hd,h.mem];constructor
  ·
   intro e;rw[e] at hf;exact List.mem_of_getElem? hf
  ·
   intro e;obtain⟨j,hj⟩:=List.getElem?_of_mem e;have:=h.uniq k j m.name m.done false hf hj;subst this;rw[hf] at hj;injection hj with hj;injection hj with _ hj;injection hj
 show Wz (st.log++[⟨3,m.name⟩]) ([],[])=_;rw[Jp,h.fold,obS,Jq];unfold pst RSt.hit;rw[if_neg (by simp),if_neg (by simp),if_pos rfl];by_cases hc2:st.doneAt k=false/\m.name ∉ st.part
 ·
  rw[if_pos ⟨hg.1 hc2.1,hc2.2⟩];simp only;rw[if_pos hc2]
 ·
  rw[if_neg (λ e=>hc2 ⟨hg.2 e.1,e.2⟩)];simp only;rw[if_neg hc2]
theorem PI.begin{g:List Str}{st:RSt}(h:PI g st){s:Str}(hc:cix st s=-1)(sp:Spec):PI (g++[s]) (st.begin s sp)/\yX (st.begin s sp)=yX st++[(s,true,false)]/\s ∉ g:=by
 have hno:∀ d,(s,true,d) ∉ yX st:=λ d hd=>by
  unfold yX at hd;obtain⟨m,hm,e⟩:=List.mem_map.1 hd;rcases wz st s with⟨_,k2⟩ | ⟨k,_,k1,_⟩
  ·
   have:=k2 m hm;injection e with e1 e2;injection e2 with e2 _;unfold hits at this;rw[e1,e2] at this;simp at this
  ·
   rw[hc] at k1;omega
 have hf:yX (st.begin s sp)=yX st++[(s,true,false)]:=by unfold yX RSt.begin;simp
 refine⟨⟨?_,λ x=>?_,λ i j x d d' h1 h2=>?_⟩,hf,λ e=>hno false ((h.mem s).1 e)⟩
 ·
  show Wz (st.log++[⟨0,s⟩]) ([],[])=_;rw[Jp,h.fold,obS,Jq];rfl
 ·
  rw[hf,List.mem_append,List.mem_append,h.mem x];simp
 ·
  rw[hf] at h1 h2;by_cases i1:i<(yX st).length
  ·
   rw[List.getElem?_append_left i1] at h1;by_cases j1:j<(yX st).length
   ·
    rw[List.getElem?_append_left j1] at h2;exact h.uniq i j x d d' h1 h2
   ·
    rw[List.getElem?_append_right (by omega)] at h2;have hj:j - (yX st).length=0:=by have:=zv h2;simp at this;omega
    rw[hj] at h2;simp at h2;exact absurd (List.mem_of_getElem? (h2.1 ▸ h1)) (hno d)
  ·
   rw[List.getElem?_append_right (by omega)] at h1;have hi:i - (yX st).length=0:=by have:=zv h1;simp at this;omega
   by_cases j1:j<(yX st).length
   ·
    rw[List.getElem?_append_left j1] at h2;rw[hi] at h1;simp at h1;exact absurd (List.mem_of_getElem? (h1.1 ▸ h2)) (hno d')
   ·
    rw[List.getElem?_append_right (by omega)] at h2;have hj:j - (yX st).length=0:=by have:=zv h2;simp at this;omega
    omega
theorem PI.stop{g:List Str}{q b:RSt}{F l:List Flag}{s:Str}{c d:Bool}(h:PI (g++[s]) q)(hg:s ∉ g)(hq:yX q=F++(s,true,false)::l)(hb:yX b=F++(s,c,d)::l)(hcd:(c,d)≠(true,false)){k:Int}(hk:k=1\/k=2)(hl:b.log=q.log++[⟨k,s⟩])(hp:b.part=q.part):PI g b:=by
 have hat:(yX q)[F.length]?=some (s,true,false):=by rw[hq];simp
 have hget:∀ i,i≠F.length->(yX b)[i]?=(yX q)[i]?:=λ i hi=>by
  rw[hb,hq];by_cases h1:i<F.length
  ·
   rw[List.getElem?_append_left h1,List.getElem?_append_left h1]
  ·
   rw[List.getElem?_append_right (by omega),List.getElem?_append_right (by omega)];obtain⟨n,hn⟩:∃ n,i - F.length=n+1:=⟨i - F.length - 1,by omega⟩;rw[hn];rfl
 have hbt:(yX b)[F.length]?=some (s,c,d):=by rw[hb];simp
 refine⟨?_,λ x=>?_,λ i j x e e' h1 h2=>?_⟩
 ·
  rw[hl,hp,Jp,h.fold,obS,Jq];unfold pst;simp only;rw[if_neg (by rcases hk with hk | hk <;> rw[hk] <;> decide),if_pos (by rcases hk with hk | hk <;> rw[hk] <;> decide),if_pos (by simp),(remF_last hg).2]
 ·
  constructor
  ·
   intro hx;obtain⟨i,hi⟩:=List.getElem?_of_mem ((h.mem x).1 (List.mem_append_left _ hx));have hne:i≠F.length:=λ e=>by
    rw[e,hat] at hi;injection hi with hi;injection hi with hi _;rw[hi] at hg;exact hg hx
   rw[← hget i hne] at hi;exact List.mem_of_getElem? hi
  ·
   intro hx;obtain⟨i,hi⟩:=List.getElem?_of_mem hx;have hne:i≠F.length:=λ e=>by
    rw[e,hbt] at hi;injection hi with hi;injection hi with _ hi;exact hcd hi
   rw[hget i hne] at hi;have:=(h.mem x).2 (List.mem_of_getElem? hi);rcases List.mem_append.1 this with h1 | h1
   ·
    exact h1
   ·
    simp only[List.mem_singleton] at h1;subst h1;exact absurd (h.uniq i F.length x false false hi hat) hne
 ·
  have key:∀ (i:Nat) (e:Bool),(yX b)[i]?=some (x,true,e)->∃ e2,(yX q)[i]?=some (x,true,e2):=λ i e hi=>by
   by_cases hne:i=F.length
   ·
    rw[hne,hbt] at hi;injection hi with hi;injection hi with hi _;rw[hne,hat,hi];exact⟨_,rfl⟩
   ·
    rw[hget i hne] at hi;exact⟨_,hi⟩
  obtain⟨_,k1⟩:=key i e h1;obtain⟨_,k2⟩:=key j e' h2;exact h.uniq i j x _ _ k1 k2
open Go.RowKit
variable{t:Tree}{path:List Int}{st:RSt}{I:RImp}
def NI(I:RImp):Prop:=∀ (st:RSt) (s:Str) (r:RSt×Int×Int),I st s=some r->Nice st r.1
theorem nice_value(hI:NI I){k:Nat}{s:Str}{v:RSt×GVal×Int}(h:Yb t path I st k s=some v):Nice st v.1:=by
 unfold Yb at h;split at h
 ·
  injection h with h;subst h;exact Nice.refl _
 ·
  split at h
  ·
   injection h with h;subst h;exact Nice.refl _
  ·
   split at h
   ·
    injection h with h;subst h;exact Nice.refl _
   ·
    cases hq:I st (child (st.nameAt k) s) with
    | none=>rw[hq] at h;cases h
    |
     some q=>
     rw[hq,obS] at h;injection h with h;subst h;exact hI _ _ _ hq
theorem nice_stmt(hI:NI I){k:Nat}{x:Stmt}{r:RSt×Int}(h:jB t path I st k x=some r):Nice st r.1:=by
 unfold jB at h;split at h
 ·
  cases hq:I st x.module with
  | none=>rw[hq] at h;cases h
  |
   some q=>
   rw[hq,obS] at h;have hn:=hI _ _ _ hq;split at h
   ·
    injection h with h;subst h;exact hn
   ·
    split at h
    ·
     injection h with h;subst h;exact hn
    ·
     injection h with h;subst h;exact hn.trans (Nice.give ..)
 ·
  split at h
  ·
   split at h
   ·
    injection h with h;subst h;exact Nice.refl _
   ·
    cases hq:I st (qF (Xt st k) x.level x.module) with
    | none=>rw[hq] at h;cases h
    |
     some q=>
     rw[hq,obS] at h;have hn:=hI _ _ _ hq;split at h
     ·
      injection h with h;subst h;exact hn
     ·
      cases hv:Yb t path I q.1 q.2.1.toNat x.name with
      | none=>rw[hv] at h;cases h
      |
       some v=>
       rw[hv,obS] at h;have hn2:=nice_value hI hv;split at h
       ·
        injection h with h;subst h;exact hn.trans hn2
       ·
        injection h with h;subst h;exact hn.trans (hn2.trans (Nice.give ..))
  ·
   split at h
   ·
    cases hq:I st x.module with
    | none=>rw[hq] at h;cases h
    |
     some q=>
     rw[hq,obS] at h;have hn:=hI _ _ _ hq;split at h
     ·
      injection h with h;subst h;exact hn
     ·
      injection h with h;subst h;exact hn.trans (Nice.star ..)
   ·
    split at h
    ·
     injection h with h;subst h;exact Nice.give ..
    ·
     split at h
     ·
      split at h
      ·
       injection h with h;subst h;exact Nice.refl _
      ·
       injection h with h;subst h;exact Nice.of rfl rfl rfl
     ·
      split at h
      ·
       injection h with h;subst h;exact Nice.refl _
      ·
       injection h with h;subst h;exact Nice.refl _
theorem nice_body(hI:NI I)(k:Nat):∀ (l:List Stmt) (st:RSt) (r:RSt×Int),Yw t path I k l st=some r->Nice st r.1
 |
  [],st,r,h=>by
  unfold Yw at h;injection h with h;subst h;exact Nice.refl _
 |
  x::l,st,r,h=>by
  unfold Yw at h;split at h
  ·
   injection h with h;subst h;exact Nice.refl _
  ·
   have h0:Nice st st.tick:=Nice.of rfl rfl rfl;cases hq:jB t path I st.tick k x with
   | none=>rw[show jB t path I { st with left:=st.left - 1 } k x=none from hq] at h;cases h
   |
    some q=>
    rw[show jB t path I { st with left:=st.left - 1 } k x=some q from hq,obS] at h;have hn:=nice_stmt hI hq;split at h
    ·
     injection h with h;subst h;exact h0.trans hn
    ·
     exact h0.trans (hn.trans (nice_body hI k l q.1 r h))
theorem nice_run(hI:NI I){k:Nat}{sp:Spec}{r:RSt×Int}(h:runF t path I st k sp=some r):Nice st r.1:=by
 unfold runF at h;split at h
 ·
  exact nice_body hI k _ _ _ h
 ·
  injection h with h;subst h;exact Nice.refl _
theorem flags_upd{q:RSt}{k:Nat}{m:GMod}(hm:q.mods[k]?=some m)(f:GMod->GMod):(updA q.mods k f).map (λ m=>((m.name,m.cached,m.done):Flag))=(yX q).set k ((f m).name,(f m).cached,(f m).done):=by
 rw[Zj f hm,List.map_set];rfl
theorem nice_new(hI:NI I){s:Str}{sp:Spec}(hc:cix st s=-1){r:RSt×Int×Int}(h:newF t path I st s sp=some r):Nice st r.1:=by
 unfold newF at h;split at h
 ·
  injection h with h;subst h;exact Nice.refl _
 ·
  cases hq:runF t path I (st.begin s sp) st.mods.length sp with
  | none=>rw[hq] at h;cases h
  |
   some q=>
   rw[hq,obS] at h;obtain⟨⟨l,hl⟩,hpi⟩:=nice_run hI hq;have hfb:yX (st.begin s sp)=yX st++[(s,true,false)]:=by unfold yX RSt.begin;simp
   have hfl:(yX st).length=st.mods.length:=by unfold yX;simp
   have hfq:yX q.1=yX st++(s,true,false)::l:=by rw[hl,hfb,List.append_assoc];rfl
   obtain⟨m,hm⟩:∃ m,q.1.mods[st.mods.length]?=some m:=by
    have h1:(yX q.1)[st.mods.length]?=some (s,true,false):=by rw[hfq,← hfl];simp
    unfold yX at h1;rw[List.getElem?_map] at h1;cases hx:q.1.mods[st.mods.length]? with
    | none=>rw[hx] at h1;cases h1
    | some m=>exact⟨m,rfl⟩
   have hmf:=flag_at hm;rw[hfq,← hfl] at hmf;simp at hmf;have hset:∀ (c d:Bool),(yX q.1).set st.mods.length (s,c,d)=yX st++(s,c,d)::l:=λ c d=>by
    rw[hfq,← hfl];simp
   have done_:∀ {b:RSt} {c d:Bool} {k:Int},yX b=yX st++(s,c,d)::l->(c,d)≠(true,false)->(k=1\/k=2)->b.log=q.1.log++[⟨k,s⟩]->b.part=q.1.part->Nice st b:=λ{b c d k} h1 h2 h3 h4 h5=>⟨⟨_,h1⟩,λ g hg=>by
    obtain⟨hb1,_,hb3⟩:=hg.begin hc sp;exact PI.stop (hpi _ hb1) hb3 hfq h1 h2 h3 h4 h5⟩
   split at h
   ·
    injection h with h;subst h;refine done_ (b:=q.1.fail st.mods.length s) (c:=false) (d:=false) (k:=2) ?_ (by simp) (.inr rfl) rfl rfl;rw[← hset];refine(flags_upd hm (λ m=>{ m with cached:=false })).trans ?_;simp only;rw[← hmf.1,← hmf.2.2]
   ·
    injection h with h;subst h;refine Nice.trans (b:=q.1.done st.mods.length s) ?_ (Nice.tell ..);refine done_ (b:=q.1.done st.mods.length s) (c:=true) (d:=true) (k:=1) ?_ (by simp) (.inl rfl) rfl rfl;rw[← hset];refine(flags_upd hm (λ m=>{ m with done:=true })).trans ?_;simp only;rw[← hmf.1,← hmf.2.1]
theorem nice_imp:∀ n,NI (imp t path n)
 | 0=>λ _ _ _ h=>by cases h
 |
  n+1=>λ st s r h=>by
  unfold imp impF at h;have hhit:∀ {a:RSt} {r:RSt×Int×Int},cmpI .geq (cix a s) 0=true->some (a.hit (cix a s).toNat s,cix a s,(0:Int))=some r->Nice a r.1:=λ{a r} hc h=>by
   injection h with h;subst h;rcases wz a s with⟨k1,_⟩ | ⟨k,m,k1,k2,k3,k4⟩
   ·
    rw[k1] at hc;cases hc
   ·
    rw[k1,Int.toNat_natCast,← k3];exact Nice.hit k2 k4
  have hneg:∀ {a:RSt},¬ cmpI .geq (cix a s) 0=true->cix a s=-1:=λ{a} hc=>by
   rcases wz a s with⟨k1,_⟩ | ⟨k,m,k1,_⟩
   ·
    exact k1
   ·
    rw[k1] at hc;exact absurd (j7 k) hc
  split at h
  ·
   rename_i hc;exact hhit hc h
  ·
   rename_i hc;have tail:∀ {q:RSt×Int×Int},Nice st q.1->(if q.2.2≠0 then some (q.1,(-1:Int),q.2.2) else if cmpI .geq (cix q.1 s) 0=true then some (q.1.hit (cix q.1 s).toNat s,cix q.1 s,(0:Int)) else newF t path (imp t path n) q.1 s (xz t path q.1 s))=some r->Nice st r.1:=λ{q} hn h=>by
    split at h
    ·
     injection h with h;subst h;exact hn
    ·
     split at h
     ·
      rename_i hc2;exact hn.trans (hhit hc2 h)
     ·
      rename_i hc2;exact hn.trans (nice_new (nice_imp n) (hneg hc2) h)
   split at h
   ·
    rw[obS] at h;exact tail (q:=(st,0,0)) (Nice.refl _) h
   ·
    cases hq:imp t path n st (zt s) with
    | none=>rw[hq] at h;cases h
    |
     some q=>
     rw[hq,obS] at h;exact tail (nice_imp n _ _ _ hq) h
theorem PI_st0:PI [] st0:=⟨rfl,λ s=>by simp[yX,st0],λ i j s d d' h _=>by simp[yX,st0] at h⟩
variable{s:Str}
theorem ran_fold(hv:zH t=true)(hp:path.length<=1048576)(hs:zf s=true):Wz (logV t path s) ([],[])=some ((ranR t path s).1.part,[]):=
 ((nice_imp 483 _ _ _ (Qk hv hp hs).1).2 [] PI_st0).fold
def Xd(t:Tree)(path:List Int)(s:Str):List Str:=if okG t path s=true then(ranR t path s).1.part else[]
theorem partV_len(hp:path.length<=1048576):(Xd t path s).length<=12012:=by
 unfold Xd;split
 ·
  rename_i h;obtain⟨hv,_,hs⟩:=Y9 h;have:=(Qk hv hp hs).2.2;unfold RSt.size at this;omega
 ·
  exact Nat.zero_le _
theorem zbq(ht:qm t)(hp:path.length<=1048576)(hn:sho s):jw (scc yt) t path s=some (Xd t path s):=by
 have hl:=partV_len (t:=t) (s:=s) hp;unfold jw;rw[W7 ht hp hn,obS];unfold Xd at hl ⊢;cases h:okG t path s with
 | false=>rfl
 |
  true=>
  rw[h] at hl;rw[if_pos rfl] at hl;rw[if_pos rfl,if_pos rfl];simp only;rw[if_neg (by simp),obS,show(mach t path (ranR t path s).1).part=(ranR t path s).1.part from rfl,yQ (by simp;omega) (by simp;omega),obS,List.nil_append]
theorem textAt_eq{l:List Str}{x:Str}(h:l.length<=1048576):jW l x=some (yB (λ y=>decide (y=x)) l):=by
 unfold jW;have hl:zS (λ s4=>yS l x s4) 0=some (match l.findIdx? (λ y=>decide (y=x)) with | some i=>(Sum.inr (i:Int):Unit⊕Int) | none=>Sum.inl ()):=by
  refine Zv l (λ y=>decide (y=x)) (λ i=>Sum.inr i) _ (λ k y hx hlt=>?_) ?_ (by omega) rfl
  ·
   unfold yS;rw[zE,if_pos (decide_eq_true hlt),zJ,hx,obS,zR (by omega)];cases decide (y=x) <;> rfl
  ·
   unfold yS;rw[zE,if_neg (by simp)]
 rw[hl];unfold yB;cases l.findIdx? (λ y=>decide (y=x)) <;> rfl
theorem pst_len{s r:List Str×List Str}{e:GEvent}(h:pst s e=some r):r.1.length<=s.1.length+1/\r.2.length<=s.2.length+1:=by
 unfold pst at h;split at h
 ·
  injection h with h;subst h;simp
 ·
  split at h
  ·
   split at h
   ·
    injection h with h;subst h;unfold remF;simp only[List.length_append,List.length_take,List.length_drop];omega
   ·
    cases h
  ·
   split at h
   ·
    injection h with h;subst h;split
    ·
     simp
    ·
     omega
   ·
    injection h with h;subst h;omega
theorem pst_step{R:Rec}{x:Runner}{i:Nat}{e:GEvent}(he:x.log[i]?=some e)(hi:i<1048576){s r:List Str×List Str}(h1:s.1.length<=1048576)(h2:s.2.length<=1048576)(h:pst s e=some r):yD R x (s.1,s.2,(i:Int))=some (.inl (r.1,r.2,((i+1:Nat):Int))):=by
 have hlt:=zv he;have a1:∀ (l:List Str) (y:Str),l.length<=1048576->appO 16 l [y]=some (l++[y]):=λ l y hl=>yQ (by show(l.length+1)*16<=_;omega) (by show l.length+1<=_;omega)
 unfold yD;simp only;rw[zE,if_pos (decide_eq_true hlt),zJ,he,obS];unfold pst at h;by_cases k0:e.kind=0
 ·
  rw[if_pos k0] at h;injection h with h;subst h;rw[if_pos (xK k0),a1 _ _ h2,obS,obS,zR (by omega)];rfl
 ·
  rw[if_neg k0] at h;rw[if_neg (by rw[xo k0];decide)];have ho:(if cmpI .eql e.kind (1:Int)=true then(some (cmpI .eql e.kind (1:Int))) else(some (cmpI .eql e.kind (2:Int))))=some (decide (e.kind=1\/e.kind=2)):=by
   by_cases k1:e.kind=1
   ·
    rw[if_pos (xK k1),xK k1];simp[k1]
   ·
    rw[if_neg (by rw[xo k1];decide)];simp[cmpI,k1];rfl
  rw[ho,obS];by_cases k12:e.kind=1\/e.kind=2
  ·
   rw[if_pos k12] at h;rw[if_pos (decide_eq_true k12)];by_cases hm:e.name∈s.2
   ·
    rw[if_pos hm] at h;injection h with h;subst h;rcases W4 (λ y=>decide (y=e.name)) s.2 with⟨_,k2⟩ | ⟨j,y,k1,k2,_⟩
    ·
     have:=k2 _ hm;simp at this
    ·
     have hj:=zv k2;rw[textAt_eq h2,obS,k1,Jj (by omega),obS,yQ (by simp;omega) (by simp;omega),obS,zR (by omega),obS,
      show sliLO s.2 ((j+1:Nat):Int)=some (s.2.drop (j+1)) by unfold sliLO;rw[if_pos ⟨by omega,by omega⟩];rfl,obS,yQ (by simp;omega) (by simp;omega),obS,obS,zR (by omega)]
     unfold remF;rw[k1];simp
   ·
    rw[if_neg hm] at h;cases h
  ·
   rw[if_neg k12] at h;rw[if_neg (by simpa using k12)];by_cases k3:e.kind=3
   ·
    rw[if_pos k3] at h;injection h with h;subst h;rw[if_pos (xK k3),Wx h2,obS,Wx h1,xy,obS];by_cases hm:e.name∈s.2
    ·
     by_cases hm2:e.name∈s.1
     ·
      rw[if_neg (by simp[hm,hm2]),if_neg (λ c=>c.2 hm2),obS,zR (by omega)];rfl
     ·
      rw[if_pos (by simp[hm,hm2]),if_pos ⟨hm,hm2⟩,a1 _ _ h1,obS,obS,zR (by omega)];rfl
    ·
     rw[if_neg (by simp[hm]),if_neg (λ c=>hm c.1),obS,zR (by omega)];rfl
   ·
    rw[if_neg k3] at h;injection h with h;subst h;rw[if_neg (by rw[xo k3];decide),obS,zR (by omega)];rfl
theorem part_loop{R:Rec}{x:Runner}(hl:x.log.length<=1000000){T:List Str×List Str}(h:Wz x.log ([],[])=some T):zS (λ s19=>yD R x s19) ([],[],(0:Int))=some T.1:=by
 have key:∀ (m i:Nat) (s:List Str×List Str),i+m=x.log.length->s.1.length<=i->s.2.length<=i->Wz (x.log.drop i) s=some T->jA (λ s19=>yD R x s19) (m+1) (s.1,s.2,(i:Int))=some T.1:=by
  intro m
  induction m with
  |
   zero=>
   intro i s hi _ _ hf;have:i=x.log.length:=by omega
   subst this;rw[List.drop_length] at hf;injection hf with hf;subst hf;refine yK ?_;unfold yD;simp only;rw[zE,if_neg (by simp)]
  |
   succ m ih=>
   intro i s hi h1 h2 hf;have hlt:i<x.log.length:=by omega
   have hx:x.log[i]?=some x.log[i]:=List.getElem?_eq_getElem hlt;rw[List.drop_eq_getElem_cons hlt,show ∀ (e:GEvent) (l:List GEvent),e::l=[e]++l from λ _ _=>rfl,Jp,Jq] at hf;cases hq:pst s x.log[i] with
   | none=>rw[hq] at hf;cases hf
   |
    some q=>
    rw[hq,obS] at hf;have hql:=pst_len hq;rw[jL (pst_step hx (by omega) (by omega) (by omega) hq)];exact ih (i+1) q (by omega) (by omega) (by omega) hf
 exact jT (key x.log.length 0 ([],[]) (by omega) (Nat.le_refl _) (Nat.le_refl _) (by rw[List.drop_zero];exact h)) (by omega)
theorem Jx(ht:qm t)(hp:path.length<=1048576)(hn:sho s):ww (scc yt) t path s=some (Xd t path s):=by
 unfold ww;refine okG_cases t path s ht hn (λ h=>by unfold Xd;rw[h];rfl) λ h=>?_
 obtain⟨hv,_,hs⟩:=Y9 h;have hll:=Jo hv hp hs;have hl:=part_loop (R:=scc yt) (x:=rnr t path (ranR t path s).1 (ranR t path s).2.2) (by show(logV t path s).length<=_;omega) (ran_fold hv hp hs);rw[zaJ hv hp hs,obS,hl];unfold Xd;rw[if_pos h];rfl
open Go.RowKit
structure New(t:Tree)(path:List Int)(st:RSt)(s:Str):Prop where
 name:zf s=true
 gone:∀ m∈st.mods,hits s m=false
 up:zt s=emptyS\/∃ m∈st.mods,hits (zt s) m=true
 kind:(xz t path st s).kind≠0
inductive Tr (t:Tree) (path:List Int):RSt->RSt->Int->Prop
 | stop (a:RSt) (e:Int):Tr t path a a e
 | seq {a b c:RSt} {e:Int} (h:Tr t path a b 0) (k:Tr t path b c e):Tr t path a c e
 | tick (a:RSt):Tr t path a { a with left:=a.left - 1 } 0
 | out (a:RSt) (o:List Int):Tr t path a { a with out:=a.out++o } 0
 | give (a:RSt) (k:Nat) (s:Str) (v:GVal):Tr t path a (a.give k s v) 0
 | hit (a:RSt) (k:Nat) (s:Str) {m:GMod} (hm:a.mods[k]?=some m) (hs:hits s m=true):Tr t path a (a.hit k s) 0
 | bad {a b:RSt} {s:Str} {e:Int} (n:New t path a s) (h:Tr t path (a.begin s (xz t path a s)) b e) (he:e≠0):Tr t path a (b.fail a.mods.length s) e
 | good {a b:RSt} {s:Str} (n:New t path a s) (h:Tr t path (a.begin s (xz t path a s)) b 0):Tr t path a ((b.done a.mods.length s).tell a.mods.length s) 0
variable{t:Tree}{path:List Int}{a b st:RSt}{e:Int}{s:Str}
structure Kept(m m':GMod):Prop where
 name:m'.name=m.name
 cached:m'.cached=m.cached
 kind:m'.kind=m.kind
 roots:m'.roots=m.roots
 done:m.done=true->m'.done=true
 attrs:∀ x∈m.attrs.map (·.name),x∈m'.attrs.map (·.name)
theorem Kept.refl(m:GMod):Kept m m:=⟨rfl,rfl,rfl,rfl,id,λ _ h=>h⟩
theorem Kept.trans{m n o:GMod}(h:Kept m n)(k:Kept n o):Kept m o:=⟨k.name.trans h.name,k.cached.trans h.cached,k.kind.trans h.kind,k.roots.trans h.roots,λ e=>k.done (h.done e),λ x hx=>k.attrs x (h.attrs x hx)⟩
theorem put_mem{l:List GAttr}{s:Str}{v:GVal}:∀ x∈l.map (·.name),x∈(jy l s v).map (·.name):=λ x hx=>by
 rw[zan];split
 ·
  exact hx
 ·
  exact List.mem_append_left _ hx
theorem giv_at(a:RSt)(k:Nat)(s:Str)(v:GVal)(i:Nat):(a.give k s v).mods[i]?=if i=k then a.mods[k]?.map (λ m=>{ m with attrs:=jy m.attrs s v }) else a.mods[i]?:=X0 i
theorem zaq(a:RSt)(k:Nat)(s:Str)(v:GVal){i:Nat}{m:GMod}(h:a.mods[i]?=some m):∃ m',(a.give k s v).mods[i]?=some m'/\Kept m m':=by
 rw[giv_at];by_cases e:i=k
 ·
  subst e;rw[if_pos rfl,h];exact⟨_,rfl,rfl,rfl,rfl,rfl,id,put_mem⟩
 ·
  rw[if_neg e];exact⟨m,h,Kept.refl m⟩
theorem Jr(a:RSt)(k:Nat)(s:Str){i:Nat}{m:GMod}(h:a.mods[i]?=some m):∃ m',(a.tell k s).mods[i]?=some m'/\Kept m m':=by
 unfold RSt.tell;split
 ·
  exact zaq _ _ _ _ h
 ·
  exact⟨m,h,Kept.refl m⟩
theorem done_at(a:RSt)(k:Nat)(s:Str)(i:Nat):(a.done k s).mods[i]?=if i=k then a.mods[k]?.map (λ m=>{ m with done:=true }) else a.mods[i]?:=X0 i
theorem zar(a:RSt)(k:Nat)(s:Str){i:Nat}{m:GMod}(h:a.mods[i]?=some m):∃ m',(a.done k s).mods[i]?=some m'/\Kept m m':=by
 rw[done_at];by_cases e:i=k
 ·
  subst e;rw[if_pos rfl,h];exact⟨_,rfl,rfl,rfl,rfl,rfl,λ _=>rfl,λ _ h=>h⟩
 ·
  rw[if_neg e];exact⟨m,h,Kept.refl m⟩
theorem fail_at(a:RSt)(k:Nat)(s:Str)(i:Nat):(a.fail k s).mods[i]?=if i=k then a.mods[k]?.map (λ m=>{ m with cached:=false }) else a.mods[i]?:=X0 i
theorem X4(a:RSt)(s:Str)(sp:Spec){i:Nat}{m:GMod}(h:a.mods[i]?=some m):(a.begin s sp).mods[i]?=some m:=by
 show(a.mods++_)[i]?=some m;rw[List.getElem?_append_left (zv h)];exact h
theorem zbr(a:RSt)(s:Str)(sp:Spec):(a.begin s sp).mods[a.mods.length]?=some ⟨s,sp.kind,sp.roots,true,false,[]⟩:=by
 show(a.mods++[_])[a.mods.length]?=_;simp
theorem tell_len(a:RSt)(k:Nat)(s:Str):(a.tell k s).mods.length=a.mods.length:=by
 unfold RSt.tell;split
 ·
  exact qG ..
 ·
  rfl
theorem Tr.kept(h:Tr t path a b e):∀ (i:Nat) (m:GMod),a.mods[i]?=some m->∃ m',b.mods[i]?=some m'/\Kept m m':=by
 induction h with
 | stop=>exact λ i m h=>⟨m,h,Kept.refl m⟩
 |
  seq _ _ h1 h2=>
  intro i m h;obtain⟨m1,k1,k2⟩:=h1 i m h;obtain⟨m2,k3,k4⟩:=h2 i m1 k1;exact⟨m2,k3,k2.trans k4⟩
 | tick=>exact λ i m h=>⟨m,h,Kept.refl m⟩
 | out=>exact λ i m h=>⟨m,h,Kept.refl m⟩
 | give=>exact λ i m h=>zaq _ _ _ _ h
 | hit=>exact λ i m h=>⟨m,h,Kept.refl m⟩
 |
  bad n h he ih=>
  rename_i a b s e;intro i m h;obtain⟨m1,k1,k2⟩:=ih i m (X4 _ _ _ h);refine⟨m1,?_,k2⟩;rw[fail_at,if_neg (by have:=zv h;omega)];exact k1
 |
  good n h ih=>
  intro i m h;obtain⟨m1,k1,k2⟩:=ih i m (X4 _ _ _ h);obtain⟨m2,k3,k4⟩:=zar _ _ _ k1;obtain⟨m3,k5,k6⟩:=Jr _ _ _ k3;exact⟨m3,k5,k2.trans (k4.trans k6)⟩
theorem Tr.len(h:Tr t path a b e):a.mods.length<=b.mods.length:=by
 rcases Nat.eq_zero_or_pos a.mods.length with h0 | h0
 ·
  omega
 ·
  obtain⟨m,hm,_⟩:=h.kept (a.mods.length - 1) _ (List.getElem?_eq_getElem (by omega));have:=zv hm;omega
theorem Tr.to0{e:Int}(h:Tr t path a b e)(he:e=0):Tr t path a b 0:=he ▸ h
def ImpTr(t:Tree)(path:List Int)(I:RImp):Prop:=∀ (st:RSt) (s:Str) (r:RSt×Int×Int),zf s=true->I st s=some r->Tr t path st r.1 r.2.2/\(r.2.2=0->∃ m,r.1.mods[r.2.1.toNat]?=some m/\hits s m=true)
theorem hit_of(st:RSt)(s:Str)(h:cmpI .geq (cix st s) 0=true):∃ m,st.mods[(cix st s).toNat]?=some m/\hits s m=true:=by
 obtain⟨m,h1,h2,_⟩:=Jm h;exact⟨m,h1,h2⟩
theorem star_tr(at_:Nat):∀ (l:List GAttr) (st:RSt),Tr t path st (W3 at_ l st) 0
 | [],st=>.stop st 0
 |
  x::l,st=>by
  unfold W3;rw[List.foldl_cons];split
  ·
   exact star_tr at_ l st
  ·
   exact .seq (.give ..) (star_tr at_ l _)
theorem value_tr{I:RImp}(hI:ImpTr t path I){k:Nat}{r:RSt×GVal×Int}(h:Yb t path I st k s=some r):Tr t path st r.1 r.2.2:=by
 unfold Yb at h;split at h
 ·
  injection h with h;subst h;exact .stop ..
 ·
  split at h
  ·
   injection h with h;subst h;exact .stop ..
  ·
   rename_i hc;split at h
   ·
    injection h with h;subst h;exact .stop ..
   ·
    have hv:zf (child (st.nameAt k) s)=true:=by
     cases hv:zf (child (st.nameAt k) s) with
     | true=>rfl
     | false=>exact absurd (.inr hv) hc
    obtain⟨q,hq,hr⟩:=bs h;injection hr with hr;subst hr;exact(hI _ _ _ hv hq).1
theorem stmt_tr{I:RImp}(hI:ImpTr t path I){at_:Nat}{x:Stmt}(hx:zU x=true){r:RSt×Int}(h:jB t path I st at_ x=some r):Tr t path st r.1 r.2:=by
 unfold jB at h;split at h
 ·
  rename_i hk;obtain⟨q,hq,hr⟩:=bs h;have h1:=(hI _ _ _ (qg hx (.inl hk)) hq).1;split at hr
  ·
   injection hr with hr;subst hr;exact h1
  ·
   rename_i he;have h1:=h1.to0 (by omega);split at hr
   ·
    injection hr with hr;subst hr;exact .seq h1 (.stop ..)
   ·
    injection hr with hr;subst hr;exact .seq h1 (.give ..)
 ·
  split at h
  ·
   split at h
   ·
    injection h with h;subst h;exact .stop ..
   ·
    rename_i hv;obtain⟨q,hq,hr⟩:=bs h;have h1:=(hI _ _ _ (by simpa using hv) hq).1;split at hr
    ·
     injection hr with hr;subst hr;exact h1
    ·
     rename_i he;have h1:=h1.to0 (by omega);obtain⟨u,hu,hr⟩:=bs hr;have h2:=value_tr hI hu;split at hr
     ·
      injection hr with hr;subst hr;exact .seq h1 h2
     ·
      rename_i he;injection hr with hr;subst hr;exact .seq h1 (.seq (h2.to0 (by omega)) (.give ..))
  ·
   split at h
   ·
    rename_i k2;obtain⟨q,hq,hr⟩:=bs h;have h1:=(hI _ _ _ (qg hx (.inr k2)) hq).1;split at hr
    ·
     injection hr with hr;subst hr;exact h1
    ·
     rename_i he;injection hr with hr;subst hr;exact .seq (h1.to0 (by omega)) (star_tr ..)
   ·
    split at h
    ·
     injection h with h;subst h;exact .give ..
    ·
     split at h
     ·
      split at h
      ·
       injection h with h;subst h;exact .stop ..
      ·
       injection h with h;subst h;exact .out ..
     ·
      split at h
      ·
       injection h with h;subst h;exact .stop ..
      ·
       injection h with h;subst h;exact .stop ..
theorem body_tr{I:RImp}(hI:ImpTr t path I)(at_:Nat):∀ (l:List Stmt) (st:RSt) (r:RSt×Int),(∀ x∈l,zU x=true)->Yw t path I at_ l st=some r->Tr t path st r.1 r.2
 | [],st,r,_,h=>by injection h with h;subst h;exact .stop ..
 |
  x::l,st,r,hl,h=>by
  unfold Yw at h;split at h
  ·
   injection h with h;subst h;exact .stop ..
  ·
   obtain⟨q,hq,hr⟩:=bs h;have h1:=stmt_tr hI (hl x (List.mem_cons_self ..)) hq;split at hr
   ·
    injection hr with hr;subst hr;exact .seq (.tick ..) h1
   ·
    rename_i he;exact .seq (.tick ..) (.seq (h1.to0 (by omega)) (body_tr hI at_ l _ _ (λ y hy=>hl y (List.mem_cons_of_mem _ hy)) hr))
theorem run_tr{I:RImp}(hv:zH t=true)(hI:ImpTr t path I){at_:Nat}{sp:Spec}{r:RSt×Int}(h:runF t path I st at_ sp=some r):Tr t path st r.1 r.2:=by
 unfold runF at h;split at h
 ·
  exact body_tr hI at_ _ _ _ (YJ hv _) h
 ·
  injection h with h;subst h;exact .stop ..
theorem imp_tr(hv:zH t=true):∀ n,ImpTr t path (imp t path n)
 | 0=>λ _ _ _ _ h=>by cases h
 |
  n+1=>by
  intro st s r hs h;unfold imp impF at h;have hhit:∀ {st':RSt},Tr t path st st' 0->cmpI .geq (cix st' s) 0=true->∀ {r},some (st'.hit (cix st' s).toNat s,cix st' s,(0:Int))=some r->Tr t path st r.1 r.2.2/\(r.2.2=0->∃ m,r.1.mods[r.2.1.toNat]?=some m/\hits s m=true):=λ ht hc r hr=>by
   injection hr with hr;subst hr;obtain⟨m,h1,h2⟩:=hit_of _ _ hc;exact⟨.seq ht (.hit _ _ _ h1 h2),λ _=>⟨m,h1,h2⟩⟩
  split at h
  ·
   rename_i hc;exact hhit (.stop st 0) hc h
  ·
   rename_i hc0;obtain⟨q,hq,hr⟩:=bs h;have hpar:Tr t path st q.1 q.2.2/\(q.2.2=0->zt s=emptyS\/∃ m∈q.1.mods,hits (zt s) m=true):=by
    split at hq
    ·
     rename_i he;injection hq with hq;subst hq;exact⟨.stop ..,λ _=>.inl he⟩
    ·
     rename_i he;obtain⟨h1,h2⟩:=imp_tr hv n _ _ _ (qt hs he).2 hq;exact⟨h1,λ e=>.inr (let⟨m,k1,k2⟩:=h2 e;⟨m,List.mem_of_getElem? k1,k2⟩)⟩
   obtain⟨h1,h2⟩:=hpar;split at hr
   ·
    rename_i hne;injection hr with hr;subst hr;exact⟨h1,λ e=>absurd e hne⟩
   ·
    rename_i he;have he:q.2.2=0:=by omega
    have h1:=h1.to0 he;split at hr
    ·
     rename_i hc;exact hhit h1 hc hr
    ·
     rename_i hc;unfold newF at hr;split at hr
     ·
      injection hr with hr;subst hr;exact⟨.seq h1 (.stop ..),λ e=>absurd e (by simp)⟩
     ·
      rename_i hk;obtain⟨u,hu,hr⟩:=bs hr;have hn:New t path q.1 s:=⟨hs,Wq (by simpa[cix] using hc),h2 he,hk⟩;have h3:=run_tr hv (imp_tr hv n) hu;split at hr
      ·
       rename_i hne;injection hr with hr;subst hr;exact⟨.seq h1 (.bad hn h3 hne),λ e=>absurd e hne⟩
      ·
       rename_i he2;have h3:=h3.to0 (by omega);injection hr with hr;subst hr;refine⟨.seq h1 (.good hn h3),λ _=>?_⟩;obtain⟨m1,k1,k2⟩:=h3.kept _ _ (zbr ..);obtain⟨m2,k3,k4⟩:=zar _ q.1.mods.length s k1;obtain⟨m3,k5,k6⟩:=Jr _ q.1.mods.length s k3;have k7:=k2.trans (k4.trans k6);refine⟨m3,by simpa using k5,?_⟩;unfold hits;rw[k7.name,k7.cached];simp
open Go.RowKit
variable{t:Tree}{path:List Int}{a b st:RSt}{e:Int}{s:Str}
theorem wT(k:Int)(l m:List GEvent):evs k (l++m)=evs k l++evs k m:=by unfold evs;rw[List.filter_append,List.map_append]
theorem W9{k j:Int}{s:Str}(h:j=k):evs k [⟨j,s⟩]=[s]:=by subst h;simp[evs,cmpI]
theorem j6{k j:Int}{s:Str}(h:j≠k):evs k [⟨j,s⟩]=[]:=by simp[evs,cmpI,h]
theorem Q1{α:Type}{l:List α}{k:Nat}{f:α->α}{i:Nat}{x:α}(h:(updA l k f)[i]?=some x):∃ y,l[i]?=some y/\((x=y/\i≠k)\/(i=k/\x=f y)):=by
 rw[X0] at h;by_cases e:i=k
 ·
  subst e;rw[if_pos rfl] at h;cases hl:l[i]? with
  | none=>rw[hl] at h;cases h
  | some y=>rw[hl] at h;injection h with h;exact⟨y,rfl,.inr ⟨rfl,h.symm⟩⟩
 ·
  rw[if_neg e] at h;exact⟨x,h,.inl ⟨rfl,e⟩⟩
theorem Zx{α:Type}{l:List α}{x y:α}{i:Nat}(h:(l++[x])[i]?=some y):l[i]?=some y\/(i=l.length/\y=x):=by
 by_cases h1:i<l.length
 ·
  rw[List.getElem?_append_left h1] at h;exact .inl h
 ·
  rw[List.getElem?_append_right (by omega)] at h;have h2:i - l.length=0:=by have:=zv h;simp at this;omega
  rw[h2] at h;injection h with h;exact .inr ⟨by omega,h.symm⟩
structure Wf(st:RSt):Prop where
 starts:evs 0 st.log=st.mods.map (·.name)
 dones:∀ (i:Nat) (m:GMod),st.mods[i]?=some m->m.done=true->m.name∈evs 1 st.log
 fails:∀ (i:Nat) (m:GMod),st.mods[i]?=some m->m.cached=false->m.name∈evs 2 st.log
 dist:∀ (i j:Nat) (m m':GMod),st.mods[i]?=some m->st.mods[j]?=some m'->m.cached=true->m'.cached=true->m.name=m'.name->i=j
 part:∀ s∈st.part,s∈st.mods.map (·.name)
 order:∀ (i:Nat) (m:GMod),st.mods[i]?=some m->zt m.name≠emptyS->∃ (j:Nat) (m':GMod),j<i/\st.mods[j]?=some m'/\m'.name=zt m.name
theorem Wf.upd(h:Wf a){k:Nat}{f:GMod->GMod}{lg:List GEvent}{o:List Int}{lf:Int}{pt:List Str}(hn:∀ m,(f m).name=m.name)(hc:∀ m,(f m).cached=true->m.cached=true)(h0:evs 0 lg=evs 0 a.log)
  (hd:∀ m,a.mods[k]?=some m->(f m).done=true->m.name∈evs 1 lg) (hf:∀ m,a.mods[k]?=some m->(f m).cached=false->m.name∈evs 2 lg) (h1:∀ x∈evs 1 a.log,x∈evs 1 lg) (h2:∀ x∈evs 2 a.log,x∈evs 2 lg) (hp:∀ s∈pt,s∈a.mods.map (·.name)):Wf ⟨updA a.mods k f,lg,o,lf,pt⟩:=by
 have hm:(updA a.mods k f).map (·.name)=a.mods.map (·.name):=updA_map _ _ _ _ hn;have nm:∀ {i:Nat} {m:GMod},(updA a.mods k f)[i]?=some m->∃ y,a.mods[i]?=some y/\m.name=y.name/\(m.cached=true->y.cached=true):=λ h=>by
  obtain⟨y,h1,h2⟩:=Q1 h;rcases h2 with⟨rfl,_⟩ | ⟨_,rfl⟩
  ·
   exact⟨_,h1,rfl,id⟩
  ·
   exact⟨y,h1,hn y,hc y⟩
 refine⟨?_,λ i m hi hdn=>?_,λ i m hi hcf=>?_,λ i j m m' hi hj c1 c2 he=>?_,λ x hx=>?_,λ i m hi hpn=>?_⟩
 ·
  show evs 0 lg=_;rw[h0,h.starts];exact hm.symm
 ·
  obtain⟨y,k1,k2⟩:=Q1 hi;rcases k2 with⟨rfl,_⟩ | ⟨rfl,rfl⟩
  ·
   exact h1 _ (h.dones i _ k1 hdn)
  ·
   rw[hn];exact hd y k1 hdn
 ·
  obtain⟨y,k1,k2⟩:=Q1 hi;rcases k2 with⟨rfl,_⟩ | ⟨rfl,rfl⟩
  ·
   exact h2 _ (h.fails i _ k1 hcf)
  ·
   rw[hn];exact hf y k1 hcf
 ·
  obtain⟨y,k1,k2,k3⟩:=nm hi;obtain⟨y',j1,j2,j3⟩:=nm hj;exact h.dist i j y y' k1 j1 (k3 c1) (j3 c2) (k2.symm.trans (he.trans j2))
 ·
  show x∈(updA a.mods k f).map (·.name);rw[hm];exact hp x hx
 ·
  obtain⟨y,k1,k2,_⟩:=nm hi;rw[k2] at hpn ⊢;obtain⟨j,m',j1,j2,j3⟩:=h.order i y k1 hpn;obtain⟨m2,j4,j5⟩:=updA_old hn j2;exact⟨j,m2,j1,j4,j5.trans j3⟩
theorem Wf.begin(h:Wf a){s:Str}(sp:Spec)(hg:∀ m∈a.mods,hits s m=false)(hu:zt s=emptyS\/∃ m∈a.mods,hits (zt s) m=true):Wf (a.begin s sp):=by
 have hne:∀ {i:Nat} {m:GMod},a.mods[i]?=some m->m.cached=true->m.name≠s:=λ h1 h2 e=>by
  have:=hg _ (List.mem_of_getElem? h1);unfold hits at this;rw[h2] at this;simp at this;exact this e
 refine⟨?_,λ i m hi hd=>?_,λ i m hi hc=>?_,λ i j m m' hi hj c1 c2 he=>?_,λ x hx=>?_,λ i m hi hpn=>?_⟩
 ·
  show evs 0 (a.log++[⟨0,s⟩])=(a.mods++[_]).map _;rw[wT,W9 rfl,h.starts,List.map_append];rfl
 ·
  show m.name∈evs 1 (a.log++[⟨0,s⟩]);rw[wT,j6 (by decide),List.append_nil];rcases Zx hi with h1 | ⟨_,h1⟩
  ·
   exact h.dones i m h1 hd
  ·
   rw[h1] at hd;cases hd
 ·
  show m.name∈evs 2 (a.log++[⟨0,s⟩]);rw[wT,j6 (by decide),List.append_nil];rcases Zx hi with h1 | ⟨_,h1⟩
  ·
   exact h.fails i m h1 hc
  ·
   rw[h1] at hc;cases hc
 ·
  rcases Zx hi with h1 | ⟨i1,h1⟩ <;> rcases Zx hj with h2 | ⟨j1,h2⟩
  ·
   exact h.dist i j m m' h1 h2 c1 c2 he
  ·
   rw[h2] at he;exact absurd he (hne h1 c1)
  ·
   rw[h1] at he;exact absurd he.symm (hne h2 c2)
  ·
   omega
 ·
  show x∈(a.mods++[_]).map _;rw[List.map_append];exact List.mem_append_left _ (h.part x hx)
 ·
  rcases Zx hi with h1 | ⟨i1,h1⟩
  ·
   obtain⟨j,m',j1,j2,j3⟩:=h.order i m h1 hpn;exact⟨j,m',j1,X4 _ _ _ j2,j3⟩
  ·
   rw[h1] at hpn ⊢;rcases hu with e | ⟨m',k1,k2⟩
   ·
    exact absurd e hpn
   ·
    obtain⟨j,hj⟩:=List.getElem?_of_mem k1;unfold hits at k2;simp only[Bool.and_eq_true,decide_eq_true_eq] at k2;exact⟨j,m',by have:=zv hj;omega,X4 _ _ _ hj,k2.1⟩
theorem Wf.give(h:Wf a)(k:Nat)(s:Str)(v:GVal):Wf (a.give k s v):=
 h.upd (f:=λ m=>{ m with attrs:=jy m.attrs s v }) (λ _=>rfl) (λ _ h=>h) rfl (λ m hm hd=>h.dones k m hm hd) (λ m hm hc=>h.fails k m hm hc) (λ _ h=>h) (λ _ h=>h) h.part
theorem Wf.tell(h:Wf a)(k:Nat)(s:Str):Wf (a.tell k s):=by
 unfold RSt.tell;split
 ·
  exact h.give ..
 ·
  exact h
theorem Wf.done(h:Wf a){k:Nat}{s:Str}(hk:∀ m,a.mods[k]?=some m->m.name=s):Wf (a.done k s):=
 h.upd (f:=λ m=>{ m with done:=true }) (λ _=>rfl) (λ _ h=>h) (by rw[wT,j6 (by decide),List.append_nil]) (λ m hm _=>by rw[wT,W9 rfl,hk m hm];simp) (λ m hm hc=>by rw[wT,j6 (by decide),List.append_nil];exact h.fails k m hm hc)
  (λ x hx=>by rw[wT];exact List.mem_append_left _ hx) (λ x hx=>by rw[wT];exact List.mem_append_left _ hx) h.part
theorem Wf.fail(h:Wf a){k:Nat}{s:Str}(hk:∀ m,a.mods[k]?=some m->m.name=s):Wf (a.fail k s):=
 h.upd (f:=λ m=>{ m with cached:=false }) (λ _=>rfl) (λ _ h=>by cases h) (by rw[wT,j6 (by decide),List.append_nil]) (λ m hm hd=>by rw[wT,j6 (by decide),List.append_nil];exact h.dones k m hm hd) (λ m hm _=>by rw[wT,W9 rfl,hk m hm];simp)
  (λ x hx=>by rw[wT];exact List.mem_append_left _ hx) (λ x hx=>by rw[wT];exact List.mem_append_left _ hx) h.part
theorem Wf.hit(h:Wf a){k:Nat}{s:Str}{m:GMod}(hm:a.mods[k]?=some m)(hs:hits s m=true):Wf (a.hit k s):=by
 have e:∀ k:Int,3≠k->evs k (a.log++[⟨3,s⟩])=evs k a.log:=λ k hk=>by rw[wT,j6 hk,List.append_nil]
 refine⟨(e 0 (by decide)).trans h.starts,λ i m hi hd=>?_,λ i m hi hc=>?_,h.dist,λ x hx=>?_,h.order⟩
 ·
  show _∈evs 1 (a.log++[⟨3,s⟩]);rw[e 1 (by decide)];exact h.dones i m hi hd
 ·
  show _∈evs 2 (a.log++[⟨3,s⟩]);rw[e 2 (by decide)];exact h.fails i m hi hc
 ·
  have hx':x∈if a.doneAt k=false/\s ∉ a.part then a.part++[s] else a.part:=hx
  split at hx'
  ·
   rcases List.mem_append.1 hx' with h1 | h1
   ·
    exact h.part x h1
   ·
    simp only[List.mem_singleton] at h1;rw[h1];unfold hits at hs;simp only[Bool.and_eq_true,decide_eq_true_eq] at hs;exact List.mem_map.2 ⟨m,List.mem_of_getElem? hm,hs.1⟩
  ·
   exact h.part x hx'
theorem Tr.own{x:Spec}(h:Tr t path (a.begin s x) b e):∃ m,b.mods[a.mods.length]?=some m/\m.name=s/\m.cached=true:=by
 obtain⟨m,h1,h2⟩:=h.kept _ _ (zbr ..);exact⟨m,h1,h2.name,h2.cached⟩
theorem Tr.wf(h:Tr t path a b e)(w:Wf a):Wf b:=by
 induction h with
 | stop=>exact w
 | seq _ _ h1 h2=>exact h2 (h1 w)
 | tick=>exact⟨w.starts,w.dones,w.fails,w.dist,w.part,w.order⟩
 | out=>exact⟨w.starts,w.dones,w.fails,w.dist,w.part,w.order⟩
 | give=>exact w.give ..
 | hit _ _ _ hm hs=>exact w.hit hm hs
 |
  bad n h he ih=>
  obtain⟨m,h1,h2,_⟩:=h.own;exact(ih (w.begin _ n.gone n.up)).fail λ m' hm'=>by rw[h1] at hm';injection hm' with hm';rw[← hm'];exact h2
 |
  good n h ih=>
  obtain⟨m,h1,h2,_⟩:=h.own;exact((ih (w.begin _ n.gone n.up)).done λ m' hm'=>by rw[h1] at hm';injection hm' with hm';rw[← hm'];exact h2).tell ..
theorem Tr.fresh(h:Tr t path a b e):∀ (i:Nat) (m:GMod),a.mods.length<=i->b.mods[i]?=some m->m.cached=true->m.done=true:=by
 induction h with
 | stop=>intro i m h1 h2;have:=zv h2;omega
 | tick=>intro i m h1 h2;have:=zv h2;simp at this;omega
 | out=>intro i m h1 h2;have:=zv h2;simp at this;omega
 | give=>intro i m h1 h2;have:=zv h2;unfold RSt.give at this;simp only[qG] at this;omega
 | hit=>intro i m h1 h2;have:=zv h2;unfold RSt.hit at this;simp only at this;omega
 |
  seq h k ih1 ih2=>
  rename_i a b c e;intro i m h1 h2 h3;by_cases hb:i<b.mods.length
  ·
   obtain⟨m',k1,k2⟩:=k.kept i _ (List.getElem?_eq_getElem hb);rw[h2] at k1;injection k1 with k1;subst k1;exact k2.done (ih1 i _ h1 (List.getElem?_eq_getElem hb) (k2.cached ▸ h3))
  ·
   exact ih2 i m (by omega) h2 h3
 |
  bad n h he ih=>
  rename_i a b s e;intro i m h1 h2 h3;rw[fail_at] at h2;split at h2
  ·
   cases hb:b.mods[a.mods.length]? with
   | none=>rw[hb] at h2;cases h2
   | some y=>rw[hb] at h2;injection h2 with h2;rw[← h2] at h3;cases h3
  ·
   exact ih i m (by show(a.mods++[_]).length<=i;simp;omega) h2 h3
 |
  good n h ih=>
  rename_i a b s;intro i m h1 h2 h3;have hl:i<(b.done a.mods.length s).mods.length:=by rw[← tell_len _ a.mods.length s];exact zv h2
  obtain⟨m',k1,k2⟩:=Jr _ a.mods.length s (List.getElem?_eq_getElem hl);rw[h2] at k1;injection k1 with k1;subst k1;refine k2.done ?_;have h4:=List.getElem?_eq_getElem hl;have h5:=k2.cached ▸ h3;generalize (b.done a.mods.length s).mods[i]=y at*;rw[done_at] at h4;split at h4
  ·
   cases hb:b.mods[a.mods.length]? with
   | none=>rw[hb] at h4;cases h4
   | some z=>rw[hb] at h4;injection h4 with h4;rw[← h4]
  ·
   exact ih i y (by show(a.mods++[_]).length<=i;simp;omega) h4 h5
def Upw(st:RSt):Prop:=∀ (i:Nat) (m:GMod),st.mods[i]?=some m->m.cached=true->zt m.name≠emptyS->∃ (j:Nat) (m':GMod),st.mods[j]?=some m'/\hits (zt m.name) m'=true
def Told(st:RSt):Prop:=∀ (i:Nat) (m:GMod),st.mods[i]?=some m->m.cached=true->m.done=true->zt m.name≠emptyS->∀ (j:Nat) (p:GMod),st.mods[j]?=some p->hits (zt m.name) p=true->xL m.name∈p.attrs.map (·.name)
theorem hits_iff{s:Str}{m:GMod}:hits s m=true ↔ m.name=s/\m.cached=true:=by
 unfold hits;simp
def Sm(a b:RSt):Prop:=b.mods.length=a.mods.length/\∀ (i:Nat) (m:GMod),a.mods[i]?=some m->∃ m',b.mods[i]?=some m'/\Kept m m'
theorem Sm.back(h:Sm a b){i:Nat}{m':GMod}(hm:b.mods[i]?=some m'):∃ m,a.mods[i]?=some m/\Kept m m':=by
 have hl:i<a.mods.length:=by rw[← h.1];exact zv hm
 obtain⟨m2,h1,h2⟩:=h.2 i _ (List.getElem?_eq_getElem hl);rw[hm] at h1;injection h1 with h1;subst h1;exact⟨_,List.getElem?_eq_getElem hl,h2⟩
theorem Kept.hits{m m':GMod}(h:Kept m m')(s:Str):hits s m'=hits s m:=by unfold Go.Proofs.YtmenakmafojpaaaGreatDoor.hits;rw[h.name,h.cached]
theorem Upw.sm(u:Upw a)(h:Sm a b):Upw b:=λ i m hm hc hp=>by
 obtain⟨y,h1,h2⟩:=h.back hm;rw[h2.name] at hp ⊢;obtain⟨j,m',j1,j2⟩:=u i y h1 (h2.cached ▸ hc) hp;obtain⟨m2,j3,j4⟩:=h.2 j m' j1;exact⟨j,m2,j3,by rw[j4.hits];exact j2⟩
theorem give_sm(a:RSt)(k:Nat)(s:Str)(v:GVal):Sm a (a.give k s v):=⟨qG ..,λ _ _ h=>zaq _ _ _ _ h⟩
theorem tell_sm(a:RSt)(k:Nat)(s:Str):Sm a (a.tell k s):=⟨tell_len ..,λ _ _ h=>Jr _ _ _ h⟩
theorem done_sm(a:RSt)(k:Nat)(s:Str):Sm a (a.done k s):=⟨qG ..,λ _ _ h=>zar _ _ _ h⟩
theorem Told.give(d:Told a)(k:Nat)(s:Str)(v:GVal):Told (a.give k s v):=λ i m hm hc hd hp j p hj hh=>by
 obtain⟨p0,j1,j2⟩:=(give_sm a k s v).back hj;obtain⟨m0,i1,i2⟩:=(give_sm a k s v).back hm;have i3:m0.done=m.done:=by
  rw[giv_at] at hm;split at hm
  ·
   rename_i e;subst e;rw[i1] at hm;injection hm with hm;rw[← hm]
  ·
   rw[i1] at hm;injection hm with hm;rw[hm]
 rw[i2.name] at hp hh ⊢;exact j2.attrs _ (d i m0 i1 (i2.cached ▸ hc) (i3 ▸ hd) hp j p0 j1 (by rw[← j2.hits];exact hh))
inductive Bal:List GEvent->Prop
 | nil:Bal []
 | hit (s:Str) {l:List GEvent} (h:Bal l):Bal (⟨3,s⟩::l)
 | run (s:Str) {x y:List GEvent} {k:Int} (hk:k=1\/k=2) (h:Bal x) (r:Bal y):Bal (⟨0,s⟩::(x++⟨k,s⟩::y))
theorem Bal.app{x y:List GEvent}(h:Bal x)(k:Bal y):Bal (x++y):=by
 induction h with
 | nil=>exact k
 | hit s _ ih=>exact .hit s ih
 |
  run s hk h r _ ih=>
  rename_i x z k;have:=Bal.run s hk h ih;simpa using this
theorem tell_log(a:RSt)(k:Nat)(s:Str):(a.tell k s).log=a.log:=by unfold RSt.tell;split <;> rfl
theorem Tr.bal(h:Tr t path a b e):∃ l,b.log=a.log++l/\Bal l/\(e=0->∀ ev∈l,ev.kind≠2):=by
 have z:∀ {a b:RSt} {e:Int},b.log=a.log->∃ l,b.log=a.log++l/\Bal l/\(e=0->∀ ev∈l,ev.kind≠2):=λ h=>⟨[],by rw[h,List.append_nil],.nil,λ _ _ h=>by cases h⟩
 induction h with
 | stop=>exact z rfl
 | tick=>exact z rfl
 | out=>exact z rfl
 | give=>exact z rfl
 | hit a k s=>exact⟨[⟨3,s⟩],rfl,.hit s .nil,λ _ ev h=>by simp only[List.mem_singleton] at h;rw[h];show(3:Int)≠2;decide⟩
 |
  seq h k ih1 ih2=>
  obtain⟨x,h1,h2,h3⟩:=ih1;obtain⟨y,k1,k2,k3⟩:=ih2;exact⟨x++y,by rw[k1,h1,List.append_assoc],h2.app k2,λ e ev hv=>(List.mem_append.1 hv).elim (h3 rfl ev) (k3 e ev)⟩
 |
  bad n h he ih=>
  rename_i a b s e;obtain⟨x,h1,h2,_⟩:=ih;refine⟨⟨0,s⟩::(x++⟨2,s⟩::[]),?_,.run s (.inr rfl) h2 .nil,λ e=>absurd e he⟩;show b.log++[_]=_;rw[h1];show((a.log++[⟨0,s⟩])++x)++[_]=_;simp
 |
  good n h ih=>
  rename_i a b s;obtain⟨x,h1,h2,h3⟩:=ih;refine⟨⟨0,s⟩::(x++⟨1,s⟩::[]),?_,.run s (.inl rfl) h2 .nil,λ _ ev hv=>?_⟩
  ·
   rw[tell_log];show b.log++[_]=_;rw[h1];show((a.log++[⟨0,s⟩])++x)++[_]=_;simp
  ·
   rcases List.mem_cons.1 hv with hv | hv
   ·
    rw[hv];show(0:Int)≠2;decide
   ·
    rcases List.mem_append.1 hv with hv | hv
    ·
     exact h3 rfl ev hv
    ·
     simp only[List.mem_singleton] at hv;rw[hv];show(1:Int)≠2;decide
theorem jx(k:Int)(x:GEvent)(l:List GEvent):evs k (x::l)=evs k [x]++evs k l:=wT k [x] l
theorem Bal.sub{l:List GEvent}(h:Bal l):∀ s,s∈evs 1 l\/s∈evs 2 l->s∈evs 0 l:=by
 induction h with
 | nil=>intro s h;rcases h with h | h <;> cases h
 |
  hit s _ ih=>
  intro x h;rw[jx,j6 (by decide),List.nil_append] at h ⊢;rw[jx,j6 (by decide),List.nil_append] at h;exact ih x h
 |
  run s hk h r ih1 ih2=>
  rename_i x y k;intro z hz;have e0:evs 0 (⟨0,s⟩::(x++⟨k,s⟩::y))=s::(evs 0 x++evs 0 y):=by
   rw[jx,W9 rfl,wT,jx 0 ⟨k,s⟩ y,j6 (by rcases hk with hk | hk <;> rw[hk] <;> decide)];simp
  have e1:∀ j:Int,j≠0->∀ z∈evs j (⟨0,s⟩::(x++⟨k,s⟩::y)),z=s\/z∈evs j x\/z∈evs j y:=λ j hj z hz=>by
   rw[jx,j6 (Ne.symm hj),List.nil_append,wT,jx j ⟨k,s⟩ y] at hz;rcases List.mem_append.1 hz with hz | hz
   ·
    exact .inr (.inl hz)
   ·
    rcases List.mem_append.1 hz with hz | hz
    ·
     by_cases e:k=j
     ·
      rw[W9 e] at hz;simp only[List.mem_singleton] at hz;exact .inl hz
     ·
      rw[j6 e] at hz;cases hz
    ·
     exact .inr (.inr hz)
  rw[e0];rcases hz with hz | hz
  ·
   rcases e1 1 (by decide) z hz with h | h | h
   ·
    rw[h];simp
   ·
    simp[ih1 z (.inl h)]
   ·
    simp[ih2 z (.inl h)]
  ·
   rcases e1 2 (by decide) z hz with h | h | h
   ·
    rw[h];simp
   ·
    simp[ih1 z (.inr h)]
   ·
    simp[ih2 z (.inr h)]
theorem Bal.count{l:List GEvent}(h:Bal l):(evs 0 l).length=(evs 1 l).length+(evs 2 l).length:=by
 induction h with
 | nil=>rfl
 |
  hit s _ ih=>
  rw[jx 0,jx 1,jx 2,j6 (by decide),j6 (by decide),j6 (by decide)];simpa using ih
 |
  run s hk h r ih1 ih2=>
  rename_i x y k;rw[jx 0,jx 1,jx 2,W9 rfl,j6 (by decide),j6 (by decide),wT,wT,wT,jx 0 ⟨k,s⟩ y,jx 1 ⟨k,s⟩ y,jx 2 ⟨k,s⟩ y];rcases hk with rfl | rfl
  ·
   rw[j6 (k:=0) (by decide),W9 (k:=1) rfl,j6 (k:=2) (by decide)];simp only[List.length_append,List.length_cons,List.length_nil];omega
  ·
   rw[j6 (k:=0) (by decide),j6 (k:=1) (by decide),W9 (k:=2) rfl];simp only[List.length_append,List.length_cons,List.length_nil];omega
def Fnd(t:Tree)(path:List Int)(st:RSt):Prop:=∀ (i:Nat) (m:GMod),st.mods[i]?=some m->zf m.name=true/\m.kind=(find t.files path m.name).kind/\m.roots=(find t.files path m.name).roots/\m.kind≠0
open Go.RowKit
variable{t:Tree}{path:List Int}{a b st:RSt}{e:Int}{s:Str}
def upStep(tf:List File)(o:Spec)(p s:Str):Spec:=if(cmpI .neq o.kind 2&&cmpI .neq o.kind 3)=true then YT else jp tf o.roots p s
theorem JU{tf:List File}{list:List Str}:∀ (xs:List Str) (k:Nat) (out:Spec) (x:Str),jq tf list k out (xs++[x])=upStep tf (jq tf list k out xs) (join (list.take (k+xs.length))) x
 | [],_,_,_=>rfl
 |
  y::xs,k,out,x=>by
  show(if(cmpI .neq out.kind 2&&cmpI .neq out.kind 3)=true then YT else jq tf list (k+1) (jp tf out.roots (join (list.take k)) y) (xs++[x]))=upStep tf (if(cmpI .neq out.kind 2&&cmpI .neq out.kind 3)=true then YT else jq tf list (k+1) (jp tf out.roots (join (list.take k)) y) xs) _ x;by_cases h:(cmpI .neq out.kind 2&&cmpI .neq out.kind 3)=true
  ·
   rw[if_pos h,if_pos h];rfl
  ·
   rw[if_neg h,if_neg h,JU xs (k+1) _ x,show k+1+xs.length=k+(y::xs).length by simp;omega]
theorem JV{tf:List File}{l1 l2:List Str}:∀ (xs:List Str) (k:Nat) (out:Spec),(∀ j,j<k+xs.length->l1.take j=l2.take j)->jq tf l1 k out xs=jq tf l2 k out xs
 | [],_,_,_=>rfl
 |
  y::xs,k,out,h=>by
  simp only[jq];rw[h k (by simp),JV xs (k+1) _ λ j hj=>h j (by simp;omega)]
theorem parent_one(hs:zf s=true)(h:zt s=emptyS):zp s dot=[s]:=by
 obtain⟨h1,h2⟩:=xI hs;have h0:=qK s;have hj:=Wm s;by_cases e:(zp s dot).length=1
 ·
  cases hl:zp s dot with
  | nil=>rw[hl] at e;cases e
  |
   cons x l=>
   rw[hl] at e hj;have:l=[]:=List.eq_nil_of_length_eq_zero (by simpa using e);subst this;rw[← hj];cases x;rfl
 ·
  exfalso
  have hv:=Qh (l:=(zp s dot).take ((zp s dot).length - 1)) (λ e1=>by
   have:=congrArg List.length e1;rw[List.length_take,List.length_nil] at this;omega) (by rw[List.length_take];omega) λ x hx=>h1 x (List.mem_of_mem_take hx)
  have h':join ((zp s dot).take ((zp s dot).length - 1))=emptyS:=h;rw[h'] at hv;cases hv
theorem find_one(hs:zf s=true)(h:zt s=emptyS):find t.files path s=jp t.files path emptyS s:=by
 unfold find;rw[parent_one hs h];rfl
theorem split_up(hs:zf s=true)(h:zt s≠emptyS):zp s dot=zp (zt s) dot++[xL s]:=by
 obtain⟨h1,_⟩:=xI hs;obtain⟨h2,_⟩:=qt hs h;have h0:=qK (zt s);have e:zp (zt s) dot=(zp s dot).take ((zp s dot).length - 1):=by
  unfold zt;exact Wn (λ e1=>by
   have:=congrArg List.length e1;rw[List.length_take,List.length_nil] at this;omega) λ x hx=>h1 x (List.mem_of_mem_take hx)
 rw[e];have hg:=last_get s;have:=List.take_append_getElem (l:=zp s dot) (i:=(zp s dot).length - 1) (by omega);rw[show(zp s dot).length - 1+1=(zp s dot).length by omega,List.take_length] at this;rw[List.getElem?_eq_getElem (by omega)] at hg;injection hg with hg;rw[hg] at this;exact this.symm
theorem find_up(hs:zf s=true)(h:zt s≠emptyS):find t.files path s=upStep t.files (find t.files path (zt s)) (zt s) (xL s):=by
 have hsp:=split_up hs h;have e:jq t.files (zp s dot) 0 ⟨3,-1,path⟩ (zp (zt s) dot)=find t.files path (zt s):=by
  unfold find;refine JV _ _ _ λ j hj=>?_
  rw[hsp,List.take_append_of_le_length (by omega)]
 have h1:=JU (tf:=t.files) (list:=zp s dot) (zp (zt s) dot) 0 ⟨3,-1,path⟩ (xL s);rw[e,← hsp,Nat.zero_add] at h1;have h2:join ((zp s dot).take (zp (zt s) dot).length)=zt s:=by
  rw[hsp,List.take_append_of_le_length (Nat.le_refl _),List.take_length,Wm]
 rw[h2] at h1;exact h1
theorem find_kind(hs:zf s=true):okKind (find t.files path s):=by
 rcases find_last (t:=t.files) (path:=path) hs with h | ⟨r,p,x,h,_⟩
 ·
  rw[h];exact .inl rfl
 ·
  rw[h];exact QR ..
theorem look_found(f:Fnd t path a)(hs:zf s=true)(hup:zt s=emptyS\/∃ m∈a.mods,hits (zt s) m=true):xz t path a s=find t.files path s:=by
 by_cases hp:zt s=emptyS
 ·
  rw[find_one hs hp];unfold xz;rw[if_pos hp]
 ·
  rcases hup with h | ⟨m,h1,h2⟩
  ·
   exact absurd h hp
  ·
   rcases wz a (zt s) with⟨_,k2⟩ | ⟨k,m',k1,k2,k3,_⟩
   ·
    rw[k2 m h1] at h2;cases h2
   ·
    unfold xz;rw[if_neg hp,k1,Z1,if_neg (by decide),Int.toNat_natCast];obtain⟨f0,f1,f2,f3⟩:=f k m' k2;rw[k3] at f0 f1 f2;rw[show a.kindAt k=m'.kind by unfold RSt.kindAt;rw[k2];rfl,show a.rootsAt k=m'.roots by unfold RSt.rootsAt;rw[k2];rfl,find_up hs hp];unfold upStep;rw[← f1,← f2];have:=find_kind (t:=t) (path:=path) f0;unfold okKind at this;rw[← f1] at this;rcases this with e | e | e | e
    ·
     exact absurd e f3
    ·
     rw[if_pos e,if_pos (by rw[e];decide)]
    ·
     rw[if_neg (by omega),if_neg (by rw[e];decide)]
    ·
     rw[if_neg (by omega),if_neg (by rw[e];decide)]
theorem look_find(f:Fnd t path a)(n:New t path a s):xz t path a s=find t.files path s:=look_found f n.name n.up
theorem Fnd.bgF(f:Fnd t path a)(n:New t path a s):Fnd t path (a.begin s (xz t path a s)):=λ i m hm=>by
 rcases Zx hm with h1 | ⟨_,h1⟩
 ·
  exact f i m h1
 ·
  subst h1;have:=look_find f n;exact⟨n.name,by rw[this],by rw[this],n.kind⟩
theorem Tr.fnd(h:Tr t path a b e):Fnd t path a->Fnd t path b:=by
 have keep:∀ {a b:RSt},(∀ (i:Nat) (m:GMod),b.mods[i]?=some m->∃ y,a.mods[i]?=some y/\m.name=y.name/\m.kind=y.kind/\m.roots=y.roots)->Fnd t path a->Fnd t path b:=λ k f i m hm=>by
  obtain⟨y,h1,h2,h3,h4⟩:=k i m hm;have:=f i y h1;rw[h2,h3,h4];exact this
 have upd:∀ {a:RSt} {k:Nat} {f:GMod->GMod},(∀ m,(f m).name=m.name/\(f m).kind=m.kind/\(f m).roots=m.roots)->∀ (i:Nat) (m:GMod),(updA a.mods k f)[i]?=some m->∃ y,a.mods[i]?=some y/\m.name=y.name/\m.kind=y.kind/\m.roots=y.roots:=λ hf i m hm=>by
  obtain⟨y,h1,h2⟩:=Q1 hm;rcases h2 with⟨rfl,_⟩ | ⟨_,rfl⟩
  ·
   exact⟨_,h1,rfl,rfl,rfl⟩
  ·
   exact⟨y,h1,(hf y).1,(hf y).2.1,(hf y).2.2⟩
 induction h with
 | stop=>exact id
 | seq _ _ h1 h2=>exact λ f=>h2 (h1 f)
 | tick=>exact id
 | out=>exact id
 | give=>exact keep (upd λ _=>⟨rfl,rfl,rfl⟩)
 | hit=>exact id
 | bad n h he ih=>exact λ f=>keep (upd (f:=λ m=>{ m with cached:=false }) λ _=>⟨rfl,rfl,rfl⟩) (ih (f.bgF n))
 |
  good n h ih=>
  rename_i a b s;refine λ f=>keep (λ i m hm=>?_) (keep (b:=b.done a.mods.length s) (upd (f:=λ m=>{ m with done:=true }) λ _=>⟨rfl,rfl,rfl⟩) (ih (f.bgF n)))
  obtain⟨y,h1,h2⟩:=(tell_sm (b.done a.mods.length s) a.mods.length s).back hm;exact⟨y,h1,h2.name,h2.kind,h2.roots⟩
theorem wf0:Wf st0:=⟨rfl,(λ _ _ h=>by cases h),(λ _ _ h=>by cases h),(λ _ _ _ _ h=>by cases h),(λ _ h=>by cases h),(λ _ _ h=>by cases h)⟩
theorem fnd0:Fnd t path st0:=λ _ _ h=>by cases h
theorem ran_tr(hv:zH t=true)(hp:path.length<=1048576)(hs:zf s=true):Tr t path st0 (ranR t path s).1 (ranR t path s).2.2/\((ranR t path s).2.2=0->∃ m,(ranR t path s).1.mods[(ranR t path s).2.1.toNat]?=some m/\hits s m=true):=
 imp_tr hv 483 st0 s _ hs (Qk hv hp hs).1
section
variable(hv:zH t=true)(hp:path.length<=1048576)(hs:zf s=true)
include hv hp hs
theorem ran_wf:Wf (ranR t path s).1:=(ran_tr hv hp hs).1.wf wf0
theorem ran_fnd:Fnd t path (ranR t path s).1:=(ran_tr hv hp hs).1.fnd fnd0
theorem ran_bal:Bal (logV t path s)/\((ranR t path s).2.2=0->evs 2 (logV t path s)=[]):=by
 obtain⟨l,h1,h2,h3⟩:=(ran_tr hv hp hs).1.bal;have h1:(ranR t path s).1.log=l:=h1;unfold logV;rw[h1];refine⟨h2,λ e=>?_⟩;have:=h3 e;unfold evs;rw[List.filter_eq_nil_iff.2 (λ ev hev=>by simpa[cmpI] using this ev hev)];rfl
end
open Go.RowKit
variable{t:Tree}{path:List Int}{s:Str}
open Go.RowKit
variable{t:Tree}{path:List Int}{s:Str}
section
variable(hv:zH t=true)(hp:path.length<=1048576)(hs:zf s=true)
include hv hp hs
theorem zas:evs 0 (logV t path s)=(ranR t path s).1.mods.map (·.name):=(ran_wf hv hp hs).starts
theorem starts_apart(h:evs 2 (logV t path s)=[]):(evs 0 (logV t path s)).Nodup:=by
 rw[zas hv hp hs,List.Nodup,List.pairwise_iff_getElem];have w:=ran_wf hv hp hs;intro i j hi hj hij e;rw[List.length_map] at hi hj;rw[List.getElem_map,List.getElem_map] at e;have hc:∀ (i:Nat) (m:GMod),(ranR t path s).1.mods[i]?=some m->m.cached=true:=λ i m hm=>by
  cases hc:m.cached with
  | true=>rfl
  |
   false=>
   have:=w.fails i m hm hc;rw[show(ranR t path s).1.log=logV t path s from rfl,h] at this;cases this
 have:=w.dist i j _ _ (List.getElem?_eq_getElem (by omega)) (List.getElem?_eq_getElem hj) (hc i _ (List.getElem?_eq_getElem (by omega))) (hc j _ (List.getElem?_eq_getElem hj)) e;omega
theorem part_started{x:Str}(h:x∈(ranR t path s).1.part):x∈evs 0 (logV t path s):=by
 rw[zas hv hp hs];exact(ran_wf hv hp hs).part x h
theorem fail_end(h:evs 2 (logV t path s)≠[]):(ranR t path s).2.2≠0:=λ e=>h ((ran_bal hv hp hs).2 e)
end
open Go.RowKit
variable{t:Tree}{path:List Int}{s:Str}
theorem zbs{l:List Str}{x:Str}(h:l.length<=1048576):j0 l x=some (yB (λ y=>decide (y=x)) l):=by
 unfold j0;have hl:zS (λ s4=>yV l x s4) 0=some (match l.findIdx? (λ y=>decide (y=x)) with | some i=>(Sum.inr (i:Int):Unit⊕Int) | none=>Sum.inl ()):=by
  refine Zv l (λ y=>decide (y=x)) (λ i=>Sum.inr i) _ (λ k y hx hlt=>?_) ?_ (by omega) rfl
  ·
   unfold yV;rw[zE,if_pos (decide_eq_true hlt),zJ,hx,obS,zR (by omega)];cases decide (y=x) <;> rfl
  ·
   unfold yV;rw[zE,if_neg (by simp)]
 rw[hl];unfold yB;cases l.findIdx? (λ y=>decide (y=x)) <;> rfl
theorem idxOf_upto{l:List Str}{x:Str}{j:Nat}(h:l[j]?=some x):∃ k:Nat,yB (λ y=>decide (y=x)) l=(k:Int)/\k<=j:=by
 unfold yB;cases hf:l.findIdx? (λ y=>decide (y=x)) with
 |
  none=>
  rw[List.findIdx?_eq_none_iff] at hf;have:=hf x (List.mem_of_getElem? h);simp at this
 |
  some i=>
  refine⟨i,rfl,?_⟩;obtain⟨_,_,h3⟩:=List.findIdx?_eq_some_iff_getElem.1 hf;obtain⟨hj,he⟩:=List.getElem?_eq_some_iff.1 h;rcases Nat.lt_or_ge j i with hlt | hge
  ·
   have:=h3 j hlt;rw[he] at this;simp at this
  ·
   exact hge
theorem idxOf_nodup{l:List Str}(hn:l.Nodup){j:Nat}{x:Str}(h:l[j]?=some x):yB (λ y=>decide (y=x)) l=(j:Int):=by
 obtain⟨k,h1,_⟩:=idxOf_upto h;rcases W4 (λ y=>decide (y=x)) l with⟨h2,_⟩ | ⟨k2,y,h2,h3,h4⟩
 ·
  omega
 ·
  have e:y=x:=by simpa using h4
  subst e;obtain⟨hj,e1⟩:=List.getElem?_eq_some_iff.1 h;obtain⟨hk,e2⟩:=List.getElem?_eq_some_iff.1 h3;have:k2=j:=(List.getElem_inj hn).1 (e2.trans e1.symm);rw[h2,this]
theorem zaK{c:List UInt8}{D:Option (Tree×List Int×Str)}{F:Tree×List Int×Str->Option Bool}(hD:∃ t path s,D=some (t,path,s)/\smT 11 5 t/\path.length<=3/\s.l.length<=64)(h:∀ t path s,qm t->path.length<=3->sho s->F (t,path,s)=some true):(if cmpI .gtr (c.length:Int) 1048576=true then some true else D.bind F)=some true:=by
 cases cmpI .gtr (c.length:Int) 1048576 with
 | true=>rw[if_pos rfl]
 |
  false=>
  obtain⟨t,path,s,e1,h1,h2,h3⟩:=hD;rw[if_neg (by decide),e1,obS];exact h t path s h1.sm h2 (by unfold sho;omega)
theorem same_texts{l:List Str}(h:l.length<=1048576):xx l l=some true:=by rw[equalTexts_eq (by omega)];simp
theorem okG_true(h1:zH t=true)(h2:yR path=true)(h3:zf s=true):okG t path s=true:=by unfold okG;rw[h1,h2,h3];rfl
theorem evV_ok(h:okG t path s=true)(k:Int):evV k t path s=evs k (logV t path s):=by unfold evV;rw[if_pos h]
theorem start_valid(hv:zH t=true)(hp:path.length<=1048576)(hs:zf s=true){x:Str}(h:x∈evs 0 (logV t path s)):zf x=true:=by
 rw[zas hv hp hs] at h;obtain⟨m,hm,rfl⟩:=List.mem_map.1 h;obtain⟨i,hi⟩:=List.getElem?_of_mem hm;exact(ran_fnd hv hp hs i m hi).1
theorem Ja{l:List GEvent}(k:Int)(h:l.length<=1048576):yA l k=some ((evs k l).length:Int):=by
 unfold yA;have hl:zS (λ s5=>xD l k s5) ((0:Int),(0:Int))=some ((evs k l).length:Int):=by
  refine zai l.length (λ i=>((((l.take i).filter (λ e=>cmpI .eql e.kind k)).length:Int),(i:Int))) (λ i hi=>?_) ?_ (by omega) rfl
  ·
   obtain⟨e,he,_⟩:=QS hi;have hlen:=List.length_filter_le (λ e:GEvent=>cmpI .eql e.kind k) (l.take i);rw[List.length_take] at hlen;unfold xD;simp only;rw[zE,if_pos (decide_eq_true hi),zJ,he,obS,filter_next he];generalize (l.take i).filter (λ e=>cmpI .eql e.kind k)=out at hlen ⊢;cases cmpI .eql e.kind k with
   |
    true=>
    rw[if_pos rfl,zR (k:=out.length) (by omega),obS,obS,zR (k:=i) (by omega),obS];simp
   |
    false=>
    rw[if_neg (by decide),obS,zR (k:=i) (by omega),obS];simp
  ·
   unfold xD;simp only;rw[zE,if_neg (by simp),List.take_length];unfold evs;rw[List.length_map]
 rw[hl];rfl
open Go.RowKit
def RSt.forget(st:RSt)(k:Nat):RSt:={ st with mods:=updA st.mods k (λ m=>{ m with cached:=false }) }
def RSt.again(st:RSt)(k:Nat)(sp:Spec):RSt:={ st with mods:=updA st.mods k (λ m=>{ m with kind:=sp.kind,roots:=sp.roots }) }
section
variable(t:Tree)(path:List Int)
def cmdF(I:RImp)(st:RSt)(c:GCmd):Option (RSt×Int):=
 if c.kind=0 then(I st c.name).bind λ r=>some (r.1,r.2.2)
 else if c.kind=2 then(if cmpI .lss (cix st c.name) 0=true then some (st,1) else some (st.forget (cix st c.name).toNat,0))
 else if cmpI .lss (cix st c.name) 0=true\/(zt c.name≠emptyS/\cmpI .lss (cix st (zt c.name)) 0=true) then some (st,1)
 else if(xz t path st c.name).kind=0 then some (st,1)
 else(runF t path I ((st.again (cix st c.name).toNat (xz t path st c.name)).note 0 c.name) (cix st c.name).toNat (xz t path st c.name)).bind λ r=>some (r.1.note (if r.2=0 then 1 else 2) c.name,r.2)
def JW(I:RImp):List GCmd->RSt->Option (RSt×List Int)
 | [],st=>some (st,[])
 | c::cs,st=>(cmdF t path I st c).bind λ r=>(JW I cs r.1).bind λ q=>some (q.1,r.2::q.2)
end
variable{t:Tree}{path:List Int}{st:RSt}{n:Nat}{R:Rec}{I:RImp}{c:GCmd}
theorem Inv.forget(h:Inv st)(k:Nat):Inv (st.forget k):=h.upd (f:=λ m=>{ m with cached:=false }) (lg:=st.log) (o:=st.out) (λ _=>rfl) h.roots h.parts h.apart
theorem Inv.again(h:Inv st)(k:Nat){sp:Spec}(hr:sp.roots.length<=1048576):Inv (st.again k sp):=h.upd (f:=λ m=>{ m with kind:=sp.kind,roots:=sp.roots }) (lg:=st.log) (o:=st.out) (λ _=>rfl) (λ _ _=>hr) h.parts h.apart
theorem zbt(st:RSt)(k:Nat)(sp:Spec):(st.again k sp).size=st.size:=by unfold RSt.size RSt.again;simp[qG]
theorem size_forget(st:RSt)(k:Nat):(st.forget k).size=st.size:=by unfold RSt.size RSt.forget;simp[qG]
theorem size_note(st:RSt)(k:Int)(s:Str):(st.note k s).size=st.size+1:=by unfold RSt.size RSt.note;simp only[List.length_append,List.length_cons,List.length_nil];omega
structure CmdPost(st:RSt)(c:Nat)(r:RSt):Prop where
 inv:Inv r
 left:r.left<=st.left
 size:r.size<=st.size+c
theorem cmd_ok(hv:zH t=true)(hp:path.length<=1048576)(hI:qh n I)(h:Inv st)(hn:4*st.left.toNat+3<=n)(hc:zf c.name=true):∃ r,cmdF t path I st c=some r/\CmdPost st 12 r.1:=by
 have h0:∀ {e:Int},∃ r,some (st,e)=some r/\CmdPost st 12 r.1:=⟨_,rfl,h,Int.le_refl _,Nat.le_add_right _ _⟩;have hpl:=wN hc;unfold cmdF;split
 ·
  obtain⟨r,hr,hk⟩:=hI st _ h hc (by omega);rw[hr];have:=hk.size;exact⟨_,rfl,hk.inv,hk.grow.left,by simp only;omega⟩
 ·
  split
  ·
   split
   ·
    exact h0
   ·
    exact⟨_,rfl,h.forget _,Int.le_refl _,by simp only[size_forget];omega⟩
  ·
   split
   ·
    exact h0
   ·
    split
    ·
     exact h0
    ·
     have hi:=(h.again (cix st c.name).toNat (Xb (t:=t) h hp c.name)).note 0 c.name;obtain⟨r,hr,hb⟩:=run_ok (path:=path) hv hI hi (by show 4*st.left.toNat<=n+1;omega) (cix st c.name).toNat (xz t path st c.name);have hs:=hb.size;rw[size_note,zbt] at hs;rw[hr];exact⟨_,rfl,hb.inv.note _ _,hb.grow.left,by simp only[size_note];omega⟩
theorem cmds_ok(hv:zH t=true)(hp:path.length<=1048576)(hI:qh n I):∀ (l:List GCmd) (st:RSt),Inv st->4*st.left.toNat+3<=n->(∀ c∈l,zf c.name=true)->∃ r,JW t path I l st=some r/\CmdPost st (12*l.length) r.1/\r.2.length=l.length
 | [],st,h,_,_=>⟨_,rfl,⟨h,Int.le_refl _,Nat.le_refl _⟩,rfl⟩
 |
  c::cs,st,h,hn,hl=>by
  obtain⟨r,hr,h1⟩:=cmd_ok hv hp hI h hn (hl c (List.mem_cons_self ..));have:=h1.left;have:=h1.inv.left;have:=h.left;obtain⟨q,hq,h2,h3⟩:=cmds_ok hv hp hI cs r.1 h1.inv (by omega) λ x hx=>hl x (List.mem_cons_of_mem _ hx)
  have s1:=h1.size;have s2:=h2.size;have l2:=h2.left;unfold JW;rw[hr,obS,hq];exact⟨_,rfl,⟨h2.inv,by simp only;omega,by simp only[List.length_cons];omega⟩,by simp only[List.length_cons];omega⟩
theorem mach_upd{k:Nat}{m:GMod}(hm:st.mods[k]?=some m)(f:GMod->GMod):({ mach t path st with modules:=(bxs st.mods).set k ⟨f m⟩ }:Machine)=mach t path { st with mods:=updA st.mods k f }:=by
 rw[Xu,← Zj f hm];rfl
theorem run_eq(ht:Good t)(hp:path.length<=1048576)(hL:XG t path n R I)(hB:BodyEq t path n R I)(h:Inv st)(hn:4*st.left.toNat+3<=n)(hle:st.left<=1000000)(hsz:st.size<=19990)(hc:zf c.name=true)(_hk:c.kind=0\/c.kind=1\/c.kind=2){r:RSt×Int}(hr:cmdF t path I st c=some r):wu R (mach t path st) c=some (mach t path r.1,r.2):=by
 have sm:=RSt.small hsz (by decide);have hpl:=wN hc;unfold cmdF at hr;unfold wu;rw[ZM sm.mods,obS];by_cases h0:c.kind=0
 ·
  rw[if_pos h0] at hr;obtain⟨q,hq,hr⟩:=bs hr;injection hr with hr;subst hr;rw[if_pos (xK h0),hL st _ q h hc (by omega) (by omega) hq];rfl
 ·
  rw[if_neg h0] at hr;rw[if_neg (by rw[xo h0];decide)];by_cases h2:c.kind=2
  ·
   rw[if_pos h2] at hr;rw[if_pos (xK h2)];rcases wz st c.name with⟨k1,_⟩ | ⟨k,m,k1,k2,_,_⟩
   ·
    rw[k1,W5,if_pos rfl] at hr;injection hr with hr;subst hr;rw[k1,W5,if_pos rfl]
   ·
    rw[k1,Z1,if_neg (by decide),Int.toNat_natCast] at hr;injection hr with hr;subst hr;rw[k1,Z1,if_neg (by decide),show(mach t path st).modules=bxs st.mods from rfl,zJ,wO k2,obS,Int.toNat_natCast,wO k2,obS,mach_upd k2 (λ m=>{ m with cached:=false })];rfl
  ·
   rw[if_neg h2] at hr;rw[if_neg (by rw[xo h2];decide),Yv hc,obS];rcases wz st c.name with⟨k1,_⟩ | ⟨k,m,k1,k2,k3,k4⟩
   ·
    rw[k1,W5,if_pos (.inl rfl)] at hr;injection hr with hr;subst hr;rw[k1,W5,show((true == false)&&(decide (zt c.name≠(⟨[]⟩:Str)) == true))=false from rfl,Za,obS,Bool.true_or,if_pos rfl]
   ·
    rw[k1,Z1,Int.toNat_natCast] at hr;rw[k1,Z1];have hm:=h.at_ k2;have key:(zt c.name=emptyS\/cmpI .lss (cix st (zt c.name)) 0=false)->(if(xz t path st c.name).kind=0 then some (st,(1:Int)) else(runF t path I ((st.again k (xz t path st c.name)).note 0 c.name) k (xz t path st c.name)).bind λ r=>some (r.1.note (if r.2=0 then 1 else 2) c.name,r.2))=some r->
      ((yp (mach t path st) c.name).bind λ v43=>if(cmpI .eql v43.2.kind (0:Int))=true then(some (v43.1,(1:Int))) else((atI v43.1.modules (k:Int)).bind λ v55=>(v43.1.modules[(k:Int).toNat]?).bind λ v57=>(atI (v43.1.modules.set (k:Int).toNat ⟨{ v57.x with kind:=v43.2.kind }⟩) (k:Int)).bind λ v63=>(appO 8 [] v43.2.roots).bind λ v64=>((v43.1.modules.set (k:Int).toNat ⟨{ v57.x with kind:=v43.2.kind }⟩)[(k:Int).toNat]?).bind λ v65=>(R.impl_machine_body ({ v43.1 with modules:=((v43.1.modules.set (k:Int).toNat ⟨{ v57.x with kind:=v43.2.kind }⟩).set (k:Int).toNat ⟨{ v65.x with roots:=v64 }⟩) }) (k:Int) v43.2).bind λ v73=>some (v73.1,v73.2)))=some (mach t path r.1,r.2):=λ _ hr=>by
     rw[look_eq ht hp h sm hc,obS];by_cases hz:(xz t path st c.name).kind=0
     ·
      rw[if_pos hz] at hr;injection hr with hr;subst hr;rw[if_pos (xK hz)]
     ·
      rw[if_neg hz] at hr;have hrl:=Xb (t:=t) h hp c.name;have hlk:=zv k2;rw[if_neg (by rw[xo hz];decide)];dsimp only;rw[show(mach t path st).modules=bxs st.mods from rfl,zJ,wO k2,obS,Int.toNat_natCast,wO k2,obS,Xu,zJ,wO (List.getElem?_set_self hlk),obS,yQ (by simp;omega) (by simp;omega),obS,List.nil_append,obS,Xu,List.set_set];obtain⟨q,hq,hr⟩:=bs hr;injection hr with hr;subst hr;have hst:({ mach t path st with modules:=bxs (st.mods.set k { { m with kind:=(xz t path st c.name).kind } with roots:=(xz t path st c.name).roots }) }:Machine)=mach t path (st.again k (xz t path st c.name)):=by
       unfold RSt.again;rw[Zj _ k2];rfl
      have hk5:(st.again k (xz t path st c.name)).mods[k]?=some { m with kind:=(xz t path st c.name).kind,roots:=(xz t path st c.name).roots }:=by
       unfold RSt.again;show(updA st.mods k _)[k]?=_;rw[Zj _ k2,List.getElem?_set_self hlk]
      have hb:=hB (st.again k (xz t path st c.name)) k _ (xz t path st c.name) q (h.again k hrl) (by show 4*st.left.toNat<=n+1;omega) hle (by rw[zbt];omega) hk5 (zao c.name) (by
       show runF t path I ((st.again k (xz t path st c.name)).note 0 m.name) k _=some q;rw[k3];exact hq)
      rw[hst];have hb':R.impl_machine_body (mach t path (st.again k (xz t path st c.name))) (k:Int) (xz t path st c.name)=some (mach t path (q.1.note (if q.2=0 then 1 else 2) c.name),q.2):=by
       rw[hb];show some (mach t path (q.1.note (if q.2=0 then 1 else 2) m.name),q.2)=_;rw[k3]
      rw[hb',obS]
    by_cases hpar:zt c.name=emptyS
    ·
     rw[if_neg λ e:(false=true\/_)=>e.elim (λ e=>Bool.noConfusion e) λ e=>e.1 hpar] at hr;rw[show((false == false)&&(decide (zt c.name≠(⟨[]⟩:Str)) == true))=false by rw[hpar];rfl,Za,obS,show(false||(decide (zt c.name≠(⟨[]⟩:Str))&&cmpI .lss (default:Int) 0))=false by rw[hpar];rfl,if_neg (by decide)];exact key (.inl hpar) hr
    ·
     have hd:decide (zt c.name≠(⟨[]⟩:Str))=true:=decide_eq_true hpar;rw[hd,show((false == false)&&(true == true))=true from rfl,qr,ZM sm.mods,obS];cases hl:cmpI .lss (cix st (zt c.name)) 0 with
     |
      true=>
      rw[if_pos (.inr ⟨hpar,hl⟩)] at hr;injection hr with hr;subst hr;rw[if_pos (show(false||true&&true)=true from rfl)]
     |
      false=>
      rw[if_neg λ e:(false=true\/_)=>e.elim (λ e=>Bool.noConfusion e) λ e=>Bool.noConfusion (hl.symm.trans e.2)] at hr;rw[if_neg (by decide)];exact key (.inr hl) hr
open Go.RowKit
variable{t:Tree}{path:List Int}{st:RSt}{n:Nat}{R:Rec}{I:RImp}{c:GCmd}
def stepC{σ:Type}(run:σ->GCmd->Option (σ×Int))(l:List GCmd)(s:σ×List Int×Int):Option ((σ×List Int×Int)⊕(σ×List Int)):=
 if cmpI .lss s.2.2 (l.length:Int)=true then(atI l s.2.2).bind λ a=>(run s.1 a).bind λ b=>(appO 8 s.2.1 [b.2]).bind λ c=>(i64 (s.2.2+1)).bind λ d=>some (.inl (b.1,c,d)) else some (.inr (s.1,s.2.1))
def X5(c:GCmd):Bool:=cmpI .geq c.kind 0&&cmpI .leq c.kind 2&&zf c.name
theorem Q2(h:X5 c=true):zf c.name=true/\(c.kind=0\/c.kind=1\/c.kind=2):=by
 unfold X5 at h;simp only[Bool.and_eq_true,cmpI,decide_eq_true_eq] at h;exact⟨h.2,by omega⟩
theorem cmds_loop{σ:Type}{run:σ->GCmd->Option (σ×Int)}{Rp:RSt->σ->Prop}(hv:zH t=true)(hp:path.length<=1048576)(hI:qh n I)
  (hrun:∀ (st:RSt) (s:σ) (c:GCmd) (r:RSt×Int),Inv st->4*st.left.toNat+3<=n->st.left<=1000000->st.size<=19990->X5 c=true->Rp st s->cmdF t path I st c=some r->∃ s',run s c=some (s',r.2)/\Rp r.1 s')
  (l:List GCmd) (hl:∀ c∈l,X5 c=true) (hlen:l.length<=20):∀ (m i:Nat) (st:RSt) (s:σ) (es:List Int) (r:RSt×List Int),i+m=l.length->Inv st->4*st.left.toNat+3<=n->st.left<=1000000->st.size+12*m<=19990->es.length=i->Rp st s->JW t path I (l.drop i) st=some r->
   ∃ s',jA (stepC run l) (m+1) (s,es,(i:Int))=some (s',es++r.2)/\Rp r.1 s'
 |
  0,i,st,s,es,r,hi,_,_,_,_,_,hR,hr=>by
  have:i=l.length:=by omega
  subst this;rw[List.drop_length] at hr;unfold JW at hr;injection hr with hr;subst hr;refine⟨s,yK ?_,hR⟩;unfold stepC;rw[zE,if_neg (by simp),List.append_nil]
 |
  m+1,i,st,s,es,r,hi,h,hn,hle,hsz,he,hR,hr=>by
  have hlt:i<l.length:=by omega
  rw[List.drop_eq_getElem_cons hlt] at hr;unfold JW at hr;obtain⟨q,hq,hr⟩:=bs hr;obtain⟨w,hw,hr⟩:=bs hr;injection hr with hr;subst hr;have hc:=hl _ (List.getElem_mem hlt);obtain⟨q',hq',h1⟩:=cmd_ok hv hp hI h hn (Q2 hc).1;rw[hq] at hq';injection hq' with hq';subst hq';obtain⟨s1,hs1,hR1⟩:=hrun st s _ q h hn hle (by omega) hc hR hq;have:=h1.left;have:=h1.inv.left;have:=h.left;have s2:=h1.size;obtain⟨s',hs',hR'⟩:=cmds_loop hv hp hI hrun l hl hlen m (i+1) q.1 s1 (es++[q.2]) w (by omega) h1.inv (by omega) (by omega) (by omega) (by rw[List.length_append];simp[he]) hR1 hw;refine⟨s',?_,hR'⟩;rw[jL (s':=(s1,es++[q.2],((i+1:Nat):Int))),hs',List.append_assoc]
  ·
   rfl
  ·
   unfold stepC;rw[zE,if_pos (decide_eq_true hlt),zJ,List.getElem?_eq_getElem hlt,obS,hs1,obS,yQ (by simp only[List.length_cons,List.length_nil];omega) (by simp only[List.length_cons,List.length_nil];omega),obS,zR (by omega)];rfl
theorem fold_copy(l:List GMod):∀ o:List GMod,l.foldl (λ o m=>o++[m]) o=o++l:=by
 induction l with
 | nil=>intro o;simp
 | cons a l ih=>intro o;rw[List.foldl_cons,ih];simp
def resV(st:RSt)(es:List Int):GResult:=⟨es,st.out,st.log,st.mods,st.left⟩
theorem result_eq(h:Inv st)(hs:Small st)(es:List Int):xC (mach t path st) es=some (resV st es):=by
 have hm:=hs.mods;have ho:=hs.out;have hg:=hs.log;have hl:zS (λ s16=>yz (mach t path st) s16) ((⟨es,st.out,st.log,[],st.left⟩:GResult),(0:Int))=some (resV st es):=by
  have key:=Jk (step:=λ s16=>yz (mach t path st) s16) st.mods (λ(o:List GMod) i=>((⟨es,st.out,st.log,o,st.left⟩:GResult),(i:Int))) (λ o m=>o++[m]) (λ o=>(⟨es,st.out,st.log,o,st.left⟩:GResult)) (λ i o=>o.length<=i)
   (λ i o x hx hi ho=>⟨by
    have hx':=h.at_ hx;unfold yz;simp only;rw[show(mach t path st).modules=bxs st.mods from rfl,show((bxs st.mods).length:Int)=(st.mods.length:Int) by unfold bxs;rw[List.length_map],zE,if_pos (decide_eq_true hi),zJ,wO hx,obS,yQ (by simp;omega) (by simp;omega),obS,List.nil_append,yQ (by simp;omega) (by simp;omega),obS,List.nil_append,yQ (by simp only[List.length_cons,List.length_nil];omega) (by simp only[List.length_cons,List.length_nil];omega),obS,zR (by omega)];rfl,by rw[List.length_append];show o.length+1<=_;omega⟩) (λ o _=>by
    unfold yz;simp only;rw[show(mach t path st).modules=bxs st.mods from rfl,show((bxs st.mods).length:Int)=(st.mods.length:Int) by unfold bxs;rw[List.length_map],zE,if_neg (by simp)]) (s0:=[]) (Nat.zero_le _) (by omega)
  rw[fold_copy,List.nil_append] at key;exact key
 unfold xC;rw[show(mach t path st).out=st.out from rfl,show(mach t path st).log=st.log from rfl,yQ (by simp;omega) (by simp;omega),obS,List.nil_append,yQ (by simp;omega) (by simp;omega),obS,List.nil_append,show(mach t path st).left=st.left from rfl,hl];rfl
def zat(l:List GCmd):Bool:=l.all X5&&cmpI .leq (l.length:Int) 10
def okR(t:Tree)(path:List Int)(l:List GCmd)(f:Int):Bool:=zH t&&yR path&&zat l&&(cmpI .geq f 0&&cmpI .leq f 120)
def fst0(f:Int):RSt:=⟨[],[],[],f,[]⟩
def WA(t:Tree)(path:List Int)(l:List GCmd)(f:Int):RSt×List Int:=(JW t path (imp t path 483) l (fst0 f)).getD (st0,[])
def runV(t:Tree)(path:List Int)(l:List GCmd)(f:Int):GResult:=if okR t path l f=true then resV (WA t path l f).1 (WA t path l f).2 else⟨[],[],[],[],0⟩
theorem validCmds_any(l:List GCmd):(if l.any (λ c=>!X5 c)=true then(.inr false:Unit⊕Bool) else .inl ())=if l.all X5=true then .inl () else .inr false:=by
 induction l with
 | nil=>rfl
 |
  cons a l ih=>
  rw[List.any_cons,List.all_cons];cases X5 a
  ·
   rfl
  ·
   simpa using ih
theorem zau{l:List GCmd}(hl:l.length<=1048576)(hn:∀ c∈l,sho c.name):wH l=some (zat l):=by
 have h1:zS (λ s4=>y9 l s4) 0=some (if l.any (λ c=>!X5 c)=true then .inr false else .inl ()):=by
  refine Yu _ _ _ _ (λ k x hx hlt=>?_) ?_ (by omega) rfl
  ·
   unfold y9;rw[zE,if_pos (decide_eq_true hlt),zJ,hx,obS,show yj x.kind 0 2=some (cmpI .geq x.kind 0&&cmpI .leq x.kind 2) from rfl,obS,xk (hn x (List.mem_of_getElem? hx)),xy,obS,zR (by omega)];unfold X5;cases(cmpI .geq x.kind 0&&cmpI .leq x.kind 2) <;> cases zf x.name <;> rfl
  ·
   unfold y9;rw[zE,if_neg (by simp)]
 unfold wH zat;rw[h1,validCmds_any];cases l.all X5 <;> rfl
theorem okR_spec{l:List GCmd}{f:Int}(h:okR t path l f=true):zH t=true/\yR path=true/\(∀ c∈l,X5 c=true)/\l.length<=10/\0<=f/\f<=120:=by
 unfold okR zat at h;simp only[Bool.and_eq_true,cmpI,decide_eq_true_eq] at h;exact⟨h.1.1.1,h.1.1.2,List.all_eq_true.1 h.1.2.1,by omega,by omega,by omega⟩
theorem fst0_inv{f:Int}(h:0<=f):Inv (fst0 f):=⟨(λ _ h=>by cases h),(λ _ h=>by cases h),(λ _ h=>by cases h),(λ _ h=>by cases h),h⟩
theorem cmdsR_ok(hp:path.length<=1048576){l:List GCmd}{f:Int}(h:okR t path l f=true):JW t path (imp t path 483) l (fst0 f)=some (WA t path l f)/\CmdPost (fst0 f) (12*l.length) (WA t path l f).1/\(WA t path l f).2.length=l.length/\(WA t path l f).1.size<=12120:=by
 obtain⟨hv,_,hl,hn,f0,f1⟩:=okR_spec h;obtain⟨r,hr,h1,h2⟩:=cmds_ok (t:=t) (path:=path) hv hp (Wr hv hp 483) l (fst0 f) (fst0_inv f0) (by show 4*f.toNat+3<=483;omega) λ c hc=>(Q2 (hl c hc)).1
 have:WA t path l f=r:=by unfold WA;rw[hr];rfl
 rw[this];refine⟨hr,h1,h2,?_⟩;have h3:=h1.size;have:(fst0 f).size=100*f.toNat:=by unfold RSt.size fst0;simp
 omega
theorem runV_off{l:List GCmd}{f:Int}(h:okR t path l f=false):runV t path l f=⟨[],[],[],[],0⟩:=by unfold runV;rw[h];rfl
theorem zbu(ht:qm t)(hp:path.length<=1048576){l:List GCmd}(hl:l.length<=1048576)(hn:∀ c∈l,sho c.name)(f:Int):jv (scc yt) t path l f=some (runV t path l f):=by
 have key:okR t path l f=true->(xt t path f).bind (λ v21=>Option.bind (α:=Machine×(List Int)) (zS (λ s30=>wr (scc yt) l s30) (v21,[],(0:Int))) λ o27=>(xC o27.1 o27.2).bind λ v64=>some v64)=some (runV t path l f):=λ h=>by
  obtain⟨hv,_,hc,hlen,f0,f1⟩:=okR_spec h;obtain⟨h1,h2,h3,h4⟩:=cmdsR_ok hp h;have hL:XG t path 483 (scc yt) (imp t path 483):=W6 ⟨ht,hv⟩ hp 483 yt (by decide);have hB:BodyEq t path 483 (scc yt) (imp t path 483):=body_of (M:=2418) ⟨ht,hv⟩ hp (W6 ⟨ht,hv⟩ hp 483 2418 (by decide));have hz:(fst0 f).size=100*f.toNat:=by unfold RSt.size fst0;simp
  obtain⟨s',hs',hR⟩:=cmds_loop (Rp:=λ st s=>s=mach t path st) (run:=wu (scc yt)) hv hp (Wr hv hp 483) (λ st s c r hi hn hle hsz hk hR hr=>by
   subst hR;exact⟨_,run_eq ⟨ht,hv⟩ hp hL hB hi hn hle hsz (Q2 hk).1 (Q2 hk).2 hr,rfl⟩) l hc (by omega) l.length 0 (fst0 f) (mach t path (fst0 f)) [] (WA t path l f) (by omega) (fst0_inv f0) (by show 4*f.toNat+3<=483;omega) (by show f<=1000000;omega) (by omega) rfl rfl (by rw[List.drop_zero];exact h1)
  subst hR;have hloop:zS (λ s30=>wr (scc yt) l s30) (mach t path (fst0 f),([]:List Int),(0:Int))=some (mach t path (WA t path l f).1,(WA t path l f).2):=jT (m:=l.length+1) hs' (by omega);rw[show xt t path f=some (mach t path (fst0 f)) from rfl,obS,hloop,obS,result_eq h2.inv (RSt.small h4 (by decide)),obS];unfold runV;rw[if_pos h]
 unfold jv;rw[YH ht,obS,YI hp,xy,obS,zau hl hn,xy,obS,show yj f 0 120=some (cmpI .geq f 0&&cmpI .leq f 120) from rfl,xy,obS];by_cases hr:okR t path l f=true
 ·
  have hr':=hr;unfold okR at hr';simp only[Bool.and_eq_true] at hr';rw[hr'.1.1.1,hr'.1.1.2,hr'.1.2,hr'.2.1,hr'.2.2];exact key hr
 ·
  rw[runV_off (Bool.eq_false_iff.2 hr)];have h0:okR t path l f=false:=Bool.eq_false_iff.2 hr;unfold okR at h0
  revert h0
  generalize zH t=a;generalize yR path=b;generalize zat l=c;generalize (cmpI .geq f 0&&cmpI .leq f 120)=d;cases a <;> cases b <;> cases c <;> cases d <;> intro h0 <;> first | rfl | cases h0
open Go.RowKit
variable{t:Tree}{path:List Int}{a b st:RSt}{e:Int}{s:Str}{I:RImp}{c:GCmd}
def Sn(a b:RSt):Prop:=b.mods.length=a.mods.length/\∀ (i:Nat) (m:GMod),a.mods[i]?=some m->∃ m',b.mods[i]?=some m'/\m'.name=m.name/\(m'.cached=true->m.cached=true)
theorem Sn.back(h:Sn a b){i:Nat}{m':GMod}(hm:b.mods[i]?=some m'):∃ m,a.mods[i]?=some m/\m'.name=m.name/\(m'.cached=true->m.cached=true):=by
 have hl:i<a.mods.length:=by rw[← h.1];exact zv hm
 obtain⟨m2,h1,h2⟩:=h.2 i _ (List.getElem?_eq_getElem hl);rw[hm] at h1;injection h1 with h1;subst h1;exact⟨_,List.getElem?_eq_getElem hl,h2⟩
theorem upd_sn{k:Nat}{f:GMod->GMod}(hf:∀ m,(f m).name=m.name/\((f m).cached=true->m.cached=true))(hb:b.mods=updA a.mods k f):Sn a b:=
 ⟨by rw[hb];exact qG ..,λ i m hm=>by
  rw[hb,X0];by_cases e:i=k
  ·
   subst e;rw[if_pos rfl,hm];exact⟨_,rfl,hf m⟩
  ·
   rw[if_neg e];exact⟨m,hm,rfl,id⟩⟩
theorem Sm.sn(h:Sm a b):Sn a b:=⟨h.1,λ i m hm=>let⟨m',h1,h2⟩:=h.2 i m hm;⟨m',h1,h2.name,λ c=>h2.cached ▸ c⟩⟩
theorem sn_same(h:b.mods=a.mods):Sn a b:=⟨by rw[h],λ i m hm=>⟨m,by rw[h];exact hm,rfl,id⟩⟩
structure Wd(st:RSt):Prop where
 dist:∀ (i j:Nat) (m m':GMod),st.mods[i]?=some m->st.mods[j]?=some m'->m.cached=true->m'.cached=true->m.name=m'.name->i=j
 order:∀ (i:Nat) (m:GMod),st.mods[i]?=some m->zt m.name≠emptyS->∃ (j:Nat) (m':GMod),j<i/\st.mods[j]?=some m'/\m'.name=zt m.name
theorem Wd.sn(w:Wd a)(h:Sn a b):Wd b where
 dist i j m m' h1 h2 c1 c2 e:=by
  obtain⟨y,k1,k2,k3⟩:=h.back h1;obtain⟨z,l1,l2,l3⟩:=h.back h2;exact w.dist i j y z k1 l1 (k3 c1) (l3 c2) (by rw[← k2,← l2];exact e)
 order i m h1 hp:=by
  obtain⟨y,k1,k2,_⟩:=h.back h1;rw[k2] at hp ⊢;obtain⟨j,m',j1,j2,j3⟩:=w.order i y k1 hp;obtain⟨m2,l1,l2,_⟩:=h.2 j m' j2;exact⟨j,m2,j1,l1,l2.trans j3⟩
theorem Wd.bgW(w:Wd a)(sp:Spec)(n:New t path a s):Wd (a.begin s sp) where
 dist i j m m' h1 h2 c1 c2 e:=by
  rcases Zx h1 with h1 | ⟨i1,h1⟩
  ·
   rcases Zx h2 with h2 | ⟨j1,h2⟩
   ·
    exact w.dist i j m m' h1 h2 c1 c2 e
   ·
    subst h2;have:=n.gone m (List.mem_of_getElem? h1);rw[show hits s m=true from hits_iff.2 ⟨e,c1⟩] at this;cases this
  ·
   rcases Zx h2 with h2 | ⟨j1,h2⟩
   ·
    subst h1;have:=n.gone m' (List.mem_of_getElem? h2);rw[show hits s m'=true from hits_iff.2 ⟨e.symm,c2⟩] at this;cases this
   ·
    omega
 order i m h1 hp:=by
  rcases Zx h1 with h1 | ⟨i1,h1⟩
  ·
   obtain⟨j,m',j1,j2,j3⟩:=w.order i m h1 hp;exact⟨j,m',j1,X4 _ _ _ j2,j3⟩
  ·
   subst h1;rcases n.up with h | ⟨m',h2,h3⟩
   ·
    exact absurd h hp
   ·
    obtain⟨j,hj⟩:=List.getElem?_of_mem h2;exact⟨j,m',by have:=zv hj;omega,X4 _ _ _ hj,(hits_iff.1 h3).1⟩
theorem Tr.wd(h:Tr t path a b e):Wd a->Wd b:=by
 induction h with
 | stop=>exact id
 | seq _ _ h1 h2=>exact λ w=>h2 (h1 w)
 | tick=>exact λ w=>w.sn (sn_same rfl)
 | out=>exact λ w=>w.sn (sn_same rfl)
 | give=>exact λ w=>w.sn (give_sm ..).sn
 | hit=>exact λ w=>w.sn (sn_same rfl)
 | bad n h he ih=>exact λ w=>(ih (w.bgW _ n)).sn (upd_sn (f:=λ m=>{ m with cached:=false }) (λ _=>⟨rfl,λ h=>by cases h⟩) rfl)
 | good n h ih=>exact λ w=>((ih (w.bgW _ n)).sn (done_sm ..).sn).sn (tell_sm ..).sn
theorem Fnd.of(f:Fnd t path a)(h:∀ (i:Nat) (m:GMod),b.mods[i]?=some m->∃ y,a.mods[i]?=some y/\m.name=y.name/\m.kind=y.kind/\m.roots=y.roots):Fnd t path b:=λ i m hm=>by
 obtain⟨y,h1,h2,h3,h4⟩:=h i m hm;have:=f i y h1;rw[h2,h3,h4];exact this
structure CK(t:Tree)(path:List Int)(a b:RSt):Prop where
 wd:Wd a->Wd b
 fnd:Fnd t path a->Fnd t path b
 log:∃ l,b.log=a.log++l/\Bal l
 out:∃ o,b.out=a.out++o
theorem CK.refl(a:RSt):CK t path a a:=⟨id,id,⟨[],by simp,.nil⟩,[],by simp⟩
theorem CK.trans{c:RSt}(h:CK t path a b)(k:CK t path b c):CK t path a c where
 wd w:=k.wd (h.wd w)
 fnd f:=k.fnd (h.fnd f)
 log:=let⟨x,h1,h2⟩:=h.log;let⟨y,k1,k2⟩:=k.log;⟨x++y,by rw[k1,h1,List.append_assoc],h2.app k2⟩
 out:=let⟨x,h1⟩:=h.out;let⟨y,k1⟩:=k.out;⟨x++y,by rw[k1,h1,List.append_assoc]⟩
theorem cmds_one(c:GCmd)(st:RSt):JW t path I [c] st=(cmdF t path I st c).bind λ r=>some (r.1,[r.2]):=by
 show((cmdF t path I st c).bind λ r=>(JW t path I [] r.1).bind λ q=>some (q.1,r.2::q.2))=_;cases cmdF t path I st c <;> rfl
open Go.RowKit
variable{t:Tree}{path:List Int}{a b:RSt}{s:Str}{I:RImp}{c:GCmd}{l l':List GCmd}{f:Int}
section
variable(hp:path.length<=1048576)
include hp
end
theorem okR_one(t:Tree)(path:List Int)(s:Str):okR t path [⟨0,s⟩] 120=okG t path s:=by
 unfold okR okG zat X5;show(zH t&&yR path&&(((true&&true&&zf s)&&true)&&true)&&(true&&true))=_;cases zH t <;> cases yR path <;> cases zf s <;> rfl
theorem cmdsR_one(hp:path.length<=1048576)(h:okG t path s=true):WA t path [⟨0,s⟩] 120=((ranR t path s).1,[(ranR t path s).2.2]):=by
 obtain⟨hv,_,hs⟩:=Y9 h;have h1:=(cmdsR_ok hp (by rw[okR_one];exact h)).1;rw[cmds_one] at h1;unfold cmdF at h1;rw[if_pos rfl,show fst0 120=st0 from rfl,(Qk hv hp hs).1] at h1;injection h1 with h1;exact h1.symm
theorem runV_one(hp:path.length<=1048576)(h:okG t path s=true):runV t path [⟨0,s⟩] 120=resV (ranR t path s).1 [(ranR t path s).2.2]:=by
 unfold runV;rw[if_pos (by rw[okR_one];exact h),cmdsR_one hp h]
open Go.RowKit
variable{t:Tree}{path:List Int}{s:Str}
theorem zaL(ht:qm t)(hp:path.length<=1048576)(hn:sho s)(h:okG t path s=true):wn (scc yt) t path s=some (resV (ranR t path s).1 [(ranR t path s).2.2]):=by
 unfold wn;rw[zbu ht hp (by simp) (λ c hc=>by rw[List.mem_singleton.1 hc];exact hn),obS,runV_one hp h]
end Go.Proofs.YtmenakmafojpaaaGreatDoor
