import Derived.Test.YtpmkkijamfgaeaaGreatDoorRP
import Derived.Test.YtpmkkijamfgaeaaGreatDoorRN
namespace Go.Proofs.YtpmkkijamfgaeaaGreatDoor
open Go.RowKit
structure RSt where
 mods:List GMod
 log:List GEvent
 out:List Int
 left:Int
 part:List Str
def hits(s:Str)(m:GMod):Bool:=decide (m.name=s)&&m.cached
def cix(st:RSt)(s:Str):Int:=xo (hits s) st.mods
def aix(l:List GAttr)(s:Str):Int:=xo (λ a=>decide (a.name=s)) l
def updA{α:Type}(l:List α)(k:Nat)(f:α->α):List α:=match l[k]? with | some x=>l.set k (f x) | none=>l
theorem QF{α:Type}{l:List α}{k:Nat}{x:α}(f:α->α)(h:l[k]?=some x):updA l k f=l.set k (f x):=by unfold updA;rw[h]
theorem YT{α:Type}(l:List α)(k:Nat)(f:α->α):(updA l k f).length=l.length:=by unfold updA;split <;> simp
theorem Qh{α:Type}{l:List α}{k:Nat}{f:α->α}(i:Nat):(updA l k f)[i]?=if i=k then l[k]?.map f else l[i]?:=by
 unfold updA;split
 ·
  rename_i x hx;by_cases e:i=k
  ·
   subst e;have:=zA hx;rw[if_pos rfl,hx,List.getElem?_set_self this];rfl
  ·
   rw[if_neg e,List.getElem?_set_ne (λ h=>e h.symm)]
 ·
  rename_i hx;by_cases e:i=k
  ·
   subst e;simp[hx]
  ·
   rw[if_neg e]
def qa(l:List GAttr)(s:Str)(v:GVal):List GAttr:=if cmpI .geq (aix l s) 0=true then updA l (aix l s).toNat (λ a=>{ a with value:=v }) else l++[⟨s,v⟩]
def RSt.note(st:RSt)(k:Int)(s:Str):RSt:={ st with log:=st.log++[⟨k,s⟩] }
def RSt.doneAt(st:RSt)(k:Nat):Bool:=((st.mods[k]?).map (·.done)).getD false
def RSt.hit(st:RSt)(k:Nat)(s:Str):RSt:={ st with log:=st.log++[⟨3,s⟩],part:=if st.doneAt k=false/\s ∉ st.part then st.part++[s] else st.part }
def RSt.give(st:RSt)(at_:Nat)(s:Str)(v:GVal):RSt:={ st with mods:=updA st.mods at_ (λ m=>{ m with attrs:=qa m.attrs s v }) }
def RSt.begin(st:RSt)(s:Str)(sp:Spec):RSt:={ st with mods:=st.mods++[⟨s,sp.kind,sp.roots,true,false,[]⟩],log:=st.log++[⟨0,s⟩] }
def RSt.fail(st:RSt)(at_:Nat)(s:Str):RSt:={ st with mods:=updA st.mods at_ (λ m=>{ m with cached:=false }),log:=st.log++[⟨2,s⟩] }
def RSt.done(st:RSt)(at_:Nat)(s:Str):RSt:={ st with mods:=updA st.mods at_ (λ m=>{ m with done:=true }),log:=st.log++[⟨1,s⟩] }
def RSt.tell(st:RSt)(at_:Nat)(s:Str):RSt:=if cmpI .geq (cix st (zk s)) 0=true then st.give (cix st (zk s)).toNat (jk s) ⟨1,(at_:Int)⟩ else st
def RSt.kindAt(st:RSt)(k:Nat):Int:=((st.mods[k]?).map (·.kind)).getD 0
def RSt.rootsAt(st:RSt)(k:Nat):List Int:=((st.mods[k]?).map (·.roots)).getD []
def RSt.attrsAt(st:RSt)(k:Nat):List GAttr:=((st.mods[k]?).map (·.attrs)).getD []
def RSt.nameAt(st:RSt)(k:Nat):Str:=((st.mods[k]?).map (·.name)).getD emptyS
def qj(t:Tree)(path:List Int)(st:RSt)(s:Str):Spec:=
 if zk s=emptyS then wQ t.files path emptyS s
 else if cmpI .lss (cix st (zk s)) 0=true then Yd
 else if st.kindAt (cix st (zk s)).toNat=1 then Yd
 else wQ t.files (st.rootsAt (cix st (zk s)).toNat) (zk s) (jk s)
def Zm(s:Str):Str:=(zj s dot).headD emptyS
section
variable(t:Tree)(path:List Int)
abbrev RImp:=RSt->Str->Option (RSt×Int×Int)
def XS(at_:Nat)(l:List GAttr)(st:RSt):RSt:=l.foldl (λ st a=>if(a.name.l.headD 0 == 122)=true then st else st.give at_ a.name a.value) st
def zbw(st:RSt)(at_:Nat):Str:=if st.kindAt at_=1 then zk (st.nameAt at_) else st.nameAt at_
def zaI(I:RImp)(st:RSt)(k:Nat)(s:Str):Option (RSt×GVal×Int):=
 if cmpI .geq (aix (st.attrsAt k) s) 0=true then some (st,(((st.attrsAt k)[(aix (st.attrsAt k) s).toNat]?).map (·.value)).getD ⟨0,0⟩,0)
 else if st.kindAt k=1\/zd (child (st.nameAt k) s)=false then some (st,⟨0,0⟩,2)
 else if cmpI .lss (cix st (child (st.nameAt k) s)) 0=true/\(qj t path st (child (st.nameAt k) s)).kind=0 then some (st,⟨0,0⟩,2)
 else(I st (child (st.nameAt k) s)).bind λ r=>some (r.1,⟨1,r.2.1⟩,r.2.2)
def Yt(I:RImp)(st:RSt)(at_:Nat)(x:Stmt):Option (RSt×Int):=
 if x.kind=0 then(I st x.module).bind λ r=>
  if r.2.2≠0 then some (r.1,r.2.2) else if cmpI .lss (cix r.1 (Zm x.module)) 0=true then some (r.1,1) else some (r.1.give at_ (Zm x.module) ⟨1,cix r.1 (Zm x.module)⟩,0)
 else if x.kind=1 then
  if zd (Z4 (zbw st at_) x.level x.module)=false then some (st,5) else
  (I st (Z4 (zbw st at_) x.level x.module)).bind λ r=>if r.2.2≠0 then some (r.1,r.2.2) else
  (zaI t path I r.1 r.2.1.toNat x.name).bind λ q=>if q.2.2≠0 then some (q.1,q.2.2) else some (q.1.give at_ x.name q.2.1,0)
 else if x.kind=2 then(I st x.module).bind λ r=>
  if r.2.2≠0 then some (r.1,r.2.2) else some (XS at_ (r.1.attrsAt r.2.1.toNat) r.1,0)
 else if x.kind=3 then some (st.give at_ x.name ⟨0,x.value⟩,0)
 else if x.kind=4 then
  if cmpI .lss (aix (st.attrsAt at_) x.name) 0=true then some (st,3) else
  some ({ st with out:=st.out++[(let v:=(((st.attrsAt at_)[(aix (st.attrsAt at_) x.name).toNat]?).map (·.value)).getD ⟨0,0⟩;if v.kind=1 then -1 else v.num)] },0)
 else if x.kind=5 then some (st,4)
 else some (st,0)
def W5(I:RImp)(at_:Nat):List Stmt->RSt->Option (RSt×Int)
 | [],st=>some (st,0)
 | x::xs,st=>if st.left=0 then some (st,6) else(Yt t path I { st with left:=st.left - 1 } at_ x).bind λ r=>if r.2≠0 then some r else W5 I at_ xs r.1
def runF(I:RImp)(st:RSt)(at_:Nat)(sp:Spec):Option (RSt×Int):=if cmpI .geq sp.file 0=true then W5 t path I at_ (Zj t.files sp.file).body st else some (st,0)
def newF(I:RImp)(st:RSt)(s:Str)(sp:Spec):Option (RSt×Int×Int):=
 if sp.kind=0 then some (st,-1,1) else
 (runF t path I (st.begin s sp) st.mods.length sp).bind λ r=>
  if r.2≠0 then some (r.1.fail st.mods.length s,-1,r.2) else some ((r.1.done st.mods.length s).tell st.mods.length s,(st.mods.length:Int),0)
def impF(I:RImp)(st:RSt)(s:Str):Option (RSt×Int×Int):=
 if cmpI .geq (cix st s) 0=true then some (st.hit (cix st s).toNat s,cix st s,0) else
 (if zk s=emptyS then some (st,0,0) else I st (zk s)).bind λ r=>
  if r.2.2≠0 then some (r.1,-1,r.2.2) else
  if cmpI .geq (cix r.1 s) 0=true then some (r.1.hit (cix r.1 s).toNat s,cix r.1 s,0) else newF t path I r.1 s (qj t path r.1 s)
def imp:Nat->RImp
 | 0=>λ _ _=>none
 | n+1=>impF t path (imp n)
end
open Go.RowKit
theorem W6{α:Type}{p:α->Bool}{l:List α}(h:cmpI .geq (xo p l) 0=true):∃ x,l[(xo p l).toNat]?=some x/\p x=true/\0<=xo p l:=by
 rw[YP] at h;have h':cmpI .lss (xo p l) 0=false:=by simpa using h
 obtain⟨x,h1,h2⟩:=zaE h';exact⟨x,h1,h2,by simpa[cmpI] using h'⟩
theorem qN(s:Str):1<=(zj s dot).length:=by have:=Wh s dot;omega
theorem YU{s:Str}(h:zd s=true):(zj s dot).length<=3:=(yk h).2
theorem wP{s:Str}(h:zd s=true)(hp:zk s≠emptyS):(zj (zk s) dot).length+1=(zj s dot).length/\zd (zk s)=true:=by
 obtain⟨h1,h2⟩:=yk h;have h0:=qN s;by_cases e:(zj s dot).length=1
 ·
  exfalso
  apply hp;unfold zk;rw[e];rfl
 ·
  have hne:(zj s dot).take ((zj s dot).length - 1)≠[]:=λ e1=>by
   have:=congrArg List.length e1;rw[List.length_take,List.length_nil] at this;omega
  have hv:∀ x∈(zj s dot).take ((zj s dot).length - 1),zD x=true:=λ x hx=>h1 x (List.mem_of_mem_take hx)
  constructor
  ·
   unfold zk;rw[Xe hne hv,List.length_take];omega
  ·
   exact Ju hne (by rw[List.length_take];omega) hv
theorem zaJ{s:Str}(h:zd s=true):zD (jk s)=true:=(yk h).1 _ (List.mem_of_getElem? (last_get s))
theorem first_valid{s:Str}(h:zd s=true):zD (Zm s)=true:=by
 unfold Zm;have h1:=(yk h).1;have h0:=qN s;cases hs:zj s dot with
 | nil=>rw[hs] at h0;simp at h0
 | cons a l=>exact h1 a (by rw[hs];exact List.mem_cons_self ..)
theorem qP{x:Stmt}(h:zX x=true)(hk:x.kind=0\/x.kind=2):zd x.module=true:=by
 rcases Ze h with h1 | h1 | h1
 ·
  exact h1.2
 ·
  omega
 ·
  omega
theorem QG{x:Stmt}(h:zX x=true)(hk:x.kind=1\/x.kind=3\/x.kind=4):zD x.name=true:=by
 unfold zX at h;rcases hk with hk | hk | hk <;> simp only[hk,cmpI] at h <;> simp at h <;> first | exact h.1.2 | exact h.2.1 | exact h.1.1.2 | (exact h.1.2.1) | (exact h.2.2.1)
structure Inv(st:RSt):Prop where
 names:∀ m∈st.mods,zd m.name=true
 roots:∀ m∈st.mods,m.roots.length<=1048576
 parts:∀ m∈st.mods,∀ a∈m.attrs,zD a.name=true
 apart:∀ m∈st.mods,(m.attrs.map (·.name)).Nodup
 left:0<=st.left
structure Grow(a b:RSt):Prop where
 left:b.left<=a.left
 old:∀ (i:Nat) (m:GMod),a.mods[i]?=some m->∃ m',b.mods[i]?=some m'/\m'.name=m.name
theorem Grow.refl(a:RSt):Grow a a:=⟨Int.le_refl _,λ _ m h=>⟨m,h,rfl⟩⟩
theorem Grow.trans{a b c:RSt}(h:Grow a b)(k:Grow b c):Grow a c:=⟨Int.le_trans k.left h.left,λ i m hm=>let⟨m1,h1,h2⟩:=h.old i m hm;let⟨m2,k1,k2⟩:=k.old i m1 h1;⟨m2,k1,k2.trans h2⟩⟩
def RSt.size(st:RSt):Nat:=st.log.length+st.out.length+st.mods.length+st.part.length+100*st.left.toNat
theorem zbx{α:Type}{l:List α}{k:Nat}{f:α->α}{x:α}(h:x∈updA l k f):x∈l\/∃ y∈l,x=f y:=by
 unfold updA at h;split at h
 ·
  rename_i y hy;rcases List.mem_or_eq_of_mem_set h with h | h
  ·
   exact .inl h
  ·
   exact .inr ⟨y,List.mem_of_getElem? hy,h⟩
 ·
  exact .inl h
theorem updA_old{l:List GMod}{k:Nat}{f:GMod->GMod}(hf:∀ m,(f m).name=m.name){i:Nat}{m:GMod}(h:l[i]?=some m):∃ m',(updA l k f)[i]?=some m'/\m'.name=m.name:=by
 rw[Qh];by_cases e:i=k
 ·
  subst e;rw[if_pos rfl,h];exact⟨f m,rfl,hf m⟩
 ·
  rw[if_neg e];exact⟨m,h,rfl⟩
theorem QI(l:List GAttr)(s:Str)(v:GVal):(qa l s v).map (·.name)=if cmpI .geq (aix l s) 0=true then l.map (·.name) else l.map (·.name)++[s]:=by
 unfold qa;split
 ·
  rename_i h;obtain⟨x,h1,h2,_⟩:=W6 h;have h1':l[(aix l s).toNat]?=some x:=h1;rw[QF _ h1',List.map_set];apply List.ext_getElem?;intro i;by_cases e:(aix l s).toNat=i
  ·
   subst e;have:=zA h1';rw[List.getElem?_set_self (by simpa using this),List.getElem?_map,h1'];rfl
  ·
   rw[List.getElem?_set_ne e]
 ·
  simp
theorem Xg{α:Type}{p:α->Bool}{l:List α}(h:cmpI .geq (xo p l) 0=false):∀ x∈l,p x=false:=by
 rw[Wq] at h;intro x hx;cases hp:p x with
 | false=>rfl
 | true=>rw[List.any_eq_true.2 ⟨x,hx,hp⟩] at h;cases h
theorem put_apart{l:List GAttr}{s:Str}{v:GVal}(h:(l.map (·.name)).Nodup):((qa l s v).map (·.name)).Nodup:=by
 rw[QI];split
 ·
  exact h
 ·
  rename_i hh;have hn:=Xg (by simpa[aix] using hh);refine List.nodup_append.2 ⟨h,by simp,λ a ha b hb e=>?_⟩;simp only[List.mem_singleton] at hb;subst hb;subst e;obtain⟨x,hx,hxa⟩:=List.mem_map.1 ha;have:=hn x hx;simp[hxa] at this
theorem put_parts{l:List GAttr}{s:Str}{v:GVal}(hs:zD s=true)(h:∀ a∈l,zD a.name=true):∀ a∈qa l s v,zD a.name=true:=by
 intro a ha;have:a.name∈(qa l s v).map (·.name):=List.mem_map_of_mem ha;rw[QI] at this;split at this
 ·
  obtain⟨x,hx,e⟩:=List.mem_map.1 this;rw[← e];exact h x hx
 ·
  rcases List.mem_append.1 this with h1 | h1
  ·
   obtain⟨x,hx,e⟩:=List.mem_map.1 h1;rw[← e];exact h x hx
  ·
   simp only[List.mem_singleton] at h1;rw[h1];exact hs
variable{st:RSt}
theorem Inv.upd(h:Inv st){k:Nat}{f:GMod->GMod}(h1:∀ m,(f m).name=m.name)(h2:∀ m∈st.mods,(f m).roots.length<=1048576)(h3:∀ m∈st.mods,∀ a∈(f m).attrs,zD a.name=true)(h4:∀ m∈st.mods,((f m).attrs.map (·.name)).Nodup){lg:List GEvent}{o:List Int}:Inv { st with mods:=updA st.mods k f,log:=lg,out:=o } where
 names:=λ m hm=>(zbx hm).elim (h.names m) λ⟨y,hy,e⟩=>by rw[e,h1];exact h.names y hy
 roots:=λ m hm=>(zbx hm).elim (h.roots m) λ⟨y,hy,e⟩=>by rw[e];exact h2 y hy
 parts:=λ m hm=>(zbx hm).elim (h.parts m) λ⟨y,hy,e⟩=>by rw[e];exact h3 y hy
 apart:=λ m hm=>(zbx hm).elim (h.apart m) λ⟨y,hy,e⟩=>by rw[e];exact h4 y hy
 left:=h.left
theorem Inv.hit(h:Inv st)(k:Nat)(s:Str):Inv (st.hit k s):=⟨h.names,h.roots,h.parts,h.apart,h.left⟩
theorem size_hit(st:RSt)(k:Nat)(s:Str):(st.hit k s).size<=st.size+2:=by
 unfold RSt.size RSt.hit;simp only[List.length_append,List.length_cons,List.length_nil];split
 ·
  simp only[List.length_append,List.length_cons,List.length_nil];omega
 ·
  omega
theorem Inv.note(h:Inv st)(k:Int)(s:Str):Inv (st.note k s):=⟨h.names,h.roots,h.parts,h.apart,h.left⟩
theorem Inv.give(h:Inv st)(k:Nat){s:Str}(v:GVal)(hs:zD s=true):Inv (st.give k s v):=
 h.upd (f:=λ m=>{ m with attrs:=qa m.attrs s v }) (lg:=st.log) (o:=st.out) (λ _=>rfl) h.roots (λ m hm=>put_parts hs (h.parts m hm)) λ m hm=>put_apart (h.apart m hm)
theorem Inv.fail(h:Inv st)(k:Nat)(s:Str):Inv (st.fail k s):=h.upd (f:=λ m=>{ m with cached:=false }) (λ _=>rfl) h.roots h.parts h.apart
theorem Inv.done(h:Inv st)(k:Nat)(s:Str):Inv (st.done k s):=h.upd (f:=λ m=>{ m with done:=true }) (λ _=>rfl) h.roots h.parts h.apart
theorem Inv.begin(h:Inv st){s:Str}{sp:Spec}(hs:zd s=true)(hr:sp.roots.length<=1048576):Inv (st.begin s sp) where
 names:=λ m hm=>(List.mem_append.1 hm).elim (h.names m) λ e=>by simp only[List.mem_singleton] at e;rw[e];exact hs
 roots:=λ m hm=>(List.mem_append.1 hm).elim (h.roots m) λ e=>by simp only[List.mem_singleton] at e;rw[e];exact hr
 parts:=λ m hm=>(List.mem_append.1 hm).elim (h.parts m) λ e=>by simp only[List.mem_singleton] at e;rw[e];intro a ha;simp at ha
 apart:=λ m hm=>(List.mem_append.1 hm).elim (h.apart m) λ e=>by simp only[List.mem_singleton] at e;rw[e];exact List.Pairwise.nil
 left:=h.left
theorem Grow.upd{k:Nat}{f:GMod->GMod}(h1:∀ m,(f m).name=m.name){lg:List GEvent}{o:List Int}:Grow st { st with mods:=updA st.mods k f,log:=lg,out:=o }:=⟨Int.le_refl _,λ _ _ h=>updA_old h1 h⟩
theorem Grow.give(k:Nat)(s:Str)(v:GVal):Grow st (st.give k s v):=Grow.upd (f:=λ m=>{ m with attrs:=qa m.attrs s v }) (lg:=st.log) (o:=st.out) λ _=>rfl
theorem Grow.begin(s:Str)(sp:Spec):Grow st (st.begin s sp):=⟨Int.le_refl _,λ i m h=>⟨m,by
 show(st.mods++_)[i]?=some m;rw[List.getElem?_append_left (zA h)];exact h,rfl⟩⟩
theorem W7(k:Nat)(s:Str)(v:GVal):(st.give k s v).size=st.size:=by unfold RSt.size RSt.give;simp[YT]
theorem Inv.tell(h:Inv st)(k:Nat){s:Str}(hs:zd s=true):Inv (st.tell k s):=by
 unfold RSt.tell;split
 ·
  exact h.give _ _ (zaJ hs)
 ·
  exact h
theorem Grow.tell(k:Nat)(s:Str):Grow st (st.tell k s):=by
 unfold RSt.tell;split
 ·
  exact Grow.give ..
 ·
  exact Grow.refl _
theorem size_tell(k:Nat)(s:Str):(st.tell k s).size=st.size:=by
 unfold RSt.tell;split
 ·
  exact W7 ..
 ·
  rfl
theorem star_ok(at_:Nat):∀ (l:List GAttr) {st:RSt},Inv st->(∀ a∈l,zD a.name=true)->Inv (XS at_ l st)/\Grow st (XS at_ l st)/\(XS at_ l st).size=st.size
 | [],st,h,_=>⟨h,Grow.refl _,rfl⟩
 |
  a::l,st,h,hl=>by
  unfold XS;rw[List.foldl_cons];have hl':=λ b hb=>hl b (List.mem_cons_of_mem _ hb)
  split
  ·
   exact star_ok at_ l h hl'
  ·
   have h1:=star_ok at_ l (h.give at_ a.value (hl a (List.mem_cons_self ..))) hl';exact⟨h1.1,(Grow.give at_ a.name a.value).trans h1.2.1,h1.2.2.trans (W7 ..)⟩
variable{t:Tree}{path:List Int}
structure ImpPost(st:RSt)(s:Str)(r:RSt×Int×Int):Prop where
 inv:Inv r.1
 grow:Grow st r.1
 size:r.1.size<=st.size+4*(zj s dot).length
 good:r.2.2=0->∃ m,r.1.mods[r.2.1.toNat]?=some m/\m.name=s/\0<=r.2.1
 bad:r.2.2≠0->r.2.1=-1
 ends:0<=r.2.2/\r.2.2<=6
def Wu(n:Nat)(I:RImp):Prop:=∀ (st:RSt) (s:Str),Inv st->zd s=true->4*st.left.toNat+(zj s dot).length<=n->∃ r,I st s=some r/\ImpPost st s r
structure BodyPost(st:RSt)(c:Nat)(r:RSt×Int):Prop where
 inv:Inv r.1
 grow:Grow st r.1
 size:r.1.size<=st.size+c
 ends:0<=r.2/\r.2<=6
theorem Inv.attrs(h:Inv st)(k:Nat):(∀ a∈st.attrsAt k,zD a.name=true)/\((st.attrsAt k).map (·.name)).Nodup:=by
 unfold RSt.attrsAt;cases hm:st.mods[k]? with
 | none=>exact⟨by simp,by simp⟩
 | some m=>exact⟨h.parts m (List.mem_of_getElem? hm),h.apart m (List.mem_of_getElem? hm)⟩
theorem zby(tf:List File){roots:List Int}{p s:Str}(h:roots.length<=1048576):(wQ tf roots p s).roots.length<=1048576:=by
 have:=WF tf p s roots [];unfold wQ;simp at this;omega
theorem zdo(h:Inv st)(hp:path.length<=1048576)(s:Str):(qj t path st s).roots.length<=1048576:=by
 unfold qj;split
 ·
  exact zby _ hp
 ·
  split
  ·
   exact Nat.zero_le _
  ·
   split
   ·
    exact Nat.zero_le _
   ·
    refine zby _ ?_;unfold RSt.rootsAt;cases hm:st.mods[(cix st (zk s)).toNat]? with
    | none=>exact Nat.zero_le _
    | some m=>exact h.roots m (List.mem_of_getElem? hm)
theorem value_ok{n:Nat}{I:RImp}(hI:Wu n I)(h:Inv st)(hn:4*st.left.toNat+3<=n)(k:Nat)(s:Str)(_hs:zD s=true):∃ r,zaI t path I st k s=some r/\BodyPost st 12 (r.1,r.2.2):=by
 unfold zaI;have h0:∀ {v:GVal} {e:Int},0<=e->e<=6->∃ r,some (st,v,e)=some r/\BodyPost st 12 (r.1,r.2.2):=λ h1 h2=>⟨_,rfl,h,Grow.refl _,Nat.le_add_right _ _,h1,h2⟩
 split
 ·
  exact h0 (by decide) (by decide)
 ·
  split
  ·
   exact h0 (by decide) (by decide)
  ·
   rename_i hc;split
   ·
    exact h0 (by decide) (by decide)
   ·
    have hv:zd (child (st.nameAt k) s)=true:=by
     cases hv:zd (child (st.nameAt k) s) with
     | true=>rfl
     | false=>exact absurd (.inr hv) hc
    have hp:=YU hv;obtain⟨r,hr,hk⟩:=hI st _ h hv (by omega);rw[hr];have:=hk.size;exact⟨_,rfl,hk.inv,hk.grow,by simp only;omega,hk.ends⟩
theorem stmt_ok{n:Nat}{I:RImp}(hI:Wu n I)(h:Inv st)(hn:4*st.left.toNat+3<=n)(at_:Nat){x:Stmt}(hx:zX x=true):∃ r,Yt t path I st at_ x=some r/\BodyPost st 30 r:=by
 have h0:∀ {e:Int},0<=e->e<=6->∃ r,some (st,e)=some r/\BodyPost st 30 r:=λ h1 h2=>⟨_,rfl,h,Grow.refl _,Nat.le_add_right _ _,h1,h2⟩
 have key:∀ {s:Str} (hv:zd s=true),∃ r,I st s=some r/\ImpPost st s r/\r.1.size<=st.size+12:=λ hv=>by
  have hp:=YU hv;obtain⟨r,hr,hk⟩:=hI st _ h hv (by omega);have:=hk.size;exact⟨r,hr,hk,by omega⟩
 unfold Yt;split
 ·
  rename_i hk;have hv:zd x.module=true:=qP hx (.inl hk);obtain⟨r,hr,hp,hsz⟩:=key hv;rw[hr];simp only[obS];split
  ·
   exact⟨_,rfl,hp.inv,hp.grow,by simp only;omega,hp.ends⟩
  ·
   split
   ·
    exact⟨_,rfl,hp.inv,hp.grow,by simp only;omega,by simp,by simp⟩
   ·
    exact⟨_,rfl,hp.inv.give _ _ (first_valid hv),hp.grow.trans (Grow.give ..),by simp only[W7];omega,by simp,by simp⟩
 ·
  rename_i k0;split
  ·
   rename_i k1;split
   ·
    exact h0 (by decide) (by decide)
   ·
    rename_i hv;have hv':zd (Z4 (zbw st at_) x.level x.module)=true:=by simpa using hv
    obtain⟨r,hr,hp,hsz⟩:=key hv';rw[hr];simp only[obS];split
    ·
     exact⟨_,rfl,hp.inv,hp.grow,by simp only;omega,hp.ends⟩
    ·
     have hl:=hp.grow.left;obtain⟨q,hq,hb⟩:=value_ok (t:=t) (path:=path) hI hp.inv (by have:=h.left;have:=hp.inv.left;omega) r.2.1.toNat x.name (QG hx (.inl k1));have hbs:=hb.size;rw[hq];simp only[obS];split
     ·
      exact⟨_,rfl,hb.inv,hp.grow.trans hb.grow,by simp only at hbs ⊢;omega,hb.ends⟩
     ·
      exact⟨_,rfl,hb.inv.give _ _ (QG hx (.inl k1)),hp.grow.trans (hb.grow.trans (Grow.give ..)),by simp only[W7] at hbs ⊢;omega,by simp,by simp⟩
  ·
   rename_i k1;split
   ·
    rename_i k2;obtain⟨r,hr,hp,hsz⟩:=key (qP hx (.inr k2));rw[hr];simp only[obS];split
    ·
     exact⟨_,rfl,hp.inv,hp.grow,by simp only;omega,hp.ends⟩
    ·
     have h1:=star_ok at_ _ hp.inv (hp.inv.attrs r.2.1.toNat).1;exact⟨_,rfl,h1.1,hp.grow.trans h1.2.1,by simp only[h1.2.2];omega,by simp,by simp⟩
   ·
    split
    ·
     rename_i k3;exact⟨_,rfl,h.give _ _ (QG hx (.inr (.inl k3))),Grow.give ..,by simp only[W7];omega,by simp,by simp⟩
    ·
     split
     ·
      split
      ·
       exact h0 (by decide) (by decide)
      ·
       refine⟨_,rfl,⟨h.names,h.roots,h.parts,h.apart,h.left⟩,⟨Int.le_refl _,λ _ m h=>⟨m,h,rfl⟩⟩,?_,by simp,by simp⟩;unfold RSt.size;simp only[List.length_append,List.length_cons,List.length_nil];omega
     ·
      split
      ·
       exact h0 (by decide) (by decide)
      ·
       exact h0 (by decide) (by decide)
theorem body_ok{n:Nat}{I:RImp}(hI:Wu n I)(at_:Nat):∀ (l:List Stmt) (st:RSt),Inv st->4*st.left.toNat<=n+1->(∀ x∈l,zX x=true)->∃ r,W5 t path I at_ l st=some r/\BodyPost st 0 r
 | [],st,h,_,_=>⟨_,rfl,h,Grow.refl _,Nat.le_refl _,by simp,by simp⟩
 |
  x::l,st,h,hn,hl=>by
  unfold W5;split
  ·
   exact⟨_,rfl,h,Grow.refl _,Nat.le_refl _,by simp,by simp⟩
  ·
   rename_i hz;have h1:Inv { st with left:=st.left - 1 }:=⟨h.names,h.roots,h.parts,h.apart,by have:=h.left;show(0:Int)<=st.left - 1;omega⟩;have hgr:Grow st { st with left:=st.left - 1 }:=⟨by show st.left - 1<=st.left;omega,λ _ m h=>⟨m,h,rfl⟩⟩;have hsz:RSt.size { st with left:=st.left - 1 }+100=st.size:=by
    unfold RSt.size;have:=h.left;simp only;omega
   obtain⟨r,hr,hb⟩:=stmt_ok (t:=t) (path:=path) hI h1 (by have:=h.left;show 4*(st.left - 1).toNat+3<=n;omega) at_ (hl x (List.mem_cons_self ..));have hbs:=hb.size;rw[hr];simp only[obS];split
   ·
    exact⟨_,rfl,hb.inv,hgr.trans hb.grow,by omega,hb.ends⟩
   ·
    have hle:=hb.grow.left;obtain⟨q,hq,hk⟩:=body_ok hI at_ l r.1 hb.inv (by have:=h.left;have:=hb.inv.left;simp only at hle;omega) λ y hy=>hl y (List.mem_cons_of_mem _ hy)
    have hks:=hk.size;exact⟨q,hq,hk.inv,hgr.trans (hb.grow.trans hk.grow),by omega,hk.ends⟩
theorem YV(hv:zw t=true)(k:Int):∀ x∈(Zj t.files k).body,zX x=true:=by
 unfold Zj;cases hf:t.files[k.toNat]? with
 | none=>intro x hx;simp at hx;cases hx
 |
  some f=>
  have:=wW hv (List.mem_of_getElem? hf);unfold xz at this;simp only[Bool.and_eq_true] at this;exact List.all_eq_true.1 this.1
theorem run_ok{n:Nat}{I:RImp}(hv:zw t=true)(hI:Wu n I)(h:Inv st)(hn:4*st.left.toNat<=n+1)(at_:Nat)(sp:Spec):∃ r,runF t path I st at_ sp=some r/\BodyPost st 0 r:=by
 unfold runF;split
 ·
  exact body_ok hI at_ _ st h hn (YV hv _)
 ·
  exact⟨_,rfl,h,Grow.refl _,Nat.le_refl _,by simp,by simp⟩
theorem new_ok{n:Nat}{I:RImp}(hv:zw t=true)(hI:Wu n I)(h:Inv st)(hn:4*st.left.toNat<=n+1){s:Str}(hs:zd s=true){sp:Spec}(hr:sp.roots.length<=1048576):∃ r,newF t path I st s sp=some r/\ImpPost st s r/\r.1.size<=st.size+3:=by
 unfold newF;have hpp:=qN s;split
 ·
  exact⟨_,rfl,⟨h,Grow.refl _,Nat.le_add_right _ _,λ e=>absurd e (by simp),λ _=>rfl,by simp,by simp⟩,Nat.le_add_right _ _⟩
 ·
  have h1:=h.begin (sp:=sp) hs hr;have hbz:(st.begin s sp).size=st.size+2:=by unfold RSt.size RSt.begin;simp only[List.length_append,List.length_cons,List.length_nil];omega
  obtain⟨r,hr,hb⟩:=run_ok (path:=path) hv hI h1 (by show 4*st.left.toNat<=n+1;exact hn) st.mods.length sp;have hbs:=hb.size;have hg:Grow st r.1:=(Grow.begin s sp).trans hb.grow;obtain⟨m,hm,hmn⟩:=hb.grow.old st.mods.length ⟨s,sp.kind,sp.roots,true,false,[]⟩ (by unfold RSt.begin;simp);rw[hr];simp only[obS];split
  ·
   rename_i he;have hsz:(r.1.fail st.mods.length s).size=r.1.size+1:=by unfold RSt.size RSt.fail;simp only[YT,List.length_append,List.length_cons,List.length_nil];omega
   exact⟨_,rfl,⟨hb.inv.fail _ _,hg.trans (Grow.upd (f:=λ m=>{ m with cached:=false }) λ _=>rfl),by simp only;omega,λ e=>absurd e he,λ _=>rfl,hb.ends⟩,by simp only;omega⟩
  ·
   have hsz:(r.1.done st.mods.length s).size=r.1.size+1:=by unfold RSt.size RSt.done;simp only[YT,List.length_append,List.length_cons,List.length_nil];omega
   have hgd:Grow r.1 (r.1.done st.mods.length s):=Grow.upd (f:=λ m=>{ m with done:=true }) λ _=>rfl
   have hgt:=Grow.tell (st:=r.1.done st.mods.length s) st.mods.length s;refine⟨_,rfl,⟨(hb.inv.done _ _).tell _ hs,hg.trans (hgd.trans hgt),by simp only[size_tell];omega,λ _=>?_,λ e=>absurd rfl e,by simp,by simp⟩,by simp only[size_tell];omega⟩;obtain⟨m2,hm2,hn2⟩:=(hgd.trans hgt).old _ m hm;exact⟨m2,by simpa using hm2,hn2.trans hmn,by simp only;omega⟩
theorem imp_ok(hv:zw t=true)(hp:path.length<=1048576):∀ n,Wu n (imp t path n)
 | 0=>λ st s _ _ hn=>absurd (qN s) (by omega)
 |
  n+1=>by
  intro st s h hs hn;have hpp:=qN s;unfold imp impF;have hhit:∀ {st':RSt},Inv st'->Grow st st'->st'.size+2<=st.size+4*(zj s dot).length->cmpI .geq (cix st' s) 0=true->∃ r,some (st'.hit (cix st' s).toNat s,cix st' s,(0:Int))=some r/\ImpPost st s r:=λ h' hg hsz hc=>by
   obtain⟨m,h1,h2,h3⟩:=W6 hc;refine⟨_,rfl,h'.hit _ _,hg.trans ⟨Int.le_refl _,λ _ m h=>⟨m,h,rfl⟩⟩,?_,λ _=>⟨m,h1,?_,h3⟩,λ e=>absurd rfl e,by simp,by simp⟩
   ·
    exact Nat.le_trans (size_hit _ _ s) hsz
   ·
    unfold hits at h2;simp only[Bool.and_eq_true,decide_eq_true_eq] at h2;exact h2.1
  split
  ·
   rename_i hc;exact hhit h (Grow.refl _) (by omega) hc
  ·
   have hpar:∃ r,(if zk s=emptyS then some (st,(0:Int),(0:Int)) else imp t path n st (zk s))=some r/\Inv r.1/\Grow st r.1/\r.1.size+4<=st.size+4*(zj s dot).length/\0<=r.2.2/\r.2.2<=6:=by
    split
    ·
     exact⟨_,rfl,h,Grow.refl _,by simp only;omega,by simp,by simp⟩
    ·
     rename_i he;obtain⟨e1,e2⟩:=wP hs he;obtain⟨r,hr,hk⟩:=imp_ok hv hp n st (zk s) h e2 (by omega);have:=hk.size;exact⟨r,hr,hk.inv,hk.grow,by omega,hk.ends⟩
   obtain⟨r,hr,hi,hg,hsz,he⟩:=hpar;rw[hr];simp only[obS];split
   ·
    rename_i hne;exact⟨_,rfl,hi,hg,by simp only;omega,λ e=>absurd e hne,λ _=>rfl,he⟩
   ·
    split
    ·
     rename_i hc;exact hhit hi hg (by omega) hc
    ·
     have hl:=hg.left;obtain⟨q,hq,hk,hks⟩:=new_ok (path:=path) hv (imp_ok hv hp n) hi (by have:=h.left;have:=hi.left;omega) hs (zdo (t:=t) hi hp s);exact⟨q,hq,hk.inv,hg.trans hk.grow,by omega,hk.good,hk.bad,hk.ends⟩
open Go.RowKit
theorem idxOf_cases{α:Type}(p:α->Bool)(l:List α):(xo p l=-1/\∀ x∈l,p x=false)\/∃ (k:Nat) (x:α),xo p l=(k:Int)/\l[k]?=some x/\p x=true:=by
 cases h:cmpI .geq (xo p l) 0 with
 |
  true=>
  obtain⟨x,h1,h2,h3⟩:=W6 h;exact .inr ⟨(xo p l).toNat,x,(Int.toNat_of_nonneg h3).symm,h1,h2⟩
 |
  false=>
  refine .inl ⟨?_,Xg h⟩;have hn:=Xg h;unfold xo;rw[List.findIdx?_eq_none_iff.2 hn]
theorem Zi(st:RSt)(s:Str):(cix st s=-1/\∀ m∈st.mods,hits s m=false)\/∃ (k:Nat) (m:GMod),cix st s=(k:Int)/\st.mods[k]?=some m/\m.name=s/\m.cached=true:=by
 rcases idxOf_cases (hits s) st.mods with h | ⟨k,m,h1,h2,h3⟩
 ·
  exact .inl h
 ·
  unfold hits at h3;simp only[Bool.and_eq_true,decide_eq_true_eq] at h3;exact .inr ⟨k,m,h1,h2,h3.1,h3.2⟩
theorem X0(k:Nat):cmpI .geq (k:Int) 0=true:=by simp[cmpI]
theorem lss_nat0(k:Nat):cmpI .lss (k:Int) 0=false:=by simp[cmpI]
theorem geq_m1:cmpI .geq (-1:Int) 0=false:=rfl
theorem lss_m1:cmpI .lss (-1:Int) 0=true:=rfl
def enc(s:Str):Nat:=match s.l with
 | [a]=>a.toNat
 | [a,b]=>a.toNat+256*b.toNat
 | [a,b,c]=>a.toNat+256*b.toNat+65536*c.toNat
 | _=>0
theorem zaK{s:Str}(h:zD s=true):(∃ a,s=⟨[a]⟩/\1<=a.toNat)\/(∃ a b,s=⟨[a,b]⟩/\1<=a.toNat/\1<=b.toNat)\/∃ a b c,s=⟨[a,b,c]⟩/\1<=a.toNat/\1<=b.toNat/\1<=c.toNat:=by
 have hl:∀ {b:UInt8},low b=true->1<=b.toNat:=λ{b} hb=>by
  unfold low at hb;simp[cmpB] at hb;have h1:=hb.1;rw[UInt8.le_iff_toNat_le] at h1;simp at h1;omega
 unfold zD inR at h;simp only[Bool.and_eq_true,List.all_eq_true] at h;obtain⟨h1,h2⟩:=h;cases s with
 | mk l=>
 match l,h1,h2 with
 | [],h1,_=>simp[cmpI] at h1
 | [a],_,h2=>exact .inl ⟨a,rfl,hl (h2 a (by simp))⟩
 | [a,b],_,h2=>exact .inr (.inl ⟨a,b,rfl,hl (h2 a (by simp)),hl (h2 b (by simp))⟩)
 | [a,b,c],_,h2=>exact .inr (.inr ⟨a,b,c,rfl,hl (h2 a (by simp)),hl (h2 b (by simp)),hl (h2 c (by simp))⟩)
 | a::b::c::d::l,h1,_=>simp[cmpI] at h1;omega
theorem enc_inj{s t:Str}(hs:zD s=true)(ht:zD t=true)(h:enc s=enc t):s=t:=by
 have lt:∀ a:UInt8,a.toNat<256:=λ a=>a.toNat_lt
 have inj:∀ {a b:UInt8},a.toNat=b.toNat->a=b:=λ h=>UInt8.toNat_inj.1 h
 rcases zaK hs with⟨a,rfl,h1⟩ | ⟨a,b,rfl,h1,h2⟩ | ⟨a,b,c,rfl,h1,h2,h3⟩ <;> rcases zaK ht with⟨x,rfl,k1⟩ | ⟨x,y,rfl,k1,k2⟩ | ⟨x,y,z,rfl,k1,k2,k3⟩ <;> simp only[enc] at h
 ·
  rw[inj (a:=a) (b:=x) (by omega)]
 ·
  have:=lt a;have:=lt x;omega
 ·
  have:=lt a;have:=lt x;have:=lt y;omega
 ·
  have:=lt a;have:=lt x;omega
 ·
  have:=lt a;have:=lt x;rw[inj (a:=a) (b:=x) (by omega),inj (a:=b) (b:=y) (by omega)]
 ·
  have:=lt a;have:=lt x;have:=lt b;have:=lt y;omega
 ·
  have:=lt a;have:=lt x;have:=lt b;omega
 ·
  have:=lt a;have:=lt x;have:=lt b;have:=lt y;omega
 ·
  have:=lt a;have:=lt x;have:=lt b;have:=lt y;rw[inj (a:=a) (b:=x) (by omega),inj (a:=b) (b:=y) (by omega),inj (a:=c) (b:=z) (by omega)]
theorem enc_lt(s:Str):enc s<16777216:=by
 unfold enc;have lt:∀ a:UInt8,a.toNat<256:=λ a=>a.toNat_lt
 split
 ·
  rename_i a _;have:=lt a;omega
 ·
  rename_i a b _;have:=lt a;have:=lt b;omega
 ·
  rename_i a b c _;have:=lt a;have:=lt b;have:=lt c;omega
 ·
  omega
theorem attrs_few{l:List GAttr}(h1:∀ a∈l,zD a.name=true)(h2:(l.map (·.name)).Nodup):l.length<=16777216:=by
 have h3:((l.map (·.name)).map enc).Nodup:=by
  unfold List.Nodup;rw[List.pairwise_map];refine List.Pairwise.imp_of_mem (λ{a b} ha hb hne e=>hne (enc_inj ?_ ?_ e)) h2
  ·
   obtain⟨x,hx,rfl⟩:=List.mem_map.1 ha;exact h1 x hx
  ·
   obtain⟨x,hx,rfl⟩:=List.mem_map.1 hb;exact h1 x hx
 have h4:=jJ (m:=List.range 16777216) h3 (λ x hx=>by
  obtain⟨y,_,rfl⟩:=List.mem_map.1 hx;exact List.mem_range.2 (enc_lt y))
 simpa using h4
variable(t:Tree)(path:List Int)
def bxs(l:List GMod):List (Bx GMod):=l.map λ m=>⟨m⟩
def mach(st:RSt):Machine:=⟨t,path,⟨⟩,⟨yu⟩,bxs st.mods,st.out,st.log,st.part,st.left⟩
variable{t path}
theorem bxs_get(l:List GMod)(k:Nat):(bxs l)[k]?=(l[k]?).map λ m=>⟨m⟩:=List.getElem?_map ..
theorem bxs_len(l:List GMod):(bxs l).length=l.length:=List.length_map ..
theorem zbz(l:List GMod)(k:Nat)(m:GMod):(bxs l).set k ⟨m⟩=bxs (l.set k m):=(List.map_set).symm
theorem bxs_app(l:List GMod)(m:GMod):bxs l++[⟨m⟩]=bxs (l++[m]):=by unfold bxs;rw[List.map_append];rfl
theorem bxs_idx(l:List GMod)(s:Str):xo (λ x:Bx GMod=>hits s x.x) (bxs l)=xo (hits s) l:=by
 unfold xo bxs;rw[List.findIdx?_map];rfl
theorem X3{st:RSt}(h:st.mods.length<=1048576)(s:Str):zW (mach t path st) s=some (cix st s):=by
 unfold zW yh;have hl:zK (λ s4=>zO (bxs st.mods) (λ a0=>yy a0 s) s4) 0=some (match (bxs st.mods).findIdx? (λ x=>hits s x.x) with | some i=>(Sum.inr (i:Int):Unit⊕Int) | none=>Sum.inl ()):=by
  refine J8 (bxs st.mods) (λ x=>hits s x.x) (λ i=>Sum.inr i) _ (λ k x hx hlt=>?_) ?_ (by rw[bxs_len];omega) rfl
  ·
   unfold zO;have hb:=bxs_len st.mods;rw[zE,if_pos (decide_eq_true hlt),zQ,hx,obS];show Option.bind (yy x.x s) _=_;rw[show yy x.x s=some (hits s x.x) from congrArg some (Bool.and_comm ..),obS,zS (by omega)];cases hits s x.x <;> rfl
  ·
   unfold zO;rw[zE,if_neg (by simp)]
 rw[show(mach t path st).modules=bxs st.mods from rfl,hl,show cix st s=xo (λ x:Bx GMod=>hits s x.x) (bxs st.mods) from(bxs_idx ..).symm];unfold xo;cases List.findIdx? (λ x:Bx GMod=>hits s x.x) (bxs st.mods) <;> rfl
theorem zbA{st:RSt}(h:st.log.length<=1048576)(k:Int)(s:Str):yD (mach t path st) k s=some (mach t path (st.note k s)):=by
 unfold yD;rw[yH (by show(st.log.length+1)*24<=_;omega) (by show st.log.length+1<=_;omega),obS];rfl
theorem hit_eq{st:RSt}(h:st.log.length<=1048576)(hp:st.part.length<=1048576){k:Nat}{m:GMod}(hm:st.mods[k]?=some m):wI (mach t path st) (k:Int)=some (mach t path (st.hit k m.name),(k:Int)):=by
 have hb:(bxs st.mods)[k]?=some ⟨m⟩:=by rw[bxs_get,hm];rfl
 have hd:st.doneAt k=m.done:=by unfold RSt.doneAt;rw[hm];rfl
 unfold wI;rw[show(mach t path st).modules=bxs st.mods from rfl,zQ,hb,obS,Int.toNat_natCast,hb,obS,zbA h,obS,
  show(mach t path (st.note 3 m.name)).modules=bxs st.mods from rfl,hb,obS,xk,obS,show(mach t path (st.note 3 m.name)).part=st.part from rfl]
 have hc:∀ x,zU st.part x=some (decide (x∈st.part)):=λ x=>JB hp
 rw[hc,xk,obS];cases hdn:m.done with
 |
  true=>
  rw[hdn] at hd;rw[if_neg (by simp),obS];unfold RSt.hit;rw[if_neg (by rw[hd];simp)];rfl
 |
  false=>
  rw[hdn] at hd;by_cases hi:m.name∈st.part
  ·
   rw[if_neg (by simp[hi]),obS];unfold RSt.hit;rw[if_neg (by simp[hi])];rfl
  ·
   rw[if_pos (by simp[hi]),obS,yH (by show(st.part.length+1)*16<=_;omega) (by show st.part.length+1<=_;omega),obS,obS];unfold RSt.hit;rw[if_pos ⟨hd,hi⟩];rfl
def val0(l:List GAttr)(j:Int):GVal:=((l[j.toNat]?).map (·.value)).getD ⟨0,0⟩
theorem loop_idxc{α β γ:Type}{c:γ}{step:γ×Int->Option ((γ×Int)⊕β)}(xs:List α)(p:α->Bool)(f:Int->β)(e:β)
  (h:∀ k x,xs[k]?=some x->k<xs.length->step (c,(k:Int))=some (if p x=true then .inr (f k) else .inl (c,((k+1:Nat):Int))))
  (hend:step (c,(xs.length:Int))=some (.inr e)) (hlen:xs.length<576460752303423488):zK step (c,(0:Int))=some (match xs.findIdx? p with | some i=>f (i:Int) | none=>e):=by
 have key:=J7 (σ:=Unit) (step:=step) xs (λ _ k=>(c,(k:Int))) (λ k _ x=>match (if p x=true then some (f k) else none) with | none=>.inl () | some b=>.inr b) (λ _=>e) (λ _ _=>True) (λ k _ x hx hlt _=>by
  have:=h k x hx hlt;cases hp:p x with
  | true=>rw[hp] at this;exact this
  | false=>rw[hp] at this;exact⟨this,trivial⟩) (λ _ _=>hend) (s0:=()) trivial hlen
 refine key.trans ((congrArg some (runL_idx p f e 0 xs)).trans ?_);cases xs.findIdx? p <;> simp
theorem attr_eq{m:GMod}(h:m.attrs.length<=16777216)(s:Str):xR m s=some (match (m.attrs.findIdx? (λ a=>decide (a.name=s))) with | some i=>(val0 m.attrs (i:Int),true) | none=>(⟨0,0⟩,false)):=by
 unfold xR;have hl:zK (λ s6=>xC m s s6) (zGVal,(0:Int))=some (match m.attrs.findIdx? (λ a=>decide (a.name=s)) with | some i=>(Sum.inr (val0 m.attrs (i:Int),true):GVal⊕(GVal×Bool)) | none=>Sum.inl zGVal):=by
  refine loop_idxc m.attrs (λ a=>decide (a.name=s)) (λ j=>Sum.inr (val0 m.attrs j,true)) (Sum.inl zGVal) (λ k x hx hlt=>?_) ?_ (by omega)
  ·
   unfold xC;rw[show((zGVal,(k:Int)):GVal×Int).2=(k:Int) from rfl,zE,if_pos (decide_eq_true hlt),zQ,hx,obS,zS (by omega),obS,show val0 m.attrs (k:Int)=x.value by unfold val0;rw[Int.toNat_natCast,hx];rfl];cases decide (x.name=s) <;> rfl
  ·
   unfold xC;rw[show((zGVal,(m.attrs.length:Int)):GVal×Int).2=(m.attrs.length:Int) from rfl,zE,if_neg (by simp)]
 rw[hl];cases m.attrs.findIdx? (λ a=>decide (a.name=s)) <;> rfl
open Go.RowKit
theorem aix_cases(l:List GAttr)(s:Str):(aix l s=-1/\l.findIdx? (λ a=>decide (a.name=s))=none)\/∃ (k:Nat) (a:GAttr),aix l s=(k:Int)/\l.findIdx? (λ a=>decide (a.name=s))=some k/\l[k]?=some a/\a.name=s:=by
 unfold aix xo;cases h:l.findIdx? (λ a=>decide (a.name=s)) with
 | none=>exact .inl ⟨rfl,rfl⟩
 |
  some k=>
  obtain⟨h1,h2,_⟩:=List.findIdx?_eq_some_iff_getElem.1 h;exact .inr ⟨k,l[k],rfl,rfl,List.getElem?_eq_getElem h1,by simpa using h2⟩
theorem attr_eq'{m:GMod}(h:m.attrs.length<=16777216)(s:Str):xR m s=some (if cmpI .geq (aix m.attrs s) 0=true then(val0 m.attrs (aix m.attrs s),true) else(⟨0,0⟩,false)):=by
 rw[attr_eq h];rcases aix_cases m.attrs s with⟨h1,h2⟩ | ⟨k,a,h1,h2,_⟩
 ·
  rw[h1,h2];rfl
 ·
  rw[h1,h2,if_pos (X0 k)]
theorem give_eq{m:GMod}(h:m.attrs.length<=16777216)(s:Str)(v:GVal):yc m s v=some { m with attrs:=qa m.attrs s v }:=by
 unfold yc;have hl:zK (λ s6=>xD m s v s6) (m,(0:Int))=some (match m.attrs.findIdx? (λ a=>decide (a.name=s)) with | some i=>(Sum.inr { m with attrs:=updA m.attrs (i:Int).toNat (λ a=>{ a with value:=v }) }:GMod⊕GMod) | none=>Sum.inl m):=by
  refine loop_idxc m.attrs (λ a=>decide (a.name=s)) (λ j=>Sum.inr { m with attrs:=updA m.attrs j.toNat (λ a=>{ a with value:=v }) }) (Sum.inl m) (λ k x hx hlt=>?_) ?_ (by omega)
  ·
   unfold xD;rw[show((m,(k:Int)):GMod×Int).2=(k:Int) from rfl,show((m,(k:Int)):GMod×Int).1=m from rfl,zE,if_pos (decide_eq_true hlt),zQ,hx,obS,obS,zS (by omega),obS,Int.toNat_natCast,QF _ hx];cases decide (x.name=s) <;> rfl
  ·
   unfold xD;rw[show((m,(m.attrs.length:Int)):GMod×Int).2=(m.attrs.length:Int) from rfl,zE,if_neg (by simp)]
 rw[hl];unfold qa;rcases aix_cases m.attrs s with⟨h1,h2⟩ | ⟨k,a,h1,h2,_⟩
 ·
  rw[h2,h1,if_neg (by decide)];show Option.bind (appO 32 m.attrs [⟨s,v⟩]) _=_;rw[yH (by show(m.attrs.length+1)*32<=_;omega) (by show m.attrs.length+1<=_;omega),obS]
 ·
  rw[h2,h1,if_pos (X0 k),Int.toNat_natCast];rfl
theorem packOf_eq{m:GMod}(h:zd m.name=true):yn m=some (if m.kind=1 then zk m.name else m.name):=by
 unfold yn;by_cases hk:m.kind=1
 ·
  rw[if_pos (by simp[cmpI,hk]),if_pos hk,Yq h];rfl
 ·
  rw[if_neg (by simp[cmpI,hk]),if_neg hk]
theorem CutF_eq{s:Str}(hs:s.l.length<=4611686018427387904):∃ a b,Z0 s ⟨[46]⟩=some (Zm s,a,b):=by
 have hge:=Lib.indexByte_ge s.l 46;have hf:Zm s=((zj s dot)[0]?).getD emptyS:=by unfold Zm;cases zj s dot <;> rfl
 rw[hf];unfold Z0 wk;rw[show xM s ⟨[46]⟩=some (Lib.indexByte s.l 46) from rfl,obS,jq];cases hc:cmpI .geq (Lib.indexByte s.l 46) 0 with
 |
  false=>
  rw[if_neg (by decide),obS];have h0:Lib.indexByte s.l 46<0:=by have:=of_decide_eq_false hc;omega
  have h1:cutF dot s.l=[s.l]:=Xo 46 s.l h0;rw[h1];exact⟨_,_,rfl⟩
 |
  true=>
  have h0:0<=Lib.indexByte s.l 46:=oD hc;obtain⟨h1,h2⟩:=Xp 46 s.l h0;obtain⟨n,hn⟩:∃ n:Nat,Lib.indexByte s.l 46=n:=⟨_,(Int.toNat_of_nonneg h0).symm⟩;rw[hn] at h1 h2 ⊢;have h3:cutF dot s.l=s.l.take n::cutF 46 (s.l.drop (n+1)):=h2;have hl:n+1<=s.l.length:=by omega
  rw[if_pos rfl,Qw (by omega),obS,show((n:Int)+((⟨[46]⟩:Str).l.length:Int))=((n:Int)+1) from rfl,wV (by omega) (by omega),obS,show((n:Int)+1)=((n+1:Nat):Int) from rfl,Qx hl,obS,obS,h3];exact⟨_,_,rfl⟩
variable{t:Tree}{path:List Int}{st:RSt}
structure Small(st:RSt):Prop where
 mods:st.mods.length<=1048576
 log:st.log.length<=1048576
 out:st.out.length<=1048576
 part:st.part.length<=1048576
theorem RSt.small{n:Nat}(h:st.size<=n)(hn:n<=1048576):Small st:=by
 unfold RSt.size at h;exact⟨by omega,by omega,by omega,by omega⟩
theorem Inv.few(h:Inv st){m:GMod}(hm:m∈st.mods):m.attrs.length<=16777216:=attrs_few (h.parts m hm) (h.apart m hm)
theorem Inv.at_(h:Inv st){k:Nat}{m:GMod}(hm:st.mods[k]?=some m):m∈st.mods/\zd m.name=true/\m.attrs.length<=16777216/\m.roots.length<=1048576:=
 have hi:=List.mem_of_getElem? hm
 ⟨hi,h.names m hi,h.few hi,h.roots m hi⟩
theorem Xu{s:Str}(h:zd s=true):zu s=true:=by unfold zu;rw[h,Bool.or_true]
theorem zb6{k:Nat}{m:GMod}(hm:st.mods[k]?=some m):st.kindAt k=m.kind:=by unfold RSt.kindAt;rw[hm];rfl
theorem rootsAt_of{k:Nat}{m:GMod}(hm:st.mods[k]?=some m):st.rootsAt k=m.roots:=by unfold RSt.rootsAt;rw[hm];rfl
theorem zaL{k:Nat}{m:GMod}(hm:st.mods[k]?=some m):st.attrsAt k=m.attrs:=by unfold RSt.attrsAt;rw[hm];rfl
theorem nameAt_of{k:Nat}{m:GMod}(hm:st.mods[k]?=some m):st.nameAt k=m.name:=by unfold RSt.nameAt;rw[hm];rfl
theorem set_give{k:Nat}{m:GMod}(hm:st.mods[k]?=some m)(s:Str)(v:GVal):st.mods.set k { m with attrs:=qa m.attrs s v }=(st.give k s v).mods:=(QF (λ m:GMod=>{ m with attrs:=qa m.attrs s v }) hm).symm
theorem mach_give{k:Nat}{m:GMod}(hm:st.mods[k]?=some m)(s:Str)(v:GVal):({ mach t path st with modules:=(bxs st.mods).set k ⟨{ m with attrs:=qa m.attrs s v }⟩ }:Machine)=mach t path (st.give k s v):=by
 rw[zbz,set_give hm];rfl
theorem look_eq(ht:Good t)(hp:path.length<=1048576)(h:Inv st)(hs:Small st){s:Str}(hv:zd s=true):yR (mach t path st) s=some (mach t path st,qj t path st s):=by
 have hn:=name_of hv;unfold yR qj;rw[Yq hv,obS];by_cases he:zk s=emptyS
 ·
  have hl:jk s=s:=by
   rw[he] at hn;unfold child at hn;rw[if_pos rfl] at hn;exact hn.symm
  rw[if_pos (decide_eq_true (show zk s=(⟨[]⟩:Str) from he)),if_pos he,show(mach t path st).t=t from rfl,show(mach t path st).path=path from rfl,
   find_eq ht hp (p:=(⟨[]⟩:Str)) (by rfl) (by rw[← hl];exact zaJ hv) (show zd (child emptyS s)=true by unfold child;rw[if_pos rfl];exact hv),obS]
  rfl
 ·
  have he':¬ zk s=(⟨[]⟩:Str):=he;rw[if_neg (by simp[he']),if_neg he,X3 hs.mods,obS];rcases Zi st (zk s) with⟨h1,_⟩ | ⟨k,m,h1,h2,h3,_⟩
  ·
   rw[h1,lss_m1];rw[show((true == false):Bool)=false from rfl,W2,obS,W2,obS,if_pos (by simp),if_pos rfl];rfl
  ·
   have hb:(bxs st.mods)[k]?=some ⟨m⟩:=by rw[bxs_get,h2];rfl
   rw[h1,lss_nat0,show((false == false):Bool)=true from rfl,YJ,YJ,show(mach t path st).modules=bxs st.mods from rfl,zQ,hb,obS,Int.toNat_natCast,hb,obS,Bool.false_or,if_neg (by decide:¬ (false=true)),zb6 h2,rootsAt_of h2];by_cases hk:m.kind=1
   ·
    rw[if_pos (by simp[cmpI,hk]),if_pos hk];rfl
   ·
    rw[if_neg (by simp[cmpI,hk]),if_neg hk,obS,obS,LastOf_eq hv,obS];have hpp:=(wP hv he).2;rw[show(mach t path st).t=t from rfl,find_eq ht (h.at_ h2).2.2.2 (Xu hpp) (zaJ hv) (by rw[← hn];exact hv),obS]
open Go.RowKit
variable{t:Tree}{path:List Int}{st:RSt}{n:Nat}{R:Rec}{I:RImp}
def Qi(t:Tree)(path:List Int)(n:Nat)(R:Rec)(I:RImp):Prop:=
 ∀ (st:RSt) (s:Str) (r:RSt×Int×Int),Inv st->zd s=true->4*st.left.toNat+(zj s dot).length<=n->st.size<=20000->I st s=some r->R.impl_machine_load1 (mach t path st) s=some (mach t path r.1,r.2.1,r.2.2)
theorem neq_0{e:Int}(h:¬ e=0):cmpI .neq e 0=true:=by simp[cmpI,h]
theorem XP{a b:Int}(h:a=b):cmpI .eql a b=true:=by simp[cmpI,h]
theorem Yi{a b:Int}(h:¬ a=b):cmpI .eql a b=false:=by simp[cmpI,h]
theorem qh{l:List GMod}{k:Nat}{m:GMod}(h:l[k]?=some m):(bxs l)[k]?=some ⟨m⟩:=by rw[bxs_get,h];rfl
theorem Grow.at_{a b:RSt}(h:Grow a b){k:Nat}{m:GMod}(hm:a.mods[k]?=some m):∃ m',b.mods[k]?=some m':=let⟨m',h1,_⟩:=h.old k m hm;⟨m',h1⟩
theorem give_at(h:Inv st){k:Nat}{m:GMod}(hm:st.mods[k]?=some m)(s:Str)(v:GVal){β:Type}(f:Machine->β):
  (((mach t path st).modules[k]?).bind λ v39=>(yc v39.x s v).bind λ v41=>some (f { mach t path st with modules:=(mach t path st).modules.set k ⟨v41⟩ }))=some (f (mach t path (st.give k s v))):=by
 rw[show(mach t path st).modules=bxs st.mods from rfl,qh hm,obS,give_eq (h.at_ hm).2.2.1,obS,mach_give hm]
theorem do_0(hI:Wu n I)(hL:Qi t path n R I)(h:Inv st)(hn:4*st.left.toNat+3<=n)(hsz:st.size<=19950){k:Nat}{m:GMod}(hk:st.mods[k]?=some m){x:Stmt}(hx:zX x=true)(hkd:x.kind=0){r:RSt×Int}(hr:Yt t path I st k x=some r):
  yj R (mach t path st) (k:Int) x=some (mach t path r.1,r.2):=by
 have hv:=qP hx (.inl hkd);have hpl:=YU hv;obtain⟨q,hq,hp⟩:=hI st x.module h hv (by omega);have hqs:=hp.size;unfold Yt at hr;rw[if_pos hkd,hq,obS] at hr;have hld:=hL st x.module q h hv (by omega) (by omega) hq;unfold yj;rw[show(mach t path st).modules=bxs st.mods from rfl,zQ,qh hk,obS,if_pos (XP hkd),hld,obS];by_cases he:q.2.2=0
 ·
  rw[if_neg (by simp[he])] at hr;have hc:=CutF_eq (s:=x.module) (by have:=xc hv;omega);obtain⟨a,b,hc⟩:=hc;obtain⟨m',hm'⟩:=hp.grow.at_ hk;simp only;rw[he,if_neg (by decide),hc,obS,X3 (RSt.small (n:=20000) (by omega) (by omega)).mods,obS];cases hcx:cmpI .lss (cix q.1 (Zm x.module)) 0 with
  |
   true=>
   rw[if_pos hcx] at hr;rw[if_pos rfl];injection hr with hr;subst hr;rfl
  |
   false=>
   rw[if_neg (by simp[hcx])] at hr;injection hr with hr;subst hr;rw[if_neg (by decide),Int.toNat_natCast];have:=give_at (t:=t) (path:=path) hp.inv hm' (Zm x.module) ⟨1,cix q.1 (Zm x.module)⟩ (λ mm=>(Sum.inl mm:Machine⊕(Machine×Int)));rw[this];rfl
 ·
  rw[if_pos he] at hr;injection hr with hr;subst hr;simp only;rw[if_pos (neq_0 he)];rfl
theorem do_2loop{k:Nat}(hk':∃ m,st.mods[k]?=some m)(l:List GAttr)(h:Inv st)(hl:∀ a∈l,zD a.name=true)(hb:l.length<=16777216):
  zK (λ s248=>yE R (k:Int) l s248) (mach t path st,(0:Int))=some (Sum.inl (mach t path (XS k l st))):=by
 obtain⟨m0,hm0⟩:=hk';have key:=Qz (step:=λ s248=>yE R (k:Int) l s248) l (λ(s:RSt) j=>(mach t path s,(j:Int))) (λ s a=>if(a.name.l.headD 0 == 122)=true then s else s.give k a.name a.value) (λ s=>(Sum.inl (mach t path s):Machine⊕(Machine×Int))) (λ _ s=>Inv s/\∃ m,s.mods[k]?=some m)
  (λ j s a ha hlt ⟨hi,m1,hm1⟩=>by
   have hva:=hl a (List.mem_of_getElem? ha);have hne:a.name.l[0]?=some (a.name.l.headD 0):=by
    rcases zaK hva with⟨c,e,_⟩ | ⟨c,d,e,_⟩ | ⟨c,d,e',e,_⟩ <;> rw[e] <;> rfl
   have hat:atI a.name.l (0:Int)=some (a.name.l.headD 0):=hne;have hgr:=Grow.give (st:=s) k a.name a.value;obtain⟨m2,hm2⟩:=hgr.at_ hm1;have hs:yE R (k:Int) l (mach t path s,(j:Int))=some (.inl (mach t path (if(a.name.l.headD 0 == 122)=true then s else s.give k a.name a.value),((j+1:Nat):Int))):=by
    unfold yE;simp only;rw[zE,if_pos (decide_eq_true hlt),zQ,ha,obS,hat,obS,zS (by omega),Int.toNat_natCast];cases hz:(a.name.l.headD 0 == 122) with
    |
     true=>
     rw[if_neg (by simp[cmpB] at hz ⊢;exact hz),if_pos rfl];rfl
    |
     false=>
     have hg:=give_at (t:=t) (path:=path) hi hm1 a.name a.value (λ mm=>mm);rw[if_pos (by simp[cmpB] at hz ⊢;exact hz),hg,if_neg (by decide)];rfl
   refine⟨hs,?_⟩;split
   ·
    exact⟨hi,m1,hm1⟩
   ·
    exact⟨hi.give k _ hva,m2,hm2⟩)
  (λ s _=>by
   unfold yE;simp only;rw[zE,if_neg (by simp)]) (s0:=st) ⟨h,m0,hm0⟩ (by omega)
 exact key
theorem do_2(hI:Wu n I)(hL:Qi t path n R I)(h:Inv st)(hn:4*st.left.toNat+3<=n)(hsz:st.size<=19950){k:Nat}{m:GMod}(hk:st.mods[k]?=some m){x:Stmt}(hx:zX x=true)(hkd:x.kind=2){r:RSt×Int}(hr:Yt t path I st k x=some r):
  yj R (mach t path st) (k:Int) x=some (mach t path r.1,r.2):=by
 have hv:=qP hx (.inr hkd);have hpl:=YU hv;obtain⟨q,hq,hp⟩:=hI st x.module h hv (by omega);have hqs:=hp.size;unfold Yt at hr;rw[if_neg (by omega),if_neg (by omega),if_pos hkd,hq,obS] at hr;have hld:=hL st x.module q h hv (by omega) (by omega) hq;unfold yj;rw[show(mach t path st).modules=bxs st.mods from rfl,zQ,qh hk,obS,if_neg (by rw[Yi (by omega)];decide),if_neg (by rw[Yi (by omega)];decide),if_pos (XP hkd),hld,obS];by_cases he:q.2.2=0
 ·
  rw[if_neg (by simp[he])] at hr;obtain⟨m',hm'⟩:=hp.grow.at_ hk;obtain⟨m2,hm2,_,h0⟩:=hp.good he;have hi2:=hp.inv.at_ hm2;obtain⟨j,hj⟩:∃ j:Nat,q.2.1=j:=⟨_,(Int.toNat_of_nonneg h0).symm⟩;rw[hj,Int.toNat_natCast] at hm2;rw[hj,Int.toNat_natCast,zaL hm2] at hr;injection hr with hr;subst hr;simp only;rw[he,if_neg (by decide),hj,show(mach t path q.1).modules=bxs q.1.mods from rfl,zQ,qh hm2,obS,Int.toNat_natCast,qh hm2,obS,
   yH (by simp;omega) (by simp;omega),obS,List.nil_append,do_2loop ⟨m',hm'⟩ m2.attrs hp.inv (hp.inv.parts m2 hi2.1) hi2.2.2.1]
  rfl
 ·
  rw[if_pos he] at hr;injection hr with hr;subst hr;simp only;rw[if_pos (neq_0 he)];rfl
theorem do_3(h:Inv st)(hsz:st.size<=19950){k:Nat}{m:GMod}(hk:st.mods[k]?=some m){x:Stmt}(hkd:x.kind≠0/\x.kind≠1/\x.kind≠2){r:RSt×Int}(hr:Yt t path I st k x=some r):
  yj R (mach t path st) (k:Int) x=some (mach t path r.1,r.2):=by
 have hi:=h.at_ hk;unfold Yt at hr;rw[if_neg hkd.1,if_neg hkd.2.1,if_neg hkd.2.2] at hr;unfold yj;rw[show(mach t path st).modules=bxs st.mods from rfl,zQ,qh hk,obS,if_neg (by rw[Yi hkd.1];decide),if_neg (by rw[Yi hkd.2.1];decide),if_neg (by rw[Yi hkd.2.2];decide),Int.toNat_natCast];by_cases h3:x.kind=3
 ·
  rw[if_pos h3] at hr;injection hr with hr;subst hr;have:=give_at (t:=t) (path:=path) h hk x.name ⟨0,x.value⟩ (λ mm=>(Sum.inl mm:Machine⊕(Machine×Int)));rw[if_pos (XP h3)];refine(congrArg (λ o=>Option.bind o _) this).trans ?_;rfl
 ·
  rw[if_neg h3] at hr;rw[if_neg (by rw[Yi h3];decide)];by_cases h4:x.kind=4
  ·
   rw[if_pos h4,zaL hk] at hr;rw[if_pos (XP h4),qh hk,obS,attr_eq' hi.2.2.1,obS];cases hg:cmpI .geq (aix m.attrs x.name) 0 with
   |
    false=>
    have hl:cmpI .lss (aix m.attrs x.name) 0=true:=by rw[YP] at hg;simpa using hg
    rw[if_pos hl] at hr;injection hr with hr;subst hr;rw[if_neg (show ¬ (false=true) by decide)];rfl
   |
    true=>
    have hl:cmpI .lss (aix m.attrs x.name) 0=false:=by rw[YP] at hg;simpa using hg
    rw[hl,if_neg (by decide)] at hr;injection hr with hr;subst hr;have ho:st.out.length<=19950:=by unfold RSt.size at hsz;omega
    rw[if_pos (show true=true from rfl)];show Option.bind (if cmpI .eql (val0 m.attrs (aix m.attrs x.name)).kind 1=true then _ else _) _=some (mach t path { st with out:=st.out++[if(val0 m.attrs (aix m.attrs x.name)).kind=1 then -1 else(val0 m.attrs (aix m.attrs x.name)).num] },0);by_cases hz:(val0 m.attrs (aix m.attrs x.name)).kind=1
    ·
     rw[if_pos (XP hz),if_pos hz,yH (by show(st.out.length+1)*8<=_;omega) (by show st.out.length+1<=_;omega),obS];rfl
    ·
     rw[if_neg (by rw[Yi hz];decide),if_neg hz,yH (by show(st.out.length+1)*8<=_;omega) (by show st.out.length+1<=_;omega),obS];rfl
  ·
   rw[if_neg h4] at hr;rw[if_neg (by rw[Yi h4];decide)];by_cases h5:x.kind=5
   ·
    rw[if_pos h5] at hr;injection hr with hr;subst hr;rw[if_pos (XP h5)];rfl
   ·
    rw[if_neg h5] at hr;injection hr with hr;subst hr;rw[if_neg (by rw[Yi h5];decide)];rfl
open Go.RowKit
variable{t:Tree}{path:List Int}{st:RSt}{n:Nat}{R:Rec}{I:RImp}
theorem childOk_eq{p s:Str}(hp:zd p=true)(hs:zD s=true):Xq p s=if zd (child p s)=true then child p s else emptyS:=by
 unfold Xq;rw[Xu hp,hs];cases zd (child p s) <;> rfl
theorem valid_ne{s:Str}(h:zd s=true):¬ s=(⟨[]⟩:Str):=λ e=>by rw[e,show zd (⟨[]⟩:Str)=false from rfl] at h;cases h
theorem part_len{s:Str}(h:zD s=true):s.l.length<=3:=by
 unfold zD inR at h;simp only[Bool.and_eq_true,cmpI,decide_eq_true_eq] at h;have:=h.1.2;omega
theorem value_eq(ht:Good t)(hp:path.length<=1048576)(hI:Wu n I)(hL:Qi t path n R I)(h:Inv st)(hn:4*st.left.toNat+3<=n)(hsz:st.size<=20000){j:Nat}{m:GMod}(hj:st.mods[j]?=some m){nm:Str}(hnm:zD nm=true){v:RSt×GVal×Int}(hv:zaI t path I st j nm=some v):
  (if(!(if cmpI .geq (aix m.attrs nm) 0=true then(val0 m.attrs (aix m.attrs nm),true) else((⟨0,0⟩:GVal),false)).2)=true then((wh m.name nm).bind λ v171=>
(atI (mach t path st).modules (j:Int)).bind λ _v175=>
((mach t path st).modules[(j:Int).toNat]?).bind λ v177=>
(gO ((cmpI .eql v177.x.kind (1:Int)||decide (v171=(⟨[]⟩:Str))) == false) (zW (mach t path st) v171)).bind λ v178=>
(gO (((cmpI .eql v177.x.kind (1:Int)||decide (v171=(⟨[]⟩:Str))) == false)&&(cmpI .lss v178 (0:Int) == true)) (yR (mach t path st) v171)).bind λ v184=>
if((cmpI .eql v177.x.kind (1:Int)||decide (v171=(⟨[]⟩:Str)))||(cmpI .lss v178 (0:Int)&&cmpI .eql v184.2.kind (0:Int)))=true then(some (.inr (.inr ((if(((cmpI .eql v177.x.kind (1:Int)||decide (v171=(⟨[]⟩:Str))) == false)&&(cmpI .lss v178 (0:Int) == true))=true then v184.1 else(mach t path st)),(2:Int)))))
else((R.impl_machine_load1 (if(((cmpI .eql v177.x.kind (1:Int)||decide (v171=(⟨[]⟩:Str))) == false)&&(cmpI .lss v178 (0:Int) == true))=true then v184.1 else(mach t path st)) v171).bind λ v196=>
if(cmpI .neq v196.2.2 (0:Int))=true then(some (.inr (.inr (v196.1,v196.2.2))))
else(some (.inl (v196.1,(⟨(1:Int),v196.2.1⟩:GVal))))))
else(some (.inl ((mach t path st),(if cmpI .geq (aix m.attrs nm) 0=true then(val0 m.attrs (aix m.attrs nm),true) else((⟨0,0⟩:GVal),false)).1))):Option ((Machine×GVal)⊕(Machine⊕(Machine×Int))))=some (if v.2.2=0 then .inl (mach t path v.1,v.2.1) else .inr (.inr (mach t path v.1,v.2.2))):=by
 have hi:=h.at_ hj;have hnl:=xc hi.2.1;have hnp:=part_len hnm;unfold zaI at hv;rw[zaL hj,zb6 hj,nameAt_of hj] at hv;cases hg:cmpI .geq (aix m.attrs nm) 0 with
 |
  true=>
  rw[if_pos hg] at hv;injection hv with hv;subst hv;rfl
 |
  false=>
  rw[hg,if_neg (show ¬ (false=true) by decide)] at hv;rw[if_neg (show ¬ (false=true) by decide),if_pos (show(!false)=true from rfl),Jr (by omega),obS,childOk_eq hi.2.1 hnm,show(mach t path st).modules=bxs st.mods from rfl,zQ,qh hj,obS,Int.toNat_natCast,qh hj,obS];by_cases hc:m.kind=1\/zd (child m.name nm)=false
  ·
   rw[if_pos hc] at hv;injection hv with hv;subst hv;have hd:(cmpI .eql m.kind (1:Int)||decide ((if zd (child m.name nm)=true then child m.name nm else emptyS)=(⟨[]⟩:Str)))=true:=by
    rcases hc with hc | hc
    ·
     rw[XP hc];rfl
    ·
     rw[hc,Bool.or_eq_true];exact .inr rfl
   simp only;rw[hd,show(true == false)=false from rfl,W2,obS,Bool.false_and,W2,obS,Bool.true_or,if_pos (show true=true from rfl),if_neg (show ¬ (false=true) by decide)];rfl
  ·
   rw[if_neg hc] at hv;have hk1:¬ m.kind=1:=λ e=>hc (.inl e)
   have hvc:zd (child m.name nm)=true:=by cases e:zd (child m.name nm) with | true=>rfl | false=>exact absurd (.inr e) hc
   have hpl:=YU hvc;rw[if_pos hvc];have hd:(cmpI .eql m.kind (1:Int)||decide (child m.name nm=(⟨[]⟩:Str)))=false:=by rw[Yi hk1,decide_eq_false (valid_ne hvc)];rfl
   obtain⟨q,hq,hqp⟩:=hI st _ h hvc (by omega);have hld:=hL st _ q h hvc (by omega) hsz hq;have sm:=RSt.small hsz (by decide);have fin:(R.impl_machine_load1 (mach t path st) (child m.name nm)).bind (λ v196=>if(cmpI .neq v196.2.2 (0:Int))=true then(some (.inr (.inr (v196.1,v196.2.2)))) else(some (.inl (v196.1,(⟨(1:Int),v196.2.1⟩:GVal)))))=some ((if q.2.2=0 then .inl (mach t path q.1,⟨1,q.2.1⟩) else .inr (.inr (mach t path q.1,q.2.2))):(Machine×GVal)⊕(Machine⊕(Machine×Int))):=by
    rw[hld,obS];by_cases he:q.2.2=0
    ·
     simp only;rw[he,if_neg (by decide),if_pos rfl]
    ·
     simp only;rw[if_pos (neq_0 he),if_neg he]
   simp only;rw[hd,show(false == false)=true from rfl,YJ,X3 sm.mods,obS,Bool.true_and];simp only[Bool.false_or];cases hl:cmpI .lss (cix st (child m.name nm)) 0 with
   |
    true=>
    rw[show(true == true)=true from rfl,YJ,look_eq ht hp h sm hvc,obS,Bool.true_and];simp only[if_true];by_cases hz:(qj t path st (child m.name nm)).kind=0
    ·
     rw[if_pos ⟨hl,hz⟩] at hv;injection hv with hv;subst hv;rw[if_pos (XP hz)];rfl
    ·
     rw[if_neg (λ e=>hz e.2),hq,obS] at hv;injection hv with hv;subst hv;rw[if_neg (by rw[Yi hz];decide)];exact fin
   |
    false=>
    rw[if_neg (λ e=>by rw[hl] at e;exact absurd e.1 (by decide)),hq,obS] at hv;injection hv with hv;subst hv;rw[show(false == true)=false from rfl,W2,obS,Bool.false_and,if_neg (show ¬ (false=true) by decide),if_neg (show ¬ (false=true) by decide)];exact fin
theorem do_1(ht:Good t)(hp:path.length<=1048576)(hI:Wu n I)(hL:Qi t path n R I)(h:Inv st)(hn:4*st.left.toNat+3<=n)(hsz:st.size<=19950){k:Nat}{m:GMod}(hk:st.mods[k]?=some m){x:Stmt}(hx:zX x=true)(hkd:x.kind=1){r:RSt×Int}(hr:Yt t path I st k x=some r):
  yj R (mach t path st) (k:Int) x=some (mach t path r.1,r.2):=by
 have hi:=h.at_ hk;have hsx:zu x.module=true/\0<=x.level/\x.level<=3:=by
  rcases Ze hx with h1 | h1 | h1
  ·
   exact absurd h1.1 (by omega)
  ·
   exact⟨h1.2.1,h1.2.2.1,h1.2.2.2⟩
  ·
   exact absurd hkd h1.2.1
 have hnm:=QG hx (.inl hkd);unfold Yt at hr;have hpk:zbw st k=if m.kind=1 then zk m.name else m.name:=by unfold zbw;rw[zb6 hk,nameAt_of hk]
 rw[if_neg (by omega),if_pos hkd,hpk] at hr;have hpv:zu (if m.kind=1 then zk m.name else m.name)=true:=by
  split
  ·
   exact Wt (Xu hi.2.1)
  ·
   exact Xu hi.2.1
 unfold yj;rw[show(mach t path st).modules=bxs st.mods from rfl,zQ,qh hk,obS,if_neg (by rw[Yi (by omega)];decide),if_pos (XP hkd),Int.toNat_natCast,qh hk,obS,packOf_eq hi.2.1,obS,Qg hpv hsx.1 hsx.2.1 hsx.2.2,obS];generalize Z4 (if m.kind=1 then zk m.name else m.name) x.level x.module=s1 at*;unfold orE;cases hv:zd s1 with
 |
  false=>
  rw[if_pos hv] at hr;injection hr with hr;subst hr;rw[if_neg (show ¬ (false=true) by decide),if_pos (show decide (emptyS=(⟨[]⟩:Str))=true from rfl)];rfl
 |
  true=>
  rw[if_neg (by rw[hv];decide)] at hr;have hpl:=YU hv;obtain⟨q,hq,hqp⟩:=hI st s1 h hv (by omega);have hqs:=hqp.size;have hld:=hL st s1 q h hv (by omega) (by omega) hq;rw[hq,obS] at hr;rw[if_pos (show true=true from rfl),if_neg (by rw[decide_eq_false (valid_ne hv)];decide),hld,obS];by_cases he:q.2.2=0
  ·
   rw[if_neg (by simp[he])] at hr;obtain⟨m',hm'⟩:=hqp.grow.at_ hk;obtain⟨m2,hm2,hmn,h0⟩:=hqp.good he;have hi2:=hqp.inv.at_ hm2;have hlq:=hqp.grow.left;obtain⟨j,hj⟩:∃ j:Nat,q.2.1=j:=⟨_,(Int.toNat_of_nonneg h0).symm⟩;rw[hj,Int.toNat_natCast] at hm2;rw[hj,Int.toNat_natCast] at hr;have hn':4*q.1.left.toNat+3<=n:=by have:=h.left;have:=hqp.inv.left;omega
   obtain⟨v,hve,hvb⟩:=value_ok (t:=t) (path:=path) hI hqp.inv hn' j x.name hnm;have hval:=value_eq ht hp hI hL hqp.inv hn' (by omega) hm2 hnm hve;rw[hmn] at hval;rw[hve,obS] at hr;obtain⟨m3,hm3⟩:=hvb.grow.at_ hm';simp only;rw[he,if_neg (by decide),hj,show(mach t path q.1).modules=bxs q.1.mods from rfl,zQ,qh hm2,obS,Int.toNat_natCast,qh hm2,obS,attr_eq' hi2.2.2.1,obS,obS];rw[show(mach t path q.1).modules=bxs q.1.mods from rfl,zQ,Int.toNat_natCast,qh hm2] at hval;dsimp only at hval ⊢;rw[hval];by_cases hz:v.2.2=0
   ·
    rw[if_pos hz];rw[if_neg (by simp[hz])] at hr;injection hr with hr;subst hr;have:=give_at (t:=t) (path:=path) hvb.inv hm3 x.name v.2.1 (λ mm=>(Sum.inl mm:Machine⊕(Machine×Int)));simp only[obS,Sum.elim_inl];refine(congrArg (λ o=>Option.bind o _) this).trans ?_;rfl
   ·
    rw[if_neg hz];rw[if_pos hz] at hr;injection hr with hr;subst hr;rfl
  ·
   rw[if_pos he] at hr;injection hr with hr;subst hr;simp only;rw[if_pos (neq_0 he)];rfl
theorem do_eq(ht:Good t)(hp:path.length<=1048576)(hI:Wu n I)(hL:Qi t path n R I)(h:Inv st)(hn:4*st.left.toNat+3<=n)(hsz:st.size<=19950){k:Nat}{m:GMod}(hk:st.mods[k]?=some m){x:Stmt}(hx:zX x=true){r:RSt×Int}(hr:Yt t path I st k x=some r):
  yj R (mach t path st) (k:Int) x=some (mach t path r.1,r.2):=by
 by_cases h0:x.kind=0
 ·
  exact do_0 hI hL h hn hsz hk hx h0 hr
 ·
  by_cases h1:x.kind=1
  ·
   exact do_1 ht hp hI hL h hn hsz hk hx h1 hr
  ·
   by_cases h2:x.kind=2
   ·
    exact do_2 hI hL h hn hsz hk hx h2 hr
   ·
    exact do_3 h hsz hk ⟨h0,h1,h2⟩ hr
open Go.RowKit
variable{t:Tree}{path:List Int}{st:RSt}{n:Nat}{R:Rec}{I:RImp}
def DoEq(t:Tree)(path:List Int)(n:Nat)(R:Rec)(I:RImp):Prop:=
 ∀ (st:RSt) (k:Nat) (m:GMod) (x:Stmt) (r:RSt×Int),Inv st->st.mods[k]?=some m->zX x=true->4*st.left.toNat+3<=n->st.size<=19950->Yt t path I st k x=some r->R.impl_machine_do (mach t path st) (k:Int) x=some (mach t path r.1,r.2)
def RSt.tick(st:RSt):RSt:={ st with left:=st.left - 1 }
theorem Inv.tick(h:Inv st)(hz:¬ st.left=0):Inv st.tick:=⟨h.names,h.roots,h.parts,h.apart,by have:=h.left;show(0:Int)<=st.left - 1;omega⟩
theorem size_tick(h:Inv st)(hz:¬ st.left=0):st.tick.size+100=st.size:=by
 unfold RSt.size RSt.tick;have:=h.left;simp only;omega
theorem body_loop(hI:Wu n I)(hD:DoEq t path n R I)(k:Nat)(l:List Stmt)(hl:∀ x∈l,zX x=true)(hlen:l.length<1000000000):∀ (m i:Nat) (st:RSt) (r:RSt×Int),i+m=l.length->Inv st->(∃ mm,st.mods[k]?=some mm)->4*st.left.toNat<=n+1->st.left<=1000000->st.size<=20050->W5 t path I k (l.drop i) st=some r->
  jM (λ s24=>yi R (k:Int) l s24) (m+1) (mach t path st,(0:Int),(i:Int))=some (mach t path r.1,r.2)
 |
  0,i,st,r,hi,_,_,_,_,_,hr=>by
  have:i=l.length:=by omega
  subst this;rw[List.drop_length] at hr;unfold W5 at hr;injection hr with hr;subst hr;refine yX ?_;unfold yi;simp only;rw[zE,if_neg (by simp)]
 |
  m+1,i,st,r,hi,h,⟨mm,hmm⟩,hn,hle,hsz,hr=>by
  have hlt:i<l.length:=by omega
  have hx:l[i]?=some l[i]:=List.getElem?_eq_getElem hlt;have hv:=hl l[i] (List.getElem_mem hlt);rw[List.drop_eq_getElem_cons hlt] at hr;unfold W5 at hr;have hl0:=h.left;by_cases hz:st.left=0
  ·
   rw[if_pos hz] at hr;injection hr with hr;subst hr;refine yX ?_;unfold yi;simp only;rw[zE,if_pos (decide_eq_true hlt),zQ,hx,obS,show(mach t path st).left=st.left from rfl,if_pos (XP hz)]
  ·
   rw[if_neg hz] at hr;have ht:=h.tick hz;have hts:=size_tick h hz;have htl:st.tick.left=st.left - 1:=rfl;obtain⟨q,hq,hb⟩:=stmt_ok (t:=t) (path:=path) hI ht (by rw[htl];omega) k hv;have hbs:=hb.size;have hbl:=hb.grow.left;have hbi:=hb.inv.left;obtain⟨m2,hm2⟩:=hb.grow.at_ (show st.tick.mods[k]?=some mm from hmm);have hd:=hD st.tick k mm l[i] q ht hmm hv (by rw[htl];omega) (by omega) hq;rw[show Yt t path I { st with left:=st.left - 1 } k l[i]=some q from hq,obS] at hr;have hs:yi R (k:Int) l (mach t path st,(0:Int),(i:Int))=some (if q.2≠0 then .inr (mach t path q.1,q.2) else .inl (mach t path q.1,q.2,((i+1:Nat):Int))):=by
    unfold yi;simp only;rw[zE,if_pos (decide_eq_true hlt),zQ,hx,obS,show(mach t path st).left=st.left from rfl,if_neg (by rw[Yi hz];decide),wV (by omega) (by omega),obS,
     show({ mach t path st with left:=st.left - 1 }:Machine)=mach t path st.tick from rfl,hd,obS,zS (by omega),obS]
    by_cases he:q.2=0
    ·
     simp only;rw[he,if_neg (by decide),if_neg (by simp)]
    ·
     simp only;rw[if_pos (neq_0 he),if_pos he]
   by_cases he:q.2=0
   ·
    rw[if_neg (by simp[he])] at hr;rw[if_neg (by simp[he]),he] at hs;rw[qL hs];exact body_loop hI hD k l hl hlen m (i+1) q.1 r (by omega) hb.inv ⟨m2,hm2⟩ (by rw[htl] at hbl;omega) (by rw[htl] at hbl;omega) (by omega) hr
   ·
    rw[if_pos he] at hr;injection hr with hr;subst hr;rw[if_pos he] at hs;exact yX hs
theorem zdp(tf:List File)(roots:List Int)(p s:Str):(wQ tf roots p s).file<tf.length:=za1 tf p s roots []
theorem look_file(s:Str):(qj t path st s).file<t.files.length:=by
 unfold qj;split
 ·
  exact zdp ..
 ·
  split
  ·
   show(-1:Int)<_;omega
  ·
   split
   ·
    show(-1:Int)<_;omega
   ·
    exact zdp ..
theorem body_eq(hv:zw t=true)(hI:Wu n I)(hD:DoEq t path n R I)(h:Inv st)(hn:4*st.left.toNat<=n+1)(hle:st.left<=1000000)(hsz:st.size<=20040){k:Nat}{m:GMod}(hk:st.mods[k]?=some m){sp:Spec}(hf:sp.file<t.files.length){r:RSt×Int}(hr:runF t path I (st.note 0 m.name) k sp=some r):
  jm R (mach t path st) (k:Int) sp=some (mach t path (r.1.note (if r.2=0 then 1 else 2) m.name),r.2):=by
 have sm:=RSt.small hsz (by decide);have hi:Inv (st.note 0 m.name):=h.note _ _;have hnz:(st.note 0 m.name).size=st.size+1:=by unfold RSt.size RSt.note;simp only[List.length_append,List.length_cons,List.length_nil];omega
 obtain⟨q,hq,hb⟩:=run_ok (path:=path) hv hI hi (by exact hn) k sp;rw[hq] at hr;injection hr with hr;subst hr;have hqs:=hb.size;have smq:=RSt.small (st:=q.1) (n:=20050) (by omega) (by decide);have hrun:(if(cmpI .geq sp.file (0:Int))=true then((atI t.files sp.file).bind λ v19=>(yu v19).bind λ v20=>zK (λ s24=>yi R (k:Int) v20 s24) (mach t path (st.note 0 m.name),(0:Int),(0:Int))) else(some (mach t path (st.note 0 m.name),(0:Int))))=some (mach t path q.1,q.2):=by
  unfold runF at hq;cases hg:cmpI .geq sp.file 0 with
  |
   false=>
   rw[hg,if_neg (show ¬ (false=true) by decide)] at hq;injection hq with hq;subst hq;rw[if_neg (show ¬ (false=true) by decide)]
  |
   true=>
   have h0:0<=sp.file:=oD hg;rw[hg,if_pos (show true=true from rfl)] at hq;have hbv:=YV hv sp.file;have hbl:(Zj t.files sp.file).body.length<=8:=by
    unfold Zj;cases hfl:t.files[sp.file.toNat]? with
    | none=>exact Nat.zero_le _
    |
     some f=>
     have:=wW hv (List.mem_of_getElem? hfl);unfold xz at this;simp only[Bool.and_eq_true,cmpI,decide_eq_true_eq] at this;show f.body.length<=8;omega
   rw[if_pos (show true=true from rfl),atI_file h0 hf,obS,show yu ((t.files[sp.file.toNat]?).getD default)=some (Zj t.files sp.file).body from rfl,obS];refine qM (m:=(Zj t.files sp.file).body.length+1) (body_loop hI hD k _ hbv (by omega) _ 0 (st.note 0 m.name) q (by omega) hi ⟨m,hk⟩ hn hle (by omega) (by rw[List.drop_zero];exact hq)) (by omega)
 unfold jm;rw[show(mach t path st).modules=bxs st.mods from rfl,zQ,qh hk,obS,Int.toNat_natCast,qh hk,obS,zbA sm.log,obS];rw[show(mach t path (st.note 0 m.name)).t=t from rfl,show(mach t path (st.note 0 m.name)).load.g=yu from rfl,hrun,obS];by_cases he:q.2=0
 ·
  simp only;rw[if_pos (XP he),if_pos he,zbA smq.log];rfl
 ·
  simp only;rw[if_neg (by rw[Yi he];decide),if_neg he,zbA smq.log];rfl
theorem cix_empty(h:Inv st):cix st emptyS=-1:=by
 rcases Zi st emptyS with h1 | ⟨k,m,_,h2,h3,_⟩
 ·
  exact h1.1
 ·
  have:=h.names m (List.mem_of_getElem? h2);rw[h3] at this;cases this
theorem set_fail{k:Nat}{m:GMod}(hm:st.mods[k]?=some m)(s:Str):({ mach t path (st.note 2 s) with modules:=(bxs st.mods).set k ⟨{ m with cached:=false }⟩ }:Machine)=mach t path (st.fail k s):=by
 rw[zbz];unfold RSt.fail;rw[QF _ hm];rfl
theorem set_done{k:Nat}{m:GMod}(hm:st.mods[k]?=some m)(s:Str):({ mach t path (st.note 1 s) with modules:=(bxs st.mods).set k ⟨{ m with done:=true }⟩ }:Machine)=mach t path (st.done k s):=by
 rw[zbz];unfold RSt.done;rw[QF _ hm];rfl
open Go.RowKit
variable{t:Tree}{path:List Int}{st:RSt}{n:Nat}{R:Rec}{I:RImp}
def BodyEq(t:Tree)(path:List Int)(n:Nat)(R:Rec)(I:RImp):Prop:=
 ∀
  (st:RSt) (k:Nat) (m:GMod) (sp:Spec) (r:RSt×Int),Inv st->4*st.left.toNat<=n+1->st.left<=1000000->st.size<=20040->st.mods[k]?=some m->sp.file<t.files.length->runF t path I (st.note 0 m.name) k sp=some r->
  R.impl_machine_body (mach t path st) (k:Int) sp=some (mach t path (r.1.note (if r.2=0 then 1 else 2) m.name),r.2)
def RSt.grown(st:RSt)(s:Str)(sp:Spec):RSt:={ st with mods:=st.mods++[⟨s,sp.kind,sp.roots,true,false,[]⟩] }
theorem load_new(ht:Good t)(hp:path.length<=1048576)(hI:Wu n I)(hB:BodyEq t path n R I)(h:Inv st)(hn:4*st.left.toNat<=n+1)(hle:st.left<=1000000)(hsz:st.size<=20020){s:Str}(hs:zd s=true){r:RSt×Int×Int}(hr:newF t path I st s (qj t path st s)=some r):
  ((yR (mach t path st) s).bind λ v48=>
if(cmpI .eql v48.2.kind (0:Int))=true then(some (v48.1,(-1:Int),(1:Int)))
else((appO 8 [] v48.2.roots).bind λ v63=>
(appO 8 v48.1.modules [⟨(⟨s,v48.2.kind,v63,true,false,[]⟩:GMod)⟩]).bind λ v84=>
(R.impl_machine_body ({ v48.1 with modules:=v84 }) (v48.1.modules.length:Int) v48.2).bind λ v93=>
if(cmpI .neq v93.2 (0:Int))=true then((v93.1.modules[v48.1.modules.length]?).bind λ v100=>
some ({ v93.1 with modules:=(v93.1.modules.set v48.1.modules.length ⟨{ v100.x with cached:=false }⟩) },(-1:Int),v93.2))
else((v93.1.modules[v48.1.modules.length]?).bind λ v106=>
Option.bind (α:=Machine) ((zW ({ v93.1 with modules:=(v93.1.modules.set v48.1.modules.length ⟨{ v106.x with done:=true }⟩) }) (zk s)).bind λ v111=>
if(decide (zk s≠(⟨[]⟩:Str))&&cmpI .geq v111 (0:Int))=true then((atI (v93.1.modules.set v48.1.modules.length ⟨{ v106.x with done:=true }⟩) v111).bind λ _v118=>
(jr s).bind λ v120=>
((v93.1.modules.set v48.1.modules.length ⟨{ v106.x with done:=true }⟩)[v111.toNat]?).bind λ v125=>
(yc v125.x v120 (⟨(1:Int),(v48.1.modules.length:Int)⟩:GVal)).bind λ v127=>
some ({ v93.1 with modules:=((v93.1.modules.set v48.1.modules.length ⟨{ v106.x with done:=true }⟩).set v111.toNat ⟨v127⟩) }))
else(some ({ v93.1 with modules:=(v93.1.modules.set v48.1.modules.length ⟨{ v106.x with done:=true }⟩) }))) λ o110=>
some (o110,(v48.1.modules.length:Int),(0:Int)))))=some (mach t path r.1,r.2.1,r.2.2):=by
 have sm:=RSt.small hsz (by decide);have hlr:=zdo (t:=t) h hp s;have hlf:=look_file (t:=t) (path:=path) (st:=st) s;rw[look_eq ht hp h sm hs,obS];unfold newF at hr;generalize qj t path st s=sp at*;by_cases hk:sp.kind=0
 ·
  rw[if_pos hk] at hr;injection hr with hr;subst hr;rw[if_pos (XP hk)]
 ·
  rw[if_neg hk] at hr;have hgi:Inv (st.grown s sp):=⟨(h.begin (sp:=sp) hs hlr).names,(h.begin (sp:=sp) hs hlr).roots,(h.begin (sp:=sp) hs hlr).parts,(h.begin (sp:=sp) hs hlr).apart,h.left⟩;have hgz:(st.grown s sp).size=st.size+1:=by unfold RSt.size RSt.grown;simp only[List.length_append,List.length_cons,List.length_nil];omega
  have hgm:(st.grown s sp).mods[st.mods.length]?=some ⟨s,sp.kind,sp.roots,true,false,[]⟩:=by unfold RSt.grown;simp
  have hbz:(st.begin s sp).size=st.size+2:=by unfold RSt.size RSt.begin;simp only[List.length_append,List.length_cons,List.length_nil];omega
  obtain⟨q,hq,hb⟩:=run_ok (path:=path) ht.ok hI (h.begin (sp:=sp) hs hlr) (by exact hn) st.mods.length sp;have hqs:=hb.size;rw[hq,obS] at hr;have hbody:=hB (st.grown s sp) st.mods.length _ sp q hgi (by exact hn) hle (by omega) hgm hlf hq;obtain⟨m,hm⟩:=hb.grow.at_ (show(st.begin s sp).mods[st.mods.length]?=some ⟨s,sp.kind,sp.roots,true,false,[]⟩ by unfold RSt.begin;simp);have hlen:(bxs st.mods).length=st.mods.length:=bxs_len _;rw[if_neg (by rw[Yi hk];decide),yH (by simp;omega) (by simp;omega),obS,List.nil_append,show(mach t path st).modules=bxs st.mods from rfl,yH (by rw[hlen];have:=sm.mods;show(st.mods.length+1)*8<=_;omega) (by rw[hlen];have:=sm.mods;show st.mods.length+1<=_;omega),obS,bxs_app,hlen,
   show({ mach t path st with modules:=bxs (st.mods++[⟨s,sp.kind,sp.roots,true,false,[]⟩]) }:Machine)=mach t path (st.grown s sp) from rfl,hbody,obS]
  by_cases he:q.2=0
  ·
   rw[if_neg (by simp[he])] at hr;injection hr with hr;subst hr;simp only;rw[he,if_neg (by decide),if_pos rfl,show ∀ (z:RSt),(mach t path z).modules=bxs z.mods from λ _=>rfl,show(q.1.note 1 s).mods=q.1.mods from rfl,qh hm,obS];have hsd:=set_done (t:=t) (path:=path) hm s;have hmd:(bxs q.1.mods).set st.mods.length ⟨{ m with done:=true }⟩=bxs (q.1.done st.mods.length s).mods:=by
    rw[zbz];unfold RSt.done;rw[QF _ hm]
   have hid:=hb.inv.done st.mods.length s;have hdz:(q.1.done st.mods.length s).size=q.1.size+1:=by unfold RSt.size RSt.done;simp only[YT,List.length_append,List.length_cons,List.length_nil];omega
   rw[hmd,show({ mach t path (q.1.note 1 s) with modules:=bxs (q.1.done st.mods.length s).mods }:Machine)=mach t path (q.1.done st.mods.length s) by rw[← hmd];exact hsd];rw[X3 (RSt.small (n:=20100) (by omega) (by decide)).mods,obS];have hfin:((if(decide (zk s≠(⟨[]⟩:Str))&&cmpI .geq (cix (q.1.done st.mods.length s) (zk s)) (0:Int))=true then((atI (bxs (q.1.done st.mods.length s).mods) (cix (q.1.done st.mods.length s) (zk s))).bind λ v118=>
     (jr s).bind λ v120=>
     ((bxs (q.1.done st.mods.length s).mods)[(cix (q.1.done st.mods.length s) (zk s)).toNat]?).bind λ v125=>
     (yc v125.x v120 (⟨(1:Int),(st.mods.length:Int)⟩:GVal)).bind λ v127=>
     some ({ mach t path (q.1.note 1 s) with modules:=((bxs (q.1.done st.mods.length s).mods).set (cix (q.1.done st.mods.length s) (zk s)).toNat ⟨v127⟩) }:Machine))
     else(some (mach t path (q.1.done st.mods.length s)))):Option Machine)=some (mach t path ((q.1.done st.mods.length s).tell st.mods.length s)):=by
    unfold RSt.tell;rcases Zi (q.1.done st.mods.length s) (zk s) with⟨h1,_⟩ | ⟨k,m2,h1,h2,h3,_⟩
    ·
     rw[h1,geq_m1,Bool.and_false,if_neg (show ¬ (false=true) by decide),if_neg (show ¬ (false=true) by decide)]
    ·
     have hne:¬ zk s=(⟨[]⟩:Str):=λ e=>by
      have:=cix_empty hid;rw[show emptyS=zk s from e.symm,h1] at this;omega
     rw[h1,X0,decide_eq_true hne,Bool.true_and,if_pos (show true=true from rfl),if_pos (show true=true from rfl),zQ,qh h2,obS,LastOf_eq hs,obS,Int.toNat_natCast,qh h2,obS,give_eq (hid.at_ h2).2.2.1,obS,zbz,set_give h2];rfl
   rw[hfin,obS]
  ·
   rw[if_pos he] at hr;injection hr with hr;subst hr;simp only;rw[if_pos (neq_0 he),if_neg he,show ∀ (z:RSt),(mach t path z).modules=bxs z.mods from λ _=>rfl,show(q.1.note 2 s).mods=q.1.mods from rfl,qh hm,obS,set_fail hm s]
theorem load_eq(ht:Good t)(hp:path.length<=1048576)(hI:Wu n I)(hL:Qi t path n R I)(hB:BodyEq t path n R I)(h:Inv st){s:Str}(hs:zd s=true)(hn:4*st.left.toNat+(zj s dot).length<=n+1)(hle:st.left<=1000000)(hsz:st.size<=20000){r:RSt×Int×Int}(hr:impF t path I st s=some r):
  wS R (mach t path st) s=some (mach t path r.1,r.2.1,r.2.2):=by
 have sm:=RSt.small hsz (by decide);have hpp:=qN s;have hpl:=YU hs;unfold impF at hr;unfold wS;rw[X3 sm.mods,obS];rcases Zi st s with⟨h1,_⟩ | ⟨k,m,h1,h2,h3,_⟩
 ·
  rw[h1,if_neg (by decide)] at hr;rw[h1,if_neg (by decide),Yq hs,obS];by_cases he:zk s=emptyS
  ·
   rw[if_pos he,obS,if_neg (by simp)] at hr;simp only at hr;rw[h1,if_neg (by decide)] at hr;rw[if_neg (by rw[show zk s=(⟨[]⟩:Str) from he];decide),obS,Sum.elim_inl];exact load_new ht hp hI hB h (by omega) hle (by omega) hs hr
  ·
   have he':¬ zk s=(⟨[]⟩:Str):=he;obtain⟨e1,e2⟩:=wP hs he;obtain⟨q,hq,hqp⟩:=hI st (zk s) h e2 (by omega);have hqs:=hqp.size;have hql:=hqp.grow.left;have hqi:=hqp.inv.left;have hl0:=h.left;have hld:=hL st (zk s) q h e2 (by omega) hsz hq;rw[if_neg he,hq,obS] at hr;rw[if_pos (by rw[decide_eq_true he']),hld,obS];by_cases hz:q.2.2=0
   ·
    rw[if_neg (by simp[hz])] at hr;simp only;rw[hz,if_neg (by decide),X3 (RSt.small (n:=20100) (by omega) (by decide)).mods,obS];rcases Zi q.1 s with⟨k1,_⟩ | ⟨k,m,k1,k2,k3,_⟩
    ·
     rw[k1,if_neg (by decide)] at hr;rw[k1,if_neg (by decide),obS,Sum.elim_inl];exact load_new ht hp hI hB hqp.inv (by omega) (by omega) (by omega) hs hr
    ·
     have smq:=RSt.small (st:=q.1) (n:=20100) (by omega) (by decide);rw[k1,if_pos (X0 k),Int.toNat_natCast] at hr;injection hr with hr;subst hr;rw[k1,if_pos (X0 k),hit_eq smq.log smq.part k2,obS,k3];rfl
   ·
    rw[if_pos hz] at hr;injection hr with hr;subst hr;simp only;rw[if_pos (neq_0 hz)];rfl
 ·
  rw[h1,if_pos (X0 k),Int.toNat_natCast] at hr;injection hr with hr;subst hr;rw[h1,if_pos (X0 k),hit_eq sm.log sm.part h2,obS,h3]
theorem left_of(h:Inv st){z:Nat}(hz:st.size<=z)(hh:z<=100000):st.left<=1000000:=by
 unfold RSt.size at hz;have:=h.left;omega
theorem body_of(ht:Good t)(hp:path.length<=1048576){k M:Nat}(hL:Qi t path k (scc M) (imp t path k)):BodyEq t path k (scc (M+2)) (imp t path k):=
 have hI:=imp_ok ht.ok hp k;have hD:DoEq t path k (scc (M+1)) (imp t path k):=λ _ _ _ _ _ h hm hx hn hsz hr=>do_eq ht hp hI hL h hn hsz hm hx hr
 λ _ _ _ _ _ h hn hle hsz hm hf hr=>body_eq ht.ok hI hD h hn hle hsz hm hf hr
theorem scc_load(ht:Good t)(hp:path.length<=1048576):∀ (k N:Nat),3*k<=N->Qi t path k (scc N) (imp t path k)
 | 0,_,_=>λ _ _ _ _ _ _ _ hr=>by cases hr
 |
  k+1,N,hN=>λ st s r h hs hn hsz hr=>by
  obtain⟨M,rfl⟩:∃ M,N=M+3:=⟨N - 3,by omega⟩;exact load_eq ht hp (imp_ok ht.ok hp k) (scc_load ht hp k (M+2) (by omega)) (body_of ht hp (scc_load ht hp k M (by omega))) h hs hn (left_of h hsz (by decide)) hsz hr
open Go.RowKit
variable(t:Tree)(path:List Int)
variable{t path}{st:RSt}{n:Nat}{R:Rec}{I:RImp}
open Go.RowKit
variable{t:Tree}{path:List Int}{st:RSt}{n:Nat}{R:Rec}{I:RImp}
open Go.RowKit
variable{t:Tree}{path:List Int}{st:RSt}{n:Nat}{R:Rec}{I:RImp}
open Go.RowKit
def st0:RSt:=⟨[],[],[],120,[]⟩
theorem st0_inv:Inv st0:=⟨(λ _ h=>by cases h),(λ _ h=>by cases h),(λ _ h=>by cases h),(λ _ h=>by cases h),by decide⟩
theorem st0_size:st0.size=12000:=rfl
def YW:Nat:=2420
variable{t:Tree}{path:List Int}{s:Str}
def ranR(t:Tree)(path:List Int)(s:Str):RSt×Int×Int:=(imp t path 483 st0 s).getD (st0,0,0)
theorem ran_ok(hv:zw t=true)(hp:path.length<=1048576)(hs:zd s=true):imp t path 483 st0 s=some (ranR t path s)/\ImpPost st0 s (ranR t path s)/\(ranR t path s).1.size<=12012:=by
 have hpl:=YU hs;obtain⟨r,hr,hk⟩:=imp_ok hv hp 483 st0 s st0_inv hs (by show 4*120+_<=_;omega);have:ranR t path s=r:=by unfold ranR;rw[hr];rfl
 rw[this];have h1:=hk.size;rw[st0_size] at h1;exact⟨hr,hk,by omega⟩
theorem Wv(ht:xg t)(hp:path.length<=1048576)(hn:sho s):xS (scc YW) t path s=some (if okG t path s=true then(⟨some (mach t path (ranR t path s).1)⟩,(ranR t path s).2.2) else(⟨none⟩,-1)):=by
 unfold xS;rw[Js ht,obS,Jt hp,xk,obS,xl hn,xk,obS];have key:okG t path s=true->(jY t path 120).bind (λ v15=>((scc YW).impl_machine_load1 v15 s).bind λ v21=>some ((⟨some v21.1⟩:Np Machine),v21.2.2))=some (⟨some (mach t path (ranR t path s).1)⟩,(ranR t path s).2.2):=λ h=>by
  obtain⟨hv,_,hs⟩:=xI h;have hpl:=YU hs;obtain⟨h1,_,_⟩:=ran_ok hv hp hs;have h2:=scc_load ⟨ht,hv⟩ hp 483 YW (by decide) st0 s _ st0_inv hs (by show 4*120+_<=_;omega) (by decide) h1;rw[show jY t path 120=some (mach t path st0) from rfl,obS,h2];rfl
 unfold okG at key ⊢;cases h1:zw t with
 | false=>rfl
 |
  true=>
  cases h2:xA path with
  | false=>rfl
  |
   true=>
   cases h3:zd s with
   | false=>rfl
   | true=>exact key (by rw[h1,h2,h3];rfl)
def evs(k:Int)(l:List GEvent):List Str:=(l.filter (λ e=>cmpI .eql e.kind k)).map (·.name)
theorem evs_fold(k:Int):∀ (l:List GEvent) (out:List Str),l.foldl (λ o e=>if cmpI .eql e.kind k=true then o++[e.name] else o) out=out++evs k l
 | [],out=>by simp[evs]
 |
  e::l,out=>by
  rw[List.foldl_cons,evs_fold k l];unfold evs;cases h:cmpI .eql e.kind k with
  | true=>rw[if_pos rfl,List.filter_cons_of_pos (by simpa using h)];simp
  | false=>rw[if_neg (by decide),List.filter_cons_of_neg (by simp[h])]
theorem ev_loop{step:List Str×Int->Option ((List Str×Int)⊕List Str)}(k:Int)(l:List GEvent)(hl:l.length<=1048576)
  (h:∀ i out x,l[i]?=some x->i<l.length->out.length<=1048576->step (out,(i:Int))=some (.inl (if cmpI .eql x.kind k=true then out++[x.name] else out,((i+1:Nat):Int))))
  (hend:∀ out,step (out,(l.length:Int))=some (.inr out)):zK step (([]:List Str),(0:Int))=some (evs k l):=by
 have key:=Qz (step:=step) l (λ(o:List Str) i=>(o,(i:Int))) (λ o e=>if cmpI .eql e.kind k=true then o++[e.name] else o) (λ o=>o) (λ i o=>o.length<=i)
  (λ i o e he hi ho=>⟨h i o e he hi (by omega),by
   split
   ·
    rw[List.length_append];show o.length+1<=_;omega
   ·
    omega⟩) (λ o _=>hend o) (s0:=[]) (Nat.zero_le _) (by omega)
 rw[evs_fold,List.nil_append] at key;exact key
def logV(t:Tree)(path:List Int)(s:Str):List GEvent:=(ranR t path s).1.log
theorem log_len(hv:zw t=true)(hp:path.length<=1048576)(hs:zd s=true):(logV t path s).length<=12012:=by
 have:=(ran_ok hv hp hs).2.2;unfold RSt.size at this;unfold logV;omega
def evV(k:Int)(t:Tree)(path:List Int)(s:Str):List Str:=if okG t path s=true then evs k (logV t path s) else[]
theorem eventNames_eq(ht:xg t)(hp:path.length<=1048576)(hn:sho s)(k:Int):j6 (scc YW) t path s k=some (evV k t path s):=by
 unfold j6;rw[Wv ht hp hn,obS];unfold evV;cases h:okG t path s with
 | false=>rfl
 |
  true=>
  obtain⟨hv,_,hs⟩:=xI h;have hll:=log_len hv hp hs;have hl:zK (λ s13=>xY (scc YW) k (mach t path (ranR t path s).1) s13) (([]:List Str),(0:Int))=some (evs k (logV t path s)):=by
   refine ev_loop k (logV t path s) (by omega) (λ i out x hx hi ho=>?_) (λ out=>?_)
   ·
    unfold xY;simp only;rw[show(mach t path (ranR t path s).1).log=logV t path s from rfl,zE,if_pos (decide_eq_true hi),zQ,hx,obS,zS (by omega)];cases hk:cmpI .eql x.kind k with
    | true=>rw[if_pos rfl,yH (by show(out.length+1)*16<=_;omega) (by show out.length+1<=_;omega)];rfl
    | false=>rfl
   ·
    unfold xY;simp only;rw[show(mach t path (ranR t path s).1).log=logV t path s from rfl,zE,if_neg (by simp)]
  rw[if_pos rfl,if_pos rfl];simp only;rw[if_pos (show(some (mach t path (ranR t path s).1)).isSome=true from rfl),obS,hl];rfl
theorem DoneOrder_eq(ht:xg t)(hp:path.length<=1048576)(hn:sho s):qA (scc YW) t path s=some (evV 1 t path s):=by
 unfold qA;rw[eventNames_eq ht hp hn];rfl
open Go.RowKit
def remF(l:List Str)(x:Str):List Str:=l.take (xo (λ y=>decide (y=x)) l).toNat++l.drop ((xo (λ y=>decide (y=x)) l).toNat+1)
theorem remF_last{g:List Str}{s:Str}(h:s ∉ g):xo (λ y=>decide (y=s)) (g++[s])=(g.length:Int)/\remF (g++[s]) s=g:=by
 have e:xo (λ y=>decide (y=s)) (g++[s])=(g.length:Int):=by
  refine idx_hit (x:=s) ?_ (by simp) (by simp);rw[List.take_left,List.any_eq_false];intro x hx hd;have:x=s:=by simpa using hd
  rw[this] at hx;exact h hx
 refine⟨e,?_⟩;unfold remF;rw[e,Int.toNat_natCast,List.take_left,List.drop_eq_nil_of_le (by simp),List.append_nil]
def pst(s:List Str×List Str)(e:GEvent):Option (List Str×List Str):=
 if e.kind=0 then some (s.1,s.2++[e.name])
 else if e.kind=1\/e.kind=2 then(if e.name∈s.2 then some (s.1,remF s.2 e.name) else none)
 else if e.kind=3 then some (if e.name∈s.2/\e.name ∉ s.1 then(s.1++[e.name],s.2) else s)
 else some s
def pfold(l:List GEvent)(s:List Str×List Str):Option (List Str×List Str):=l.foldlM pst s
theorem zb7(l m:List GEvent)(s:List Str×List Str):pfold (l++m) s=(pfold l s).bind (pfold m):=by unfold pfold;rw[List.foldlM_append];rfl
theorem zb8(e:GEvent)(s:List Str×List Str):pfold [e] s=pst s e:=by
 unfold pfold;rw[List.foldlM_cons];show(pst s e).bind (λ s=>some s)=_;cases pst s e <;> rfl
abbrev Flag:=Str×Bool×Bool
def je(st:RSt):List Flag:=st.mods.map λ m=>(m.name,m.cached,m.done)
structure PI(g:List Str)(st:RSt):Prop where
 fold:pfold st.log ([],[])=some (st.part,g)
 mem:∀ s,s∈g ↔ (s,true,false)∈je st
 uniq:∀ (i j:Nat) (s:Str) (d d':Bool),(je st)[i]?=some (s,true,d)->(je st)[j]?=some (s,true,d')->i=j
def Keep(a b:RSt):Prop:=∃ l,je b=je a++l
theorem Keep.refl(a:RSt):Keep a a:=⟨[],by simp⟩
theorem Keep.trans{a b c:RSt}(h:Keep a b)(k:Keep b c):Keep a c:=by
 obtain⟨l,h⟩:=h;obtain⟨m,k⟩:=k;exact⟨l++m,by rw[k,h,List.append_assoc]⟩
theorem updA_map{α β:Type}(l:List α)(k:Nat)(f:α->α)(g:α->β)(h:∀ x,g (f x)=g x):(updA l k f).map g=l.map g:=by
 unfold updA;split
 ·
  rename_i x hx;rw[List.map_set,h];apply List.ext_getElem?;intro i;by_cases e:k=i
  ·
   subst e;rw[List.getElem?_set_self (by rw[List.length_map];exact zA hx),List.getElem?_map,hx];rfl
  ·
   rw[List.getElem?_set_ne e]
 ·
  rfl
theorem flags_give(st:RSt)(k:Nat)(s:Str)(v:GVal):je (st.give k s v)=je st:=updA_map _ _ _ _ λ _=>rfl
theorem PI.same{g:List Str}{a b:RSt}(h:PI g a)(h1:b.log=a.log)(h2:b.part=a.part)(h3:je b=je a):PI g b:=⟨by rw[h1,h2];exact h.fold,by rw[h3];exact h.mem,by rw[h3];exact h.uniq⟩
def Nice(a b:RSt):Prop:=Keep a b/\∀ g,PI g a->PI g b
theorem Nice.refl(a:RSt):Nice a a:=⟨Keep.refl a,λ _ h=>h⟩
theorem Nice.trans{a b c:RSt}(h:Nice a b)(k:Nice b c):Nice a c:=⟨h.1.trans k.1,λ g p=>k.2 g (h.2 g p)⟩
theorem Nice.of{a b:RSt}(h1:b.log=a.log)(h2:b.part=a.part)(h3:je b=je a):Nice a b:=⟨⟨[],by rw[h3,List.append_nil]⟩,λ _ h=>h.same h1 h2 h3⟩
theorem Nice.give(st:RSt)(k:Nat)(s:Str)(v:GVal):Nice st (st.give k s v):=Nice.of rfl rfl (flags_give ..)
theorem Nice.tell(st:RSt)(k:Nat)(s:Str):Nice st (st.tell k s):=by
 unfold RSt.tell;split
 ·
  exact Nice.give ..
 ·
  exact Nice.refl _
theorem flag_at{st:RSt}{k:Nat}{m:GMod}(h:st.mods[k]?=some m):(je st)[k]?=some (m.name,m.cached,m.done):=by unfold je;rw[List.getElem?_map,h];rfl
theorem Nice.hit{st:RSt}{k:Nat}{m:GMod}(hm:st.mods[k]?=some m)(hc:m.cached=true):Nice st (st.hit k m.name):=by
 refine⟨⟨[],by rw[List.append_nil];rfl⟩,λ g h=>⟨?_,h.mem,h.uniq⟩⟩;have hf:=flag_at hm;rw[hc] at hf;have hd:st.doneAt k=m.done:=by unfold RSt.doneAt;rw[hm];rfl
 have hg:st.doneAt k=false ↔ m.name∈g:=by
  rw[hd,h.mem];constructor
  ·
   intro e;rw[e] at hf;exact List.mem_of_getElem? hf
  ·
   intro e;obtain⟨j,hj⟩:=List.getElem?_of_mem e;have:=h.uniq k j m.name m.done false hf hj;subst this;rw[hf] at hj;injection hj with hj;injection hj with _ hj;injection hj
 show pfold (st.log++[⟨3,m.name⟩]) ([],[])=_;rw[zb7,h.fold,obS,zb8];unfold pst RSt.hit;rw[if_neg (by simp),if_neg (by simp),if_pos rfl];by_cases hc2:st.doneAt k=false/\m.name ∉ st.part
 ·
  rw[if_pos ⟨hg.1 hc2.1,hc2.2⟩];simp only;rw[if_pos hc2]
 ·
  rw[if_neg (λ e=>hc2 ⟨hg.2 e.1,e.2⟩)];simp only;rw[if_neg hc2]
theorem PI.begin{g:List Str}{st:RSt}(h:PI g st){s:Str}(hc:cix st s=-1)(sp:Spec):PI (g++[s]) (st.begin s sp)/\je (st.begin s sp)=je st++[(s,true,false)]/\s ∉ g:=by
 have hno:∀ d,(s,true,d) ∉ je st:=λ d hd=>by
  unfold je at hd;obtain⟨m,hm,e⟩:=List.mem_map.1 hd;rcases Zi st s with⟨_,k2⟩ | ⟨k,_,k1,_⟩
  ·
   have:=k2 m hm;injection e with e1 e2;injection e2 with e2 _;unfold hits at this;rw[e1,e2] at this;simp at this
  ·
   rw[hc] at k1;omega
 have hf:je (st.begin s sp)=je st++[(s,true,false)]:=by unfold je RSt.begin;simp
 refine⟨⟨?_,λ x=>?_,λ i j x d d' h1 h2=>?_⟩,hf,λ e=>hno false ((h.mem s).1 e)⟩
 ·
  show pfold (st.log++[⟨0,s⟩]) ([],[])=_;rw[zb7,h.fold,obS,zb8];rfl
 ·
  rw[hf,List.mem_append,List.mem_append,h.mem x];simp
 ·
  rw[hf] at h1 h2;by_cases i1:i<(je st).length
  ·
   rw[List.getElem?_append_left i1] at h1;by_cases j1:j<(je st).length
   ·
    rw[List.getElem?_append_left j1] at h2;exact h.uniq i j x d d' h1 h2
   ·
    rw[List.getElem?_append_right (by omega)] at h2;have hj:j - (je st).length=0:=by have:=zA h2;simp at this;omega
    rw[hj] at h2;simp at h2;exact absurd (List.mem_of_getElem? (h2.1 ▸ h1)) (hno d)
  ·
   rw[List.getElem?_append_right (by omega)] at h1;have hi:i - (je st).length=0:=by have:=zA h1;simp at this;omega
   by_cases j1:j<(je st).length
   ·
    rw[List.getElem?_append_left j1] at h2;rw[hi] at h1;simp at h1;exact absurd (List.mem_of_getElem? (h1.1 ▸ h2)) (hno d')
   ·
    rw[List.getElem?_append_right (by omega)] at h2;have hj:j - (je st).length=0:=by have:=zA h2;simp at this;omega
    omega
theorem PI.stop{g:List Str}{q b:RSt}{F l:List Flag}{s:Str}{c d:Bool}(h:PI (g++[s]) q)(hg:s ∉ g)(hq:je q=F++(s,true,false)::l)(hb:je b=F++(s,c,d)::l)(hcd:(c,d)≠(true,false)){k:Int}(hk:k=1\/k=2)(hl:b.log=q.log++[⟨k,s⟩])(hp:b.part=q.part):PI g b:=by
 have hat:(je q)[F.length]?=some (s,true,false):=by rw[hq];simp
 have hget:∀ i,i≠F.length->(je b)[i]?=(je q)[i]?:=λ i hi=>by
  rw[hb,hq];by_cases h1:i<F.length
  ·
   rw[List.getElem?_append_left h1,List.getElem?_append_left h1]
  ·
   rw[List.getElem?_append_right (by omega),List.getElem?_append_right (by omega)];obtain⟨n,hn⟩:∃ n,i - F.length=n+1:=⟨i - F.length - 1,by omega⟩;rw[hn];rfl
 have hbt:(je b)[F.length]?=some (s,c,d):=by rw[hb];simp
 refine⟨?_,λ x=>?_,λ i j x e e' h1 h2=>?_⟩
 ·
  rw[hl,hp,zb7,h.fold,obS,zb8];unfold pst;simp only;rw[if_neg (by rcases hk with hk | hk <;> rw[hk] <;> decide),if_pos (by rcases hk with hk | hk <;> rw[hk] <;> decide),if_pos (by simp),(remF_last hg).2]
 ·
  constructor
  ·
   intro hx;obtain⟨i,hi⟩:=List.getElem?_of_mem ((h.mem x).1 (List.mem_append_left _ hx));have hne:i≠F.length:=λ e=>by
    rw[e,hat] at hi;injection hi with hi;injection hi with hi _;rw[hi] at hg;exact hg hx
   rw[← hget i hne] at hi;exact List.mem_of_getElem? hi
  ·
   intro hx;obtain⟨i,hi⟩:=List.getElem?_of_mem hx;have hne:i≠F.length:=λ e=>by
    rw[e,hbt] at hi;injection hi with hi;injection hi with _ hi;exact hcd hi
   rw[hget i hne] at hi;have:=(h.mem x).2 (List.mem_of_getElem? hi);rcases List.mem_append.1 this with h1 | h1
   ·
    exact h1
   ·
    simp only[List.mem_singleton] at h1;subst h1;exact absurd (h.uniq i F.length x false false hi hat) hne
 ·
  have key:∀ (i:Nat) (e:Bool),(je b)[i]?=some (x,true,e)->∃ e2,(je q)[i]?=some (x,true,e2):=λ i e hi=>by
   by_cases hne:i=F.length
   ·
    rw[hne,hbt] at hi;injection hi with hi;injection hi with hi _;rw[hne,hat,hi];exact⟨_,rfl⟩
   ·
    rw[hget i hne] at hi;exact⟨_,hi⟩
  obtain⟨_,k1⟩:=key i e h1;obtain⟨_,k2⟩:=key j e' h2;exact h.uniq i j x _ _ k1 k2
open Go.RowKit
variable{t:Tree}{path:List Int}{st:RSt}{I:RImp}
variable{s:Str}
def partV(t:Tree)(path:List Int)(s:Str):List Str:=if okG t path s=true then(ranR t path s).1.part else[]
theorem partV_len(hp:path.length<=1048576):(partV t path s).length<=12012:=by
 unfold partV;split
 ·
  rename_i h;obtain⟨hv,_,hs⟩:=xI h;have:=(ran_ok hv hp hs).2.2;unfold RSt.size at this;omega
 ·
  exact Nat.zero_le _
theorem zdq(ht:xg t)(hp:path.length<=1048576)(hn:sho s):jF (scc YW) t path s=some (partV t path s):=by
 have hl:=partV_len (t:=t) (s:=s) hp;unfold jF;rw[Wv ht hp hn,obS];unfold partV at hl ⊢;cases h:okG t path s with
 | false=>rfl
 |
  true=>
  rw[h] at hl;rw[if_pos rfl] at hl;rw[if_pos rfl,if_pos rfl];simp only;rw[if_neg (by simp),obS,show(mach t path (ranR t path s).1).part=(ranR t path s).1.part from rfl,yH (by simp;omega) (by simp;omega),obS,List.nil_append]
open Go.RowKit
structure New(t:Tree)(path:List Int)(st:RSt)(s:Str):Prop where
 name:zd s=true
 gone:∀ m∈st.mods,hits s m=false
 up:zk s=emptyS\/∃ m∈st.mods,hits (zk s) m=true
 kind:(qj t path st s).kind≠0
inductive Tr (t:Tree) (path:List Int):RSt->RSt->Int->Prop
 | stop (a:RSt) (e:Int):Tr t path a a e
 | seq {a b c:RSt} {e:Int} (h:Tr t path a b 0) (k:Tr t path b c e):Tr t path a c e
 | tick (a:RSt):Tr t path a { a with left:=a.left - 1 } 0
 | out (a:RSt) (o:List Int):Tr t path a { a with out:=a.out++o } 0
 | give (a:RSt) (k:Nat) (s:Str) (v:GVal):Tr t path a (a.give k s v) 0
 | hit (a:RSt) (k:Nat) (s:Str) {m:GMod} (hm:a.mods[k]?=some m) (hs:hits s m=true):Tr t path a (a.hit k s) 0
 | bad {a b:RSt} {s:Str} {e:Int} (n:New t path a s) (h:Tr t path (a.begin s (qj t path a s)) b e) (he:e≠0):Tr t path a (b.fail a.mods.length s) e
 | good {a b:RSt} {s:Str} (n:New t path a s) (h:Tr t path (a.begin s (qj t path a s)) b 0):Tr t path a ((b.done a.mods.length s).tell a.mods.length s) 0
variable{t:Tree}{path:List Int}{a b st:RSt}{e:Int}{s:Str}
structure Kept(m m':GMod):Prop where
 name:m'.name=m.name
 cached:m'.cached=m.cached
 kind:m'.kind=m.kind
 roots:m'.roots=m.roots
 done:m.done=true->m'.done=true
 attrs:∀ x∈m.attrs.map (·.name),x∈m'.attrs.map (·.name)
theorem Kept.refl(m:GMod):Kept m m:=⟨rfl,rfl,rfl,rfl,id,λ _ h=>h⟩
theorem Kept.trans{m n o:GMod}(h:Kept m n)(k:Kept n o):Kept m o:=⟨k.name.trans h.name,k.cached.trans h.cached,k.kind.trans h.kind,k.roots.trans h.roots,λ e=>k.done (h.done e),λ x hx=>k.attrs x (h.attrs x hx)⟩
theorem put_mem{l:List GAttr}{s:Str}{v:GVal}:∀ x∈l.map (·.name),x∈(qa l s v).map (·.name):=λ x hx=>by
 rw[QI];split
 ·
  exact hx
 ·
  exact List.mem_append_left _ hx
theorem put_has{l:List GAttr}{s:Str}{v:GVal}:s∈(qa l s v).map (·.name):=by
 rw[QI];split
 ·
  rename_i h;obtain⟨x,h1,h2,_⟩:=W6 h;exact List.mem_map.2 ⟨x,List.mem_of_getElem? h1,by simpa using h2⟩
 ·
  simp
theorem giv_at(a:RSt)(k:Nat)(s:Str)(v:GVal)(i:Nat):(a.give k s v).mods[i]?=if i=k then a.mods[k]?.map (λ m=>{ m with attrs:=qa m.attrs s v }) else a.mods[i]?:=Qh i
theorem zb9(a:RSt)(k:Nat)(s:Str)(v:GVal){i:Nat}{m:GMod}(h:a.mods[i]?=some m):∃ m',(a.give k s v).mods[i]?=some m'/\Kept m m':=by
 rw[giv_at];by_cases e:i=k
 ·
  subst e;rw[if_pos rfl,h];exact⟨_,rfl,rfl,rfl,rfl,rfl,id,put_mem⟩
 ·
  rw[if_neg e];exact⟨m,h,Kept.refl m⟩
theorem QJ(a:RSt)(k:Nat)(s:Str){i:Nat}{m:GMod}(h:a.mods[i]?=some m):∃ m',(a.tell k s).mods[i]?=some m'/\Kept m m':=by
 unfold RSt.tell;split
 ·
  exact zb9 _ _ _ _ h
 ·
  exact⟨m,h,Kept.refl m⟩
theorem done_at(a:RSt)(k:Nat)(s:Str)(i:Nat):(a.done k s).mods[i]?=if i=k then a.mods[k]?.map (λ m=>{ m with done:=true }) else a.mods[i]?:=Qh i
theorem zca(a:RSt)(k:Nat)(s:Str){i:Nat}{m:GMod}(h:a.mods[i]?=some m):∃ m',(a.done k s).mods[i]?=some m'/\Kept m m':=by
 rw[done_at];by_cases e:i=k
 ·
  subst e;rw[if_pos rfl,h];exact⟨_,rfl,rfl,rfl,rfl,rfl,λ _=>rfl,λ _ h=>h⟩
 ·
  rw[if_neg e];exact⟨m,h,Kept.refl m⟩
theorem fail_at(a:RSt)(k:Nat)(s:Str)(i:Nat):(a.fail k s).mods[i]?=if i=k then a.mods[k]?.map (λ m=>{ m with cached:=false }) else a.mods[i]?:=Qh i
theorem W8(a:RSt)(s:Str)(sp:Spec){i:Nat}{m:GMod}(h:a.mods[i]?=some m):(a.begin s sp).mods[i]?=some m:=by
 show(a.mods++_)[i]?=some m;rw[List.getElem?_append_left (zA h)];exact h
theorem zdr(a:RSt)(s:Str)(sp:Spec):(a.begin s sp).mods[a.mods.length]?=some ⟨s,sp.kind,sp.roots,true,false,[]⟩:=by
 show(a.mods++[_])[a.mods.length]?=_;simp
theorem tell_len(a:RSt)(k:Nat)(s:Str):(a.tell k s).mods.length=a.mods.length:=by
 unfold RSt.tell;split
 ·
  exact YT ..
 ·
  rfl
theorem Tr.kept(h:Tr t path a b e):∀ (i:Nat) (m:GMod),a.mods[i]?=some m->∃ m',b.mods[i]?=some m'/\Kept m m':=by
 induction h with
 | stop=>exact λ i m h=>⟨m,h,Kept.refl m⟩
 |
  seq _ _ h1 h2=>
  intro i m h;obtain⟨m1,k1,k2⟩:=h1 i m h;obtain⟨m2,k3,k4⟩:=h2 i m1 k1;exact⟨m2,k3,k2.trans k4⟩
 | tick=>exact λ i m h=>⟨m,h,Kept.refl m⟩
 | out=>exact λ i m h=>⟨m,h,Kept.refl m⟩
 | give=>exact λ i m h=>zb9 _ _ _ _ h
 | hit=>exact λ i m h=>⟨m,h,Kept.refl m⟩
 |
  bad n h he ih=>
  rename_i a b s e;intro i m h;obtain⟨m1,k1,k2⟩:=ih i m (W8 _ _ _ h);refine⟨m1,?_,k2⟩;rw[fail_at,if_neg (by have:=zA h;omega)];exact k1
 |
  good n h ih=>
  intro i m h;obtain⟨m1,k1,k2⟩:=ih i m (W8 _ _ _ h);obtain⟨m2,k3,k4⟩:=zca _ _ _ k1;obtain⟨m3,k5,k6⟩:=QJ _ _ _ k3;exact⟨m3,k5,k2.trans (k4.trans k6)⟩
theorem Tr.len(h:Tr t path a b e):a.mods.length<=b.mods.length:=by
 rcases Nat.eq_zero_or_pos a.mods.length with h0 | h0
 ·
  omega
 ·
  obtain⟨m,hm,_⟩:=h.kept (a.mods.length - 1) _ (List.getElem?_eq_getElem (by omega));have:=zA hm;omega
theorem Tr.to0{e:Int}(h:Tr t path a b e)(he:e=0):Tr t path a b 0:=he ▸ h
def Qj(t:Tree)(path:List Int)(I:RImp):Prop:=∀ (st:RSt) (s:Str) (r:RSt×Int×Int),zd s=true->I st s=some r->Tr t path st r.1 r.2.2/\(r.2.2=0->∃ m,r.1.mods[r.2.1.toNat]?=some m/\hits s m=true)
theorem hit_of(st:RSt)(s:Str)(h:cmpI .geq (cix st s) 0=true):∃ m,st.mods[(cix st s).toNat]?=some m/\hits s m=true:=by
 obtain⟨m,h1,h2,_⟩:=W6 h;exact⟨m,h1,h2⟩
theorem star_tr(at_:Nat):∀ (l:List GAttr) (st:RSt),Tr t path st (XS at_ l st) 0
 | [],st=>.stop st 0
 |
  x::l,st=>by
  unfold XS;rw[List.foldl_cons];split
  ·
   exact star_tr at_ l st
  ·
   exact .seq (.give ..) (star_tr at_ l _)
theorem value_tr{I:RImp}(hI:Qj t path I){k:Nat}{r:RSt×GVal×Int}(h:zaI t path I st k s=some r):Tr t path st r.1 r.2.2:=by
 unfold zaI at h;split at h
 ·
  injection h with h;subst h;exact .stop ..
 ·
  split at h
  ·
   injection h with h;subst h;exact .stop ..
  ·
   rename_i hc;split at h
   ·
    injection h with h;subst h;exact .stop ..
   ·
    have hv:zd (child (st.nameAt k) s)=true:=by
     cases hv:zd (child (st.nameAt k) s) with
     | true=>rfl
     | false=>exact absurd (.inr hv) hc
    obtain⟨q,hq,hr⟩:=bs h;injection hr with hr;subst hr;exact(hI _ _ _ hv hq).1
theorem stmt_tr{I:RImp}(hI:Qj t path I){at_:Nat}{x:Stmt}(hx:zX x=true){r:RSt×Int}(h:Yt t path I st at_ x=some r):Tr t path st r.1 r.2:=by
 unfold Yt at h;split at h
 ·
  rename_i hk;obtain⟨q,hq,hr⟩:=bs h;have h1:=(hI _ _ _ (qP hx (.inl hk)) hq).1;split at hr
  ·
   injection hr with hr;subst hr;exact h1
  ·
   rename_i he;have h1:=h1.to0 (by omega);split at hr
   ·
    injection hr with hr;subst hr;exact .seq h1 (.stop ..)
   ·
    injection hr with hr;subst hr;exact .seq h1 (.give ..)
 ·
  split at h
  ·
   split at h
   ·
    injection h with h;subst h;exact .stop ..
   ·
    rename_i hv;obtain⟨q,hq,hr⟩:=bs h;have h1:=(hI _ _ _ (by simpa using hv) hq).1;split at hr
    ·
     injection hr with hr;subst hr;exact h1
    ·
     rename_i he;have h1:=h1.to0 (by omega);obtain⟨u,hu,hr⟩:=bs hr;have h2:=value_tr hI hu;split at hr
     ·
      injection hr with hr;subst hr;exact .seq h1 h2
     ·
      rename_i he;injection hr with hr;subst hr;exact .seq h1 (.seq (h2.to0 (by omega)) (.give ..))
  ·
   split at h
   ·
    rename_i k2;obtain⟨q,hq,hr⟩:=bs h;have h1:=(hI _ _ _ (qP hx (.inr k2)) hq).1;split at hr
    ·
     injection hr with hr;subst hr;exact h1
    ·
     rename_i he;injection hr with hr;subst hr;exact .seq (h1.to0 (by omega)) (star_tr ..)
   ·
    split at h
    ·
     injection h with h;subst h;exact .give ..
    ·
     split at h
     ·
      split at h
      ·
       injection h with h;subst h;exact .stop ..
      ·
       injection h with h;subst h;exact .out ..
     ·
      split at h
      ·
       injection h with h;subst h;exact .stop ..
      ·
       injection h with h;subst h;exact .stop ..
theorem body_tr{I:RImp}(hI:Qj t path I)(at_:Nat):∀ (l:List Stmt) (st:RSt) (r:RSt×Int),(∀ x∈l,zX x=true)->W5 t path I at_ l st=some r->Tr t path st r.1 r.2
 | [],st,r,_,h=>by injection h with h;subst h;exact .stop ..
 |
  x::l,st,r,hl,h=>by
  unfold W5 at h;split at h
  ·
   injection h with h;subst h;exact .stop ..
  ·
   obtain⟨q,hq,hr⟩:=bs h;have h1:=stmt_tr hI (hl x (List.mem_cons_self ..)) hq;split at hr
   ·
    injection hr with hr;subst hr;exact .seq (.tick ..) h1
   ·
    rename_i he;exact .seq (.tick ..) (.seq (h1.to0 (by omega)) (body_tr hI at_ l _ _ (λ y hy=>hl y (List.mem_cons_of_mem _ hy)) hr))
theorem run_tr{I:RImp}(hv:zw t=true)(hI:Qj t path I){at_:Nat}{sp:Spec}{r:RSt×Int}(h:runF t path I st at_ sp=some r):Tr t path st r.1 r.2:=by
 unfold runF at h;split at h
 ·
  exact body_tr hI at_ _ _ _ (YV hv _) h
 ·
  injection h with h;subst h;exact .stop ..
theorem imp_tr(hv:zw t=true):∀ n,Qj t path (imp t path n)
 | 0=>λ _ _ _ _ h=>by cases h
 |
  n+1=>by
  intro st s r hs h;unfold imp impF at h;have hhit:∀ {st':RSt},Tr t path st st' 0->cmpI .geq (cix st' s) 0=true->∀ {r},some (st'.hit (cix st' s).toNat s,cix st' s,(0:Int))=some r->Tr t path st r.1 r.2.2/\(r.2.2=0->∃ m,r.1.mods[r.2.1.toNat]?=some m/\hits s m=true):=λ ht hc r hr=>by
   injection hr with hr;subst hr;obtain⟨m,h1,h2⟩:=hit_of _ _ hc;exact⟨.seq ht (.hit _ _ _ h1 h2),λ _=>⟨m,h1,h2⟩⟩
  split at h
  ·
   rename_i hc;exact hhit (.stop st 0) hc h
  ·
   rename_i hc0;obtain⟨q,hq,hr⟩:=bs h;have hpar:Tr t path st q.1 q.2.2/\(q.2.2=0->zk s=emptyS\/∃ m∈q.1.mods,hits (zk s) m=true):=by
    split at hq
    ·
     rename_i he;injection hq with hq;subst hq;exact⟨.stop ..,λ _=>.inl he⟩
    ·
     rename_i he;obtain⟨h1,h2⟩:=imp_tr hv n _ _ _ (wP hs he).2 hq;exact⟨h1,λ e=>.inr (let⟨m,k1,k2⟩:=h2 e;⟨m,List.mem_of_getElem? k1,k2⟩)⟩
   obtain⟨h1,h2⟩:=hpar;split at hr
   ·
    rename_i hne;injection hr with hr;subst hr;exact⟨h1,λ e=>absurd e hne⟩
   ·
    rename_i he;have he:q.2.2=0:=by omega
    have h1:=h1.to0 he;split at hr
    ·
     rename_i hc;exact hhit h1 hc hr
    ·
     rename_i hc;unfold newF at hr;split at hr
     ·
      injection hr with hr;subst hr;exact⟨.seq h1 (.stop ..),λ e=>absurd e (by simp)⟩
     ·
      rename_i hk;obtain⟨u,hu,hr⟩:=bs hr;have hn:New t path q.1 s:=⟨hs,Xg (by simpa[cix] using hc),h2 he,hk⟩;have h3:=run_tr hv (imp_tr hv n) hu;split at hr
      ·
       rename_i hne;injection hr with hr;subst hr;exact⟨.seq h1 (.bad hn h3 hne),λ e=>absurd e hne⟩
      ·
       rename_i he2;have h3:=h3.to0 (by omega);injection hr with hr;subst hr;refine⟨.seq h1 (.good hn h3),λ _=>?_⟩;obtain⟨m1,k1,k2⟩:=h3.kept _ _ (zdr ..);obtain⟨m2,k3,k4⟩:=zca _ q.1.mods.length s k1;obtain⟨m3,k5,k6⟩:=QJ _ q.1.mods.length s k3;have k7:=k2.trans (k4.trans k6);refine⟨m3,by simpa using k5,?_⟩;unfold hits;rw[k7.name,k7.cached];simp
open Go.RowKit
variable{t:Tree}{path:List Int}{a b st:RSt}{e:Int}{s:Str}
theorem wm(k:Int)(l m:List GEvent):evs k (l++m)=evs k l++evs k m:=by unfold evs;rw[List.filter_append,List.map_append]
theorem JD{k j:Int}{s:Str}(h:j=k):evs k [⟨j,s⟩]=[s]:=by subst h;simp[evs,cmpI]
theorem jK{k j:Int}{s:Str}(h:j≠k):evs k [⟨j,s⟩]=[]:=by simp[evs,cmpI,h]
theorem W9{α:Type}{l:List α}{k:Nat}{f:α->α}{i:Nat}{x:α}(h:(updA l k f)[i]?=some x):∃ y,l[i]?=some y/\((x=y/\i≠k)\/(i=k/\x=f y)):=by
 rw[Qh] at h;by_cases e:i=k
 ·
  subst e;rw[if_pos rfl] at h;cases hl:l[i]? with
  | none=>rw[hl] at h;cases h
  | some y=>rw[hl] at h;injection h with h;exact⟨y,rfl,.inr ⟨rfl,h.symm⟩⟩
 ·
  rw[if_neg e] at h;exact⟨x,h,.inl ⟨rfl,e⟩⟩
theorem ZF{α:Type}{l:List α}{x y:α}{i:Nat}(h:(l++[x])[i]?=some y):l[i]?=some y\/(i=l.length/\y=x):=by
 by_cases h1:i<l.length
 ·
  rw[List.getElem?_append_left h1] at h;exact .inl h
 ·
  rw[List.getElem?_append_right (by omega)] at h;have h2:i - l.length=0:=by have:=zA h;simp at this;omega
  rw[h2] at h;injection h with h;exact .inr ⟨by omega,h.symm⟩
structure Wf(st:RSt):Prop where
 starts:evs 0 st.log=st.mods.map (·.name)
 dones:∀ (i:Nat) (m:GMod),st.mods[i]?=some m->m.done=true->m.name∈evs 1 st.log
 fails:∀ (i:Nat) (m:GMod),st.mods[i]?=some m->m.cached=false->m.name∈evs 2 st.log
 dist:∀ (i j:Nat) (m m':GMod),st.mods[i]?=some m->st.mods[j]?=some m'->m.cached=true->m'.cached=true->m.name=m'.name->i=j
 part:∀ s∈st.part,s∈st.mods.map (·.name)
 order:∀ (i:Nat) (m:GMod),st.mods[i]?=some m->zk m.name≠emptyS->∃ (j:Nat) (m':GMod),j<i/\st.mods[j]?=some m'/\m'.name=zk m.name
theorem Wf.upd(h:Wf a){k:Nat}{f:GMod->GMod}{lg:List GEvent}{o:List Int}{lf:Int}{pt:List Str}(hn:∀ m,(f m).name=m.name)(hc:∀ m,(f m).cached=true->m.cached=true)(h0:evs 0 lg=evs 0 a.log)
  (hd:∀ m,a.mods[k]?=some m->(f m).done=true->m.name∈evs 1 lg) (hf:∀ m,a.mods[k]?=some m->(f m).cached=false->m.name∈evs 2 lg) (h1:∀ x∈evs 1 a.log,x∈evs 1 lg) (h2:∀ x∈evs 2 a.log,x∈evs 2 lg) (hp:∀ s∈pt,s∈a.mods.map (·.name)):Wf ⟨updA a.mods k f,lg,o,lf,pt⟩:=by
 have hm:(updA a.mods k f).map (·.name)=a.mods.map (·.name):=updA_map _ _ _ _ hn;have nm:∀ {i:Nat} {m:GMod},(updA a.mods k f)[i]?=some m->∃ y,a.mods[i]?=some y/\m.name=y.name/\(m.cached=true->y.cached=true):=λ h=>by
  obtain⟨y,h1,h2⟩:=W9 h;rcases h2 with⟨rfl,_⟩ | ⟨_,rfl⟩
  ·
   exact⟨_,h1,rfl,id⟩
  ·
   exact⟨y,h1,hn y,hc y⟩
 refine⟨?_,λ i m hi hdn=>?_,λ i m hi hcf=>?_,λ i j m m' hi hj c1 c2 he=>?_,λ x hx=>?_,λ i m hi hpn=>?_⟩
 ·
  show evs 0 lg=_;rw[h0,h.starts];exact hm.symm
 ·
  obtain⟨y,k1,k2⟩:=W9 hi;rcases k2 with⟨rfl,_⟩ | ⟨rfl,rfl⟩
  ·
   exact h1 _ (h.dones i _ k1 hdn)
  ·
   rw[hn];exact hd y k1 hdn
 ·
  obtain⟨y,k1,k2⟩:=W9 hi;rcases k2 with⟨rfl,_⟩ | ⟨rfl,rfl⟩
  ·
   exact h2 _ (h.fails i _ k1 hcf)
  ·
   rw[hn];exact hf y k1 hcf
 ·
  obtain⟨y,k1,k2,k3⟩:=nm hi;obtain⟨y',j1,j2,j3⟩:=nm hj;exact h.dist i j y y' k1 j1 (k3 c1) (j3 c2) (k2.symm.trans (he.trans j2))
 ·
  show x∈(updA a.mods k f).map (·.name);rw[hm];exact hp x hx
 ·
  obtain⟨y,k1,k2,_⟩:=nm hi;rw[k2] at hpn ⊢;obtain⟨j,m',j1,j2,j3⟩:=h.order i y k1 hpn;obtain⟨m2,j4,j5⟩:=updA_old hn j2;exact⟨j,m2,j1,j4,j5.trans j3⟩
theorem Wf.begin(h:Wf a){s:Str}(sp:Spec)(hg:∀ m∈a.mods,hits s m=false)(hu:zk s=emptyS\/∃ m∈a.mods,hits (zk s) m=true):Wf (a.begin s sp):=by
 have hne:∀ {i:Nat} {m:GMod},a.mods[i]?=some m->m.cached=true->m.name≠s:=λ h1 h2 e=>by
  have:=hg _ (List.mem_of_getElem? h1);unfold hits at this;rw[h2] at this;simp at this;exact this e
 refine⟨?_,λ i m hi hd=>?_,λ i m hi hc=>?_,λ i j m m' hi hj c1 c2 he=>?_,λ x hx=>?_,λ i m hi hpn=>?_⟩
 ·
  show evs 0 (a.log++[⟨0,s⟩])=(a.mods++[_]).map _;rw[wm,JD rfl,h.starts,List.map_append];rfl
 ·
  show m.name∈evs 1 (a.log++[⟨0,s⟩]);rw[wm,jK (by decide),List.append_nil];rcases ZF hi with h1 | ⟨_,h1⟩
  ·
   exact h.dones i m h1 hd
  ·
   rw[h1] at hd;cases hd
 ·
  show m.name∈evs 2 (a.log++[⟨0,s⟩]);rw[wm,jK (by decide),List.append_nil];rcases ZF hi with h1 | ⟨_,h1⟩
  ·
   exact h.fails i m h1 hc
  ·
   rw[h1] at hc;cases hc
 ·
  rcases ZF hi with h1 | ⟨i1,h1⟩ <;> rcases ZF hj with h2 | ⟨j1,h2⟩
  ·
   exact h.dist i j m m' h1 h2 c1 c2 he
  ·
   rw[h2] at he;exact absurd he (hne h1 c1)
  ·
   rw[h1] at he;exact absurd he.symm (hne h2 c2)
  ·
   omega
 ·
  show x∈(a.mods++[_]).map _;rw[List.map_append];exact List.mem_append_left _ (h.part x hx)
 ·
  rcases ZF hi with h1 | ⟨i1,h1⟩
  ·
   obtain⟨j,m',j1,j2,j3⟩:=h.order i m h1 hpn;exact⟨j,m',j1,W8 _ _ _ j2,j3⟩
  ·
   rw[h1] at hpn ⊢;rcases hu with e | ⟨m',k1,k2⟩
   ·
    exact absurd e hpn
   ·
    obtain⟨j,hj⟩:=List.getElem?_of_mem k1;unfold hits at k2;simp only[Bool.and_eq_true,decide_eq_true_eq] at k2;exact⟨j,m',by have:=zA hj;omega,W8 _ _ _ hj,k2.1⟩
theorem Wf.give(h:Wf a)(k:Nat)(s:Str)(v:GVal):Wf (a.give k s v):=
 h.upd (f:=λ m=>{ m with attrs:=qa m.attrs s v }) (λ _=>rfl) (λ _ h=>h) rfl (λ m hm hd=>h.dones k m hm hd) (λ m hm hc=>h.fails k m hm hc) (λ _ h=>h) (λ _ h=>h) h.part
theorem Wf.tell(h:Wf a)(k:Nat)(s:Str):Wf (a.tell k s):=by
 unfold RSt.tell;split
 ·
  exact h.give ..
 ·
  exact h
theorem Wf.done(h:Wf a){k:Nat}{s:Str}(hk:∀ m,a.mods[k]?=some m->m.name=s):Wf (a.done k s):=
 h.upd (f:=λ m=>{ m with done:=true }) (λ _=>rfl) (λ _ h=>h) (by rw[wm,jK (by decide),List.append_nil]) (λ m hm _=>by rw[wm,JD rfl,hk m hm];simp) (λ m hm hc=>by rw[wm,jK (by decide),List.append_nil];exact h.fails k m hm hc)
  (λ x hx=>by rw[wm];exact List.mem_append_left _ hx) (λ x hx=>by rw[wm];exact List.mem_append_left _ hx) h.part
theorem Wf.fail(h:Wf a){k:Nat}{s:Str}(hk:∀ m,a.mods[k]?=some m->m.name=s):Wf (a.fail k s):=
 h.upd (f:=λ m=>{ m with cached:=false }) (λ _=>rfl) (λ _ h=>by cases h) (by rw[wm,jK (by decide),List.append_nil]) (λ m hm hd=>by rw[wm,jK (by decide),List.append_nil];exact h.dones k m hm hd) (λ m hm _=>by rw[wm,JD rfl,hk m hm];simp)
  (λ x hx=>by rw[wm];exact List.mem_append_left _ hx) (λ x hx=>by rw[wm];exact List.mem_append_left _ hx) h.part
theorem Wf.hit(h:Wf a){k:Nat}{s:Str}{m:GMod}(hm:a.mods[k]?=some m)(hs:hits s m=true):Wf (a.hit k s):=by
 have e:∀ k:Int,3≠k->evs k (a.log++[⟨3,s⟩])=evs k a.log:=λ k hk=>by rw[wm,jK hk,List.append_nil]
 refine⟨(e 0 (by decide)).trans h.starts,λ i m hi hd=>?_,λ i m hi hc=>?_,h.dist,λ x hx=>?_,h.order⟩
 ·
  show _∈evs 1 (a.log++[⟨3,s⟩]);rw[e 1 (by decide)];exact h.dones i m hi hd
 ·
  show _∈evs 2 (a.log++[⟨3,s⟩]);rw[e 2 (by decide)];exact h.fails i m hi hc
 ·
  have hx':x∈if a.doneAt k=false/\s ∉ a.part then a.part++[s] else a.part:=hx
  split at hx'
  ·
   rcases List.mem_append.1 hx' with h1 | h1
   ·
    exact h.part x h1
   ·
    simp only[List.mem_singleton] at h1;rw[h1];unfold hits at hs;simp only[Bool.and_eq_true,decide_eq_true_eq] at hs;exact List.mem_map.2 ⟨m,List.mem_of_getElem? hm,hs.1⟩
  ·
   exact h.part x hx'
theorem Tr.own{x:Spec}(h:Tr t path (a.begin s x) b e):∃ m,b.mods[a.mods.length]?=some m/\m.name=s/\m.cached=true:=by
 obtain⟨m,h1,h2⟩:=h.kept _ _ (zdr ..);exact⟨m,h1,h2.name,h2.cached⟩
theorem Tr.wf(h:Tr t path a b e)(w:Wf a):Wf b:=by
 induction h with
 | stop=>exact w
 | seq _ _ h1 h2=>exact h2 (h1 w)
 | tick=>exact⟨w.starts,w.dones,w.fails,w.dist,w.part,w.order⟩
 | out=>exact⟨w.starts,w.dones,w.fails,w.dist,w.part,w.order⟩
 | give=>exact w.give ..
 | hit _ _ _ hm hs=>exact w.hit hm hs
 |
  bad n h he ih=>
  obtain⟨m,h1,h2,_⟩:=h.own;exact(ih (w.begin _ n.gone n.up)).fail λ m' hm'=>by rw[h1] at hm';injection hm' with hm';rw[← hm'];exact h2
 |
  good n h ih=>
  obtain⟨m,h1,h2,_⟩:=h.own;exact((ih (w.begin _ n.gone n.up)).done λ m' hm'=>by rw[h1] at hm';injection hm' with hm';rw[← hm'];exact h2).tell ..
theorem Tr.fresh(h:Tr t path a b e):∀ (i:Nat) (m:GMod),a.mods.length<=i->b.mods[i]?=some m->m.cached=true->m.done=true:=by
 induction h with
 | stop=>intro i m h1 h2;have:=zA h2;omega
 | tick=>intro i m h1 h2;have:=zA h2;simp at this;omega
 | out=>intro i m h1 h2;have:=zA h2;simp at this;omega
 | give=>intro i m h1 h2;have:=zA h2;unfold RSt.give at this;simp only[YT] at this;omega
 | hit=>intro i m h1 h2;have:=zA h2;unfold RSt.hit at this;simp only at this;omega
 |
  seq h k ih1 ih2=>
  rename_i a b c e;intro i m h1 h2 h3;by_cases hb:i<b.mods.length
  ·
   obtain⟨m',k1,k2⟩:=k.kept i _ (List.getElem?_eq_getElem hb);rw[h2] at k1;injection k1 with k1;subst k1;exact k2.done (ih1 i _ h1 (List.getElem?_eq_getElem hb) (k2.cached ▸ h3))
  ·
   exact ih2 i m (by omega) h2 h3
 |
  bad n h he ih=>
  rename_i a b s e;intro i m h1 h2 h3;rw[fail_at] at h2;split at h2
  ·
   cases hb:b.mods[a.mods.length]? with
   | none=>rw[hb] at h2;cases h2
   | some y=>rw[hb] at h2;injection h2 with h2;rw[← h2] at h3;cases h3
  ·
   exact ih i m (by show(a.mods++[_]).length<=i;simp;omega) h2 h3
 |
  good n h ih=>
  rename_i a b s;intro i m h1 h2 h3;have hl:i<(b.done a.mods.length s).mods.length:=by rw[← tell_len _ a.mods.length s];exact zA h2
  obtain⟨m',k1,k2⟩:=QJ _ a.mods.length s (List.getElem?_eq_getElem hl);rw[h2] at k1;injection k1 with k1;subst k1;refine k2.done ?_;have h4:=List.getElem?_eq_getElem hl;have h5:=k2.cached ▸ h3;generalize (b.done a.mods.length s).mods[i]=y at*;rw[done_at] at h4;split at h4
  ·
   cases hb:b.mods[a.mods.length]? with
   | none=>rw[hb] at h4;cases h4
   | some z=>rw[hb] at h4;injection h4 with h4;rw[← h4]
  ·
   exact ih i y (by show(a.mods++[_]).length<=i;simp;omega) h4 h5
def Upw(st:RSt):Prop:=∀ (i:Nat) (m:GMod),st.mods[i]?=some m->m.cached=true->zk m.name≠emptyS->∃ (j:Nat) (m':GMod),st.mods[j]?=some m'/\hits (zk m.name) m'=true
def Told(st:RSt):Prop:=∀ (i:Nat) (m:GMod),st.mods[i]?=some m->m.cached=true->m.done=true->zk m.name≠emptyS->∀ (j:Nat) (p:GMod),st.mods[j]?=some p->hits (zk m.name) p=true->jk m.name∈p.attrs.map (·.name)
theorem ZG{s:Str}{m:GMod}:hits s m=true ↔ m.name=s/\m.cached=true:=by
 unfold hits;simp
def Sm(a b:RSt):Prop:=b.mods.length=a.mods.length/\∀ (i:Nat) (m:GMod),a.mods[i]?=some m->∃ m',b.mods[i]?=some m'/\Kept m m'
theorem Sm.back(h:Sm a b){i:Nat}{m':GMod}(hm:b.mods[i]?=some m'):∃ m,a.mods[i]?=some m/\Kept m m':=by
 have hl:i<a.mods.length:=by rw[← h.1];exact zA hm
 obtain⟨m2,h1,h2⟩:=h.2 i _ (List.getElem?_eq_getElem hl);rw[hm] at h1;injection h1 with h1;subst h1;exact⟨_,List.getElem?_eq_getElem hl,h2⟩
theorem Kept.hits{m m':GMod}(h:Kept m m')(s:Str):hits s m'=hits s m:=by unfold Go.Proofs.YtpmkkijamfgaeaaGreatDoor.hits;rw[h.name,h.cached]
theorem Upw.sm(u:Upw a)(h:Sm a b):Upw b:=λ i m hm hc hp=>by
 obtain⟨y,h1,h2⟩:=h.back hm;rw[h2.name] at hp ⊢;obtain⟨j,m',j1,j2⟩:=u i y h1 (h2.cached ▸ hc) hp;obtain⟨m2,j3,j4⟩:=h.2 j m' j1;exact⟨j,m2,j3,by rw[j4.hits];exact j2⟩
theorem give_sm(a:RSt)(k:Nat)(s:Str)(v:GVal):Sm a (a.give k s v):=⟨YT ..,λ _ _ h=>zb9 _ _ _ _ h⟩
theorem tell_sm(a:RSt)(k:Nat)(s:Str):Sm a (a.tell k s):=⟨tell_len ..,λ _ _ h=>QJ _ _ _ h⟩
theorem done_sm(a:RSt)(k:Nat)(s:Str):Sm a (a.done k s):=⟨YT ..,λ _ _ h=>zca _ _ _ h⟩
theorem Told.give(d:Told a)(k:Nat)(s:Str)(v:GVal):Told (a.give k s v):=λ i m hm hc hd hp j p hj hh=>by
 obtain⟨p0,j1,j2⟩:=(give_sm a k s v).back hj;obtain⟨m0,i1,i2⟩:=(give_sm a k s v).back hm;have i3:m0.done=m.done:=by
  rw[giv_at] at hm;split at hm
  ·
   rename_i e;subst e;rw[i1] at hm;injection hm with hm;rw[← hm]
  ·
   rw[i1] at hm;injection hm with hm;rw[hm]
 rw[i2.name] at hp hh ⊢;exact j2.attrs _ (d i m0 i1 (i2.cached ▸ hc) (i3 ▸ hd) hp j p0 j1 (by rw[← j2.hits];exact hh))
theorem Upw.bgU(u:Upw a)(n:New t path a s)(sp:Spec):Upw (a.begin s sp):=λ i m hm hc hp=>by
 rcases ZF hm with h1 | ⟨_,h1⟩
 ·
  obtain⟨j,m',j1,j2⟩:=u i m h1 hc hp;exact⟨j,m',W8 _ _ _ j1,j2⟩
 ·
  subst h1;rcases n.up with h2 | ⟨m',h2,h3⟩
  ·
   exact absurd h2 hp
  ·
   obtain⟨j,hj⟩:=List.getElem?_of_mem h2;exact⟨j,m',W8 _ _ _ hj,h3⟩
theorem Told.bgT(d:Told a)(u:Upw a)(n:New t path a s)(sp:Spec):Told (a.begin s sp):=λ i m hm hc hd hp j p hj hh=>by
 rcases ZF hm with h1 | ⟨_,h1⟩
 ·
  rcases ZF hj with h2 | ⟨_,h2⟩
  ·
   exact d i m h1 hc hd hp j p h2 hh
  ·
   subst h2;obtain⟨j2,m',k1,k2⟩:=u i m h1 hc hp;have h3:=(ZG.1 hh).1;rw[← h3] at k2;rw[n.gone m' (List.mem_of_getElem? k1)] at k2;cases k2
 ·
  subst h1;cases hd
theorem Tr.told(h:Tr t path a b e):Wf a->Upw a->Told a->Told b/\(e=0->Upw b):=by
 induction h with
 | stop=>exact λ _ u d=>⟨d,λ _=>u⟩
 | seq h k ih1 ih2=>exact λ w u d=>let h1:=ih1 w u d;ih2 (h.wf w) (h1.2 rfl) h1.1
 | tick=>exact λ _ u d=>⟨d,λ _=>u⟩
 | out=>exact λ _ u d=>⟨d,λ _=>u⟩
 | give=>exact λ _ u d=>⟨Told.give d _ _ _,λ _=>u.sm (give_sm ..)⟩
 | hit=>exact λ _ u d=>⟨d,λ _=>u⟩
 |
  bad n h he ih=>
  rename_i a b s e;intro w u d;have hb:=ih (w.begin _ n.gone n.up) (u.bgU n _) (d.bgT u n _)
  ·
   refine⟨λ i m hm hc hd hp j p hj hh=>?_,λ e=>absurd e he⟩;have back:∀ {i:Nat} {m:GMod},(b.fail a.mods.length s).mods[i]?=some m->m.cached=true->b.mods[i]?=some m:=λ h1 h2=>by
    obtain⟨y,k1,k2⟩:=W9 h1;rcases k2 with⟨rfl,_⟩ | ⟨_,rfl⟩
    ·
     exact k1
    ·
     cases h2
   exact hb.1 i m (back hm hc) hc hd hp j p (back hj (ZG.1 hh).2) hh
 |
  good n h ih=>
  rename_i a b s;intro w u d;have w1:=w.begin (qj t path a s) n.gone n.up;have hb:=ih w1 (u.bgU n _) (d.bgT u n _)
  ·
   obtain⟨y,y1,y2,y3⟩:=h.own;have ub:=hb.2 rfl;have sd:=done_sm b a.mods.length s;have st:=tell_sm (b.done a.mods.length s) a.mods.length s;refine⟨λ i m hm hc hd hp j p hj hh=>?_,λ _=>(ub.sm sd).sm st⟩;obtain⟨m1,i1,i2⟩:=st.back hm;obtain⟨p1,j1,j2⟩:=st.back hj;obtain⟨m0,i3,i4⟩:=sd.back i1;obtain⟨p0,j3,j4⟩:=sd.back j1;have nm:=i2.name.trans i4.name;rw[nm] at hp hh ⊢;have hh0:hits (zk m0.name) p0=true:=by rw[← j4.hits,← j2.hits];exact hh
   by_cases hi:i=a.mods.length
   ·
    subst hi;rw[y1] at i3;injection i3 with i3;subst i3;rw[y2] at hp hh hh0 ⊢;have wd:Wf (b.done a.mods.length s):=(h.wf w1).done λ m' hm'=>by rw[y1] at hm';injection hm' with hm';rw[← hm'];exact y2
    have hp1:hits (zk s) p1=true:=by rw[← j2.hits];exact hh
    rcases Zi (b.done a.mods.length s) (zk s) with⟨_,k2⟩ | ⟨k,q,k1,k2,k3,k4⟩
    ·
     rw[k2 p1 (List.mem_of_getElem? j1)] at hp1;cases hp1
    ·
     have hjk:j=k:=wd.dist j k p1 q j1 k2 (ZG.1 hp1).2 k4 ((ZG.1 hp1).1.trans k3.symm);subst hjk;unfold RSt.tell at hj;rw[k1,X0,if_pos rfl,Int.toNat_natCast,giv_at,if_pos rfl,k2] at hj;injection hj with hj;rw[← hj];exact put_has
   ·
    have hm0:m0.done=m.done:=by
     have e1:m1=m0:=by rw[done_at,if_neg hi] at i1;rw[i1] at i3;injection i3
     rw[e1] at i2 i1;unfold RSt.tell at hm;split at hm
     ·
      rw[giv_at] at hm;split at hm
      ·
       rename_i e;rw[← e,i1] at hm;injection hm with hm;rw[← hm]
      ·
       rw[i1] at hm;injection hm with hm;rw[hm]
     ·
      rw[i1] at hm;injection hm with hm;rw[hm]
    exact j2.attrs _ (j4.attrs _ (hb.1 i m0 i3 (i4.cached ▸ i2.cached ▸ hc) (hm0 ▸ hd) hp j p0 j3 hh0))
inductive Bal:List GEvent->Prop
 | nil:Bal []
 | hit (s:Str) {l:List GEvent} (h:Bal l):Bal (⟨3,s⟩::l)
 | run (s:Str) {x y:List GEvent} {k:Int} (hk:k=1\/k=2) (h:Bal x) (r:Bal y):Bal (⟨0,s⟩::(x++⟨k,s⟩::y))
theorem Bal.app{x y:List GEvent}(h:Bal x)(k:Bal y):Bal (x++y):=by
 induction h with
 | nil=>exact k
 | hit s _ ih=>exact .hit s ih
 |
  run s hk h r _ ih=>
  rename_i x z k;have:=Bal.run s hk h ih;simpa using this
theorem tell_log(a:RSt)(k:Nat)(s:Str):(a.tell k s).log=a.log:=by unfold RSt.tell;split <;> rfl
theorem jL(k:Int)(x:GEvent)(l:List GEvent):evs k (x::l)=evs k [x]++evs k l:=wm k [x] l
theorem Bal.sub{l:List GEvent}(h:Bal l):∀ s,s∈evs 1 l\/s∈evs 2 l->s∈evs 0 l:=by
 induction h with
 | nil=>intro s h;rcases h with h | h <;> cases h
 |
  hit s _ ih=>
  intro x h;rw[jL,jK (by decide),List.nil_append] at h ⊢;rw[jL,jK (by decide),List.nil_append] at h;exact ih x h
 |
  run s hk h r ih1 ih2=>
  rename_i x y k;intro z hz;have e0:evs 0 (⟨0,s⟩::(x++⟨k,s⟩::y))=s::(evs 0 x++evs 0 y):=by
   rw[jL,JD rfl,wm,jL 0 ⟨k,s⟩ y,jK (by rcases hk with hk | hk <;> rw[hk] <;> decide)];simp
  have e1:∀ j:Int,j≠0->∀ z∈evs j (⟨0,s⟩::(x++⟨k,s⟩::y)),z=s\/z∈evs j x\/z∈evs j y:=λ j hj z hz=>by
   rw[jL,jK (Ne.symm hj),List.nil_append,wm,jL j ⟨k,s⟩ y] at hz;rcases List.mem_append.1 hz with hz | hz
   ·
    exact .inr (.inl hz)
   ·
    rcases List.mem_append.1 hz with hz | hz
    ·
     by_cases e:k=j
     ·
      rw[JD e] at hz;simp only[List.mem_singleton] at hz;exact .inl hz
     ·
      rw[jK e] at hz;cases hz
    ·
     exact .inr (.inr hz)
  rw[e0];rcases hz with hz | hz
  ·
   rcases e1 1 (by decide) z hz with h | h | h
   ·
    rw[h];simp
   ·
    simp[ih1 z (.inl h)]
   ·
    simp[ih2 z (.inl h)]
  ·
   rcases e1 2 (by decide) z hz with h | h | h
   ·
    rw[h];simp
   ·
    simp[ih1 z (.inr h)]
   ·
    simp[ih2 z (.inr h)]
theorem Bal.count{l:List GEvent}(h:Bal l):(evs 0 l).length=(evs 1 l).length+(evs 2 l).length:=by
 induction h with
 | nil=>rfl
 |
  hit s _ ih=>
  rw[jL 0,jL 1,jL 2,jK (by decide),jK (by decide),jK (by decide)];simpa using ih
 |
  run s hk h r ih1 ih2=>
  rename_i x y k;rw[jL 0,jL 1,jL 2,JD rfl,jK (by decide),jK (by decide),wm,wm,wm,jL 0 ⟨k,s⟩ y,jL 1 ⟨k,s⟩ y,jL 2 ⟨k,s⟩ y];rcases hk with rfl | rfl
  ·
   rw[jK (k:=0) (by decide),JD (k:=1) rfl,jK (k:=2) (by decide)];simp only[List.length_append,List.length_cons,List.length_nil];omega
  ·
   rw[jK (k:=0) (by decide),jK (k:=1) (by decide),JD (k:=2) rfl];simp only[List.length_append,List.length_cons,List.length_nil];omega
def Fnd(t:Tree)(path:List Int)(st:RSt):Prop:=∀ (i:Nat) (m:GMod),st.mods[i]?=some m->zd m.name=true/\m.kind=(find t.files path m.name).kind/\m.roots=(find t.files path m.name).roots/\m.kind≠0
open Go.RowKit
variable{t:Tree}{path:List Int}{a b st:RSt}{e:Int}{s:Str}
def upStep(tf:List File)(o:Spec)(p s:Str):Spec:=if(cmpI .neq o.kind 2&&cmpI .neq o.kind 3)=true then Yd else wQ tf o.roots p s
theorem zab{tf:List File}{list:List Str}:∀ (xs:List Str) (k:Nat) (out:Spec) (x:Str),xF tf list k out (xs++[x])=upStep tf (xF tf list k out xs) (join (list.take (k+xs.length))) x
 | [],_,_,_=>rfl
 |
  y::xs,k,out,x=>by
  show(if(cmpI .neq out.kind 2&&cmpI .neq out.kind 3)=true then Yd else xF tf list (k+1) (wQ tf out.roots (join (list.take k)) y) (xs++[x]))=upStep tf (if(cmpI .neq out.kind 2&&cmpI .neq out.kind 3)=true then Yd else xF tf list (k+1) (wQ tf out.roots (join (list.take k)) y) xs) _ x;by_cases h:(cmpI .neq out.kind 2&&cmpI .neq out.kind 3)=true
  ·
   rw[if_pos h,if_pos h];rfl
  ·
   rw[if_neg h,if_neg h,zab xs (k+1) _ x,show k+1+xs.length=k+(y::xs).length by simp;omega]
theorem zac{tf:List File}{l1 l2:List Str}:∀ (xs:List Str) (k:Nat) (out:Spec),(∀ j,j<k+xs.length->l1.take j=l2.take j)->xF tf l1 k out xs=xF tf l2 k out xs
 | [],_,_,_=>rfl
 |
  y::xs,k,out,h=>by
  simp only[xF];rw[h k (by simp),zac xs (k+1) _ λ j hj=>h j (by simp;omega)]
theorem Ww(hs:zd s=true)(h:zk s=emptyS):zj s dot=[s]:=by
 obtain⟨h1,h2⟩:=yk hs;have h0:=qN s;have hj:=qT s;by_cases e:(zj s dot).length=1
 ·
  cases hl:zj s dot with
  | nil=>rw[hl] at e;cases e
  |
   cons x l=>
   rw[hl] at e hj;have:l=[]:=List.eq_nil_of_length_eq_zero (by simpa using e);subst this;rw[← hj];cases x;rfl
 ·
  exfalso
  have hv:=Ju (l:=(zj s dot).take ((zj s dot).length - 1)) (λ e1=>by
   have:=congrArg List.length e1;rw[List.length_take,List.length_nil] at this;omega) (by rw[List.length_take];omega) λ x hx=>h1 x (List.mem_of_mem_take hx)
  have h':join ((zj s dot).take ((zj s dot).length - 1))=emptyS:=h;rw[h'] at hv;cases hv
theorem find_one(hs:zd s=true)(h:zk s=emptyS):find t.files path s=wQ t.files path emptyS s:=by
 unfold find;rw[Ww hs h];rfl
theorem zbB(hs:zd s=true)(h:zk s≠emptyS):zj s dot=zj (zk s) dot++[jk s]:=by
 obtain⟨h1,_⟩:=yk hs;obtain⟨h2,_⟩:=wP hs h;have h0:=qN (zk s);have e:zj (zk s) dot=(zj s dot).take ((zj s dot).length - 1):=by
  unfold zk;exact Xe (λ e1=>by
   have:=congrArg List.length e1;rw[List.length_take,List.length_nil] at this;omega) λ x hx=>h1 x (List.mem_of_mem_take hx)
 rw[e];have hg:=last_get s;have:=List.take_append_getElem (l:=zj s dot) (i:=(zj s dot).length - 1) (by omega);rw[show(zj s dot).length - 1+1=(zj s dot).length by omega,List.take_length] at this;rw[List.getElem?_eq_getElem (by omega)] at hg;injection hg with hg;rw[hg] at this;exact this.symm
theorem find_up(hs:zd s=true)(h:zk s≠emptyS):find t.files path s=upStep t.files (find t.files path (zk s)) (zk s) (jk s):=by
 have hsp:=zbB hs h;have e:xF t.files (zj s dot) 0 ⟨3,-1,path⟩ (zj (zk s) dot)=find t.files path (zk s):=by
  unfold find;refine zac _ _ _ λ j hj=>?_
  rw[hsp,List.take_append_of_le_length (by omega)]
 have h1:=zab (tf:=t.files) (list:=zj s dot) (zj (zk s) dot) 0 ⟨3,-1,path⟩ (jk s);rw[e,← hsp,Nat.zero_add] at h1;have h2:join ((zj s dot).take (zj (zk s) dot).length)=zk s:=by
  rw[hsp,List.take_append_of_le_length (Nat.le_refl _),List.take_length,qT]
 rw[h2] at h1;exact h1
theorem find_kind(hs:zd s=true):okKind (find t.files path s):=by
 rcases find_last (t:=t.files) (path:=path) hs with h | ⟨r,p,x,h,_⟩
 ·
  rw[h];exact .inl rfl
 ·
  rw[h];exact Jv ..
theorem zaM(f:Fnd t path a)(hs:zd s=true)(hup:zk s=emptyS\/∃ m∈a.mods,hits (zk s) m=true):qj t path a s=find t.files path s:=by
 by_cases hp:zk s=emptyS
 ·
  rw[find_one hs hp];unfold qj;rw[if_pos hp]
 ·
  rcases hup with h | ⟨m,h1,h2⟩
  ·
   exact absurd h hp
  ·
   rcases Zi a (zk s) with⟨_,k2⟩ | ⟨k,m',k1,k2,k3,_⟩
   ·
    rw[k2 m h1] at h2;cases h2
   ·
    unfold qj;rw[if_neg hp,k1,lss_nat0,if_neg (by decide),Int.toNat_natCast];obtain⟨f0,f1,f2,f3⟩:=f k m' k2;rw[k3] at f0 f1 f2;rw[show a.kindAt k=m'.kind by unfold RSt.kindAt;rw[k2];rfl,show a.rootsAt k=m'.roots by unfold RSt.rootsAt;rw[k2];rfl,find_up hs hp];unfold upStep;rw[← f1,← f2];have:=find_kind (t:=t) (path:=path) f0;unfold okKind at this;rw[← f1] at this;rcases this with e | e | e | e
    ·
     exact absurd e f3
    ·
     rw[if_pos e,if_pos (by rw[e];decide)]
    ·
     rw[if_neg (by omega),if_neg (by rw[e];decide)]
    ·
     rw[if_neg (by omega),if_neg (by rw[e];decide)]
theorem zcb(f:Fnd t path a)(n:New t path a s):qj t path a s=find t.files path s:=zaM f n.name n.up
theorem Fnd.bgF(f:Fnd t path a)(n:New t path a s):Fnd t path (a.begin s (qj t path a s)):=λ i m hm=>by
 rcases ZF hm with h1 | ⟨_,h1⟩
 ·
  exact f i m h1
 ·
  subst h1;have:=zcb f n;exact⟨n.name,by rw[this],by rw[this],n.kind⟩
theorem Tr.fnd(h:Tr t path a b e):Fnd t path a->Fnd t path b:=by
 have keep:∀ {a b:RSt},(∀ (i:Nat) (m:GMod),b.mods[i]?=some m->∃ y,a.mods[i]?=some y/\m.name=y.name/\m.kind=y.kind/\m.roots=y.roots)->Fnd t path a->Fnd t path b:=λ k f i m hm=>by
  obtain⟨y,h1,h2,h3,h4⟩:=k i m hm;have:=f i y h1;rw[h2,h3,h4];exact this
 have upd:∀ {a:RSt} {k:Nat} {f:GMod->GMod},(∀ m,(f m).name=m.name/\(f m).kind=m.kind/\(f m).roots=m.roots)->∀ (i:Nat) (m:GMod),(updA a.mods k f)[i]?=some m->∃ y,a.mods[i]?=some y/\m.name=y.name/\m.kind=y.kind/\m.roots=y.roots:=λ hf i m hm=>by
  obtain⟨y,h1,h2⟩:=W9 hm;rcases h2 with⟨rfl,_⟩ | ⟨_,rfl⟩
  ·
   exact⟨_,h1,rfl,rfl,rfl⟩
  ·
   exact⟨y,h1,(hf y).1,(hf y).2.1,(hf y).2.2⟩
 induction h with
 | stop=>exact id
 | seq _ _ h1 h2=>exact λ f=>h2 (h1 f)
 | tick=>exact id
 | out=>exact id
 | give=>exact keep (upd λ _=>⟨rfl,rfl,rfl⟩)
 | hit=>exact id
 | bad n h he ih=>exact λ f=>keep (upd (f:=λ m=>{ m with cached:=false }) λ _=>⟨rfl,rfl,rfl⟩) (ih (f.bgF n))
 |
  good n h ih=>
  rename_i a b s;refine λ f=>keep (λ i m hm=>?_) (keep (b:=b.done a.mods.length s) (upd (f:=λ m=>{ m with done:=true }) λ _=>⟨rfl,rfl,rfl⟩) (ih (f.bgF n)))
  obtain⟨y,h1,h2⟩:=(tell_sm (b.done a.mods.length s) a.mods.length s).back hm;exact⟨y,h1,h2.name,h2.kind,h2.roots⟩
theorem up_above{st:RSt}(u:Upw st):∀ (k:Nat) {n:Str},(zj n dot).length=k->zd n=true->(∃ (i:Nat) (m:GMod),st.mods[i]?=some m/\hits n m=true)->∀ x∈yJ n,∃ (i:Nat) (m:GMod),st.mods[i]?=some m/\hits x m=true:=by
 intro k
 induction k with
 | zero=>intro n hk;have:=qN n;omega
 |
  succ k ih=>
  intro n hk hn ⟨i,m,h1,h2⟩ x hx;by_cases hpn:zk n=emptyS
  ·
   unfold yJ at hx;rw[Ww hn hpn] at hx;have:x=n:=by
    have hx:x∈[join [n]]:=hx;simp only[List.mem_singleton] at hx;rw[hx];have:=qT n;rw[Ww hn hpn] at this;exact this
   rw[this];exact⟨i,m,h1,h2⟩
  ·
   obtain⟨e1,e2⟩:=wP hn hpn;have hab:yJ n=yJ (zk n)++[n]:=by
    unfold yJ;have hsp:=zbB hn hpn;rw[show(zj n dot).length=(zj (zk n) dot).length+1 by omega,Xk]
    congr 1
    ·
     unfold qt;refine List.map_congr_left λ j hj=>?_
     have:=List.mem_range.1 hj;rw[hsp,List.take_append_of_le_length (by omega)]
    ·
     rw[show(zj (zk n) dot).length+1=(zj n dot).length by omega,List.take_length,qT]
   rw[hab] at hx;rcases List.mem_append.1 hx with hx | hx
   ·
    have hh:=ZG.1 h2;obtain⟨j,m',j1,j2⟩:=u i m h1 hh.2 (by rw[hh.1];exact hpn);rw[hh.1] at j2;exact ih (by omega) e2 ⟨j,m',j1,j2⟩ x hx
   ·
    simp only[List.mem_singleton] at hx;rw[hx];exact⟨i,m,h1,h2⟩
theorem wf0:Wf st0:=⟨rfl,(λ _ _ h=>by cases h),(λ _ _ h=>by cases h),(λ _ _ _ _ h=>by cases h),(λ _ h=>by cases h),(λ _ _ h=>by cases h)⟩
theorem up0:Upw st0:=λ _ _ h=>by cases h
theorem told0:Told st0:=λ _ _ h=>by cases h
theorem fnd0:Fnd t path st0:=λ _ _ h=>by cases h
section
variable(hv:zw t=true)(hp:path.length<=1048576)(hs:zd s=true)
include hv hp hs
end
open Go.RowKit
variable{t:Tree}{path:List Int}{s:Str}
def zad(l:List GMod):List Str:=(l.filter (·.cached)).map (·.name)
theorem cach_fold:∀ (l:List GMod) (out:List Str),l.foldl (λ o m=>if m.cached=true then o++[m.name] else o) out=out++zad l
 | [],out=>by simp[zad]
 |
  m::l,out=>by
  rw[List.foldl_cons,cach_fold l];unfold zad;cases h:m.cached with
  | true=>rw[if_pos rfl,List.filter_cons_of_pos (by simpa using h)];simp
  | false=>rw[if_neg (by decide),List.filter_cons_of_neg (by simp[h])]
theorem cach_loop{step:List Str×Int->Option ((List Str×Int)⊕List Str)}(l:List GMod)(hl:l.length<=1048576)
  (h:∀ i out m,l[i]?=some m->i<l.length->out.length<=1048576->step (out,(i:Int))=some (.inl (if m.cached=true then out++[m.name] else out,((i+1:Nat):Int))))
  (hend:∀ out,step (out,(l.length:Int))=some (.inr out)):zK step (([]:List Str),(0:Int))=some (zad l):=by
 have key:=Qz (step:=step) l (λ(o:List Str) i=>(o,(i:Int))) (λ o m=>if m.cached=true then o++[m.name] else o) (λ o=>o) (λ i o=>o.length<=i)
  (λ i o m he hi ho=>⟨h i o m he hi (by omega),by
   split
   ·
    rw[List.length_append];show o.length+1<=_;omega
   ·
    omega⟩) (λ o _=>hend o) (s0:=[]) (Nat.zero_le _) (by omega)
 rw[cach_fold,List.nil_append] at key;exact key
def endV(t:Tree)(path:List Int)(s:Str):Int:=if okG t path s=true then(ranR t path s).2.2 else -1
def cachV(t:Tree)(path:List Int)(s:Str):List Str:=if okG t path s=true then zad (ranR t path s).1.mods else[]
theorem mods_len(hv:zw t=true)(hp:path.length<=1048576)(hs:zd s=true):(ranR t path s).1.mods.length<=12012:=by
 have:=(ran_ok hv hp hs).2.2;unfold RSt.size at this;omega
theorem ImportOne_eq(ht:xg t)(hp:path.length<=1048576)(hn:sho s):qB (scc YW) t path s=some (endV t path s,cachV t path s):=by
 unfold qB;rw[Wv ht hp hn,obS];unfold endV cachV;cases h:okG t path s with
 | false=>rfl
 |
  true=>
  obtain⟨hv,_,hs⟩:=xI h;have hml:=mods_len hv hp hs;have hl:zK (λ s13=>wu (scc YW) (mach t path (ranR t path s).1) s13) (([]:List Str),(0:Int))=some (zad (ranR t path s).1.mods):=by
   refine cach_loop (ranR t path s).1.mods (by omega) (λ i out x hx hi ho=>?_) (λ out=>?_)
   ·
    unfold wu;simp only;rw[show(mach t path (ranR t path s).1).modules=bxs (ranR t path s).1.mods from rfl,show((bxs (ranR t path s).1.mods).length:Int)=((ranR t path s).1.mods.length:Int) by unfold bxs;rw[List.length_map],zE,if_pos (decide_eq_true hi),zQ,qh hx,obS,zS (by omega)];cases hk:x.cached with
    | true=>rw[if_pos rfl,yH (by show(out.length+1)*16<=_;omega) (by show out.length+1<=_;omega)];rfl
    | false=>rfl
   ·
    unfold wu;simp only;rw[show(mach t path (ranR t path s).1).modules=bxs (ranR t path s).1.mods from rfl,show((bxs (ranR t path s).1.mods).length:Int)=((ranR t path s).1.mods.length:Int) by unfold bxs;rw[List.length_map],zE,if_neg (by simp)]
  rw[if_pos rfl,if_pos rfl];simp only;rw[if_pos (show(some (mach t path (ranR t path s).1)).isSome=true from rfl),obS,hl];rfl
open Go.RowKit
variable{t:Tree}{path:List Int}{s:Str}
theorem above_one(hs:zd s=true)(h:zk s=emptyS):yJ s=[s]:=by
 unfold yJ;have hj:=qT s;rw[Ww hs h] at hj ⊢;show[join [s]]=[s];rw[hj]
theorem above_up(hs:zd s=true)(h:zk s≠emptyS):yJ s=yJ (zk s)++[s]:=by
 obtain⟨e1,_⟩:=wP hs h;unfold yJ;have hsp:=zbB hs h;rw[show(zj s dot).length=(zj (zk s) dot).length+1 by omega,Xk]
 congr 1
 ·
  unfold qt;refine List.map_congr_left λ j hj=>?_
  have:=List.mem_range.1 hj;rw[hsp,List.take_append_of_le_length (by omega)]
 ·
  rw[show(zj (zk s) dot).length+1=(zj s dot).length by omega,List.take_length,qT]
section
variable(hv:zw t=true)(hp:path.length<=1048576)(hs:zd s=true)
include hv hp hs
end
open Go.RowKit
variable{t:Tree}{path:List Int}{s:Str}
theorem law_of_draw{c:List UInt8}{D:Option (Tree×List Int×Str)}{F:Tree×List Int×Str->Option Bool}(hD:∃ t path s,D=some (t,path,s)/\smT 11 5 t/\path.length<=3/\s.l.length<=64)(h:∀ t path s,xg t->path.length<=3->sho s->F (t,path,s)=some true):(if cmpI .gtr (c.length:Int) 1048576=true then some true else D.bind F)=some true:=by
 cases cmpI .gtr (c.length:Int) 1048576 with
 | true=>rw[if_pos rfl]
 |
  false=>
  obtain⟨t,path,s,e1,h1,h2,h3⟩:=hD;rw[if_neg (by decide),e1,obS];exact h t path s h1.sm h2 (by unfold sho;omega)
theorem same_texts{l:List Str}(h:l.length<=1048576):xx l l=some true:=by rw[equalTexts_eq (by omega)];simp
theorem evV_ok(h:okG t path s=true)(k:Int):evV k t path s=evs k (logV t path s):=by unfold evV;rw[if_pos h]
theorem cachV_ok(h:okG t path s=true):cachV t path s=zad (ranR t path s).1.mods:=by unfold cachV;rw[if_pos h]
theorem endV_ok(h:okG t path s=true):endV t path s=(ranR t path s).2.2:=by unfold endV;rw[if_pos h]
end Go.Proofs.YtpmkkijamfgaeaaGreatDoor
