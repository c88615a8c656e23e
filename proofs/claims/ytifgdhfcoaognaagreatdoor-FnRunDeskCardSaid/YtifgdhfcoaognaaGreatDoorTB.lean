import Derived.Test.YtifgdhfcoaognaaGreatDoorTA
import Derived.ChangeKeysEq
import Derived.Laws.StructEq
import Derived.Sort.OwnSorted
import Derived.Lib.OwnBridge
import Derived.ProofKit
import Derived.Deep.Slices
namespace Go.Proofs.YtifgdhfcoaognaaGreatDoor
open Go.RowKit
variable{W:(Nat->Option Nat)->List (Nat×Nat×Dt)}{a a0:Act}{K K':Act->World->Prop}{listed:Array Bool}{ops:Array Oper}{A:Array Operand}{ts:Array TypeId}{ys:Array Value}{op:BinOp}{b want:Bool}{c:Code}{R x:Dt}{E K0 L L' L1 L2:Env}{Q Q' Q2:Exit->Act->World->Prop}{F:Frm}{m r:Int}{S:List (List (Nat×Option Nat))}{Gs:List (Nat->Prop)}{xs:List (Nat×Dt)}{qp:List (Nat×Nat)}{O O2:List (Nat×Nat×Dt)}{C:List (Nat×Option Nat)}{D rs xr:List Dt}{fs:List Field}{ks qs vs:List Nat}{l1 l2 rest:List Oper}{l:List Str}{c0 c1 c2 c3 c4 c5 c6 c7 zs:List Value}{N bytes d i j k off s sb u:Nat}{q0:Nat->Option Nat}{G G' M M' M0 M1 M2 p:Nat->Prop}{o o2 os:Oper}{h q vo y:Operand}{g g':Option Nat}{P:Program}{e t t' ty:TypeId}{v v1 v2:Value}{w w' w0 w1:World}
section
variable{α β σ:Type}
def atI(xs:List α)(i:Int):Option α:=if 0<=i then xs[i.toNat]? else none
def i64(n:Int):Option Int:=if -9223372036854775808<=n/\n<=9223372036854775807 then some n else none
def catO(m n:Str):Option Str:=if m.l.length+n.l.length<=9223372036854775807 then some ⟨m.l++n.l⟩ else none
def cutLHO(s:Str)(lo hi:Int):Option Str:=if 0<=lo/\lo<=hi/\hi<=s.l.length then some ⟨(s.l.take hi.toNat).drop lo.toNat⟩ else none
def za0(s:Str)(lo:Int):Option Str:=if 0<=lo/\lo<=s.l.length then some ⟨s.l.drop lo.toNat⟩ else none
def JI(s:Str)(hi:Int):Option Str:=if 0<=hi/\hi<=s.l.length then some ⟨s.l.take hi.toNat⟩ else none
def sliLHO(xs:List α)(lo hi:Int):Option (List α):=if 0<=lo/\lo<=hi/\hi<=xs.length then some ((xs.take hi.toNat).drop lo.toNat) else none
def sliLO(xs:List α)(lo:Int):Option (List α):=if 0<=lo/\lo<=xs.length then some (xs.drop lo.toNat) else none
def JJ(xs:List α)(hi:Int):Option (List α):=if 0<=hi/\hi<=xs.length then some (xs.take hi.toNat) else none
def gO[Inhabited α](g:Bool)(e:Option α):Option α:=if g=true then e else some default
def appO(b:Nat)(xs ys:List α):Option (List α):=if(xs.length+ys.length)*b<=140737488355328/\xs.length+ys.length<=9223372036854775807 then some (xs++ys) else none
def setO(xs:List α)(i:Int)(y:α):Option (List α):=if 0<=i/\i.toNat<xs.length then some (xs.set i.toNat y) else none
def makeO(size bytes:Nat)(n:Int)(z:α):Option (List α):=if 0<=n/\n.toNat*size<=16777216/\bytes*n.toNat<=281474976710656/\n<=9223372036854775807 then some (List.replicate n.toNat z) else none
def qb(step:σ->Option (σ⊕β)):Nat->σ->Option β
 | 0,_=>none
 |n+1,s=>match step s with
  | none=>none
  | some (.inl s')=>qb step n s'
  | some (.inr b)=>some b
@[irreducible] def zP (step:σ->Option (σ⊕β)) (s:σ):Option β:=qb step 1152921504606846976 s
theorem iterM_ex(step:σ->Option (σ⊕β))(mu:σ->Nat)(Inv:σ->Prop)(Q:β->Prop)
  (h:∀ s,Inv s->(∃ s',step s=some (.inl s')/\Inv s'/\mu s'<mu s)\/∃ b,step s=some (.inr b)/\Q b):∀ (n:Nat) (s:σ),Inv s->mu s<n->∃ b,qb step n s=some b/\Q b:=by
 intro n
 induction n with
 | zero=>intro s _ hm;omega
 |succ n ih=>
  intro s hs hm;rcases h s hs with⟨s',h1,h2,h3⟩ | ⟨b,h1,h2⟩
  ·obtain⟨b,hb,hq⟩:=ih s' h2 (by omega);exact⟨b,by simp only[qb,h1];exact hb,hq⟩
  ·exact⟨b,by simp only[qb,h1],h2⟩
theorem loopM_ex{step:σ->Option (σ⊕β)}(mu:σ->Nat)(Inv:σ->Prop)(Q:β->Prop)
  (h:∀ s,Inv s->(∃ s',step s=some (.inl s')/\Inv s'/\mu s'<mu s)\/∃ b,step s=some (.inr b)/\Q b) {s:σ} (hs:Inv s) (hm:mu s<1152921504606846976):∃ b,zP step s=some b/\Q b:=by
 unfold zP;exact iterM_ex step mu Inv Q h _ s hs hm
theorem bs{o:Option α}{f:α->Option β}{r:β}(h:o.bind f=some r):∃ x,o=some x/\f x=some r:=by
 cases o with
 | none=>cases h
 | some x=>exact⟨x,Z,h⟩
theorem Kg{α β γ:Type}{o:Option α}{f:α->Option β}{g:α->β->Option γ}{r:γ}(h:(o.bind λ x=>(f x).bind (g x))=some r):∃ x,o=some x/\∃ y,f x=some y/\g x y=some r:=by
 obtain⟨x,h1,h⟩:=bs h
 obtain⟨y,h2,h⟩:=bs h
 exact⟨x,h1,y,h2,h⟩
theorem gh[Inhabited α]{g:Bool}{e:Option α}{x:α}(hg:g=true)(h:gO g e=some x):e=some x:=by rw[gO,Ke hg] at h;exact h
theorem yS{xs:List α}{i:Int}{x:α}(h:atI xs i=some x):i=(i.toNat:Int)/\xs[i.toNat]?=some x:=by
 unfold atI at h;split at h
 ·exact⟨by omega,h⟩
 ·cases h
theorem i64_get(h:i64 m=some r):m=r/\-9223372036854775808<=m/\m<=9223372036854775807:=by
 unfold i64 at h;split at h
 ·rename_i hc;exact⟨by injection h,hc⟩
 ·cases h
end
section
variable{look:Nat->Option Dt}{α:Type}[Rep α]
theorem xAr{x:Operand}{n:Int}(ho:o.op=.binOp op t x y t')(hx:OpdR M look x (dt m))(hy:OpdR M look y (dt n))(hm:i64 (arI op m n)=some r)(hop:op=.add\/op=.sub\/op=.mul:=by decide):OpRel P M look o (dt r):=by
 obtain⟨rfl,h⟩:=i64_get hm;exact wN ho (hop:=hop) hx hy h
theorem xCat{x:Operand}{m n r:Str}(ho:o.op=.binOp .add t x y t')(hx:OpdR M look x (dt m))(hy:OpdR M look y (dt n))(hm:catO m n=some r):OpRel P M look o (dt r):=by
 unfold catO at hm;split at hm
 ·rename_i h;injection hm with hm;subst hm;exact zbo ho hx hy (by unfold maxLen;omega)
 ·cases hm
theorem xIdx{s i:Operand}{xs:List α}{x:α}(ho:o.op=.indexAddr t s i)(hs:OpdR M look s (dt xs))(hi:OpdR M look i (dt m))(hm:atI xs m=some x)(ht':slB P t (Rep.size α)=true:=by kernel_rfl):OpRel P M look o (dptr x):=
 yJ ho (ht':=ht') hs hi (yS hm).1 (yS hm).2
theorem xByte{s i:Operand}{x:Str}{b:UInt8}(ho:o.op=.index t s i)(hs:OpdR M look s (dt x))(hi:OpdR M look i (dt m))(hm:atI x.l m=some b)(ht:Wm P t=true:=by kernel_rfl):OpRel P M look o (dt b):=by
 obtain⟨h1,h2⟩:=yS hm;rw[h1] at hi;exact op_byte ho (ht:=ht) hs hi h2
theorem xCutLH{s l:Operand}{x r:Str}{i j:Int}(ho:o.op=.slice t s (some l) (some h) none)(hs:OpdR M look s (dt x))(hl:OpdR M look l (dt i))(hh:OpdR M look h (dt j))(hm:cutLHO x i j=some r)(ht:Wm P t=true:=by kernel_rfl):OpRel P M look o (dt r):=by
 unfold cutLHO at hm;split at hm
 ·rename_i h;injection hm with hm;subst hm;exact op_cutLH ho ht hs hl hh h.1 h.2.1 h.2.2
 ·cases hm
theorem xCutL{s l:Operand}{x r:Str}{i:Int}(ho:o.op=.slice t s (some l) none none)(hs:OpdR M look s (dt x))(hl:OpdR M look l (dt i))(hm:za0 x i=some r)(ht:Wm P t=true:=by kernel_rfl):OpRel P M look o (dt r):=by
 unfold za0 at hm;split at hm
 ·rename_i h;injection hm with hm;subst hm;exact op_cutL ho ht hs hl h.1 h.2
 ·cases hm
theorem xCutH{s:Operand}{x r:Str}{j:Int}(ho:o.op=.slice t s none (some h) none)(hs:OpdR M look s (dt x))(hh:OpdR M look h (dt j))(hm:JI x j=some r)(ht:Wm P t=true:=by kernel_rfl):OpRel P M look o (dt r):=by
 unfold JI at hm;split at hm
 ·rename_i h;injection hm with hm;subst hm;exact op_cutH ho ht hs hh h.1 h.2
 ·cases hm
theorem xSliLH{s l:Operand}{x r:List α}{i j:Int}(ho:o.op=.slice t s (some l) (some h) none)(hs:OpdR M look s (dt x))(hl:OpdR M look l (dt i))(hh:OpdR M look h (dt j))(hm:sliLHO x i j=some r)(ht:slB P t (Rep.size α)=true:=by kernel_rfl):OpRel P M look o (dt r):=by
 unfold sliLHO at hm;split at hm
 ·rename_i h;injection hm with hm;subst hm;exact op_sliceLHe ho ht hs hl hh (by omega) (by omega) (by omega) (by omega)
 ·cases hm
theorem xSliL{s l:Operand}{x r:List α}{i:Int}(ho:o.op=.slice t s (some l) none none)(hs:OpdR M look s (dt x))(hl:OpdR M look l (dt i))(hm:sliLO x i=some r)(ht:slB P t (Rep.size α)=true:=by kernel_rfl):OpRel P M look o (dt r):=by
 unfold sliLO at hm;split at hm
 ·rename_i h;injection hm with hm;subst hm;exact op_sliceLe ho ht hs hl (by omega) (by omega)
 ·cases hm
theorem za1{s:Operand}{x r:List α}{j:Int}(ho:o.op=.slice t s none (some h) none)(hs:OpdR M look s (dt x))(hh:OpdR M look h (dt j))(hm:JJ x j=some r)(ht:slB P t (Rep.size α)=true:=by kernel_rfl):OpRel P M look o (dt r):=by
 unfold JJ at hm;split at hm
 ·rename_i h;injection hm with hm;subst hm;exact WJ ho (ht':=ht) hs hh (by omega) (by omega)
 ·cases hm
theorem xIdxT{s i:Operand}{xs:List α}{x:α}(ho:o.op=.indexAddr t s i)(ht':slB P t (Rep.size α)=true)(hs:OpdR M look s (dtip g e xs))(hi:OpdR M look i (dt m))(hm:atI xs m=some x):OpRel P M look o (dbox g (m.toNat*Rep.size α) x):=
 zbV ho ht' hs hi (yS hm).1 (yS hm).2
end
section
def opH(o:Oper)(N:Nat):Option Nat:=match o.guard with
 |none=>match o.dst with
  | some d=>if d<N then some d else none
  | none=>none
 | some _=>none
theorem ya(h:opH o N=some d):o.guard=none/\o.dst=some d/\d<N:=by
 unfold opH at h;split at h
 ·rename_i hg;split at h
  ·rename_i e he;split at h
   ·injection h with h;subst h;exact⟨hg,he,by assumption⟩
   ·cases h
  ·cases h
 ·cases h
def opG(o:Oper)(N:Nat)(ops:Array Oper):Option (Nat×Nat×Nat×Bool):=match o.guard with
 | none=>none
 |some (j,want)=>match o.dst,(ops[j]?).bind (·.dst) with
  | some d,some e=>if d<N/\e<N then some (d,e,j,want) else none
  | _,_=>none
theorem yz{e:Nat}(h:opG o N ops=some (d,e,j,want)):o.guard=some (j,want)/\o.dst=some d/\(ops[j]?).bind (·.dst)=some e/\d<N/\e<N:=by
 unfold opG at h;split at h
 ·cases h
 ·rename_i j' want' hg;split at h
  ·rename_i d' e' h1 h2;split at h
   ·rename_i hlt;injection h with h;injection h with a1 h;injection h with a2 h;injection h with a3 a4;subst a1 a2 a3 a4;exact⟨hg,h1,h2,hlt⟩
   ·cases h
  ·cases h
theorem sc(hh:opH o N=some d)(h:OpRel P M (λ s=>L.lookup s) o x)(hr:Seg P M ops N ((d,x)::L) rest L'):Seg P M ops N L (o::rest) L':=
 .cons (ya hh).2.1 (ya hh).2.2 (.plain (ya hh).1 h) hr
theorem sg{e:Nat}(hh:opG o N ops=some (d,e,j,want))(hb:L.lookup e=some (dt b))(h:(b == want)=true->OpRel P M (λ s=>L.lookup s) o x)(hr:Seg P M ops N ((d,Dt.grd (b == want) x)::L) rest L'):Seg P M ops N L (o::rest) L':=
 .cons (yz hh).2.1 (yz hh).2.2.2.1 (.guarded (yz hh).1 (yz hh).2.2.1 (yz hh).2.2.2.2 hb zC h) hr
theorem sgg{e:Nat}{c:Bool}(hh:opG o N ops=some (d,e,j,want))(hb:L.lookup e=some (Dt.grd c (dt b)))(h:(c&&(b == want))=true->OpRel P M (λ s=>L.lookup s) o x)(hr:Seg P M ops N ((d,Dt.grd (c&&(b == want)) x)::L) rest L'):Seg P M ops N L (o::rest) L':=
 .cons (yz hh).2.1 (yz hh).2.2.2.1 (.guarded2 (yz hh).1 (yz hh).2.2.1 (yz hh).2.2.2.2 hb zC h) hr
section
theorem rc(hh:opH o N=some d)(hx:D[i]?=some x)(h:OpRel P M (jG (S.getD i []) L D) o x)(hr:RegR P M ops N S L D (i+1) rest xs):RegR P M ops N S L D i (o::rest) ((d,x)::xs):=
 .cons (ya hh).2.1 (ya hh).2.2 hx (.plain (ya hh).1 h) hr
theorem rg{e:Nat}(hh:opG o N ops=some (d,e,j,want))(hb:jG (S.getD i []) L D e=some (dt b))(hx:D[i]?=some (Dt.grd (b == want) x))(h:(b == want)=true->OpRel P M (jG (S.getD i []) L D) o x)(hr:RegR P M ops N S L D (i+1) rest xs):RegR P M ops N S L D i (o::rest) ((d,Dt.grd (b == want) x)::xs):=
 .cons (yz hh).2.1 (yz hh).2.2.2.1 hx (.guarded (yz hh).1 (yz hh).2.2.1 (yz hh).2.2.2.2 hb zC h) hr
end
def selP:List Nat->Env->Option Env
 | [],_=>some []
 |k::ks,L=>match L.lookup k with
  |some x=>match x.nb with
   |true=>match selP ks L with
    | some r=>some ((k,x)::r)
    | none=>none
   | false=>none
  | none=>none
theorem xL:∀ {ks:List Nat} {L2:Env},selP ks L=some L2->Pick (λ x=>x.nb=true) L L2
 | [],L2,h=>by simp[selP] at h;subst h;exact .nil
 |k::ks,L2,h=>by
  unfold selP at h;split at h
  ·rename_i x hx;split at h
   ·rename_i hn;split at h
    ·rename_i r hr;injection h with h;subst h;exact .cons hx hn (xL hr)
    ·cases h
   ·cases h
  ·cases h
def selQ:List (Nat×Nat)->Env->Option (List (Nat×Nat×Dt))
 | [],_=>some []
 |(k,p)::ks,L=>match L.lookup k with
  |some x=>match selQ ks L with
   | some r=>some ((k,p,x)::r)
   | none=>none
  | none=>none
def envO:List (Nat×Nat×Dt)->Env
 | []=>[]
 | (s,_,x)::r=>(s,x)::envO r
theorem selQ_spec:∀ {ks:List (Nat×Nat)} {O:List (Nat×Nat×Dt)},selQ ks L=some O->∀ q∈O,L.lookup q.1=some q.2.2
 | [],O,h=>by simp[selQ] at h;subst h;intro q hq;cases hq
 |(k,p)::ks,O,h=>by
  unfold selQ at h;split at h
  ·rename_i x hx;split at h
   ·rename_i r hr;injection h with h;subst h;intro q hq;rcases List.mem_cons.1 hq with rfl | hq
    ·exact hx
    ·exact selQ_spec hr q hq
   ·cases h
  ·cases h
end
def zp(Gs:List (Nat->Prop))(p b:Nat):Prop:=match Gs[p]? with
 | some G=>G b
 | none=>False
structure Objs(F:Frm)(M0 M:Nat->Prop)(Gs:List (Nat->Prop)):Prop where
 sub:∀ b,M0 b->M b
 at_:∀ p b,zp Gs p b->F.Own b/\M b/\¬ M0 b
 apart:∀ p q b,p≠q->zp Gs p b->¬ zp Gs q b
def AllOw(Gs:List (Nat->Prop)):List (Nat×Nat×Dt)->Prop
 | []=>True
 | q::r=>(∀ b,q.2.2.own b->zp Gs q.2.1 b)/\AllOw Gs r
variable{α β γ δ:Type}
theorem AllOw.get{Gs:List (Nat->Prop)}:∀ {O:List (Nat×Nat×Dt)},AllOw Gs O->∀ q∈O,∀ b,q.2.2.own b->zp Gs q.2.1 b
 |_::_,h,q,hq=>by
  rcases List.mem_cons.1 hq with rfl | hq
  ·exact h.1
  ·exact AllOw.get h.2 q hq
theorem AllOw.of{Gs:List (Nat->Prop)}:∀ {O:List (Nat×Nat×Dt)},(∀ q∈O,∀ b,q.2.2.own b->zp Gs q.2.1 b)->AllOw Gs O
 | [],_=>trivial
 | q::_,h=>⟨h q (by simp),AllOw.of λ r hr=>h r (by simp[hr])⟩
theorem zy{p:Nat}{b:Nat}(hp:p<Gs.length):zp (Gs.set p G) p b=G b:=by simp[zp,hp]
theorem zE{p q:Nat}{b:Nat}(h:p≠q):zp (Gs.set p G) q b=zp Gs q b:=by simp[zp,List.getElem?_set_ne h]
structure Sx(F:Frm)(N:Nat)(M0 M:Nat->Prop)(Gs:List (Nat->Prop))(L:Env)(O:List (Nat×Nat×Dt))(a:Act)(w:World):Prop where
 st:St F N M (L++envO O) a w
 ob:Objs F M0 M Gs
 no:∀ s x,L.lookup s=some x->x.nb=true
 ow:AllOw Gs O
theorem xm{l r:List (Nat×α)}{x:α}(h:l.lookup s=some x):(l++r).lookup s=some x:=by
 induction l with
 | nil=>simp at h
 |cons p l ih=>
  obtain⟨k,v⟩:=p;simp only[List.cons_append,List.lookup_cons] at h ⊢;cases hb:s == k <;> simp only[hb] at h ⊢
  ·exact ih h
  ·exact h
theorem yt{l r:List (Nat×α)}(h:l.lookup s=none):(l++r).lookup s=r.lookup s:=by
 induction l with
 | nil=>rfl
 |cons p l ih=>
  obtain⟨k,v⟩:=p;simp only[List.cons_append,List.lookup_cons] at h ⊢;cases hb:s == k <;> simp only[hb] at h ⊢
  ·exact ih h
  ·cases h
theorem yF{l r:List (Nat×α)}{x:α}(h:(l++r).lookup s=some x):l.lookup s=some x\/(l.lookup s=none/\r.lookup s=some x):=by
 cases hl:l.lookup s with
 | none=>exact .inr ⟨Z,by rwa[yt hl] at h⟩
 | some y=>left;rw[xm hl] at h;exact h
theorem zee{l:List (Nat×α)}{x:α}(h:l.lookup s=some x):(s,x)∈l:=wh l s x h
theorem X5:∀ {O:List (Nat×Nat×Dt)} {s:Nat} {x:Dt},(envO O).lookup s=some x->∃ p,(s,p,x)∈O
 |(k,p,y)::O,s,x,h=>by
  simp only[envO,List.lookup_cons] at h;cases hb:s == k with
  |true=>
   simp only[hb] at h;injection h with h;subst h;have:s=k:=by simpa using hb
   subst this;exact⟨p,by simp⟩
  |false=>simp only[hb] at h;obtain⟨q,hq⟩:=X5 h;exact⟨q,by simp[hq]⟩
section
variable{fn:Func}{l:List Oper}{p:Nat}
variable{B α β σ:Type}
theorem St.env{E':Env}(h:St F N M E a w)(hs:∀ s x,E'.lookup s=some x->E.lookup s=some x):St F N M E' a w:=
 ⟨h.fr,h.size,h.defers,h.mok,λ s x hx=>h.has s x (hs s x hx)⟩
theorem envO_sel(hq:selQ qp E=some O2):∀ s x,(envO O2).lookup s=some x->E.lookup s=some x:=λ s x hx=>by
 obtain⟨p,hp⟩:=X5 hx;exact selQ_spec hq _ hp
theorem sel_env(hk:selP ks E=some L2)(hq:selQ qp E=some O2):∀ s x,(L2++envO O2).lookup s=some x->E.lookup s=some x:=λ s x hx=>by
 rcases yF hx with h | ⟨_,h⟩
 ·exact((xL hk).spec s x h).1
 ·exact envO_sel hq s x h
theorem Sx.of_st(h:St F N M E a w)(ob:Objs F M0 M Gs)(hk:selP ks E=some L2)(hq:selQ qp E=some O2)(hw:AllOw Gs O2):Sx F N M0 M Gs L2 O2 a w:=
 ⟨h.env (sel_env hk hq),ob,λ s x hx=>((xL hk).spec s x hx).2,hw⟩
theorem Sx.sel(h:Sx F N M0 M Gs L O a w)(ks:List Nat)(hk:selP ks (L++envO O)=some L2)(qp:List (Nat×Nat))(hq:selQ qp (L++envO O)=some O2)(hw:AllOw Gs O2):Sx F N M0 M Gs L2 O2 a w:=.of_st h.st h.ob hk hq hw
theorem Sx.sel0(h:Sx F N M0 M Gs L O a w)(ks:List Nat)(hk:selP ks (L++envO O)=some L2:=by rfl):Sx F N M0 M Gs L2 [] a w:=.of_st h.st h.ob hk (qp:=[]) Z trivial
theorem Sx.seg(h:Sx F N M0 M Gs L O a w)(n:Nat)(hs:Seg P M ops N (L++envO O) (l.take n) L')(ks:List Nat)(hk:selP ks L'=some L2)(qp:List (Nat×Nat))(hq:selQ qp L'=some O2)(hw:AllOw Gs O2)
  (hQ:∀ a' w',Sx F N M0 M Gs L2 O2 a' w'->wpList P ops Q (l.drop n) a' w'):wpList P ops Q l a w:=by
 have:=J7 (rest:=l.drop n) (Q:=Q) hs h.st (λ a' w' he hst'=>hQ a' w' (.of_st hst' h.ob hk hq hw));rwa[List.take_append_drop] at this
theorem Sx.rg(h:Sx F N M0 M Gs L O a w){id:Nat}(hs:Seg P M ops N (L++envO O) ops.toList L')(ks:List Nat)(hk:selP ks L'=some L2)(qp:List (Nat×Nat))(hq:selQ qp L'=some O2)(hw:AllOw Gs O2)
  (hQ:∀ a' w',Sx F N M0 M Gs L2 O2 a' w'->Q .normal a' w'):(Code.region id ops false).wp P Q a w:=by
 refine Ka ?_;have:=J7 (rest:=[]) (Q:=Q) hs h.st (λ a' w' he hst'=>Kb (hQ a' w' (.of_st hst' h.ob hk hq hw)));simpa using this
theorem Sx.dr(h:Sx F N M0 M Gs L O a w){id:Nat}(hm:P.follows .mixedOrders=true)(S:List (List (Nat×Option Nat)))(hc:wO ops ops.size (cloT ops) S=true)
  (hs:RegR P M ops N S (L++envO O) D 0 ops.toList xs) (ks:List Nat) (hk:selP ks (xs++(L++envO O))=some L2) (qp:List (Nat×Nat)) (hq:selQ qp (xs++(L++envO O))=some O2) (hw:AllOw Gs O2)
  (hQ:∀ a' w',Sx F N M0 M Gs L2 O2 a' w'->Q .normal a' w'):(Code.region id ops true).wp P Q a w:=
 X1 hm ops.size (cloT ops) S hc (Nat.le_refl _) h.st (by rwa[show ops.size=ops.toList.length from by simp,List.take_length]) (λ a' w' he hst'=>by
  rw[show ops.size=ops.toList.length from by simp,List.drop_length];exact Kb (hQ a' w' (.of_st hst' h.ob hk hq hw)))
theorem Sx.drn(h:Sx F N M0 M Gs L O a w){id:Nat}(hm:P.follows .mixedOrders=true)(k:Nat)(S:List (List (Nat×Option Nat)))(hc:wO ops k (cloT ops) S=true)(hkn:k<=ops.size)
  (hs:RegR P M ops N S (L++envO O) D 0 (ops.toList.take k) xs) (ks:List Nat) (hk:selP ks (xs++(L++envO O))=some L2) (qp:List (Nat×Nat)) (hq:selQ qp (xs++(L++envO O))=some O2) (hw:AllOw Gs O2)
  (hQ:∀ a' w',Sx F N M0 M Gs L2 O2 a' w'->wpList P ops Q (ops.toList.drop k) a' w'):(Code.region id ops true).wp P Q a w:=
 X1 hm k (cloT ops) S hc hkn h.st hs λ a' w' _he hst'=>hQ a' w' (.of_st hst' h.ob hk hq hw)
theorem Sx.cs{c:Nat}{x z:Code}{A B:Option β}{r:β}(h:Sx F N M0 M Gs L O a w)(hm:(if b=true then A else B)=some r)(ht:b=true->A=some r->x.wp P Q a w)(hf:b=false->B=some r->z.wp P Q a w)(hl:L.lookup c=some (dt b):=by rfl):(Code.cond (.tmp c) x z).wp P Q a w:=
 zJ h.st (xm hl) (λ hb=>ht hb (by rw[Ke hb] at hm;exact hm)) (λ hb=>hf hb (by rw[Kf (by rw[hb];decide)] at hm;exact hm))
theorem jg{c1 c2:Code}(I:Act->World->Prop)(h1:c1.wp P (Exit.then I Q) a w)(h2:∀ a' w',I a' w'->c2.wp P Q a' w'):(Code.seq c1 c2).wp P Q a w:=
 Kc (Code.wp_mono (λ e a' w' q=>by
  cases e with
  | normal=>exact h2 a' w' q
  | _=>exact q) h1)
theorem XI{step:σ->Option (σ⊕β)}{s0:σ}{o:β}(hm:zP step s0=some o)(Inv:σ->Act->World->Prop)(h0:Inv s0 a w)
  (round:∀ s x a w,Inv s a w->step s=some x->(∀ b,x=.inr b->b=o)->c.wp P (Exit.then (λ a' w'=>∃ s',x=.inl s'/\Inv s' a' w') Q) a w):(Code.loop c).wp P Q a w:=by
 unfold zP at hm;refine jD (ι:=Nat×σ) (λ i a w=>qb step i.1 i.2=some o/\Inv i.2 a w) (λ i=>i.1) (_,s0) ⟨hm,h0⟩ ?_
 rintro ⟨n,s⟩ a w ⟨hn,hI⟩
 simp only at hn hI;cases n with
 | zero=>simp[qb] at hn
 |succ n=>
  unfold qb at hn;cases hs:step s with
  | none=>rw[hs] at hn;cases hn
  |some x=>
   rw[hs] at hn;refine Code.wp_mono (λ e a' w' q=>?_) (round s x a w hI hs (λ b hb=>by subst hb;exact Option.some.inj hn));cases e with
   |normal=>obtain⟨s',rfl,hI'⟩:=q;exact⟨(n,s'),⟨hn,hI'⟩,Nat.lt_succ_self n⟩
   | _=>exact q
theorem lo{b o:β}{x:σ⊕β}(h:some (Sum.inr b)=some x)(hx:∀ b,x=.inr b->b=o):some b=some o:=by
 injection h with h;rw[hx b h.symm]
theorem jo{T:Type}{t:T}{o:B⊕T}{K:B->Option T}{r:Option T}(h:some (Sum.inr t)=some o)(hk:Sum.elim K some o=r):some t=r:=by
 injection h with h;subst h;exact hk
theorem Sx.nom(h:Sx F N M0 M Gs L O a w)(hx:x.rd M w v):x.rd M0 w v:=x.weak hx λ k _ hk=>h.ob.sub k hk
theorem Sx.ret{α:Type}[Rep α]{t:Nat}{x r:α}(h:Sx (Frm.of w0) N M0 M Gs L O a w)(hr:fn.results=#[.tmp t])(hl:(L++envO O).lookup t=some (dt x))(hm:some x=some r):bodyPost P fn (RetP M0 w0 (dt r)) .ret a w:=by
 injection hm with hm;subst hm;exact zaE hr h.st hl λ v hv=>h.nom hv
theorem tip_frz[Rep α]{xs:List α}(h:Sx F N M0 M Gs L O a w)(hv:(dtip g e xs).rd M w v)(hg:∀ b,g=some b->zp Gs p b):(dt xs).rd M0 w v:=
 WM hv (λ b _ hb=>h.ob.sub b hb) λ b hb=>(h.ob.at_ p b (hg b hb)).2.2
theorem Sx.ret_tip[Rep α]{t:Nat}{x r:List α}(h:Sx (Frm.of w0) N M0 M Gs L O a w)(p:Nat)(hr:fn.results=#[.tmp t])(hl:(L++envO O).lookup t=some (dtip g e x))(hg:∀ b,g=some b->zp Gs p b)(hm:some x=some r):bodyPost P fn (RetP M0 w0 (dt r)) .ret a w:=by
 injection hm with hm;subst hm;exact zaE hr h.st hl λ v hv=>tip_frz h hv hg
theorem Sx.ret_own[Rep α]{t:Nat}{x r:List α}(h:Sx (Frm.of w0) N M0 M Gs L O a w)(p:Nat)(hm:some x=some r)(hr:fn.results=#[.tmp t]:=by rfl)(hl:(L++envO O).lookup t=some (dtip g e x):=by rfl)(hg:∀ b,g=some b->zp Gs p b:=by exact λ _ h=>h):bodyPost P fn (RetO e M0 w0 r) .ret a w:=by
 injection hm with hm;subst hm;refine⟨h.st.defers,_,results_tmp hr a.tmps P w,_,g,Z,h.st.fr,λ b hb=>⟨(h.ob.at_ p b (hg b hb)).1,h.st.mok b (h.ob.at_ p b (hg b hb)).2.1⟩,(dtip g e x).weak (h.st.has t _ hl) λ k _ hk=>?_⟩;rcases hk with hk | hk
 ·exact h.ob.sub k hk
 ·exact(h.ob.at_ p k (hg k hk)).2.1
theorem Sx.ret_take[Rep α]{t:Nat}{x r:List α}(h:Sx (Frm.take w0 g) N M0 M Gs L O a w)(p:Nat)(hr:fn.results=#[.tmp t])(hl:(L++envO O).lookup t=some (dtip g' e x))(hg:∀ b,g'=some b->zp Gs p b)(hm:some x=some r):bodyPost P fn (RetT e M0 w0 g r) .ret a w:=by
 injection hm with hm;subst hm;refine⟨h.st.defers,_,results_tmp hr a.tmps P w,_,g',Z,h.st.fr,?_,λ b hb=>h.st.mok b (h.ob.at_ p b (hg b hb)).2.1,(dtip g' e x).weak (h.st.has t _ hl) λ k _ hk=>?_⟩
 ·cases g' with
  | none=>exact .inr λ b hb=>by cases hb
  |some b=>
   rcases(h.ob.at_ p b (hg b rfl)).1 with h1 | h1
   ·exact .inl h1.symm
   ·exact .inr λ k hk=>by injection hk with hk;omega
 ·rcases hk with hk | hk
  ·exact h.ob.sub k hk
  ·exact(h.ob.at_ p k (hg k hk)).2.1
theorem Sx.ret_box[Rep α]{t:Nat}{x r:α}(h:Sx (Frm.of w0) N M0 M Gs L O a w)(hm:some x=some r)(hr:fn.results=#[.cell t ty]:=by rfl)(hl:(L++envO O).lookup t=some (dbox g 0 x):=by rfl)(ht:tyB P ty (Rep.agg α) (Rep.size α)=true:=by kernel_rfl):
  bodyPost P fn (RetP M0 w0 (dt r)) .ret a w:=by
 injection hm with hm;subst hm;exact ret_cell hr ht h.st hl λ v hv=>h.nom hv
theorem RdAll.stable{us:List Value}{xs:List Dt}(hr:RdAll M w us xs)(hn:∀ x∈xs,x.nb=true)(e:Same M noB w w'):RdAll M w' us xs:=by
 induction hr with
 | nil=>exact .nil
 |cons h r ih=>rename_i v x vs xs';exact .cons (x.stable h λ k hk hm=>e k hk (hm.elim .inl λ ho=>(x.nob (hn x (by simp)) k ho).elim)) (ih λ y hy=>hn y (by simp[hy]))
theorem RdAll.weak{us:List Value}{xs:List Dt}(hr:RdAll M w us xs)(e:∀ k,k<w.heap.size->M' k->M k):RdAll M' w us xs:=by
 induction hr with
 | nil=>exact .nil
 |cons h r ih=>rename_i v x vs xs';exact .cons (x.weak h e) ih
def dtup(xs:List Dt):Dt where
 rd M w v:=∃ us,v=.tuple us.toArray/\RdAll M w us xs/\∀ x∈xs,x.nb=true
 own:=noB
 nb:=true
 nob _ _ h:=h
 stable:=by
  rintro M w w' v ⟨us,hv,hr,hn⟩ e
  exact⟨us,hv,hr.stable hn e,hn⟩
 weak:=by
  rintro M M' w v ⟨us,hv,hr,hn⟩ e
  exact⟨us,hv,hr.weak e,hn⟩
theorem RdAll.at:∀ {us:List Value} {xs:List Dt},RdAll M w us xs->∀ {i:Nat} {x:Dt},xs[i]?=some x->∃ u,us[i]?=some u/\x.rd M w u
 | _,_,.cons h r,0,x,hi=>by simp at hi;subst hi;exact⟨_,Z,h⟩
 |_,_,.cons h r,i+1,x,hi=>by
  obtain⟨u,h1,h2⟩:=RdAll.at r (i:=i) (by simpa using hi);exact⟨u,by simpa using h1,h2⟩
theorem xExt{look:Nat->Option Dt}{xs:List Dt}(ho:o.op=.extract q i)(hp:OpdR M look q (dtup xs))(hx:xs[i]?=some x):OpRel P M look o x:=
 zF λ a w _ hl=>by
  obtain⟨us,hv,hr,_⟩:=hp w a hl;obtain⟨u,h1,h2⟩:=hr.at hx;exact⟨u,by unfold execOp;rw[ho];simp[hv,Instr.extract,h1],h2⟩
theorem Sx.ret2{t:Nat}{y:Dt}(h:Sx (Frm.of w0) N M0 M Gs L O a w)(hx:x.rd M0 w (Act.at a t))(hy:y.rd M0 w (Act.at a u))(hn:x.nb=true/\y.nb=true)(hr:fn.results=#[.tmp t,.tmp u]:=by rfl)(hR:R=dtup [x,y]:=by rfl):bodyPost P fn (RetP M0 w0 R) .ret a w:=by
 subst hR;exact⟨h.st.defers,_,results_tmp2 hr a.tmps P w,_,Z,h.st.fr,[_,_],Z,.cons hx (.cons hy .nil),λ z hz=>by
  simp only[List.mem_cons,List.not_mem_nil,or_false] at hz;rcases hz with rfl | rfl
  ·exact hn.1
  ·exact hn.2⟩
theorem Sx.ret3{t v:Nat}{y z:Dt}(h:Sx (Frm.of w0) N M0 M Gs L O a w)(hx:x.rd M0 w (Act.at a t))(hy:y.rd M0 w (Act.at a u))(hz:z.rd M0 w (Act.at a v))(hn:x.nb=true/\y.nb=true/\z.nb=true)(hr:fn.results=#[.tmp t,.tmp u,.tmp v]:=by rfl)(hR:R=dtup [x,y,z]:=by rfl):bodyPost P fn (RetP M0 w0 R) .ret a w:=by
 subst hR;exact⟨h.st.defers,_,results_tmp3 hr a.tmps P w,_,Z,h.st.fr,[_,_,_],Z,.cons hx (.cons hy (.cons hz .nil)),λ q hq=>by
  simp only[List.mem_cons,List.not_mem_nil,or_false] at hq;rcases hq with rfl | rfl | rfl
  ·exact hn.1
  ·exact hn.2.1
  ·exact hn.2.2⟩
theorem Sx.frozen(h:Sx F N M0 M Gs L O a w){t:Nat}(hl:(L++envO O).lookup t=some x:=by rfl):x.rd M0 w (Act.at a t):=h.nom (h.st.has t x hl)
theorem Sx.frozenT[Rep α]{xs:List α}(h:Sx F N M0 M Gs L O a w){t:Nat}(p:Nat)(hl:(L++envO O).lookup t=some (dtip g e xs))(hg:∀ b,g=some b->zp Gs p b):(dt xs).rd M0 w (Act.at a t):=tip_frz h (h.st.has t _ hl) hg
def Jd:Env->Bool
 | []=>true
 | (_,x)::r=>x.nb&&Jd r
theorem WN:∀ {E:Env},Jd E=true->∀ s x,E.lookup s=some x->x.nb=true
 |(k,y)::r,h,s,x,hx=>by
  simp only[Jd,Bool.and_eq_true] at h;simp only[List.lookup_cons] at hx;split at hx
  ·injection hx with hx;subst hx;exact h.1
  ·exact WN h.2 s x hx
theorem QR:∀ {n p b:Nat},¬ zp (List.replicate n (oneB none)) p b:=λ{n p b} h=>by
 unfold zp at h;split at h
 ·rename_i G hG;have:=List.mem_of_getElem? hG;rw[List.mem_replicate] at this;rw[this.2] at h;cases h
 ·exact h
theorem Sx.start(n:Nat)(h:St F N M L a w)(hn:Jd L=true):Sx F N M M (List.replicate n (oneB none)) L [] a w:=
 ⟨by simpa[envO] using h,⟨λ _ h=>h,λ _ _ h=>(QR h).elim,λ _ _ _ _ h=>(QR h).elim⟩,WN hn,trivial⟩
theorem fnx{f:FuncId}{xs:List Dt}{y:Dt}(n:Nat)(hf:P.funcs[f]?=some fn)(hb:fn.body=some c)(hnb:Jd (z9 0 xs)=true)
  (h:∀ (M:Nat->Prop) (w:World) (a:Act),Sx (Frm.of w) fn.ntmps M M (List.replicate n (oneB none)) (z9 0 xs) [] a w->c.wp P (bodyPost P fn (RetP M w y)) a w)(hn:xs.length<=fn.ntmps:=by exact oD Z):Fn P f xs y:=
 yU hf hb (hn:=hn) λ M w a _ st=>h M w a (.start n st hnb)
theorem fnxO[Rep α]{f:FuncId}{xs:List Dt}{y:List α}(n:Nat)(hf:P.funcs[f]?=some fn)(hb:fn.body=some c)(hn:xs.length<=fn.ntmps)(hnb:Jd (z9 0 xs)=true)
  (h:∀ (M:Nat->Prop) (w:World) (a:Act),Sx (Frm.of w) fn.ntmps M M (List.replicate n (oneB none)) (z9 0 xs) [] a w->c.wp P (bodyPost P fn (RetO e M w y)) a w):FnOwn P f xs e y:=
 own_of_wp hf hb hn λ M w a _ st=>h M w a (.start n st hnb)
theorem Sx.sq(h:Sx F N M0 M Gs L O a w){id:Nat}{c2:Code}(hs:Seg P M ops N (L++envO O) ops.toList L')(ks:List Nat)(hk:selP ks L'=some L2)(qp:List (Nat×Nat))(hq:selQ qp L'=some O2)(hw:AllOw Gs O2)
  (hQ:∀ a' w',Sx F N M0 M Gs L2 O2 a' w'->c2.wp P Q a' w'):(Code.seq (Code.region id ops false) c2).wp P Q a w:=
 Kc (h.rg hs ks hk qp hq hw λ a' w' st=>za (hQ a' w' st))
theorem Sx.sq0(h:Sx F N M0 M Gs L O a w){id:Nat}{c2:Code}(hs:Seg P M ops N (L++envO O) ops.toList L')(ks:List Nat)(hk:selP ks L'=some L2)
  (hQ:∀ a' w',Sx F N M0 M Gs L2 [] a' w'->c2.wp P Q a' w'):(Code.seq (Code.region id ops false) c2).wp P Q a w:=h.sq hs ks hk [] Z trivial hQ
theorem Sx.rg0(h:Sx F N M0 M Gs L O a w){id:Nat}(hs:Seg P M ops N (L++envO O) ops.toList L')(ks:List Nat)(hk:selP ks L'=some L2)
  (hQ:∀ a' w',Sx F N M0 M Gs L2 [] a' w'->Q .normal a' w'):(Code.region id ops false).wp P Q a w:=h.rg hs ks hk [] Z trivial hQ
theorem jn{T:Type}{b:B}{K:B->Option T}{r:Option T}(hk:Sum.elim K some (Sum.inl b)=r):K b=r:=hk
section
variable{look:Nat->Option Dt}
theorem tp(h:look s=some x):OpdR M look (.tmp s) x:=zb h
theorem T{look:Nat->Option Dt}(h:look s=some x:=by rfl):OpdR M look (.tmp s) x:=tp h
theorem V{look:Nat->Option Dt}{c:Bool}(hc:c=true:=by assumption)(h:look s=some (Dt.grd c x):=by rfl):OpdR M look (.tmp s) x:=zq hc h
theorem cI{n:Int}:OpdR M look (.const (.int .i64 n)) (dt n):=zT
theorem cB:OpdR M look (.const (.bool b)) (dt b):=opd_bool
theorem oM(ho:o.op=.move q)(h:OpdR M look q x):OpRel P M look o x:=zr ho h
theorem oA(ho:o.op=.assign q)(h:OpdR M look q x):OpRel P M look o x:=yo ho h
theorem oCI{x:Operand}{n:Int}(ho:o.op=.binOp op t x y t')(hx:OpdR M look x (dt m))(hy:OpdR M look y (dt n))(hop:op=.eql\/op=.neq\/op=.lss\/op=.leq\/op=.gtr\/op=.geq:=by decide):OpRel P M look o (dt (cmpI op m n)):=wQ ho (hop:=hop) hx hy
theorem oCB{x:Operand}{m n:UInt8}(ho:o.op=.binOp op t x y t')(hx:OpdR M look x (dt m))(hy:OpdR M look y (dt n))(hop:op=.eql\/op=.neq\/op=.lss\/op=.leq\/op=.gtr\/op=.geq:=by decide):OpRel P M look o (dt (cmpB op m n)):=op_cmpB ho (hop:=hop) hx hy
end
def findO(k:Nat):List (Nat×Nat×Dt)->Option (Nat×Dt)
 | []=>none
 |(s,p,x)::r=>match k == s with
  | true=>some (p,x)
  | false=>findO k r
def selR(L:Env)(O:List (Nat×Nat×Dt)):List Nat->Nat->Option (List (Nat×Nat×Dt))
 | [],_=>some []
 |k::ks,p=>match L.lookup k with
  | some _=>none
  |none=>match findO k O with
   | none=>none
   |some (q,x)=>match q == p with
    | true=>none
    |false=>match selR L O ks p with
     | some r=>some ((k,q,x)::r)
     | none=>none
theorem find_env:∀ {O:List (Nat×Nat×Dt)} {k p:Nat} {x:Dt},findO k O=some (p,x)->(k,p,x)∈O/\(envO O).lookup k=some x
 |(s,q,y)::O,k,p,x,h=>by
  unfold findO at h;simp only[envO,List.lookup_cons];split at h
  ·rename_i hk;injection h with h;injection h with h1 h2;subst h1 h2;have hk':k=s:=by simpa using hk
   subst hk';exact⟨by simp,by simp⟩
  ·rename_i hk;obtain⟨h1,h2⟩:=find_env h;exact⟨by simp[h1],by simp only[hk];exact h2⟩
theorem jK:∀ {ks:List Nat} {O2:List (Nat×Nat×Dt)},selR L O ks p=some O2->∀ q∈O2,q∈O/\q.2.1≠p/\(L++envO O).lookup q.1=some q.2.2
 | [],O2,h=>by simp[selR] at h;subst h;intro q hq;cases hq
 |k::ks,O2,h=>by
  unfold selR at h;split at h
  ·cases h
  ·rename_i hl;split at h
   ·cases h
   ·rename_i q x hq;split at h
    ·cases h
    ·rename_i hp;split at h
     ·rename_i r hr;injection h with h;subst h;intro q' hq';rcases List.mem_cons.1 hq' with rfl | hq'
      ·obtain⟨h1,h3⟩:=find_env hq;refine⟨h1,by simpa using hp,?_⟩;rw[yt hl];exact h3
      ·exact jK hr q' hq'
     ·cases h
theorem Objs.upd(ob:Objs F M0 M Gs)(hp:p<Gs.length)(hj:F.J w)(hmok:∀ b,M b->b<w.heap.size)(hG:∀ b,G' b->zp Gs p b\/w.heap.size<=b):Objs F M0 (λ b=>(M b/\¬ zp Gs p b)\/G' b) (Gs.set p G'):=by
 refine⟨λ b hb=>.inl ⟨ob.sub b hb,λ ho=>(ob.at_ p b ho).2.2 hb⟩,λ q b hb=>?_,λ q r b hne h1 h2=>?_⟩
 ·by_cases hq:p=q
  ·subst hq;rw[zy hp] at hb;rcases hG b hb with h | h
   ·obtain⟨h1,h2,h3⟩:=ob.at_ p b h;exact⟨h1,.inr hb,h3⟩
   ·exact⟨F.fresh hj b h,.inr hb,λ hm=>by have:=hmok b (ob.sub b hm);omega⟩
  ·rw[zE hq] at hb;obtain⟨h1,h2,h3⟩:=ob.at_ q b hb;exact⟨h1,.inl ⟨h2,λ ho=>ob.apart p q b hq ho hb⟩,h3⟩
 ·by_cases hq:p=q
  ·subst hq;rw[zy hp] at h1;rw[zE hne] at h2;rcases hG b h1 with h | h
   ·exact ob.apart p r b hne h h2
   ·have:=hmok b (ob.at_ r b h2).2.1;omega
  ·rw[zE hq] at h1;by_cases hr:p=r
   ·subst hr;rw[zy hp] at h2;rcases hG b h2 with h | h
    ·exact ob.apart q p b hne h1 h
    ·have:=hmok b (ob.at_ q b h1).2.1;omega
   ·rw[zE hr] at h2;exact ob.apart q r b hne h1 h2
theorem Sx.eff(h:Sx F N M0 M Gs L O a w)(hp:p<Gs.length)(hgr:Grown (zp Gs p) w w')(hG:∀ b,G' b->(zp Gs p b\/w.heap.size<=b)/\b<w'.heap.size)(hk:selP ks L=some L2)(hq:selR L O qs p=some O2):
  Sx F N M0 (λ b=>(M b/\¬ zp Gs p b)\/G' b) (Gs.set p G') L2 O2 a w':=by
 have key:∀ {x:Dt} {v:Value},x.rd M w v->(∀ b,x.own b->¬ zp Gs p b)->x.rd (λ b=>(M b/\¬ zp Gs p b)\/G' b) w' v:=λ{x v} hx ho=>by
  have h1:x.rd (λ b=>M b\/G' b) w v:=x.weak hx λ k hk hm=>by
   rcases hm with hm | hm
   ·exact hm
   ·rcases(hG k hm).1 with h2 | h2
    ·exact(h.ob.at_ p k h2).2.1
    ·omega
  have h2:x.rd (λ b=>M b\/G' b) w' v:=x.stable h1 λ k hk hm=>hgr.block k hk λ he=>by
   rcases hm with hm | hm
   ·exact hm (.inl (h.ob.at_ p k he).2.1)
   ·exact ho k hm he
  exact x.weak h2 λ k _ hm=>hm.imp (λ h=>h.1) id
 refine⟨⟨F.own h.st.fr hgr λ b hb=>(h.ob.at_ p b hb).1,h.st.size,h.st.defers,λ b hb=>?_,λ s x hx=>?_⟩,h.ob.upd hp h.st.fr h.st.mok λ b hb=>(hG b hb).1,λ s x hx=>((xL hk).spec s x hx).2,AllOw.of λ q hq' b hb=>?_⟩
 ·rcases hb with hb | hb
  ·exact Nat.lt_of_lt_of_le (h.st.mok b hb.1) hgr.size
  ·exact(hG b hb).2
 ·rcases yF hx with h1 | ⟨_,h1⟩
  ·obtain⟨h2,h3⟩:=(xL hk).spec s x h1;exact key (h.st.has s x (xm h2)) λ b hb=>(x.nob h3 b hb).elim
  ·obtain⟨q,hq'⟩:=X5 h1;obtain⟨h2,h3,h4⟩:=jK hq _ hq';exact key (h.st.has s x h4) λ b hb hb'=>h.ob.apart _ _ b h3 (h.ow.get _ h2 b hb) hb'
 ·obtain⟨h2,h3,h4⟩:=jK hq _ hq';rw[zE (Ne.symm h3)];exact h.ow.get _ h2 b hb
theorem Sx.oc{α:Type}[Rep α]{F:Frm}{N:Nat}{M0 M:Nat->Prop}{Gs:List (Nat->Prop)}{L:Env}{O:List (Nat×Nat×Dt)}{a:Act}{w:World}{q:Operand}{x:α}(h:Sx F N M0 M Gs L O a w)(k:OpdR M (λ s=>(L++envO O).lookup s) q (dt x)):Rep.rdc M w (a.eval q).cells.toList x:=OpdR.cells k (λ s y hs=>h.st.has s y hs)
theorem Sx.putO(h:Sx F N M0 M Gs L O a w)(hN:d<N)(hdn:L.lookup d=none)(hx:x.rd M w v)(ho:∀ b,x.own b->zp Gs p b):Sx F N M0 M Gs L ((d,p,x)::O) (a.put (some d) v) w:=by
 refine⟨⟨h.st.fr,by rw[Act.put_size];exact h.st.size,by rw[Act.put_defers];exact h.st.defers,h.st.mok,λ s y hy=>?_⟩,h.ob,h.no,ho,h.ow⟩;by_cases hs:s=d
 ·subst hs;rw[yt hdn] at hy;simp[envO] at hy;subst hy;rw[Act.at_put_self (by rw[h.st.size];exact hN)];exact hx
 ·rw[Act.at_put_other (λ e=>hs (by injection e with e;exact e.symm))];refine h.st.has s y ?_;rcases yF hy with h1 | ⟨h0,h1⟩
  ·exact xm h1
  ·rw[yt h0];have hb:(s == d)=false:=by simpa using hs
   simpa[envO,List.lookup_cons,hb] using h1
theorem Sx.putL(h:Sx F N M0 M Gs L O a w)(hN:d<N)(hx:x.rd M w v)(hn:x.nb=true):Sx F N M0 M Gs ((d,x)::L) O (a.put (some d) v) w:=by
 refine⟨⟨h.st.fr,by rw[Act.put_size];exact h.st.size,by rw[Act.put_defers];exact h.st.defers,h.st.mok,λ s y hy=>?_⟩,h.ob,λ s y hy=>?_,h.ow⟩
 ·simp only[List.cons_append,List.lookup_cons] at hy;by_cases hs:s=d
  ·subst hs;simp only[beq_self_eq_true,Option.some.injEq] at hy;subst hy;rw[Act.at_put_self (by rw[h.st.size];exact hN)];exact hx
  ·have hb:(s == d)=false:=by simpa using hs
   simp only[hb] at hy;rw[Act.at_put_other (λ e=>hs (by injection e with e;exact e.symm))];exact h.st.has s y hy
 ·simp only[List.lookup_cons] at hy;split at hy
  ·injection hy with hy;subst hy;exact hn
  ·exact h.no s y hy
theorem Sx.addO(h:Sx F N M0 M Gs L O a w)(hdn:L.lookup d=none)(hx:x.rd M w (Act.at a d))(ho:∀ b,x.own b->zp Gs p b):Sx F N M0 M Gs L ((d,p,x)::O) a w:=by
 refine⟨⟨h.st.fr,h.st.size,h.st.defers,h.st.mok,λ s y hy=>?_⟩,h.ob,h.no,ho,h.ow⟩;by_cases hs:s=d
 ·subst hs;rw[yt hdn] at hy;simp[envO] at hy;subst hy;exact hx
 ·refine h.st.has s y ?_;rcases yF hy with h1 | ⟨h0,h1⟩
  ·exact xm h1
  ·rw[yt h0];have hb:(s == d)=false:=by simpa using hs
   simpa[envO,List.lookup_cons,hb] using h1
theorem yl(hg:Gs[p]?=some (oneB g)):∀ b,zp Gs p b ↔ g=some b:=λ b=>by unfold zp;rw[hg];rfl
theorem ZV(hg:Gs[p]?=some G):p<Gs.length:=(List.getElem?_eq_some_iff.1 hg).1
theorem Grown.own(hg:Gs[p]?=some (oneB g))(h:w.grownBy w' g):Grown (zp Gs p) w w':=(Grown.of_grownBy h).mono λ b hb=>(yl hg b).2 hb
theorem Sx.app[Rep α]{x:Nat}{xs ys r:List α}{z:Dt}(h:Sx F N M0 M Gs L O a w)(p:Nat)(hh:opH o N=some d)
  (ho:o.op=.call { callee:=.builtin .append,args:=#[.tmp s,.tmp x],argTypes:=#[t,t] }) (hel:elB P t e (Rep.size α) bytes=true)
  (hs:(L++envO O).lookup s=some (dtip g e xs)) (hg:Gs[p]?=some (oneB g)) (hx:(L++envO O).lookup x=some z) (hz:IsRow z ys) (hm:appO bytes xs ys=some r)
  (ks:List Nat) (hk:selP ks L=some L2) (qs:List Nat) (hq:selR L O qs p=some O2) (hdn:L2.lookup d=none)
  (next:∀ g' M' a' w',Sx F N M0 M' (Gs.set p (oneB g')) L2 ((d,p,dtip g' e r)::O2) a' w'->wpList P ops Q rest a' w'):wpList P ops Q (o::rest) a w:=by
 obtain⟨hgd,hd,hN⟩:=ya hh;unfold appO at hm;split at hm
 ·rename_i hsz;injection hm with hm;subst hm;have hMg:∀ k,insO g M k->M k:=λ k hk=>hk.elim id λ e=>(h.ob.at_ p k ((yl hg k).2 e)).2.1
  obtain⟨v',w',g',hrun,hv',hgr,hg',hlt⟩:=Xj (P:=P) (w:=w) (t:=t) (ty:=o.type) (M0:=M) (g:=g) hel ((dtip g e xs).weak (h.st.has s _ hs) λ k _ hk=>hMg k hk) (hz _ _ _ (z.weak (h.st.has x _ hx) λ k _ hk=>hMg k hk)) hsz.1 (by unfold maxLen;omega);refine wpList_plain hgd λ K hK=>OpOut.wp (OpOut.of_value (v:=v') (w':=w') ?_ ?_)
  ·unfold execOp;simp only[ho,resolve,invoke,builtin,Sem.run_bind,Sem.run_pure,Result.andThen_ok,List.map_toArray,List.map_cons,List.map_nil,Act.eval_tmp,hrun]
  ·rw[hd];have h1:=h.eff (G':=oneB g') (ZV hg) (Grown.own hg hgr) (λ b hb=>⟨(hg'.imp (λ e=>(yl hg b).2 (by rw[← e];exact hb)) λ e=>e b hb),hlt b hb⟩) hk hq;exact hK _ _ (next g' _ _ _ (h1.putO hN hdn ((dtip g' e _).weak hv' λ k _ hk=>hk.imp (λ h=>h.1) id) λ b hb=>by rw[zy (ZV hg)];exact hb))
 ·cases hm
theorem Sx.make[Rep α]{d0:α}{n:Int}{r:List α}(h:Sx F N M0 M Gs L O a w)(p:Nat)(hh:opH o N=some d)(ho:o.op=.makeSlice t (.tmp s) (.tmp s))
  (hel:elB P t e (Rep.size α) bytes=true) (hzc:wW P e=some zs) (hz:∀ (M:Nat->Prop) (w:World),Rep.rdc M w zs d0) (hs:(L++envO O).lookup s=some (dt n)) (hp:p<Gs.length) (hm:makeO (Rep.size α) bytes n d0=some r)
  (ks:List Nat) (hk:selP ks L=some L2) (qs:List Nat) (hq:selR L O qs p=some O2) (hdn:L2.lookup d=none)
  (next:∀ g' M' a' w',Sx F N M0 M' (Gs.set p (oneB g')) L2 ((d,p,dtip g' e r)::O2) a' w'->wpList P ops Q rest a' w'):wpList P ops Q (o::rest) a w:=by
 obtain⟨hgd,hd,hN⟩:=ya hh;unfold makeO at hm;split at hm
 ·rename_i hc;injection hm with hm;subst hm;obtain⟨i,z,ht,hi,hzz,hs1,hs2,hs3⟩:=elB_spec hel;have hzs:z.cells.toList=zs:=by
   unfold wW at hzc;rw[hi] at hzc;simpa[hzz] using hzc
  obtain⟨w',hrun,hown,hgr⟩:=run_makeSlice_full (P:=P) w 0 t e i z (Rep.size α) ht hi hzz hs1 .i64 .i64 n.toNat hc.2.1 (by rw[hs2];exact hc.2.2.1) (by unfold maxLen;omega) (Nat.zero_le _);have hex:Ext0 w w':=⟨hgr.os,hgr.tape,hgr.output,hgr.size,λ k hk=>hgr.block k hk (by simp)⟩;have hlt:w.heap.size<w'.heap.size:=(hown.lt w.heap.size Z).2;have hsv:Act.at a s=.int .i64 (n.toNat:Int):=by rw[yn.1 (h.st.has s _ hs)];congr 1;omega
  refine wpList_plain hgd λ K hK=>OpOut.wp (OpOut.of_value (v:=.slice (some ⟨w.heap.size,0,none⟩) n.toNat n.toNat) (w':=w') ?_ ?_)
  ·unfold execOp;rw[ho];simp only[Act.eval_tmp,hsv,Sem.run_bind,hrun,Result.andThen_ok,Sem.run_pure]
  ·rw[hd];have h1:=h.eff (G':=oneB (some w.heap.size)) hp ((Grown.of_ext hex).mono λ b hb=>hb.elim) (λ b (hb:some w.heap.size=some b)=>by injection hb with hb;subst hb;exact⟨.inr (Nat.le_refl _),hlt⟩) hk hq;refine hK _ _ (next (some w.heap.size) _ _ _ (h1.putO hN hdn ?_ λ b hb=>by rw[zy hp];exact hb));exact .inl ⟨_,by rw[List.length_replicate];exact hown,row_made (by rw[hzs];exact hz) n.toNat,Z⟩
 ·cases hm
theorem Sx.alloc{α:Type}[Rep α]{t:Nat}{zs:List Value}{d0:α}(h:Sx F N M0 M Gs L O a w)(p:Nat)(hh:opH o N=some d)(ho:o.op=.alloc t)(hzc:wW P t=some zs)(hz:∀ (M:Nat->Prop) (w:World),Rep.rdc M w zs d0)(hp:p<Gs.length)
  (ks:List Nat) (hk:selP ks L=some L2) (qs:List Nat) (hq:selR L O qs p=some O2) (hdn:L2.lookup d=none)
  (next:∀ b M' a' w',Sx F N M0 M' (Gs.set p (oneB (some b))) L2 ((d,p,dbox (some b) 0 d0)::O2) a' w'->wpList P ops Q rest a' w'):wpList P ops Q (o::rest) a w:=by
 obtain⟨hgd,hd,hN⟩:=ya hh;obtain⟨i,z,hi,hzz,hzs⟩:∃ i z,P.info? t=some i/\i.zero=some z/\z.cells.toList=zs:=by
  unfold wW at hzc;cases hi:P.info? t with
  | none=>rw[hi] at hzc;cases hzc
  |some i=>
   rw[hi] at hzc;cases hzz:i.zero with
   | none=>simp[hzz] at hzc
   | some z=>exact⟨i,z,Z,hzz,by simpa[hzz] using hzc⟩
 have he:Ext0 w (w.alloc (.cells z.cells t)):=Ext0.alloc _ _;refine wpList_plain hgd λ K hK=>OpOut.wp (OpOut.of_value (v:=.pointer (some ⟨w.heap.size,0,none⟩)) (w':=w.alloc (.cells z.cells t)) ?_ ?_)
 ·unfold execOp;rw[ho];simp[Instr.alloc,zeroValue,typeInfo,hi,hzz,newVar,newRow,newObj,X3]
 ·rw[hd];have h1:=h.eff (G':=oneB (some w.heap.size)) hp ((Grown.of_ext he).mono λ b hb=>hb.elim) (λ b (hb:some w.heap.size=some b)=>by injection hb with hb;subst hb;exact⟨.inr (Nat.le_refl _),by simp⟩) hk hq;refine hK _ _ (next w.heap.size _ _ _ (h1.putO hN hdn ?_ λ b hb=>by rw[zy hp];exact hb));exact⟨w.heap.size,Z,Z,z.cells,t,zs,heap_alloc_new w _,λ j u hj=>by rw[Nat.zero_add,← Array.getElem?_toList,hzs];exact hj,hz _ _⟩
theorem Sx.store{α β:Type}[Rep α][Rep β]{t q sb:Nat}{vo:Operand}{g:Option Nat}{off:Nat}{x:α}{y0 y:β}{set:α->β->α}(h:Sx F N M0 M Gs L O a w)(p:Nat)(fs:FldS set off)(ho:o.op=.store t (.tmp q) vo)(hgd:o.guard=none)(hd:o.dst=none)
  (ht:tyB P t (Rep.agg β) (Rep.size β)=true) (hg:Gs[p]?=some (oneB g)) (hpl:(L++envO O).lookup q=some (dbox g off y0)) (hvl:OpdR M (λ s=>(L++envO O).lookup s) vo (dt y)) (hsl:(L++envO O).lookup sb=some (dbox g 0 x))
  (ks:List Nat) (hk:selP ks L=some L2) (qs:List Nat) (hq:selR L O qs p=some O2) (hdn:L2.lookup sb=none)
  (next:∀ M' w',Sx F N M0 M' Gs L2 ((sb,p,dbox g 0 (set x y))::O2) a w'->wpList P ops Q rest a w'):wpList P ops Q (o::rest) a w:=by
 obtain⟨b,rfl,hpv,_⟩:=h.st.has q _ hpl;have hob:=h.ob.at_ p b ((yl hg b).2 Z);obtain⟨b1,hb1,hsv,C,e,cs,hb,hc,hr⟩:=h.st.has sb _ hsl;injection hb1 with hb1;subst hb1;have hy:=XH (hvl w a λ s y hs=>h.st.has s y hs);obtain⟨hle,hset⟩:=fs.put hr hy;have hlc:cs.length<=C.size:=by
  rcases Nat.eq_zero_or_pos cs.length with h0 | h0
  ·omega
  ·have:=hc (cs.length - 1) _ (List.getElem?_eq_getElem (by omega));have:=(Array.getElem?_eq_some_iff.1 this).1;omega
 have hrun:=jz (P:=P) (w:=w) (t:=t) (off:=off) (cs:=(a.eval vo).cells.toList) (by rw[Rep.len hy];exact ht) Z hb (by omega) (Rep.oneCell hy);generalize hcc:(a.eval vo).cells.toList=c at*;have hgr:w.grownBy (w.setRow b (C.toList.take off++c++C.toList.drop (off+c.length)).toArray) (some b):=jQ;refine wpList_plain hgd λ K hK=>OpOut.wp (OpOut.of_skip (w':=w.setRow b (C.toList.take off++c++C.toList.drop (off+c.length)).toArray) ?_ ?_)
 ·unfold execOp;rw[ho];have hpv':a.eval (.tmp q)=.pointer (some ⟨b,off,none⟩):=hpv;simp only[Instr.storeAt,Instr.sureAddr,hpv',Sem.run_bind,Sem.run_pure,Result.andThen_ok,hrun]
 ·rw[hd];have h1:=h.eff (G':=oneB (some b)) (ZV hg) (Grown.own hg hgr) (λ k (hk:some b=some k)=>by injection hk with hk;subst hk;exact⟨.inl ((yl hg b).2 Z),Nat.lt_of_lt_of_le (wP hb) hgr.size⟩) hk hq;have hGs:Gs.set p (oneB (some b))=Gs:=by
   apply List.ext_getElem?;intro n;by_cases hn:p=n
   ·subst hn;rw[List.getElem?_set_self (ZV hg),hg]
   ·rw[List.getElem?_set_ne hn]
  rw[hGs] at h1;refine hK _ _ (next _ _ (h1.addO hdn ?_ λ k (hk:some b=some k)=>(yl hg k).2 hk));refine⟨b,Z,hsv,_,e,cs.take off++c++cs.drop (off+c.length),setRow_heap w b C _ e (0,0) hb,λ j u hj=>?_,?_⟩
  ·have hj':j<cs.length:=by
    have:=(List.getElem?_eq_some_iff.1 hj).1;simp at this;omega
   rw[Nat.zero_add];simp only[List.getElem?_toArray];rw[List.append_assoc] at hj ⊢;by_cases h1:j<off
   ·rw[List.getElem?_append_left (by simp;omega)] at hj ⊢;rw[List.getElem?_take,Ke h1] at hj ⊢;have:=hc j u hj;simpa using this
   ·rw[List.getElem?_append_right (by simp;omega)] at hj ⊢;simp only[List.length_take] at hj ⊢;rw[Nat.min_eq_left (by omega)] at hj;rw[Nat.min_eq_left (by simp;omega)];by_cases h2:j - off<c.length
    ·rw[List.getElem?_append_left h2] at hj ⊢;exact hj
    ·rw[List.getElem?_append_right (by omega)] at hj ⊢;rw[List.getElem?_drop] at hj ⊢;rw[show off+c.length+(j - off - c.length)=j by omega] at hj ⊢;have:=hc j u hj;simpa using this
  ·have hset':Rep.rdc (λ k=>(M k/\¬ zp Gs p k)\/oneB (some b) k) w (cs.take off++c++cs.drop (off+c.length)) (set x y):=Rep.weak hset λ k _ hk=>hk.elim (λ h=>h.1) λ(e:some b=some k)=>by injection e with e;subst e;exact hob.2.1
   exact Rep.stable hset' λ k hk hm=>hgr.block k hk λ e=>by
    injection e with e;subst e;rcases hm with hm | hm
    ·exact hm (.inr Z)
    ·exact hm
theorem Sx.frz[Rep α]{xs:List α}(h:Sx F N M0 M Gs L O a w)(p:Nat)(hs:(L++envO O).lookup s=some (dtip g e xs))(hg:Gs[p]?=some (oneB g))
  (ks:List Nat) (hk:selP ks L=some L2) (qs:List Nat) (hq:selR L O qs p=some O2):Sx F N M0 (λ b=>M b/\¬ zp Gs p b) (Gs.set p (oneB none)) ((s,dt xs)::L2) O2 a w:=by
 have hsub:∀ k,k<w.heap.size->(M k/\¬ zp Gs p k)->M k:=λ k _ hk=>hk.1
 refine⟨⟨h.st.fr,h.st.size,h.st.defers,λ b hb=>h.st.mok b hb.1,λ s' x hx=>?_⟩,⟨λ b hb=>⟨h.ob.sub b hb,λ ho=>(h.ob.at_ p b ho).2.2 hb⟩,λ q b hb=>?_,λ q r b hne h1 h2=>?_⟩,λ s' x hx=>?_,AllOw.of λ q hq' b hb=>?_⟩
 ·simp only[List.cons_append,List.lookup_cons] at hx;by_cases he:s'=s
  ·subst he;simp only[beq_self_eq_true,Option.some.injEq] at hx;subst hx;exact WM (h.st.has s' _ hs) (λ b _ hb=>hb.1) λ b hb hm=>hm.2 ((yl hg b).2 hb)
  ·have hb:(s' == s)=false:=by simpa using he
   simp only[hb] at hx;rcases yF hx with h1 | ⟨_,h1⟩
   ·exact x.weak (h.st.has s' x (xm ((xL hk).spec s' x h1).1)) hsub
   ·obtain⟨q,hq'⟩:=X5 h1;exact x.weak (h.st.has s' x (jK hq _ hq').2.2) hsub
 ·by_cases hq':p=q
  ·subst hq';rw[zy (ZV hg)] at hb;cases hb
  ·rw[zE hq'] at hb;obtain⟨h1,h2,h3⟩:=h.ob.at_ q b hb;exact⟨h1,⟨h2,λ ho=>h.ob.apart p q b hq' ho hb⟩,h3⟩
 ·by_cases hq':p=q
  ·subst hq';rw[zy (ZV hg)] at h1;cases h1
  ·rw[zE hq'] at h1;by_cases hr:p=r
   ·subst hr;rw[zy (ZV hg)] at h2;cases h2
   ·rw[zE hr] at h2;exact h.ob.apart q r b hne h1 h2
 ·simp only[List.lookup_cons] at hx;split at hx
  ·injection hx with hx;subst hx;rfl
  ·exact((xL hk).spec s' x hx).2
 ·obtain⟨h2,h3,_⟩:=jK hq _ hq';rw[zE (Ne.symm h3)];exact h.ow.get _ h2 b hb
theorem Sx.rst(h:Sx F N M0 M Gs L O a w)(p:Nat)(ks:List Nat)(hk:selP ks L=some L2)(qs:List Nat)(hq:selR L O qs p=some O2)(hp:p<Gs.length:=by simp):Sx F N M0 (λ b=>(M b/\¬ zp Gs p b)\/oneB none b) (Gs.set p (oneB none)) L2 O2 a w:=
 h.eff (G':=oneB none) hp (Grown.refl _ w) (λ b (hb:none=some b)=>by cases hb) hk hq
theorem Sx.own[Rep α]{f:FuncId}{l:List Operand}{ys:List α}(h:Sx F N M0 M Gs L O a w)(p:Nat)(hh:opH o N=some d)
  (ho:o.op=.call { callee:=.value (.func f),args:=l.toArray,argTypes:=ts }) (hf:fnB P f=true) (hx:ArgsR M (λ s=>(L++envO O).lookup s) l xr) (hfn:FnOwn P f xr e ys) (hp:p<Gs.length)
  (ks:List Nat) (hk:selP ks L=some L2) (qs:List Nat) (hq:selR L O qs p=some O2) (hdn:L2.lookup d=none)
  (next:∀ g' M' a' w',Sx F N M0 M' (Gs.set p (oneB g')) L2 ((d,p,dtip g' e ys)::O2) a' w'->wpList P ops Q rest a' w'):wpList P ops Q (o::rest) a w:=by
 obtain⟨hgd,hd,hN⟩:=ya hh;refine wpList_plain hgd λ K hK=>OpOut.wp (OpOut.of_enter (f:=f) (args:=(l.map a.eval).toArray) (w':=w) ?_ ?_)
 ·unfold execOp;rw[ho];have e:a.eval (.func f)=.func (.func f) #[] #[]:=rfl;simp[resolve,e,Deferred.ofValue,invoke,wz hf]
 ·refine(hfn M w _ h.st.mok (hx.all h.st.has)).mono λ en w' ⟨v',g',he,hex,hg',hv'⟩=>⟨v',he,?_⟩
  rw[hd];have h1:=h.eff (G':=oneB g') hp ((Grown.of_ext hex).mono λ b hb=>hb.elim) (λ b hb=>⟨.inr (hg' b hb).1,(hg' b hb).2⟩) hk hq;exact hK _ _ (next g' _ _ _ (h1.putO hN hdn ((dtip g' e ys).weak hv' λ k _ hk=>hk.imp (λ h=>h.1) id) λ b hb=>by rw[zy hp];exact hb))
theorem Sx.take[Rep α]{f:FuncId}{l:List Operand}{xs ys:List α}(h:Sx F N M0 M Gs L O a w)(p:Nat)(hh:opH o N=some d)
  (ho:o.op=.call { callee:=.value (.func f),args:=(.tmp s::l).toArray,argTypes:=ts }) (hf:fnB P f=true) (hs:(L++envO O).lookup s=some (dtip g e xs)) (hg:Gs[p]?=some (oneB g)) (hx:ArgsR M (λ s=>(L++envO O).lookup s) l xr) (hfn:zbr P f e xs xr ys)
  (ks:List Nat) (hk:selP ks L=some L2) (qs:List Nat) (hq:selR L O qs p=some O2) (hdn:L2.lookup d=none)
  (next:∀ g' M' a' w',Sx F N M0 M' (Gs.set p (oneB g')) L2 ((d,p,dtip g' e ys)::O2) a' w'->wpList P ops Q rest a' w'):wpList P ops Q (o::rest) a w:=by
 obtain⟨hgd,hd,hN⟩:=ya hh;refine wpList_plain hgd λ K hK=>OpOut.wp (OpOut.of_enter (f:=f) (args:=((Operand.tmp s::l).map a.eval).toArray) (w':=w) ?_ ?_)
 ·unfold execOp;rw[ho];have e:a.eval (.func f)=.func (.func f) #[] #[]:=rfl;simp[resolve,e,Deferred.ofValue,invoke,wz hf]
 ·have hM:∀ k,insO g (λ b=>M b/\g≠some b) k ↔ M k:=λ k=>by
   refine⟨λ hk=>hk.elim (λ h=>h.1) λ e=>(h.ob.at_ p k ((yl hg k).2 e)).2.1,λ hk=>?_⟩;by_cases e:g=some k
   ·exact .inr e
   ·exact .inl ⟨hk,e⟩
  have hargs:RdAll (insO g (λ b=>M b/\g≠some b)) w (l.map a.eval) xr:=(hx.all h.st.has).weak λ k _ hk=>(hM k).1 hk
  refine(hfn (λ b=>M b/\g≠some b) g w _ _ (λ b hb=>h.st.mok b ((hM b).1 hb)) (λ b hb hm=>hm.2 hb) ((dtip g e xs).weak (h.st.has s _ hs) λ k _ hk=>(hM k).1 hk) hargs).mono λ en w' ⟨v',g',he,hgr,hg',hlt,hv'⟩=>⟨v',he,?_⟩
  rw[hd];have h1:=h.eff (G':=oneB g') (ZV hg) (Grown.own hg hgr) (λ b hb=>⟨hg'.imp (λ e=>(yl hg b).2 (by rw[← e];exact hb)) λ e=>e b hb,hlt b hb⟩) hk hq;exact hK _ _ (next g' _ _ _ (h1.putO hN hdn ((dtip g' e ys).weak hv' λ k _ hk=>hk.imp (λ h=>⟨h.1,λ e=>h.2 ((yl hg k).2 e)⟩) id) λ b hb=>by rw[zy (ZV hg)];exact hb))
end
structure Stmt where
 kind:Int
 module:Str
 level:Int
 name:Str
 value:Int
deriving DecidableEq,Inhabited
instance:Rep Stmt:=Rep.iso (λ x=>((x.kind,x.module,x.level,x.name,x.value):Int×Str×Int×Str×Int))
theorem Stmt.fld0:Fld (λ x:Stmt=>x.kind) 0:=⟨λ h=>(Fld.fst).sub (α:=Int×Str×Int×Str×Int) h⟩
theorem Stmt.fld1:Fld (λ x:Stmt=>x.module) 1:=⟨λ h=>((Fld.snd Fld.fst)).sub (α:=Int×Str×Int×Str×Int) h⟩
theorem Stmt.set1:FldS (λ(x:Stmt) y=>{ x with module:=y }) 1:=⟨λ h k=>((FldS.snd FldS.fst)).put (α:=Int×Str×Int×Str×Int) h k⟩
theorem Stmt.fld2:Fld (λ x:Stmt=>x.level) 2:=⟨λ h=>((Fld.snd (Fld.snd Fld.fst))).sub (α:=Int×Str×Int×Str×Int) h⟩
theorem Stmt.fld3:Fld (λ x:Stmt=>x.name) 3:=⟨λ h=>((Fld.snd (Fld.snd (Fld.snd Fld.fst)))).sub (α:=Int×Str×Int×Str×Int) h⟩
theorem Stmt.set3:FldS (λ(x:Stmt) y=>{ x with name:=y }) 3:=⟨λ h k=>((FldS.snd (FldS.snd (FldS.snd FldS.fst)))).put (α:=Int×Str×Int×Str×Int) h k⟩
theorem Stmt.fld4:Fld (λ x:Stmt=>x.value) 4:=⟨λ h=>((Fld.snd (Fld.snd (Fld.snd (Fld.snd Fld.id))))).sub (α:=Int×Str×Int×Str×Int) h⟩
theorem Stmt.set4:FldS (λ(x:Stmt) y=>{ x with value:=y }) 4:=⟨λ h k=>((FldS.snd (FldS.snd (FldS.snd (FldS.snd FldS.id))))).put (α:=Int×Str×Int×Str×Int) h k⟩
theorem Stmt.parts{x:Stmt}(h0:Rep.rdc M w c0 x.kind)(h1:Rep.rdc M w c1 x.module)(h2:Rep.rdc M w c2 x.level)(h3:Rep.rdc M w c3 x.name)(h4:Rep.rdc M w c4 x.value):Rep.rdc M w [c0,c1,c2,c3,c4].flatten x:=by
 simp only[List.flatten_cons,List.flatten_nil,List.append_nil];exact⟨c0,_,Z,h0,⟨c1,_,Z,h1,⟨c2,_,Z,h2,⟨c3,_,Z,h3,h4⟩⟩⟩⟩
structure File where
 root:Int
 pkg:Str
 name:Str
 init:Bool
 stamp:Int
 body:List Stmt
deriving DecidableEq,Inhabited
instance:Rep File:=Rep.iso (λ x=>((x.root,x.pkg,x.name,x.init,x.stamp,x.body):Int×Str×Str×Bool×Int×List Stmt))
theorem File.fld0:Fld (λ x:File=>x.root) 0:=⟨λ h=>(Fld.fst).sub (α:=Int×Str×Str×Bool×Int×List Stmt) h⟩
theorem File.fld1:Fld (λ x:File=>x.pkg) 1:=⟨λ h=>((Fld.snd Fld.fst)).sub (α:=Int×Str×Str×Bool×Int×List Stmt) h⟩
theorem File.fld2:Fld (λ x:File=>x.name) 2:=⟨λ h=>((Fld.snd (Fld.snd Fld.fst))).sub (α:=Int×Str×Str×Bool×Int×List Stmt) h⟩
theorem File.fld3:Fld (λ x:File=>x.init) 3:=⟨λ h=>((Fld.snd (Fld.snd (Fld.snd Fld.fst)))).sub (α:=Int×Str×Str×Bool×Int×List Stmt) h⟩
theorem File.fld4:Fld (λ x:File=>x.stamp) 4:=⟨λ h=>((Fld.snd (Fld.snd (Fld.snd (Fld.snd Fld.fst))))).sub (α:=Int×Str×Str×Bool×Int×List Stmt) h⟩
theorem File.fld5:Fld (λ x:File=>x.body) 5:=⟨λ h=>((Fld.snd (Fld.snd (Fld.snd (Fld.snd (Fld.snd Fld.id)))))).sub (α:=Int×Str×Str×Bool×Int×List Stmt) h⟩
theorem File.parts{x:File}(h0:Rep.rdc M w c0 x.root)(h1:Rep.rdc M w c1 x.pkg)(h2:Rep.rdc M w c2 x.name)(h3:Rep.rdc M w c3 x.init)(h4:Rep.rdc M w c4 x.stamp)(h5:Rep.rdc M w c5 x.body):Rep.rdc M w [c0,c1,c2,c3,c4,c5].flatten x:=by
 simp only[List.flatten_cons,List.flatten_nil,List.append_nil];exact⟨c0,_,Z,h0,⟨c1,_,Z,h1,⟨c2,_,Z,h2,⟨c3,_,Z,h3,⟨c4,_,Z,h4,h5⟩⟩⟩⟩⟩
structure Tree where
 files:List File
deriving DecidableEq,Inhabited
instance:Rep Tree:=Rep.iso (λ x=>(x.files:List File))
theorem Tree.fld0:Fld (λ x:Tree=>x.files) 0:=⟨λ h=>(Fld.id).sub (α:=List File) h⟩
theorem Tree.parts{x:Tree}(h0:Rep.rdc M w c0 x.files):Rep.rdc M w [c0].flatten x:=by
 simp only[List.flatten_cons,List.flatten_nil,List.append_nil];exact h0
structure Spec where
 kind:Int
 file:Int
 roots:List Int
deriving DecidableEq,Inhabited
instance:Rep Spec:=Rep.iso (λ x=>((x.kind,x.file,x.roots):Int×Int×List Int))
theorem Spec.fld0:Fld (λ x:Spec=>x.kind) 0:=⟨λ h=>(Fld.fst).sub (α:=Int×Int×List Int) h⟩
theorem Spec.fld1:Fld (λ x:Spec=>x.file) 1:=⟨λ h=>((Fld.snd Fld.fst)).sub (α:=Int×Int×List Int) h⟩
theorem Spec.fld2:Fld (λ x:Spec=>x.roots) 2:=⟨λ h=>((Fld.snd (Fld.snd Fld.id))).sub (α:=Int×Int×List Int) h⟩
theorem Spec.parts{x:Spec}(h0:Rep.rdc M w c0 x.kind)(h1:Rep.rdc M w c1 x.file)(h2:Rep.rdc M w c2 x.roots):Rep.rdc M w [c0,c1,c2].flatten x:=by
 simp only[List.flatten_cons,List.flatten_nil,List.append_nil];exact⟨c0,_,Z,h0,⟨c1,_,Z,h1,h2⟩⟩
structure Dir where
 root:Int
 pkg:Str
 stamp:Int
 names:List Str
deriving DecidableEq,Inhabited
instance:Rep Dir:=Rep.iso (λ x=>((x.root,x.pkg,x.stamp,x.names):Int×Str×Int×List Str))
theorem Dir.fld0:Fld (λ x:Dir=>x.root) 0:=⟨λ h=>(Fld.fst).sub (α:=Int×Str×Int×List Str) h⟩
theorem Dir.fld1:Fld (λ x:Dir=>x.pkg) 1:=⟨λ h=>((Fld.snd Fld.fst)).sub (α:=Int×Str×Int×List Str) h⟩
theorem Dir.fld2:Fld (λ x:Dir=>x.stamp) 2:=⟨λ h=>((Fld.snd (Fld.snd Fld.fst))).sub (α:=Int×Str×Int×List Str) h⟩
theorem Dir.fld3:Fld (λ x:Dir=>x.names) 3:=⟨λ h=>((Fld.snd (Fld.snd (Fld.snd Fld.id)))).sub (α:=Int×Str×Int×List Str) h⟩
theorem Dir.parts{x:Dir}(h0:Rep.rdc M w c0 x.root)(h1:Rep.rdc M w c1 x.pkg)(h2:Rep.rdc M w c2 x.stamp)(h3:Rep.rdc M w c3 x.names):Rep.rdc M w [c0,c1,c2,c3].flatten x:=by
 simp only[List.flatten_cons,List.flatten_nil,List.append_nil];exact⟨c0,_,Z,h0,⟨c1,_,Z,h1,⟨c2,_,Z,h2,h3⟩⟩⟩
structure Disk where
 tree:Tree
 clock:Int
 dirs:List Dir
deriving DecidableEq,Inhabited
instance:Rep Disk:=Rep.iso (λ x=>((x.tree,x.clock,x.dirs):Tree×Int×List Dir))
theorem Disk.fld0:Fld (λ x:Disk=>x.tree) 0:=⟨λ h=>(Fld.fst).sub (α:=Tree×Int×List Dir) h⟩
theorem Disk.fld1:Fld (λ x:Disk=>x.clock) 1:=⟨λ h=>((Fld.snd Fld.fst)).sub (α:=Tree×Int×List Dir) h⟩
theorem Disk.fld2:Fld (λ x:Disk=>x.dirs) 2:=⟨λ h=>((Fld.snd (Fld.snd Fld.id))).sub (α:=Tree×Int×List Dir) h⟩
theorem Disk.parts{x:Disk}(h0:Rep.rdc M w c0 x.tree)(h1:Rep.rdc M w c1 x.clock)(h2:Rep.rdc M w c2 x.dirs):Rep.rdc M w [c0,c1,c2].flatten x:=by
 simp only[List.flatten_cons,List.flatten_nil,List.append_nil];exact⟨c0,_,Z,h0,⟨c1,_,Z,h1,h2⟩⟩
structure Finder where
 dirs:List Dir
 fills:Int
 hits:Int
deriving DecidableEq,Inhabited
instance:Rep Finder:=Rep.iso (λ x=>((x.dirs,x.fills,x.hits):List Dir×Int×Int))
theorem Finder.fld0:Fld (λ x:Finder=>x.dirs) 0:=⟨λ h=>(Fld.fst).sub (α:=List Dir×Int×Int) h⟩
theorem Finder.fld1:Fld (λ x:Finder=>x.fills) 1:=⟨λ h=>((Fld.snd Fld.fst)).sub (α:=List Dir×Int×Int) h⟩
theorem Finder.fld2:Fld (λ x:Finder=>x.hits) 2:=⟨λ h=>((Fld.snd (Fld.snd Fld.id))).sub (α:=List Dir×Int×Int) h⟩
theorem Finder.parts{x:Finder}(h0:Rep.rdc M w c0 x.dirs)(h1:Rep.rdc M w c1 x.fills)(h2:Rep.rdc M w c2 x.hits):Rep.rdc M w [c0,c1,c2].flatten x:=by
 simp only[List.flatten_cons,List.flatten_nil,List.append_nil];exact⟨c0,_,Z,h0,⟨c1,_,Z,h1,h2⟩⟩
structure Compiled where
 root:Int
 module:Str
 init:Bool
 mode:Int
 stamp:Int
 size:Int
 hash:Int
 body:List Stmt
deriving DecidableEq,Inhabited
instance:Rep Compiled:=Rep.iso (λ x=>((x.root,x.module,x.init,x.mode,x.stamp,x.size,x.hash,x.body):Int×Str×Bool×Int×Int×Int×Int×List Stmt))
theorem Compiled.fld0:Fld (λ x:Compiled=>x.root) 0:=⟨λ h=>(Fld.fst).sub (α:=Int×Str×Bool×Int×Int×Int×Int×List Stmt) h⟩
theorem Compiled.fld1:Fld (λ x:Compiled=>x.module) 1:=⟨λ h=>((Fld.snd Fld.fst)).sub (α:=Int×Str×Bool×Int×Int×Int×Int×List Stmt) h⟩
theorem Compiled.fld2:Fld (λ x:Compiled=>x.init) 2:=⟨λ h=>((Fld.snd (Fld.snd Fld.fst))).sub (α:=Int×Str×Bool×Int×Int×Int×Int×List Stmt) h⟩
theorem Compiled.fld3:Fld (λ x:Compiled=>x.mode) 3:=⟨λ h=>((Fld.snd (Fld.snd (Fld.snd Fld.fst)))).sub (α:=Int×Str×Bool×Int×Int×Int×Int×List Stmt) h⟩
theorem Compiled.fld4:Fld (λ x:Compiled=>x.stamp) 4:=⟨λ h=>((Fld.snd (Fld.snd (Fld.snd (Fld.snd Fld.fst))))).sub (α:=Int×Str×Bool×Int×Int×Int×Int×List Stmt) h⟩
theorem Compiled.fld5:Fld (λ x:Compiled=>x.size) 5:=⟨λ h=>((Fld.snd (Fld.snd (Fld.snd (Fld.snd (Fld.snd Fld.fst)))))).sub (α:=Int×Str×Bool×Int×Int×Int×Int×List Stmt) h⟩
theorem Compiled.fld6:Fld (λ x:Compiled=>x.hash) 6:=⟨λ h=>((Fld.snd (Fld.snd (Fld.snd (Fld.snd (Fld.snd (Fld.snd Fld.fst))))))).sub (α:=Int×Str×Bool×Int×Int×Int×Int×List Stmt) h⟩
theorem Compiled.fld7:Fld (λ x:Compiled=>x.body) 7:=⟨λ h=>((Fld.snd (Fld.snd (Fld.snd (Fld.snd (Fld.snd (Fld.snd (Fld.snd Fld.id)))))))).sub (α:=Int×Str×Bool×Int×Int×Int×Int×List Stmt) h⟩
theorem Compiled.parts{x:Compiled}(h0:Rep.rdc M w c0 x.root)(h1:Rep.rdc M w c1 x.module)(h2:Rep.rdc M w c2 x.init)(h3:Rep.rdc M w c3 x.mode)(h4:Rep.rdc M w c4 x.stamp)(h5:Rep.rdc M w c5 x.size)(h6:Rep.rdc M w c6 x.hash)(h7:Rep.rdc M w c7 x.body):Rep.rdc M w [c0,c1,c2,c3,c4,c5,c6,c7].flatten x:=by
 simp only[List.flatten_cons,List.flatten_nil,List.append_nil];exact⟨c0,_,Z,h0,⟨c1,_,Z,h1,⟨c2,_,Z,h2,⟨c3,_,Z,h3,⟨c4,_,Z,h4,⟨c5,_,Z,h5,⟨c6,_,Z,h6,h7⟩⟩⟩⟩⟩⟩⟩
structure GVal where
 kind:Int
 num:Int
deriving DecidableEq,Inhabited
instance:Rep GVal:=Rep.iso (λ x=>((x.kind,x.num):Int×Int))
theorem GVal.fld0:Fld (λ x:GVal=>x.kind) 0:=⟨λ h=>(Fld.fst).sub (α:=Int×Int) h⟩
theorem GVal.fld1:Fld (λ x:GVal=>x.num) 1:=⟨λ h=>((Fld.snd Fld.id)).sub (α:=Int×Int) h⟩
theorem GVal.parts{x:GVal}(h0:Rep.rdc M w c0 x.kind)(h1:Rep.rdc M w c1 x.num):Rep.rdc M w [c0,c1].flatten x:=by
 simp only[List.flatten_cons,List.flatten_nil,List.append_nil];exact⟨c0,_,Z,h0,h1⟩
structure GAttr where
 name:Str
 value:GVal
deriving DecidableEq,Inhabited
instance:Rep GAttr:=Rep.iso (λ x=>((x.name,x.value):Str×GVal))
theorem GAttr.fld0:Fld (λ x:GAttr=>x.name) 0:=⟨λ h=>(Fld.fst).sub (α:=Str×GVal) h⟩
theorem GAttr.fld1:Fld (λ x:GAttr=>x.value) 1:=⟨λ h=>((Fld.snd Fld.id)).sub (α:=Str×GVal) h⟩
theorem GAttr.parts{x:GAttr}(h0:Rep.rdc M w c0 x.name)(h1:Rep.rdc M w c1 x.value):Rep.rdc M w [c0,c1].flatten x:=by
 simp only[List.flatten_cons,List.flatten_nil,List.append_nil];exact⟨c0,_,Z,h0,h1⟩
structure GMod where
 name:Str
 kind:Int
 roots:List Int
 cached:Bool
 done:Bool
 attrs:List GAttr
deriving DecidableEq,Inhabited
instance:Rep GMod:=Rep.iso (λ x=>((x.name,x.kind,x.roots,x.cached,x.done,x.attrs):Str×Int×List Int×Bool×Bool×List GAttr))
theorem GMod.fld0:Fld (λ x:GMod=>x.name) 0:=⟨λ h=>(Fld.fst).sub (α:=Str×Int×List Int×Bool×Bool×List GAttr) h⟩
theorem GMod.fld1:Fld (λ x:GMod=>x.kind) 1:=⟨λ h=>((Fld.snd Fld.fst)).sub (α:=Str×Int×List Int×Bool×Bool×List GAttr) h⟩
theorem GMod.fld2:Fld (λ x:GMod=>x.roots) 2:=⟨λ h=>((Fld.snd (Fld.snd Fld.fst))).sub (α:=Str×Int×List Int×Bool×Bool×List GAttr) h⟩
theorem GMod.fld3:Fld (λ x:GMod=>x.cached) 3:=⟨λ h=>((Fld.snd (Fld.snd (Fld.snd Fld.fst)))).sub (α:=Str×Int×List Int×Bool×Bool×List GAttr) h⟩
theorem GMod.fld4:Fld (λ x:GMod=>x.done) 4:=⟨λ h=>((Fld.snd (Fld.snd (Fld.snd (Fld.snd Fld.fst))))).sub (α:=Str×Int×List Int×Bool×Bool×List GAttr) h⟩
theorem GMod.fld5:Fld (λ x:GMod=>x.attrs) 5:=⟨λ h=>((Fld.snd (Fld.snd (Fld.snd (Fld.snd (Fld.snd Fld.id)))))).sub (α:=Str×Int×List Int×Bool×Bool×List GAttr) h⟩
theorem GMod.parts{x:GMod}(h0:Rep.rdc M w c0 x.name)(h1:Rep.rdc M w c1 x.kind)(h2:Rep.rdc M w c2 x.roots)(h3:Rep.rdc M w c3 x.cached)(h4:Rep.rdc M w c4 x.done)(h5:Rep.rdc M w c5 x.attrs):Rep.rdc M w [c0,c1,c2,c3,c4,c5].flatten x:=by
 simp only[List.flatten_cons,List.flatten_nil,List.append_nil];exact⟨c0,_,Z,h0,⟨c1,_,Z,h1,⟨c2,_,Z,h2,⟨c3,_,Z,h3,⟨c4,_,Z,h4,h5⟩⟩⟩⟩⟩
structure GEvent where
 kind:Int
 name:Str
deriving DecidableEq,Inhabited
instance:Rep GEvent:=Rep.iso (λ x=>((x.kind,x.name):Int×Str))
theorem GEvent.fld0:Fld (λ x:GEvent=>x.kind) 0:=⟨λ h=>(Fld.fst).sub (α:=Int×Str) h⟩
theorem GEvent.fld1:Fld (λ x:GEvent=>x.name) 1:=⟨λ h=>((Fld.snd Fld.id)).sub (α:=Int×Str) h⟩
theorem GEvent.parts{x:GEvent}(h0:Rep.rdc M w c0 x.kind)(h1:Rep.rdc M w c1 x.name):Rep.rdc M w [c0,c1].flatten x:=by
 simp only[List.flatten_cons,List.flatten_nil,List.append_nil];exact⟨c0,_,Z,h0,h1⟩
structure GCmd where
 kind:Int
 name:Str
deriving DecidableEq,Inhabited
instance:Rep GCmd:=Rep.iso (λ x=>((x.kind,x.name):Int×Str))
theorem GCmd.fld0:Fld (λ x:GCmd=>x.kind) 0:=⟨λ h=>(Fld.fst).sub (α:=Int×Str) h⟩
theorem GCmd.fld1:Fld (λ x:GCmd=>x.name) 1:=⟨λ h=>((Fld.snd Fld.id)).sub (α:=Int×Str) h⟩
theorem GCmd.parts{x:GCmd}(h0:Rep.rdc M w c0 x.kind)(h1:Rep.rdc M w c1 x.name):Rep.rdc M w [c0,c1].flatten x:=by
 simp only[List.flatten_cons,List.flatten_nil,List.append_nil];exact⟨c0,_,Z,h0,h1⟩
set_option maxRecDepth 10000
section
theorem eqF_int  {xs:Array Value} {f:Field}   {o:Nat} {i j:Int}  (h : (f.name == "_", f.type, f.offset) = (false, t, o)) (hp : P.plainKey t = true) (ht : P.underlying t = some (.int .i64))
  (hx:xs[o]?=some (.int .i64 i)) (hy:ys[o]?=some (.int .i64 j)):(Op.eqFields (d+1) xs ys (f::fs)).run P w=if i=j then(Op.eqFields (d+1) xs ys fs).run P w else .ok false w:=by
 injection h with h1 h;injection h with h2 h3;subst h2 h3;have hn : f.name ≠ "_" := by simpa using h1
 simp only[Op.eqFields,hn,ne_eq,not_false_eq_true,if_true,Sem.run_bind,run_part_plain w hp hx,run_part_plain w hp hy,Result.andThen_ok,run_equalIn_int w d f.type .i64 .i64 i j ht];by_cases hij:i=j <;> simp[hij]
theorem eqF_str  {xs:Array Value} {f:Field}   {o:Nat} {i j:Str}  (h : (f.name == "_", f.type, f.offset) = (false, t, o)) (hp : P.plainKey t = true) (ht : P.underlying t = some .string)
  (hx:xs[o]?=some (strv i)) (hy:ys[o]?=some (strv j)):(Op.eqFields (d+1) xs ys (f::fs)).run P w=if i=j then(Op.eqFields (d+1) xs ys fs).run P w else .ok false w:=by
 injection h with h1 h;injection h with h2 h3;subst h2 h3;have hn : f.name ≠ "_" := by simpa using h1
 simp only[Op.eqFields,hn,ne_eq,not_false_eq_true,if_true,Sem.run_bind,run_part_plain w hp hx,run_part_plain w hp hy,Result.andThen_ok,strv,run_equalIn_string w d f.type _ _ ht];have e1:(ByteArray.mk ⟨i.l⟩).toList=i.l:=ByteArray.toList_eq (⟨⟨i.l⟩⟩:ByteArray);have e2:(ByteArray.mk ⟨j.l⟩).toList=j.l:=ByteArray.toList_eq (⟨⟨j.l⟩⟩:ByteArray);by_cases hij:i=j
 ·simp[hij]
 ·have:¬ i.l=j.l:=λ h=>hij (Str.ext_iff'.2 h)
  simp[e1,e2,this,hij]
def zbW(P:Program)(t:TypeId):Bool:=
 (match P.underlying t with | some (.struct _)=>true | _=>false)&&!P.stoodInHeld t&&!P.eqGuardType P.depth t&&
 match (P.fieldsOf t).toList.map (fun f => (f.name == "_", f.type, f.offset)) with
 |[(false,a,0),(false,b,1),(false,c,2),(false,d,3),(false,e,4)]=>
  P.plainKey a&&P.plainKey b&&P.plainKey c&&P.plainKey d&&P.plainKey e&&
  (
   match P.underlying a,P.underlying b,P.underlying c,P.underlying d,P.underlying e with
   | some (.int .i64),some .string,some (.int .i64),some .string,some (.int .i64)=>true
   | _,_,_,_,_=>false)
 | _=>false
theorem stmt_cells{cs:List Value}{x:Stmt}(h:Rep.rdc M w cs x):cs=[.int .i64 x.kind,strv x.module,.int .i64 x.level,strv x.name,.int .i64 x.value]:=by
 obtain⟨c1,r1,rfl,h1,c2,r2,rfl,h2,c3,r3,rfl,h3,c4,c5,rfl,h4,h5⟩:=h;rw[h1.1,h2.1,h3.1,h4.1,h5.1];rfl
theorem run_eqStmt(h:zbW P t=true)(x y:Stmt)(w:World):
  (Op.equalIn 10000 t (.agg #[.int .i64 x.kind,strv x.module,.int .i64 x.level,strv x.name,.int .i64 x.value]) (.agg #[.int .i64 y.kind,strv y.module,.int .i64 y.level,strv y.name,.int .i64 y.value])).run P w=.ok (decide (x=y)) w:=by
 unfold zbW at h;simp only[Bool.and_eq_true] at h;obtain⟨⟨⟨h1,h2⟩,_⟩,h4⟩:=h;have hS:P.underlying t=some (.struct (P.fieldsOf t)):=by
  unfold Program.fieldsOf;split at h1
  ·rename_i heq;simp only[heq]
  ·cases h1
 rw[show(10000:Nat)=9999+1 from Z,run_equalIn_agg w 9999 t _ _ hS (by simpa using h2)];generalize (P.fieldsOf t).toList=fs at h4;split at h4
 ·rename_i a b c d e hf;simp only[Bool.and_eq_true] at h4;obtain⟨⟨⟨⟨⟨ka,kb⟩,kc⟩,kd⟩,ke⟩,hu⟩:=h4;split at hu
  ·rename_i ua ub uc ud ue;rcases fs with _ | ⟨f1,_ | ⟨f2,_ | ⟨f3,_ | ⟨f4,_ | ⟨f5,_ | ⟨f6,fs⟩⟩⟩⟩⟩⟩ <;> simp only[List.map_cons,List.map_nil,List.cons.injEq,and_true,reduceCtorEq,and_false] at hf
   obtain⟨g1,g2,g3,g4,g5⟩:=hf;rw[show(9999:Nat)=9998+1 from Z,eqF_int g1 ka ua Z Z,eqF_str g2 kb ub Z Z,eqF_int g3 kc uc Z Z,eqF_str g4 kd ud Z Z,eqF_int g5 ke ue Z Z];obtain⟨x1,x2,x3,x4,x5⟩:=x;obtain⟨y1,y2,y3,y4,y5⟩:=y;simp only[Op.eqFields,Sem.run_pure,Stmt.mk.injEq];by_cases e1:x1=y1 <;> by_cases e2:x2=y2 <;> by_cases e3:x3=y3 <;> by_cases e4:x4=y4 <;> by_cases e5:x5=y5 <;> simp[e1,e2,e3,e4,e5]
  ·cases hu
 ·cases h4
theorem stmt_val{x:Stmt}(h:(dt x).rd M w v):v=.agg #[.int .i64 x.kind,strv x.module,.int .i64 x.level,strv x.name,.int .i64 x.value]:=by
 obtain⟨cs,hr,hv⟩:=h;rw[hv,stmt_cells hr];rfl
variable{look:Nat->Option Dt}
theorem JK{x:Operand}{m n:Stmt}(ho:o.op=.binOp .eql t x y t')(hx:OpdR M look x (dt m))(hy:OpdR M look y (dt n))(ht:zbW P t=true:=by kernel_rfl):OpRel P M look o (dt (decide (m=n))):=
 zF λ a w _ hl=>⟨.bool (decide (m=n)),by
  have hg:P.eqGuardType P.depth t=false:=by
   unfold zbW at ht;simp only[Bool.and_eq_true] at ht;simpa using ht.1.2
  unfold execOp;rw[ho];simp only[stmt_val (hx w a hl),stmt_val (hy w a hl),Sem.run_bind,run_eqGuard_agg w _ _ _ _ _ _ hg,Result.andThen_ok,run_eql_struct,run_eqStmt ht,Sem.run_pure],xz.2 Z⟩
end
section
variable{α β:Type}
theorem all_next{l:List α}{x:α}{p:α->Bool}(hx:l[k]?=some x)(h:(l.take k).all p=true)(hp:p x=true):(l.take (k+1)).all p=true:=by
 rw[List.take_add_one,hx];simp[h,hp]
theorem all_end{l:List α}{p:α->Bool}(hk:l.length<=k)(h:(l.take k).all p=true):l.all p=true:=by
 rwa[List.take_of_length_le hk] at h
theorem all_fail{l:List α}{x:α}{p:α->Bool}(hx:l[k]?=some x)(hp:p x=false):l.all p=false:=by
 rw[List.all_eq_false];exact⟨x,List.mem_of_getElem? hx,by simp[hp]⟩
theorem zbX{l:List α}{x:α}{p:α->Bool}(hx:l[k]?=some x)(h:(l.take k).any p=false)(hp:p x=false):(l.take (k+1)).any p=false:=by
 rw[List.take_add_one,hx];simp[h,hp]
theorem any_end{l:List α}{p:α->Bool}(hk:l.length<=k)(h:(l.take k).any p=false):l.any p=false:=by
 rwa[List.take_of_length_le hk] at h
theorem any_hit{l:List α}{x:α}{p:α->Bool}(hx:l[k]?=some x)(hp:p x=true):l.any p=true:=by
 rw[List.any_eq_true];exact⟨x,List.mem_of_getElem? hx,hp⟩
def xU(p:α->Bool)(l:List α):Int:=match l.findIdx? p with | some i=>(i:Int) | none=>-1
theorem idx_hit{l:List α}{x:α}{p:α->Bool}(h:(l.take k).any p=false)(hx:l[k]?=some x)(hp:p x=true):xU p l=(k:Int):=by
 unfold xU;have:l.findIdx? p=some k:=by
  rw[List.findIdx?_eq_some_iff_getElem];have hk:=(List.getElem?_eq_some_iff.1 hx).1;refine⟨hk,by rw[(List.getElem?_eq_some_iff.1 hx).2];exact hp,λ j hj=>?_⟩;rw[List.any_eq_false] at h;exact h _ (List.mem_take_iff_getElem.2 ⟨j,by omega,Z⟩)
 rw[this]
theorem idx_end{l:List α}{p:α->Bool}(hk:l.length<=k)(h:(l.take k).any p=false):xU p l=-1:=by
 unfold xU;have h':=any_end hk h;have:l.findIdx? p=none:=by
  rw[List.findIdx?_eq_none_iff];intro x hx;rw[List.any_eq_false] at h';simpa using h' x hx
 rw[this]
theorem WO{l:List α}{x:α}{f:β->α->β}{b:β}(hx:l[k]?=some x):(l.take (k+1)).foldl f b=f ((l.take k).foldl f b) x:=by
 rw[List.take_add_one,hx];simp
theorem foldl_end{l:List α}{f:β->α->β}{b:β}(hk:l.length<=k):(l.take k).foldl f b=l.foldl f b:=by
 rw[List.take_of_length_le hk]
theorem map_next{l:List α}{x:α}{f:α->β}(hx:l[k]?=some x):(l.take (k+1)).map f=(l.take k).map f++[f x]:=by
 rw[List.take_add_one,hx];simp
theorem QS{l:List α}{x:α}{p:α->Bool}(hx:l[k]?=some x):(l.take (k+1)).filter p=(l.take k).filter p++(if p x then[x] else[]):=by
 rw[List.take_add_one,hx];simp[List.filter_append,List.filter_cons]
end
def mid(s:Str):Prop:=s.l.length<=1099511627776
def inR(n lo hi:Int):Bool:=cmpI .leq lo n&&cmpI .leq n hi
def low(b:UInt8):Bool:=!(cmpB .lss b (UInt8.ofNat 97)||cmpB .gtr b (UInt8.ofNat 122))
def dot:UInt8:=UInt8.ofNat 46
def zD(s:Str):Bool:=inR s.l.length 1 3&&s.l.all low
def qf(c:UInt8)(st:List Str×Str)(b:UInt8):List Str×Str:=if b == c then(st.1++[st.2],⟨[]⟩) else(st.1,⟨st.2.l++[b]⟩)
def xV(c:UInt8)(l:List UInt8):List Str×Str:=l.foldl (qf c) ([],⟨[]⟩)
def zi(s:Str)(c:UInt8):List Str:=(xV c s.l).1++[(xV c s.l).2]
theorem XS{c x:UInt8}{l:List UInt8}(hx:l[k]?=some x):xV c (l.take (k+1))=qf c (xV c (l.take k)) x:=WO hx
theorem zbs{c x:UInt8}{l:List UInt8}{b:Nat}(hx:l[k]?=some x)(ht:cmpB .eql x c=true)(h2:(xV c (l.take k)).2=⟨(l.take k).drop b⟩):
  (xV c (l.take (k+1))).1=(xV c (l.take k)).1++[⟨(l.take k).drop b⟩]:=by
 rw[XS hx,qf,Ke (by simpa[cmpB] using ht),h2]
theorem split_hit2{c x:UInt8}{l:List UInt8}(hx:l[k]?=some x)(ht:cmpB .eql x c=true)(_hk:k<l.length):
  (xV c (l.take (k+1))).2=⟨(l.take (k+1)).drop (k+1)⟩:=by
 rw[XS hx,qf,Ke (by simpa[cmpB] using ht)];simp
theorem QT{c x:UInt8}{l:List UInt8}(hx:l[k]?=some x)(hf:cmpB .eql x c=false):
  (xV c (l.take (k+1))).1=(xV c (l.take k)).1:=by
 rw[XS hx,qf,Kf (by simpa[cmpB] using hf)]
theorem split_miss2{c x:UInt8}{l:List UInt8}{b:Nat}(hx:l[k]?=some x)(hf:cmpB .eql x c=false)(h2:(xV c (l.take k)).2=⟨(l.take k).drop b⟩)(hb:b<=k)(hk:k<l.length):
  (xV c (l.take (k+1))).2=⟨(l.take (k+1)).drop b⟩:=by
 rw[XS hx,qf,Kf (by simpa[cmpB] using hf),h2,List.take_add_one,hx,List.drop_append_of_le_length (by simp;omega)];rfl
theorem split_end{s:Str}{c:UInt8}{b:Nat}(hk:s.l.length<=k)(h2:(xV c (s.l.take k)).2=⟨(s.l.take k).drop b⟩):
  (xV c (s.l.take k)).1++[⟨s.l.drop b⟩]=zi s c:=by
 rw[List.take_of_length_le hk] at h2 ⊢;rw[zi,h2]
def zf(s:Str):Bool:=(zi s dot).all zD&&cmpI .leq (zi s dot).length 3
def emptyS:Str:=⟨[]⟩
def zx(s:Str):Bool:=decide (s=emptyS)||zf s
def X6(o:Str×Bool)(p:Str):Str×Bool:=(if o.2 then⟨(o.1.l++[46])++p.l⟩ else⟨o.1.l++p.l⟩,true)
def Yk(l:List Str):Str×Bool:=l.foldl X6 (emptyS,false)
def join(l:List Str):Str:=(Yk l).1
def jh(l:List Str):Nat:=(l.map (λ s=>s.l.length+1)).sum
theorem XT(l m:List Str):jh (l++m)=jh l+jh m:=by unfold jh;simp
theorem Zc(l:List Str)(k:Nat):jh (l.take k)<=jh l:=by
 conv=>rhs;rw[← List.take_append_drop k l,XT]
 omega
theorem QU{x:Str}(hx:l[k]?=some x):jh (l.take (k+1))=jh (l.take k)+(x.l.length+1):=by
 rw[List.take_add_one,hx,XT];simp[jh]
theorem J9{x:Str}(hx:l[k]?=some x):Yk (l.take (k+1))=X6 (Yk (l.take k)) x:=WO hx
theorem zbY(hk:k<=l.length):(Yk (l.take k)).2=decide (0<k):=by
 cases k with
 | zero=>rfl
 | succ k=>rw[J9 (List.getElem?_eq_getElem (by omega))];simp[X6]
theorem zbZ{x:Str}(hx:l[k]?=some x)(h:cmpI .gtr (k:Int) 0=true):(Yk (l.take (k+1))).1=⟨((Yk (l.take k)).1.l++[46])++x.l⟩:=by
 have hk:0<k:=by simpa[cmpI] using h
 have:=zG hx;rw[J9 hx,X6,Ke (by rw[zbY (by omega)];simpa using hk)]
theorem zaG{x:Str}(hx:l[k]?=some x)(h:cmpI .gtr (k:Int) 0=false):(Yk (l.take (k+1))).1=⟨(Yk (l.take k)).1.l++x.l⟩:=by
 have hk:¬ 0<k:=by simpa[cmpI] using h
 have:=zG hx;rw[J9 hx,X6,Kf (by rw[zbY (by omega)];simpa using hk)]
theorem join_len(hk:k<=l.length):(Yk (l.take k)).1.l.length<=jh (l.take k):=by
 induction k with
 | zero=>exact Nat.zero_le _
 |succ k ih=>
  have hx:l[k]?=some l[k]:=List.getElem?_eq_getElem (by omega);have:=ih (by omega);rw[QU hx];cases h:cmpI .gtr (k:Int) 0
  ·rw[zaG hx h];simp only[List.length_append];omega
  ·rw[zbZ hx h];simp only[List.length_append,List.length_singleton];omega
theorem join_room{x:Str}(hx:l[k]?=some x):(Yk (l.take k)).1.l.length+1+x.l.length<=jh l:=by
 have h1:=join_len (l:=l) (k:=k) (by have:=zG hx;omega);have h2:=Zc l (k+1);rw[QU hx] at h2;omega
theorem join_end(hk:l.length<=k):(Yk (l.take k)).1=join l:=by rw[List.take_of_length_le hk];rfl
theorem JL(l:List Str):l.length<=jh l:=by
 induction l with
 | nil=>exact Nat.le_refl _
 | cons x l ih=>simp only[jh,List.map_cons,List.sum_cons,List.length_cons] at ih ⊢;omega
theorem splitRun_room(c:UInt8)(l:List UInt8):jh (xV c l).1+(xV c l).2.l.length=l.length:=by
 have key:∀ (l:List UInt8) (st:List Str×Str),jh (l.foldl (qf c) st).1+(l.foldl (qf c) st).2.l.length=jh st.1+st.2.l.length+l.length:=by
  intro l
  induction l with
  | nil=>intro st;rfl
  |cons x l ih=>
   intro st;rw[List.foldl_cons,ih];unfold qf;split
   ·simp only[XT,List.length_cons];simp[jh];omega
   ·simp;omega
 have:=key l ([],⟨[]⟩);simpa[jh,xV] using this
theorem qI(s:Str)(c:UInt8):jh (zi s c)=s.l.length+1:=by
 rw[zi,XT];have:=splitRun_room c s.l;simp only[jh,List.map_cons,List.map_nil,List.sum_cons,List.sum_nil] at this ⊢;omega
theorem X7(s:Str)(c:UInt8):0<(zi s c).length:=by simp[zi]
def zM(s:Str):Str:=join ((zi s dot).take ((zi s dot).length - 1))
def ji(s:Str):Str:=((zi s dot)[(zi s dot).length - 1]?).getD emptyS
theorem last_get(s:Str):(zi s dot)[(zi s dot).length - 1]?=some (ji s):=by
 have:=X7 s dot;rw[ji,List.getElem?_eq_getElem (by omega)];rfl
def child(p s:Str):Str:=if p=emptyS then s else⟨(p.l++[46])++s.l⟩
def jR(l:List Str)(k:Nat):List Str:=(List.range k).map λ i=>join (l.take (i+1))
theorem Jr(l:List Str)(k:Nat):jR l (k+1)=jR l k++[join (l.take (k+1))]:=by unfold jR;rw[List.range_succ];simp
theorem Xk(l:List Str)(k:Nat):(jR l k).length=k:=by simp[jR]
def wi(s:Str):List Str:=jR (zi s dot) (zi s dot).length
def under(s p:Str):Bool:=decide (p=emptyS)||decide (s=p)||(cmpI .gtr s.l.length p.l.length&&decide ((⟨s.l.take (p.l.length+1)⟩:Str)=⟨p.l++[46]⟩))
theorem under_of{s p:Str}:(decide (p=⟨[]⟩)||decide (s=p)||(cmpI .gtr s.l.length p.l.length&&decide ((⟨s.l.take (arI .add p.l.length 1).toNat⟩:Str)=⟨p.l++[46]⟩)))=under s p:=rfl
def textAt(l:List Str)(s:Str):Int:=xU (λ x=>decide (x=s)) l
def zb0(l:List Str)(s:Str):Bool:=cmpI .geq (textAt l s) 0
def intAt(l:List Int)(n:Int):Int:=xU (λ x=>x == n) l
def smStmt(s:Stmt):Prop:=s.module.l.length<=1048576/\s.name.l.length<=1048576
def smFile(f:File):Prop:=f.pkg.l.length<=1048576/\f.name.l.length<=1048576/\f.body.length<=1048576/\∀ s∈f.body,smStmt s
def xw(t:Tree):Prop:=t.files.length<=1048576/\∀ f∈t.files,smFile f
def zX(s:Stmt):Bool:=
 if cmpI .eql s.kind 0=true then zf s.module&&cmpI .eql s.level 0&&decide (s.name=⟨[]⟩)&&cmpI .eql s.value 0
 else if cmpI .eql s.kind 1=true then zx s.module&&inR s.level 0 3&&(decide (s.module≠⟨[]⟩)||cmpI .gtr s.level 0)&&zD s.name&&cmpI .eql s.value 0
 else if cmpI .eql s.kind 2=true then zf s.module&&cmpI .eql s.level 0&&decide (s.name=⟨[]⟩)&&cmpI .eql s.value 0
 else if cmpI .eql s.kind 3=true then decide (s.module=⟨[]⟩)&&cmpI .eql s.level 0&&zD s.name&&inR s.value 0 99
 else if cmpI .eql s.kind 4=true then decide (s.module=⟨[]⟩)&&cmpI .eql s.level 0&&zD s.name&&cmpI .eql s.value 0
 else if cmpI .eql s.kind 5=true then decide (s=⟨5,⟨[]⟩,0,⟨[]⟩,0⟩)
 else false
def jr(b:List Stmt):Bool:=b.all zX&&cmpI .leq b.length 8
def zN(f:File):Str:=if f.init then f.pkg else child f.pkg f.name
def yC(f:File):Bool:=
 if !inR f.root 0 2||!inR f.stamp 0 99||!zx f.pkg||!jr f.body then false
 else if f.init then decide (f.pkg≠emptyS)&&decide (f.name=emptyS)
 else zD f.name&&zf (child f.pkg f.name)
def wC(f g:File):Bool:=f.root == g.root&&decide (f.pkg=g.pkg)&&(f.init == g.init)&&decide (f.name=g.name)
def xB(l:List File)(f:File):Int:=xU (λ x=>wC x f) l
theorem child_le{p s:Str}(h:p.l.length+s.l.length<=1152921504606846975):(child p s).l.length<=1152921504606846976:=by
 unfold child;split
 ·omega
 ·simp only[List.length_append,List.length_singleton];omega
theorem child_mid{p s:Str}(h:p.l.length+s.l.length<=1099511627775):mid (child p s):=by
 unfold child mid;split
 ·omega
 ·simp only[List.length_append,List.length_singleton];omega
def QV(l:List File)(k:Nat):Bool:=match l[k]? with | some f=>!(!yC f||cmpI .lss (xB l f) k) | none=>true
def Js(l:List File)(k:Nat):Bool:=(List.range k).all (QV l)
theorem treeTo_next{l:List File}{x:File}(hx:l[k]?=some x)(h:Js l k=true)(hf:(!yC x||cmpI .lss (xB l x) k)=false):Js l (k+1)=true:=by
 unfold Js at*;rw[List.range_succ,List.all_append,h];simp only[List.all_cons,List.all_nil,Bool.and_true,Bool.true_and,QV,hx,hf];rfl
def zB(t:Tree):Bool:=Js t.files t.files.length&&cmpI .leq t.files.length 12
theorem validTree_bad{t:Tree}{x:File}(hx:t.files[k]?=some x)(h:(!yC x||cmpI .lss (xB t.files x) k)=true):zB t=false:=by
 have:Js t.files t.files.length=false:=by
  unfold Js;rw[List.all_eq_false];exact⟨k,List.mem_range.2 (zG hx),by simp only[QV,hx,h];decide⟩
 rw[zB,this];rfl
theorem validTree_end{t:Tree}(h1:t.files.length<=k)(h2:k<=t.files.length)(h:Js t.files k=true):cmpI .leq t.files.length 12=zB t:=by
 rw[zB,Nat.le_antisymm h1 h2,h];rfl
def QW(root:Int)(p:Str)(f:File):Bool:=f.root == root&&decide (f.pkg≠emptyS)&&under f.pkg p
def Xl(l:List File)(root:Int)(p:Str):Bool:=l.any (QW root p)||decide (p=emptyS)
def zbt(l:List Int)(k:Nat):Bool:=match l[k]? with | some n=>!(!inR n 0 2||cmpI .geq (intAt (l.take k) n) 0) | none=>true
def QX(l:List Int)(k:Nat):Bool:=(List.range k).all (zbt l)
def yk(l:List Int):Bool:=QX l l.length
theorem pathTo_next{l:List Int}{x:Int}(hx:l[k]?=some x)(h:QX l k=true)(hf:(!inR x 0 2||cmpI .geq (intAt (l.take k) x) 0)=false):QX l (k+1)=true:=by
 unfold QX at*;rw[List.range_succ,List.all_append,h];simp only[List.all_cons,List.all_nil,Bool.and_true,Bool.true_and,zbt,hx,hf];rfl
theorem validPath_bad{l:List Int}{x:Int}(hx:l[k]?=some x)(h:(!inR x 0 2||cmpI .geq (intAt (l.take k) x) 0)=true):yk l=false:=by
 unfold yk QX;rw[List.all_eq_false];exact⟨k,List.mem_range.2 (zG hx),by simp only[zbt,hx,h];decide⟩
theorem validPath_end{l:List Int}(h1:l.length<=k)(h2:k<=l.length)(h:QX l k=true):yk l=true:=by
 rw[yk,Nat.le_antisymm h1 h2,h]
def jS(l:List Str)(s:Str):Nat->Nat
 | 0=>0
 |k+1=>match l[k]? with
  | some y=>if cmpS .gtr y s=true then jS l s k else k+1
  | none=>k+1
def x8(l:List Str)(s:Str):List Str:=if zb0 l s=true then l else(l.take (jS l s l.length)++[s])++l.drop (jS l s l.length)
theorem insGet(hk:k<=l.length):∃ y,0<k->l[k - 1]?=some y:=by
 by_cases h:0<k
 ·exact⟨l[k - 1]'(by omega),λ _=>List.getElem?_eq_getElem (by omega)⟩
 ·exact⟨default,λ h'=>absurd h' h⟩
theorem gtz(h:(cmpI .gtr (k:Int) 0&&b)=true):0<k:=by
 have:=oD (and_l h);omega
theorem gtz'(h:(cmpI .gtr (k:Int) 0 == true)=true):0<k:=by
 have:=oD (eq_of_beq h);omega
theorem insPos_down{s y:Str}(hy:0<k->l[k - 1]?=some y)(h:(cmpI .gtr (k:Int) 0&&cmpS .gtr y s)=true):jS l s (k - 1)=jS l s k:=by
 have hk:=gtz h;obtain⟨j,rfl⟩:∃ j,k=j+1:=⟨k - 1,by omega⟩;have:=hy hk;rw[Nat.add_sub_cancel] at this ⊢;rw[jS,this];simp only[Bool.and_eq_true] at h;simp[h.2]
theorem insPos_stop{s y:Str}(hy:0<k->l[k - 1]?=some y)(h:(cmpI .gtr (k:Int) 0&&cmpS .gtr y s)=false):jS l s k=k:=by
 cases k with
 | zero=>rfl
 |succ j=>have:=hy (by omega);rw[Nat.add_sub_cancel] at this;rw[jS,this];have h2:cmpI .gtr ((j+1:Nat):Int) 0=true:=decide_eq_true (by omega);rw[h2,Bool.true_and] at h;simp[h]
theorem zdz(l:List Str)(s:Str):(x8 l s).length<=l.length+1:=by
 unfold x8;split
 ·omega
 ·simp only[List.length_append,List.length_take,List.length_drop,List.length_singleton];omega
theorem za2(m l:List Str):(m.foldl x8 l).length<=l.length+m.length:=by
 induction m generalizing l with
 | nil=>exact Nat.le_refl _
 |cons x m ih=>have:=ih (x8 l x);have:=zdz l x;rw[List.foldl_cons,List.length_cons];omega
def Zd(l:List File):List Str:=l.foldl (λ out f=>(wi (zN f)).foldl x8 out) []
def names(t:Tree):List Str:=Zd t.files
theorem za3{l:List File}{x:File}(hx:l[k]?=some x):Zd (l.take (k+1))=(wi (zN x)).foldl x8 (Zd (l.take k)):=WO hx
theorem zbu{f:File}(h:smFile f):(zN f).l.length<=2097153:=by
 have h1:=h.1;have h2:=h.2.1;unfold zN child;split
 ·omega
 ·split
  ·omega
  ·simp only[List.length_append,List.length_singleton];omega
theorem module_mid{f:File}(h:smFile f):mid (zN f):=by
 have:=zbu h;unfold mid;omega
theorem zdA{f:File}(h:smFile f):(wi (zN f)).length<=4194000:=by
 have h1:=zbu h;have h2:=JL (zi (zN f) dot);rw[qI] at h2;rw[wi,Xk];omega
def Wg:Spec:=⟨0,-1,[]⟩
theorem zaH{l:List α}{x:α}(hx:l[k]?=some x):l.drop k=x::l.drop (k+1):=by
 have hk:=zG hx;rw[List.drop_eq_getElem_cons hk];rw[List.getElem?_eq_getElem hk] at hx;injection hx with hx;rw[hx]
def wR(t:List File)(p s:Str):List Int->List Int->Spec
 | acc,[]=>if cmpI .gtr acc.length 0=true then⟨3,-1,acc⟩ else Wg
 |acc,r::rs=>
  if(Xl t r (child p s)&&cmpI .geq (xB t ⟨r,child p s,⟨[]⟩,true,0,[]⟩) 0)=true then⟨2,xB t ⟨r,child p s,⟨[]⟩,true,0,[]⟩,[r]⟩
  else if cmpI .geq (xB t ⟨r,p,s,false,0,[]⟩) 0=true then⟨1,xB t ⟨r,p,s,false,0,[]⟩,[]⟩
  else wR t p s (if Xl t r (child p s)=true then acc++[r] else acc) rs
def jE(t:List File)(roots:List Int)(p s:Str):Spec:=wR t p s [] roots
theorem Je(t:List File)(p s:Str):∀ (rs acc:List Int),(wR t p s acc rs).roots.length<=acc.length+rs.length
 |[],acc=>by
  unfold wR;split
  ·exact Nat.le_refl _
  ·exact Nat.zero_le _
 |r::rs,acc=>by
  unfold wR;split
  ·simp;omega
  ·split
   ·simp
   ·refine Nat.le_trans (Je t p s rs _) ?_;split <;> simp <;> omega
def Ze(t:List File)(list:List Str):Nat->Spec->List Str->Spec
 | _,out,[]=>out
 | k,out,x::xs=>if(cmpI .neq out.kind 2&&cmpI .neq out.kind 3)=true then Wg else Ze t list (k+1) (jE t out.roots (join (list.take k)) x) xs
def find(t:List File)(path:List Int)(s:Str):Spec:=Ze t (zi s dot) 0 ⟨3,-1,path⟩ (zi s dot)
theorem join_le(l:List Str)(k:Nat):(join (l.take k)).l.length<=jh l:=by
 have h:=join_len (l:=l.take k) (k:=(l.take k).length) (Nat.le_refl _);rw[List.take_of_length_le (Nat.le_refl _)] at h;exact Nat.le_trans h (Zc l k)
theorem part_le{x:Str}(hx:l[k]?=some x):x.l.length<=jh l:=by
 have h:=Zc l (k+1);rw[QU hx] at h;omega
theorem idxOf_lt(p:α->Bool)(l:List α):xU p l<l.length:=by
 unfold xU;cases h:l.findIdx? p with
 | none=>have:(0:Int)<=l.length:=Int.natCast_nonneg _;simp only;omega
 | some i=>obtain⟨hi,_⟩:=List.findIdx?_eq_some_iff_getElem.1 h;simp only;omega
theorem zb1(t:List File)(p s:Str):∀ (rs acc:List Int),(wR t p s acc rs).file<t.length
 |[],acc=>by
  have h0:(0:Int)<=t.length:=Int.natCast_nonneg _;unfold wR;split
  ·show(-1:Int)<_;omega
  ·show(-1:Int)<_;omega
 |r::rs,acc=>by
  unfold wR;split
  ·exact idxOf_lt _ _
  ·split
   ·exact idxOf_lt _ _
   ·exact zb1 t p s rs _
theorem zdB{s x:Str}(h:x∈x8 l s):x∈l\/x=s:=by
 unfold x8 at h;split at h
 ·exact .inl h
 ·simp only[List.mem_append,List.mem_singleton] at h;rcases h with(h | h) | h
  ·exact .inl (List.mem_of_mem_take h)
  ·exact .inr h
  ·exact .inl (List.mem_of_mem_drop h)
theorem insertAll_mem{m:List Str}{x:Str}(h:x∈m.foldl x8 l):x∈l\/x∈m:=by
 induction m generalizing l with
 | nil=>exact .inl h
 |cons y m ih=>
  rcases ih h with h | h
  ·rcases zdB h with h | h
   ·exact .inl h
   ·exact .inr (by simp[h])
  ·exact .inr (by simp[h])
theorem above_mem{s x:Str}(h:x∈wi s):x.l.length<=s.l.length+1:=by
 unfold wi jR at h;rw[List.mem_map] at h;obtain⟨i,_,rfl⟩:=h;have:=join_le (zi s dot) (i+1);rwa[qI] at this
theorem namesRun_mem{l:List File}(hl:∀ f∈l,smFile f):∀ x∈Zd l,x.l.length<=4194000:=by
 have key:∀ (l:List File) (out:List Str),(∀ f∈l,smFile f)->(∀ x∈out,x.l.length<=4194000)->∀ x∈l.foldl (λ out f=>(wi (zN f)).foldl x8 out) out,x.l.length<=4194000:=by
  intro l
  induction l with
  | nil=>intro out _ h;exact h
  |cons f l ih=>
   intro out hl h;rw[List.foldl_cons];refine ih _ (λ g hg=>hl g (by simp[hg])) λ x hx=>?_
   rcases insertAll_mem hx with hx | hx
   ·exact h x hx
   ·have h1:=above_mem hx;have h2:=zbu (hl f (by simp));omega
 exact key l [] hl (λ x hx=>by cases hx)
theorem names_mid{t:Tree}(ht:xw t):∀ x∈names t,mid x:=λ x hx=>by
 have:=namesRun_mem ht.2 x hx;unfold mid;omega
theorem namesRun_len{l:List File}(hl:∀ f∈l,smFile f):(Zd l).length<=l.length*4194000:=by
 have key:∀ (l:List File) (out:List Str),(∀ f∈l,smFile f)->(l.foldl (λ out f=>(wi (zN f)).foldl x8 out) out).length<=out.length+l.length*4194000:=by
  intro l
  induction l with
  | nil=>intro out _;simp
  |cons f l ih=>intro out hl;rw[List.foldl_cons];have h1:=ih ((wi (zN f)).foldl x8 out) (λ g hg=>hl g (by simp[hg]));have h2:=za2 (wi (zN f)) out;have h3:=zdA (hl f (by simp));rw[List.length_cons];omega
 simpa[Zd] using key l [] hl
theorem zcT{t:Tree}(ht:xw t):(names t).length<=4397727744000:=by
 have h1:=namesRun_len ht.2;have h2:=ht.1;unfold names;omega
def Xm(t:List File)(path:List Int)(n:Str):Bool:=cmpI .neq (find t path n).kind 0
def qJ(t:Tree)(path:List Int):List Str:=if(!zB t||!yk path)=true then[] else(names t).filter (Xm t.files path)
theorem get_def[Inhabited α]{l:List α}{n:Int}(h0:0<=n)(h:n<l.length):l[n.toNat]?=some ((l[n.toNat]?).getD default):=by
 have:n.toNat<l.length:=by omega
 rw[List.getElem?_eq_getElem this];rfl
def wD:List Value:=[.int .i64 0]
def zInt:Int:=0
theorem qv(M:Nat->Prop)(w:World):Rep.rdc M w wD zInt:=⟨Z,trivial⟩
def Qa:List Value:=[.bool false]
def zBool:Bool:=false
theorem zbv(M:Nat->Prop)(w:World):Rep.rdc M w Qa zBool:=⟨Z,trivial⟩
def Xn:List Value:=[.string ⟨⟨[]⟩⟩]
def zStr:Str:=⟨[]⟩
theorem Jf(M:Nat->Prop)(w:World):Rep.rdc M w Xn zStr:=qt
def wJ:List Value:=[.slice none 0 0]
theorem zrLst[Rep α](M:Nat->Prop)(w:World):Rep.rdc M w wJ ([]:List α):=Y7
def zcStmt:List Value:=[wD,Xn,wD,Xn,wD].flatten
def zStmt:Stmt:=⟨zInt,zStr,zInt,zStr,zInt⟩
theorem QY(M:Nat->Prop)(w:World):Rep.rdc M w zcStmt zStmt:=Stmt.parts (qv M w) (Jf M w) (qv M w) (Jf M w) (qv M w)
def zbw:List (List Value):=[wD,Xn,wD,Xn,wD]
def zcFile:List Value:=[wD,Xn,Xn,Qa,wD,wJ].flatten
def zFile:File:=⟨zInt,zStr,zStr,zBool,zInt,[]⟩
theorem zbx(M:Nat->Prop)(w:World):Rep.rdc M w zcFile zFile:=File.parts (qv M w) (Jf M w) (Jf M w) (zbv M w) (qv M w) (zrLst M w)
def zpFile:List (List Value):=[wD,Xn,Xn,Qa,wD,wJ]
def zby:List Value:=[wJ].flatten
def XE:Tree:=⟨[]⟩
theorem zrTree(M:Nat->Prop)(w:World):Rep.rdc M w zby XE:=Tree.parts (zrLst M w)
def zcU:List (List Value):=[wJ]
def zcSpec:List Value:=[wD,wD,wJ].flatten
def Wn:Spec:=⟨zInt,zInt,[]⟩
theorem WP(M:Nat->Prop)(w:World):Rep.rdc M w zcSpec Wn:=Spec.parts (qv M w) (qv M w) (zrLst M w)
def zcV:List (List Value):=[wD,wD,wJ]
def zcDir:List Value:=[wD,Xn,wD,wJ].flatten
def zDir:Dir:=⟨zInt,zStr,zInt,[]⟩
def zcDisk:List Value:=[zby,wD,wJ].flatten
def YA:Disk:=⟨XE,zInt,[]⟩
theorem zrDisk(M:Nat->Prop)(w:World):Rep.rdc M w zcDisk YA:=Disk.parts (zrTree M w) (qv M w) (zrLst M w)
def zcFinder:List Value:=[wJ,wD,wD].flatten
def Jg:Finder:=⟨[],zInt,zInt⟩
theorem zrFinder(M:Nat->Prop)(w:World):Rep.rdc M w zcFinder Jg:=Finder.parts (zrLst M w) (qv M w) (qv M w)
def zcCompiled:List Value:=[wD,Xn,Qa,wD,wD,wD,wD,wJ].flatten
def zCompiled:Compiled:=⟨zInt,zStr,zBool,zInt,zInt,zInt,zInt,[]⟩
def zcGVal:List Value:=[wD,wD].flatten
def zGVal:GVal:=⟨zInt,zInt⟩
theorem Qb(M:Nat->Prop)(w:World):Rep.rdc M w zcGVal zGVal:=GVal.parts (qv M w) (qv M w)
def zpGVal:List (List Value):=[wD,wD]
def zcGAttr:List Value:=[Xn,zcGVal].flatten
def zGAttr:GAttr:=⟨zStr,zGVal⟩
theorem zrGAttr(M:Nat->Prop)(w:World):Rep.rdc M w zcGAttr zGAttr:=GAttr.parts (Jf M w) (Qb M w)
def zpGAttr:List (List Value):=[Xn,zcGVal]
def zcGMod:List Value:=[Xn,wD,wJ,Qa,Qa,wJ].flatten
def zGMod:GMod:=⟨zStr,zInt,[],zBool,zBool,[]⟩
def zpGMod:List (List Value):=[Xn,wD,wJ,Qa,Qa,wJ]
def zcGEvent:List Value:=[wD,Xn].flatten
def zGEvent:GEvent:=⟨zInt,zStr⟩
theorem zrGEvent(M:Nat->Prop)(w:World):Rep.rdc M w zcGEvent zGEvent:=GEvent.parts (qv M w) (Jf M w)
def zpGEvent:List (List Value):=[wD,Xn]
def zpGCmd:List (List Value):=[wD,Xn]
section
variable{fn:Func}{p:Nat}
theorem Sx.csF{c:Nat}{x z:Code}(h:Sx F N M0 M Gs L O a w)(hl:L.lookup c=some (dt false))(hf:z.wp P Q a w):(Code.cond (.tmp c) x z).wp P Q a w:=
 zJ h.st (xm hl) (λ hb=>by cases hb) (λ _=>hf)
theorem Sx.storeT{α:Type}[Rep α]{t q:Nat}{xs r:List α}{i:Int}{y y0:α}(h:Sx F N M0 M Gs L O a w)(p:Nat)(ho:o.op=.store t (.tmp q) vo)(hgd:o.guard=none)(hd:o.dst=none)
  (ht:tyB P t (Rep.agg α) (Rep.size α)=true) (hg:Gs[p]?=some (oneB g)) (hpl:(L++envO O).lookup q=some (dbox g (i.toNat*Rep.size α) y0)) (hvl:OpdR M (λ s=>(L++envO O).lookup s) vo (dt y)) (hsl:(L++envO O).lookup sb=some (dtip g e xs)) (hm:setO xs i y=some r)
  (ks:List Nat) (hk:selP ks L=some L2) (qs:List Nat) (hq:selR L O qs p=some O2) (hdn:L2.lookup sb=none)
  (next:∀ M' w',Sx F N M0 M' Gs L2 ((sb,p,dtip g e r)::O2) a w'->wpList P ops Q rest a w'):wpList P ops Q (o::rest) a w:=by
 unfold setO at hm;split at hm
 ·rename_i hi;injection hm with hm;subst hm;obtain⟨b,rfl,hpv,_⟩:=h.st.has q _ hpl;have hMb:=(h.ob.at_ p b ((yl hg b).2 Z)).2.1;obtain⟨cells,hown,hrow,hb⟩:=Or.resolve_right (h.st.has sb _ hsl) (λ h=>by cases h.1);rcases hown.2 with⟨h1,h2⟩ | ⟨b',cap,cur,h1,_,h3,h4,h5,h6,h7⟩
  ·omega
  have hbb:b'=b:=by rw[h1] at hb;injection hb
  subst hbb;have hy:=XH (hvl w a λ s y hs=>h.st.has s y hs);have hcl:=Rep.len hy;generalize hkk:i.toNat=k at*;have hb1:(k+1)*Rep.size α<=xs.length*Rep.size α:=Nat.mul_le_mul_right _ hi.2;have hb2:xs.length*Rep.size α<=cap*Rep.size α:=Nat.mul_le_mul_right _ h4;have hb3:(k+1)*Rep.size α=k*Rep.size α+Rep.size α:=Nat.succ_mul ..;have hcell:=hown.1;have hrun:=jz (P:=P) (w:=w) (t:=t) (off:=k*Rep.size α) (cs:=(a.eval vo).cells.toList) (by rw[hcl];exact ht) Z h3 (by omega) (Rep.oneCell hy);generalize hcc:(a.eval vo).cells.toList=c at*;have hgr:w.grownBy (w.setRow b' (cur.toList.take (k*Rep.size α)++c++cur.toList.drop (k*Rep.size α+c.length)).toArray) (some b'):=jQ;refine wpList_plain hgd λ K hK=>OpOut.wp (OpOut.of_skip (w':=w.setRow b' (cur.toList.take (k*Rep.size α)++c++cur.toList.drop (k*Rep.size α+c.length)).toArray) ?_ ?_)
  ·unfold execOp;rw[ho];have hpv':a.eval (.tmp q)=.pointer (some ⟨b',k*Rep.size α,none⟩):=hpv;simp only[Instr.storeAt,Instr.sureAddr,hpv',Sem.run_bind,Sem.run_pure,Result.andThen_ok,hrun]
  ·rw[hd];have h1':=h.eff (G':=oneB (some b')) (ZV hg) (Grown.own hg hgr) (λ k (hk:some b'=some k)=>by injection hk with hk;subst hk;exact⟨.inl ((yl hg b').2 Z),Nat.lt_of_lt_of_le (wP h3) hgr.size⟩) hk hq;have hGs:Gs.set p (oneB (some b'))=Gs:=by
    apply List.ext_getElem?;intro n;by_cases hn:p=n
    ·subst hn;rw[List.getElem?_set_self (ZV hg),hg]
    ·rw[List.getElem?_set_ne hn]
   rw[hGs] at h1';refine hK _ _ (next _ _ (h1'.addO hdn ?_ λ k (hk:some b'=some k)=>(yl hg k).2 hk));have hMM:∀ k,insO (some b') M k->M k:=λ k hk=>hk.elim id λ e=>by injection e with e;subst e;exact hMb
   have hrow':rowR (insO (some b') M) w (cells.take (k*Rep.size α)++c++cells.drop (k*Rep.size α+c.length)) (xs.set k y):=by
    refine jJ (λ k _ hk=>hMM k hk) ?_;rw[List.set_eq_take_append_cons_drop,Ke hi.2,show xs.take k++y::xs.drop (k+1)=xs.take k++[y]++xs.drop (k+1) by simp,hcl,← hb3];exact Z2 (Z2 (zaD k (by omega) hrow) (zbO hy)) (zaC (k+1) hi.2 hrow)
   refine .inl ⟨_,⟨?_,.inr ⟨b',cap,_,by rw[List.length_set];exact h1,Nat.zero_le _,setRow_heap w b' cur _ e (0,0) h3,by rw[List.length_set];exact h4,h5,?_,?_⟩⟩,jJ (λ k _ hk=>hk.elim (λ h=>.inl h.1) .inr) (Ws hrow' hgr (.inl Z)),hb⟩
   ·rw[List.length_set];simp;omega
   ·simp;omega
   ·rw[List.length_set];rw[← h7];exact take_put (l:=cur.toList) (c:=c) (off:=k*Rep.size α) (n:=xs.length*Rep.size α) (by have e1:cur.toList.length=cur.size:=Array.length_toList;omega) (by rw[hcl];omega)
 ·cases hm
theorem fnxT{α:Type}[Rep α]{f:FuncId}{xs:List α}{y:List α}(p n:Nat)(hf:P.funcs[f]?=some fn)(hb:fn.body=some c)(hn:rs.length+1<=fn.ntmps)(hnb:Jd (z9 1 rs)=true)
  (h:∀ (M:Nat->Prop) (g:Option Nat) (w:World) (a:Act),Sx (Frm.take w g) fn.ntmps M (insO g M) ((List.replicate n (oneB none)).set p (oneB g)) (z9 1 rs) [(0,p,dtip g e xs)] a w->c.wp P (bodyPost P fn (RetT e M w g y)) a w) (hp:p<n:=by decide):zbr P f e xs rs y:=by
 refine zec hf hb hn λ M g w a htip hm st=>h M g w a ?_
 have hlen:p<(List.replicate n (oneB none)).length:=by simpa using hp
 have hown:∀ q b,zp ((List.replicate n (oneB none)).set p (oneB g)) q b ↔ q=p/\g=some b:=λ q b=>by
  by_cases hq:p=q
  ·subst hq;rw[zy hlen];simp[oneB]
  ·rw[zE hq];exact⟨λ h=>(QR h).elim,λ h=>(hq h.1.symm).elim⟩
 refine⟨st.env λ s x hx=>?_,⟨λ b hb=>.inl hb,λ q b hb=>?_,λ q r b hne h1 h2=>hne (((hown q b).1 h1).1.trans ((hown r b).1 h2).1.symm)⟩,WN hnb,⟨λ b hb=>(hown p b).2 ⟨Z,hb⟩,trivial⟩⟩
 ·have hk:∀ (i:Nat) (rs:List Dt) (s:Nat) (x:Dt),(z9 i rs).lookup s=some x->i<=s:=λ i rs=>by
   induction rs generalizing i with
   | nil=>intro s x h;simp[z9] at h
   |cons y rs ih=>
    intro s x h;simp only[z9,List.lookup_cons] at h;by_cases he:s=i
    ·omega
    ·have hb:(s == i)=false:=by simpa using he
     simp only[hb] at h;have:=ih (i+1) s x h;omega
  simp only[z9,List.lookup_cons];rcases yF hx with h1 | ⟨_,h1⟩
  ·have:=hk _ _ _ _ h1;have hb:(s == 0)=false:=by simpa using(by omega:¬ s=0)
   simp only[hb];exact h1
  ·simp only[envO,List.lookup_cons,List.lookup_nil] at h1;cases hb:s == 0 with
   | true=>simp only[hb] at h1;exact h1
   | false=>simp only[hb] at h1;cases h1
 ·obtain⟨rfl,hb'⟩:=(hown q b).1 hb;exact⟨(htip b hb').1,.inr hb',(htip b hb').2⟩
def dnilf:Dt where
 rd _ _ v:=v=.nilFunc
 own:=noB
 nb:=true
 nob _ _ h:=h
 stable h _:=h
 weak h _:=h
def isFn(P:Program)(t:TypeId):Bool:=match P.underlying t with | some (.func _ _ _)=>true | _=>false
theorem isFn_spec(h:isFn P t=true):∃ a b c,P.underlying t=some (.func a b c):=by
 unfold isFn at h;split at h
 ·exact⟨_,_,_,by assumption⟩
 ·cases h
theorem cNil{look:Nat->Option Dt}:OpdR M look (.const .nilFunc) dnilf:=λ _ _ _=>Z
theorem xNeNil{look:Nat->Option Dt}{x:Operand}(ho:o.op=.binOp .neq t x y t')(ht:isFn P t=true)(hx:OpdR M look x dnilf)(hy:OpdR M look y dnilf):OpRel P M look o (dt false):=
 zF λ a w _ hl=>⟨.bool false,by
  obtain⟨f1,f2,f3,hf⟩:=isFn_spec ht;have h1:a.eval x=.nilFunc:=hx w a hl;have h2:a.eval y=.nilFunc:=hy w a hl;have he:(Op.equal t .nilFunc .nilFunc).run P w=.ok true w:=by
   unfold Op.equal Op.maxDepth;rw[show(10000:Nat)=9999+1 from Z,Op.equalIn];simp only[Sem.run_bind,run_underlying hf,Result.andThen_ok,Sem.run_pure]
  unfold execOp;rw[ho];simp[h1,h2,eqGuard,binOp,he],xz.2 Z⟩
def divO(m n:Int):Option Int:=if n=0\/m.tdiv n < -9223372036854775808\/9223372036854775807<m.tdiv n then none else some (m.tdiv n)
def modO(m n:Int):Option Int:=if n=0 then none else some (m.tmod n)
section
variable{look:Nat->Option Dt}
theorem xDiv{x:Operand}{n:Int}(ho:o.op=.binOp .quo t x y t')(hx:OpdR M look x (dt m))(hy:OpdR M look y (dt n))(hm:divO m n=some r):OpRel P M look o (dt r):=
 zF λ a w _ hl=>⟨.int .i64 r,by
  have h1:=yn.1 (hx w a hl);have h2:=yn.1 (hy w a hl);unfold divO at hm;split at hm
  ·cases hm
  ·rename_i hc;injection hm with hm;have hw:=zbR (m.tdiv n) (by omega);have h0:¬ n=0:=λ e=>hc (.inl e)
   unfold execOp;rw[ho];subst hm;simp[h1,h2,eqGuard,binOp,Op.intDiv,h0,hw],yn.2 Z⟩
theorem xMod{x:Operand}{n:Int}(ho:o.op=.binOp .rem t x y t')(hx:OpdR M look x (dt m))(hy:OpdR M look y (dt n))(hm:modO m n=some r):OpRel P M look o (dt r):=
 zF λ a w _ hl=>⟨.int .i64 r,by
  have h1:=yn.1 (hx w a hl);have h2:=yn.1 (hy w a hl);unfold modO at hm;split at hm
  ·cases hm
  ·rename_i h0;injection hm with hm;unfold execOp;rw[ho];simp[h1,h2,eqGuard,binOp,Op.intDiv,h0,hm],yn.2 Z⟩
theorem xMin{x:Operand}{n:Int}(ho:o.op=.call { callee:=.builtin .min,args:=#[x,y],argTypes:=ts })(hx:OpdR M look x (dt m))(hy:OpdR M look y (dt n)):OpRel P M look o (dt (if n<m then n else m)):=
 zF λ a w _ hl=>⟨.int .i64 (if n<m then n else m),by
  have h1:=yn.1 (hx w a hl);have h2:=yn.1 (hy w a hl);unfold execOp;rw[ho];simp[resolve,invoke,builtin,Builtin.min_,Builtin.min2,h1,h2],yn.2 Z⟩
end
end
def WQ:Dt where
 rd _ _ _:=True
 own:=noB
 nb:=true
 nob _ _ h:=h
 stable _ _:=trivial
 weak _ _:=trivial
inductive RegL (P:Program) (M:Nat->Prop) (ops:Array Oper) (N:Nat) (S:List (List (Nat×Option Nat))) (L:Env) (D:List Dt) (s:Nat):Nat->List Oper->List (Nat×Dt)->Prop
 | nil {i:Nat}:RegL P M ops N S L D s i [] []
 | cons {i:Nat} {o:Oper} {rest:List Oper} {x:Dt} {xs:List (Nat×Dt)} {d:Nat} (hi:(i == s)=false) (hd:o.dst=some d) (hN:d<N) (hx:D[i]?=some x) (h:OpG P M ops N (jG (S.getD i []) L D) o x)
   (hr:RegL P M ops N S L D s (i+1) rest xs):RegL P M ops N S L D s i (o::rest) ((d,x)::xs)
 | late {i:Nat} {o:Oper} {rest:List Oper} {xs:List (Nat×Dt)} (hi:(i == s)=true) (hr:RegL P M ops N S L D s (i+1) rest xs):RegL P M ops N S L D s i (o::rest) ((N,WQ)::xs)
section
variable{T:List (List Nat)}
theorem RegL.get:∀ {i0:Nat} {l:List Oper} {xs:List (Nat×Dt)},RegL P M ops N S L D s i0 l xs->
  l.length=xs.length/\∀ (n:Nat) (o:Oper),l[n]?=some o->i0+n≠s->∃ x d,xs[n]?=some (d,x)/\o.dst=some d/\d<N/\D[i0+n]?=some x/\OpG P M ops N (jG (S.getD (i0+n) []) L D) o x:=by
 intro i0 l xs h
 induction h with
 | nil=>exact⟨Z,λ n o h=>by simp at h⟩
 |cons hi hd hN hx h hr ih=>
  rename_i i o rest x xs d;refine⟨by simp[ih.1],λ n o' ho' hne=>?_⟩;cases n with
  |zero=>simp at ho';subst ho';exact⟨x,d,by simp,hd,hN,hx,h⟩
  |succ n=>simp at ho';obtain⟨x',d',h1,h2,h3,h4,h5⟩:=ih.2 n o' ho' (by omega);exact⟨x',d',by simpa using h1,h2,h3,by rw[← h4];congr 1;omega,by rw[show i+(n+1)=i+1+n by omega];exact h5⟩
 |late hi hr ih=>
  rename_i i o rest xs;refine⟨by simp[ih.1],λ n o' ho' hne=>?_⟩;cases n with
  | zero=>exact absurd (by simpa using hi) hne
  |succ n=>simp at ho';obtain⟨x',d',h1,h2,h3,h4,h5⟩:=ih.2 n o' ho' (by omega);exact⟨x',d',by simpa using h1,h2,h3,by rw[← h4];congr 1;omega,by rw[show i+(n+1)=i+1+n by omega];exact h5⟩
section
theorem lc(hh:opH o N=some d)(hi:(i == s)=false)(hx:D[i]?=some x)(h:OpRel P M (jG (S.getD i []) L D) o x)(hr:RegL P M ops N S L D s (i+1) rest xs):RegL P M ops N S L D s i (o::rest) ((d,x)::xs):=
 .cons hi (ya hh).2.1 (ya hh).2.2 hx (.plain (ya hh).1 h) hr
theorem lg{e:Nat}(hh:opG o N ops=some (d,e,j,want))(hi:(i == s)=false)(hb:jG (S.getD i []) L D e=some (dt b))(hx:D[i]?=some (Dt.grd (b == want) x))(h:(b == want)=true->OpRel P M (jG (S.getD i []) L D) o x)(hr:RegL P M ops N S L D s (i+1) rest xs):RegL P M ops N S L D s i (o::rest) ((d,Dt.grd (b == want) x)::xs):=
 .cons hi (yz hh).2.1 (yz hh).2.2.2.1 hx (.guarded (yz hh).1 (yz hh).2.2.1 (yz hh).2.2.2.2 hb zC h) hr
theorem ll(hi:(i == s)=true)(hr:RegL P M ops N S L D s (i+1) rest xs):RegL P M ops N S L D s i (o::rest) ((N,WQ)::xs):=.late hi hr
end
def nbS(C:List (Nat×Option Nat))(L:Env)(D:List Dt):Bool:=C.all λ q=>match jG C L D q.1 with
 | some y=>y.nb
 | none=>true
theorem nbS_spec(h:nbS C L D=true){t:Nat}{y:Dt}(hy:jG C L D t=some y):y.nb=true:=by
 have hC:∃ q∈C,q.1=t:=by
  unfold jG at hy;split at hy
  ·rename_i j hj;exact⟨_,wh _ _ _ hj,Z⟩
  ·rename_i hj;exact⟨_,wh _ _ _ hj,Z⟩
  ·cases hy
 obtain⟨q,hq,rfl⟩:=hC;have:=List.all_eq_true.1 h q hq;rw[hy] at this;exact this
def chkLate(ops:Array Oper)(k s sb:Nat)(T:List (List Nat))(S:List (List (Nat×Option Nat)))(L:Env)(D:List Dt):Bool:=
 (List.range k).all λ i=>i == s||(((T.getD s []).contains i||nbS (S.getD i []) L D)&&yj ops i != some sb)
structure RInvL(P:Program)(F:Frm)(M:Nat->Prop)(ops:Array Oper)(N k:Nat)(T:List (List Nat))(xs:List (Nat×Dt))(s sb:Nat)(G:Nat->Prop)(Z:Dt)(a0:Act)(w1:World)(listed:Array Bool)(a:Act)(w:World):Prop where
 sz:listed.size=ops.size
 size:a.tmps.size=N
 defers:a.defers=a0.defers
 fr:F.J w
 grown:Grown G w1 w
 ext:listed.getD s false=false->Ext0 w1 w
 tail:∀ i,k<=i->listed.getD i false=false
 clos:Jq T ops.size listed
 done:∀ i,i≠s->listed.getD i false=true->∀ x d,xs[i]?=some (d,x)->(listed.getD s false=false\/x.nb=true)->x.rd M w (Act.at a d)
 rest:∀ t,(∀ i,listed.getD i false=true->yj ops i≠some t)->Act.at a t=Act.at a0 t
 z:listed.getD s false=true->Z.rd M w (Act.at a sb)
theorem nb_grown(hx:x.nb=true)(h:x.rd M w v)(hg:Grown G w w')(hGM:∀ b,G b->M b):x.rd M w' v:=
 x.stable h λ n hn hm=>hg.block n hn λ e=>hm.elim (λ h=>h (hGM n e)) λ h=>x.nob hx n h
theorem draw_late(h:wO ops k T S=true)(hk:k<=ops.size){Z:Dt}
  (hsk:s<k) (hos:ops[s]?=some os) (hosd:os.dst=none) (hosg:os.guard=none) (hGM:∀ b,G b->M b) (hGF:∀ b,G b->F.Own b) (hZ:∀ {w w':World} {v:Value},Z.rd M w v->Ext0 w w'->Z.rd M w' v) (hl:chkLate ops k s sb T S L D=true)
  (hst:St F N M L a0 w1) (hreg:RegL P M ops N S L D s 0 (ops.toList.take k) xs)
  (hstep:∀ a w,Ext0 w1 w->(∀ t y,jG (S.getD s []) L D t=some y->y.rd M w (Act.at a t))->Act.at a sb=Act.at a0 sb->OpOut P os a w (λ _ w'=>Grown G w w'/\Z.rd M w' (Act.at a sb)))
  (hQ:∀ a' w',F.J w'->Grown G w1 w'->a'.tmps.size=N->a'.defers=a0.defers->(∀ t x,(xs++L).lookup t=some x->x.nb=true->x.rd M w' (Act.at a' t))->(∀ t,(∀ i,i<k->yj ops i≠some t)->Act.at a' t=Act.at a0 t)->Z.rd M w' (Act.at a' sb)->wpList P ops Q (ops.toList.drop k) a' w'):
  ∀ (f:Nat) (listed:Array Bool) (a:Act) (w:World),left ops.size listed=f->RInvL P F M ops N k T xs s sb G Z a0 w1 listed a w->wpAny P .any ops Q f listed a w:=by
 have hlen:xs.length=k:=by rw[← hreg.get.1];simp;omega
 have hget:∀ i o,i<k->i≠s->ops[i]?=some o->∃ x d,xs[i]?=some (d,x)/\o.dst=some d/\d<N/\D[i]?=some x/\OpG P M ops N (jG (S.getD i []) L D) o x:=by
  intro i o hi hne ho;have:=hreg.get.2 i o (by rw[List.getElem?_take,Ke hi];simpa using ho) (by omega);simpa using this
 have hdst:∀ i x d,i≠s->xs[i]?=some (d,x)->i<k/\yj ops i=some d:=by
  intro i x d hne hx;have hi:i<k:=by rw[← hlen];exact(List.getElem?_eq_some_iff.1 hx).1
  obtain⟨o,ho⟩:∃ o,ops[i]?=some o:=⟨_,Array.getElem?_eq_getElem (by omega)⟩;obtain⟨x',d',h1,h2,_⟩:=hget i o hi hne ho;rw[hx] at h1;injection h1 with h1;injection h1 with h1 _;exact⟨hi,by simp[yj,ho,h2,h1]⟩
 have hlate:∀ i,i<k->i≠s->(i∈T.getD s []\/nbS (S.getD i []) L D=true)/\yj ops i≠some sb:=λ i hi hne=>by
  have:=List.all_eq_true.1 hl i (List.mem_range.2 hi);simp only[Bool.or_eq_true,beq_iff_eq,Bool.and_eq_true,bne_iff_ne,ne_eq,List.contains_iff_mem] at this;exact this.resolve_left hne
 have hxsN:∀ t x,(t,x)∈xs->∀ i,xs[i]?=some (t,x)->i=s->x.nb=true->x=WQ:=by
  intro t x _ i hi hs _;subst hs;have key:∀ {i0:Nat} {l:List Oper} {xs:List (Nat×Dt)},RegL P M ops N S L D i i0 l xs->∀ n y,i0+n=i->xs[n]?=some y->y=(N,WQ):=by
   intro i0 l xs hr
   induction hr with
   | nil=>intro n y _ h;simp at h
   |cons hi hd hN hx h hr ih=>
    intro n y hn hy;cases n with
    | zero=>simp at hi;omega
    | succ n=>exact ih n y (by omega) (by simpa using hy)
   |late hi hr ih=>
    intro n y hn hy;cases n with
    | zero=>simp at hy;exact hy.symm
    | succ n=>simp at hi;omega
  have:=key hreg i (t,x) (by omega) hi;injection this
 have finish:∀ (f:Nat) (listed:Array Bool) (a:Act) (w:World),left ops.size listed=f->RInvL P F M ops N k T xs s sb G Z a0 w1 listed a w->(∀ i,i<k->listed.getD i false=true)->wpAny P .any ops Q f listed a w:=by
  intro f listed a w hf inv hall;refine tail_any h f k listed (by rw[← hf];exact Y6 hk hall inv.tail) (Nat.le_refl _) inv.sz hall inv.tail a w (hQ a w inv.fr inv.grown inv.size inv.defers (λ t x hs hnb=>?_) (λ t ht=>inv.rest t λ i hi=>?_) (inv.z (hall s hsk)))
  ·rcases wV xs L t x hs with hm | ⟨hno,hl'⟩
   ·obtain⟨i,hi⟩:=List.getElem?_of_mem hm;by_cases hne:i=s
    ·rw[hxsN t x hm i hi hne hnb];trivial
    ·exact inv.done i hne (hall i (hdst i x t hne hi).1) x t hi (.inr hnb)
   ·rw[inv.rest t (λ i hi hd=>?_)]
    ·exact nb_grown hnb (hst.has t x hl') inv.grown hGM
    ·have hik:i<k:=by
      rcases Nat.lt_or_ge i k with hx | hx
      ·exact hx
      ·rw[inv.tail i hx] at hi;cases hi
     by_cases hne:i=s
     ·subst hne;simp[yj,hos,hosd] at hd
     ·obtain⟨o,ho⟩:∃ o,ops[i]?=some o:=⟨_,Array.getElem?_eq_getElem (by omega)⟩;obtain⟨x',d',h1,h2,_⟩:=hget i o hik hne ho;simp only[yj,ho,Kd,h2,Option.some.injEq] at hd;subst hd;exact hno x' (List.mem_of_getElem? h1)
  ·have hik:i<k:=by
    rcases Nat.lt_or_ge i k with hx | hx
    ·exact hx
    ·rw[inv.tail i hx] at hi;cases hi
   exact ht i hik
 intro f
 induction f with
 |zero=>
  intro listed a w hf inv;refine finish 0 listed a w hf inv (λ i hi=>?_);have h1:i ∉ (List.range ops.size).filter λ i=>!listed.getD i false:=by
   rw[List.eq_nil_of_length_eq_zero hf];intro h;cases h
  rw[List.mem_filter] at h1;have:¬ ((!listed.getD i false)=true):=λ hx=>h1 ⟨List.mem_range.2 (by omega),hx⟩
  simpa using this
 |succ f ih=>
  intro listed a w hf inv;by_cases hall:∀ i,i<k->listed.getD i false=true
  ·exact finish _ listed a w hf inv hall
  ·simp only[Classical.not_forall] at hall;obtain⟨p,hp,hup⟩:=hall;have hup:listed.getD p false=false:=by simpa using hup
   refine⟨λ hnil=>absurd hnil (zbN h inv.sz (by omega) hup),λ i hi=>?_⟩;obtain⟨hilt,hiu,hicl⟩:=zd9 h inv.clos hi;have hiu':listed.getD i false=false:=by rw[YZ (by rw[inv.sz];exact hilt) false true];exact hiu
   obtain⟨o,ho⟩:∃ o,ops[i]?=some o:=⟨_,Array.getElem?_eq_getElem hilt⟩;have hik:i<k:=by
    rcases Nat.lt_or_ge i k with hx | hx
    ·exact hx
    ·have:=hicl p ((Xh h ho).2.2.2 hx p (by omega));rw[hup] at this;cases this
   obtain⟨hS1,hS2,hdd⟩:=(Xh h ho).2.2.1 hik;have hlook:(listed.getD s false=false\/nbS (S.getD i []) L D=true)->∀ t y,jG (S.getD i []) L D t=some y->y.rd M w (Act.at a t):=by
    intro hc t y hy;have hny:listed.getD s false=false\/y.nb=true:=hc.imp id λ hn=>nbS_spec hn hy
    unfold jG at hy;split at hy
    ·rename_i j hj;have hmem:=wh _ _ _ hj;obtain⟨hd1,hT,hjk⟩:=hS1 t j hmem;obtain⟨o',ho'⟩:∃ o',ops[j]?=some o':=⟨_,Array.getElem?_eq_getElem (by omega)⟩;have hjs:j≠s:=by
      intro e;subst e;simp[yj,hos,hosd] at hd1
     obtain⟨x',d',g1,g2,_,g4,_⟩:=hget j o' hjk hjs ho';rw[g4] at hy;injection hy with hy;subst hy;have:d'=t:=by simpa[yj,ho',g2] using hd1
     subst this;exact inv.done j hjs (hicl j hT) _ _ g1 hny
    ·rename_i hj;have hmem:=wh _ _ _ hj;rw[inv.rest t (λ m hm hd=>?_)]
     ·rcases hny with h0 | h0
      ·exact y.ext (hst.has t y hy) (inv.ext h0)
      ·exact nb_grown h0 (hst.has t y hy) inv.grown hGM
     ·have hmlt:m<ops.size:=by rw[← inv.sz];exact XR hm
      have:=hS2 t hmem m hmlt hd;have:=inv.clos m hmlt hm i this;rw[hiu'] at this;cases this
    ·cases hy
   have hmok:∀ b,M b->b<w.heap.size:=λ b hb=>Nat.lt_of_lt_of_le (hst.mok b hb) inv.grown.size
   unfold wpOp;simp only[ho];by_cases hne:i=s
   ·subst hne;have:o=os:=by rw[hos] at ho;injection ho with ho;exact ho.symm
    subst this;rw[Ke (Y5 hosg)];refine .inl (OpOut.wp ((hstep a w (inv.ext hiu') (hlook (.inl hiu')) (inv.rest sb λ j hj hd=>?_)).mono λ v w' ⟨hg,hz⟩=>?_))
    ·have hjk:j<k:=by
      rcases Nat.lt_or_ge j k with hx | hx
      ·exact hx
      ·rw[inv.tail j hx] at hj;cases hj
     by_cases hji:j=i
     ·subst hji;rw[hiu'] at hj;cases hj
     ·exact(hlate j hjk hji).2 hd
    ·rw[hosd];have hgr:Grown G w1 w':=inv.grown.trans hg λ _ _ h=>h
     refine ih _ _ _ (by have:=QM hilt inv.sz hiu';omega) ⟨by simpa using inv.sz,inv.size,inv.defers,F.own inv.fr hg hGF,hgr,λ hf'=>?_,λ j hj=>?_,J8 h inv.sz inv.clos hi,λ j hjs hj y e hy hny=>?_,λ t ht=>inv.rest t λ j hj=>ht j ?_,λ _=>hz⟩
     ·rw[xJ (by rw[inv.sz];exact hilt)] at hf';cases hf'
     ·rw[zH (by omega)];exact inv.tail j hj
     ·rw[zH (λ e=>hjs e.symm)] at hj;rcases hny with h0 | h0
      ·rw[xJ (by rw[inv.sz];exact hilt)] at h0;cases h0
      ·exact nb_grown h0 (inv.done j hjs hj y e hy (.inr h0)) hg hGM
     ·by_cases hij:i=j
      ·subst hij;exact xJ (by rw[inv.sz];exact hilt)
      ·rw[zH hij];exact hj
   ·obtain⟨x,d,hx,hod,hdN,hDx,hg⟩:=hget i o hik hne ho;have hcond:listed.getD s false=false\/nbS (S.getD i []) L D=true:=by
     cases hs:listed.getD s false with
     | false=>exact .inl rfl
     |true=>
      rcases(hlate i hik hne).1 with hT | hn
      ·have:=inv.clos s (by omega) hs i hT;rw[hiu'] at this;cases this
      ·exact .inr hn
    have hstep':=hg.step hmok (hlook hcond) inv.size;have hnext:∀ v w',Ext0 w w'->x.rd M w' v->wpAny P .any ops Q f (listed.setIfInBounds i true) (a.put o.dst v) w':=by
     intro v w' he hv;refine ih _ _ _ (by have:=QM hilt inv.sz hiu';omega) ⟨by simpa using inv.sz,by rw[Act.put_size];exact inv.size,by rw[Act.put_defers];exact inv.defers,F.ext inv.fr he,inv.grown.trans (Grown.of_ext he) λ _ _ h=>h.elim,λ hf'=>?_,λ j hj=>?_,J8 h inv.sz inv.clos hi,λ j hjs hj y e hy hny=>?_,λ t ht=>?_,λ hz=>?_⟩
     ·rw[zH hne] at hf';exact(inv.ext hf').trans he
     ·rw[zH (by omega)];exact inv.tail j hj
     ·rw[zH hne] at hny;rw[hod];by_cases hij:i=j
      ·subst hij;rw[hx] at hy;injection hy with hy;injection hy with hy1 hy2;subst hy1;subst hy2;rw[Act.at_put_self (by rw[inv.size];exact hdN)];exact hv
      ·rw[zH hij] at hj;obtain⟨hjk,hjd⟩:=hdst j y e hjs hy;have hne':(some d:Option Nat)≠some e:=by
        intro he';have h1:yj ops i=some d:=by simp[yj,ho,hod]
        rcases Nat.lt_or_gt_of_ne hij with hlt | hgt
        ·obtain⟨o',ho'⟩:∃ o',ops[j]?=some o':=⟨_,Array.getElem?_eq_getElem (by omega)⟩;exact((Xh h ho').2.2.1 hjk).2.2 i hlt (by rw[h1,hjd,he'])
        ·exact hdd j hgt (by rw[h1,hjd,he'])
       rw[Act.at_put_other hne'];exact y.ext (inv.done j hjs hj y e hy hny) he
     ·rw[hod,Act.at_put_other]
      ·exact inv.rest t (λ j hj=>ht j (by
        by_cases hij:i=j
        ·subst hij;exact xJ (by rw[inv.sz];exact hilt)
        ·rw[zH hij];exact hj))
      ·have:=ht i (xJ (by rw[inv.sz];exact hilt));simpa[yj,ho,hod] using this
     ·rw[zH hne] at hz;have hsb:(some d:Option Nat)≠some sb:=by
       have:=(hlate i hik hne).2;simpa[yj,ho,hod] using this
      rw[hod,Act.at_put_other hsb];exact hZ (inv.z hz) he
    split
    ·rename_i hw;exact .inl (OpOut.wp ((hstep'.1 hw).mono λ v w' ⟨he,hv⟩=>hnext v w' he hv))
    ·rename_i hw;exact hnext undef w (Ext0.refl w) (hstep'.2 (by simpa using hw))
end
section
def chkO(ops:Array Oper)(k:Nat)(O:List (Nat×Nat×Dt)):Bool:=O.all λ q=>(List.range k).all λ i=>yj ops i != some q.1
variable{α β:Type}{y0:β}
theorem run_store_box[Rep α][Rep β]{t q:Nat}{x:α}{y:β}{set:α->β->α}{look:Nat->Option Dt}(fs:FldS set off)(ho:o.op=.store t (.tmp q) vo)
  (ht:tyB P t (Rep.agg β) (Rep.size β)=true) (hM:∀ b,g=some b->M b) (hl:∀ s y,look s=some y->y.rd M w (Act.at a s)) (hpl:look q=some (dbox g off y0)) (hvl:OpdR M look vo (dt y)) (hs:(dbox g 0 x).rd M w v):
  OpOut P o a w (λ _ w'=>Grown (oneB g) w w'/\(dbox g 0 (set x y)).rd M w' v):=by
 obtain⟨b,rfl,hpv,_⟩:=hl q _ hpl;obtain⟨b1,hb1,hsv,C,e,cs,hb,hc,hr⟩:=hs;injection hb1 with hb1;subst hb1;have hy:=XH (hvl w a hl);obtain⟨hle,hset⟩:=fs.put hr hy;have hlc:cs.length<=C.size:=by
  rcases Nat.eq_zero_or_pos cs.length with h0 | h0
  ·omega
  ·have:=hc (cs.length - 1) _ (List.getElem?_eq_getElem (by omega));have:=(Array.getElem?_eq_some_iff.1 this).1;omega
 have hrun:=jz (P:=P) (w:=w) (t:=t) (off:=off) (cs:=(a.eval vo).cells.toList) (by rw[Rep.len hy];exact ht) Z hb (by omega) (Rep.oneCell hy);generalize hcc:(a.eval vo).cells.toList=c at*;have hgr:w.grownBy (w.setRow b (C.toList.take off++c++C.toList.drop (off+c.length)).toArray) (some b):=jQ;refine OpOut.of_skip (w':=w.setRow b (C.toList.take off++c++C.toList.drop (off+c.length)).toArray) ?_ ⟨Grown.of_grownBy hgr,?_⟩
 ·unfold execOp;rw[ho];have hpv':a.eval (.tmp q)=.pointer (some ⟨b,off,none⟩):=hpv;simp only[Instr.storeAt,Instr.sureAddr,hpv',Sem.run_bind,Sem.run_pure,Result.andThen_ok,hrun]
 ·refine⟨b,Z,hsv,_,e,cs.take off++c++cs.drop (off+c.length),setRow_heap w b C _ e (0,0) hb,λ j u hj=>?_,Rep.stable hset λ k hk hm=>hgr.block k hk λ e=>?_⟩
  ·have hj':j<cs.length:=by
    have:=(List.getElem?_eq_some_iff.1 hj).1;simp at this;omega
   rw[Nat.zero_add];simp only[List.getElem?_toArray];rw[List.append_assoc] at hj ⊢;by_cases h1:j<off
   ·rw[List.getElem?_append_left (by simp;omega)] at hj ⊢;rw[List.getElem?_take,Ke h1] at hj ⊢;have:=hc j u hj;simpa using this
   ·rw[List.getElem?_append_right (by simp;omega)] at hj ⊢;simp only[List.length_take] at hj ⊢;rw[Nat.min_eq_left (by omega)] at hj;rw[Nat.min_eq_left (by simp;omega)];by_cases h2:j - off<c.length
    ·rw[List.getElem?_append_left h2] at hj ⊢;exact hj
    ·rw[List.getElem?_append_right (by omega)] at hj ⊢;rw[List.getElem?_drop] at hj ⊢;rw[show off+c.length+(j - off - c.length)=j by omega] at hj ⊢;have:=hc j u hj;simpa using this
  ·injection e with e;subst e;rcases hm with hm | hm
   ·exact hm (hM _ Z)
   ·cases hm
theorem Sx.late[Rep α][Rep β]{id:Nat}{t q:Nat}{x:α}{y:β}{set:α->β->α}(h:Sx F N M0 M Gs L O a w)(p:Nat)(fs:FldS set off)
  (hm:P.follows .mixedOrders=true) (k s:Nat) (S:List (List (Nat×Option Nat))) (hc:wO ops k (cloT ops) S=true) (hkn:k<=ops.size) (hsk:s<k) (hl:chkLate ops k s sb (cloT ops) S (L++envO O) D=true) (hs:RegL P M ops N S (L++envO O) D s 0 (ops.toList.take k) xs)
  (hso:ops[s]?=some o) (ho:o.op=.store t (.tmp q) vo) (hgd:o.guard=none) (hd:o.dst=none) (ht:tyB P t (Rep.agg β) (Rep.size β)=true) (hg:Gs[p]?=some (oneB g)) (hpl:jG (S.getD s []) (L++envO O) D q=some (dbox g off y0)) (hvl:OpdR M (jG (S.getD s []) (L++envO O) D) vo (dt y))
  (hsl:(L++envO O).lookup sb=some (dbox g 0 x)) (ks:List Nat) (hk:selP ks (xs++(L++envO O))=some L2) (qs:List Nat) (hq:selR L O qs p=some O2) (hO2:chkO ops k O2=true) (hdn:L2.lookup sb=none)
  (hQ:∀ a' w',Sx F N M0 M Gs L2 ((sb,p,dbox g 0 (set x y))::O2) a' w'->wpList P ops Q (ops.toList.drop k) a' w'):(Code.region id ops true).wp P Q a w:=by
 have hgM:∀ b,g=some b->M b:=λ b hb=>(h.ob.at_ p b ((yl hg b).2 hb)).2.1
 have he:Ext0 w { w with drawn:=w.drawn+1 }:=Ext0.drawn w _;have hst':St F N M (L++envO O) a { w with drawn:=w.drawn+1 }:=⟨F.ext h.st.fr he,h.st.size,h.st.defers,h.st.mok,λ s x hs=>x.ext (h.st.has s x hs) he⟩;refine wp_region_any hm ?_;have hall:∀ i,(Array.replicate ops.size false).getD i false=false:=λ i=>by
  rcases Nat.lt_or_ge i ops.size with hi | hi <;> simp[hi]
 have hleft:left ops.size (Array.replicate ops.size false)=ops.size:=by
  have:=Y6 (n:=ops.size) (k:=0) (listed:=Array.replicate ops.size false) (by omega) (λ i hi=>absurd hi (Nat.not_lt_zero _)) (λ i _=>hall i);simpa using this
 refine draw_late (G:=oneB g) (Z:=dbox g 0 (set x y)) (sb:=sb) hc hkn hsk hso hd hgd (λ b hb=>hgM b hb) (λ b hb=>(h.ob.at_ p b ((yl hg b).2 hb)).1) (λ h e=>(dbox g 0 (set x y)).ext h e) hl hst' hs (λ a' w' e hlk hsb=>?_) (λ a' w' hj hgr hsz hdf hnb hrest hz=>?_) _ _ _ _ hleft
  ⟨by simp,hst'.size,rfl,hst'.fr,Grown.refl _ _,λ _=>Ext0.refl _,λ i _=>hall i,λ i _ hl=>(by rw[hall i] at hl;cases hl),λ i _ hl=>(by rw[hall i] at hl;cases hl),λ _ _=>rfl,λ hl=>(by rw[hall] at hl;cases hl)⟩
 ·refine run_store_box (look:=jG (S.getD s []) (L++envO O) D) fs ho ht hgM hlk hpl hvl ?_;rw[hsb];exact(dbox g 0 x).ext (hst'.has sb _ hsl) e
 ·refine hQ a' w' ⟨⟨hj,hsz,by rw[hdf];exact hst'.defers,λ b hb=>Nat.lt_of_lt_of_le (hst'.mok b hb) hgr.size,λ t' x' hx'=>?_⟩,h.ob,λ t' x' hx'=>((xL hk).spec t' x' hx').2,λ b hb=>(yl hg b).2 hb,AllOw.of λ q' hq' b hb=>h.ow.get _ (jK hq _ hq').1 b hb⟩;rcases yF hx' with h1 | ⟨h0,h1⟩
  ·obtain⟨h2,h3⟩:=(xL hk).spec t' x' h1;exact hnb t' x' h2 h3
  ·simp only[envO,List.lookup_cons] at h1;cases hb:t' == sb with
   |true=>
    simp only[hb] at h1;injection h1 with h1;subst h1;have:t'=sb:=by simpa using hb
    subst this;exact hz
   |false=>
    simp only[hb] at h1;obtain⟨p',hp'⟩:=X5 h1;obtain⟨g1,g2,g3⟩:=jK hq _ hp';have hno:∀ i,i<k->yj ops i≠some t':=λ i hi=>by
     have:=List.all_eq_true.1 (List.all_eq_true.1 hO2 _ hp') i (List.mem_range.2 hi);simpa using this
    rw[hrest t' hno];refine x'.stable (hst'.has t' x' g3) λ n hn hm'=>hgr.block n hn λ(e:g=some n)=>?_
    rcases hm' with hm' | hm'
    ·exact hm' (hgM n e)
    ·exact h.ob.apart p' p n g2 (h.ow.get _ g1 n hm') ((yl hg n).2 e)
end
section
variable{f:Nat}
def QN(P:Program)(ops:Array Oper)(Q:Exit->Act->World->Prop)(f:Nat)(listed:Array Bool):Exit->Act->World->Prop
 | .normal,a,w=>wpAny P .any ops Q f listed a w
 | e,a,w=>Q e a w
theorem Oper.wp_mono2(hK:∀ a w,K a w->K' a w)(hL:LetsOut Q->LetsOut Q')(h:o.wp P a w K Q)(hQ:∀ c a w,Q (.panic c) a w->Q' (.panic c) a w:=by exact λ _ _ _ h=>h):o.wp P a w K' Q':=by
 unfold Oper.wp at*;generalize (execOp a.eval o).run P w=r at*;cases r with
 |halt x w'=>cases x <;> simp only[Oper.upon] at h ⊢ <;> first | exact hQ _ _ _ h | exact h
 |ok n w'=>
  cases n <;> simp only[Oper.upon] at h ⊢ <;> first
   | exact hK _ _ h
   | exact h
   | (
     refine Calls.mono h λ e w'' he=>?_
     cases e <;> simp only at he ⊢ <;> first
      | exact hK _ _ he
      | exact hQ _ _ _ he
      | exact hL he)
   | (exact Rows.mono h λ v w'' he=>hK _ _ he)
theorem Qc(ho:ops[i]?=some o)(h:wpList P ops (QN P ops Q f (listed.setIfInBounds i true)) [o] a w):wpOp P ops Q i (wpAny P .any ops Q f (listed.setIfInBounds i true)) a w:=by
 unfold wpOp;rw[ho];simp only;unfold wpList at h;have hl:LetsOut (QN P ops Q f (listed.setIfInBounds i true))->LetsOut Q:=λ⟨a,w,h⟩=>⟨a,w,h⟩
 have hn:∀ a w,wpList P ops (QN P ops Q f (listed.setIfInBounds i true)) [] a w->wpAny P .any ops Q f (listed.setIfInBounds i true) a w:=λ a w h=>h
 split
 ·rename_i hw;rw[Ke hw] at h;exact h.imp (Oper.wp_mono2 hn hl) λ h=>⟨h.1,hl h.2⟩
 ·rename_i hw;rw[Kf hw] at h;exact hn _ _ h
theorem an1(ho:ops[i]?=some o)(h:wpList P ops (QN P ops Q f (listed.setIfInBounds i true)) [o] a w)(hr:Region.ready .any ops listed=[i]:=by decide +kernel):wpAny P .any ops Q (f+1) listed a w:=
 ⟨λ e=>(by rw[hr] at e;cases e),λ j hj=>by
  rw[hr] at hj;simp only[List.mem_cons,List.not_mem_nil,or_false] at hj;subst hj;exact Qc ho h⟩
theorem an2(ho:ops[i]?=some o)(ho2:ops[j]?=some o2)(h:wpList P ops (QN P ops Q f (listed.setIfInBounds i true)) [o] a w)(h2:wpList P ops (QN P ops Q f (listed.setIfInBounds j true)) [o2] a w)(hr:Region.ready .any ops listed=[i,j]:=by decide +kernel):wpAny P .any ops Q (f+1) listed a w:=
 ⟨λ e=>(by rw[hr] at e;cases e),λ k hk=>by
  rw[hr] at hk;simp only[List.mem_cons,List.not_mem_nil,or_false] at hk;rcases hk with rfl | rfl
  ·exact Qc ho h
  ·exact Qc ho2 h2⟩
theorem an0(h:Q .normal a w)(hr:Region.ready .any ops listed=[]:=by decide +kernel):wpAny P .any ops Q f listed a w:=by
 cases f with
 | zero=>exact⟨hr,h⟩
 | succ f=>exact⟨λ _=>h,λ i hi=>(by rw[hr] at hi;cases hi)⟩
theorem anN(h:wpAny P .any ops Q f listed a w):wpList P ops (QN P ops Q f listed) [] a w:=h
theorem Sx.drew(h:Sx F N M0 M Gs L O a w){n:Nat}:Sx F N M0 M Gs L O a { w with drawn:=n }:=by
 have he:Ext0 w { w with drawn:=n }:=Ext0.drawn w _;exact⟨⟨F.ext h.st.fr he,h.st.size,h.st.defers,h.st.mok,λ s x hs=>x.ext (h.st.has s x hs) he⟩,h.ob,h.no,h.ow⟩
theorem Sx.any(h:Sx F N M0 M Gs L O a w){id:Nat}(hm:P.follows .mixedOrders=true)(hQ:∀ w',Sx F N M0 M Gs L O a w'->wpAny P .any ops Q ops.size (Array.replicate ops.size false) a w'):(Code.region id ops true).wp P Q a w:=
 wp_region_any hm (hQ _ h.drew)
end
section
variable{α:Type}[Rep α]
def FnIn(P:Program)(f:FuncId)(e:TypeId)(xs ys:List α):Prop:=
 ∀
  (M0:Nat->Prop) (g:Option Nat) (w:World) (v:Value),(∀ b,insO g M0 b->b<w.heap.size)->(∀ b,g=some b->¬ M0 b)->(dtip g e xs).rd (insO g M0) w v->
  Calls P f #[v] w (λ en w'=>∃ u,en=.returned u/\w.grownBy w' g/\(xs=[]->w'=w/\ys=[])/\(dtip g e ys).rd (insO g M0) w' v)
theorem tip_same{xs:List α}(h1:(dtip g e xs).rd M1 w v1)(h2:(dtip g e xs).rd M2 w v2)(hne:xs≠[]):v1=v2:=by
 have key:∀ {M:Nat->Prop} {v:Value},(dtip g e xs).rd M w v->∃ b cap cur,g=some b/\v=.slice (some ⟨b,0,none⟩) xs.length cap/\w.heap[b]?=some (.cells cur e (0,0))/\cur.size=cap*Rep.size α:=by
  intro M v h;rcases h with⟨cells,hown,hrow,hb⟩ | ⟨_,hx,_⟩
  ·rcases hown.2 with⟨_,h2⟩ | ⟨b,cap,cur,h1,h2,h3,h4,h5,h6,h7⟩
   ·exact absurd (List.eq_nil_of_length_eq_zero h2) hne
   ·exact⟨b,cap,cur,by rw[← hb,h1];rfl,h1,h3,h6⟩
  ·exact absurd hx hne
 obtain⟨b,cap,cur,hg,hv,hh,hs⟩:=key h1;obtain⟨b2,cap2,cur2,hg2,hv2,hh2,hs2⟩:=key h2;rw[hg] at hg2;injection hg2 with hg2;subst hg2;rw[hh] at hh2;injection hh2 with hh2;injection hh2 with hh2;subst hh2;have hp:=Rep.pos (α:=α);have:cap=cap2:=Nat.eq_of_mul_eq_mul_right hp (hs.symm.trans hs2);rw[hv,hv2,this]
section
theorem Sx.inpl{f:FuncId}{xs ys:List α}(h:Sx F N M0 M Gs L O a w)(p:Nat)(hh:opH o N=some d)
  (ho:o.op=.call { callee:=.value (.func f),args:=#[.tmp s],argTypes:=ts }) (hf:fnB P f=true) (hs:(L++envO O).lookup s=some (dtip g e xs)) (hsb:(L++envO O).lookup sb=some (dtip g e xs)) (hg:Gs[p]?=some (oneB g)) (hfn:FnIn P f e xs ys)
  (ks:List Nat) (hk:selP ks L=some L2) (qs:List Nat) (hq:selR L O qs p=some O2) (hdn:L2.lookup sb=none) (hdd:L2.lookup d=none/\(envO O2).lookup d=none/\sb≠d)
  (next:∀ M' a' w',Sx F N M0 M' Gs L2 ((sb,p,dtip g e ys)::O2) a' w'->wpList P ops Q rest a' w'):wpList P ops Q (o::rest) a w:=by
 obtain⟨hgd,hd,hN⟩:=ya hh;have hM:∀ k,insO g (λ b=>M b/\g≠some b) k ↔ M k:=λ k=>by
  refine⟨λ hk=>hk.elim (λ h=>h.1) λ e=>(h.ob.at_ p k ((yl hg k).2 e)).2.1,λ hk=>?_⟩;by_cases e:g=some k
  ·exact .inr e
  ·exact .inl ⟨hk,e⟩
 have hGs:Gs.set p (oneB g)=Gs:=by
  apply List.ext_getElem?;intro n;by_cases hn:p=n
  ·subst hn;rw[List.getElem?_set_self (ZV hg),hg]
  ·rw[List.getElem?_set_ne hn]
 refine wpList_plain hgd λ K hK=>OpOut.wp (OpOut.of_enter (f:=f) (args:=#[a.eval (.tmp s)]) (w':=w) ?_ ?_)
 ·unfold execOp;rw[ho];have e:a.eval (.func f)=.func (.func f) #[] #[]:=rfl;simp[resolve,e,Deferred.ofValue,invoke,wz hf]
 ·refine(hfn (λ b=>M b/\g≠some b) g w _ (λ b hb=>h.st.mok b ((hM b).1 hb)) (λ b hb hm=>hm.2 hb) ((dtip g e xs).weak (h.st.has s _ hs) λ k _ hk=>(hM k).1 hk)).mono λ en w' ⟨u,he,hgr,hnil,hv'⟩=>⟨u,he,?_⟩
  rw[hd];have h1:=h.eff (G':=oneB g) (ZV hg) (Grown.own hg hgr) (λ b hb=>⟨.inl ((yl hg b).2 hb),Nat.lt_of_lt_of_le (h.st.mok b (h.ob.at_ p b ((yl hg b).2 hb)).2.1) hgr.size⟩) hk hq;rw[hGs] at h1;have hsbv:(dtip g e ys).rd (λ b=>(M b/\¬ zp Gs p b)\/oneB g b) w' (Act.at a sb):=by
   by_cases hx:xs=[]
   ·obtain⟨rfl,rfl⟩:=hnil hx;subst hx;exact(dtip g e []).weak (h.st.has sb _ hsb) λ k _ hk=>hk.elim (λ h=>h.1) λ hk=>(h.ob.at_ p k ((yl hg k).2 hk)).2.1
   ·rw[← tip_same (h.st.has s _ hs) (h.st.has sb _ hsb) hx];exact(dtip g e ys).weak hv' λ k _ hk=>hk.imp (λ h=>⟨h.1,λ e=>h.2 ((yl hg k).2 e)⟩) _root_.id
  have h2:=h1.addO (p:=p) hdn hsbv λ b hb=>(yl hg b).2 hb
  refine hK _ _ (next _ _ _ ⟨⟨h2.st.fr,by rw[Act.put_size];exact h2.st.size,by rw[Act.put_defers];exact h2.st.defers,h2.st.mok,λ s' x hx=>?_⟩,h2.ob,h2.no,h2.ow⟩);have hne:s'≠d:=by
   intro e;subst e;rcases yF hx with h3 | ⟨_,h3⟩
   ·rw[hdd.1] at h3;cases h3
   ·simp only[envO,List.lookup_cons] at h3;have hb:(s' == sb)=false:=by simpa using λ e:s'=sb=>hdd.2.2 e.symm
    simp only[hb] at h3;rw[hdd.2.1] at h3;cases h3
  rw[Act.at_put_other (λ e=>hne (by injection e with e;exact e.symm))];exact h2.st.has s' x hx
end
end
theorem zb2{M:Nat->Prop}{w:World}:∀ {cells:List Value} {xs:List Str},rowR M w cells xs->cells=(xs.map (·.l)).map encStr/\∀ x∈xs,x.l.length<=maxLen
 | cells,[],h=>⟨h,λ _ h=>by cases h⟩
 |cells,x::xs,⟨c,r,h,h1,h2⟩=>by
  obtain⟨e1,e2⟩:=zb2 h2;refine⟨by rw[h,h1.1,e1];rfl,λ y hy=>?_⟩;rcases List.mem_cons.1 hy with rfl | hy
  ·exact h1.2
  ·exact e2 y hy
theorem str_rowR{M:Nat->Prop}{w:World}:∀ {xs:List Str},(∀ x∈xs,x.l.length<=maxLen)->rowR M w ((xs.map (·.l)).map encStr) xs
 | [],_=>rfl
 | x::xs,h=>⟨[strv x],((xs.map (·.l)).map encStr),Z,⟨Z,h x (by simp)⟩,str_rowR λ y hy=>h y (by simp[hy])⟩
def JM(xs:List Str):List Str:=((xs.map (·.l)).mergeSort λ x y=>decide (x<=y)).map Str.mk
def ZA(xs:List Str):List Str:=(Lib.compact (xs.map (·.l))).map Str.mk
theorem map_mk(l:List (List UInt8)):(l.map Str.mk).map (·.l)=l:=by
 rw[List.map_map];exact List.map_id l
theorem zcW(xs:List Str):(JM xs).length=xs.length:=by simp[JM]
theorem zcX:JM []=[]:=by simp[JM]
theorem compactS_nil:ZA []=[]:=rfl
theorem sortS_l(xs:List Str):(JM xs).map (·.l)=(xs.map (·.l)).mergeSort λ x y=>decide (x<=y):=map_mk _
theorem sortS_mem{xs:List Str}{x:Str}:x∈JM xs ↔ x∈xs:=by
 unfold JM;simp only[List.mem_map,List.mem_mergeSort];constructor
 ·rintro ⟨l,⟨y,hy,rfl⟩,rfl⟩;exact hy
 ·intro h;exact⟨x.l,⟨x,h,Z⟩,Z⟩
theorem compact_mem{l:List (List UInt8)}{x:List UInt8}(h:x∈Lib.compact l):x∈l:=by
 unfold Lib.compact Lib.compactUpTo at h;obtain⟨j,hj,rfl⟩:=List.mem_map.1 h;have hj':j<l.length:=by
  have:=(List.mem_filter.1 hj).1;simpa using this
 simp[getElem!_pos,hj']
theorem compactS_mem{xs:List Str}{x:Str}(h:x∈ZA xs):x∈xs:=by
 unfold ZA at h;obtain⟨l,hl,rfl⟩:=List.mem_map.1 h;obtain⟨y,hy,rfl⟩:=List.mem_map.1 (compact_mem hl);exact hy
structure Alc where
 i:Nat
 d:Nat
 t:TypeId
 zs:List Value
inductive RegA (P:Program) (M:Nat->Prop) (ops:Array Oper) (N:Nat) (S:List (List (Nat×Option Nat))) (L:Env) (D:List Dt) (A:List Nat):Nat->List Oper->List (Nat×Dt)->Prop
 | nil {i:Nat}:RegA P M ops N S L D A i [] []
 | cons {i:Nat} {o:Oper} {rest:List Oper} {x:Dt} {xs:List (Nat×Dt)} {d:Nat} (hi:A.contains i=false) (hd:o.dst=some d) (hN:d<N) (hx:D[i]?=some x) (h:OpG P M ops N (jG (S.getD i []) L D) o x)
   (hr:RegA P M ops N S L D A (i+1) rest xs):RegA P M ops N S L D A i (o::rest) ((d,x)::xs)
 | alc {i:Nat} {o:Oper} {rest:List Oper} {xs:List (Nat×Dt)} (hi:A.contains i=true) (hx:D[i]?=some WQ) (hr:RegA P M ops N S L D A (i+1) rest xs):RegA P M ops N S L D A i (o::rest) ((N,WQ)::xs)
section
variable{T:List (List Nat)}
section
variable{A:List Nat}
theorem ac(hh:opH o N=some d)(hi:A.contains i=false)(hx:D[i]?=some x)(h:OpRel P M (jG (S.getD i []) L D) o x)(hr:RegA P M ops N S L D A (i+1) rest xs):RegA P M ops N S L D A i (o::rest) ((d,x)::xs):=
 .cons hi (ya hh).2.1 (ya hh).2.2 hx (.plain (ya hh).1 h) hr
theorem ag{e:Nat}(hh:opG o N ops=some (d,e,j,want))(hi:A.contains i=false)(hb:jG (S.getD i []) L D e=some (dt b))(hx:D[i]?=some (Dt.grd (b == want) x))(h:(b == want)=true->OpRel P M (jG (S.getD i []) L D) o x)(hr:RegA P M ops N S L D A (i+1) rest xs):RegA P M ops N S L D A i (o::rest) ((d,Dt.grd (b == want) x)::xs):=
 .cons hi (yz hh).2.1 (yz hh).2.2.2.1 hx (.guarded (yz hh).1 (yz hh).2.2.1 (yz hh).2.2.2.2 hb zC h) hr
theorem al(hi:A.contains i=true)(hx:D[i]?=some WQ)(hr:RegA P M ops N S L D A (i+1) rest xs):RegA P M ops N S L D A i (o::rest) ((N,WQ)::xs):=.alc hi hx hr
end
theorem RegA.get{A:List Nat}:∀ {i0:Nat} {l:List Oper} {xs:List (Nat×Dt)},RegA P M ops N S L D A i0 l xs->
  l.length=xs.length/\(∀ (n:Nat) (o:Oper),l[n]?=some o->A.contains (i0+n)=false->∃ x d,xs[n]?=some (d,x)/\o.dst=some d/\d<N/\D[i0+n]?=some x/\OpG P M ops N (jG (S.getD (i0+n) []) L D) o x)/\
   (∀ (n:Nat) (y:Nat×Dt),xs[n]?=some y->A.contains (i0+n)=true->y=(N,WQ)/\D[i0+n]?=some WQ):=by
 intro i0 l xs h
 induction h with
 | nil=>exact⟨Z,λ n o h=>by simp at h,λ n y h=>by simp at h⟩
 |cons hi hd hN hx h hr ih=>
  rename_i i o rest x xs d;refine⟨by simp[ih.1],λ n o' ho' hne=>?_,λ n y hy hc=>?_⟩
  ·cases n with
   |zero=>simp at ho';subst ho';exact⟨x,d,by simp,hd,hN,hx,h⟩
   |succ n=>simp at ho';obtain⟨x',d',h1,h2,h3,h4,h5⟩:=ih.2.1 n o' ho' (by rw[show i+1+n=i+(n+1) by omega];exact hne);exact⟨x',d',by simpa using h1,h2,h3,by rw[← h4];congr 1;omega,by rw[show i+(n+1)=i+1+n by omega];exact h5⟩
  ·cases n with
   | zero=>rw[Nat.add_zero,hi] at hc;cases hc
   |succ n=>have:=ih.2.2 n y (by simpa using hy) (by rw[show i+1+n=i+(n+1) by omega];exact hc);rw[show i+1+n=i+(n+1) by omega] at this;exact this
 |alc hi hx hr ih=>
  rename_i i o rest xs;refine⟨by simp[ih.1],λ n o' ho' hne=>?_,λ n y hy hc=>?_⟩
  ·cases n with
   | zero=>rw[Nat.add_zero,hi] at hne;cases hne
   |succ n=>simp at ho';obtain⟨x',d',h1,h2,h3,h4,h5⟩:=ih.2.1 n o' ho' (by rw[show i+1+n=i+(n+1) by omega];exact hne);exact⟨x',d',by simpa using h1,h2,h3,by rw[← h4];congr 1;omega,by rw[show i+(n+1)=i+1+n by omega];exact h5⟩
  ·cases n with
   | zero=>simp at hy;exact⟨hy.symm,hx⟩
   |succ n=>have:=ih.2.2 n y (by simpa using hy) (by rw[show i+1+n=i+(n+1) by omega];exact hc);rw[show i+1+n=i+(n+1) by omega] at this;exact this
def chkAlc(_P:Program)(ops:Array Oper)(N k:Nat)(A:List Alc):Bool:=
 A.all λ q=>decide (q.i<k)&&decide (q.d<N)&&match ops[q.i]? with
  | some o=>(match o.op with | .alloc t=>t == q.t | _=>false)&&o.guard.isNone&&o.dst == some q.d
  | none=>false
def chkZ(P:Program):List Alc->Prop
 | []=>True
 | q::r=>wW P q.t=some q.zs/\chkZ P r
theorem zb3{P:Program}:∀ {A:List Alc},chkZ P A->∀ q∈A,wW P q.t=some q.zs
 |_::_,h,q,hq=>by
  rcases List.mem_cons.1 hq with rfl | hq
  ·exact h.1
  ·exact zb3 h.2 q hq
def newB(A:List Alc)(listed:Array Bool)(β:Nat->Nat)(b:Nat):Prop:=∃ q∈A,listed.getD q.i false=true/\β q.i=b
structure RInvA(P:Program)(M:Nat->Prop)(ops:Array Oper)(N k:Nat)(T:List (List Nat))(xs:List (Nat×Dt))(A:List Alc)(a0:Act)(w1:World)(listed:Array Bool)(β:Nat->Nat)(a:Act)(w:World):Prop where
 sz:listed.size=ops.size
 size:a.tmps.size=N
 defers:a.defers=a0.defers
 ext:Ext0 w1 w
 tail:∀ i,k<=i->listed.getD i false=false
 clos:Jq T ops.size listed
 made:∀ q∈A,listed.getD q.i false=true->w1.heap.size<=β q.i/\Act.at a q.d=.pointer (some ⟨β q.i,0,none⟩)/\∃ z:Value,z.cells.toList=q.zs/\w.heap[β q.i]?=some (.cells z.cells q.t (0,0))
 apart:∀ q∈A,∀ r∈A,listed.getD q.i false=true->listed.getD r.i false=true->q.i≠r.i->β q.i≠β r.i
 done:∀ i,(A.map (·.i)).contains i=false->listed.getD i false=true->∀ x d,xs[i]?=some (d,x)->x.rd (λ b=>M b\/newB A listed β b) w (Act.at a d)
 rest:∀ t,(∀ i,listed.getD i false=true->yj ops i≠some t)->Act.at a t=Act.at a0 t
theorem draw_alc(h:wO ops k T S=true)(hk:k<=ops.size){A:List Alc}
  (hA:chkAlc P ops N k A=true) (hZ:chkZ P A)
  (hst:St F N M L a0 w1) (hreg:∀ M',(∀ b,M b->M' b)->RegA P M' ops N S L D (A.map (·.i)) 0 (ops.toList.take k) xs)
  (hQ:∀ (β:Nat->Nat) a' w',Ext0 w1 w'->a'.tmps.size=N->a'.defers=a0.defers->(∀ q∈A,w1.heap.size<=β q.i/\Act.at a' q.d=.pointer (some ⟨β q.i,0,none⟩)/\∃ z:Value,z.cells.toList=q.zs/\w'.heap[β q.i]?=some (.cells z.cells q.t (0,0)))->
   (∀ q∈A,∀ r∈A,q.i≠r.i->β q.i≠β r.i)->(∀ t x,(xs++L).lookup t=some x->(∀ q∈A,q.d≠t)->x.rd (λ b=>M b\/∃ q∈A,β q.i=b) w' (Act.at a' t))->wpList P ops Q (ops.toList.drop k) a' w'):
  ∀ (f:Nat) (listed:Array Bool) (β:Nat->Nat) (a:Act) (w:World),left ops.size listed=f->RInvA P M ops N k T xs A a0 w1 listed β a w->wpAny P .any ops Q f listed a w:=by
 have hlen:xs.length=k:=by rw[← (hreg M λ _ h=>h).get.1];simp;omega
 have hget:∀ M',(∀ b,M b->M' b)->∀ i o,i<k->(A.map (·.i)).contains i=false->ops[i]?=some o->∃ x d,xs[i]?=some (d,x)/\o.dst=some d/\d<N/\D[i]?=some x/\OpG P M' ops N (jG (S.getD i []) L D) o x:=by
  intro M' hM' i o hi hc ho;have:=(hreg M' hM').get.2.1 i o (by rw[List.getElem?_take,Ke hi];simpa using ho) (by simpa using hc);simpa using this
 have hjunk:∀ i y,xs[i]?=some y->(A.map (·.i)).contains i=true->y=(N,WQ)/\D[i]?=some WQ:=λ i y hy hc=>by simpa using(hreg M λ _ h=>h).get.2.2 i y hy (by simpa using hc)
 have hdst:∀ i x d,(A.map (·.i)).contains i=false->xs[i]?=some (d,x)->i<k/\yj ops i=some d:=by
  intro i x d hne hx;have hi:i<k:=by rw[← hlen];exact(List.getElem?_eq_some_iff.1 hx).1
  obtain⟨o,ho⟩:∃ o,ops[i]?=some o:=⟨_,Array.getElem?_eq_getElem (by omega)⟩;obtain⟨x',d',h1,h2,_⟩:=hget M (λ _ h=>h) i o hi hne ho;rw[hx] at h1;injection h1 with h1;injection h1 with h1 _;exact⟨hi,by simp[yj,ho,h2,h1]⟩
 have hAq:∀ q∈A,q.i<k/\q.d<N/\∃ o,ops[q.i]?=some o/\o.op=.alloc q.t/\o.guard=none/\o.dst=some q.d:=by
  intro q hq;have:=List.all_eq_true.1 hA q hq;simp only[Bool.and_eq_true,decide_eq_true_eq] at this;obtain⟨⟨h1,h2⟩,h3⟩:=this;refine⟨h1,h2,?_⟩;split at h3
  ·rename_i o ho;simp only[Bool.and_eq_true,beq_iff_eq,Option.isNone_iff_eq_none] at h3;obtain⟨⟨h4,h5⟩,h6⟩:=h3;refine⟨o,ho,?_,h5,h6⟩;split at h4
   ·rename_i t ht;rw[ht];congr 1;simpa using h4
   ·cases h4
  ·cases h3
 have hmemA:∀ i,(A.map (·.i)).contains i=true->∃ q∈A,q.i=i:=λ i hi=>by
  rw[List.contains_iff_mem] at hi;obtain⟨q,hq,e⟩:=List.mem_map.1 hi;exact⟨q,hq,e⟩
 have hnotA:∀ i,(A.map (·.i)).contains i=false->∀ q∈A,q.i≠i:=λ i hi q hq e=>by
  have:(A.map (·.i)).contains i=true:=by rw[List.contains_iff_mem];exact List.mem_map.2 ⟨q,hq,e⟩
  rw[hi] at this;cases this
 have finish:∀ (f:Nat) (listed:Array Bool) (β:Nat->Nat) (a:Act) (w:World),left ops.size listed=f->RInvA P M ops N k T xs A a0 w1 listed β a w->(∀ i,i<k->listed.getD i false=true)->wpAny P .any ops Q f listed a w:=by
  intro f listed β a w hf inv hall;have hnb:∀ b,(∃ q∈A,β q.i=b)->newB A listed β b:=λ b ⟨q,hq,e⟩=>⟨q,hq,hall _ (hAq q hq).1,e⟩
  refine tail_any h f k listed (by rw[← hf];exact Y6 hk hall inv.tail) (Nat.le_refl _) inv.sz hall inv.tail a w
   (hQ β a w inv.ext inv.size inv.defers (λ q hq=>inv.made q hq (hall _ (hAq q hq).1)) (λ q hq r hr hne=>inv.apart q hq r hr (hall _ (hAq q hq).1) (hall _ (hAq r hr).1) hne) (λ t x hs hno=>?_))
  rcases wV xs L t x hs with hm | ⟨hno',hl'⟩
  ·obtain⟨i,hi⟩:=List.getElem?_of_mem hm;cases hc:(A.map (·.i)).contains i with
   |true=>
    have:=(hjunk i (t,x) hi hc).1;injection this with _ e;subst e
    trivial
   | false=>exact x.weak (inv.done i hc (hall i (hdst i x t hc hi).1) x t hi) λ n _ hn=>hn.imp id (hnb n)
  ·rw[inv.rest t (λ i hi hd=>?_)]
   ·have h1:=x.ext (hst.has t x hl') inv.ext;have h2:x.rd (λ b=>M b\/∃ q∈A,β q.i=b) w1 (Act.at a0 t):=x.weak (hst.has t x hl') λ n hn hm=>hm.elim id λ⟨q,hq,e⟩=>by
     have:=(inv.made q hq (hall _ (hAq q hq).1)).1;omega
    exact x.ext h2 inv.ext
   ·have hik:i<k:=by
     rcases Nat.lt_or_ge i k with hx | hx
     ·exact hx
     ·rw[inv.tail i hx] at hi;cases hi
    obtain⟨o,ho⟩:∃ o,ops[i]?=some o:=⟨_,Array.getElem?_eq_getElem (by omega)⟩;cases hc:(A.map (·.i)).contains i with
    |true=>obtain⟨q,hq,e⟩:=hmemA i hc;obtain⟨_,_,o',ho',_,_,hd'⟩:=hAq q hq;rw[e,ho] at ho';injection ho' with ho';subst ho';simp only[yj,ho,Kd,hd',Option.some.injEq] at hd;exact hno q hq hd
    |false=>obtain⟨x',d',h1,h2,_⟩:=hget M (λ _ h=>h) i o hik hc ho;simp only[yj,ho,Kd,h2,Option.some.injEq] at hd;subst hd;exact hno' x' (List.mem_of_getElem? h1)
 intro f
 induction f with
 |zero=>
  intro listed β a w hf inv;refine finish 0 listed β a w hf inv (λ i hi=>?_);have h1:i ∉ (List.range ops.size).filter λ i=>!listed.getD i false:=by
   rw[List.eq_nil_of_length_eq_zero hf];intro h;cases h
  rw[List.mem_filter] at h1;have:¬ ((!listed.getD i false)=true):=λ hx=>h1 ⟨List.mem_range.2 (by omega),hx⟩
  simpa using this
 |succ f ih=>
  intro listed β a w hf inv;by_cases hall:∀ i,i<k->listed.getD i false=true
  ·exact finish _ listed β a w hf inv hall
  ·simp only[Classical.not_forall] at hall;obtain⟨p,hp,hup⟩:=hall;have hup:listed.getD p false=false:=by simpa using hup
   refine⟨λ hnil=>absurd hnil (zbN h inv.sz (by omega) hup),λ i hi=>?_⟩;obtain⟨hilt,hiu,hicl⟩:=zd9 h inv.clos hi;have hiu':listed.getD i false=false:=by rw[YZ (by rw[inv.sz];exact hilt) false true];exact hiu
   obtain⟨o,ho⟩:∃ o,ops[i]?=some o:=⟨_,Array.getElem?_eq_getElem hilt⟩;have hik:i<k:=by
    rcases Nat.lt_or_ge i k with hx | hx
    ·exact hx
    ·have:=hicl p ((Xh h ho).2.2.2 hx p (by omega));rw[hup] at this;cases this
   obtain⟨hS1,hS2,hdd⟩:=(Xh h ho).2.2.1 hik;have hself:(listed.setIfInBounds i true).getD i false=true:=xJ (by rw[inv.sz];exact hilt);have hlt:∀ q∈A,listed.getD q.i false=true->β q.i<w.heap.size:=λ q hq hl=>by
    obtain⟨_,_,z,_,hz⟩:=inv.made q hq hl;exact wP hz
   unfold wpOp;simp only[ho];cases hc:(A.map (·.i)).contains i with
   |true=>
    obtain⟨q,hq,hqi⟩:=hmemA i hc;obtain⟨_,hqd,o',ho',hop,hog,hod⟩:=hAq q hq;rw[hqi,ho] at ho';injection ho' with ho';subst ho';obtain⟨ti,z,hti,hzz,hzs⟩:∃ ti z,P.info? q.t=some ti/\ti.zero=some z/\z.cells.toList=q.zs:=by
     have hzc:=zb3 hZ q hq;unfold wW at hzc;cases hi':P.info? q.t with
     | none=>rw[hi'] at hzc;cases hzc
     |some ti=>
      rw[hi'] at hzc;cases hzz:ti.zero with
      | none=>simp[hzz] at hzc
      | some z=>exact⟨ti,z,Z,hzz,by simpa[hzz] using hzc⟩
    have he:Ext0 w (w.alloc (.cells z.cells q.t)):=Ext0.alloc _ _;rw[Ke (Y5 hog)];refine .inl (OpOut.wp (OpOut.of_value (v:=.pointer (some ⟨w.heap.size,0,none⟩)) (w':=w.alloc (.cells z.cells q.t)) ?_ ?_))
    ·unfold execOp;rw[hop];simp[Instr.alloc,zeroValue,typeInfo,hti,hzz,newVar,newRow,newObj,X3]
    ·have hdne:∀ r∈A,r.i≠i->listed.getD r.i false=true->some q.d≠some r.d:=λ r hr hne _=>by
      obtain⟨hrk,_,o2,ho2,_,_,hd2⟩:=hAq r hr;have h1:yj ops i=some q.d:=by simp[yj,ho,hod]
      have h2:yj ops r.i=some r.d:=by simp[yj,ho2,hd2]
      intro e;rcases Nat.lt_or_gt_of_ne hne with hlt' | hgt
      ·exact hdd r.i hlt' (by rw[h1,h2,e])
      ·obtain⟨o3,ho3⟩:∃ o3,ops[r.i]?=some o3:=⟨o2,ho2⟩;exact((Xh h ho3).2.2.1 hrk).2.2 i hgt (by rw[h1,h2,e])
     refine ih _ (λ j=>if j=i then w.heap.size else β j) _ _ (by have:=QM hilt inv.sz hiu';omega) ⟨by simpa using inv.sz,by rw[Act.put_size];exact inv.size,by rw[Act.put_defers];exact inv.defers,inv.ext.trans he,λ j hj=>?_,J8 h inv.sz inv.clos hi,λ r hr hl=>?_,λ r hr s hs hlr hls hne=>?_,λ j hjc hj y e hy=>?_,λ t ht=>?_⟩
     ·rw[zH (by omega)];exact inv.tail j hj
     ·rw[hod];by_cases hri:r.i=i
      ·have hrd:r.d=q.d/\r.t=q.t:=by
        obtain⟨_,_,o2,ho2,hop2,_,hd2⟩:=hAq r hr;rw[hri,ho] at ho2;injection ho2 with ho2;subst ho2;rw[hop] at hop2;injection hop2 with hop2;rw[hod] at hd2;injection hd2 with hd2;exact⟨hd2.symm,hop2.symm⟩
       have hrz:r.zs=q.zs:=by
        have h1:=zb3 hZ r hr;have h2:=zb3 hZ q hq;rw[hrd.2,h2] at h1;injection h1 with h1;exact h1.symm
       rw[hri,hrd.1,hrd.2,hrz];refine⟨by simp only[if_true];exact inv.ext.size,?_,z,hzs,?_⟩
       ·rw[Act.at_put_self (by rw[inv.size];exact hqd)];simp
       ·simp only[if_true];exact heap_alloc_new w _
      ·rw[zH (λ e=>hri e.symm)] at hl;obtain⟨h1,h2,z',h3,h4⟩:=inv.made r hr hl;simp only[Kf hri];refine⟨h1,?_,z',h3,?_⟩
       ·rw[Act.at_put_other (hdne r hr hri hl)];exact h2
       ·rw[he.block _ (wP h4)];exact h4
     ·by_cases hri:r.i=i
      ·have hsi:s.i≠i:=λ e=>hne (by rw[hri,e])
       rw[zH (λ e=>hsi e.symm)] at hls;simp only[Kf hsi];simp only[hri,if_true];have:=hlt s hs hls;omega
      ·rw[zH (λ e=>hri e.symm)] at hlr;simp only[Kf hri];by_cases hsi:s.i=i
       ·simp only[hsi,if_true];have:=hlt r hr hlr;omega
       ·rw[zH (λ e=>hsi e.symm)] at hls;simp only[Kf hsi];exact inv.apart r hr s hs hlr hls hne
     ·have hji:i≠j:=by
       intro e;subst e;rw[hc] at hjc;cases hjc
      rw[zH hji] at hj;have hold:=inv.done j hjc hj y e hy;rw[hod];have hne':(some q.d:Option Nat)≠some e:=by
       obtain⟨hjk,hjd⟩:=hdst j y e hjc hy;have h1:yj ops i=some q.d:=by simp[yj,ho,hod]
       intro he';rcases Nat.lt_or_gt_of_ne hji with hlt' | hgt
       ·obtain⟨o3,ho3⟩:∃ o3,ops[j]?=some o3:=⟨_,Array.getElem?_eq_getElem (by omega)⟩;exact((Xh h ho3).2.2.1 hjk).2.2 i hlt' (by rw[h1,hjd,he'])
       ·exact hdd j hgt (by rw[h1,hjd,he'])
      rw[Act.at_put_other hne'];refine y.ext (y.weak hold λ n hn hm=>hm.imp id λ⟨r,hr,hrl,hrb⟩=>?_) he;by_cases hri:r.i=i
      ·simp only[hri,if_true] at hrb;omega
      ·rw[zH (λ e=>hri e.symm)] at hrl;simp only[Kf hri] at hrb;exact⟨r,hr,hrl,hrb⟩
     ·rw[hod,Act.at_put_other]
      ·exact inv.rest t (λ j hj=>ht j (by
        by_cases hij:i=j
        ·subst hij;exact hself
        ·rw[zH hij];exact hj))
      ·have:=ht i hself;simpa[yj,ho,hod] using this
   |false=>
    obtain⟨x,d,hx,hod,hdN,hDx,hg⟩:=hget (λ b=>M b\/newB A listed β b) (λ _ h=>.inl h) i o hik hc ho;have hlook:∀ t y,jG (S.getD i []) L D t=some y->y.rd (λ b=>M b\/newB A listed β b) w (Act.at a t):=by
     intro t y hy;unfold jG at hy;split at hy
     ·rename_i j hj;have hmem:=wh _ _ _ hj;obtain⟨hd1,hT,hjk⟩:=hS1 t j hmem;obtain⟨o',ho'⟩:∃ o',ops[j]?=some o':=⟨_,Array.getElem?_eq_getElem (by omega)⟩;cases hjc:(A.map (·.i)).contains j with
      |true=>
       obtain⟨z,hz⟩:∃ z,xs[j]?=some z:=⟨_,List.getElem?_eq_getElem (by omega)⟩;rw[(hjunk j z hz hjc).2] at hy;injection hy with hy;subst hy
       trivial
      |false=>
       obtain⟨x',d',g1,g2,_,g4,_⟩:=hget M (λ _ h=>h) j o' hjk hjc ho';rw[g4] at hy;injection hy with hy;subst hy;have:d'=t:=by simpa[yj,ho',g2] using hd1
       subst this;exact inv.done j hjc (hicl j hT) _ _ g1
     ·rename_i hj;have hmem:=wh _ _ _ hj;rw[inv.rest t (λ m hm hd=>?_)]
      ·refine y.ext (y.weak (hst.has t y hy) λ n hn hm=>hm.elim id λ⟨q,hq,hl,e⟩=>?_) inv.ext;have:=(inv.made q hq hl).1;omega
      ·have hmlt:m<ops.size:=by rw[← inv.sz];exact XR hm
       have:=hS2 t hmem m hmlt hd;have:=inv.clos m hmlt hm i this;rw[hiu'] at this;cases this
     ·cases hy
    have hmok:∀ b,(M b\/newB A listed β b)->b<w.heap.size:=λ b hb=>hb.elim (λ hb=>Nat.lt_of_lt_of_le (hst.mok b hb) inv.ext.size) λ⟨q,hq,hl,e⟩=>e ▸ hlt q hq hl
    have hstep':=hg.step hmok hlook inv.size;have hiA:∀ q∈A,q.i≠i:=hnotA i hc;have hnbs:∀ b,newB A (listed.setIfInBounds i true) β b->newB A listed β b:=λ b ⟨q,hq,hl,e⟩=>⟨q,hq,by rwa[zH (λ e=>hiA q hq e.symm)] at hl,e⟩
    have hnext:∀ v w',Ext0 w w'->x.rd (λ b=>M b\/newB A listed β b) w' v->wpAny P .any ops Q f (listed.setIfInBounds i true) (a.put o.dst v) w':=by
     intro v w' he hv;refine ih _ β _ _ (by have:=QM hilt inv.sz hiu';omega) ⟨by simpa using inv.sz,by rw[Act.put_size];exact inv.size,by rw[Act.put_defers];exact inv.defers,inv.ext.trans he,λ j hj=>?_,J8 h inv.sz inv.clos hi,λ q hq hl=>?_,λ q hq r hr h1 h2 hne=>?_,λ j hjc hj y e hy=>?_,λ t ht=>?_⟩
     ·rw[zH (by omega)];exact inv.tail j hj
     ·rw[zH (λ e=>hiA q hq e.symm)] at hl;obtain⟨h1,h2,z',h3,h4⟩:=inv.made q hq hl;refine⟨h1,?_,z',h3,by rw[he.block _ (wP h4)];exact h4⟩;rw[hod,Act.at_put_other]
      ·exact h2
      ·obtain⟨hqk,_,o2,ho2,_,_,hd2⟩:=hAq q hq;have h1':yj ops i=some d:=by simp[yj,ho,hod]
       have h2':yj ops q.i=some q.d:=by simp[yj,ho2,hd2]
       intro e;rcases Nat.lt_or_gt_of_ne (hiA q hq) with hlt' | hgt
       ·exact hdd q.i hlt' (by rw[h1',h2',e])
       ·exact((Xh h ho2).2.2.1 hqk).2.2 i hgt (by rw[h1',h2',e])
     ·exact inv.apart q hq r hr (by rwa[zH (λ e=>hiA q hq e.symm)] at h1) (by rwa[zH (λ e=>hiA r hr e.symm)] at h2) hne
     ·rw[hod];by_cases hij:i=j
      ·subst hij;rw[hx] at hy;injection hy with hy;injection hy with hy1 hy2;subst hy1;subst hy2;rw[Act.at_put_self (by rw[inv.size];exact hdN)];exact x.weak hv λ n _ hn=>hn.imp id (hnbs n)
      ·rw[zH hij] at hj;obtain⟨hjk,hjd⟩:=hdst j y e hjc hy;have hne':(some d:Option Nat)≠some e:=by
        intro he';have h1:yj ops i=some d:=by simp[yj,ho,hod]
        rcases Nat.lt_or_gt_of_ne hij with hlt' | hgt
        ·obtain⟨o',ho'⟩:∃ o',ops[j]?=some o':=⟨_,Array.getElem?_eq_getElem (by omega)⟩;exact((Xh h ho').2.2.1 hjk).2.2 i hlt' (by rw[h1,hjd,he'])
        ·exact hdd j hgt (by rw[h1,hjd,he'])
       rw[Act.at_put_other hne'];exact y.ext (y.weak (inv.done j hjc hj y e hy) λ n _ hn=>hn.imp id (hnbs n)) he
     ·rw[hod,Act.at_put_other]
      ·exact inv.rest t (λ j hj=>ht j (by
        by_cases hij:i=j
        ·subst hij;exact hself
        ·rw[zH hij];exact hj))
      ·have:=ht i hself;simpa[yj,ho,hod] using this
    split
    ·rename_i hw;exact .inl (OpOut.wp ((hstep'.1 hw).mono λ v w' ⟨he,hv⟩=>hnext v w' he hv))
    ·rename_i hw;exact hnext undef w (Ext0.refl w) (hstep'.2 (by simpa using hw))
end
section
theorem za4{α β:Type}{f:α->β}:∀ {l:List α},(l.map f).Nodup->∀ x∈l,∀ y∈l,f x=f y->x=y
 |z::l,h,x,hx,y,hy,e=>by
  rw[List.map_cons,List.nodup_cons] at h;rcases List.mem_cons.1 hx with h1 | h1
  ·rcases List.mem_cons.1 hy with h2 | h2
   ·rw[h1,h2]
   ·exact absurd (List.mem_map.2 ⟨y,h2,by rw[← e,h1]⟩) h.1
  ·rcases List.mem_cons.1 hy with h2 | h2
   ·exact absurd (List.mem_map.2 ⟨x,h1,by rw[e,h2]⟩) h.1
   ·exact za4 h.2 x h1 y h2 e
structure Mk where
 c:Alc
 p:Nat
 X:Nat->Dt
 own:∀ b n,(X b).own n->some b=some n
 rd:∀ (M:Nat->Prop) (w:World) (b:Nat) (z:Value),z.cells.toList=c.zs->w.heap[b]?=some (.cells z.cells c.t (0,0))->(X b).rd M w (.pointer (some ⟨b,0,none⟩))
def mkBox{α:Type}[Rep α](i d:Nat)(t:TypeId)(zs:List Value)(p:Nat)(d0:α)(hz:∀ (M:Nat->Prop) (w:World),Rep.rdc M w zs d0):Mk where
 c:=⟨i,d,t,zs⟩
 p:=p
 X b:=dbox (some b) 0 d0
 own _ _ h:=h
 rd M w b z h1 h2:=⟨b,Z,Z,z.cells,t,zs,h2,λ j u hj=>by rw[Nat.zero_add,← Array.getElem?_toList,h1];exact hj,hz _ _⟩
def QZ(Gs:List (Nat->Prop))(β:Nat->Nat):List Mk->List (Nat->Prop)
 | []=>Gs
 | m::ms=>QZ (Gs.set m.p (oneB (some (β m.c.i)))) β ms
def mkO(β:Nat->Nat):List Mk->List (Nat×Nat×Dt)->List (Nat×Nat×Dt)
 | [],O=>O
 | m::ms,O=>(m.c.d,m.p,m.X (β m.c.i))::mkO β ms O
theorem mkO_mem{β:Nat->Nat}:∀ {ms:List Mk} {O:List (Nat×Nat×Dt)} {q:Nat×Nat×Dt},q∈mkO β ms O->(∃ m∈ms,q=(m.c.d,m.p,m.X (β m.c.i)))\/q∈O
 | [],_,_,h=>.inr h
 |m::ms,O,q,h=>by
  rcases List.mem_cons.1 h with rfl | h
  ·exact .inl ⟨m,by simp,Z⟩
  ·rcases mkO_mem h with⟨m',hm,e⟩ | h
   ·exact .inl ⟨m',by simp[hm],e⟩
   ·exact .inr h
theorem zb4{β:Nat->Nat}{c:Nat}:∀ {ms:List Mk} {Gs:List (Nat->Prop)},(ms.map (·.p)).Nodup->(∀ m∈ms,m.p<Gs.length)->
  (∀ m∈ms,zp (QZ Gs β ms) m.p c ↔ β m.c.i=c)/\(∀ p,p ∉ ms.map (·.p)->(zp (QZ Gs β ms) p c ↔ zp Gs p c))
 | [],Gs,_,_=>⟨λ m hm=>(by cases hm),λ p _=>Iff.rfl⟩
 |m::ms,Gs,hnd,hlt=>by
  rw[List.map_cons,List.nodup_cons] at hnd;obtain⟨h1,h2⟩:=zb4 (β:=β) (c:=c) (ms:=ms) (Gs:=Gs.set m.p (oneB (some (β m.c.i)))) hnd.2 (λ r hr=>by rw[List.length_set];exact hlt r (by simp[hr]));refine⟨λ r hr=>?_,λ p hp=>?_⟩
  ·rcases List.mem_cons.1 hr with rfl | hr
   ·rw[QZ,h2 r.p hnd.1,zy (hlt r (by simp))];exact⟨λ h=>by injection h,λ h=>by rw[h];rfl⟩
   ·exact h1 r hr
  ·simp only[List.map_cons,List.mem_cons,not_or] at hp;rw[QZ,h2 p hp.2,zE (Ne.symm hp.1)]
def chkOA(ops:Array Oper)(k N:Nat)(O:List (Nat×Nat×Dt)):Bool:=O.all λ q=>q.1 != N&&(List.range k).all λ i=>yj ops i != some q.1
theorem Sx.alc{id:Nat}(h:Sx F N M0 M Gs L O a w)(ms:List Mk)(hm:P.follows .mixedOrders=true)(k:Nat)(S:List (List (Nat×Option Nat)))(hc:wO ops k (cloT ops) S=true)(hkn:k<=ops.size)
  (hA:chkAlc P ops N k (ms.map (·.c))=true) (hZ:chkZ P (ms.map (·.c))) (hnd:(ms.map (·.p)).Nodup) (hni:(ms.map λ m=>m.c.i).Nodup) (hp:∀ m∈ms,m.p<Gs.length) (hs:∀ M',(∀ b,M b->M' b)->RegA P M' ops N S (L++envO O) D (ms.map λ m=>m.c.i) 0 (ops.toList.take k) xs)
  (ks:List Nat) (hk:selP ks (xs++(L++envO O))=some L2) (qs:List Nat) (hq:selR L O qs (Gs.length+1)=some O2) (hqp:O2.all (λ q=>!(ms.map (·.p)).contains q.2.1)=true) (hO2:chkOA ops k N O2=true) (hdn:(ms.all λ m=>(L2.lookup m.c.d).isNone)=true)
  (hQ:∀ (β:Nat->Nat) M' a' w',Sx F N M0 M' (QZ Gs β ms) L2 (mkO β ms O2) a' w'->wpList P ops Q (ops.toList.drop k) a' w'):(Code.region id ops true).wp P Q a w:=by
 have h':Sx F N M0 M Gs L O a { w with drawn:=w.drawn+1 }:=h.drew;refine wp_region_any hm ?_;have hall:∀ i,(Array.replicate ops.size false).getD i false=false:=λ i=>by
  rcases Nat.lt_or_ge i ops.size with hi | hi <;> simp[hi]
 have hleft:left ops.size (Array.replicate ops.size false)=ops.size:=by
  have:=Y6 (n:=ops.size) (k:=0) (listed:=Array.replicate ops.size false) (by omega) (λ i hi=>absurd hi (Nat.not_lt_zero _)) (λ i _=>hall i);simpa using this
 have hmap:(ms.map (·.c)).map (·.i)=ms.map λ m=>m.c.i:=by rw[List.map_map];rfl
 refine draw_alc (A:=ms.map (·.c)) hc hkn hA hZ h'.st (λ M' hM'=>by rw[hmap];exact hs M' hM') (λ β a' w' hex hsz hdf hmade hapart hfacts=>?_) _ _ (λ _=>0) _ _ hleft
  ⟨by simp,h'.st.size,Z,Ext0.refl _,λ i _=>hall i,λ i _ hl=>(by rw[hall i] at hl;cases hl),λ q _ hl=>(by rw[hall] at hl;cases hl),λ q _ r _ hl=>(by rw[hall] at hl;cases hl),λ i _ hl=>(by rw[hall] at hl;cases hl),λ _ _=>rfl⟩
 have hmd:∀ m∈ms,w.heap.size<=β m.c.i/\Act.at a' m.c.d=.pointer (some ⟨β m.c.i,0,none⟩)/\∃ z:Value,z.cells.toList=m.c.zs/\w'.heap[β m.c.i]?=some (.cells z.cells m.c.t (0,0)):=λ m hm=>hmade m.c (List.mem_map.2 ⟨m,hm,Z⟩)
 have hnM:∀ m∈ms,∀ n,M n->n≠β m.c.i:=λ m hm n hn e=>by
  have h1:=h'.st.mok n hn;have h2:=(hmd m hm).1;have h3:({ w with drawn:=w.drawn+1 }:World).heap.size=w.heap.size:=rfl;omega
 have hAm:∀ m∈ms,m.c.i<k/\m.c.d<N/\yj ops m.c.i=some m.c.d:=λ m hm=>by
  have:=List.all_eq_true.1 hA m.c (List.mem_map.2 ⟨m,hm,Z⟩);simp only[Bool.and_eq_true,decide_eq_true_eq] at this;obtain⟨⟨h1,h2⟩,h3⟩:=this;refine⟨h1,h2,?_⟩;split at h3
  ·rename_i o ho;simp only[Bool.and_eq_true,beq_iff_eq] at h3;simp[yj,ho,h3.2]
  ·cases h3
 have hsets:∀ n,(∀ m∈ms,zp (QZ Gs β ms) m.p n ↔ β m.c.i=n)/\(∀ p,p ∉ ms.map (·.p)->(zp (QZ Gs β ms) p n ↔ zp Gs p n)):=λ n=>zb4 hnd hp
 have hβ:∀ m∈ms,∀ r∈ms,β m.c.i=β r.c.i->m=r:=λ m hm' r hr e=>by
  by_cases hi:m.c.i=r.c.i
  ·exact za4 hni m hm' r hr hi
  ·exact absurd e (hapart m.c (List.mem_map.2 ⟨m,hm',Z⟩) r.c (List.mem_map.2 ⟨r,hr,Z⟩) hi)
 have hpos:∀ q∈O2,q.2.1 ∉ ms.map (·.p):=λ q hq'=>by
  have:=List.all_eq_true.1 hqp q hq';simpa using this
 have hos:∀ q∈O2,q.1≠N/\∀ i,i<k->yj ops i≠some q.1:=λ q hq'=>by
  have:=List.all_eq_true.1 hO2 q hq';simp only[Bool.and_eq_true,bne_iff_ne,ne_eq] at this;exact⟨this.1,λ i hi=>by simpa using List.all_eq_true.1 this.2 i (List.mem_range.2 hi)⟩
 have hsub:∀ n,((M n/\∀ m∈ms,¬ zp Gs m.p n)\/∃ m∈ms,β m.c.i=n)->(M n\/∃ q∈ms.map (·.c),β q.i=n):=λ n hn=>hn.imp (λ h=>h.1) λ⟨m,hm,e⟩=>⟨m.c,List.mem_map.2 ⟨m,hm,Z⟩,e⟩
 have hnd':∀ t x,L2.lookup t=some x->∀ q∈ms.map (·.c),q.d≠t:=λ t x hx q hq' e=>by
  obtain⟨m,hm,rfl⟩:=List.mem_map.1 hq';have:=List.all_eq_true.1 hdn m hm;rw[e,hx] at this;cases this
 refine hQ β (λ n=>(M n/\∀ m∈ms,¬ zp Gs m.p n)\/∃ m∈ms,β m.c.i=n) a' w' ⟨⟨F.ext h'.st.fr hex,hsz,by rw[hdf];exact h'.st.defers,λ n hn=>?_,λ t x hx=>?_⟩,
  ⟨λ n hn=>.inl ⟨h.ob.sub n hn,λ m _ ho=>(h.ob.at_ m.p n ho).2.2 hn⟩,λ p n hn=>?_,λ p r n hne h1 h2=>?_⟩,λ t x hx=>((xL hk).spec t x hx).2,AllOw.of λ q hq' n hn=>?_⟩
 ·rcases hn with hn | ⟨m,hm,e⟩
  ·exact Nat.lt_of_lt_of_le (h'.st.mok n hn.1) hex.size
  ·obtain⟨_,_,z,_,hz⟩:=hmd m hm;rw[← e];exact wP hz
 ·rcases yF hx with h1 | ⟨h0,h1⟩
  ·obtain⟨h2,h3⟩:=(xL hk).spec t x h1;exact x.weak (hfacts t x h2 (hnd' t x h1)) λ n _ hn=>hsub n hn
  ·obtain⟨p',hp'⟩:=X5 h1;rcases mkO_mem hp' with⟨m,hm',e⟩ | hO
   ·injection e with e1 e;injection e with e2 e3;subst e1 e3;obtain⟨_,hat,z,hz,hheap⟩:=hmd m hm';rw[hat];exact m.rd _ _ _ z hz hheap
   ·obtain⟨g1,g2,g3⟩:=jK hq _ hO;have hxs:xs.lookup t=none:=by
     cases hl:xs.lookup t with
     | none=>rfl
     |some y=>
      exfalso
      obtain⟨i,hi⟩:=List.getElem?_of_mem (zee hl);have hlen:xs.length=k:=by rw[← (hs M λ _ h=>h).get.1];simp;omega
      have hik:i<k:=by rw[← hlen];exact(List.getElem?_eq_some_iff.1 hi).1
      have hne:=(hos _ hO).2 i hik;cases hci:(ms.map λ m=>m.c.i).contains i with
      |true=>have:=((hs M λ _ h=>h).get.2.2 i (t,y) hi (by simpa using hci)).1;injection this with e1 _;exact(hos _ hO).1 e1
      |false=>obtain⟨o,ho⟩:∃ o,ops[i]?=some o:=⟨_,Array.getElem?_eq_getElem (by omega)⟩;obtain⟨x',d',e1,e2,_⟩:=(hs M λ _ h=>h).get.2.1 i o (by rw[List.getElem?_take,Ke hik];simpa using ho) (by simpa using hci);rw[hi] at e1;injection e1 with e1;injection e1 with e1 _;exact hne (by simp[yj,ho,e2,e1])
    refine x.weak (hfacts t x (by rw[yt hxs];exact g3) λ q hq' e=>?_) λ n _ hn=>hsub n hn
    obtain⟨m,hm',rfl⟩:=List.mem_map.1 hq';exact(hos _ hO).2 m.c.i (hAm m hm').1 (by rw[(hAm m hm').2.2,e])
 ·by_cases hpm:p∈ms.map (·.p)
  ·obtain⟨m,hm',rfl⟩:=List.mem_map.1 hpm;have e:=((hsets n).1 m hm').1 hn;refine⟨F.fresh h'.st.fr n (by rw[← e];exact(hmd m hm').1),.inr ⟨m,hm',e⟩,λ h0=>hnM m hm' n (h.ob.sub n h0) e.symm⟩
  ·have hn':=((hsets n).2 p hpm).1 hn;obtain⟨h1,h2,h3⟩:=h.ob.at_ p n hn';exact⟨h1,.inl ⟨h2,λ m hm' ho=>h.ob.apart p m.p n (λ e=>hpm (List.mem_map.2 ⟨m,hm',e.symm⟩)) hn' ho⟩,h3⟩
 ·by_cases hpm:p∈ms.map (·.p)
  ·obtain⟨m,hm',rfl⟩:=List.mem_map.1 hpm;have e:=((hsets n).1 m hm').1 h1;by_cases hrm:r∈ms.map (·.p)
   ·obtain⟨m2,hm2,rfl⟩:=List.mem_map.1 hrm;have e2:=((hsets n).1 m2 hm2).1 h2;exact hne (by rw[hβ m hm' m2 hm2 (e.trans e2.symm)])
   ·exact hnM m hm' n (h.ob.at_ r n (((hsets n).2 r hrm).1 h2)).2.1 e.symm
  ·have h1':=((hsets n).2 p hpm).1 h1;by_cases hrm:r∈ms.map (·.p)
   ·obtain⟨m2,hm2,rfl⟩:=List.mem_map.1 hrm;have e2:=((hsets n).1 m2 hm2).1 h2;exact hnM m2 hm2 n (h.ob.at_ p n h1').2.1 e2.symm
   ·exact h.ob.apart p r n hne h1' (((hsets n).2 r hrm).1 h2)
 ·rcases mkO_mem hq' with⟨m,hm',rfl⟩ | hO
  ·exact((hsets n).1 m hm').2 (by have:=m.own _ n hn;injection this)
  ·obtain⟨g1,g2,g3⟩:=jK hq _ hO;exact((hsets n).2 q.2.1 (hpos q hO)).2 (h.ow.get _ g1 n hn)
end
section
variable{α β γ:Type}[Rep α][Rep β][Rep γ][DecidableEq α][DecidableEq β][DecidableEq γ]
def EqV(P:Program)(k:Nat)(t:TypeId)(α:Type)[Rep α][DecidableEq α]:Prop:=
 ∀ (d:Nat) (M:Nat->Prop) (w:World) (cx cy:List Value) (x y:α),Rep.rdc M w cx x->Rep.rdc M w cy y->(Op.equalIn (d+k) t (mkv (Rep.agg α) cx) (mkv (Rep.agg α) cy)).run P w=.ok (decide (x=y)) w
def isI64(P:Program)(t:TypeId):Bool:=match P.underlying t with | some (.int .i64)=>true | _=>false
theorem EqV.int{t:TypeId}(h:isI64 P t=true):EqV P 1 t Int:=λ d M w cx cy x y hx hy=>by
 have h1:P.underlying t=some (.int .i64):=by
  unfold isI64 at h;split at h
  ·assumption
  ·cases h
 rw[hx.1,hy.1];show(Op.equalIn (d+1) t (.int .i64 x) (.int .i64 y)).run P w=_;rw[run_equalIn_int w d t .i64 .i64 x y h1]
 congr 1
theorem EqV.bool{t:TypeId}(h:isBool P t=true):EqV P 1 t Bool:=λ d M w cx cy x y hx hy=>by
 rw[hx.1,hy.1];show(Op.equalIn (d+1) t (.bool x) (.bool y)).run P w=_;rw[run_equalIn_bool w d t x y (QQ h)];cases x <;> cases y <;> rfl
theorem EqV.mono(e:EqV P k t α)(j:Nat):EqV P (k+j) t α:=λ d M w cx cy x y hx hy=>by
 have:=e (d+j) M w cx cy x y hx hy;rwa[show d+(k+j)=d+j+k by omega]
def EqF(P:Program)(k:Nat)(ls:List (TypeId×Nat))(off:Nat)(α:Type)[Rep α][DecidableEq α]:Prop:=
 ∀
  (fs : List Field), fs.map (fun f => (f.name == "_", f.type, f.offset)) = ls.map (fun q => (false, q.1, q.2)) -> ∀ (d : Nat) (M : Nat -> Prop) (w : World) (xs ys cx cy : List Value) (x y : α),
  (∀ j u,cx[j]?=some u->xs[off+j]?=some u)->(∀ j u,cy[j]?=some u->ys[off+j]?=some u)->Rep.rdc M w cx x->Rep.rdc M w cy y->(Op.eqFields (d+k) xs.toArray ys.toArray fs).run P w=.ok (decide (x=y)) w
theorem EqF.cons{k off:Nat}{t:TypeId}{ls:List (TypeId×Nat)}(ht:tyB P t (Rep.agg α) (Rep.size α)=true)(e:EqV P k t α)(r:EqF P k ls (off+Rep.size α) β):EqF P k ((t,off)::ls) off (α×β):=by
 intro fs hf d M w xs ys cx cy x y h1 h2 hx hy;obtain⟨a1,a2,rfl,k1,k2⟩:=hx;obtain⟨b1,b2,rfl,l1,l2⟩:=hy;rcases fs with _ | ⟨f,fs⟩
 ·cases hf
 ·rw[List.map_cons,List.map_cons,List.cons.injEq,Prod.mk.injEq,Prod.mk.injEq] at hf;obtain⟨⟨g1,g2,g3⟩,hf2⟩:=hf;have hn : f.name ≠ "_" := by simpa using g1
  have g2:f.type=t:=g2;have g3:f.offset=off:=g3;subst g2 g3;have m1:∀ j u,a1[j]?=some u->xs[f.offset+j]?=some u:=λ j u hj=>h1 j u (by rw[List.getElem?_append_left (List.getElem?_eq_some_iff.1 hj).1];exact hj)
  have m2:∀ j u,b1[j]?=some u->ys[f.offset+j]?=some u:=λ j u hj=>h2 j u (by rw[List.getElem?_append_left (List.getElem?_eq_some_iff.1 hj).1];exact hj)
  have n1:∀ j u,a2[j]?=some u->xs[f.offset+Rep.size α+j]?=some u:=λ j u hj=>by
   have:=h1 (Rep.size α+j) u (by rw[List.getElem?_append_right (by rw[Rep.len k1];omega),Rep.len k1,Nat.add_sub_cancel_left];exact hj);rwa[← Nat.add_assoc] at this
  have n2:∀ j u,b2[j]?=some u->ys[f.offset+Rep.size α+j]?=some u:=λ j u hj=>by
   have:=h2 (Rep.size α+j) u (by rw[List.getElem?_append_right (by rw[Rep.len l1];omega),Rep.len l1,Nat.add_sub_cancel_left];exact hj);rwa[← Nat.add_assoc] at this
  simp only[Op.eqFields,hn,ne_eq,not_false_eq_true,if_true,Sem.run_bind,run_part ht (Rep.len k1) Rep.one m1,run_part ht (Rep.len l1) Rep.one m2,Result.andThen_ok,e d M w a1 b1 x.1 y.1 k1 l1];by_cases hxy:x.1=y.1
  ·have:=r fs hf2 d M w xs ys a2 b2 x.2 y.2 n1 n2 k2 l2;simp only[hxy,decide_true,Bool.not_true,Bool.false_eq_true,if_false,this]
   congr 1
   rw[Bool.eq_iff_iff];simp[Prod.ext_iff,hxy]
  ·have:¬ x=y:=λ e=>hxy (by rw[e])
   simp[hxy,this]
def seB(P:Program)(t:TypeId)(ls:List (TypeId×Nat)):Bool:=
 (match P.underlying t with | some (.struct _) => true | _ => false) && !P.stoodInHeld t && !P.eqGuardType P.depth t && decide ((P.fieldsOf t).toList.map (fun f => (f.name == "_", f.type, f.offset)) = ls.map (fun q => (false, q.1, q.2)))
theorem EqV.struct{k:Nat}{t:TypeId}{ls:List (TypeId×Nat)}(g:γ->α)(hg:∀ x y,g x=g y->x=y)(hr:∀ {M:Nat->Prop} {w:World} {cs:List Value} {x:γ},Rep.rdc M w cs x->Rep.rdc M w cs (g x))(ha:Rep.agg γ=true)(ht:seB P t ls=true)(e:EqF P k ls 0 α):EqV P (k+1) t γ:=λ d M w cx cy x y hx hy=>by
 unfold seB at ht;simp only[Bool.and_eq_true,decide_eq_true_eq] at ht;obtain⟨⟨⟨h1,h2⟩,_⟩,h4⟩:=ht;have hS:P.underlying t=some (.struct (P.fieldsOf t)):=by
  unfold Program.fieldsOf;split at h1
  ·rename_i heq;simp only[heq]
  ·cases h1
 rw[ha];show(Op.equalIn (d+k+1) t (.agg cx.toArray) (.agg cy.toArray)).run P w=_;rw[run_equalIn_agg w (d+k) t _ _ hS (by simpa using h2),e _ h4 d M w cx cy cx cy (g x) (g y) (λ j u h=>by rwa[Nat.zero_add]) (λ j u h=>by rwa[Nat.zero_add]) (hr hx) (hr hy)]
 congr 1
 rw[Bool.eq_iff_iff];simp only[decide_eq_true_eq];exact⟨hg x y,λ e=>by rw[e]⟩
variable{look:Nat->Option Dt}
end
class FldC (α:Type) [Rep α] (i:Nat) (β:outParam Type) [outParam (Rep β)] (get:outParam (α->β)) (off:outParam Nat):Prop where
 h:Fld get off
instance:FldC Stmt 0 Int (λ x=>x.kind) 0:=⟨Stmt.fld0⟩
instance:FldC Stmt 1 Str (λ x=>x.module) 1:=⟨Stmt.fld1⟩
instance:FldC Stmt 2 Int (λ x=>x.level) 2:=⟨Stmt.fld2⟩
instance:FldC Stmt 3 Str (λ x=>x.name) 3:=⟨Stmt.fld3⟩
instance:FldC Stmt 4 Int (λ x=>x.value) 4:=⟨Stmt.fld4⟩
instance:FldC File 0 Int (λ x=>x.root) 0:=⟨File.fld0⟩
instance:FldC File 1 Str (λ x=>x.pkg) 1:=⟨File.fld1⟩
instance:FldC File 2 Str (λ x=>x.name) 2:=⟨File.fld2⟩
instance:FldC File 3 Bool (λ x=>x.init) 3:=⟨File.fld3⟩
instance:FldC File 4 Int (λ x=>x.stamp) 4:=⟨File.fld4⟩
instance:FldC File 5 (List Stmt) (λ x=>x.body) 5:=⟨File.fld5⟩
instance:FldC Tree 0 (List File) (λ x=>x.files) 0:=⟨Tree.fld0⟩
instance:FldC Spec 0 Int (λ x=>x.kind) 0:=⟨Spec.fld0⟩
instance:FldC Spec 1 Int (λ x=>x.file) 1:=⟨Spec.fld1⟩
instance:FldC Spec 2 (List Int) (λ x=>x.roots) 2:=⟨Spec.fld2⟩
instance:FldC Dir 0 Int (λ x=>x.root) 0:=⟨Dir.fld0⟩
instance:FldC Dir 1 Str (λ x=>x.pkg) 1:=⟨Dir.fld1⟩
instance:FldC Dir 2 Int (λ x=>x.stamp) 2:=⟨Dir.fld2⟩
instance:FldC Dir 3 (List Str) (λ x=>x.names) 3:=⟨Dir.fld3⟩
instance:FldC Disk 0 Tree (λ x=>x.tree) 0:=⟨Disk.fld0⟩
instance:FldC Disk 1 Int (λ x=>x.clock) 1:=⟨Disk.fld1⟩
instance:FldC Disk 2 (List Dir) (λ x=>x.dirs) 2:=⟨Disk.fld2⟩
instance:FldC Finder 0 (List Dir) (λ x=>x.dirs) 0:=⟨Finder.fld0⟩
instance:FldC Finder 1 Int (λ x=>x.fills) 1:=⟨Finder.fld1⟩
instance:FldC Finder 2 Int (λ x=>x.hits) 2:=⟨Finder.fld2⟩
instance:FldC Compiled 0 Int (λ x=>x.root) 0:=⟨Compiled.fld0⟩
instance:FldC Compiled 1 Str (λ x=>x.module) 1:=⟨Compiled.fld1⟩
instance:FldC Compiled 2 Bool (λ x=>x.init) 2:=⟨Compiled.fld2⟩
instance:FldC Compiled 3 Int (λ x=>x.mode) 3:=⟨Compiled.fld3⟩
instance:FldC Compiled 4 Int (λ x=>x.stamp) 4:=⟨Compiled.fld4⟩
instance:FldC Compiled 5 Int (λ x=>x.size) 5:=⟨Compiled.fld5⟩
instance:FldC Compiled 6 Int (λ x=>x.hash) 6:=⟨Compiled.fld6⟩
instance:FldC Compiled 7 (List Stmt) (λ x=>x.body) 7:=⟨Compiled.fld7⟩
instance:FldC GVal 0 Int (λ x=>x.kind) 0:=⟨GVal.fld0⟩
instance:FldC GVal 1 Int (λ x=>x.num) 1:=⟨GVal.fld1⟩
instance:FldC GAttr 0 Str (λ x=>x.name) 0:=⟨GAttr.fld0⟩
instance:FldC GAttr 1 GVal (λ x=>x.value) 1:=⟨GAttr.fld1⟩
instance:FldC GMod 0 Str (λ x=>x.name) 0:=⟨GMod.fld0⟩
instance:FldC GMod 1 Int (λ x=>x.kind) 1:=⟨GMod.fld1⟩
instance:FldC GMod 2 (List Int) (λ x=>x.roots) 2:=⟨GMod.fld2⟩
instance:FldC GMod 3 Bool (λ x=>x.cached) 3:=⟨GMod.fld3⟩
instance:FldC GMod 4 Bool (λ x=>x.done) 4:=⟨GMod.fld4⟩
instance:FldC GMod 5 (List GAttr) (λ x=>x.attrs) 5:=⟨GMod.fld5⟩
instance:FldC GEvent 0 Int (λ x=>x.kind) 0:=⟨GEvent.fld0⟩
instance:FldC GEvent 1 Str (λ x=>x.name) 1:=⟨GEvent.fld1⟩
instance:FldC GCmd 0 Int (λ x=>x.kind) 0:=⟨GCmd.fld0⟩
instance:FldC GCmd 1 Str (λ x=>x.name) 1:=⟨GCmd.fld1⟩
section
variable{fn:Func}{l:List Oper}{p:Nat}
variable{α β:Type}
theorem JN{look:Nat->Option Dt}{f:FuncId}{xs:List Dt}{y:Dt}(ho:o.op=.call { callee:=.value (.func f),args:=A,argTypes:=ts })(hx:ArgsR M look A.toList xs)(h:Fn P f xs y)(hf:fnB P f=true:=by kernel_rfl):OpRel P M look o y:=
 zA (l:=A.toList) (by rw[ho]) (hf:=hf) hx h
theorem WB{look:Nat->Option Dt}[Rep α][Rep β]{p:Operand}{f:Nat}{x:α}{get:α->β}(ho:o.op=.fieldAddr t p f)(hp:OpdR M look p (dptr x))[c:FldC α f β get off]{z:Dt}(e:z=dptr (get x):=by rfl)(ht:fldB P t f off=true:=by kernel_rfl):OpRel P M look o z:=e ▸ zQ c.h ho (ht:=ht) hp
theorem argsA{look:Nat->Option Dt}{l:List Operand}{xs:List Dt}(h:ArgsR M look l xs:=by repeat (first | exact .nil | apply ArgsR.cons (tp Z) | apply ArgsR.cons cI | apply ArgsR.cons cB | apply ArgsR.cons (zt) | apply ArgsR.cons jC | apply ArgsR.cons (We))):ArgsR M look l xs:=h
class CmpD (α:Type) [Rep α] (op:BinOp) (f:outParam (α->α->Bool)):Prop where
 h:∀ {P:Program} {M:Nat->Prop} {look:Nat->Option Dt} {o:Oper} {t t':TypeId} {x y:Operand} {m n:α},o.op=.binOp op t x y t'->OpdR M look x (dt m)->OpdR M look y (dt n)->OpRel P M look o (dt (f m n))
instance:CmpD Int .eql (cmpI .eql):=⟨λ a b c=>oCI a b c⟩
instance:CmpD Int .neq (cmpI .neq):=⟨λ a b c=>oCI a b c⟩
instance:CmpD Int .lss (cmpI .lss):=⟨λ a b c=>oCI a b c⟩
instance:CmpD Int .leq (cmpI .leq):=⟨λ a b c=>oCI a b c⟩
instance:CmpD Int .gtr (cmpI .gtr):=⟨λ a b c=>oCI a b c⟩
instance:CmpD Int .geq (cmpI .geq):=⟨λ a b c=>oCI a b c⟩
instance:CmpD Str .eql (λ m n=>decide (m=n)):=⟨λ a b c=>jx a b c⟩
instance:CmpD Str .neq (λ m n=>decide (m≠n)):=⟨λ a b c=>QO a b c⟩
theorem oCA{look:Nat->Option Dt}[Rep α]{f:α->α->Bool}{r:Operand}{m n:α}(ho:o.op=.binOp op t q r t')(hx:OpdR M look q (dt m))(hy:OpdR M look r (dt n))[c:CmpD α op f]{z:Dt}(e:z=dt (f m n):=by rfl):OpRel P M look o z:=e ▸ c.h ho hx hy
class LenD (α:Type) [Rep α] (k:outParam (Program->TypeId->Bool)) (f:outParam (α->Nat)):Prop where
 h:∀ {P:Program} {M:Nat->Prop} {look:Nat->Option Dt} {o:Oper} {t:TypeId} {s:Operand} {x:α},o.op=.call { callee:=.builtin .len,args:=#[s],argTypes:=#[t] }->k P t=true->OpdR M look s (dt x)->OpRel P M look o (dt (f x:Int))
instance:LenD Str Wm (λ x=>x.l.length):=⟨λ a b c=>op_lenS a (ht:=b) c⟩
instance {α:Type} [Rep α]:LenD (List α) isSl (λ x=>x.length):=⟨λ a b c=>Wr a (ht:=b) c⟩
theorem oLA{look:Nat->Option Dt}[Rep α]{k:Program->TypeId->Bool}{f:α->Nat}{m:α}(ho:o.op=.call { callee:=.builtin .len,args:=#[q],argTypes:=#[t] })(hx:OpdR M look q (dt m))[c:LenD α k f](ht:k P t=true:=by kernel_rfl):OpRel P M look o (dt (f m:Int)):=c.h ho ht hx
theorem opA{look:Nat->Option Dt}(h:OpRel P M look o x:=by
  first
   | exact oM Z (tp Z)
   | exact oA Z (tp Z)
   | exact oA Z cI
   | exact qe Z (tp Z)
   | exact oCA Z (tp Z) (tp Z)
   | exact oCA Z (tp Z) cI
   | exact zz Z (tp Z)
   | exact oA Z cB
   | exact oM Z cI
   | exact oM Z cB
   | exact WB Z (tp Z)
   | exact JN Z argsA (by assumption)
   | exact oLA Z (tp Z)
   | exact xAr Z (tp Z) cI (by assumption)
   | exact xAr Z (tp Z) (tp Z) (by assumption)
   | exact xAr Z cI (tp Z) (by assumption)
   | exact xIdx Z (tp Z) (tp Z) (by assumption)
   | exact oCA Z (tp Z) (zt)
   | exact oA Z (zt)
   | exact oM Z (zt)
   | exact xExt Z (tp Z) Z
   | exact xByte Z (tp Z) (tp Z) (by assumption)
   | exact xCat Z (tp Z) (tp Z) (by assumption)
   | exact xCutL Z (tp Z) (tp Z) (by assumption)
   | exact xCutH Z (tp Z) (tp Z) (by assumption)
   | exact xCutLH Z (tp Z) (tp Z) (tp Z) (by assumption)
   | exact Yv Z (tp Z)
   | exact xk Z (tp Z) (tp Z)
   | exact Za Z (tp Z) (tp Z)):OpRel P M look o x:=h
theorem opdB{look:Nat->Option Dt}{y:Dt}(h:OpdR M look q y:=by first | exact tp Z | exact cI | exact zq (by assumption) Z | exact cB | exact zt | exact We):OpdR M look q y:=h
theorem argsB{look:Nat->Option Dt}{l:List Operand}{xs:List Dt}(h:ArgsR M look l xs:=by repeat (first | exact .nil | apply ArgsR.cons (tp Z) | apply ArgsR.cons (zq (by assumption) Z) | apply ArgsR.cons cI | apply ArgsR.cons cB | apply ArgsR.cons (zt) | apply ArgsR.cons jC | apply ArgsR.cons (We))):ArgsR M look l xs:=h
theorem oK{look:Nat->Option Dt}{f:FuncId}{xs:List Dt}{y:Dt}(h:Fn P f xs y)(ho:o.op=.call { callee:=.value (.func f),args:=A,argTypes:=ts }:=by rfl)(hf:fnB P f=true:=by kernel_rfl)(hx:ArgsR M look A.toList xs:=by exact argsB):OpRel P M look o y:=JN ho (hf:=hf) hx h
theorem opGA{look:Nat->Option Dt}(h:OpRel P M look o x:=by
  first
   | exact oM Z opdB
   | exact zz Z opdB
   | exact WB Z opdB
   | exact qe Z opdB
   | exact oCI Z opdB opdB
   | exact jx Z opdB opdB
   | exact QO Z opdB opdB
   | exact oLA Z opdB
   | exact oA Z opdB):OpRel P M look o x:=h
theorem bsW{e:Option α}{f:α->Option β}{r:β}{C:α->Prop}(h:e.bind f=some r)(c:∀ {x:α},e=some x->C x):∃ x,C x/\f x=some r:=by
 have⟨x,h1,h2⟩:=bs h;exact⟨x,c h1,h2⟩
theorem segA(h:Seg P M ops N L l L':=by repeat (first | exact .nil | apply sc rfl opA | apply sg rfl rfl (λ _=>opGA))):Seg P M ops N L l L':=h
theorem Seg.app(h:Seg P M ops N L l1 L1)(k:Seg P M ops N L1 l2 L2):Seg P M ops N L (l1++l2) L2:=by
 induction h with
 | nil=>exact k
 | cons hd hN h hr ih=>exact .cons hd hN h (ih k)
theorem sp(n:Nat)(h:Seg P M ops N L (l.take n) L1:=by exact segA)(r:Seg P M ops N L1 (l.drop n) L'):Seg P M ops N L l L':=by
 have:=h.app r;rwa[List.take_append_drop] at this
theorem owA(h:AllOw Gs O:=by repeat (first | exact trivial | refine⟨λ _ h=>h,?_⟩ | refine⟨λ _ h=>(by cases h),?_⟩)):AllOw Gs O:=h
theorem Sx.fin(h:Sx F N M0 M Gs L O a w)(hk:selP (L2.map (·.1)) (L++envO O)=some L2:=by rfl)(hq:selQ (O2.map λ q=>(q.1,q.2.1)) (L++envO O)=some O2:=by rfl)(hw:AllOw Gs O2:=by exact owA):Sx F N M0 M Gs L2 O2 a w:=h.sel _ hk _ hq hw
theorem fx{T:Prop}(h:T:=by(repeat (apply Exists.intro));exact Sx.fin (by assumption)):T:=h
theorem fl{σ:Type}{x:σ⊕β}{s:σ}{T:σ->Prop}(h:some (Sum.inl s)=some x)(k:T s:=by exact fx):∃ s',x=.inl s'/\T s':=⟨s,(Option.some.inj h).symm,k⟩
theorem Sx.sqA(h:Sx F N M0 M Gs L O a w){id:Nat}{c2:Code}(ks:List Nat)(qp:List (Nat×Nat))(hQ:∀{a' w'},Sx F N M0 M Gs L2 O2 a' w'->c2.wp P Q a' w')
  (hs:Seg P M ops N (L++envO O) ops.toList L':=by exact segA) (hk:selP ks L'=some L2:=by rfl) (hq:selQ qp L'=some O2:=by rfl) (hw:AllOw Gs O2:=by exact owA):(Code.seq (Code.region id ops false) c2).wp P Q a w:=
 h.sq hs ks hk qp hq hw (λ _ _ h_=>hQ h_)
theorem Sx.sq1(h:Sx F N M0 M Gs L O a w){id:Nat}{c2:Code}(ks:List Nat)(hQ:∀{a' w'},Sx F N M0 M Gs L2 [] a' w'->c2.wp P Q a' w')
  (hs:Seg P M ops N (L++envO O) ops.toList L':=by exact segA) (hk:selP ks L'=some L2:=by rfl):(Code.seq (Code.region id ops false) c2).wp P Q a w:=
 h.sq0 hs ks hk (λ _ _ h_=>hQ h_)
theorem Sx.rgA(h:Sx F N M0 M Gs L O a w){id:Nat}(ks:List Nat)(qp:List (Nat×Nat))(hQ:∀{a' w'},Sx F N M0 M Gs L2 O2 a' w'->Q .normal a' w')
  (hs:Seg P M ops N (L++envO O) ops.toList L':=by exact segA) (hk:selP ks L'=some L2:=by rfl) (hq:selQ qp L'=some O2:=by rfl) (hw:AllOw Gs O2:=by exact owA):(Code.region id ops false).wp P Q a w:=
 h.rg hs ks hk qp hq hw (λ _ _ h_=>hQ h_)
theorem Sx.rg1(h:Sx F N M0 M Gs L O a w){id:Nat}(ks:List Nat)(hQ:∀ a' w',Sx F N M0 M Gs L2 [] a' w'->Q .normal a' w')
  (hs:Seg P M ops N (L++envO O) ops.toList L':=by exact segA) (hk:selP ks L'=some L2:=by rfl):(Code.region id ops false).wp P Q a w:=
 h.rg0 hs ks hk hQ
theorem Sx.segA(h:Sx F N M0 M Gs L O a w)(n:Nat)(ks:List Nat)(qp:List (Nat×Nat))(hQ:∀{a' w'},Sx F N M0 M Gs L2 O2 a' w'->wpList P ops Q (l.drop n) a' w')
  (hs:Seg P M ops N (L++envO O) (l.take n) L':=by exact segA) (hk:selP ks L'=some L2:=by rfl) (hq:selQ qp L'=some O2:=by rfl) (hw:AllOw Gs O2:=by exact owA):wpList P ops Q l a w:=
 h.seg n hs ks hk qp hq hw (λ _ _ h_=>hQ h_)
theorem Sx.sqB(h:Sx F N M0 M Gs L O a w){id:Nat}{c2:Code}(hs:Seg P M ops N (L++envO O) ops.toList L')(ks:List Nat)(qp:List (Nat×Nat))(hQ:∀{a' w'},Sx F N M0 M Gs L2 O2 a' w'->c2.wp P Q a' w')
  (hk:selP ks L'=some L2:=by rfl) (hq:selQ qp L'=some O2:=by rfl) (hw:AllOw Gs O2:=by exact owA):(Code.seq (Code.region id ops false) c2).wp P Q a w:=
 h.sq hs ks hk qp hq hw (λ _ _ h_=>hQ h_)
theorem Sx.sq2(h:Sx F N M0 M Gs L O a w){id:Nat}{c2:Code}(hs:Seg P M ops N (L++envO O) ops.toList L')(ks:List Nat)(hQ:∀{a' w'},Sx F N M0 M Gs L2 [] a' w'->c2.wp P Q a' w')
  (hk:selP ks L'=some L2:=by rfl):(Code.seq (Code.region id ops false) c2).wp P Q a w:=
 h.sq0 hs ks hk (λ _ _ h_=>hQ h_)
theorem Sx.rgB(h:Sx F N M0 M Gs L O a w){id:Nat}(hs:Seg P M ops N (L++envO O) ops.toList L')(ks:List Nat)(qp:List (Nat×Nat))(hQ:∀{a' w'},Sx F N M0 M Gs L2 O2 a' w'->Q .normal a' w')
  (hk:selP ks L'=some L2:=by rfl) (hq:selQ qp L'=some O2:=by rfl) (hw:AllOw Gs O2:=by exact owA):(Code.region id ops false).wp P Q a w:=
 h.rg hs ks hk qp hq hw (λ _ _ h_=>hQ h_)
theorem Sx.rg2(h:Sx F N M0 M Gs L O a w){id:Nat}(hs:Seg P M ops N (L++envO O) ops.toList L')(ks:List Nat)(hQ:∀ a' w',Sx F N M0 M Gs L2 [] a' w'->Q .normal a' w')
  (hk:selP ks L'=some L2:=by rfl):(Code.region id ops false).wp P Q a w:=
 h.rg0 hs ks hk hQ
theorem Sx.segB(h:Sx F N M0 M Gs L O a w)(n:Nat)(hs:Seg P M ops N (L++envO O) (l.take n) L')(ks:List Nat)(qp:List (Nat×Nat))(hQ:∀{a' w'},Sx F N M0 M Gs L2 O2 a' w'->wpList P ops Q (l.drop n) a' w')
  (hk:selP ks L'=some L2:=by rfl) (hq:selQ qp L'=some O2:=by rfl) (hw:AllOw Gs O2:=by exact owA):wpList P ops Q l a w:=
 h.seg n hs ks hk qp hq hw (λ _ _ h_=>hQ h_)
def selT:List Nat->Env->Option Env
 | [],_=>some []
 |k::ks,L=>match L.lookup k with
  |some x=>match selT ks L with
   | some r=>some ((k,x)::r)
   | none=>none
  | none=>none
theorem zcY{L:Env}:∀ {ks:List Nat} {L2:Env},selT ks L=some L2->Pick (λ _=>True) L L2
 | [],L2,h=>by simp[selT] at h;subst h;exact .nil
 |k::ks,L2,h=>by
  unfold selT at h;split at h
  ·rename_i x hx;split at h
   ·rename_i r hr;injection h with h;subst h;exact .cons hx trivial (zcY hr)
   ·cases h
  ·cases h
theorem pT(ks:List Nat)(h:selT ks L=some L2:=by rfl):Pick (λ _=>True) L L2:=zcY h
theorem zj(hst:St F N M L a w){id:Nat}(ks:List Nat)(h:∀ a' w',Ext0 w w'->St F N M L2 a' w'->Q .normal a' w')(hs:Seg P M ops N L ops.toList L':=by exact segA)(hp:selT ks L'=some L2:=by rfl):(Code.region id ops false).wp P Q a w:=
 zea hst hs (zcY hp) h
theorem zk(hst:St F N M L a w){id:Nat}(hs:Seg P M ops N L ops.toList L')(ks:List Nat)(h:∀ a' w',Ext0 w w'->St F N M L2 a' w'->Q .normal a' w')(hp:selT ks L'=some L2:=by rfl):(Code.region id ops false).wp P Q a w:=
 zea hst hs (zcY hp) h
end
theorem bsB{e:Option α}{f:α->Option β}{g:α->β->Option γ}{r:γ}(h:(e.bind λ x=>(f x).bind (g x))=some r):∃ x,e=some x/\∃ y,f x=some y/\g x y=some r:=by
 have⟨x,h1,h2⟩:=bs h;exact⟨x,h1,bs h2⟩
theorem bsC{e:Option α}{f:α->Option β}{g:α->β->Option γ}{k:α->β->γ->Option δ}{r:δ}(h:(e.bind λ x=>(f x).bind λ y=>(g x y).bind (k x y))=some r):∃ x,e=some x/\∃ y,f x=some y/\∃ z,g x y=some z/\k x y z=some r:=by
 have⟨x,h1,h2⟩:=bs h;exact⟨x,h1,bsB h2⟩
theorem bsD{ε:Type}{e:Option α}{f:α->Option β}{g:α->β->Option γ}{k:α->β->γ->Option δ}{m:α->β->γ->δ->Option ε}{r:ε}(h:(e.bind λ x=>(f x).bind λ y=>(g x y).bind λ z=>(k x y z).bind (m x y z))=some r):∃ x,e=some x/\∃ y,f x=some y/\∃ z,g x y=some z/\∃ u,k x y z=some u/\m x y z u=some r:=by
 have⟨x,h1,h2⟩:=bs h;exact⟨x,h1,bsC h2⟩
attribute [local irreducible] OpRel OpdR
def wq(P:Program):Code->(Exit->Act->World->Prop)->Act->World->Prop
 | .skip,Q=>Q .normal
 | .exit i,Q=>Q (.exit i)
 | .ret,Q=>Q .ret
 | .seq x y,Q=>wq P x (Exit.then (wq P y Q) Q)
 | .block i c,Q=>wq P c (Exit.inBlock i Q)
 | c,Q=>λ a w=>c.wp P Q a w
theorem wqw{P:Program}:∀ {c:Code} {Q:Exit->Act->World->Prop} {a:Act} {w:World},wq P c Q a w->c.wp P Q a w
 | .skip,_,_,_,h=>wp_skip h
 | .exit _,_,_,_,h=>wp_exit h
 | .ret,_,_,_,h=>wp_ret h
 |.seq _ _,_,_,_,h=>Kc (Code.wp_mono (λ e a' w' q=>by
  cases e with
  | normal=>exact wqw q
  | _=>exact q) (wqw h))
 | .block _ _,_,_,_,h=>wp_block (wqw h)
 | .region ..,_,_,_,h=>h
 | .cond ..,_,_,_,h=>h
 | .loop _,_,_,_,h=>h
 | .rangeFunc ..,_,_,_,h=>h
 | .scope _,_,_,_,h=>h
 | .label _,_,_,_,h=>h
 | .goto _,_,_,_,h=>h
 | .refuse _,_,_,_,h=>h
theorem wq_mono{P:Program}:∀ {c:Code} {Q Q':Exit->Act->World->Prop} {a:Act} {w:World},(∀ e a w,Q e a w->Q' e a w)->wq P c Q a w->wq P c Q' a w
 | .skip,_,_,_,_,k,h=>k _ _ _ h
 | .exit _,_,_,_,_,k,h=>k _ _ _ h
 | .ret,_,_,_,_,k,h=>k _ _ _ h
 |.seq x y,Q,Q',_,_,k,h=>wq_mono (c:=x) (Q:=Exit.then (wq P y Q) Q) (Q':=Exit.then (wq P y Q') Q') (λ e a' w' q=>by
  cases e with
  | normal=>exact wq_mono (c:=y) k q
  | _=>exact k _ _ _ q) h
 |.block i x,Q,Q',_,_,k,h=>wq_mono (c:=x) (Q:=Exit.inBlock i Q) (Q':=Exit.inBlock i Q') (λ e a' w' q=>by
  cases e with
  |exit j=>
   unfold Exit.inBlock at q ⊢;simp only at q ⊢;split at q
   ·rename_i h;rw[Ke h];exact k _ _ _ q
   ·rename_i h;rw[Kf h];exact k _ _ _ q
  | _=>exact k _ _ _ q) h
 | .region ..,_,_,_,_,k,h=>Code.wp_mono k h
 | .cond ..,_,_,_,_,k,h=>Code.wp_mono k h
 | .loop _,_,_,_,_,k,h=>Code.wp_mono k h
 | .rangeFunc ..,_,_,_,_,k,h=>Code.wp_mono k h
 | .scope _,_,_,_,_,k,h=>Code.wp_mono k h
 | .label _,_,_,_,_,k,h=>Code.wp_mono k h
 | .goto _,_,_,_,_,k,h=>Code.wp_mono k h
 | .refuse _,_,_,_,_,k,h=>Code.wp_mono k h
def kp:Env->Env->Option Env
 | [],_=>some []
 |(s,x)::r,seen=>match seen.lookup s with
  | some _=>kp r seen
  |none=>match x.nb with
   |true=>match kp r ((s,x)::seen) with
    | some r'=>some ((s,x)::r')
    | none=>none
   | false=>kp r ((s,x)::seen)
theorem kp_spec:∀ {L seen L2:Env},kp L seen=some L2->∀ s x,L2.lookup s=some x->seen.lookup s=none/\L.lookup s=some x/\x.nb=true
 | [],_,L2,h,s,x,hx=>by simp[kp] at h;subst h;cases hx
 |(t,y)::r,seen,L2,h,s,x,hx=>by
  unfold kp at h;split at h
  ·rename_i hs;obtain⟨h1,h2,h3⟩:=kp_spec h s x hx;have hne:(s == t)=false:=by
    cases e:s == t with
    | false=>rfl
    | true=>rw[eq_of_beq e,hs] at h1;cases h1
   exact⟨h1,by rw[List.lookup_cons,hne];exact h2,h3⟩
  ·rename_i hs;have next:∀ {L3:Env},kp r ((t,y)::seen)=some L3->L3.lookup s=some x->seen.lookup s=none/\List.lookup s ((t,y)::r)=some x/\x.nb=true:=λ h hx=>by
    obtain⟨h1,h2,h3⟩:=kp_spec h s x hx;rw[List.lookup_cons] at h1;rw[List.lookup_cons];cases e:s == t with
    | true=>rw[e] at h1;cases h1
    | false=>rw[e] at h1;exact⟨h1,h2,h3⟩
   split at h
   ·rename_i hn;split at h
    ·rename_i r' hr;injection h with h;subst h;rw[List.lookup_cons] at hx;cases e:s == t with
     |true=>rw[e] at hx;injection hx with hx;subst hx;rw[eq_of_beq e];exact⟨hs,by rw[List.lookup_cons,beq_self_eq_true],hn⟩
     | false=>rw[e] at hx;exact next hr hx
    ·cases h
   ·exact next h hx
section
variable{fn:Func}{l:List Oper}{p id:Nat}
variable{α β σ:Type}{B:Option β}
theorem Sx.of_kp(h:St F N M E a w)(ob:Objs F M0 M Gs)(hk:kp E []=some L2)(hq:selQ qp E=some O2)(hw:AllOw Gs O2):Sx F N M0 M Gs L2 O2 a w:=
 ⟨h.env (λ s x hx=>by
  rcases yF hx with h | ⟨_,h⟩
  ·exact(kp_spec hk s x h).2.1
  ·exact envO_sel hq s x h),ob,λ s x hx=>(kp_spec hk s x hx).2.2,hw⟩
theorem Sx.go(h:Sx F N M0 M Gs L O a w)(hs:Seg P M ops N (L++envO O) ops.toList L')(hk:kp L' []=some L2)(hq:selQ qp L'=some O2)(hw:AllOw Gs O2)
  (next:∀ a' w',Sx F N M0 M Gs L2 O2 a' w'->Q .normal a' w'):(Code.region id ops false).wp P Q a w:=by
 refine Ka ?_;have:=J7 (rest:=[]) (Q:=Q) hs h.st (λ a' w' he hst'=>Kb (next a' w' (.of_kp hst' h.ob hk hq hw)));simpa using this
instance:CmpD UInt8 .eql (cmpB .eql):=⟨λ a b c=>oCB a b c⟩
instance:CmpD UInt8 .neq (cmpB .neq):=⟨λ a b c=>oCB a b c⟩
instance:CmpD UInt8 .lss (cmpB .lss):=⟨λ a b c=>oCB a b c⟩
instance:CmpD UInt8 .leq (cmpB .leq):=⟨λ a b c=>oCB a b c⟩
instance:CmpD UInt8 .gtr (cmpB .gtr):=⟨λ a b c=>oCB a b c⟩
instance:CmpD UInt8 .geq (cmpB .geq):=⟨λ a b c=>oCB a b c⟩
class Ct0 (P:Program) (f:FuncId) {β:outParam Type} (re:outParam (β->Dt)) (m:outParam (Option β)):Prop where
 h:∀ {r},m=some r->Fn P f [] (re r)
class Ct1 (P:Program) (f:FuncId) {α β:outParam Type} (k:outParam (α->Dt)) (re:outParam (β->Dt)) (m:outParam (α->Option β)):Prop where
 h:∀ {x r},m x=some r->Fn P f [k x] (re r)
class Ct2 (P:Program) (f:FuncId) {α β γ:outParam Type} (k:outParam (α->Dt)) (k2:outParam (β->Dt)) (re:outParam (γ->Dt)) (m:outParam (α->β->Option γ)):Prop where
 h:∀ {x y r},m x y=some r->Fn P f [k x,k2 y] (re r)
class Ct3 (P:Program) (f:FuncId) {α β γ δ:outParam Type} (k:outParam (α->Dt)) (k2:outParam (β->Dt)) (k3:outParam (γ->Dt)) (re:outParam (δ->Dt)) (m:outParam (α->β->γ->Option δ)):Prop where
 h:∀ {x y z r},m x y z=some r->Fn P f [k x,k2 y,k3 z] (re r)
class Ct4 (P:Program) (f:FuncId) {α β γ δ ε:outParam Type} (k:outParam (α->Dt)) (k2:outParam (β->Dt)) (k3:outParam (γ->Dt)) (k4:outParam (δ->Dt)) (re:outParam (ε->Dt)) (m:outParam (α->β->γ->δ->Option ε)):Prop where
 h:∀ {x y z u r},m x y z u=some r->Fn P f [k x,k2 y,k3 z,k4 u] (re r)
class ArC (op:BinOp) (f:outParam (Int->Int->Int)):Prop where
 h:∀ m n,arI op m n=f m n
 o:op=.add\/op=.sub\/op=.mul
instance:ArC .add (λ m n=>m+n):=⟨λ _ _=>Z,by decide⟩
instance:ArC .sub (λ m n=>m - n):=⟨λ _ _=>Z,by decide⟩
instance:ArC .mul (λ m n=>m*n):=⟨λ _ _=>Z,by decide⟩
theorem xArC{look:Nat->Option Dt}{f:Int->Int->Int}{n:Int}(ho:o.op=.binOp op t q y t')(hx:OpdR M look q (dt m))(hy:OpdR M look y (dt n))[c:ArC op f](hm:i64 (f m n)=some r):OpRel P M look o (dt r):=xAr ho hx hy (by rw[c.h];exact hm) c.o
theorem opY{look:Nat->Option Dt}(h:OpRel P M look o x:=by
  first
   | exact oM Z (tp Z)
   | exact oA Z (tp Z)
   | exact oA Z cI
   | exact qe Z (tp Z)
   | exact oCA Z (tp Z) (tp Z)
   | exact oCA Z (tp Z) cI
   | exact zz Z (tp Z)
   | exact oA Z cB
   | exact oM Z cI
   | exact oM Z cB
   | exact WB Z (tp Z)
   | exact oLA Z (tp Z)
   | exact xArC Z (tp Z) cI (by with_reducible assumption)
   | exact xArC Z (tp Z) (tp Z) (by with_reducible assumption)
   | exact xArC Z cI (tp Z) (by with_reducible assumption)
   | exact xIdx Z (tp Z) (tp Z) (by with_reducible assumption)
   | exact oCA Z (tp Z) (zt)
   | exact oA Z (zt)
   | exact oM Z (zt)
   | exact xExt Z (tp Z) Z
   | exact xByte Z (tp Z) (tp Z) (by with_reducible assumption)
   | exact xCat Z (tp Z) (tp Z) (by with_reducible assumption)
   | exact xCutL Z (tp Z) (tp Z) (by with_reducible assumption)
   | exact xCutH Z (tp Z) (tp Z) (by with_reducible assumption)
   | exact xCutLH Z (tp Z) (tp Z) (tp Z) (by with_reducible assumption)
   | exact Yv Z (tp Z)
   | exact xk Z (tp Z) (tp Z)
   | exact Za Z (tp Z) (tp Z)
   | exact xMin Z (tp Z) (tp Z)
   | (apply JN Z argsA;first | exact Ct1.h (by with_reducible assumption) | exact Ct2.h (by with_reducible assumption) | exact Ct3.h (by with_reducible assumption) | exact Ct4.h (by with_reducible assumption) | exact Ct0.h (by with_reducible assumption) | with_reducible assumption)
   | exact op_eqT Z (tp Z) opdB
   | exact op_neT Z (tp Z) opdB
   | exact xSliLH Z opdB opdB opdB (by with_reducible assumption)
   | exact xSliL Z opdB opdB (by with_reducible assumption)
   | exact za1 Z opdB opdB (by with_reducible assumption)
   | exact xArC Z opdB opdB (by with_reducible assumption)
   | exact oCA Z opdB opdB
   | exact xCat Z opdB opdB (by with_reducible assumption)
   | exact xIdx Z opdB opdB (by with_reducible assumption)
   | exact xByte Z opdB opdB (by with_reducible assumption)
   | exact xCutL Z opdB opdB (by with_reducible assumption)
   | exact xCutH Z opdB opdB (by with_reducible assumption)
   | exact xCutLH Z opdB opdB opdB (by with_reducible assumption)):OpRel P M look o x:=h
theorem opGY{look:Nat->Option Dt}(h:OpRel P M look o x:=by
  first
   | exact oM Z opdB
   | exact zz Z opdB
   | exact WB Z opdB
   | exact qe Z opdB
   | exact oCA Z opdB opdB
   | exact oLA Z opdB
   | exact oA Z opdB
   | exact op_eqT Z opdB opdB
   | exact op_neT Z opdB opdB
   | exact xArC Z opdB opdB (gh (by with_reducible assumption) (by with_reducible assumption))
   | exact xIdx Z opdB opdB (gh (by with_reducible assumption) (by with_reducible assumption))
   | exact xByte Z opdB opdB (gh (by with_reducible assumption) (by with_reducible assumption))
   | exact xCat Z opdB opdB (gh (by with_reducible assumption) (by with_reducible assumption))
   | exact xCutH Z opdB opdB (gh (by with_reducible assumption) (by with_reducible assumption))
   | exact xCutL Z opdB opdB (gh (by with_reducible assumption) (by with_reducible assumption))
   | exact za1 Z opdB opdB (gh (by with_reducible assumption) (by with_reducible assumption))
   | (apply JN Z argsB;first | exact Ct1.h (gh (by with_reducible assumption) (by with_reducible assumption)) | exact Ct2.h (gh (by with_reducible assumption) (by with_reducible assumption)) | exact Ct3.h (gh (by with_reducible assumption) (by with_reducible assumption)))):OpRel P M look o x:=h
theorem segY(h:Seg P M ops N L l L':=by repeat (first | exact .nil | apply sc rfl opY | apply sg rfl rfl (λ _=>opGY))):Seg P M ops N L l L':=h
theorem sY(n:Nat)(h:Seg P M ops N L (l.take n) L1:=by exact segY)(r:Seg P M ops N L1 (l.drop n) L'):Seg P M ops N L l L':=sp n h r
theorem Sx.q1(h:Sx F N M0 M Gs L O a w)(next:∀{a' w'},Sx F N M0 M Gs L2 [] a' w'->Q .normal a' w')(hs:Seg P M ops N (L++envO O) ops.toList L':=by exact segY)(hk:kp L' []=some L2:=by rfl):(Code.region id ops false).wp P Q a w:=
 h.go (qp:=[]) hs hk Z trivial (λ _ _ h_=>next h_)
theorem Sx.qo(h:Sx F N M0 M Gs L O a w)(qp:List (Nat×Nat))(next:∀ a' w',Sx F N M0 M Gs L2 O2 a' w'->Q .normal a' w')(hs:Seg P M ops N (L++envO O) ops.toList L':=by exact segY)(hk:kp L' []=some L2:=by rfl)(hq:selQ qp L'=some O2:=by rfl)(hw:AllOw Gs O2:=by exact owA):(Code.region id ops false).wp P Q a w:=
 h.go hs hk hq hw next
theorem Sx.go2(h:Sx F N M0 M Gs L O a w)(n:Nat)(hs:Seg P M ops N (L++envO O) (l.take n) L')(hk:kp L' []=some L2)(hq:selQ qp L'=some O2)(hw:AllOw Gs O2)
  (next:∀ a' w',Sx F N M0 M Gs L2 O2 a' w'->wpList P ops Q (l.drop n) a' w'):wpList P ops Q l a w:=by
 have:=J7 (rest:=l.drop n) (Q:=Q) hs h.st (λ a' w' he hst'=>next a' w' (.of_kp hst' h.ob hk hq hw));rwa[List.take_append_drop] at this
theorem Sx.g1(h:Sx F N M0 M Gs L O a w)(n:Nat)(next:∀ a' w',Sx F N M0 M Gs L2 [] a' w'->wpList P ops Q (l.drop n) a' w')(hs:Seg P M ops N (L++envO O) (l.take n) L':=by exact segY)(hk:kp L' []=some L2:=by rfl):wpList P ops Q l a w:=
 h.go2 (qp:=[]) n hs hk Z trivial next
theorem Sx.go_(h:Sx F N M0 M Gs L O a w)(n:Nat)(qp:List (Nat×Nat))(next:∀ a' w',Sx F N M0 M Gs L2 O2 a' w'->wpList P ops Q (l.drop n) a' w')(hs:Seg P M ops N (L++envO O) (l.take n) L':=by exact segY)(hk:kp L' []=some L2:=by rfl)(hq:selQ qp L'=some O2:=by rfl)(hw:AllOw Gs O2:=by exact owA):wpList P ops Q l a w:=
 h.go2 n hs hk hq hw next
theorem wqs{x y:Code}(h:wq P x (Exit.then (wq P y Q) Q) a w):wq P (.seq x y) Q a w:=h
theorem wqk(h:Q .normal a w):wq P .skip Q a w:=h
theorem wqb{x:Code}(h:wq P x (Exit.inBlock i Q) a w):wq P (.block i x) Q a w:=h
theorem Sx.cq{c:Nat}{x z:Code}{A:Option β}{r:β}(h:Sx F N M0 M Gs L O a w)(hm:(if b=true then A else B)=some r)(ht:A=some r->wq P x Q a w)(hf:B=some r->wq P z Q a w)(hl:L.lookup c=some (dt b):=by rfl):(Code.cond (.tmp c) x z).wp P Q a w:=
 h.cs (hl:=hl) hm (λ _ h=>wqw (ht h)) (λ _ h=>wqw (hf h))
theorem wqj{c1 c2:Code}(I:Act->World->Prop)(h1:wq P c1 (Exit.then I Q) a w)(h2:∀ a' w',I a' w'->wq P c2 Q a' w'):wq P (Code.seq c1 c2) Q a w:=wq_mono (c:=c1) (Q:=Exit.then I Q) (Q':=Exit.then (wq P c2 Q) Q) (λ e a' w' q=>by
  cases e with
  | normal=>exact h2 a' w' q
  | _=>exact q) h1
theorem wql{step:σ->Option (σ⊕β)}{s0:σ}{o:β}(hm:zP step s0=some o)(Inv:σ->Act->World->Prop)(h0:Inv s0 a w)
  (round:∀ s x a w,Inv s a w->step s=some x->(∀ b,x=.inr b->b=o)->wq P c (Exit.then (λ a' w'=>∃ s',x=.inl s'/\Inv s' a' w') Q) a w):(Code.loop c).wp P Q a w:=
 XI hm Inv h0 λ s x a w h1 h2 h3=>wqw (round s x a w h1 h2 h3)
def tmpsO(ops:Array Oper)(o:Oper):List Nat:=(o.op.operands.toList.filterMap λ q=>match q with | .tmp t=>some t | _=>none)++(match o.guard with | some (j,_)=>(yj ops j).toList | none=>[])
def ldC(o:Oper):Bool:=match o.op with | .load _ _=>true | .call _=>true | _=>false
def srcT(ops:Array Oper)(o:Oper):List Nat:=tmpsO ops o++if ldC o=true then(List.range 64).filter λ t=>!ops.toList.any λ p=>p.dst == some t else[]
def okW(ops:Array Oper)(o:Oper)(s:Nat):Bool:=(tmpsO ops o).contains s||(ldC o&&Nat.blt s 64&&!ops.toList.any λ p=>p.dst == some s)
def srcW(ops:Array Oper):List (List (Nat×Option Nat)):=ops.toList.map λ o=>(srcT ops o).map λ t=>(t,ops.toList.findIdx? λ p=>p.dst == some t)
def lookW(ops:Array Oper)(o:Oper)(L:Env)(s:Nat):Option Dt:=match okW ops o s with | true=>L.lookup s | false=>none
inductive SegW (P:Program) (M:Nat->Prop) (ops:Array Oper) (N:Nat):Env->List Oper->Env->Prop
 | nil {L:Env}:SegW P M ops N L [] L
 | cons {L L':Env} {o:Oper} {rest:List Oper} {x:Dt} {d:Nat} (hd:o.dst=some d) (hN:d<N) (h:OpG P M ops N (lookW ops o L) o x) (hr:SegW P M ops N ((d,x)::L) rest L'):SegW P M ops N L (o::rest) L'
theorem OpRel.look{look look':Nat->Option Dt}(h:OpRel P M look o x)(hl:∀ s y,look s=some y->look' s=some y):OpRel P M look' o x:=by
 unfold OpRel at*;exact λ a w hm h2=>h a w hm λ s y hy=>h2 s y (hl s y hy)
theorem OpG.look{look look':Nat->Option Dt}(h:OpG P M ops N look o x)(hl:∀ s y,look s=some y->look' s=some y):OpG P M ops N look' o x:=by
 cases h with
 | plain hg h=>exact .plain hg (h.look hl)
 | guarded hg hd hN hb hy h=>exact .guarded hg hd hN (hl _ _ hb) hy λ hc=>(h hc).look hl
 | guarded2 hg hd hN hb hy h=>exact .guarded2 hg hd hN (hl _ _ hb) hy λ hc=>(h hc).look hl
theorem zbz{l:List (Nat×Dt)}(_hn:∀ (i j d:Nat) (x y:Dt),l[i]?=some (d,x)->l[j]?=some (d,y)->i=j){r:Env}(h:(l.reverse++r).lookup s=some x):(∃ i:Nat,l[i]?=some (s,x))\/((∀ (i:Nat) (y:Dt),l[i]?≠some (s,y))/\r.lookup s=some x):=by
 rcases wV _ _ _ _ h with hm | ⟨hno,hr⟩
 ·exact .inl (List.getElem?_of_mem (List.mem_reverse.1 hm))
 ·exact .inr ⟨λ i y hi=>hno y (List.mem_reverse.2 (List.mem_of_getElem? hi)),hr⟩
theorem segW_reg{E:List Nat}{T:List (List Nat)}(hc:Yy E ops k T (srcW ops)=true)(hE:∀ i,i<k->∀ j∈T.getD i [],j<i):∀ {L L':Env} {l:List Oper},SegW P M ops N L l L'->∀ (done:List (Nat×Dt)) (L0:Env),L=done.reverse++L0->
  (∀ (n:Nat) (o:Oper),l[n]?=some o->ops[done.length+n]?=some o)->(∀ (j d:Nat) (x:Dt),done[j]?=some (d,x)->yj ops j=some d)->done.length+l.length<=k->
  ∃ xs:List (Nat×Dt),L'=xs.reverse++L/\(∀ (j d:Nat) (x:Dt),(done++xs)[j]?=some (d,x)->yj ops j=some d)/\∀ D:List Dt,(∀ (j:Nat) (q:Nat×Dt),(done++xs)[j]?=some q->D[j]?=some q.2)->RegR P M ops N (srcW ops) L0 D done.length l xs:=by
 intro L L' l h
 induction h with
 | nil=>intro done L0 _ _ hd _;exact⟨[],Z,by simpa using hd,λ D _=>.nil⟩
 |cons hod hN h hr ih=>
  rename_i L L' o rest x d;intro done L0 hL hops hd hk;have ho:ops[done.length]?=some o:=hops 0 o Z;have hik:done.length<k:=by simp only[List.length_cons] at hk;omega
  obtain⟨hS1,hS2,hdd⟩:=(wU hc ho).2.2.1 hik;have hd':∀ (j e:Nat) (y:Dt),(done++[(d,x)])[j]?=some (e,y)->yj ops j=some e:=λ j e y hj=>by
   rcases Nat.lt_or_ge j done.length with hlt | hge
   ·rw[List.getElem?_append_left hlt] at hj;exact hd j e y hj
   ·rw[List.getElem?_append_right hge] at hj;have:j=done.length:=by
     rcases Nat.eq_or_lt_of_le hge with e | e
     ·exact e.symm
     ·rw[List.getElem?_eq_none (by simp;omega)] at hj;cases hj
    subst this;simp at hj;simp[yj,ho,hod,hj.1]
  obtain⟨xs,e1,e2,e3⟩:=ih (done++[(d,x)]) L0 (by rw[hL];simp) (λ n o' hn=>by rw[List.length_append,List.length_singleton,Nat.add_assoc,Nat.add_comm 1 n];exact hops (n+1) o' hn) hd' (by simp only[List.length_cons,List.length_append,List.length_nil] at hk ⊢;omega);refine⟨(d,x)::xs,by rw[e1];simp,by simpa using e2,λ D hD=>?_⟩;have hD':∀ (j:Nat) (q:Nat×Dt),(done++[(d,x)]++xs)[j]?=some q->D[j]?=some q.2:=by simpa using hD
  refine .cons hod hN (hD done.length (d,x) (by simp)) (h.look λ s y hy=>?_) (by have:=e3 D hD';rwa[List.length_append,List.length_singleton] at this);unfold lookW at hy;split at hy
  ·rename_i hs;have hSi:((srcW ops).getD done.length []).lookup s=some (ops.toList.findIdx? λ p=>p.dst == some s):=by
    have:(srcW ops)[done.length]?=some ((srcT ops o).map λ t=>(t,ops.toList.findIdx? λ p=>p.dst == some t)):=by
     unfold srcW;rw[List.getElem?_map,Array.getElem?_toList,ho];rfl
    rw[List.getD_eq_getElem?_getD,this,Option.getD_some];have hm:s∈srcT ops o:=by
     unfold okW at hs;simp only[Bool.or_eq_true] at hs;rcases hs with hs | hs
     ·exact List.mem_append_left _ (List.contains_iff_mem.1 hs)
     ·simp only[Bool.and_eq_true] at hs;refine List.mem_append_right _ ?_;rw[Ke hs.1.1];exact List.mem_filter.2 ⟨List.mem_range.2 (by simpa using hs.1.2),hs.2⟩
    generalize srcT ops o=l at hm
    clear hs hy
    induction l with
    | nil=>cases hm
    |cons t l ih=>
     rw[List.map_cons,List.lookup_cons];cases e:s == t with
     | true=>rw[eq_of_beq e]
     | false=>exact ih ((List.mem_cons.1 hm).resolve_left λ h=>by rw[h,beq_self_eq_true] at e;cases e)
   unfold jG;have hmem:=wh _ _ _ hSi;rw[hSi];rw[hL] at hy;have hn:∀ (i j d:Nat) (x y:Dt),done[i]?=some (d,x)->done[j]?=some (d,y)->i=j:=λ i j d x y hi hj=>by
    have h1:=hd i d x hi;have h2:=hd j d y hj;have li:i<done.length:=(List.getElem?_eq_some_iff.1 hi).1;have lj:j<done.length:=(List.getElem?_eq_some_iff.1 hj).1;have key:∀ {a b:Nat},a<b->b<done.length->yj ops a=some d->yj ops b=some d->False:=λ{a b} hab hb ha hb'=>by
     have hbs:b<ops.size:=Nat.lt_trans hb (Array.getElem?_eq_some_iff.1 ho).1;obtain⟨o',ho'⟩:∃ o',ops[b]?=some o':=⟨_,Array.getElem?_eq_getElem hbs⟩;exact((wU hc ho').2.2.1 (by omega)).2.2 a hab (by rw[ha,hb'])
    rcases Nat.lt_trichotomy i j with h | h | h
    ·exact(key h lj h1 h2).elim
    ·exact h
    ·exact(key h li h2 h1).elim
   cases hf:ops.toList.findIdx? λ p=>p.dst == some s with
   |some j=>
    rw[hf] at hmem;obtain⟨g1,g2,g3⟩:=hS1 s j hmem;have hjl:=hE _ hik j g2;show D[j]?=some y;rcases zbz hn hy with⟨i,hi⟩ | ⟨hno,_⟩
    ·have:i=j:=by
      obtain⟨⟨e,z⟩,hz⟩:∃ q,done[j]?=some q:=⟨_,List.getElem?_eq_getElem hjl⟩;have:=hd j e z hz;rw[g1] at this;injection this with this;subst this;exact hn i j s y z hi hz
     subst this;exact hD i (s,y) (by rw[List.getElem?_append_left hjl];exact hi)
    ·obtain⟨⟨e,z⟩,hz⟩:∃ q,done[j]?=some q:=⟨_,List.getElem?_eq_getElem hjl⟩;have:=hd j e z hz;rw[g1] at this;injection this with this;subst this;exact(hno j z hz).elim
   |none=>
    show L0.lookup s=some y;rcases zbz hn hy with⟨i,hi⟩ | ⟨_,hr⟩
    ·have h1:=hd i s y hi;have hlt:i<ops.size:=Nat.lt_trans (List.getElem?_eq_some_iff.1 hi).1 (Array.getElem?_eq_some_iff.1 ho).1;rw[List.findIdx?_eq_none_iff] at hf;have:=hf ops[i] (by rw[← Array.getElem_toList];exact List.getElem_mem (by simpa using hlt));have h2:ops[i].dst=some s:=by simpa[yj,Array.getElem?_eq_getElem hlt] using h1
     rw[h2,beq_self_eq_true] at this;cases this
    ·exact hr
  ·cases hy
theorem Sx.gw(h:Sx F N M0 M Gs L O a w)(hm:P.follows .mixedOrders=true)(k:Nat)(hs:SegW P M ops N (L++envO O) (ops.toList.take k) L')(hc:wO ops k (cloT ops) (srcW ops)=true)(hkn:k<=ops.size)(hk:kp L' []=some L2)(hq:selQ qp L'=some O2)(hw:AllOw Gs O2)
  (next:∀ a' w',Sx F N M0 M Gs L2 O2 a' w'->wpList P ops Q (ops.toList.drop k) a' w'):(Code.region id ops true).wp P Q a w:=by
 have hlt:∀ i,i<k->∀ j∈(cloT ops).getD i [],j<i:=λ i hi=>T_lt hc i (by omega)
 obtain⟨xs,e1,e2,e3⟩:=segW_reg hc hlt hs [] (L++envO O) Z (λ n o hn=>by
  rw[List.getElem?_take] at hn;split at hn
  ·simpa using hn
  ·cases hn) (λ j d x hj=>by simp at hj) (by simp;omega)
 have hn:∀ (i j d:Nat) (x y:Dt),xs[i]?=some (d,x)->xs[j]?=some (d,y)->i=j:=λ i j d x y hi hj=>by
  have hreg:=e3 (xs.map (·.2)) (λ j q hq=>by simp only[List.nil_append] at hq;rw[List.getElem?_map,hq];rfl);have hlen:xs.length=k:=by rw[← hreg.get.1];simp;omega
  have h1:=e2 i d x hi;have h2:=e2 j d y hj;have li:i<k:=by rw[← hlen];exact(List.getElem?_eq_some_iff.1 hi).1
  have lj:j<k:=by rw[← hlen];exact(List.getElem?_eq_some_iff.1 hj).1
  have key:∀ {a b:Nat},a<b->b<k->yj ops a=some d->yj ops b=some d->False:=λ{a b} hab hb ha hb'=>by
   obtain⟨o',ho'⟩:∃ o',ops[b]?=some o':=⟨_,Array.getElem?_eq_getElem (by omega)⟩;exact((wU hc ho').2.2.1 hb).2.2 a hab (by rw[ha,hb'])
  rcases Nat.lt_trichotomy i j with h | h | h
  ·exact(key h lj h1 h2).elim
  ·exact h
  ·exact(key h li h2 h1).elim
 refine X1 hm k (cloT ops) (srcW ops) hc hkn h.st (e3 (xs.map (·.2)) λ j q hq=>by simp only[List.nil_append] at hq;rw[List.getElem?_map,hq];rfl) λ a' w' he hst'=>next a' w' (.of_kp (hst'.env λ s x hx=>?_) h.ob hk hq hw)
 rw[e1] at hx;rcases zbz hn hx with⟨i,hi⟩ | ⟨hno,hr⟩
 ·have hmem:=List.mem_of_getElem? hi;cases hl:(xs++(L++envO O)).lookup s with
  |none=>
   exfalso
   clear hs hk hq
   generalize (L++envO O)=r at*
   clear e1 e2 e3 hi hn hst' hx
   induction xs with
   | nil=>cases hmem
   |cons p xs ih=>
    obtain⟨u,z⟩:=p;rw[List.cons_append,List.lookup_cons] at hl;cases e:s == u with
    | true=>rw[e] at hl;cases hl
    |false=>
     rw[e] at hl;rcases List.mem_cons.1 hmem with h | h
     ·injection h with h _;rw[h,beq_self_eq_true] at e;cases e
     ·exact ih h hl
  |some y=>
   rcases wV _ _ _ _ hl with hm | ⟨hno,_⟩
   ·obtain⟨j,hj⟩:=List.getElem?_of_mem hm;have:=hn i j s x y hi hj;subst this;rw[hi] at hj;injection hj with hj;injection hj with _ hj;rw[hj]
   ·exact(hno x hmem).elim
 ·rw[yt]
  ·exact hr
  ·cases hl:xs.lookup s with
   | none=>rfl
   |some y=>obtain⟨j,hj⟩:=List.getElem?_of_mem (zee hl);exact(hno j y hj).elim
theorem sw(hh:opH o N=some d)(h:OpRel P M (lookW ops o L) o x)(hr:SegW P M ops N ((d,x)::L) rest L'):SegW P M ops N L (o::rest) L':=
 .cons (ya hh).2.1 (ya hh).2.2 (.plain (ya hh).1 h) hr
theorem swg{e:Nat}(hh:opG o N ops=some (d,e,j,want))(hb:lookW ops o L e=some (dt b))(h:(b == want)=true->OpRel P M (lookW ops o L) o x)(hr:SegW P M ops N ((d,Dt.grd (b == want) x)::L) rest L'):SegW P M ops N L (o::rest) L':=
 .cons (yz hh).2.1 (yz hh).2.2.2.1 (.guarded (yz hh).1 (yz hh).2.2.1 (yz hh).2.2.2.2 hb zC h) hr
def gq(n:Nat)(q:Nat->Option Nat):List (Nat->Prop):=(List.range n).map λ i=>oneB (q i)
def cq_(g:Option Nat)(q:Nat->Option Nat):Nat->Option Nat
 | 0=>g
 | i+1=>q i
class GQ (Gs:List (Nat->Prop)) (n:outParam Nat) (q:outParam (Nat->Option Nat)):Prop where
 h:Gs=gq n q
instance:GQ [] 0 (λ _=>none):=⟨Z⟩
instance {n:Nat} {q:Nat->Option Nat}:GQ (gq n q) n q:=⟨Z⟩
theorem gq_cons{n:Nat}{q:Nat->Option Nat}:oneB g::gq n q=gq (n+1) (cq_ g q):=by
 unfold gq;rw[List.range_succ_eq_map,List.map_cons,List.map_map];rfl
instance {g:Option Nat} {l:List (Nat->Prop)} {n:Nat} {q:Nat->Option Nat} [k:GQ l n q]:GQ (oneB g::l) (n+1) (cq_ g q):=⟨by rw[k.h,gq_cons]⟩
instance {g:Option Nat}:GQ (List.replicate 0 (oneB g)) 0 (λ _=>none):=⟨Z⟩
instance {g:Option Nat} {m n:Nat} {q:Nat->Option Nat} [k:GQ (List.replicate m (oneB g)) n q]:GQ (List.replicate (m+1) (oneB g)) (n+1) (cq_ g q):=⟨by rw[List.replicate_succ,k.h,gq_cons]⟩
def sq_(p:Nat)(g:Option Nat)(q:Nat->Option Nat)(i:Nat):Option Nat:=match Nat.beq i p with | true=>g | false=>q i
theorem gq_set{p n:Nat}{q:Nat->Option Nat}:(gq n q).set p (oneB g)=gq n (sq_ p g q):=by
 apply List.ext_getElem?;intro i;unfold gq;rw[List.getElem?_set,List.length_map,List.length_range,List.getElem?_map,List.getElem?_map];by_cases h:p=i
 ·subst h;rw[Ke Z];by_cases hl:p<n
  ·rw[Ke hl,List.getElem?_range hl];simp[sq_]
  ·rw[Kf hl,List.getElem?_eq_none (by simpa using hl)];rfl
 ·rw[Kf h];have:sq_ p g q i=q i:=by
   unfold sq_;cases e:Nat.beq i p with
   | true=>exact absurd (Nat.eq_of_beq_eq_true e).symm h
   | false=>rfl
  by_cases hl:i<n
  ·rw[List.getElem?_range hl];simp[this]
  ·rw[List.getElem?_eq_none (by simpa using hl)];rfl
instance {g:Option Nat} {l:List (Nat->Prop)} {p n:Nat} {q:Nat->Option Nat} [k:GQ l n q]:GQ (l.set p (oneB g)) n (sq_ p g q):=⟨by rw[k.h,gq_set]⟩
theorem Sx.fq{n:Nat}{q:Nat->Option Nat}(h:Sx F N M0 M Gs L O a w)(g:GQ Gs n q:=by infer_instance)(hk:selP (L2.map (·.1)) (L++envO O)=some L2:=by rfl)(hq:selQ ((W q).map λ q=>(q.1,q.2.1)) (L++envO O)=some (W q):=by rfl)(hw:AllOw Gs (W q):=by exact owA):∃ (M1:Nat->Prop) (q:Nat->Option Nat),Sx F N M0 M1 (gq n q) L2 (W q) a w:=
 ⟨M,q,by rw[← g.h];exact h.sel _ hk _ hq hw⟩
theorem fz{T:Prop}(h:T:=by first | exact Sx.fq (by assumption) | ((repeat (apply Exists.intro));exact Sx.fin (by assumption))):T:=h
theorem flz{x:σ⊕β}{s:σ}{T:σ->Prop}(h:some (Sum.inl s)=some x)(k:T s:=by exact fz):∃ s',x=.inl s'/\T s':=⟨s,(Option.some.inj h).symm,k⟩
theorem gl{a b:Nat}(h:Nat.blt a b=true):a<b:=by simpa[Nat.blt_eq] using h
theorem fq1{f:Nat}{xs:List Dt}{y:Dt}(n:Nat)(hf:P.funcs[f]?=some fn)
  (h:∀ (M:Nat->Prop) (w:World) (a:Act),Sx (Frm.of w) k M M (List.replicate n (oneB none)) E [] a w->wq P c (bodyPost P fn (RetP M w y)) a w) (hb:fn.body=some c:=by rfl) (hk:fn.ntmps=k:=by rfl) (hn:Nat.ble xs.length k=true:=by rfl) (hE:z9 0 xs=E:=by rfl) (hnb:Jd E=true:=by rfl):Fn P f xs y:=by
 subst hk hE;exact fnx n hf hb (hn:=(Nat.le_of_ble_eq_true hn)) hnb λ M w a st=>wqw (h M w a st)
theorem fqO[Rep α]{f:Nat}{xs:List Dt}{y:List α}(n:Nat)(hf:P.funcs[f]?=some fn)
  (h:∀ (M:Nat->Prop) (w:World) (a:Act),Sx (Frm.of w) k M M (List.replicate n (oneB none)) E [] a w->wq P c (bodyPost P fn (RetO e M w y)) a w) (hb:fn.body=some c:=by rfl) (hk:fn.ntmps=k:=by rfl) (hn:Nat.ble xs.length k=true:=by rfl) (hE:z9 0 xs=E:=by rfl) (hnb:Jd E=true:=by rfl):FnOwn P f xs e y:=by
 subst hk hE;exact fnxO n hf hb (Nat.le_of_ble_eq_true hn) hnb λ M w a st=>wqw (h M w a st)
theorem Sx.gs_(h:Sx F N M0 M Gs L O a w)(hs:Seg P M ops N (L++envO O) ops.toList L')(next:∀ a' w',St F N M L' a' w'->Q .normal a' w'):(Code.region id ops false).wp P Q a w:=by
 refine Ka ?_;have:=J7 (rest:=[]) (Q:=Q) hs h.st (λ a' w' he hst'=>Kb (next a' w' hst'));simpa using this
theorem Sx.e1[Rep α]{t:Nat}{x r:α}(h:Sx (Frm.of w0) N M0 M Gs L O a w)(hm:some x=some r)(hq:∀ a' w',bodyPost P fn (RetP M0 w0 (dt r)) .ret a' w'->Q .normal a' w':=by exact λ _ _ h=>h)(hr:fn.results=#[.tmp t]:=by rfl)
  (hs:Seg P M ops N (L++envO O) ops.toList L':=by exact segY) (hl:L'.lookup t=some (dt x):=by rfl):(Code.region id ops false).wp P Q a w:=by
 injection hm with hm;subst hm;exact h.gs_ hs λ a' w' st=>hq a' w' (zaE hr st hl λ v hv=>(dt x).weak hv λ k _ hk=>h.ob.sub k hk)
theorem Sx.e2[Rep α]{t:Nat}{x r:List α}(h:Sx (Frm.of w0) N M0 M Gs L O a w)(p:Nat)(hm:some x=some r)(hq:∀ a' w',bodyPost P fn (RetP M0 w0 (dt r)) .ret a' w'->Q .normal a' w':=by exact λ _ _ h=>h)(hr:fn.results=#[.tmp t]:=by rfl)
  (hs:Seg P M ops N (L++envO O) ops.toList L':=by exact segY) (hl:selQ [(t,p)] L'=some O2:=by rfl) (hw:AllOw Gs O2:=by exact owA) (hl2:(envO O2).lookup t=some (dtip g e x):=by rfl) (hg:∀ b,g=some b->zp Gs p b:=by first | exact λ _ h=>h | exact λ _ h=>(by cases h)):(Code.region id ops false).wp P Q a w:=
 h.gs_ hs λ a' w' st=>hq a' w' ((Sx.of_st (ks:=[]) st h.ob Z hl hw).ret_tip p hr hl2 hg hm)
theorem Sx.e3[Rep α]{t:Nat}{x r:List α}(h:Sx (Frm.of w0) N M0 M Gs L O a w)(p:Nat)(hm:some x=some r)(hq:∀ a' w',bodyPost P fn (RetO e M0 w0 r) .ret a' w'->Q .normal a' w':=by exact λ _ _ h=>h)(hr:fn.results=#[.tmp t]:=by rfl)
  (hs:Seg P M ops N (L++envO O) ops.toList L':=by exact segY) (hl:selQ [(t,p)] L'=some O2:=by rfl) (hw:AllOw Gs O2:=by exact owA) (hl2:(envO O2).lookup t=some (dtip g e x):=by rfl) (hg:∀ b,g=some b->zp Gs p b:=by first | exact λ _ h=>h | exact λ _ h=>(by cases h)):(Code.region id ops false).wp P Q a w:=
 h.gs_ hs λ a' w' st=>hq a' w' ((Sx.of_st (ks:=[]) st h.ob Z hl hw).ret_own p (hr:=hr) (hl:=hl2) (hg:=hg) hm)
theorem Sx.n1{x:σ⊕β}{s:σ}{T:σ->Act->World->Prop}(h:Sx F N M0 M Gs L O a w)(qp:List (Nat×Nat))(h2:some (Sum.inl s)=some x)(hq:∀ a' w',(∃ s',x=.inl s'/\T s' a' w')->Q .normal a' w':=by exact λ _ _ h=>h)
  (hs:Seg P M ops N (L++envO O) ops.toList L':=by exact segY) (hk:kp L' []=some L2:=by rfl) (hsq:selQ qp L'=some O2:=by rfl) (hw:AllOw Gs O2:=by exact owA) (k:∀ a' w',Sx F N M0 M Gs L2 O2 a' w'->T s a' w':=by intro _ _ _;exact fz):(Code.region id ops false).wp P Q a w:=
 h.gs_ hs λ a' w' st=>hq a' w' ⟨s,(Option.some.inj h2).symm,k a' w' (Sx.of_kp st h.ob hk hsq hw)⟩
theorem Sx.qc{c:Nat}{x z:Code}{A:Option β}{r:β}(h:Sx F N M0 M Gs L O a w)(hm:(if b=true then A else B)=some r)(ht:∀{a' w'},Sx F N M0 M Gs L2 [] a' w'->A=some r->wq P x Q2 a' w')(hf:∀{a' w'},Sx F N M0 M Gs L2 [] a' w'->B=some r->wq P z Q2 a' w')
  (hq:∀ a' w',(Code.cond (.tmp c) x z).wp P Q2 a' w'->Q .normal a' w':=by exact λ _ _ h=>h) (hs:Seg P M ops N (L++envO O) ops.toList L':=by exact segY) (hk:kp L' []=some L2:=by rfl) (hl:L2.lookup c=some (dt b):=by rfl):(Code.region id ops false).wp P Q a w:=
 h.q1 (@λ a' w' st=>hq a' w' (st.cq hm (ht st) (hf st) hl)) hs hk
theorem Sx.qd{c:Nat}{x z:Code}{A:Option β}{r:β}(h:Sx F N M0 M Gs L O a w)(qp:List (Nat×Nat))(hm:(if b=true then A else B)=some r)(ht:∀ a' w',Sx F N M0 M Gs L2 O2 a' w'->A=some r->wq P x Q2 a' w')(hf:∀ a' w',Sx F N M0 M Gs L2 O2 a' w'->B=some r->wq P z Q2 a' w')
  (hq:∀ a' w',(Code.cond (.tmp c) x z).wp P Q2 a' w'->Q .normal a' w':=by exact λ _ _ h=>h) (hs:Seg P M ops N (L++envO O) ops.toList L':=by exact segY) (hk:kp L' []=some L2:=by rfl) (hsq:selQ qp L'=some O2:=by rfl) (hw:AllOw Gs O2:=by exact owA) (hl:L2.lookup c=some (dt b):=by rfl):(Code.region id ops false).wp P Q a w:=
 h.qo qp (λ a' w' st=>hq a' w' (st.cq hm (ht a' w' st) (hf a' w' st) hl)) hs hk hsq hw
theorem sel_app{V:Env}(h:Sx F N M0 M Gs L O a w)(hk:selP ks L=some K0)(hv:selP vs (L++envO O)=some V):Sx F N M0 M Gs (K0++V) [] a w:=
 ⟨h.st.env λ s x hx=>by
  rw[show envO []=([]:Env) from Z,List.append_nil] at hx;rcases yF hx with h1 | ⟨_,h1⟩
  ·exact xm ((xL hk).spec s x h1).1
  ·exact((xL hv).spec s x h1).1,h.ob,λ s x hx=>by
  rcases yF hx with h1 | ⟨_,h1⟩
  ·exact((xL hk).spec s x h1).2
  ·exact((xL hv).spec s x h1).2,trivial⟩
section
variable{B R T:Type}{e:Option (B⊕R)}{e2:Option T}{K:B->Option R}{K2:T->Option R}{r:R}{c1 c2:Code}
variable{β σ:Type}{s0:σ}
theorem Sx.jb(_h:Sx F N M0 M Gs L O a w)(ks:List Nat)(V:B->Env)(hm:(e.bind (Sum.elim K some))=some r)
  (h1:∀ o,e=some o->Sum.elim K some o=some r->wq P c1 (Exit.then (λ a' w'=>∃ b,o=.inl b/\Sx F N M0 M Gs (K0++V b) [] a' w') Q) a w)
  (h2:∀ b a' w',Sx F N M0 M Gs (K0++V b) [] a' w'->K b=some r->wq P c2 Q a' w') (_hk:selP ks L=some K0:=by rfl):wq P (Code.seq c1 c2) Q a w:=by
 have⟨o,p,k⟩:=bs hm;refine wqj _ (h1 o p k) ?_
 rintro a' w' ⟨b,rfl,st⟩
 exact h2 b a' w' st k
theorem Sx.jm(_h:Sx F N M0 M Gs L O a w)(ks:List Nat)(V:T->Env)(hm:e2.bind K2=some r)
  (h1:∀ o,e2=some o->wq P c1 (Exit.then (λ a' w'=>Sx F N M0 M Gs (K0++V o) [] a' w') Q) a w)
  (h2:∀ o a' w',Sx F N M0 M Gs (K0++V o) [] a' w'->K2 o=some r->wq P c2 Q a' w') (_hk:selP ks L=some K0:=by rfl):wq P (Code.seq c1 c2) Q a w:=by
 have⟨o,p,k⟩:=bs hm;exact wqj _ (h1 o p) λ a' w' st=>h2 o a' w' st k
theorem Sx.lp{step:σ->Option (σ⊕β)}{o:β}(h:Sx F N M0 M Gs L O a w)(ks:List Nat)(V:σ->Env)(hm:zP step s0=some o)
  (round:∀ s x a w,Sx F N M0 M Gs (K0++V s) [] a w->step s=some x->(∀ b,x=.inr b->b=o)->wq P c (Exit.then (λ a' w'=>∃ s',x=.inl s'/\Sx F N M0 M Gs (K0++V s') [] a' w') Q) a w)
  (hk:selP ks L=some K0:=by rfl) (hv:selP ((V s0).map (·.1)) (L++envO O)=some (V s0):=by rfl):(Code.loop c).wp P Q a w:=
 wql hm (λ s a w=>Sx F N M0 M Gs (K0++V s) [] a w) (sel_app h hk hv) round
theorem Sx.jbq(_h:Sx F N M0 M Gs L O a w)(n:Nat)(ks:List Nat)(V:B->Env)(W:B->(Nat->Option Nat)->List (Nat×Nat×Dt))(hm:(e.bind (Sum.elim K some))=some r)
  (h1:∀ o,e=some o->Sum.elim K some o=some r->wq P c1 (Exit.then (λ a' w'=>∃ b,o=.inl b/\∃ (M1:Nat->Prop) (q:Nat->Option Nat),Sx F N M0 M1 (gq n q) (K0++V b) (W b q) a' w') Q) a w)
  (h2:∀ b q M1 a' w',Sx F N M0 M1 (gq n q) (K0++V b) (W b q) a' w'->K b=some r->wq P c2 Q a' w') (_hk:selP ks L=some K0:=by rfl):wq P (Code.seq c1 c2) Q a w:=by
 have⟨o,p,k⟩:=bs hm;refine wqj _ (h1 o p k) ?_
 rintro a' w' ⟨b,rfl,M1,q,st⟩
 exact h2 b q M1 a' w' st k
theorem Sx.jmq(_h:Sx F N M0 M Gs L O a w)(n:Nat)(ks:List Nat)(V:T->Env)(W:T->(Nat->Option Nat)->List (Nat×Nat×Dt))(hm:e2.bind K2=some r)
  (h1:∀ o,e2=some o->wq P c1 (Exit.then (λ a' w'=>∃ (M1:Nat->Prop) (q:Nat->Option Nat),Sx F N M0 M1 (gq n q) (K0++V o) (W o q) a' w') Q) a w)
  (h2:∀ o q M1 a' w',Sx F N M0 M1 (gq n q) (K0++V o) (W o q) a' w'->K2 o=some r->wq P c2 Q a' w') (_hk:selP ks L=some K0:=by rfl):wq P (Code.seq c1 c2) Q a w:=by
 have⟨o,p,k⟩:=bs hm;exact wqj _ (h1 o p) λ a' w' ⟨M1,q,st⟩=>h2 o q M1 a' w' st k
theorem Sx.lpq{step:σ->Option (σ⊕β)}{o:β}(h:Sx F N M0 M Gs L O a w)(n:Nat)(ks:List Nat)(V:σ->Env)(W:σ->(Nat->Option Nat)->List (Nat×Nat×Dt))(hm:zP step s0=some o)
  (round:∀ s x q M1 a w,Sx F N M0 M1 (gq n q) (K0++V s) (W s q) a w->step s=some x->(∀ b,x=.inr b->b=o)->wq P c (Exit.then (λ a' w'=>∃ s',x=.inl s'/\∃ (M1:Nat->Prop) (q:Nat->Option Nat),Sx F N M0 M1 (gq n q) (K0++V s') (W s' q) a' w') Q) a w)
  (hk:selP ks L=some K0:=by rfl) (hv:selP ((V s0).map (·.1)) (L++envO O)=some (V s0):=by rfl) [g:GQ Gs n q0] (hq:selQ ((W s0 q0).map λ q=>(q.1,q.2.1)) (L++envO O)=some (W s0 q0):=by rfl) (hw:AllOw Gs (W s0 q0):=by exact owA):(Code.loop c).wp P Q a w:=
 wql hm (λ s a w=>∃ (M1:Nat->Prop) (q:Nat->Option Nat),Sx F N M0 M1 (gq n q) (K0++V s) (W s q) a w) ⟨M,q0,by
  rw[← g.h];have h1:=sel_app h hk hv;refine⟨h.st.env λ s x hx=>?_,h.ob,h1.no,hw⟩;rcases yF hx with h2 | ⟨_,h2⟩
  ·rcases yF h2 with h3 | ⟨_,h3⟩
   ·exact xm ((xL hk).spec s x h3).1
   ·exact((xL hv).spec s x h3).1
  ·exact envO_sel hq s x h2⟩ λ s x a w ⟨M1,q,st⟩ h1 h2=>round s x q M1 a w st h1 h2
end
end
open Go.ChangeShapes Go.WideShapes Go.ChangeAt Go.RowKit
structure Opn(P:Program)(t:TypeId)(α:Type)[Rep α]:Prop where
 cells:P.cellsOf t=Rep.size α
 op:∀ {H:Type} {enc:TypeId×Value->H} {w:World} {spare:Nat->Bool} {held:Bool} {fuel:Nat} {cs:List Value} {x:DataW H×List MemPlace},DataW.trod enc P w 0 spare held fuel t cs=some x->∃ a:α,Rep.rdc noB w cs a
theorem Opn.int{P:Program}{t:TypeId}(ht:P.underlying t=some (.int .i64))(hc:P.cellsOf t=1):Opn P t Int:=⟨hc,λ{H enc w spare held fuel cs x} h=>by
 obtain⟨n,rfl,_⟩:=DataW.trod_int ht h;exact⟨n,Z,trivial⟩⟩
theorem Opn.u8{P:Program}{t:TypeId}(ht:P.underlying t=some (.int .u8))(hc:P.cellsOf t=1):Opn P t UInt8:=⟨hc,λ{H enc w spare held fuel cs x} h=>by
 obtain⟨n,rfl,_,hw⟩:=DataW.trod_int ht h;have h1:0<=n/\n<256:=by
  have hmin:IntKind.u8.min=0:=by decide
  have hmax:IntKind.u8.max=255:=by decide
  simp[Lit.wf,hmin,hmax] at hw;omega
 refine⟨UInt8.ofNat n.toNat,?_,trivial⟩;show[Value.int .u8 n]=[Value.int .u8 ((UInt8.ofNat n.toNat).toNat:Int)];rw[UInt8.toNat_ofNat']
 congr 2
 omega⟩
theorem Opn.bool{P:Program}{t:TypeId}(ht:P.underlying t=some .bool)(hc:P.cellsOf t=1):Opn P t Bool:=⟨hc,λ{H enc w spare held fuel cs x} h=>by
 obtain⟨b,rfl,_⟩:=DataW.trod_bool ht h;exact⟨b,Z,trivial⟩⟩
theorem Opn.slice{P:Program}{t e:TypeId}{α:Type}[Rep α](ht:P.underlying t=some (.slice e))(hc:P.cellsOf t=1)(he:Opn P e α):Opn P t (List α):=⟨hc,λ{H enc w spare held fuel cs x} h=>by
 rcases Deep.open_slice ht h with⟨rfl,_⟩ | ⟨a,len,cap,m,n,D,Pl,rfl,_,hl,hm,hmm,_,hel⟩
 ·exact⟨[],none,0,Z,Nat.le_refl _,Nat.zero_le _,.inl Z⟩
 ·have hlm:len<=m:=by rw[hmm];split <;> omega
  have hpos:0<P.cellsOf e:=by rw[he.cells];exact Rep.pos
  have hrow:∀ k,k<=len->∃ (xs:List α) (cells:List Value),xs.length=k/\rowR noB w cells xs/\∀ j u,cells[j]?=some u->w.cell? (a.add j)=some u:=by
   intro k
   induction k with
   | zero=>intro _;exact⟨[],[],Z,Z,λ j u hj=>by simp at hj⟩
   |succ k ih=>
    intro hk;obtain⟨xs,cells,hx,hr,hcl⟩:=ih (by omega);obtain⟨cs',hcs,htr⟩:=hel k (by omega);obtain⟨y,hy⟩:=he.op htr;obtain⟨_,hlen,hat⟩:=World.cells?_some hcs;refine⟨xs++[y],cells++cs',by simp[hx],Z2 hr (zbO hy),λ j u hj=>?_⟩;have hcl2:=JH hr;by_cases hjl:j<cells.length
    ·rw[List.getElem?_append_left hjl] at hj;exact hcl j u hj
    ·rw[List.getElem?_append_right (by omega)] at hj;have hj2:=(List.getElem?_eq_some_iff.1 hj).1;have:=hat (j - cells.length) (by omega);rw[hj] at this;rw[← this]
     congr 1
     have hs:k*P.cellsOf e=cells.length:=by rw[hcl2,hx,he.cells]
     rw[hs];show a.add j=(a.add cells.length).add (j - cells.length);rw[Deep.add_add,show cells.length+(j - cells.length)=j by omega]
  obtain⟨xs,cells,hx,hr,hcl⟩:=hrow len (Nat.le_refl _);refine⟨xs,some a,cap,by rw[hx],by omega,hm,?_⟩;by_cases h0:len=0
  ·left;exact List.length_eq_zero_iff.1 (by omega)
  ·right
   obtain⟨cs',hcs,_⟩:=hel 0 (by omega);obtain⟨_,hlen,hat⟩:=World.cells?_some hcs;have h00:=hat 0 hpos;have hsome:∃ u,w.cell? ((a.add (0*P.cellsOf e)).add 0)=some u:=by
    rw[h00];exact⟨cs'[0]'(by omega),List.getElem?_eq_getElem (by omega)⟩
   obtain⟨u,hu⟩:=hsome;have hspot:a.spot=none:=by simpa[Addr.add] using World.cell?_spot hu
   obtain⟨b,o,sp⟩:=a;subst hspot;exact⟨b,o,cells,Z,λ hf=>hf,λ j u hj=>by rw[← add_plain];exact hcl j u hj,hr⟩⟩
structure OpnF(P:Program)(fs:List Field)(off:Nat)(β:Type)[Rep β]:Prop where
 op:∀ {H:Type} {enc:TypeId×Value->H} {w:World} {spare:Nat->Bool} {held:Bool} {n:Nat} {cs:List Value},cs.length=off+Rep.size β->
  (∀ f∈fs,∃ y,DataW.trod enc P w 0 spare held n f.type ((cs.drop f.offset).take (P.cellsOf f.type))=some y)->∃ b:β,Rep.rdc noB w (cs.drop off) b
theorem OpnF.cons{f:Field}[Rep α][Rep β](ho:f.offset=off)(h:Opn P f.type α)(k:OpnF P fs (off+Rep.size α) β):OpnF P (f::fs) off (α×β):=⟨λ{H enc w spare held n cs} hl hf=>by
 obtain⟨y,hy⟩:=hf f (by simp);rw[ho,h.cells] at hy;obtain⟨a,ha⟩:=h.op hy;have hl':cs.length=off+(Rep.size α+Rep.size β):=hl;obtain⟨b,hb⟩:=k.op (by omega) λ g hg=>hf g (by simp[hg])
 refine⟨(a,b),_,_,?_,ha,hb⟩;rw[← List.drop_drop,List.take_append_drop]⟩
theorem Opn.struct{P:Program}{t:TypeId}{fs:Array Field}{α β:Type}[Rep β]{f:α->β}(g:β->α)(hfg:∀ b,f (g b)=b)(ht:P.underlying t=some (.struct fs))(hc:P.cellsOf t=Rep.size β)(h:OpnF P fs.toList 0 β):@Opn P t α (Rep.iso f):=by
 refine @Opn.mk P t α (Rep.iso f) hc λ{H enc w spare held fuel cs x} hx=>?_
 obtain⟨xs,n,_,_,hl,hlen,hf⟩:=DataW.trod_struct ht hx;obtain⟨b,hb⟩:=h.op (enc:=enc) (w:=w) (spare:=spare) (held:=held) (n:=n) (cs:=cs) (by omega) λ fl hfl=>by
  obtain⟨i,hi⟩:=List.getElem?_of_mem hfl;have hi':fs[i]?=some fl:=by simpa using hi
  have hlt:i<fs.size:=(Array.getElem?_eq_some_iff.1 hi').1;rw[hf i fl hi',List.getElem?_eq_getElem (by omega)];exact⟨_,Z⟩
 refine⟨g b,?_⟩;show Rep.rdc noB w cs (f (g b));rw[hfg];exact hb
theorem Opn.rd{P:Program}{t:TypeId}{α:Type}[Rep α](h:Opn P t α){H:Type}{enc:TypeId×Value->H}{w:World}{spare:Nat->Bool}{held:Bool}{v:Value}{d:DataW H}{ps:List MemPlace}(hd:DataW.Trod enc P w 0 spare held t v d ps)
  (hv:v=mkv (Rep.agg α) v.cells.toList):∃ a:α,(dt a).rd noB w v:=by
 obtain⟨fuel,hf⟩:=hd;obtain⟨a,ha⟩:=h.op hf;exact⟨a,_,ha,hv⟩
theorem mkv_slice{r:Reach}{b:Nat}(ht:P.underlying t=some (.slice e))(h:Value.okWide P w r b t v):v=mkv false v.cells.toList:=by
 obtain⟨a,l,c,rfl⟩:=okWide_slice ht h;simp[mkv,Value.cells]
theorem iI:∀ b,p b->p b:=λ _ h=>h
theorem iE:∀ b,oneB none b->p b:=λ _ h=>(by cases h)
theorem kc(s:Nat)(h:L.lookup s=some x)(r:Pick (λ _=>True) L L1):Pick (λ _=>True) L ((s,x)::L1):=.cons h trivial r
theorem iT:(∀ b,p b->p b)/\True:=⟨iI,trivial⟩
theorem obS(a:α)(f:α->Option β):(some a).bind f=f a:=rfl
end Go.Proofs.YtifgdhfcoaognaaGreatDoor
