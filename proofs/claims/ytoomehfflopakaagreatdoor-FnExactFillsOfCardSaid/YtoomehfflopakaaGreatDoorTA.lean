import Derived.WalkKit
import Derived.KernelRfl
import Derived.OwnWalk
import Derived.Maps.AppendAt
import Derived.Laws.AppendOwnNone
import Derived.Laws.CopyRow
import Derived.ArgAppend
import Derived.Laws.OwnMore
namespace Go.Proofs.YtoomehfflopakaaGreatDoor
abbrev aa:=@List.getElem?_eq_getElem
abbrev ab:=@decide_eq_true
abbrev ac:=@List.mem_of_getElem?
abbrev ae:=@List.lookup_cons
abbrev af:=@Bool.and_eq_true
abbrev ah:=@Go.Result.andThen_ok
abbrev ai:=@List.getElem?_eq_some_iff
abbrev aj:=@Int.toNat_natCast
abbrev ak:=@Nat.le_refl
abbrev al:=@List.all_eq_true
abbrev am:=@List.mem_cons
abbrev an:=@Go.Sem.run_bind
abbrev ao:=@Nat.zero_le
abbrev ap:=@List.length_append
abbrev aq:=@Array.getElem?_eq_getElem
abbrev ar:=@List.eq_nil_of_length_eq_zero
abbrev au:=@Go.Sem.run_pure
abbrev av:=@Go.wpList_plain
abbrev aw:=@Go.run_underlying
abbrev ax:=@Nat.lt_of_lt_of_le
abbrev ay:=@Int.eq_ofNat_of_zero_le
abbrev az:=@List.mem_range
abbrev aA:=@List.append_assoc
abbrev aB:=@Nat.zero_add
abbrev aC:=@Go.wp_skip
abbrev aD:=@Array.getElem?_eq_some_iff
abbrev aE:=@List.getElem?_take
abbrev aF:=@List.mem_singleton
abbrev aG:=@Nat.mul_le_mul_right
abbrev aH:=@List.getElem?_append_right
abbrev aI:=@List.length_take
abbrev aJ:=@List.take_of_length_le
abbrev aK:=@List.getElem?_append_left
abbrev aL:=@List.take_length
abbrev aM:=@List.append_nil
abbrev aN:=@List.getElem?_of_mem
abbrev aO:=@List.findIdx?_eq_some_iff_getElem
abbrev aP:=@Array.length_toList
abbrev aQ:=@Nat.le_trans
abbrev aR:=@Nat.lt_or_ge
abbrev aS:=@List.not_mem_nil
abbrev aT:=@Go.wp_block
abbrev aU:=@List.getElem?_set_self
abbrev aV:=@Array.getElem?_append_left
abbrev aW:=@beq_self_eq_true
abbrev aX:=@List.ext_getElem?
abbrev aY:=@List.getElem?_map
abbrev aZ:=@Bool.false_eq_true
abbrev ba:=@List.getElem?_set_ne
abbrev bb:=@List.mem_append
abbrev bc:=@List.nil_append
abbrev bd:=@List.length_range
abbrev be:=@List.take_add_one
abbrev bf:=@List.length_singleton
abbrev bg:=@List.mem_map
abbrev bh:=@List.drop_eq_getElem_cons
abbrev bi:=@List.getElem_mem
abbrev bj:=@List.length_cons
abbrev bo:=@Ne.symm
abbrev bp:=@List.getElem?_eq_none
abbrev bq:=@Nat.min_eq_left
abbrev br:=@Bool.true_and
abbrev bt:=@decide_eq_true_eq
abbrev bu:=@List.drop_of_length_le
abbrev bv:=@List.length_set
abbrev bz:=@congrArg
abbrev bA:=@Nat.add_assoc
abbrev bB:=@Bool.or_eq_true
abbrev bC:=@of_decide_eq_false
abbrev bD:=@List.findIdx?_eq_none_iff
abbrev bE:=@Int.toNat_of_nonneg
abbrev bF:=@List.contains_iff_mem
abbrev bG:=@List.drop_drop
abbrev bH:=@List.take_append_drop
abbrev bI:=@if_true
abbrev bJ:=@List.getElem?_drop
abbrev bK:=@List.mem_cons_self
abbrev bL:=@List.cons_append
abbrev bM:=@List.mem_cons_of_mem
abbrev bN:=@List.drop_zero
abbrev bO:=@Bool.eq_iff_iff
abbrev bP:=@Option.some.inj
abbrev bQ:=@Go.Code.wp_mono
abbrev bR:=@List.drop_length
abbrev bS:=@Nat.succ_mul
abbrev bT:=@List.drop_left
abbrev bU:=@List.take_zero
abbrev bV:=@Option.bind_eq_some_iff
abbrev bW:=@List.any_eq_false
abbrev bX:=@Array.getD_eq_getD_getElem?
abbrev bY:=@List.foldl_cons
abbrev bZ:=@List.length_map
abbrev ca:=@List.toList_toArray
abbrev cb:=@List.drop_eq_nil_of_le
abbrev cd:=@Nat.mul_one
abbrev ce:=@Go.setRow_heap
abbrev cg:=@List.take_append
abbrev ch:=@or_false
abbrev ci:=@List.mem_take_iff_getElem
abbrev cj:=@Go.wp_exit
abbrev ck:=@List.getElem?_range
abbrev cl:=@Bool.false_and
abbrev cm:=@List.take_take
abbrev co:=@if_false
abbrev cp:=@Array.getElem?_eq_none
abbrev cr:=@Int.le_trans
abbrev ct:=@Nat.sub_self
abbrev cu:=@List.length_replicate
abbrev cv:=@List.getD_eq_getElem?_getD
abbrev cw:=@Bool.not_eq_true'
abbrev cx:=@List.mem_or_eq_of_mem_set
abbrev cz:=@Int.le_refl
abbrev cA:=@Go.mem_ready
abbrev cC:=@List.any_eq_true
abbrev cF:=@Nat.add_comm
abbrev cG:=@Go.setRow_other
abbrev cH:=@List.map_cons
abbrev cJ:=@Nat.lt_irrefl
abbrev cK:=@List.eq_nil_iff_forall_not_mem
abbrev cL:=@List.length_nil
abbrev cM:=@Go.World.grownBy.refl
abbrev cO:=@decide_eq_false
abbrev cP:=@Go.calls_of_wp
abbrev cQ:=@Go.results_tmp
abbrev cR:=@Array.getElem?_toList
abbrev cS:=@List.drop_take
abbrev cU:=@List.getElem?_toArray
abbrev cV:=@List.map_map
abbrev cW:=@List.set_append_right
abbrev cX:=@List.singleton_append
abbrev cY:=@List.take_left
abbrev cZ:=@Go.heap_alloc_new
abbrev c9:=@Bool.false_or
abbrev da:=@Go.ByteArray.toList_eq
abbrev db:=@List.replicate_succ
abbrev dc:=@List.mem_filter
abbrev dd:=@List.pairwise_iff_getElem
abbrev de:=@List.take_left'
abbrev df:=@Nat.add_sub_cancel
abbrev dg:=@Option.isSome_iff_exists
abbrev dh:=@List.lt_irrefl
abbrev di:=@List.filter_cons_of_neg
abbrev dj:=@List.filter_cons_of_pos
abbrev dk:=@List.getElem?_singleton
abbrev dl:=@List.length_eq_zero_iff
abbrev dm:=@Nat.add_sub_cancel_left
abbrev dn:=@Nat.le_mul_of_pos_right
abbrev dp:=@List.flatten_cons
abbrev dq:=@Nat.add_mul
abbrev du:=@Option.map_eq_some_iff
abbrev dv:=@List.lt_trans
abbrev dw:=@Array.all_eq_true_iff_forall_mem
abbrev dy:=@List.drop_append
abbrev dz:=@List.take_succ_eq_append_getElem
abbrev dA:=@Nat.le_add_right
abbrev dB:=@Option.getD_some
abbrev dC:=@Go.World.cell?_alloc_new
abbrev dD:=@List.mem_of_mem_take
abbrev dE:=@List.set_set
abbrev dF:=@Nat.zero_mul
abbrev dG:=@Option.map_some
abbrev dH:=@Sum.elim_inl
abbrev dI:=@Go.run_append_arg_grows
abbrev dJ:=@List.foldl_map
abbrev dK:=@Go.run_part_plain
abbrev dL:=@Bool.not_eq_false'
abbrev dM:=@List.set_cons_zero
abbrev dN:=@Nat.eq_zero_or_pos
abbrev dO:=@LawfulBEq.eq_of_beq
abbrev dP:=@Bool.not_true
abbrev dQ:=@List.size_toArray
abbrev dR:=@Nat.lt_trichotomy
abbrev dS:=@Go.RowKit.Below.refl
abbrev dT:=@Bool.or_true
abbrev dU:=@Eq.trans
abbrev dV:=@List.flatten_nil
abbrev dW:=@List.length_drop
abbrev dX:=@List.map_set
abbrev dY:=@Nat.add_zero
abbrev dZ:=@Option.getD_none
abbrev d8:=@getElem!_pos
abbrev d9:=@List.lookup_nil
abbrev ea:=@List.map_append
abbrev eb:=@List.nodup_cons
abbrev ee:=@List.range_succ
abbrev eh:=@List.zipIdx_map
abbrev ei:=@Nat.le_antisymm
variable{a a0:Act}{K:Act->World->Prop}{listed:Array Bool}{ops:Array Oper}{ts:Array TypeId}{C args:Array Value}{op:BinOp}{agg b b2 d:Bool}{Q:Exit->Act->World->Prop}{f:FuncId}{m:Int}{S:List (List (Nat×Option Nat))}{zs:List (List Value)}{E ns:List Nat}{rest:List Oper}{l opds:List Operand}{c:List Value}{N bytes i j k off sz:Nat}{place:Nat->Option (Nat×Nat)}{G G' M M' M0:Nat->Prop}{ob:Obj}{o:Oper}{h opd p s vo x y:Operand}{A:Option Addr}{g g' g2:Option Nat}{P:Program}{e t t' ty:TypeId}{ti:TypeInfo}{u v:Value}{w w' w0 w1:World}
theorem oD {p:Prop} [Decidable p] (h : decide p = true) : p := of_decide_eq_true h
open Go.RowKit
theorem Z{α:Sort _}{a:α}:a=a:=rfl
theorem QY{id:Nat}(h:wpList P ops Q ops.toList a w):Code.wp P (Code.region id ops false) Q a w:=wp_region_list h
theorem Wz(h:Q .normal a w):wpList P ops Q [] a w:=wpList_nil h
theorem Ka{x y:Code}(h:Code.wp P x (Exit.then (Code.wp P y Q) Q) a w):Code.wp P (x.seq y) Q a w:=wp_seq h
theorem Kb{α:Type _}{β:Type _}(a:α)(f:α->Option β):(some a).bind f=f a:=rfl
theorem Kc{c:Prop}{_:Decidable c}(h:c){α:Sort _}{t e:α}:(if c then t else e)=t:=if_pos h
theorem Kd{c:Prop}{_:Decidable c}(h:¬c){α:Sort _}{t e:α}:(if c then t else e)=e:=if_neg h
theorem Kz{α:Sort _}{x y:α}:(if false=true then x else y)=y:=if_neg (by decide)
theorem FN{α:Type _}{P:α->Prop}:∀ p∈([]:List α),P p:=by
 grind
theorem FA{α:Type _}{P:α->Prop}{x:α}{l:List α}(h:P x)(k:∀ p∈l,P p):∀ p∈x::l,P p:=List.forall_mem_cons.2 ⟨h,k⟩
abbrev Ext0(w w':World):Prop:=Below w.heap.size w w'
theorem Ext0.trans{a b c:World}(h:Ext0 a b)(k:Ext0 b c):Ext0 a c:=Below.trans h (k.mono h.size)
theorem Ext0.refl(w:World):Ext0 w w:=dS _ _
theorem Ext0.under{a b:World}(h:Below w0.heap.size w0 a)(k:Ext0 a b):Below w0.heap.size w0 b:=h.trans (k.mono h.size)
theorem Ext0.drawn(w:World)(n:Nat):Ext0 w { w with drawn:=n }:=⟨Z,Z,Z,ak _,λ _ _=>Z⟩
theorem Ext0.alloc(w:World)(o:Obj):Ext0 w (w.alloc o):=(dS _ _).alloc (ak _) o
def Same(M:Nat->Prop)(own:Nat->Prop)(w w':World):Prop:=∀ k,k<w.heap.size->(¬ M k\/own k)->w'.heap[k]?=w.heap[k]?
def noB:Nat->Prop:=λ _=>False
def oneB(g:Option Nat):Nat->Prop:=λ b=>g=some b
structure Grown(G:Nat->Prop)(w w':World):Prop where
 os:w'.os=w.os
 tape:w'.tape=w.tape
 output:w'.output=w.output
 size:w.heap.size<=w'.heap.size
 block:∀ k,k<w.heap.size->¬ G k->w'.heap[k]?=w.heap[k]?
theorem Grown.of_grownBy(h:w.grownBy w' g):Grown (oneB g) w w':=⟨h.os,h.tape,h.output,h.size,λ k hk hn=>h.block k hk λ e=>hn e.symm⟩
theorem Grown.of_ext(h:Ext0 w w'):Grown noB w w':=⟨h.os,h.tape,h.output,h.size,λ k hk _=>h.block k hk⟩
theorem Grown.mono(h:Grown G w w')(hs:∀ b,G b->G' b):Grown G' w w':=⟨h.os,h.tape,h.output,h.size,λ k hk hn=>h.block k hk λ e=>hn (hs k e)⟩
theorem Grown.refl(G:Nat->Prop)(w:World):Grown G w w:=⟨Z,Z,Z,ak _,λ _ _ _=>Z⟩
theorem Grown.trans{G G':Nat->Prop}{a b c:World}(h:Grown G a b)(k:Grown G' b c)(hs:∀ n,n<a.heap.size->G' n->G n):Grown G a c:=
 ⟨k.os.trans h.os,k.tape.trans h.tape,k.output.trans h.output,aQ h.size k.size,λ n hn hg=>(k.block n (ax hn h.size) λ e=>hg (hs n hn e)).trans (h.block n hn hg)⟩
theorem Same.of_ext{own:Nat->Prop}(h:Ext0 w w'):Same M own w w':=λ k hk _=>h.block k hk
structure Dt where
 rd:(Nat->Prop)->World->Value->Prop
 own:Nat->Prop
 nb:Bool
 nob:nb=true->∀ b,¬ own b
 stable:∀ {M:Nat->Prop} {w w':World} {v:Value},rd M w v->Same M own w w'->rd M w' v
 weak:∀ {M M':Nat->Prop} {w:World} {v:Value},rd M w v->(∀ k,k<w.heap.size->M' k->M k)->rd M' w v
variable{D xs:List Dt}
theorem Dt.ext(x:Dt)(h:x.rd M w v)(e:Ext0 w w'):x.rd M w' v:=x.stable h (.of_ext e)
abbrev Env:=List (Nat×Dt)
variable{L L' L2:Env}
def Act.at(a:Act)(s:Nat):Value:=a.tmps.getD s undef
theorem Act.eval_tmp(a:Act)(s:Nat):a.eval (.tmp s)=Act.at a s:=rfl
theorem Act.at_put_self{d:Nat}(h:d<a.tmps.size):Act.at (a.put (some d) v) d=v:=by
 simp[Act.at,Act.put,h]
theorem Act.at_put_other{d:Option Nat}{s:Nat}(h:d≠some s):Act.at (a.put d v) s=Act.at a s:=by
 cases d with
 | none=>rfl
 |some d=>
  have hne:d≠s:=λ e=>h (by rw[e])
  simp[Act.at,Act.put,Array.getElem?_setIfInBounds_ne hne]
theorem Act.put_size(a:Act)(d:Option Nat)(v:Value):(a.put d v).tmps.size=a.tmps.size:=by
 cases d <;> simp[Act.put]
theorem Act.put_defers(a:Act)(d:Option Nat)(v:Value):(a.put d v).defers=a.defers:=by
 cases d <;> rfl
structure Frm where
 J:World->Prop
 Own:Nat->Prop
 ext:∀ {w w':World},J w->Ext0 w w'->J w'
 own:∀ {w w':World} {G:Nat->Prop},J w->Grown G w w'->(∀ b,G b->Own b)->J w'
 fresh:∀ {w:World},J w->∀ b,w.heap.size<=b->Own b
variable{F:Frm}
def Frm.of(w0:World):Frm where
 J w:=Below w0.heap.size w0 w
 Own b:=w0.heap.size<=b
 ext h k:=Ext0.under h k
 own h hg hb:=⟨hg.os.trans h.os,hg.tape.trans h.tape,hg.output.trans h.output,aQ h.size hg.size,λ k hk=>(hg.block k (ax hk h.size) λ e=>cJ _ (ax hk (hb k e))).trans (h.block k hk)⟩
 fresh h _ hb:=aQ h.size hb
structure St(F:Frm)(N:Nat)(M:Nat->Prop)(L:Env)(a:Act)(w:World):Prop where
 fr:F.J w
 size:a.tmps.size=N
 defers:a.defers=[]
 mok:∀ b,M b->b<w.heap.size
 has:∀ s x,L.lookup s=some x->x.rd M w (Act.at a s)
def OpOut(P:Program)(o:Oper)(a:Act)(w:World)(K:Value->World->Prop):Prop:=
 match (execOp a.eval o).run P w with
 | .ok (.value v) w'=>K v w'
 | .ok .skip w'=>K undef w'
 | .ok (.enter f args) w'=>Calls P f args w' (λ e w''=>∃ v,e=.returned v/\K v w'')
 | _=>False
section
variable{K:Value->World->Prop}
theorem OpOut.mono{K':Value->World->Prop}(h:OpOut P o a w K)(hk:∀ v w',K v w'->K' v w'):OpOut P o a w K':=by
 unfold OpOut at*;generalize (execOp a.eval o).run P w=r at*;cases r with
 |ok n w'=>
  cases n <;> simp only at h ⊢ <;> first
   | exact hk _ _ h
   | exact Calls.mono h (λ e w'' ⟨v,he,hv⟩=>⟨v,he,hk _ _ hv⟩)
   | exact h
 | halt x w'=>exact h
theorem OpOut.wp{next:Act->World->Prop}{Q:Exit->Act->World->Prop}(h:OpOut P o a w (λ v w'=>next (a.put o.dst v) w')):o.wp P a w next Q:=by
 unfold OpOut at h;unfold Oper.wp;generalize (execOp a.eval o).run P w=r at*;cases r with
 |ok n w'=>
  cases n <;> simp at h ⊢ <;> first
   | exact h
   | exact Calls.mono h (λ e w'' ⟨v,he,hv⟩=>by subst he;exact hv)
   | exact h.elim
 | halt x w'=>exact h.elim
theorem OpOut.of_value(hr:(execOp a.eval o).run P w=.ok (.value v) w')(h:K v w'):OpOut P o a w K:=by
 unfold OpOut;rw[hr];exact h
theorem OpOut.of_skip(hr:(execOp a.eval o).run P w=.ok .skip w')(h:K undef w'):OpOut P o a w K:=by
 unfold OpOut;rw[hr];exact h
theorem OpOut.of_enter(hr:(execOp a.eval o).run P w=.ok (.enter f args) w')
  (h:Calls P f args w' (λ e w''=>∃ v,e=.returned v/\K v w'')):OpOut P o a w K:=by
 unfold OpOut;rw[hr];exact h
end
def OpRel(P:Program)(M:Nat->Prop)(look:Nat->Option Dt)(o:Oper)(x:Dt):Prop:=
 ∀ (a:Act) (w:World),(∀ b,M b->b<w.heap.size)->(∀ s y,look s=some y->y.rd M w (Act.at a s))->OpOut P o a w (λ v w'=>Ext0 w w'/\x.rd M w' v)
def Dt.grd(c:Bool)(x:Dt):Dt where
 rd M w v:=(c=true->x.rd M w v)/\(c=false->v=undef)
 own:=x.own
 nb:=x.nb
 nob:=x.nob
 stable h e:=⟨λ hc=>x.stable (h.1 hc) e,h.2⟩
 weak h e:=⟨λ hc=>x.weak (h.1 hc) e,h.2⟩
inductive OpG (P:Program) (M:Nat->Prop) (ops:Array Oper) (N:Nat) (look:Nat->Option Dt) (o:Oper):Dt->Prop
 | plain {x:Dt} (hg:o.guard=none) (h:OpRel P M look o x):OpG P M ops N look o x
 | guarded {x:Dt} {j:Nat} {want b:Bool} {d:Nat} (hg:o.guard=some (j,want)) (hd:(ops[j]?).bind (·.dst)=some d) (hN:d<N) {y:Dt} (hb:look d=some y) (hy:∀ {M:Nat->Prop} {w:World} {v:Value},y.rd M w v->v=.bool b)
   (h:(b == want)=true->OpRel P M look o x):OpG P M ops N look o (Dt.grd (b == want) x)
 | guarded2 {x:Dt} {j:Nat} {want b c:Bool} {d:Nat} (hg:o.guard=some (j,want)) (hd:(ops[j]?).bind (·.dst)=some d) (hN:d<N) {y:Dt} (hb:look d=some (Dt.grd c y)) (hy:∀ {M:Nat->Prop} {w:World} {v:Value},y.rd M w v->v=.bool b)
   (h:(c&&(b == want))=true->OpRel P M look o x):OpG P M ops N look o (Dt.grd (c&&(b == want)) x)
variable{α β γ:Type}
theorem Z3{y:Nat->Option Bool}(hg:o.guard=none):Region.wanted o y=true:=by simp[Region.wanted,hg]
section
theorem OpG.step{look:Nat->Option Dt}{x:Dt}(h:OpG P M ops N look o x)
    (hM:∀ b,M b->b<w.heap.size) (hl:∀ s y,look s=some y->y.rd M w (Act.at a s)) (hs:a.tmps.size=N):
  (Region.wanted o (yielded ops a.tmps)=true->OpOut P o a w (λ v w'=>Ext0 w w'/\x.rd M w' v))/\
  (Region.wanted o (yielded ops a.tmps)=false->x.rd M w undef):=by
 cases h with
 | plain hg h=>exact⟨λ _=>h a w hM hl,λ h=>by rw[Z3 hg] at h;cases h⟩
 |guarded hg hd hN hb hy h=>
  rename_i x j want b d y;have h1:=hy (hl d _ hb);have h2:yielded ops a.tmps j=some b:=by
   have hlt:d<a.tmps.size:=by omega
   unfold Act.at at h1;rw[bX,aq hlt] at h1;simp at h1;simp[yielded,hd,hlt,h1]
  have h3:Region.wanted o (yielded ops a.tmps)=(b == want):=by simp[Region.wanted,hg,h2]
  rw[h3];refine⟨λ hc=>(h hc a w hM hl).mono λ v w' ⟨e,r⟩=>⟨e,λ _=>r,λ hf=>(by rw[hc] at hf;cases hf)⟩,λ hc=>⟨λ hc'=>(by rw[hc] at hc';cases hc'),λ _=>rfl⟩⟩
 |guarded2 hg hd hN hb hy h=>
  rename_i x j want b c d y;have h1:=hl d _ hb;have hlt:d<a.tmps.size:=by omega
  have hat:a.tmps[d]?=some (Act.at a d):=by
   unfold Act.at;rw[bX,aq hlt];rfl
  have h3:Region.wanted o (yielded ops a.tmps)=(c&&(b == want)):=by
   cases hc:c with
   |true=>have h2:=hy (h1.1 hc);simp[Region.wanted,hg,yielded,hd,hat,h2]
   |false=>have h2:=h1.2 hc;simp[Region.wanted,hg,yielded,hd,hat,h2,undef]
  rw[h3];exact⟨λ hc=>(h hc a w hM hl).mono λ v w' ⟨e,r⟩=>⟨e,λ _=>r,λ hf=>(by rw[hc] at hf;cases hf)⟩,λ hc=>⟨λ hc'=>(by rw[hc] at hc';cases hc'),λ _=>rfl⟩⟩
inductive Seg (P:Program) (M:Nat->Prop) (ops:Array Oper) (N:Nat):Env->List Oper->Env->Prop
 | nil {L:Env}:Seg P M ops N L [] L
 | cons {L L':Env} {o:Oper} {rest:List Oper} {x:Dt} {d:Nat} (hd:o.dst=some d) (hN:d<N) (h:OpG P M ops N (λ s=>L.lookup s) o x)
   (hr:Seg P M ops N ((d,x)::L) rest L'):Seg P M ops N L (o::rest) L'
theorem St.put{F:Frm}{L:Env}{a:Act}{w w':World}(h:St F N M L a w)(he:Ext0 w w'){d:Nat}(hN:d<N){x:Dt}{v:Value}(hx:x.rd M w' v):
  St F N M ((d,x)::L) (a.put (some d) v) w':=by
 refine⟨F.ext h.fr he,by rw[Act.put_size];exact h.size,by rw[Act.put_defers];exact h.defers,λ b hb=>ax (h.mok b hb) he.size,λ s y hy=>?_⟩;simp only[ae] at hy;by_cases hs:s=d
 ·subst hs;simp at hy;subst hy;rw[Act.at_put_self (by rw[h.size];exact hN)];exact hx
 ·have hb:(s == d)=false:=by simpa using hs
  simp[hb] at hy;rw[Act.at_put_other (λ e=>hs (by injection e with e;exact e.symm))];exact y.ext (h.has s y hy) he
theorem zal:∀ {L L':Env} {seg:List Oper},Seg P M ops N L seg L'->∀ {a:Act} {w:World},St F N M L a w->
  (∀ a' w',Ext0 w w'->St F N M L' a' w'->wpList P ops Q rest a' w')->wpList P ops Q (seg++rest) a w:=by
 intro L L' seg hseg
 induction hseg with
 | nil=>intro a w hst hk;exact hk a w (Ext0.refl w) hst
 |cons hd hN h hr ih=>
  rename_i L L' o rest' x d;intro a w hst hk;have JX:=h.step hst.mok (λ s y hy=>hst.has s y hy) hst.size;show wpList P ops Q (o::_) a w;unfold wpList;split
  ·rename_i hw;refine .inl (OpOut.wp ((JX.1 hw).mono λ v w' ⟨he,hx⟩=>?_));rw[hd];exact ih (hst.put he hN hx) λ a' w'' he' hst'=>hk a' w'' (he.trans he') hst'
  ·rename_i hw;have hx:=JX.2 (by simpa using hw);rw[hd];exact ih (hst.put (Ext0.refl w) hN hx) hk
def YM(S:List (Nat×Option Nat))(L:Env)(D:List Dt)(s:Nat):Option Dt:=
 match S.lookup s with
 | some (some j)=>D[j]?
 | some none=>L.lookup s
 | none=>none
inductive RegR (P:Program) (M:Nat->Prop) (ops:Array Oper) (N:Nat) (S:List (List (Nat×Option Nat))) (L:Env) (D:List Dt):Nat->List Oper->List (Nat×Dt)->Prop
 | nil {i:Nat}:RegR P M ops N S L D i [] []
 | cons {i:Nat} {o:Oper} {rest:List Oper} {x:Dt} {xs:List (Nat×Dt)} {d:Nat} (hd:o.dst=some d) (hN:d<N) (hx:D[i]?=some x) (h:OpG P M ops N (YM (S.getD i []) L D) o x)
   (hr:RegR P M ops N S L D (i+1) rest xs):RegR P M ops N S L D i (o::rest) ((d,x)::xs)
def xA(ops:Array Oper)(i:Nat):Option Nat:=(ops[i]?).bind (·.dst)
def Xp(E:List Nat)(ops:Array Oper)(k:Nat)(T:List (List Nat))(S:List (List (Nat×Option Nat))):Bool:=
 (List.range ops.size).all (λ i=>
  match ops[i]? with
  | none=>false
  |some o=>
   (o.after.toList.all λ e=>!Region.binds .any e||decide (e.on<i))&&
   ((T.getD i []).all λ j=>E.contains j||(o.after.toList.any λ e=>Region.binds .any e&&(e.on == j||(T.getD e.on []).contains j)))&&
   (if i<k then
    ((
     S.getD i []).all λ p=>match p.2 with
     | some j=>xA ops j == some p.1&&(T.getD i []).contains j&&decide (j<k)
     | none=>(List.range ops.size).all λ m=>xA ops m != some p.1||(T.getD m []).contains i)&&
    ((List.range i).all λ j=>xA ops j != xA ops i)
    else(List.range i).all λ j=>(T.getD i []).contains j))
instance {n:Nat}:OfNat (Option Nat) n:=⟨some n⟩
def nS:Option Nat:=none
def afterL(o:Oper):List Nat:=(o.after.toList.filter (Region.binds .any)).map (·.on)
def cloM(ops:Array Oper):List Nat:=ops.toList.foldl (λ T o=>T++[(afterL o).foldl (λ m e=>m ||| (1 <<< e) ||| T.getD e 0) 0]) []
def bitsM(n m:Nat):List Nat:=(List.range n).filter m.testBit
def cloT(ops:Array Oper):List (List Nat):=(cloM ops).map (bitsM ops.size)
def cloE(E:List Nat)(ops:Array Oper):List (List Nat):=(cloM ops).zipIdx.map λ q=>if E.contains q.2 then[] else bitsM ops.size (q.1 ||| E.foldl (λ m e=>m ||| (1 <<< e)) 0)
def jf(ops:Array Oper)(k:Nat)(T:List (List Nat))(S:List (List (Nat×Option Nat))):Bool:=Xp [] ops k T S
end
section
variable{T:List (List Nat)}
theorem wU(h:Xp E ops k T S=true)(ho:ops[i]?=some o):
  (∀ e∈o.after,Region.binds .any e=true->e.on<i)/\
  (∀ j∈T.getD i [],j∈E\/∃ e∈o.after,Region.binds .any e=true/\(e.on=j\/j∈T.getD e.on []))/\
  (i<k->(∀ s j,(s,some j)∈S.getD i []->xA ops j=some s/\j∈T.getD i []/\j<k)/\
   (∀ s,(s,none)∈S.getD i []->∀ m,m<ops.size->xA ops m=some s->i∈T.getD m [])/\(∀ j,j<i->xA ops j≠xA ops i))/\
  (k<=i->∀ j,j<i->j∈T.getD i []):=by
 have hi:=(aD.1 ho).1;have h0:=al.1 h i (az.2 hi);simp only[ho,af] at h0;obtain⟨⟨h1,h2⟩,h3⟩:=h0;refine⟨λ e he hb=>?_,λ j hj=>?_,λ hk=>?_,λ hk j hj=>?_⟩
 ·have:=al.1 h1 e (Array.mem_toList_iff.2 he);simp[hb] at this;exact this
 ·have:=al.1 h2 j hj;rcases Bool.or_eq_true_iff.1 this with this | this
  ·exact .inl (bF.1 this)
  obtain⟨e,he,hb⟩:=cC.1 this;simp at hb;exact .inr ⟨e,Array.mem_toList_iff.1 he,hb.1,hb.2⟩
 ·rw[Kc hk] at h3;simp only[af] at h3;refine⟨λ s j hp=>?_,λ s hp m hm hd=>?_,λ j hj=>?_⟩
  ·have:=al.1 h3.1 _ hp;simp at this;exact⟨this.1.1,this.1.2,this.2⟩
  ·have:=al.1 h3.1 _ hp;have:=al.1 this m (az.2 hm);simpa[hd] using this
  ·have:=al.1 h3.2 j (az.2 hj);simpa using this
 ·rw[Kd (by omega)] at h3;have:=al.1 h3 j (az.2 hj);simpa using this
theorem zcY(h:jf ops k T S=true)(ho:ops[i]?=some o):
  (∀ e∈o.after,Region.binds .any e=true->e.on<i)/\
  (∀ j∈T.getD i [],∃ e∈o.after,Region.binds .any e=true/\(e.on=j\/j∈T.getD e.on []))/\
  (i<k->(∀ s j,(s,some j)∈S.getD i []->xA ops j=some s/\j∈T.getD i []/\j<k)/\
   (∀ s,(s,none)∈S.getD i []->∀ m,m<ops.size->xA ops m=some s->i∈T.getD m [])/\(∀ j,j<i->xA ops j≠xA ops i))/\
  (k<=i->∀ j,j<i->j∈T.getD i []):=let⟨a,b,c,e⟩:=wU h ho;⟨a,λ j hj=>(b j hj).resolve_left (λ h=>by cases h),c,e⟩
theorem T_ltE(h:Xp E ops k T S=true):∀ (i:Nat),i<ops.size->∀ j∈T.getD i [],j∈E\/j<i:=by
 intro i
 induction i using Nat.strongRecOn with
 |_ i ih=>
  intro hi j hj;obtain⟨o,ho⟩:∃ o,ops[i]?=some o:=⟨_,aq hi⟩;rcases(wU h ho).2.1 j hj with hE | ⟨e,he,hb,hor⟩
  ·exact .inl hE
  have hlt:=(wU h ho).1 e he hb;rcases hor with rfl | hm
  ·exact .inr hlt
  ·exact(ih e.on hlt (by omega) j hm).imp id λ h=>Nat.lt_trans h hlt
theorem T_lt(h:jf ops k T S=true):∀ (i:Nat),i<ops.size->∀ j∈T.getD i [],j<i:=λ i hi j hj=>(T_ltE h i hi j hj).resolve_left (λ h=>by cases h)
theorem YN{l:Array Bool}(h:i<l.size)(x y:Bool):l.getD i x=l.getD i y:=by
 simp[h]
theorem QB{l:Array Bool}(h:l.getD i false=true):i<l.size:=by
 grind
theorem xg{l:Array Bool}(h:i<l.size):(l.setIfInBounds i true).getD i false=true:=by simp[h]
theorem zY{l:Array Bool}(h:i≠j):(l.setIfInBounds i true).getD j false=l.getD j false:=by
 simp_all
def zam(T:List (List Nat))(n:Nat)(listed:Array Bool):Prop:=∀ i,i<n->listed.getD i false=true->∀ j∈T.getD i [],listed.getD j false=true
theorem zaX(h:Xp E ops k T S=true)(hE:∀ j∈E,listed.getD j false=true)(hc:zam T ops.size listed)(hi:i∈Region.ready .any ops listed):
  i<ops.size/\listed.getD i true=false/\∀ j∈T.getD i [],listed.getD j false=true:=by
 obtain⟨h0,o,ho,hall⟩:=cA.1 hi;have hlt:=(aD.1 ho).1;refine⟨hlt,h0,λ j hj=>?_⟩;rcases(wU h ho).2.1 j hj with hj' | ⟨e,he,hb,hor⟩
 ·exact hE j hj'
 have h1:=hall e he hb;have h2:=(wU h ho).1 e he hb;rcases hor with rfl | hm
 ·exact h1
 ·exact hc e.on (by omega) h1 j hm
theorem ze5(h:jf ops k T S=true)(hc:zam T ops.size listed)(hi:i∈Region.ready .any ops listed):
  i<ops.size/\listed.getD i true=false/\∀ j∈T.getD i [],listed.getD j false=true:=zaX h (λ _ h=>by cases h) hc hi
theorem zeA(h:Xp E ops k T S=true)(hE:∀ j∈E,listed.getD j false=true)(hsz:listed.size=ops.size)(hc:zam T ops.size listed)(hi:i∈Region.ready .any ops listed):
  zam T ops.size (listed.setIfInBounds i true):=by
 obtain⟨hlt,_,hall⟩:=zaX h hE hc hi;intro m hm hl j hj;by_cases hji:i=j
 ·subst hji;exact xg (by omega)
 ·rw[zY hji];by_cases hmi:i=m
  ·subst hmi;exact hall j hj
  ·rw[zY hmi] at hl;exact hc m hm hl j hj
theorem zcz(h:jf ops k T S=true)(hsz:listed.size=ops.size)(hc:zam T ops.size listed)(hi:i∈Region.ready .any ops listed):
  zam T ops.size (listed.setIfInBounds i true):=zeA h (λ _ h=>by cases h) hsz hc hi
theorem tail_anyE(h:Xp E ops k T S=true)(hEk:∀ j∈E,j<k):∀ (f m:Nat) (listed:Array Bool),f+m=ops.size->k<=m->listed.size=ops.size->
  (∀ i,i<m->listed.getD i false=true)->(∀ i,m<=i->listed.getD i false=false)->
  ∀ (a:Act) (w:World),wpList P ops Q (ops.toList.drop m) a w->wpAny P .any ops Q f listed a w:=by
 intro f
 induction f with
 |zero=>
  intro m listed hf hk hsz h1 _ a w hw;have hr:Region.ready .any ops listed=[]:=by
   apply cK.2;intro i hi;obtain⟨h0,o,ho,_⟩:=cA.1 hi;have hlt:=(aD.1 ho).1;have:=h1 i (by omega);rw[YN (by omega) true false] at h0;rw[this] at h0;cases h0
  refine⟨hr,?_⟩;rw[cb (by simp;omega)] at hw;exact hw
 |succ f ih=>
  intro m listed hf hk hsz h1 h2 a w hw;have hmlt:m<ops.size:=by omega
  obtain⟨o,ho⟩:∃ o,ops[m]?=some o:=⟨_,aq hmlt⟩;have hdrop:ops.toList.drop m=o::ops.toList.drop (m+1):=by
   rw[bh (by simpa using hmlt)]
   congr 1
   have:=ho;rw[aq hmlt] at this;simpa using this
  have honly:∀ i∈Region.ready .any ops listed,i=m:=by
   intro i hi;obtain⟨h0,o',ho',hall⟩:=cA.1 hi;have hlt:=(aD.1 ho').1;rcases dR i m with hlm | rfl | hgm
   ·rw[YN (by omega) true false,h1 i hlm] at h0;cases h0
   ·rfl
   ·rcases(wU h ho').2.1 m ((wU h ho').2.2.2 (by omega) m hgm) with hmE | ⟨e,he,hb,hor⟩
    ·have:=hEk m hmE;omega
    have hel:=hall e he hb;have heon:e.on<m:=by
     rcases aR e.on m with hx | hx
     ·exact hx
     ·rw[h2 e.on hx] at hel;cases hel
    rcases hor with rfl | hm'
    ·omega
    ·rcases T_ltE h e.on (by omega) m hm' with hmE | this
     ·have:=hEk m hmE;omega
     ·omega
  have hmr:m∈Region.ready .any ops listed:=by
   refine cA.2 ⟨by rw[YN (by omega) true false];exact h2 m (ak _),o,ho,λ e he hb=>h1 _ ((wU h ho).1 e he hb)⟩
  refine⟨λ hnil=>absurd hmr (by rw[hnil];exact aS),λ i hi=>?_⟩;have:=honly i hi;subst this;have hnext:=ih (i+1) (listed.setIfInBounds i true) (by omega) (by omega) (by simpa using hsz)
   (λ j hj=>by
    by_cases hij:i=j
    ·subst hij;exact xg (by omega)
    ·rw[zY hij];exact h1 j (by omega))
   (λ j hj=>by rw[zY (by omega)];exact h2 j (by omega))
  rw[hdrop] at hw;unfold wpList at hw;unfold wpOp;simp[ho];split
  ·rename_i hwt;rw[Kc hwt] at hw;exact hw.imp (Oper.wp_mono hnext) id
  ·rename_i hwt;rw[Kd hwt] at hw;exact hnext _ _ hw
theorem tail_any(h:jf ops k T S=true):∀ (f m:Nat) (listed:Array Bool),f+m=ops.size->k<=m->listed.size=ops.size->
  (∀ i,i<m->listed.getD i false=true)->(∀ i,m<=i->listed.getD i false=false)->
  ∀ (a:Act) (w:World),wpList P ops Q (ops.toList.drop m) a w->wpAny P .any ops Q f listed a w:=tail_anyE h (λ _ h=>by cases h)
theorem RegR.get:∀ {i0:Nat} {l:List Oper} {xs:List (Nat×Dt)},RegR P M ops N S L D i0 l xs->
  l.length=xs.length/\∀ (n:Nat) (o:Oper),l[n]?=some o->∃ x d,xs[n]?=some (d,x)/\o.dst=some d/\d<N/\D[i0+n]?=some x/\OpG P M ops N (YM (S.getD (i0+n) []) L D) o x:=by
 intro i0 l xs h
 induction h with
 | nil=>exact⟨Z,λ n o h=>by simp at h⟩
 |cons hd hN hx h hr ih=>
  rename_i i o rest x xs d;refine⟨by simp[ih.1],λ n o' ho'=>?_⟩;cases n with
  |zero=>simp at ho';subst ho';exact⟨x,d,by simp,hd,hN,hx,h⟩
  |succ n=>simp at ho';obtain⟨x',d',h1,h2,h3,h4,h5⟩:=ih.2 n o' ho';exact⟨x',d',by simpa using h1,h2,h3,by rw[← h4];congr 1;omega,by rw[show i+_=i+1+n by omega];exact h5⟩
structure RInv(P:Program)(M:Nat->Prop)(ops:Array Oper)(N k:Nat)(T:List (List Nat))(xs:List (Nat×Dt))(a0:Act)(w1:World)(listed:Array Bool)(a:Act)(w:World):Prop where
 sz:listed.size=ops.size
 size:a.tmps.size=N
 defers:a.defers=a0.defers
 ext:Ext0 w1 w
 tail:∀ i,k<=i->listed.getD i false=false
 clos:zam T ops.size listed
 done:∀ i,listed.getD i false=true->∀ x d,xs[i]?=some (d,x)->x.rd M w (Act.at a d)
 rest:∀ s,(∀ i,listed.getD i false=true->xA ops i≠some s)->Act.at a s=Act.at a0 s
theorem ql{α:Type}(l r:List (Nat×α))(s:Nat)(x:α)(h:(l++r).lookup s=some x):(s,x)∈l\/((∀ y,(s,y) ∉ l)/\r.lookup s=some x):=by
 induction l with
 | nil=>exact .inr ⟨λ y hy=>(by cases hy),by simpa using h⟩
 |cons p l ih=>
  obtain⟨q,z⟩:=p;simp only[bL,ae] at h;by_cases hs:s=q
  ·subst hs;simp at h;subst h;exact .inl (by simp)
  ·have hb:(s == q)=false:=by simpa using hs
   simp[hb] at h;rcases ih h with h1 | ⟨h1,h2⟩
   ·exact .inl (bM _ h1)
   ·exact .inr ⟨λ y hy=>by
     rcases am.1 hy with e | e
     ·injection e with e1 e2;exact hs e1
     ·exact h1 y e,h2⟩
theorem jp{α:Type}(l:List (Nat×α))(s:Nat)(x:α)(h:l.lookup s=some x):(s,x)∈l:=by
 have:=ql l [] s x (by simpa using h);grind
def left(n:Nat)(listed:Array Bool):Nat:=((List.range n).filter λ i=>!listed.getD i false).length
theorem zcZ{n:Nat}(hi:i<n)(hsz:listed.size=n)(hu:listed.getD i false=false):left n (listed.setIfInBounds i true)+1=left n listed:=by
 unfold left;have key:∀ l:List Nat,l.Nodup->i∈l->(l.filter λ j=>!(listed.setIfInBounds i true).getD j false).length+1=(l.filter λ j=>!listed.getD j false).length:=by
  intro l
  induction l with
  | nil=>intro _ h;cases h
  |cons j l ih=>
   intro hnd hm;have hnd':=eb.1 hnd;by_cases hij:i=j
   ·subst hij;rw[di (by rw[xg (by omega)];simp),dj (by rw[hu];rfl),bj]
    congr 2
    apply List.filter_congr;intro m hm';rw[zY (λ e=>by subst e;exact hnd'.1 hm')]
   ·have hm':i∈l:=(am.1 hm).resolve_left hij;have:=ih hnd'.2 hm';by_cases hj:listed.getD j false=true
    ·rw[di (by rw[zY hij,hj];simp),di (by rw[hj];simp)];exact this
    ·have hj':listed.getD j false=false:=by simpa using hj
     rw[dj (by rw[zY hij,hj'];rfl),dj (by rw[hj'];rfl)];simp only[bj];omega
 grind
theorem Qp{n:Nat}(hk:k<=n)(h1:∀ i,i<k->listed.getD i false=true)(h2:∀ i,k<=i->listed.getD i false=false):left n listed+k=n:=by
 unfold left;have:(List.range n).filter (λ i=>!listed.getD i false)=(List.range (n - k)).map (k+·):=by
  rw[show n=k+(n - k) by omega,List.range_add,List.filter_append];rw[List.filter_eq_nil_iff.2 (λ i hi=>by rw[h1 i (az.1 hi)];simp)];rw[List.filter_eq_self.2 (λ i hi=>by
   obtain⟨j,_,rfl⟩:=bg.1 hi;rw[h2 _ (by omega)];rfl)]
  simp
 grind
theorem zbZ(h:Xp E ops k T S=true)(hsz:listed.size=ops.size){p:Nat}(hp:p<ops.size)(hu:listed.getD p false=false):Region.ready .any ops listed≠[]:=by
 induction p using Nat.strongRecOn with
 |_ p ih=>
  obtain⟨o,ho⟩:∃ o,ops[p]?=some o:=⟨_,aq hp⟩;by_cases hall:∀ e∈o.after,Region.binds .any e=true->listed.getD e.on false=true
  ·intro hnil;have:=cA.2 ⟨by rw[YN (by omega) true false];exact hu,o,ho,hall⟩;rw[hnil] at this;cases this
  ·simp at hall;obtain⟨e,he,hb,hne⟩:=hall;have hlt:=(wU h ho).1 e he hb;exact ih e.on hlt (by omega) (by simpa using hne)
theorem zc0(h:jf ops k T S=true)(hsz:listed.size=ops.size){p:Nat}(hp:p<ops.size)(hu:listed.getD p false=false):Region.ready .any ops listed≠[]:=zbZ h hsz hp hu
theorem draw_anyE(h:Xp E ops k T S=true)(hEk:∀ j∈E,j<k)(hk:k<=ops.size){xs:List (Nat×Dt)}
  (hst:St F N M L a0 w1) (hreg:RegR P M ops N S L D 0 (ops.toList.take k) xs)
  (hQ:∀ a' w',Ext0 w1 w'->St F N M (xs++L) a' w'->wpList P ops Q (ops.toList.drop k) a' w'):
  ∀ (f:Nat) (listed:Array Bool) (a:Act) (w:World),left ops.size listed=f->(∀ j∈E,listed.getD j false=true)->RInv P M ops N k T xs a0 w1 listed a w->wpAny P .any ops Q f listed a w:=by
 have hlen:xs.length=k:=by rw[← hreg.get.1];simp;omega
 have hget:∀ i o,i<k->ops[i]?=some o->∃ x d,xs[i]?=some (d,x)/\o.dst=some d/\d<N/\D[i]?=some x/\OpG P M ops N (YM (S.getD i []) L D) o x:=by
  intro i o hi ho;have:=hreg.get.2 i o (by rw[aE,Kc hi];simpa using ho);simpa using this
 have hdst:∀ i x d,xs[i]?=some (d,x)->i<k/\xA ops i=some d:=by
  intro i x d hx;have hi:i<k:=by rw[← hlen];exact(ai.1 hx).1
  obtain⟨o,ho⟩:∃ o,ops[i]?=some o:=⟨_,aq (by omega)⟩;obtain⟨x',d',h1,h2,_⟩:=hget i o hi ho;rw[hx] at h1;injection h1 with h1;injection h1 with h1 _;exact⟨hi,by simp[xA,ho,h2,h1]⟩
 have finish:∀ (f:Nat) (listed:Array Bool) (a:Act) (w:World),left ops.size listed=f->RInv P M ops N k T xs a0 w1 listed a w->(∀ i,i<k->listed.getD i false=true)->wpAny P .any ops Q f listed a w:=by
  intro f listed a w hf inv hall;refine tail_anyE h hEk f k listed (by rw[← hf];exact Qp hk hall inv.tail) (ak _) inv.sz hall inv.tail a w (hQ a w inv.ext ?_);refine⟨F.ext hst.fr inv.ext,inv.size,by rw[inv.defers];exact hst.defers,λ b hb=>ax (hst.mok b hb) inv.ext.size,λ s x hs=>?_⟩;rcases ql xs L s x hs with hm | ⟨hno,hl⟩
  ·obtain⟨i,hi⟩:=aN hm;exact inv.done i (hall i (hdst i x s hi).1) x s hi
  ·rw[inv.rest s (λ i hi hd=>?_)]
   ·exact x.ext (hst.has s x hl) inv.ext
   ·have hik:i<k:=by
     rcases aR i k with hx | hx
     ·exact hx
     ·rw[inv.tail i hx] at hi;cases hi
    obtain⟨o,ho⟩:∃ o,ops[i]?=some o:=⟨_,aq (by omega)⟩;obtain⟨x',d',h1,h2,_⟩:=hget i o hik ho;simp[xA,ho,h2] at hd;subst hd;exact hno x' (ac h1)
 intro f
 induction f with
 |zero=>
  intro listed a w hf _ inv;refine finish 0 listed a w hf inv (λ i hi=>?_);have h1:i ∉ (List.range ops.size).filter λ i=>!listed.getD i false:=by
   rw[ar hf];intro h;cases h
  rw[dc] at h1;have:=λ hx=>h1 ⟨az.2 (by omega),hx⟩
  simpa using this
 |succ f ih=>
  intro listed a w hf hE inv;by_cases hall:∀ i,i<k->listed.getD i false=true
  ·exact finish _ listed a w hf inv hall
  ·simp at hall;obtain⟨p,hp,hup⟩:=hall;have hup:listed.getD p false=false:=by simpa using hup
   refine⟨λ hnil=>absurd hnil (zbZ h inv.sz (by omega) hup),λ i hi=>?_⟩;obtain⟨hilt,hiu,hicl⟩:=zaX h hE inv.clos hi;have hiu':listed.getD i false=false:=by rw[YN (by rw[inv.sz];exact hilt) false true];exact hiu
   obtain⟨o,ho⟩:∃ o,ops[i]?=some o:=⟨_,aq hilt⟩;have hik:i<k:=by
    rcases aR i k with hx | hx
    ·exact hx
    ·have:=hicl p ((wU h ho).2.2.2 hx p (by omega));rw[hup] at this;cases this
   obtain⟨x,d,hx,hod,hdN,hDx,hg⟩:=hget i o hik ho;obtain⟨hS1,hS2,hdd⟩:=(wU h ho).2.2.1 hik;have hl:∀ s y,YM (S.getD i []) L D s=some y->y.rd M w (Act.at a s):=by
    intro s y hy;unfold YM at hy;split at hy
    ·rename_i j hj;have hmem:=jp _ _ _ hj;obtain⟨hd1,hT,hjk⟩:=hS1 s j hmem;obtain⟨o',ho'⟩:∃ o',ops[j]?=some o':=⟨_,aq (by omega)⟩;obtain⟨x',d',g1,g2,_,g4,_⟩:=hget j o' hjk ho';rw[g4] at hy;injection hy with hy;subst hy;have:d'=s:=by simpa[xA,ho',g2] using hd1
     subst this;exact inv.done j (hicl j hT) _ _ g1
    ·rename_i hj;have hmem:=jp _ _ _ hj;rw[inv.rest s (λ m hm hd=>?_)]
     ·exact y.ext (hst.has s y hy) inv.ext
     ·have hmlt:m<ops.size:=by rw[← inv.sz];exact QB hm
      have:=hS2 s hmem m hmlt hd;have:=inv.clos m hmlt hm i this;rw[hiu'] at this;cases this
    ·cases hy
   have hmok:=λ b hb=>ax (hst.mok b hb) inv.ext.size
   have JX:=hg.step hmok hl inv.size;have hnext:∀ v w',Ext0 w w'->x.rd M w' v->wpAny P .any ops Q f (listed.setIfInBounds i true) (a.put o.dst v) w':=by
    intro v w' he hv;refine ih _ _ _ (by have:=zcZ hilt inv.sz hiu';omega) (λ j hj=>by
     by_cases hij:i=j
     ·subst hij;exact xg (by rw[inv.sz];exact hilt)
     ·rw[zY hij];exact hE j hj) ⟨by simpa using inv.sz,by rw[Act.put_size];exact inv.size,by rw[Act.put_defers];exact inv.defers,inv.ext.trans he,λ j hj=>?_,zeA h hE inv.sz inv.clos hi,λ j hj y e hy=>?_,λ s hs=>?_⟩
    ·rw[zY (by omega)];exact inv.tail j hj
    ·rw[hod];by_cases hij:i=j
     ·subst hij;rw[hx] at hy;injection hy with hy;injection hy with hy1 hy2;subst hy1;subst hy2;rw[Act.at_put_self (by rw[inv.size];exact hdN)];exact hv
     ·rw[zY hij] at hj;obtain⟨hjk,hjd⟩:=hdst j y e hy;have hne:(some d:Option Nat)≠some e:=by
       intro he';have h1:xA ops i=some d:=by simp[xA,ho,hod]
       rcases Nat.lt_or_gt_of_ne hij with hlt | hgt
       ·obtain⟨o',ho'⟩:∃ o',ops[j]?=some o':=⟨_,aq (by omega)⟩;exact((wU h ho').2.2.1 hjk).2.2 i hlt (by rw[h1,hjd,he'])
       ·exact hdd j hgt (by rw[h1,hjd,he'])
      rw[Act.at_put_other hne];exact y.ext (inv.done j hj y e hy) he
    ·rw[hod,Act.at_put_other]
     ·exact inv.rest s (λ j hj=>hs j (by
       by_cases hij:i=j
       ·subst hij;exact xg (by rw[inv.sz];exact hilt)
       ·rw[zY hij];exact hj))
     ·have:=hs i (xg (by rw[inv.sz];exact hilt));simpa[xA,ho,hod] using this
   unfold wpOp;simp[ho];split
   ·rename_i hw;exact .inl (OpOut.wp ((JX.1 hw).mono λ v w' ⟨he,hv⟩=>hnext v w' he hv))
   ·rename_i hw;exact hnext undef w (Ext0.refl w) (JX.2 (by simpa using hw))
theorem draw_any(h:jf ops k T S=true)(hk:k<=ops.size){xs:List (Nat×Dt)}
  (hst:St F N M L a0 w1) (hreg:RegR P M ops N S L D 0 (ops.toList.take k) xs)
  (hQ:∀ a' w',Ext0 w1 w'->St F N M (xs++L) a' w'->wpList P ops Q (ops.toList.drop k) a' w'):
  ∀ (f:Nat) (listed:Array Bool) (a:Act) (w:World),left ops.size listed=f->RInv P M ops N k T xs a0 w1 listed a w->wpAny P .any ops Q f listed a w:=λ f listed a w hl hi=>draw_anyE h (λ _ h=>by cases h) hk hst hreg hQ f listed a w hl (λ _ h=>by cases h) hi
theorem Qq{id:Nat}{xs:List (Nat×Dt)}(hm:P.follows .mixedOrders=true)
  (k:Nat) (T:List (List Nat)) (S:List (List (Nat×Option Nat))) (h:jf ops k T S=true) (hk:k<=ops.size)
  (hst:St F N M L a w) (hreg:RegR P M ops N S L D 0 (ops.toList.take k) xs)
  (hQ:∀ a' w',Ext0 w w'->St F N M (xs++L) a' w'->wpList P ops Q (ops.toList.drop k) a' w'):(Code.region id ops true).wp P Q a w:=by
 have he:Ext0 w { w with drawn:=w.drawn+1 }:=Ext0.drawn w _;have hst':St F N M L a { w with drawn:=w.drawn+1 }:=⟨F.ext hst.fr he,hst.size,hst.defers,hst.mok,λ s x hs=>x.ext (hst.has s x hs) he⟩;refine wp_region_any hm ?_;have hall:∀ i,(Array.replicate ops.size false).getD i false=false:=λ i=>by
  rcases aR i ops.size with hi | hi <;> simp[hi]
 have hleft:left ops.size (Array.replicate ops.size false)=ops.size:=by
  have:=Qp (n:=ops.size) (by omega) (λ i hi=>absurd hi (Nat.not_lt_zero _)) (λ i _=>hall i);simpa using this
 refine draw_any h hk hst' hreg (λ a' w' e s=>hQ a' w' (he.trans e) s) _ _ _ _ hleft ⟨by simp,hst.size,Z,Ext0.refl _,λ i _=>hall i,λ i _ hl=>?_,λ i hl=>?_,λ s _=>Z⟩
 ·rw[hall i] at hl;cases hl
 ·rw[hall i] at hl;cases hl
end
class Rep (α:Type) where
 size:Nat
 agg:Bool
 rdc:(Nat->Prop)->World->List Value->α->Prop
 len:∀ {M:Nat->Prop} {w:World} {cs:List Value} {x:α},rdc M w cs x->cs.length=size
 one:agg=false->size=1
 pos:0<size
 oneCell:∀ {M:Nat->Prop} {w:World} {cs:List Value} {x:α},rdc M w cs x->∀ c∈cs,c.oneCell'=true
 stable:∀ {M:Nat->Prop} {w w':World} {cs:List Value} {x:α},rdc M w cs x->Same M noB w w'->rdc M w' cs x
 weak:∀ {M M':Nat->Prop} {w:World} {cs:List Value} {x:α},rdc M w cs x->(∀ k,k<w.heap.size->M' k->M k)->rdc M' w cs x
def mkv(agg:Bool)(cs:List Value):Value:=if agg then .agg cs.toArray else cs.headD undef
def dt{α:Type}[Rep α](x:α):Dt where
 rd M w v:=∃ cs,Rep.rdc M w cs x/\v=mkv (Rep.agg α) cs
 own:=noB
 nb:=true
 nob _ _ h:=h
 stable:=λ⟨cs,h,hv⟩ e=>⟨cs,Rep.stable h e,hv⟩
 weak:=λ⟨cs,h,hv⟩ e=>⟨cs,Rep.weak h e,hv⟩
theorem Same.mono{o:Nat->Prop}(h:Same M o w w'):Same M noB w w':=λ k hk hm=>h k hk (hm.imp id (λ e=>e.elim))
structure Str where
 l:List UInt8
deriving DecidableEq,Inhabited
theorem Str.ext_iff'{m n:Str}:m=n ↔ m.l=n.l:=by cases m;cases n;simp
abbrev Rep.flat{α:Type}(val:α->Value)(ok:α->Prop)(h1:∀ x,(val x).oneCell'=true):Rep α where
 size:=1
 agg:=false
 rdc _ _ cs x:=cs=[val x]/\ok x
 len h:=by rw[h.1];rfl
 one _:=rfl
 pos:=Nat.one_pos
 oneCell h c hc:=by rw[h.1] at hc;simp at hc;subst hc;exact h1 _
 stable h _:=h
 weak h _:=h
def strv(s:Str):Value:=.string ⟨⟨s.l⟩⟩
instance:Rep Int:=Rep.flat (.int .i64) (λ _=>True) (λ _=>Z)
instance:Rep Bool:=Rep.flat .bool (λ _=>True) (λ _=>Z)
instance:Rep UInt8:=Rep.flat (λ b=>.int .u8 b.toNat) (λ _=>True) (λ _=>Z)
instance:Rep Str:=Rep.flat strv (λ s=>s.l.length<=maxLen) (λ _=>Z)
theorem yx{n:Int}:(dt n).rd M w v ↔ v=.int .i64 n:=
 ⟨λ⟨_,h,hv⟩=>by rw[hv,h.1];rfl,λ h=>⟨[.int .i64 n],⟨Z,trivial⟩,h⟩⟩
theorem xE:(dt b).rd M w v ↔ v=.bool b:=
 ⟨λ⟨_,h,hv⟩=>by rw[hv,h.1];rfl,λ h=>⟨[.bool b],⟨Z,trivial⟩,h⟩⟩
theorem dt_u8{b:UInt8}:(dt b).rd M w v ↔ v=.int .u8 b.toNat:=
 ⟨λ⟨_,h,hv⟩=>by rw[hv,h.1];rfl,λ h=>⟨[.int .u8 b.toNat],⟨Z,trivial⟩,h⟩⟩
theorem xT{s:Str}:(dt s).rd M w v ↔ v=strv s/\s.l.length<=maxLen:=
 ⟨λ⟨_,h,hv⟩=>⟨by rw[hv,h.1];rfl,h.2⟩,λ h=>⟨[strv s],⟨Z,h.2⟩,h.1⟩⟩
theorem zy(h:(dt b).rd M w v):v=.bool b:=xE.1 h
instance {α β:Type} [Rep α] [Rep β]:Rep (α×β) where
 size:=Rep.size α+Rep.size β
 agg:=true
 rdc M w cs x:=∃ c1 c2,cs=c1++c2/\Rep.rdc M w c1 x.1/\Rep.rdc M w c2 x.2
 len:=λ⟨_,_,h,h1,h2⟩=>by rw[h,ap,Rep.len h1,Rep.len h2]
 one h:=by cases h
 pos:=Nat.add_pos_left Rep.pos _
 oneCell:=λ⟨_,_,h,h1,h2⟩ c hc=>by
  rw[h] at hc;exact(bb.1 hc).elim (Rep.oneCell h1 c) (Rep.oneCell h2 c)
 stable:=λ⟨c1,c2,h,h1,h2⟩ e=>⟨c1,c2,h,Rep.stable h1 e,Rep.stable h2 e⟩
 weak:=λ⟨c1,c2,h,h1,h2⟩ e=>⟨c1,c2,h,Rep.weak h1 e,Rep.weak h2 e⟩
abbrev Rep.iso{α β:Type}[Rep β](f:α->β):Rep α where
 size:=Rep.size β
 agg:=true
 rdc M w cs x:=Rep.rdc M w cs (f x)
 len h:=Rep.len h
 one h:=by cases h
 pos:=Rep.pos (α:=β)
 oneCell h:=Rep.oneCell h
 stable h e:=Rep.stable h e
 weak h e:=Rep.weak h e
structure Fld{α β:Type}[Rep α][Rep β](get:α->β)(off:Nat):Prop where
 sub:∀ {M:Nat->Prop} {w:World} {cs:List Value} {x:α},Rep.rdc M w cs x->∃ c,(∀ j u,c[j]?=some u->cs[off+j]?=some u)/\Rep.rdc M w c (get x)
theorem Fld.id[Rep α]:Fld (λ x:α=>x) 0:=⟨λ h=>⟨_,λ j u hj=>by simpa using hj,h⟩⟩
theorem Fld.fst[Rep α][Rep β]:Fld (λ x:α×β=>x.1) 0:=
 ⟨λ⟨c1,c2,h,h1,_⟩=>⟨c1,λ j u hj=>by rw[h,aB,aK (ai.1 hj).1];exact hj,h1⟩⟩
theorem Fld.snd[Rep α][Rep β][Rep γ]{get:β->γ}(f:Fld get off):Fld (λ x:α×β=>get x.2) (Rep.size α+off):=
 ⟨λ⟨c1,c2,h,h1,h2⟩=>by
  obtain⟨c,hc,hr⟩:=f.sub h2;refine⟨c,λ j u hj=>?_,hr⟩;have hl:=Rep.len h1;rw[h,aH (by omega),← hc j u hj]
  congr 1
  omega⟩
section
variable{α:Type}[Rep α]
def rowR(M:Nat->Prop)(w:World):List Value->List α->Prop
 | cells,[]=>cells=[]
 | cells,x::xs=>∃ c r,cells=c++r/\Rep.rdc M w c x/\rowR M w r xs
theorem Je{M:Nat->Prop}{w:World}:∀ {cells:List Value} {xs:List α},rowR M w cells xs->cells.length=xs.length*Rep.size α
 | cells,[],h=>by rw[h];simp
 | cells,x::xs,⟨c,r,h,h1,h2⟩=>by rw[h,ap,Rep.len h1,Je h2,bj,bS];omega
theorem qO{M:Nat->Prop}{w:World}:∀ {c1 c2:List Value} {xs ys:List α},rowR M w c1 xs->rowR M w c2 ys->rowR M w (c1++c2) (xs++ys)
 | c1,c2,[],ys,h,k=>by rw[h];simpa using k
 | c1,c2,x::xs,ys,⟨c,r,h,h1,h2⟩,k=>⟨c,r++c2,by rw[h,aA],h1,qO h2 k⟩
theorem rowR_one{x:α}(h:Rep.rdc M w c x):rowR M w c [x]:=⟨c,[],by simp,h,Z⟩
theorem rowR_at{M:Nat->Prop}{w:World}:∀ {cells:List Value} {xs:List α} {i:Nat} {x:α},rowR M w cells xs->xs[i]?=some x->
  ∃ c,(∀ j u,c[j]?=some u->cells[i*Rep.size α+j]?=some u)/\Rep.rdc M w c x
 | cells,[],i,x,_,hi=>by simp at hi
 |cells,y::xs,0,x,⟨c,r,h,h1,h2⟩,hi=>by
  simp at hi;subst hi;exact⟨c,λ j u hj=>by rw[h,dF,aB,aK (ai.1 hj).1];exact hj,h1⟩
 |cells,y::xs,i+1,x,⟨c,r,h,h1,h2⟩,hi=>by
  obtain⟨c',hc,hr⟩:=rowR_at (i:=i) h2 (by simpa using hi);refine⟨c',λ j u hj=>?_,hr⟩;have hl:=Rep.len h1;rw[h,aH (by rw[hl,bS];omega),← hc j u hj,hl]
  congr 1
  rw[bS];omega
theorem Z4{M:Nat->Prop}{w w':World}(e:Same M noB w w'):∀ {cells:List Value} {xs:List α},rowR M w cells xs->rowR M w' cells xs
 | _,[],h=>h
 | _,_::_,⟨c,r,h,h1,h2⟩=>⟨c,r,h,Rep.stable h1 e,Z4 e h2⟩
theorem wE{M M':Nat->Prop}{w:World}(e:∀ k,k<w.heap.size->M' k->M k):∀ {cells:List Value} {xs:List α},rowR M w cells xs->rowR M' w cells xs
 | _,[],h=>h
 | _,_::_,⟨c,r,h,h1,h2⟩=>⟨c,r,h,Rep.weak h1 e,wE e h2⟩
theorem JF{M:Nat->Prop}{w:World}:∀ {cells:List Value} {xs:List α},rowR M w cells xs->∀ u∈cells,u.oneCell'=true
 | _,[],h=>by rw[h];simp
 |_,_::_,⟨c,r,h,h1,h2⟩=>λ u hu=>by
  rw[h] at hu;exact(bb.1 hu).elim (Rep.oneCell h1 u) (JF h2 u)
def CellsAt(w:World)(b o:Nat)(cells:List Value):Prop:=∀ j u,cells[j]?=some u->w.cell? ⟨b,o+j,none⟩=some u
theorem zc1{b o:Nat}(h:w.cell? ⟨b,o,none⟩=some u):b<w.heap.size:=by
 rcases aR b w.heap.size with hlt | hge
 ·exact hlt
 ·simp[World.cell?,cp hge] at h
theorem CellsAt.stable{own:Nat->Prop}{b o:Nat}{cells:List Value}(h:CellsAt w b o cells)(hb:¬ M b)(e:Same M own w w'):CellsAt w' b o cells:=λ j u hj=>by
 have:=h j u hj;rw[World.cell?_of_block (e b (zc1 this) (.inl hb))];exact this
instance:Rep (List α) where
 size:=1
 agg:=false
 rdc M w cs xs:=∃ A c,cs=[.slice A xs.length c]/\xs.length<=c/\c<=maxLen/\(xs=[]\/∃ b o cells,A=some ⟨b,o,none⟩/\¬ M b/\CellsAt w b o cells/\rowR M w cells xs)
 len:=λ⟨_,_,h,_⟩=>by rw[h];rfl
 one _:=rfl
 pos:=Nat.one_pos
 oneCell:=λ⟨_,_,h,_⟩ c hc=>by rw[h] at hc;simp at hc;subst hc;rfl
 stable:=λ⟨A,c,h,h1,h2,h3⟩ e=>⟨A,c,h,h1,h2,h3.imp _root_.id λ⟨b,o,cells,ha,hb,hc,hr⟩=>⟨b,o,cells,ha,hb,hc.stable hb e,Z4 e hr⟩⟩
 weak:=λ{M M' w cs xs} ⟨A,c,h,h1,h2,h3⟩ e=>⟨A,c,h,h1,h2,by
  rcases h3 with h3 | ⟨b,o,cells,ha,hb,hc,hr⟩
  ·exact .inl h3
  ·rcases cells with _ | ⟨u,cells⟩
   ·cases xs with
    | nil=>exact .inl Z
    |cons x xs=>have h4:=Je hr;have h5:=Rep.pos (α:=α);rw[bj,bS] at h4;simp at h4;omega
   ·exact .inr ⟨b,o,_,ha,λ hm=>hb (e b (zc1 (hc 0 u Z)) hm),hc,wE e hr⟩⟩
end
section
variable{α:Type}[Rep α]
def dptr(x:α):Dt where
 rd M w v:=∃ b o cs,v=.pointer (some ⟨b,o,none⟩)/\¬ M b/\CellsAt w b o cs/\Rep.rdc M w cs x
 own:=noB
 nb:=true
 nob _ _ h:=h
 stable:=λ⟨b,o,cs,hv,hb,hc,h⟩ e=>⟨b,o,cs,hv,hb,hc.stable hb e,Rep.stable h e⟩
 weak:=λ{M M' w v} ⟨b,o,cs,hv,hb,hc,h⟩ e=>⟨b,o,cs,hv,λ hm=>by
  have hl:=Rep.len h;have hp:=Rep.pos (α:=α);obtain⟨u,hu⟩:∃ u,cs[0]?=some u:=⟨_,aa (by omega)⟩;exact hb (e b (zc1 (hc 0 u hu)) hm),hc,Rep.weak h e⟩
theorem xG{b:Nat}(h:w.heap[b]?=some ob):b<w.heap.size:=by
 grind
def dbox(g:Option Nat)(o:Nat)(x:α):Dt where
 rd M w v:=∃ b,g=some b/\v=.pointer (some ⟨b,o,none⟩)/\∃ C e cs,w.heap[b]?=some (.cells C e (0,0))/\(∀ j u,cs[j]?=some u->C[o+j]?=some u)/\Rep.rdc M w cs x
 own:=oneB g
 nb:=false
 nob h:=by cases h
 stable:=λ⟨b,hg,hv,C,e,cs,hb,hc,h⟩ k=>⟨b,hg,hv,C,e,cs,(k b (xG hb) (.inr hg)).trans hb,hc,Rep.stable h k.mono⟩
 weak:=λ⟨b,hg,hv,C,e,cs,hb,hc,h⟩ k=>⟨b,hg,hv,C,e,cs,hb,hc,Rep.weak h k⟩
def draw(g:Option Nat)(n:Nat):Dt where
 rd _ w v:=∃ b,g=some b/\v=.pointer (some ⟨b,0,none⟩)/\∃ C e,w.heap[b]?=some (.cells C e (0,0))/\C.size=n
 own:=oneB g
 nb:=false
 nob h:=by cases h
 stable:=λ⟨b,hg,hv,C,e,hb,hc⟩ k=>⟨b,hg,hv,C,e,(k b (xG hb) (.inr hg)).trans hb,hc⟩
 weak:=λ h _=>h
def dtip(g:Option Nat)(e:TypeId)(xs:List α):Dt where
 rd M w v:=(∃ cells,w.ownsRow 0 e (Rep.size α) v xs.length cells/\rowR M w cells xs/\v.ownBlock=g)\/(g=none/\xs=[]/\∃ A,v=.slice A 0 0)
 own:=oneB g
 nb:=false
 nob h:=by cases h
 stable:=λ{M w w' v} h k=>h.imp (λ⟨cells,h,hr,hg⟩=>by
  refine⟨cells,⟨h.1,?_⟩,Z4 k.mono hr,hg⟩;rcases h.2 with h2 | ⟨b,cap,cur,hv,hb,hh,h3⟩
  ·exact .inl h2
  ·exact .inr ⟨b,cap,cur,hv,hb,(k b (xG hh) (.inr (show g=some b by rw[← hg,hv];rfl))).trans hh,h3⟩) id
 weak:=λ h k=>h.imp (λ⟨cells,h,hr,hg⟩=>⟨cells,h,wE k hr,hg⟩) id
end
def OpdR(M:Nat->Prop)(look:Nat->Option Dt)(opd:Operand)(x:Dt):Prop:=
 ∀ (w:World) (a:Act),(∀ s y,look s=some y->y.rd M w (Act.at a s))->x.rd M w (a.eval opd)
section
variable{look:Nat->Option Dt}
theorem zb{s:Nat}{x:Dt}(h:look s=some x):OpdR M look (.tmp s) x:=λ _ _ hl=>hl s x h
theorem yl{n:Int}:OpdR M look (.const (.int .i64 n)) (dt n):=λ _ _ _=>yx.2 Z
theorem opd_bool:OpdR M look (.const (.bool b)) (dt b):=λ _ _ _=>xE.2 Z
theorem QC{n:Nat}(h:n<256:=by decide):OpdR M look (.const (.int .u8 n)) (dt (UInt8.ofNat n)):=λ _ _ _=>dt_u8.2 (by simp[Act.eval,Nat.mod_eq_of_lt h])
theorem yS{l:List UInt8}(h:l.length<=1000:=by decide):OpdR M look (.const (.string ⟨⟨l⟩⟩)) (dt (⟨l⟩:Str)):=
 λ _ _ _=>xT.2 ⟨Z,aQ h (by decide)⟩
theorem wu{α:Type}[Rep α]:OpdR M look (.const (.slice none 0 0)) (dt ([]:List α)):=
 λ _ _ _=>⟨_,⟨none,0,Z,ak _,ao _,.inl Z⟩,Z⟩
end
section
variable{look:Nat->Option Dt}
theorem zC{x:Dt}(h:∀ (a:Act) (w:World),(∀ b,M b->b<w.heap.size)->(∀ s y,look s=some y->y.rd M w (Act.at a s))->∃ u,(execOp a.eval o).run P w=.ok (.value u) w/\x.rd M w u):OpRel P M look o x:=
 λ a w hm hl=>let⟨_,hr,hx⟩:=h a w hm hl;OpOut.of_value hr ⟨Ext0.refl w,hx⟩
theorem zD{x:Dt}(ho:o.op=.move opd)(h:OpdR M look opd x):OpRel P M look o x:=
 zC λ a w _ hl=>⟨a.eval opd,by unfold execOp;rw[ho];simp,h w a hl⟩
theorem xo{x:Dt}(ho:o.op=.assign opd)(h:OpdR M look opd x):OpRel P M look o x:=
 zC λ a w _ hl=>⟨a.eval opd,by unfold execOp;rw[ho];simp,h w a hl⟩
theorem xc{c:Operand}(ho:o.op=.pick c x (.const (.bool false)))(hc:OpdR M look c (dt b))(hx:OpdR M look x (Dt.grd (b == true) (dt b2))):OpRel P M look o (dt (b&&b2)):=
 zC λ a w _ hl=>⟨.bool _,by
  have h1:=xE.1 (hc w a hl);unfold execOp;rw[ho];cases b
  ·simp[h1,asBool];rfl
  ·have h2:=xE.1 ((hx w a hl).1 Z);simp[h1,asBool,h2],xE.2 Z⟩
theorem qm{c:Operand}(ho:o.op=.pick c (.const (.bool true)) x)(hc:OpdR M look c (dt b))(hx:OpdR M look x (Dt.grd (b == false) (dt b2))):OpRel P M look o (dt (b||b2)):=
 zC λ a w _ hl=>⟨.bool _,by
  have h1:=xE.1 (hc w a hl);unfold execOp;rw[ho];cases b
  ·have h2:=xE.1 ((hx w a hl).1 Z);simp[h1,asBool,h2]
  ·simp[h1,asBool];rfl,xE.2 Z⟩
theorem XR(ho:o.op=.unOp .not t x)(h:OpdR M look x (dt b)):OpRel P M look o (dt (!b)):=
 zC λ a w _ hl=>⟨.bool _,by
  have h1:=xE.1 (h w a hl);unfold execOp;rw[ho];simp[h1,Op.unary],xE.2 Z⟩
def cmpI:BinOp->Int->Int->Bool
 | .eql,x,y=>x == y
 | .neq,x,y=>x != y
 | .lss,x,y=>decide (x<y)
 | .leq,x,y=>decide (x<=y)
 | .gtr,x,y=>decide (x > y)
 | .geq,x,y=>decide (x>=y)
 | _,_,_=>false
theorem qC{n:Int}(ho:o.op=.binOp op t x y t')
  (hx:OpdR M look x (dt m)) (hy:OpdR M look y (dt n))(hop:op=.eql\/op=.neq\/op=.lss\/op=.leq\/op=.gtr\/op=.geq:=by decide):OpRel P M look o (dt (cmpI op m n)):=
 zC λ a w _ hl=>⟨.bool _,by
  have h1:=yx.1 (hx w a hl);have h2:=yx.1 (hy w a hl);unfold execOp;rw[ho];rcases hop with rfl | rfl | rfl | rfl | rfl | rfl <;> simp[h1,h2,eqGuard,binOp,Op.intCmp,cmpI],xE.2 Z⟩
def cmpB:BinOp->UInt8->UInt8->Bool
 | .eql,x,y=>x == y
 | .neq,x,y=>x != y
 | .lss,x,y=>decide (x<y)
 | .leq,x,y=>decide (x<=y)
 | .gtr,x,y=>decide (x > y)
 | .geq,x,y=>decide (x>=y)
 | _,_,_=>false
theorem zc2{x y:UInt8}:((x.toNat:Int)=(y.toNat:Int)) ↔ x=y:=⟨λ h=>UInt8.toNat_inj.1 (by omega),λ h=>by rw[h]⟩
theorem op_cmpB{m n:UInt8}(ho:o.op=.binOp op t x y t')
  (hx:OpdR M look x (dt m)) (hy:OpdR M look y (dt n))(hop:op=.eql\/op=.neq\/op=.lss\/op=.leq\/op=.gtr\/op=.geq:=by decide):OpRel P M look o (dt (cmpB op m n)):=
 zC λ a w _ hl=>⟨.bool _,by
  have h1:=dt_u8.1 (hx w a hl);have h2:=dt_u8.1 (hy w a hl);unfold execOp;rw[ho];rcases hop with rfl | rfl | rfl | rfl | rfl | rfl <;> simp[h1,h2,eqGuard,binOp,Op.intCmp,cmpB,UInt8.lt_iff_toNat_lt,UInt8.le_iff_toNat_le]
  ·rw[bO];simp[zc2]
  ·rw[bO];simp[zc2],xE.2 Z⟩
theorem YD{m n:Str}(ho:o.op=.binOp .eql t x y t')(hx:OpdR M look x (dt m))(hy:OpdR M look y (dt n)):OpRel P M look o (dt (decide (m=n))):=
 zC λ a w _ hl=>⟨.bool _,by
  have h1:=(xT.1 (hx w a hl)).1;have h2:=(xT.1 (hy w a hl)).1;unfold execOp;rw[ho];simp[h1,h2,eqGuard,binOp,Op.stringOp,strv];rw[bO];simp[Str.ext_iff'],xE.2 Z⟩
theorem zd1{m n:Str}(ho:o.op=.binOp .neq t x y t')(hx:OpdR M look x (dt m))(hy:OpdR M look y (dt n)):OpRel P M look o (dt (decide (m≠n))):=
 zC λ a w _ hl=>⟨.bool _,by
  have h1:=(xT.1 (hx w a hl)).1;have h2:=(xT.1 (hy w a hl)).1;unfold execOp;rw[ho];simp[h1,h2,eqGuard,binOp,Op.stringOp,strv];rw[bO];simp[Str.ext_iff'],xE.2 Z⟩
end
def aggD:TypeDesc->Bool
 | .struct _ | .array _ _=>true
 | _=>false
def tyB(P:Program)(t:TypeId)(agg:Bool)(size:Nat):Bool:=
 match P.underlying t,P.info? t with
 | some d,some i=>i.size == size&&aggD d == agg
 | _,_=>false
def fldB(P:Program)(t:TypeId)(f off:Nat):Bool:=
 match P.underlying t with
 |some (.struct fs)=>match fs[f]? with
  | some fl=>fl.offset == off&&(match P.info? fl.type with | some i=>i.size != 0 | none=>false)
  | none=>false
 | _=>false
def sliB(P:Program)(t e:TypeId)(size:Nat):Bool:=
 match P.underlying t,P.info? e with
 | some (.slice e'),some i=>e' == e&&i.size == size
 | _,_=>false
def slB(P:Program)(t:TypeId)(size:Nat):Bool:=
 match P.underlying t with
 | some (.slice e)=>match P.info? e with | some i=>i.size == size | none=>false
 | _=>false
def isSl(P:Program)(t:TypeId):Bool:=match P.underlying t with | some (.slice _)=>true | _=>false
def QZ(P:Program)(t:TypeId):Bool:=match P.underlying t with | some .string=>true | _=>false
theorem tyB_spec{size:Nat}(h:tyB P t agg size=true):
  (∀ w,(isAgg t).run P w=.ok agg w)/\(∀ w,(sizeOf t).run P w=.ok size w)/\∃ d i,P.underlying t=some d/\P.info? t=some i/\i.size=size/\aggD d=agg:=by
 unfold tyB at h;split at h
 ·rename_i d i hd hi;simp at h;refine⟨λ w=>?_,λ w=>?_,d,i,hd,hi,h.1,h.2⟩
  ·unfold isAgg;rw[an,aw hd];rw[← h.2];cases d <;> simp[aggD]
  ·simp[sizeOf,typeInfo,hi,h.1]
 ·cases h
theorem fldB_spec{f:Nat}(h:fldB P t f off=true):
  ∃ fs fl i,P.underlying t=some (.struct fs)/\fs[f]?=some fl/\fl.offset=off/\P.info? fl.type=some i/\i.size≠0:=by
 unfold fldB at h;grind
theorem Zy{size:Nat}(h:sliB P t e size=true):∃ i,P.underlying t=some (.slice e)/\P.info? e=some i/\i.size=size:=by
 unfold sliB at h;grind
theorem jJ{size:Nat}(h:slB P t size=true):∃ e,sliB P t e size=true:=by
 unfold slB at h;split at h
 ·rename_i e he;refine⟨e,?_⟩;unfold sliB;rw[he];cases hi:P.info? e with
  | none=>rw[hi] at h;cases h
  | some i=>rw[hi] at h;simpa using h
 ·cases h
theorem zd2(h:isSl P t=true):∃ e,P.underlying t=some (.slice e):=by
 unfold isSl at h;grind
theorem WE(h:QZ P t=true):P.underlying t=some .string:=by
 unfold QZ at h;grind
theorem zb0{a:Addr}(h:w.cell? a=some v):(load a).run P w=.ok v w:=by
 simp_all
theorem zb1{P:Program}{w:World}{b o:Nat}:∀ {cs:List Value} {i:Nat} {acc:Array Value},(∀ j u,cs[j]?=some u->w.cell? ⟨b,o+(i+j),none⟩=some u)->
  (loadCellsFrom ⟨b,o,none⟩ i cs.length acc).run P w=.ok (acc++cs.toArray) w
 | [],i,acc,_=>by simp[loadCellsFrom]
 |c::cs,i,acc,h=>by
  have h0:w.cell? ((⟨b,o,none⟩:Addr).add i)=some c:=by
   have:=h 0 c Z;unfold Addr.add;split
   ·rename_i h0;subst h0;simpa using this
   ·simpa using this
  simp only[bj,loadCellsFrom,an,zb0 h0,ah];rw[zb1 (cs:=cs) (i:=i+1) λ j u hj=>by
   have:=h (j+1) u (by simpa using hj);rw[show i+1+j=i+(j+1) by omega];exact this]
  simp
theorem yH{b o:Nat}{cs:List Value}{size:Nat}(ht:tyB P t agg size=true)(hl:cs.length=size)(h1:agg=false->size=1)
  (h:∀ j u,cs[j]?=some u->w.cell? ⟨b,o+j,none⟩=some u):(loadVar t ⟨b,o,none⟩).run P w=.ok (mkv agg cs) w:=by
 obtain⟨ha,hs,_⟩:=tyB_spec ht;unfold loadVar;cases agg with
 |true=>simp[ha,hs,loadCells];rw[← hl,zb1 (by simpa using h)];simp[mkv]
 |false=>
  have hl1:=hl.trans (h1 Z)
  match cs,hl1 with
  |[c],_=>simp[ha];simpa[mkv] using zb0 (h 0 c Z)
section
variable{look:Nat->Option Dt}{α β:Type}[Rep α][Rep β]
theorem zH{x:α}(ho:o.op=.load t p)(hp:OpdR M look p (dptr x))(ht:tyB P t (Rep.agg α) (Rep.size α)=true:=by kernel_rfl):OpRel P M look o (dt x):=
 zC λ a w _ hl=>by
  obtain⟨b,off,cs,hv,_,hc,hr⟩:=hp w a hl;refine⟨mkv _ cs,?_,cs,hr,Z⟩;unfold execOp;rw[ho];simp[Instr.loadAt,Instr.sureAddr,hv,yH ht (Rep.len hr) Rep.one hc]
theorem y8{x:α}(ho:o.op=.load t p)(hp:OpdR M look p (dbox g off x))(ht:tyB P t (Rep.agg α) (Rep.size α)=true:=by kernel_rfl):OpRel P M look o (dt x):=
 zC λ a w _ hl=>by
  obtain⟨b,_,hv,C,e,cs,hb,hc,hr⟩:=hp w a hl;refine⟨mkv _ cs,?_,cs,hr,Z⟩;unfold execOp;rw[ho];have hc':∀ j u,cs[j]?=some u->w.cell? ⟨b,off+j,none⟩=some u:=λ j u hj=>by simp[World.cell?,hb,hc j u hj]
  simp[Instr.loadAt,Instr.sureAddr,hv,yH ht (Rep.len hr) Rep.one hc']
theorem Jf{f b o:Nat}(h:fldB P t f off=true):(Instr.fieldAt t (.pointer (some ⟨b,o,none⟩)) f).run P w=.ok (.pointer (some ⟨b,o+off,none⟩)) w:=by
 obtain⟨fs,fl,i,h1,h2,h3,h4,h5⟩:=fldB_spec h;have h6:(sizeOf fl.type).run P w=.ok i.size w:=by simp[sizeOf,typeInfo,h4]
 have h7:(⟨b,o,none⟩:Addr).add fl.offset=⟨b,o+off,none⟩:=by
  unfold Addr.add;rw[h3];split
  ·rename_i h0;subst h0;simp
  ·rfl
 unfold Instr.fieldAt;simp[aw h1,h2,Instr.sureAddr,fieldPlace,h6,h5,h7]
theorem zI{f:Nat}{x:α}{get:α->β}(fl:Fld get off)(ho:o.op=.fieldAddr t p f)(hp:OpdR M look p (dptr x))(ht:fldB P t f off=true:=by kernel_rfl):OpRel P M look o (dptr (get x)):=
 zC λ a w _ hl=>by
  obtain⟨b,off',cs,hv,hb,hc,hr⟩:=hp w a hl;obtain⟨c,hcc,hr'⟩:=fl.sub hr;refine⟨_,?_,b,off'+off,c,Z,hb,λ j u hj=>by rw[bA];exact hc _ u (hcc j u hj),hr'⟩;unfold execOp;rw[ho];simp[hv,Jf ht]
theorem jQ{f ob:Nat}{x:α}{get:α->β}(fl:Fld get off)(ho:o.op=.fieldAddr t p f)(hp:OpdR M look p (dbox g ob x))(ht:fldB P t f off=true:=by kernel_rfl):OpRel P M look o (dbox g (ob+off) (get x)):=
 zC λ a w _ hl=>by
  obtain⟨b,hg,hv,C,e,cs,hb,hc,hr⟩:=hp w a hl;obtain⟨c,hcc,hr'⟩:=fl.sub hr;refine⟨_,?_,b,hg,Z,C,e,c,hb,λ j u hj=>by rw[bA];exact hc _ u (hcc j u hj),hr'⟩;unfold execOp;rw[ho];simp[hv,Jf ht]
theorem op_index{i:Operand}{xs:List α}{x:α}(ho:o.op=.indexAddr t s i)(ht':slB P t (Rep.size α)=true)(hs:OpdR M look s (dt xs))(hi:OpdR M look i (dt (k:Int)))
  (hx:xs[k]?=some x):OpRel P M look o (dptr x):=
 zC λ a w _ hl=>by
  obtain⟨e,ht⟩:=jJ ht';obtain⟨cs,⟨A,c,hcs,h1,h2,h3⟩,hv⟩:=hs w a hl;have hiv:=yx.1 (hi w a hl);have hk:=(ai.1 hx).1;rcases h3 with h3 | ⟨b,off,cells,hA,hb,hc,hr⟩
  ·rw[h3] at hk;simp at hk
  ·obtain⟨ti,ht1,ht2,ht3⟩:=Zy ht;obtain⟨c',hcc,hr'⟩:=rowR_at hr hx;refine⟨.pointer _,?_,b,off+k*Rep.size α,c',Z,hb,λ j u hj=>by rw[bA];exact hc _ u (hcc j u hj),hr'⟩;have hadd:(⟨b,off,none⟩:Addr).add (k*Rep.size α)=⟨b,off+k*Rep.size α,none⟩:=by
    unfold Addr.add;split
    ·rename_i h0;rw[h0];simp
    ·rfl
   unfold execOp;rw[ho];subst hcs hA;simp[mkv,Rep.agg] at hv;simp[hv,hiv,Instr.indexAt,asIntOf,aw ht1,sizeOf,typeInfo,ht2,ht3,hk,hadd]
theorem wF{i:Operand}{xs:List α}{x:α}(ho:o.op=.indexAddr t s i)(hs:OpdR M look s (dt xs))(hi:OpdR M look i (dt m))
  (hm:m=(k:Int)) (hx:xs[k]?=some x)(ht':slB P t (Rep.size α)=true:=by kernel_rfl):OpRel P M look o (dptr x):=by subst hm;exact op_index ho ht' hs hi hx
theorem op_lenL{xs:List α}(ho:o.op=.call { callee:=.builtin .len,args:=#[s],argTypes:=#[t] })(ht:isSl P t=true)(hs:OpdR M look s (dt xs)):
  OpRel P M look o (dt (xs.length:Int)):=
 zC λ a w _ hl=>by
  obtain⟨cs,⟨A,c,hcs,_⟩,hv⟩:=hs w a hl;obtain⟨e,ht1⟩:=zd2 ht;subst hcs;simp[mkv,Rep.agg] at hv;refine⟨.int .i64 xs.length,?_,yx.2 Z⟩;unfold execOp;rw[ho];simp[resolve,invoke,builtin,Builtin.len_,hv,aw ht1,goInt]
theorem zbI{x:Str}(ho:o.op=.call { callee:=.builtin .len,args:=#[s],argTypes:=#[t] })(hs:OpdR M look s (dt x))(ht:QZ P t=true:=by kernel_rfl):
  OpRel P M look o (dt (x.l.length:Int)):=
 zC λ a w _ hl=>by
  have hv:=(xT.1 (hs w a hl)).1;refine⟨.int .i64 _,?_,yx.2 Z⟩;unfold execOp;rw[ho];simp[resolve,invoke,builtin,Builtin.len_,hv,strv,aw (WE ht),goInt];rfl
end
section
variable{look:Nat->Option Dt}
def arI:BinOp->Int->Int->Int
 | .add,x,y=>x+y
 | .sub,x,y=>x - y
 | .mul,x,y=>x*y
 | _,_,_=>0
theorem wrap_in(n:Int)(h:-9223372036854775808<=n/\n<=9223372036854775807):IntKind.i64.wrap n=n:=IntWalk.i64_in n h
theorem Zf{n:Int}(ho:o.op=.binOp op t x y t')(hx:OpdR M look x (dt m))(hy:OpdR M look y (dt n))
  (hr:-9223372036854775808<=arI op m n/\arI op m n<=9223372036854775807)(hop:op=.add\/op=.sub\/op=.mul:=by decide):OpRel P M look o (dt (arI op m n)):=
 zC λ a w _ hl=>⟨.int .i64 _,by
  have h1:=yx.1 (hx w a hl);have h2:=yx.1 (hy w a hl);have hw:=wrap_in _ hr;unfold execOp;rw[ho];rcases hop with rfl | rfl | rfl <;> (simp[arI] at hw ⊢;simp[h1,h2,eqGuard,binOp,Op.intArith,hw]),yx.2 Z⟩
theorem zcA{m n:Str}(ho:o.op=.binOp .add t x y t')(hx:OpdR M look x (dt m))(hy:OpdR M look y (dt n))(hr:m.l.length+n.l.length<=maxLen):
  OpRel P M look o (dt (⟨m.l++n.l⟩:Str)):=
 zC λ a w _ hl=>⟨strv ⟨m.l++n.l⟩,by
  have h1:=(xT.1 (hx w a hl)).1;have h2:=(xT.1 (hy w a hl)).1;have e1:(ByteArray.mk ⟨m.l⟩).size=m.l.length:=rfl;have e2:(ByteArray.mk ⟨n.l⟩).size=n.l.length:=rfl;have hr':¬ (9223372036854775807:Int)<((m.l.length:Nat):Int)+((n.l.length:Nat):Int):=by unfold maxLen at hr;omega
  have e3:(ByteArray.mk ⟨m.l⟩++ByteArray.mk ⟨n.l⟩)=ByteArray.mk ⟨m.l++n.l⟩:=by
   apply ByteArray.ext;rw[ByteArray.data_append];exact List.append_toArray ..
  unfold execOp;rw[ho];simp[h1,h2,eqGuard,binOp,Op.stringOp,strv,e1,e2,IntKind.max,IntKind.bits,IntKind.signed,hr',e3],xT.2 ⟨Z,by
   show(m.l++n.l).length<=maxLen;have:(m.l++n.l).length=m.l.length+n.l.length:=ap ..;omega⟩⟩
theorem op_byte{i:Operand}{x:Str}{b:UInt8}(ho:o.op=.index t s i)(hs:OpdR M look s (dt x))(hi:OpdR M look i (dt (k:Int)))(hx:x.l[k]?=some b)(ht:QZ P t=true:=by kernel_rfl):
  OpRel P M look o (dt b):=
 zC λ a w _ hl=>⟨.int .u8 b.toNat,by
  have h1:=(xT.1 (hs w a hl)).1;have h2:=yx.1 (hi w a hl);have e1:(ByteArray.mk ⟨x.l⟩)[k]?=some b:=by
   have hk:=(ai.1 hx).1;have hk':k<(ByteArray.mk ⟨x.l⟩).size:=hk;rw[getElem?_pos _ k hk']
   congr 1
   have:=(ai.1 hx).2;rw[← this];rfl
  unfold execOp;rw[ho];simp[h1,h2,Instr.index,asIntOf,aw (WE ht),strv,e1],dt_u8.2 Z⟩
theorem run_cut(ht:QZ P t=true)(x:Str)(lo hi:Option Int)(h1:0<=lo.getD 0)(h2:lo.getD 0<=hi.getD x.l.length)(h3:hi.getD x.l.length<=x.l.length)(w:World):
  (Instr.sliceAt t (strv x) (lo.map (.int .i64)) (hi.map (.int .i64)) none).run P w=.ok (strv ⟨(x.l.take (hi.getD x.l.length).toNat).drop (lo.getD 0).toNat⟩) w:=by
 have e0:(ByteArray.mk ⟨x.l⟩).size=x.l.length:=rfl;have e1:∀ a b:Nat,(ByteArray.mk ⟨x.l⟩).extract a b=ByteArray.mk ⟨(x.l.take b).drop a⟩:=by
  intro a b;rw[ByteArray.extract_mk]
  congr 1
  apply Array.ext';simp[cS]
 cases lo with
 |none=>
  cases hi with
  |none=>
   simp[Instr.sliceAt,Instr.slice,aw (WE ht),strv,Instr.sliceBounds]
   try rfl
  |some j=>
   simp only[dZ,dB] at h1 h2 h3;obtain⟨j,rfl⟩:=ay (cr h1 h2);have e2:=e1 0 j;have h4:j<=x.l.length:=by omega
   simp[Instr.sliceAt,Instr.slice,aw (WE ht),strv,Instr.sliceBounds,Instr.sliceBound,asIntOf,e0,e2,h4]
   try rfl
 |some i=>
  obtain⟨i,rfl⟩:=ay h1;cases hi with
  |none=>
   simp at h2 h3;have e2:=e1 i x.l.length;have h4:i<=x.l.length:=by omega
   simp[Instr.sliceAt,Instr.slice,aw (WE ht),strv,Instr.sliceBounds,Instr.sliceBound,asIntOf,e0,e2,h4]
   try rfl
  |some j=>
   simp at h2 h3;obtain⟨j,rfl⟩:=ay (cr h1 h2);have e2:=e1 i j;have h4:i<=j:=by omega
   have h5:j<=x.l.length:=by omega
   simp[Instr.sliceAt,Instr.slice,aw (WE ht),strv,Instr.sliceBounds,Instr.sliceBound,asIntOf,e0,e2,h4,h5]
   try rfl
theorem zcB{x:Str}{n m:Nat}(h:x.l.length<=maxLen):List.length ((x.l.take n).drop m)<=maxLen:=by
 grind
theorem op_cutLH{l:Operand}{x:Str}{i j:Int}(ho:o.op=.slice t s (some l) (some h) none)(hs:OpdR M look s (dt x))(hl:OpdR M look l (dt i))(hh:OpdR M look h (dt j))
  (h1:0<=i) (h2:i<=j) (h3:j<=x.l.length)(ht:QZ P t=true:=by kernel_rfl):OpRel P M look o (dt (⟨(x.l.take j.toNat).drop i.toNat⟩:Str)):=
 zC λ a w _ hk=>⟨strv ⟨(x.l.take j.toNat).drop i.toNat⟩,by
  have:=run_cut ht x (some i) (some j) h1 h2 h3 w;unfold execOp;rw[ho];simp at this;simp[(xT.1 (hs w a hk)).1,yx.1 (hl w a hk),yx.1 (hh w a hk),this],xT.2 ⟨Z,zcB (xT.1 (hs w a hk)).2⟩⟩
theorem op_cutL{l:Operand}{x:Str}{i:Int}(ho:o.op=.slice t s (some l) none none)(ht:QZ P t=true)(hs:OpdR M look s (dt x))(hl:OpdR M look l (dt i))
  (h1:0<=i) (h2:i<=x.l.length):OpRel P M look o (dt (⟨x.l.drop i.toNat⟩:Str)):=
 zC λ a w _ hk=>⟨strv ⟨x.l.drop i.toNat⟩,by
  have:=run_cut ht x (some i) none h1 h2 (cz _) w;unfold execOp;rw[ho];simp at this;simp[(xT.1 (hs w a hk)).1,yx.1 (hl w a hk),this],xT.2 ⟨Z,by
   have:=zcB (n:=x.l.length) (m:=i.toNat) (xT.1 (hs w a hk)).2;rwa[aL] at this⟩⟩
theorem op_cutH{x:Str}{j:Int}(ho:o.op=.slice t s none (some h) none)(ht:QZ P t=true)(hs:OpdR M look s (dt x))(hh:OpdR M look h (dt j))
  (h2:0<=j) (h3:j<=x.l.length):OpRel P M look o (dt (⟨x.l.take j.toNat⟩:Str)):=
 zC λ a w _ hk=>⟨strv ⟨x.l.take j.toNat⟩,by
  have:=run_cut ht x none (some j) (cz _) h2 h3 w;unfold execOp;rw[ho];simp at this;simp[(xT.1 (hs w a hk)).1,yx.1 (hh w a hk),this],xT.2 ⟨Z,by
   have:=zcB (n:=j.toNat) (m:=0) (xT.1 (hs w a hk)).2;simpa using this⟩⟩
theorem WF{α:Type}[Rep α]{M:Nat->Prop}{w:World}:∀ {cells:List Value} {xs:List α} (n:Nat),n<=xs.length->rowR M w cells xs->rowR M w (cells.drop (n*Rep.size α)) (xs.drop n)
 | cells,xs,0,_,h=>by simpa using h
 | cells,[],n+1,hn,_=>by simp at hn
 |cells,x::xs,n+1,hn,⟨c,r,h,h1,h2⟩=>by
  have:=WF n (by simpa using hn) h2;rw[h,bS,cF,dy,Rep.len h1,cb (by rw[Rep.len h1];omega)];simpa[dm] using this
theorem WG{α:Type}[Rep α]{M:Nat->Prop}{w:World}:∀ {cells:List Value} {xs:List α} (n:Nat),n<=xs.length->rowR M w cells xs->rowR M w (cells.take (n*Rep.size α)) (xs.take n)
 | cells,xs,0,_,h=>by simp[rowR]
 | cells,[],n+1,hn,_=>by simp at hn
 |cells,x::xs,n+1,hn,⟨c,r,h,h1,h2⟩=>by
  have:=WG n (by simpa using hn) h2;refine⟨c,r.take (n*Rep.size α),?_,h1,this⟩;rw[h,bS,cF,cg,Rep.len h1,aJ (by rw[Rep.len h1];omega)];simp
theorem WH(ht:sliB P t e sz=true)(A:Option Addr)(n c:Nat)(lo hi:Option Int)(h2:lo.getD 0<=hi.getD n)(h3:hi.getD n<=c)(w:World)(h1:0<=lo.getD 0:=by simp):
  (Instr.sliceAt t (.slice A n c) (lo.map (.int .i64)) (hi.map (.int .i64)) none).run P w=
   .ok (.slice (if c=(lo.getD 0).toNat then A else A.map (·.add ((lo.getD 0).toNat*sz))) ((hi.getD n).toNat - (lo.getD 0).toNat) (c - (lo.getD 0).toNat)) w:=by
 obtain⟨ti,ht1,ht2,ht3⟩:=Zy ht;cases lo with
 |none=>
  cases hi with
  |none=>simp[Instr.sliceAt,Instr.slice,aw ht1,Instr.sliceBounds,sizeOf,typeInfo,ht2]
  |some j=>
   simp only[dZ,dB] at h1 h2 h3;obtain⟨j,rfl⟩:=ay (cr h1 h2);have h4:j<=c:=by omega
   simp[Instr.sliceAt,Instr.slice,aw ht1,Instr.sliceBounds,Instr.sliceBound,asIntOf,sizeOf,typeInfo,ht2,h4]
 |some i=>
  obtain⟨i,rfl⟩:=ay h1;cases hi with
  |none=>
   simp at h2 h3;have h4:i<=n:=by omega
   simp[Instr.sliceAt,Instr.slice,aw ht1,Instr.sliceBounds,Instr.sliceBound,asIntOf,sizeOf,typeInfo,ht2,ht3,h4]
  |some j=>
   simp at h2 h3;obtain⟨j,rfl⟩:=ay (cr h1 h2);have h4:i<=j:=by omega
   have h5:j<=c:=by omega
   simp[Instr.sliceAt,Instr.slice,aw ht1,Instr.sliceBounds,Instr.sliceBound,asIntOf,sizeOf,typeInfo,ht2,ht3,h4,h5]
theorem jq(b o n:Nat):(⟨b,o,none⟩:Addr).add n=⟨b,o+n,none⟩:=by
 unfold Addr.add;grind
section
variable{α:Type}[Rep α]
theorem rd_slice{n c:Nat}{xs:List α}(h:Rep.rdc M w [.slice A n c] xs)(h1:i<=j)(h2:j<=xs.length):
  Rep.rdc M w [.slice (if c=i then A else A.map (·.add (i*Rep.size α))) (j - i) (c - i)] ((xs.take j).drop i):=by
 obtain⟨A',c',hv,h3,h4,h5⟩:=h;simp at hv;obtain⟨rfl,rfl,rfl⟩:=hv;have hlen:((xs.take j).drop i).length=j - i:=by simp;omega
 refine⟨_,c - i,by rw[hlen],by omega,by omega,?_⟩;rcases h5 with rfl | ⟨b,o,cells,rfl,hb,hc,hr⟩
 ·left;simp
 ·by_cases hij:i=j
  ·left;subst hij;apply ar;rw[hlen];omega
  ·right
   rw[Kd (by omega)];refine⟨b,o+i*Rep.size α,(cells.take (j*Rep.size α)).drop (i*Rep.size α),by simp[jq],hb,λ q u hq=>?_,?_⟩
   ·rw[bA];apply hc;rw[bJ,aE] at hq;split at hq
    ·exact hq
    ·cases hq
   ·have:=WF i (by simp;omega) (WG j h2 hr);exact this
theorem op_sliceH{xs:List α}(ho:o.op=.slice t s none (some h) none)(ht':slB P t (Rep.size α)=true)(hs:OpdR M look s (dt xs))(hh:OpdR M look h (dt (j:Int)))
  (h2:j<=xs.length):OpRel P M look o (dt (xs.take j)):=
 zC λ a w _ hk=>by
  obtain⟨e,ht⟩:=jJ ht';obtain⟨cs,hcs,hv⟩:=hs w a hk;have hcs':=hcs;obtain⟨A,c,rfl,h3,h4,_⟩:=hcs';simp[mkv,Rep.agg] at hv;have hrun:=WH ht A xs.length c none (some (j:Int)) (by simp) (by simp;omega) w;simp only[dG,Option.map_none,dB,dZ,aj,Int.toNat_zero] at hrun;have hr:=rd_slice hcs (ao j) h2;rw[bN] at hr;refine⟨_,?_,_,hr,Z⟩;unfold execOp;rw[ho];simp[hv,yx.1 (hh w a hk),hrun];rfl
theorem zan{xs:List α}{n:Int}(ho:o.op=.slice t s none (some h) none)(hs:OpdR M look s (dt xs))(hh:OpdR M look h (dt n))
  (hn:n=(j:Int)) (h2:j<=xs.length)(ht':slB P t (Rep.size α)=true:=by kernel_rfl):OpRel P M look o (dt (xs.take j)):=by subst hn;exact op_sliceH ho ht' hs hh h2
theorem JY{β:Type}(ob:Obj)(k:Nat->Sem β)(w:World):(Sem.new ob k).run P w=(k w.heap.size).run P (w.alloc ob):=rfl
theorem JZ{v:Operand}{x:α}(ho:o.op=.box t v)(hx:OpdR M look v (dt x)):OpRel P M look o (dptr x):=
 λ a w hm hl=>by
  obtain⟨cs,hr,hv⟩:=hx w a hl;have hcells:(a.eval v).cells=cs.toArray:=by
   rw[hv];unfold mkv;cases h:Rep.agg α with
   | true=>rfl
   |false=>
    have h1:=(Rep.len hr).trans (Rep.one h)
    match cs,h1 with
    |[c],_=>have:=Rep.oneCell hr c (by simp);cases c <;> first | rfl | (simp[Value.oneCell'] at this)
  refine OpOut.of_value (w':=w.alloc (.cells cs.toArray t)) ?_ ⟨Ext0.alloc _ _,w.heap.size,0,cs,Z,λ h=>absurd (hm _ h) (cJ _),λ j u hj=>?_,Rep.stable hr (Same.of_ext (Ext0.alloc _ _))⟩
  ·unfold execOp;rw[ho];simp[Instr.box,newVar,newRow,newObj,hcells,JY]
  ·rw[aB,dC];simpa using hj
end
section
variable{α β:Type}[Rep α][Rep β]
end
end
theorem zipIdx_set:∀ {k:Nat} {cells:Array Value},off+k+c.length<=cells.size->
  ((c.zipIdx k).foldl (λ cs (p:Value×Nat)=>cs.setIfInBounds (off+p.2) p.1) cells).toList=cells.toList.take (off+k)++c++cells.toList.drop (off+k+c.length):=by
 induction c with
 | nil=>intro k cells _;simp
 |cons x c ih=>
  intro k cells h;simp at h;simp;rw[ih (by simp;omega)];simp;have hlt:off+k<cells.toList.length:=by simp;omega
  rw[List.take_set,List.drop_set_of_lt (by omega)];rw[show off+_=off+k+1 by omega,dz hlt];have h2:(List.take (off+k) cells.toList).length=off+k:=by simp;omega
  rw[cW _ _ (by omega),h2];simp[bA,cF,Nat.add_left_comm]
theorem foldl_zipIdx{v:Array Value}{cells:Array Value}(h:off+v.size<=cells.size):
  (v.zipIdx.foldl (λ cs (p:Value×Nat)=>cs.setIfInBounds (off+p.2) p.1) cells).toList=cells.toList.take off++v.toList++cells.toList.drop (off+v.size):=by
 rw[← Array.foldl_toList,Array.toList_zipIdx];have:=zipIdx_set (c:=v.toList) (k:=0) (by simpa using h);grind
def WA(l:List (List Value))(i:Nat):Nat:=((l.take i).map List.length).sum
theorem flatten_set{l:List (List Value)}:∀ {i:Nat} {c:List Value},(h:i<l.length)->c.length=(l[i]).length->l.flatten.take (WA l i)++c++l.flatten.drop (WA l i+c.length)=(l.set i c).flatten:=by
 induction l with
 | nil=>intro i c h;simp at h
 |cons x l ih=>
  intro i c h hc;cases i with
  | zero=>simp at hc;simp[WA,hc]
  |succ i=>
   have hi:i<l.length:=by simpa using h
   have:=ih hi (by simpa using hc);simp;rw[← this];have e:WA (x::l) (i+1)=x.length+WA l i:=by simp[WA]
   rw[e];simp[cg,dy,bA];rw[aJ (by omega),cb (by omega)];simp
theorem offOf_set{l:List (List Value)}(h:i<l.length)(hc:c.length=(l[i]).length):WA (l.set i c) j=WA l j:=by
 unfold WA
 congr 1
 rw[List.take_set,dX,hc];apply aX;grind
theorem fill_spec:∀ {parts:List (Nat×Value)} {cells:Array Value} {l:List (List Value)},cells.toList=l.flatten->
  (∀ i v,(i,v)∈parts->∃ h:i<l.length,place i=some (WA l i,v.cells.size)/\v.cells.size=(l[i]).length)->
  ∃ cells',Instr.fill place cells parts=some cells'/\cells'.toList=(parts.foldl (λ l p=>l.set p.1 p.2.cells.toList) l).flatten:=by
 intro parts
 induction parts with
 | nil=>intro cells l h _;exact⟨cells,Z,h⟩
 |cons p parts ih=>
  obtain⟨i,v⟩:=p;intro cells l h hp;obtain⟨hi,hpl,hsz⟩:=hp i v (by simp);have hlen:WA l i+v.cells.size<=cells.size:=by
   rw[← aP (xs:=cells),h,hsz]
   clear hp ih
   unfold WA;have h1:l.flatten=(l.take i).flatten++(l[i]++(l.drop (i+1)).flatten):=by
    rw[← dp,← bh hi,← List.flatten_append,bH]
   rw[h1,ap,ap,List.length_flatten];omega
  have hcell:(v.cells.zipIdx.foldl (λ cs (p:Value×Nat)=>cs.setIfInBounds (WA l i+p.2) p.1) cells).toList=(l.set i v.cells.toList).flatten:=by
   rw[foldl_zipIdx hlen,h];have:=flatten_set (c:=v.cells.toList) hi (by simpa using hsz);simpa using this
  have hnext:=ih hcell (λ j u hj=>by
   obtain⟨hj',h1,h2⟩:=hp j u (by simp[hj]);have hc:v.cells.toList.length=(l[i]).length:=by simpa using hsz
   refine⟨by simpa using hj',by rw[offOf_set hi hc];exact h1,?_⟩;by_cases hij:i=j
   ·subst hij;simp[h2,hc]
   ·rw[List.getElem_set_ne hij];exact h2)
  obtain⟨cells',h1,h2⟩:=hnext;refine⟨cells',?_,by simpa using h2⟩;unfold Instr.fill;simp only[hpl];rw[Kd (by simp;omega)];exact h1
def XS:List Nat->List Value->List (List Value)
 | [],_=>[]
 | n::ns,l=>l.take n::XS ns (l.drop n)
theorem J0:∀ {ns:List Nat} {l:List Value},ns.sum=l.length->(XS ns l).flatten=l
 | [],l,h=>(ar (by simpa using h.symm)).symm
 |n::ns,l,h=>by
  have h':ns.sum=(l.drop n).length:=by simp at h ⊢;omega
  simp[XS,J0 h']
theorem Xq:∀ {ns:List Nat} {l:List Value},(XS ns l).length=ns.length
 | [],_=>rfl
 | _::ns,l=>by simp[XS,Xq (ns:=ns)]
theorem zd3:∀ {ns:List Nat} {l:List Value} {i:Nat},ns.sum=l.length->(h:i<ns.length)->((XS ns l)[i]'(by rw[Xq];exact h)).length=ns[i]
 | n::ns,l,0,hs,_=>by simp[XS] at hs ⊢;omega
 |n::ns,l,i+1,hs,h=>by
  have h':ns.sum=(l.drop n).length:=by simp at hs ⊢;omega
  have:=zd3 (ns:=ns) (l:=l.drop n) (i:=i) h' (by simpa using h);simpa[XS] using this
theorem zcC:∀ {ns:List Nat} {l:List Value} {i:Nat},ns.sum=l.length->i<=ns.length->WA (XS ns l) i=(ns.take i).sum
 | ns,l,0,_,_=>by simp[WA]
 | [],l,i+1,_,h=>by simp at h
 |n::ns,l,i+1,hs,h=>by
  have h':ns.sum=(l.drop n).length:=by simp at hs ⊢;omega
  have:=zcC (ns:=ns) (l:=l.drop n) (i:=i) h' (by simpa using h);have e:WA (XS (n::ns) l) (i+1)=min n l.length+WA (XS ns (l.drop n)) i:=by simp[WA,XS]
  rw[e,this];simp at hs ⊢;omega
def bldB(P:Program)(t:TypeId)(ns:List Nat):Bool:=
 match P.underlying t with
 |some (.struct fs)=>fs.size == ns.length&&(List.range ns.length).all λ i=>match fs[i]? with
  | some f=>f.offset == (ns.take i).sum&&(match P.info? f.type with | some ti=>ti.size == ns.getD i 0 | none=>false)
  | none=>false
 | _=>false
def Zg(P:Program)(t:TypeId)(ns:List Nat):Option (List (List Value)):=
 match P.info? t with
 |some i=>match i.zero with
  | some v=>if v.cells.size=ns.sum then some (XS ns v.cells.toList) else none
  | none=>none
 | none=>none
theorem bldB_spec(h:bldB P t ns=true):∃ fs,P.underlying t=some (.struct fs)/\fs.size=ns.length/\
  ∀ i,(hi:i<ns.length)->∃ f ti,fs[i]?=some f/\f.offset=(ns.take i).sum/\P.info? f.type=some ti/\ti.size=ns[i]:=by
 unfold bldB at h;split at h
 ·rename_i fs hfs;simp only[af,beq_iff_eq] at h;refine⟨fs,hfs,h.1,λ i hi=>?_⟩;have:=al.1 h.2 i (az.2 hi);split at this
  ·rename_i f hf;simp at this;obtain⟨h1,h2⟩:=this;split at h2
   ·rename_i ti hti;exact⟨f,ti,hf,h1,hti,by simpa[hi] using h2⟩
   ·cases h2
  ·cases this
 ·cases h
theorem zeroOf_spec(h:Zg P t ns=some zs):∃ i v,P.info? t=some i/\i.zero=some v/\ns.sum=v.cells.toList.length/\zs=XS ns v.cells.toList:=by
 unfold Zg at h;grind
section
variable{look:Nat->Option Dt}{α:Type}[Rep α]
theorem Zz{cs:List Value}{x:α}(hr:Rep.rdc M w cs x):(mkv (Rep.agg α) cs).cells.toList=cs:=by
 unfold mkv;cases h:Rep.agg α with
 | true=>rfl
 |false=>
  have h1:=(Rep.len hr).trans (Rep.one h)
  match cs,h1 with
  |[c],_=>have:=Rep.oneCell hr c (by simp);cases c <;> first | rfl | (simp[Value.oneCell'] at this)
theorem OpdR.cells{opd:Operand}{x:α}(h:OpdR M look opd (dt x)){w:World}{a:Act}(hl:∀ s y,look s=some y->y.rd M w (Act.at a s)):Rep.rdc M w (a.eval opd).cells.toList x:=by
 obtain⟨cs,hr,hv⟩:=h w a hl;rw[hv,Zz hr];exact hr
theorem zeB{P:Program}{w:World}:∀ (l:List Field),(∀ f∈l,∃ ti,P.info? f.type=some ti)->
  (l.mapM (m:=Sem) λ f=>do pure (f.offset,← sizeOf f.type)).run P w=.ok (l.map λ f=>(f.offset,((P.info? f.type).map (·.size)).getD 0)) w
 | [],_=>by simp
 |f::l,h=>by
  obtain⟨ti,hti⟩:=h f (by simp);have:=zeB (P:=P) (w:=w) l (λ g hg=>h g (by simp[hg]));simp[sizeOf,typeInfo,hti] at this ⊢;simp[this]
theorem zd4{parts:List (Nat×Value)}(hb:bldB P t ns=true)(hz:Zg P t ns=some zs)
  (hs:∀ p∈parts,p.1<ns.length/\p.2.cells.size=ns.getD p.1 0) (w:World):
  ∃ cells:Array Value,(Instr.build t parts.toArray).run P w=.ok (.agg cells) w/\cells.toList=(parts.foldl (λ l p=>l.set p.1 p.2.cells.toList) zs).flatten:=by
 obtain⟨fs,h1,h2,h3⟩:=bldB_spec hb;obtain⟨i,v,h4,h5,h6,rfl⟩:=zeroOf_spec hz;have hall:∀ f∈fs.toList,∃ ti,P.info? f.type=some ti:=by
  intro f hf;obtain⟨j,hj⟩:=aN hf;have hj':j<ns.length:=by rw[← h2];exact(aD.1 (by simpa using hj)).1
  obtain⟨f',ti,g1,_,g3,_⟩:=h3 j hj';have:f'=f:=by
   have:fs[j]?=some f:=by simpa using hj
   rw[this] at g1;injection g1 with g1;exact g1.symm
  subst this;exact⟨ti,g3⟩
 have hplaces:=zeB (w:=w) fs.toList hall;have hfill:=fill_spec (place:=λ j=>((fs.toList.map λ f=>(f.offset,((P.info? f.type).map (·.size)).getD 0)).toArray)[j]?) (J0 h6).symm (λ j u hj=>by
  obtain⟨hlt,hsz⟩:=hs _ hj;simp only at hlt hsz;refine⟨by rw[Xq];exact hlt,?_,?_⟩
  ·obtain⟨f,ti,g1,g2,g3,g4⟩:=h3 j hlt;have g1':fs.toList[j]?=some f:=by simpa using g1
   simp[g1,g2,g3,g4,zcC h6 (Nat.le_of_lt hlt),hsz,hlt]
  ·rw[zd3 h6 hlt,hsz];simp[hlt])
 obtain⟨cells,g1,g2⟩:=hfill;refine⟨cells,?_,g2⟩;unfold Instr.build;have hmap:(fs.mapM (m:=Sem) λ f=>do pure (f.offset,← sizeOf f.type)).run P w=.ok ((fs.toList.map λ f=>(f.offset,((P.info? f.type).map (·.size)).getD 0)).toArray) w:=by
  have e:fs.mapM (λ f=>do pure (f.offset,← sizeOf f.type))=List.toArray <$> fs.toList.mapM (λ f=>do pure (f.offset,← sizeOf f.type)):=by
   rw[Array.mapM_eq_mapM_toList]
  rw[e,Sem.run_map,hplaces];rfl
 have hzero:(zeroValue t).run P w=.ok v w:=by simp[zeroValue,typeInfo,h4,h5]
 simp only[an,hzero,aw h1,ah,hmap];rw[g1];rfl
theorem yf{parts:List (Nat×Operand)}{x:α}(hagg:Rep.agg α=true)(ho:o.op=.build t parts.toArray)
  (hs:∀ (w:World) (a:Act),(∀ s y,look s=some y->y.rd M w (Act.at a s))->∀ p∈parts,p.1<ns.length/\(a.eval p.2).cells.toList.length=ns.getD p.1 0)
  (hx:∀ (w:World) (a:Act),(∀ s y,look s=some y->y.rd M w (Act.at a s))->Rep.rdc M w ((parts.foldl (λ l p=>l.set p.1 (a.eval p.2).cells.toList) zs).flatten) x)(hb:bldB P t ns=true:=by kernel_rfl)(hz:Zg P t ns=some zs:=by kernel_rfl):OpRel P M look o (dt x):=
 zC λ a w _ hl=>by
  obtain⟨cells,h1,h2⟩:=zd4 (parts:=parts.map λ p=>(p.1,a.eval p.2)) hb hz (λ p hp=>by
   obtain⟨q,hq,rfl⟩:=bg.1 hp;have:=hs w a hl q hq;exact⟨this.1,by simpa using this.2⟩) w
  refine⟨.agg cells,?_,cells.toList,?_,by rw[hagg];rfl⟩
  ·unfold execOp;rw[ho];have e:(parts.toArray.map λ p:Nat×Operand=>(p.1,a.eval p.2))=(parts.map λ p=>(p.1,a.eval p.2)).toArray:=by simp
   simp[e,h1]
  ·rw[h2,dJ];exact hx w a hl
theorem zao{w:World}:∀ {l:List (List Value)} {xs:List α},l.length=xs.length->(∀ (i:Nat) (c:List Value) (x:α),l[i]?=some c->xs[i]?=some x->Rep.rdc M w c x)->rowR M w l.flatten xs
 | [],[],_,_=>rfl
 | [],_::_,h,_=>by simp at h
 | _::_,[],h,_=>by simp at h
 | c::l,x::xs,h,hr=>⟨c,l.flatten,by simp,hr 0 c x Z Z,zao (by simpa using h) λ i c' x' h1 h2=>hr (i+1) c' x' (by simpa using h1) (by simpa using h2)⟩
inductive OpdsR (M:Nat->Prop) (look:Nat->Option Dt):List Operand->List α->Prop
 | nil:OpdsR M look [] []
 | cons {opd:Operand} {x:α} {l:List Operand} {xs:List α} (h:OpdR M look opd (dt x)) (r:OpdsR M look l xs):OpdsR M look (opd::l) (x::xs)
theorem OpdsR.get{xs:List α}(h:OpdsR M look l xs):l.length=xs.length/\∀ (i:Nat) (opd:Operand) (x:α),l[i]?=some opd->xs[i]?=some x->OpdR M look opd (dt x):=by
 induction h with
 | nil=>exact⟨Z,λ i opd x h=>by simp at h⟩
 |cons h r ih=>
  refine⟨by simp[ih.1],λ i opd x h1 h2=>?_⟩;cases i with
  | zero=>simp at h1 h2;subst h1 h2;exact h
  | succ i=>exact ih.2 i opd x (by simpa using h1) (by simpa using h2)
theorem zb2{β:Type}{f:β->List Value}:∀ {vs:List β} {k:Nat} {l:List (List Value)},l.length=k+vs.length->(vs.zipIdx k).foldl (λ l (p:β×Nat)=>l.set p.2 (f p.1)) l=l.take k++vs.map f
 | [],k,l,h=>by simp at h;simp[← h]
 |v::vs,k,l,h=>by
  simp only[List.zipIdx_cons,bY,cH];simp only[bj] at h;rw[zb2 (vs:=vs) (k:=k+1) (l:=l.set k (f v)) (by simp;omega)];rw[dz (by simp;omega)];simp[List.take_set_of_le]
theorem J1{parts:List Value}{size:Nat}(ht:sliB P t e size=true){z:Value}(hi:P.info? e=some ti)(hz:ti.zero=some z)
  (hn:parts.length*size<=16777216) (hs:∀ v∈parts,v.cells.size=size) (w:World):
  ∃
   cells:Array Value,(Instr.buildSlice t parts.length ((parts.zipIdx.map λ p=>(p.2,p.1)).toArray)).run P w=.ok (.slice (some ⟨w.heap.size,0,none⟩) parts.length parts.length) (w.alloc (.cells cells e))/\
   cells.toList=(parts.map λ v=>v.cells.toList).flatten:=by
 obtain⟨ti',h1,h2,h3⟩:=Zy ht;rw[hi] at h2;injection h2 with h2;subst h2;generalize hzc:((Array.range (parts.length*size)).map λ i=>z.cells[i % z.cells.size]!)=zc;have hzl:zc.toList.length=parts.length*size:=by rw[← hzc];simp
 have hsum:(List.replicate parts.length size).sum=zc.toList.length:=by rw[hzl];simp
 have hfill:=fill_spec (place:=λ i=>some (i*size,size)) (parts:=parts.zipIdx.map λ p=>(p.2,p.1)) (J0 hsum).symm (λ j u hj=>by
  obtain⟨q,hq,hqe⟩:=bg.1 hj;injection hqe with e1 e2;subst e1 e2;have hq':=List.mem_zipIdx hq;have hlt:q.2<parts.length:=by omega
  have hmem:q.1∈parts:=by rw[hq'.2.2];exact bi _
  have hlt':q.2<(List.replicate parts.length size).length:=by simpa using hlt
  refine⟨by rw[Xq];exact hlt',?_,?_⟩
  ·rw[zcC hsum (Nat.le_of_lt hlt'),hs _ hmem];simp[List.take_replicate];rw[bq (Nat.le_of_lt hlt)]
  ·rw[zd3 hsum hlt',hs _ hmem];simp)
 obtain⟨cells,g1,g2⟩:=hfill;refine⟨cells,?_,?_⟩
 ·have hsz:(sizeOf e).run P w=.ok size w:=by simp[sizeOf,typeInfo,hi,h3]
  have hzero:(zeroValue e).run P w=.ok z w:=by simp[zeroValue,typeInfo,hi,hz]
  unfold Instr.buildSlice;simp only[an,aw h1,ah,hsz];rw[Kd (by omega)];by_cases h0:parts.length*size=0
  ·have hzc':zc=#[]:=by rw[← hzc,h0];simp
   rw[hzc'] at g1;simp only[h0,bI,pure_bind];have hr2:((Array.range 0).map λ x=>(#[]:Array Value)[x % (#[]:Array Value).size]!)=#[]:=by simp[Array.range]
   rw[hr2,g1];rfl
  ·simp only[Kd h0,an,hzero,ah,au,hzc];simp only[g1,an,newRow,newObj,JY,au];rfl
 ·rw[g2,dJ]
  congr 1
  have:=zb2 (f:=λ v:Value=>v.cells.toList) (vs:=parts) (k:=0) (l:=XS (List.replicate parts.length size) zc.toList) (by rw[Xq];simp);simpa using this
def zlB(P:Program)(t:TypeId):Bool:=
 match P.underlying t with
 |some (.slice e)=>match P.info? e with
  | some i=>i.zero.isSome
  | none=>false
 | _=>false
theorem zlB_spec{size:Nat}(h:zlB P t=true)(ht:sliB P t e size=true):∃ ti z,P.info? e=some ti/\ti.zero=some z:=by
 obtain⟨i,h1,h2,_⟩:=Zy ht;unfold zlB at h;rw[h1] at h;simp[h2] at h;obtain⟨z,hz⟩:=dg.1 h;grind
theorem xH{n:Nat}{parts:Array (Nat×Operand)}{xs:List α}(ho:o.op=.buildSlice t n parts)
  (hp:parts=(opds.zipIdx.map λ p=>(p.2,p.1)).toArray) (hn:n=opds.length)  (hx:OpdsR M look opds xs)(hsz:opds.length*Rep.size α<=16777216:=by decide)(ht':slB P t (Rep.size α)=true:=by kernel_rfl)(hz':zlB P t=true:=by kernel_rfl):OpRel P M look o (dt xs):=
 λ a w hm hl=>by
  obtain⟨e,ht⟩:=jJ ht';obtain⟨ti,z,h1,h2⟩:=zlB_spec hz' ht;have hg:=hx.get;have hcell:∀ (i:Nat) (opd:Operand),opds[i]?=some opd->∃ x,xs[i]?=some x/\Rep.rdc M w (a.eval opd).cells.toList x:=λ i opd hi=>by
   have hlt:i<xs.length:=by rw[← hg.1];exact(ai.1 hi).1
   exact⟨_,aa hlt,(hg.2 i opd _ hi (aa hlt)).cells hl⟩
  obtain⟨cells,g1,g2⟩:=J1 (parts:=opds.map a.eval) ht h1 h2 (by simpa using hsz) (λ v hv=>by
   obtain⟨opd,hopd,rfl⟩:=bg.1 hv;obtain⟨i,hi⟩:=aN hopd;obtain⟨x,_,hr⟩:=hcell i opd hi;simpa using Rep.len hr) w
  have he:Ext0 w (w.alloc (.cells cells e)):=Ext0.alloc _ _;refine OpOut.of_value (w':=w.alloc _) (v:=.slice _ xs.length xs.length) ?_ ⟨he,_,⟨_,xs.length,Z,ak _,?_,.inr ⟨w.heap.size,0,cells.toList,Z,λ h=>absurd (hm _ h) (cJ _),λ j u hj=>?_,?_⟩⟩,Z⟩
  ·unfold execOp;rw[ho];have e1:(parts.map λ p:Nat×Operand=>(p.1,a.eval p.2))=(((opds.map a.eval).zipIdx).map λ p=>(p.2,p.1)).toArray:=by
    rw[hp];simp[eh]
   simp at g1;rw[hg.1] at g1;simp[e1,hn,g1,hg.1]
  ·have:=Rep.pos (α:=α);rw[← hg.1];have h5:opds.length<=opds.length*Rep.size α:=dn _ this;exact aQ h5 (aQ hsz (by decide))
  ·rw[aB,dC];simpa using hj
  ·rw[g2];refine zao (by simp[hg.1]) λ i c x h4 h5=>?_
   simp only[aY,du] at h4;obtain⟨u,⟨opd,hopd,rfl⟩,rfl⟩:=h4;obtain⟨x',hx',hr⟩:=hcell i opd hopd;rw[h5] at hx';injection hx' with hx';subst hx';exact Rep.stable hr (Same.of_ext he)
end
inductive RdAll (M:Nat->Prop) (w:World):List Value->List Dt->Prop
 | nil:RdAll M w [] []
 | cons {v:Value} {x:Dt} {vs:List Value} {xs:List Dt} (h:x.rd M w v) (r:RdAll M w vs xs):RdAll M w (v::vs) (x::xs)
def Fn(P:Program)(f:FuncId)(xs:List Dt)(y:Dt):Prop:=
 ∀ (M:Nat->Prop) (w:World) (vs:List Value),(∀ b,M b->b<w.heap.size)->RdAll M w vs xs->Calls P f vs.toArray w (λ e w'=>∃ v,e=.returned v/\Ext0 w w'/\y.rd M w' v)
def fnB(P:Program)(f:FuncId):Bool:=
 match P.funcs[f]? with
 | some fn => fn.name != "runtime.NumGoroutine" && fn.body.isSome
 | none=>false
theorem xX(h:fnB P f=true)(args:Array Value)(w:World):(callFunc f args).run P w=.ok (.enter f args) w:=by
 unfold fnB at h;split at h
 ·rename_i fn hfn;simp at h;have hb:fn.body.isNone=false:=by
   cases hb:fn.body with
   | none=>rw[hb] at h;simp at h
   | some c=>rfl
  have hb':fn.body≠none:=by intro e;rw[e] at hb;simp at hb
  unfold callFunc;simp[program,Sem.run,hfn,h.1,hb']
 ·cases h
inductive ArgsR (M:Nat->Prop) (look:Nat->Option Dt):List Operand->List Dt->Prop
 | nil:ArgsR M look [] []
 | cons {opd:Operand} {x:Dt} {l:List Operand} {xs:List Dt} (h:OpdR M look opd x) (r:ArgsR M look l xs):ArgsR M look (opd::l) (x::xs)
theorem ArgsR.all{look:Nat->Option Dt}(h:ArgsR M look l xs)(hl:∀ s y,look s=some y->y.rd M w (Act.at a s)):RdAll M w (l.map a.eval) xs:=by
 induction h with
 | nil=>exact .nil
 | cons h r ih=>exact .cons (h w a hl) ih
theorem zA{look:Nat->Option Dt}{y:Dt}(ho:o.op=.call { callee:=.value (.func f),args:=l.toArray,argTypes:=ts })
   (hx:ArgsR M look l xs) (h:Fn P f xs y)(hf:fnB P f=true:=by kernel_rfl):OpRel P M look o y:=
 λ a w hm hl=>by
  refine OpOut.of_enter (f:=f) (args:=(l.map a.eval).toArray) (w':=w) ?_ ?_
  ·unfold execOp;rw[ho];have e:a.eval (.func f)=.func _ #[] #[]:=rfl;simp[resolve,e,Deferred.ofValue,invoke,xX hf]
  ·exact(h M w _ hm (hx.all hl)).mono λ e w' ⟨v,he,hx,hr⟩=>⟨v,he,hx,hr⟩
def zK:Nat->List Dt->Env
 | _,[]=>[]
 | i,x::xs=>(i,x)::zK (i+1) xs
def RetP(M:Nat->Prop)(w0:World)(y:Dt):Ending->World->Prop:=λ e w'=>∃ v,e=.returned v/\Ext0 w0 w'/\y.rd M w' v
theorem xd{fn:Func}{c:Code}{y:Dt}(hf:P.funcs[f]?=some fn)(hb:fn.body=some c)
  (h:∀ (M:Nat->Prop) (w:World) (a:Act),(∀ b,M b->b<w.heap.size)->St (Frm.of w) fn.ntmps M (zK 0 xs) a w->c.wp P (bodyPost P fn (RetP M w y)) a w)(hn:xs.length<=fn.ntmps:=by exact oD Z):Fn P f xs y:=by
 intro M w vs hm hr;refine cP hf hb (h M w _ hm ?_);have hlen:∀ {vs:List Value} {xs:List Dt},RdAll M w vs xs->vs.length=xs.length:=by
  intro vs xs hr
  induction hr with
  | nil=>rfl
  | cons _ _ ih=>simp[ih]
 have hl:=hlen hr;refine⟨dS _ _,by simp;omega,Z,hm,λ s x hs=>?_⟩;have key:∀ {vs:List Value} {xs:List Dt},RdAll M w vs xs->∀ (i s:Nat) (x:Dt),(zK i xs).lookup s=some x->∃ j v,s=i+j/\vs[j]?=some v/\x.rd M w v:=by
  intro vs xs hr
  induction hr with
  | nil=>intro i s x h;simp[zK] at h
  |cons h r ih=>
   rename_i v x' vs xs;intro i s x hs;simp only[zK,ae] at hs;by_cases he:s=i
   ·subst he;simp at hs;subst hs;exact⟨0,v,Z,Z,h⟩
   ·have hb:(s == i)=false:=by simpa using he
    simp[hb] at hs;obtain⟨j,u,h1,h2,h3⟩:=ih _ s x hs;exact⟨j+1,u,by omega,by simpa using h2,h3⟩
 obtain⟨j,v,h1,h2,h3⟩:=key hr 0 s x hs;have h4:Act.at { tmps:=vs.toArray++Array.replicate (fn.ntmps - vs.toArray.size) undef,defers:=[] } s=v:=by
  have hj:=(ai.1 h2).1;have h5:vs.toArray[j]?=some v:=by simpa using h2
  have hj':j<vs.toArray.size:=by simpa using hj
  have:s=j:=by omega
  subst this;simp[Act.at];rw[aV hj',h5];rfl
 rw[h4];exact h3
section
variable{fn:Func}{y:Dt}
theorem zc3{t:Nat}{x:Dt}(hr:fn.results=#[.tmp t])(hst:St (Frm.of w0) N M' L a w)(hl:L.lookup t=some x)(hx:∀ v,x.rd M' w v->y.rd M w v):bodyPost P fn (RetP M w0 y) .ret a w:=
 ⟨hst.defers,_,cQ hr a.tmps P w,_,Z,hst.fr,hx _ (hst.has t x hl)⟩
theorem ret_cell{α:Type}[Rep α]{t:Nat}{x:α}(hr:fn.results=#[.cell t ty])(ht:tyB P ty (Rep.agg α) (Rep.size α)=true)(hst:St (Frm.of w0) N M' L a w)(hl:L.lookup t=some (dbox g 0 x))
  (hx:∀ v,(dt x).rd M' w v->y.rd M w v):bodyPost P fn (RetP M w0 y) .ret a w:=by
 obtain⟨b,_,hv,C,e,cs,hb,hc,hrr⟩:=hst.has t _ hl;have hc':∀ j u,cs[j]?=some u->w.cell? ⟨b,0+j,none⟩=some u:=λ j u hj=>by
  have:=hc j u hj;rw[aB] at this ⊢;simp[World.cell?,hb,this]
 have hld:=yH ht (Rep.len hrr) Rep.one hc';refine⟨hst.defers,mkv _ cs,?_,_,Z,hst.fr,hx _ ⟨cs,hrr,Z⟩⟩;have h1:a.tmps.getD t undef=.pointer _:=hv;simp[results,hr];simp at h1;simp[h1,asAddr,hld]
theorem zR{c:Nat}{x z:Code}(hst:St F N M L a w)(hl:L.lookup c=some (dt b))(ht:b=true->x.wp P Q a w)(hf:b=false->z.wp P Q a w):(Code.cond (.tmp c) x z).wp P Q a w:=
 wp_cond_split (xE.1 (hst.has c _ hl)) ht hf
inductive Pick (ok:Dt->Prop) (L:Env):Env->Prop
 | nil:Pick ok L []
 | cons {s:Nat} {x:Dt} {L':Env} (h:L.lookup s=some x) (hk:ok x) (r:Pick ok L L'):Pick ok L ((s,x)::L')
theorem Pick.spec{ok:Dt->Prop}(h:Pick ok L L'):∀ s x,L'.lookup s=some x->L.lookup s=some x/\ok x:=by
 induction h with
 | nil=>intro s x h;simp at h
 |cons h hk r ih=>
  rename_i s' x' L';intro s x hs;simp only[ae] at hs;by_cases he:s=s'
  ·subst he;simp at hs;subst hs;exact⟨h,hk⟩
  ·have hb:(s == s')=false:=by simpa using he
   simp[hb] at hs;exact ih s x hs
theorem St.pick(h:St F N M L a w)(hp:Pick (λ _=>True) L L'):St F N M L' a w:=
 ⟨h.fr,h.size,h.defers,h.mok,λ s x hs=>h.has s x (hp.spec s x hs).1⟩
theorem ze6{id:Nat}(hst:St F N M L a w)(hs:Seg P M ops N L ops.toList L')(hp:Pick (λ _=>True) L' L2)
  (h:∀ a' w',Ext0 w w'->St F N M L2 a' w'->Q .normal a' w'):(Code.region id ops false).wp P Q a w:=by
 refine QY ?_;have:=zal hs hst (λ a' w' he hst'=>Wz (h a' w' he (hst'.pick hp)));grind
theorem zcD{id:Nat}{xs:List (Nat×Dt)}(hm:P.follows .mixedOrders=true)
  (T:List (List Nat)) (S:List (List (Nat×Option Nat))) 
  (hst:St F N M L a w) (hreg:RegR P M ops N S L D 0 ops.toList xs) (hp:Pick (λ _=>True) (xs++L) L2)
  (hQ:∀ a' w',Ext0 w w'->St F N M L2 a' w'->Q .normal a' w')(h:jf ops ops.size T S=true:=by decide +kernel):(Code.region id ops true).wp P Q a w:=
 Qq hm ops.size T S h (ak _) hst (by rwa[show ops.size=ops.toList.length from by simp,aL]) (λ a' w' he hst'=>by
  rw[show ops.size=ops.toList.length from by simp,bR];exact Wz (hQ a' w' he (hst'.pick hp)))
theorem least{p:Nat->Prop}(h:∃ n,p n):∃ n,p n/\∀ m,p m->n<=m:=by
 obtain⟨n,hn⟩:=h
 induction n using Nat.strongRecOn with
 |_ n ih=>
  by_cases hx:∃ m,m<n/\p m
  ·obtain⟨m,hm,hp⟩:=hx;exact ih m hm hp
  ·refine⟨n,hn,λ m hm=>?_⟩;rcases aR m n with h1 | h1
   ·exact absurd ⟨m,h1,hm⟩ hx
   ·exact h1
theorem YF{ι:Type}{c:Code}(Inv:ι->Act->World->Prop)(mu:ι->Nat)(i0:ι)(h0:Inv i0 a w)
  (round:∀ i a w,Inv i a w->c.wp P (Exit.then (λ a' w'=>∃ i',Inv i' a' w'/\mu i'<mu i) Q) a w):(Code.loop c).wp P Q a w:=by
 classical
 let S:Act->World->Nat->Prop:=λ a w n=>∃ i,Inv i a w/\mu i=n
 have hex:∀ a w,(∃ i,Inv i a w)->∃ n,S a w n/\∀ m,S a w m->n<=m:=λ a w ⟨i,hi⟩=>least ⟨mu i,i,hi,Z⟩
 refine wp_loop (λ a w=>∃ i,Inv i a w) (λ a w=>if h:∃ i,Inv i a w then Classical.choose (hex a w h) else 0) ⟨i0,h0⟩ λ a w hI=>?_
 obtain⟨⟨i,hi,hmu⟩,_⟩:=Classical.choose_spec (hex a w hI);refine bQ (λ e a' w' q=>?_) (round i a w hi);cases e with
 |normal=>obtain⟨i',hi',hlt⟩:=q;refine⟨⟨i',hi'⟩,?_⟩;have hI':∃ i,Inv i a' w':=⟨i',hi'⟩;simp only[dif_pos hI,dif_pos hI'];have h1:=(Classical.choose_spec (hex a' w' hI')).2 _ ⟨i',hi',Z⟩;omega
 | _=>exact q
end
section
variable{look:Nat->Option Dt}
variable{α:Type}
theorem zi{s:Nat}{c:Bool}{x:Dt}(hc:c=true)(h:look s=some (Dt.grd c x)):OpdR M look (.tmp s) x:=λ _ _ hl=>(hl s _ h).1 hc
theorem zd5{s:Nat}{c:Bool}{x:Dt}(hc:c=true)(h:look s=some (Dt.grd (c&&d) x)):OpdR M look (.tmp s) (Dt.grd d x):=λ _ _ hl=>by
 have:=hl s _ h;subst hc;rw[br] at this;exact this
theorem and_l{c:Bool}(h:(c&&d)=true):c=true:=by cases c <;> simp_all
theorem and_r{c:Bool}(h:(c&&(d == true))=true):d=true:=by cases c <;> simp_all
theorem J2:Rep.rdc (α:=Str) M w [.string ⟨⟨[]⟩⟩] (⟨[]⟩:Str):=⟨Z,ao _⟩
theorem yA[Rep α]:Rep.rdc M w [.slice none 0 0] ([]:List α):=⟨none,0,Z,ak _,ao _,.inl Z⟩
def isBool(P:Program)(t:TypeId):Bool:=match P.underlying t with | some .bool=>true | _=>false
theorem zeC(h:isBool P t=true):P.underlying t=some .bool:=by
 unfold isBool at h;grind
theorem ze7(h:P.underlying t=some .bool)(m n:Bool)(w:World):(Op.equal t (.bool m) (.bool n)).run P w=.ok (m == n) w:=by
 unfold Op.equal Op.maxDepth;rw[show(10000:Nat)=9999+1 from Z,Op.equalIn];simp only[an,aw h,ah,au]
theorem op_eqT{m n:Bool}(ho:o.op=.binOp .eql t x y t')(hx:OpdR M look x (dt m))(hy:OpdR M look y (dt n))(ht:isBool P t=true:=by kernel_rfl):OpRel P M look o (dt (m == n)):=
 zC λ a w _ hl=>⟨.bool (m == n),by
  unfold execOp;rw[ho];simp[xE.1 (hx w a hl),xE.1 (hy w a hl),eqGuard,binOp,ze7 (zeC ht)],xE.2 Z⟩
theorem op_neT{m n:Bool}(ho:o.op=.binOp .neq t x y t')(hx:OpdR M look x (dt m))(hy:OpdR M look y (dt n))(ht:isBool P t=true:=by kernel_rfl):OpRel P M look o (dt (m != n)):=
 zC λ a w _ hl=>⟨.bool (m != n),by
  unfold execOp;rw[ho];simp[xE.1 (hx w a hl),xE.1 (hy w a hl),eqGuard,binOp,ze7 (zeC ht),bne],xE.2 Z⟩
def cmpS:BinOp->Str->Str->Bool
 | .lss,x,y=>Op.bytesLess x.l y.l
 | .leq,x,y=>Op.bytesLess x.l y.l||decide (x=y)
 | .gtr,x,y=>!(Op.bytesLess x.l y.l||decide (x=y))
 | .geq,x,y=>!Op.bytesLess x.l y.l
 | _,_,_=>false
theorem op_cmpS{m n:Str}(ho:o.op=.binOp op t x y t')(hx:OpdR M look x (dt m))(hy:OpdR M look y (dt n))(hop:op=.lss\/op=.leq\/op=.gtr\/op=.geq:=by decide):
  OpRel P M look o (dt (cmpS op m n)):=
 zC λ a w _ hl=>⟨.bool (cmpS op m n),by
  have h1:=(xT.1 (hx w a hl)).1;have h2:=(xT.1 (hy w a hl)).1;have e1:(ByteArray.mk ⟨m.l⟩).toList=m.l:=da (⟨⟨m.l⟩⟩:ByteArray);have e2:(ByteArray.mk ⟨n.l⟩).toList=n.l:=da (⟨⟨n.l⟩⟩:ByteArray);have e3:(m.l == n.l)=decide (m=n):=by rw[bO];simp[Str.ext_iff']
  unfold execOp;rw[ho];rcases hop with rfl | rfl | rfl | rfl <;> simp[h1,h2,eqGuard,binOp,Op.stringOp,strv,e1,e2,cmpS,e3],xE.2 Z⟩
theorem wG{id:Nat}(h:Q .normal a w):Exit.inBlock id Q (.exit id) a w:=by simp[Exit.inBlock,h]
theorem yz(h:Q (.exit i) a w):Exit.then K Q (.exit i) a w:=h
theorem zZ(h:Q .ret a w):Exit.then K Q .ret a w:=h
theorem wn{id:Nat}(h:Q .ret a w):Exit.inBlock id Q .ret a w:=h
theorem yP{id:Nat}(h:Q .normal a w):Exit.inBlock id Q .normal a w:=h
theorem za{next:Act->World->Prop}(h:next a w):Exit.then next Q .normal a w:=h
theorem St.lenL[Rep α]{s:Nat}{xs:List α}(h:St F N M L a w)(hl:L.lookup s=some (dt xs)):xs.length<=9223372036854775807:=by
 obtain⟨cs,⟨_,c,_,h1,h2,_⟩,_⟩:=h.has s _ hl;unfold maxLen at h2;omega
theorem St.lenS{s:Nat}{x:Str}(h:St F N M L a w)(hl:L.lookup s=some (dt x)):x.l.length<=9223372036854775807:=(xT.1 (h.has s _ hl)).2
theorem len_rdc[Rep α]{cs:List Value}{xs:List α}(h:Rep.rdc M w cs xs):xs.length<=9223372036854775807:=by
 obtain⟨_,c,_,h1,h2,_⟩:=h;unfold maxLen at h2;omega
theorem St.fldL{β:Type}[Rep α][Rep β]{get:α->List β}{s:Nat}{x:α}(h:St F N M L a w)(f:Fld get off)(hl:L.lookup s=some (dt x)):(get x).length<=9223372036854775807:=by
 obtain⟨cs,hr,_⟩:=h.has s _ hl;obtain⟨c,_,hc⟩:=f.sub hr;exact len_rdc hc
theorem QD{xs:List α}(h:cmpI .lss (k:Int) (xs.length:Int)=true):∃ x,xs[k]?=some x:=by
 have hk:k<xs.length:=by simpa[cmpI] using h
 simp_all
theorem idxS_of{x:Str}(h:cmpI .lss (k:Int) (x.l.length:Int)=true):∃ b,x.l[k]?=some b:=QD (xs:=x.l) h
theorem QE{xs:List α}(h:cmpI .lss (k:Int) (xs.length:Int)=false):xs.length<=k:=by simpa[cmpI] using h
theorem endS_of{x:Str}(h:cmpI .lss (k:Int) (x.l.length:Int)=false):x.l.length<=k:=QE (xs:=x.l) h
theorem zJ{xs:List α}{x:α}(h:xs[k]?=some x):k<xs.length:=(ai.1 h).1
end
def insO(g:Option Nat)(M:Nat->Prop):Nat->Prop:=λ b=>M b\/g=some b
section
def Off(x:Dt)(g:Option Nat):Prop:=∀ b,g=some b->¬ x.own b
variable{α:Type}{ys:List α}
theorem Dt.touched{x:Dt}(h:x.rd (insO g M0) w v)(hown:Off x g)(hg:w.grownBy w' g)(hg':g'=g\/∀ b,g'=some b->w.heap.size<=b):x.rd (insO g' M0) w' v:=by
 have h1:x.rd (λ b=>insO g M0 b\/g'=some b) w v:=x.weak h λ k hk hm=>by
  rcases hm with hm | hm
  ·exact hm
  ·rcases hg' with e | e
   ·right;rw[← e];exact hm
   ·have:=e k hm;omega
 have h2:=x.stable h1 λ k hk hm=>by
  refine hg.block k hk λ e=>?_
  rcases hm with hm | hm
  ·exact hm (.inl (.inr e.symm))
  ·exact hown k e.symm hm
 exact x.weak h2 λ k _ hm=>hm.elim (λ h=>.inl (.inl h)) (λ h=>.inr h)
theorem Y9[Rep α]{cells:List Value}{xs:List α}(h:rowR (insO g M0) w cells xs)(hg:w.grownBy w' g)(hg':g'=g\/∀ b,g'=some b->w.heap.size<=b):rowR (insO g' M0) w' cells xs:=by
 have h1:rowR (λ b=>insO g M0 b\/g'=some b) w cells xs:=wE (λ k hk hm=>by
  rcases hm with hm | hm
  ·exact hm
  ·rcases hg' with e | e
   ·right;rw[← e];exact hm
   ·have:=e k hm;omega) h
 have h2:=Z4 (λ k hk hm=>by
  refine hg.block k hk λ e=>?_
  rcases hm with hm | hm
  ·exact hm (.inl (.inr e.symm))
  ·cases hm) h1
 exact wE (λ k _ hm=>hm.elim (λ h=>.inl (.inl h)) (λ h=>.inr h)) h2
def elB(P:Program)(t e:TypeId)(size bytes:Nat):Bool:=
 match P.underlying t,P.info? e with
 | some (.slice e'),some i=>e' == e&&i.size == size&&i.bytes == bytes&&(match i.zero with | some z=>z.cells.size == size | none=>false)
 | _,_=>false
theorem J3{size:Nat}(h:elB P t e size bytes=true):∃ i z,P.underlying t=some (.slice e)/\P.info? e=some i/\i.zero=some z/\i.size=size/\i.bytes=bytes/\z.cells.size=size:=by
 unfold elB at h;grind
theorem zap{base base':Nat}{size n:Nat}{cs:List Value}(h:w.ownsRow base e size v n cs)(hb:base'<=base):w.ownsRow base' e size v n cs:=
 ⟨h.1,h.2.imp id λ⟨g,cap,cur,h1,h2,h3⟩=>⟨g,cap,cur,h1,aQ hb h2,h3⟩⟩
theorem XT{i:TypeInfo}(ht:P.underlying t=some (.slice e))(hi:P.info? e=some i)(A:Option Addr)(n cap c:Nat)(hn:n<=cap):(Builtin.append_ #[t,t] ty #[.slice A n cap,.slice none 0 c]).run P w=.ok (.slice A n cap) w:=by
 cases A <;> simp[Builtin.append_,aw ht,sizeOf,typeInfo,hi,Builtin.lenOf,Builtin.firstCells,hn,storeCells]
theorem YO{i:TypeInfo}(ht:P.underlying t=some (.slice e))(hi:P.info? e=some i)(A:Option Addr)(ad:Addr)(n cap c:Nat)(hn:n<=cap):(Builtin.append_ #[t,t] ty #[.slice A n cap,.slice (some ad) 0 c]).run P w=.ok (.slice A n cap) w:=by
 cases A <;> simp[Builtin.append_,aw ht,sizeOf,typeInfo,hi,Builtin.lenOf,Builtin.firstCells,loadCells,loadCellsFrom,hn,storeCells]
def RowAt{α:Type}[Rep α](M:Nat->Prop)(w:World)(u:Value)(ys:List α):Prop:=
 ∃ A c,u=.slice A ys.length c/\(ys=[]\/∃ b off cells,A=some ⟨b,off,none⟩/\CellsAt w b off cells/\rowR M w cells ys)
def IsRow{α:Type}[Rep α](z:Dt)(ys:List α):Prop:=∀ (M:Nat->Prop) (w:World) (u:Value),z.rd M w u->RowAt M w u ys
theorem yI[Rep α]:IsRow (dt ys) ys:=λ M w u hu=>by
 obtain⟨cs,⟨A,c,hcs,hc1,hc2,hc3⟩,hu'⟩:=hu;subst hcs;exact⟨A,c,hu',hc3.imp id λ⟨b,off,cells,hA,_,hc,hr⟩=>⟨b,off,cells,hA,hc,hr⟩⟩
theorem row_tip[Rep α]:IsRow (dtip g e ys) ys:=λ M w u hu=>by
 rcases hu with⟨cells,hown,hrow,hb⟩ | ⟨_,hx,A,hv⟩
 ·rcases hown.2 with⟨h1,h2⟩ | ⟨b,cap,cur,h1,h2,h3,h4,h5,h6,h7⟩
  ·exact⟨none,0,by rw[h1,h2],.inl (ar h2)⟩
  ·refine⟨some ⟨b,0,none⟩,cap,h1,.inr ⟨b,0,cells,Z,λ j u hj=>?_,hrow⟩⟩;have:=hown.cells (by rw[h1];rfl) j u hj;rwa[jq] at this
 ·subst hx;exact⟨A,0,hv,.inl Z⟩
theorem X8[Rep α]{xs:List α}(hel:elB P t e (Rep.size α) bytes=true)(hv:(dtip g e xs).rd (insO g M0) w v)(hu:RowAt (insO g M0) w u ys)
  (hsz:(xs.length+ys.length)*bytes<=140737488355328) (hml:xs.length+ys.length<=maxLen):
  ∃ v' w' g',(Builtin.append_ #[t,t] ty #[v,u]).run P w=.ok v' w'/\(dtip g' e (xs++ys)).rd (insO g' M0) w' v'/\w.grownBy w' g/\(g'=g\/∀ b,g'=some b->w.heap.size<=b)/\(∀ b,g'=some b->b<w'.heap.size):=by
 obtain⟨i,z,ht,hi,hz,hs1,hs2,hs3⟩:=J3 hel;obtain⟨A,c,hu',hc3⟩:=hu;subst hu';have hsl:∃ B cap,v=.slice B xs.length cap/\xs.length<=cap:=by
  rcases hv with⟨cells,hown,_,_⟩ | ⟨_,h2,B,h3⟩
  ·rcases hown.2 with⟨h1,h2⟩ | ⟨b,cap,cur,h1,_,_,h4,_⟩
   ·exact⟨none,0,by rw[h1,h2],by omega⟩
   ·exact⟨_,cap,h1,h4⟩
  ·exact⟨B,0,by rw[h3,h2];rfl,by rw[h2];exact ak _⟩
 have hvlt:∀ b,g=some b->b<w.heap.size:=λ b hb=>by
  rcases hv with⟨cells,hown,_,hg⟩ | ⟨hg,_⟩
  ·exact(hown.lt b (by rw[hg,hb])).2
  ·rw[hg] at hb;cases hb
 have hempty:ys=[]->∃ v' w' g',(Builtin.append_ #[t,t] ty #[v,.slice A ys.length c]).run P w=.ok v' w'/\(dtip g' e (xs++ys)).rd (insO g' M0) w' v'/\w.grownBy w' g/\(g'=g\/∀ b,g'=some b->w.heap.size<=b)/\(∀ b,g'=some b->b<w'.heap.size):=by
  intro hy;subst hy;obtain⟨B,cap,hB,hcap⟩:=hsl;refine⟨v,w,g,?_,by rw[aM];exact hv,cM w _,.inl Z,hvlt⟩;rw[hB];cases A with
  | none=>exact XT ht hi B xs.length cap c hcap
  | some ad=>exact YO ht hi B ad xs.length cap c hcap
 rcases hc3 with hy | ⟨b,off,ycells,hA,hyc,hyr⟩
 ·exact hempty hy
 by_cases hy:ys=[]
 ·exact hempty hy
 subst hA;have hycells:∀ j u,ycells[j]?=some u->w.cell? ((⟨b,off,none⟩:Addr).add j)=some u:=λ j u hj=>by rw[jq];exact hyc j u hj
 have own:∀ cells,w.ownsRow 0 e (Rep.size α) v xs.length cells->rowR (insO g M0) w cells xs->v.ownBlock=g->∃ v' w' g',(Builtin.append_ #[t,t] ty #[v,.slice (some ⟨b,off,none⟩) ys.length c]).run P w=.ok v' w'/\(dtip g' e (xs++ys)).rd (insO g' M0) w' v'/\w.grownBy w' g/\(g'=g\/∀ b,g'=some b->w.heap.size<=b)/\(∀ b,g'=some b->b<w'.heap.size):=by
  intro cells hown hrow hg;obtain⟨v',w',hrun,hown',hgr,_,hat⟩:=run_append_own_at (w:=w) 0 t ty e i z _ bytes ht hi hz hs1 hs2 hs3 Rep.pos v xs.length cells hown ⟨b,off,none⟩ ys.length c ycells (Je hyr) hycells (JF hyr) hml hsz (ao _);have hg':v'.ownBlock=g\/∀ k,v'.ownBlock=some k->w.heap.size<=k:=hat.imp (λ h=>by rw[h,hg]) (λ h k hk=>by rw[h] at hk;injection hk with hk;omega);rw[hg] at hgr;refine⟨v',w',v'.ownBlock,hrun,.inl ⟨cells++ycells,by rw[ap];exact hown',?_,Z⟩,hgr,hg',λ k hk=>(hown'.lt k hk).2⟩;exact qO (Y9 hrow hgr hg') (Y9 hyr hgr hg')
 rcases hv with⟨cells,hown,hrow,hg⟩ | ⟨hg0,hx0,B,hv0⟩
 ·exact own cells hown hrow hg
 ·subst hg0 hx0 hv0;cases B with
  | none=>exact own [] (World.ownsRow_nil w 0 e _) Z Z
  |some b0=>
   have hm:0<ys.length:=by
    rcases dN ys.length with h0 | h0
    ·exact absurd (ar h0) hy
    ·exact h0
   obtain⟨v',w',hrun,hown',hgr⟩:=dI (w:=w) t ty e i z _ bytes ht hi hz hs1 hs2 hs3 Rep.pos b0 0 0 [] (by simp) (λ j u h=>by simp at h) ⟨b,off,none⟩ ys.length c ycells (Je hyr) hycells (by omega) (by simpa using hml) (by simpa using hsz);have hg':v'.ownBlock=none\/∀ k,v'.ownBlock=some k->w.heap.size<=k:=.inr λ k hk=>(hown'.lt k hk).1
   refine⟨v',w',v'.ownBlock,hrun,.inl ⟨ycells,?_,?_,Z⟩,hgr,hg',λ k hk=>(hown'.lt k hk).2⟩
   ·simpa using zap hown' (ao _)
   ·simpa using Y9 hyr hgr hg'
def TipOK(F:Frm)(M0:Nat->Prop)(g:Option Nat):Prop:=∀ b,g=some b->F.Own b/\¬ M0 b
theorem TipOK.none_:TipOK F M0 none:=λ _ h=>by cases h
theorem len1{xs:List α}{x:α}{b n:Nat}(h:(xs.length+1)*b<=n):(xs.length+[x].length)*b<=n:=h
theorem len1b{xs:List α}{x:α}{n:Nat}(h:xs.length+1<=n):xs.length+[x].length<=n:=h
theorem WI[Rep α]{s x d:Nat}{xs:List α}{z:Dt}(hst:St F N (insO g M0) L a w)
  (ho:o.op=.call { callee:=.builtin .append,args:=#[.tmp s,.tmp x],argTypes:=#[t,t] }) (hg:o.guard=none) (hd:o.dst=some d)  
  (hs:L.lookup s=some (dtip g e xs)) (hx:L.lookup x=some z) (hz:IsRow z ys) (hsz:(xs.length+ys.length)*bytes<=140737488355328) (hml:xs.length+ys.length<=9223372036854775807)
  (hp:Pick (λ x=>Off x g) L L2) (htip:TipOK F M0 g) (h:∀ g' a' w',TipOK F M0 g'->St F N (insO g' M0) ((d,dtip g' e (xs++ys))::L2) a' w'->wpList P ops Q rest a' w')(hN:d<N:=by decide)(hel:elB P t e (Rep.size α) bytes=true:=by kernel_rfl):wpList P ops Q (o::rest) a w:=by
 obtain⟨v',w',g',hrun,hv',hgr,hg',hlt⟩:=X8 (ty:=o.type) hel (hst.has s _ hs) (hz _ _ _ (hst.has x _ hx)) hsz (by unfold maxLen;omega);refine av hg λ K hK=>OpOut.wp (OpOut.of_value (v:=v') (w':=w') ?_ (hK _ _ (h g' _ _ ?_ ?_)))
 ·unfold execOp;simp[ho,resolve,invoke,builtin,Act.eval_tmp,hrun]
 ·intro b hb;rcases hg' with he | he
  ·exact htip b (by rw[← he];exact hb)
  ·have h1:=he b hb;exact⟨F.fresh hst.fr b h1,λ hm=>by have:=hst.mok b (.inl hm);omega⟩
 ·refine⟨F.own hst.fr (Grown.of_grownBy hgr) λ k hk=>(htip k hk).1,by rw[Act.put_size];exact hst.size,by rw[Act.put_defers];exact hst.defers,λ b hb=>?_,λ s' y hy=>?_⟩
  ·rcases hb with hb | hb
   ·exact ax (hst.mok b (.inl hb)) hgr.size
   ·exact hlt b hb
  ·rw[hd];simp only[ae] at hy;by_cases he:s'=d
   ·subst he;simp at hy;subst hy;rw[Act.at_put_self (by rw[hst.size];exact hN)];exact hv'
   ·have hb:(s' == d)=false:=by simpa using he
    simp[hb] at hy;rw[Act.at_put_other (λ e=>he (by injection e with e;exact e.symm))];obtain⟨h1,h2⟩:=hp.spec s' y hy;exact Dt.touched (hst.has s' y h1) h2 hgr hg'
theorem jE[Rep α]{look:Nat->Option Dt}:OpdR M look (.const (.slice none 0 0)) (dtip none e ([]:List α)):=λ _ _ _=>.inr ⟨Z,Z,none,Z⟩
theorem xt[Rep α]{look:Nat->Option Dt}(ho:o.op=.buildSlice t 0 #[])(ht':slB P t (Rep.size α)=true:=by kernel_rfl):OpRel P M look o (dtip none e ([]:List α)):=
 λ a w _ _=>by
  obtain⟨e',ht⟩:=jJ ht';obtain⟨ti,h1,h2,h3⟩:=Zy ht;refine OpOut.of_value (w':=w.alloc (.cells #[] e')) (v:=.slice (some ⟨w.heap.size,0,none⟩) 0 0) ?_ ⟨Ext0.alloc _ _,.inr ⟨Z,Z,_,Z⟩⟩;have hr2:((Array.range 0).map λ x=>(#[]:Array Value)[x % (#[]:Array Value).size]!)=#[]:=by simp[Array.range]
  have hsz:(sizeOf e').run P w=.ok (Rep.size α) w:=by simp[sizeOf,typeInfo,h2,h3]
  unfold execOp;rw[ho];have hb:(Instr.buildSlice t 0 #[]).run P w=.ok (.slice (some ⟨w.heap.size,0,none⟩) 0 0) (w.alloc (.cells #[] e')):=by
   unfold Instr.buildSlice;simp only[an,aw h1,ah,hsz,dF];rw[Kd (by omega)];simp only[bI,pure_bind];rw[hr2];rfl
  simp[hb]
theorem Jg[Rep α]{xs:List α}(h:(dtip g e xs).rd M w v)(hM:∀ b,b<w.heap.size->M' b->M b)(hg:∀ b,g=some b->¬ M' b):(dt xs).rd M' w v:=by
 rcases h with⟨cells,hown,hrow,hb⟩ | ⟨_,hx,A,hv⟩
 ·have hrow':=wE hM hrow;rcases hown.2 with⟨h1,h2⟩ | ⟨b,cap,cur,h1,h2,h3,h4,h5,h6,h7⟩
  ·have hx:=ar h2;subst hx;exact⟨_,⟨none,0,Z,ak _,ao _,.inl Z⟩,h1⟩
  ·refine⟨_,⟨some ⟨b,0,none⟩,cap,Z,h4,h5,.inr ⟨b,0,cells,Z,hg b (by rw[← hb,h1];rfl),λ j u hj=>?_,hrow'⟩⟩,h1⟩;have:=hown.cells (by rw[h1];rfl) j u hj;rwa[jq] at this
 ·subst hx;exact⟨_,⟨A,0,Z,ak _,ao _,.inl Z⟩,hv⟩
theorem zbJ[Rep α]{look:Nat->Option Dt}{xs:List α}(ho:o.op=.call { callee:=.builtin .len,args:=#[s],argTypes:=#[t] })(hs:OpdR M look s (dtip g e xs))(ht:isSl P t=true:=by kernel_rfl):OpRel P M look o (dt (xs.length:Int)):=
 zC λ a w _ hl=>by
  obtain⟨e',ht1⟩:=zd2 ht;obtain⟨A,c,hv⟩:∃ A c,a.eval s=.slice A xs.length c:=by
   rcases hs w a hl with⟨cells,hown,_,_⟩ | ⟨_,hx,A,hv⟩
   ·rcases hown.2 with⟨h1,h2⟩ | ⟨b,cap,cur,h1,_⟩
    ·exact⟨none,0,by rw[h1,h2]⟩
    ·exact⟨_,cap,h1⟩
   ·exact⟨A,0,by rw[hv,hx];rfl⟩
  refine⟨.int .i64 xs.length,?_,yx.2 Z⟩;unfold execOp;rw[ho];simp[resolve,invoke,builtin,Builtin.len_,hv,aw ht1,goInt]
theorem op_indexTip[Rep α]{look:Nat->Option Dt}{i:Operand}{xs:List α}{x:α}(ho:o.op=.indexAddr t s i)(ht':slB P t (Rep.size α)=true)(hs:OpdR M look s (dtip g e xs))(hi:OpdR M look i (dt (k:Int)))
  (hx:xs[k]?=some x):OpRel P M look o (dbox g (k*Rep.size α) x):=
 zC λ a w _ hl=>by
  obtain⟨e',ht⟩:=jJ ht';have hk:=(ai.1 hx).1;have hiv:=yx.1 (hi w a hl);rcases hs w a hl with⟨cells,hown,hrow,hb⟩ | ⟨_,hx0,_⟩
  ·rcases hown.2 with⟨h1,h2⟩ | ⟨b,cap,cur,h1,h2,h3,h4,h5,h6,h7⟩
   ·omega
   ·obtain⟨ti,ht1,ht2,ht3⟩:=Zy ht;obtain⟨c',hcc,hr'⟩:=rowR_at hrow hx;refine⟨.pointer _,?_,b,by rw[← hb,h1];rfl,Z,cur,e,c',h3,λ j u hj=>?_,hr'⟩
    ·have hadd:(⟨b,0,none⟩:Addr).add (k*Rep.size α)=⟨b,k*Rep.size α,none⟩:=by rw[jq];simp
     unfold execOp;rw[ho];simp[h1,hiv,Instr.indexAt,asIntOf,aw ht1,sizeOf,typeInfo,ht2,ht3,hk,hadd]
    ·have:=hcc j u hj;rw[← h7,aE] at this;split at this
     ·simpa using this
     ·cases this
  ·subst hx0;simp at hk
theorem ret_tip{fn:Func}[Rep α]{t:Nat}{x y:List α}(hr:fn.results=#[.tmp t])(htip:TipOK (Frm.of w0) M0 g)(hst:St (Frm.of w0) N (insO g M0) L a w)(hl:L.lookup t=some (dtip g e x))(hx:x=y)(hsub:∀ b,M' b->M0 b:=by exact λ _ h=>h):bodyPost P fn (RetP M' w0 (dt y)) .ret a w:=
 zc3 hr hst hl λ v h=>by
  rw[← hx];exact Jg h (λ b _ hb=>.inl (hsub b hb)) λ b hg hb=>(htip b hg).2 (hsub b hb)
theorem St.ins0(h:St F N M L a w):St F N (insO none M) L a w:=
 ⟨h.fr,h.size,h.defers,λ b hb=>hb.elim (h.mok b) (λ e=>by cases e),λ s x hs=>x.weak (h.has s x hs) λ k _ hk=>hk.elim id (λ e=>by cases e)⟩
end
structure FldS{α β:Type}[Rep α][Rep β](set:α->β->α)(off:Nat):Prop where
 put:∀ {M:Nat->Prop} {w:World} {cs c:List Value} {x:α} {y:β},Rep.rdc M w cs x->Rep.rdc M w c y->off+c.length<=cs.length/\Rep.rdc M w (cs.take off++c++cs.drop (off+c.length)) (set x y)
theorem FldS.id[Rep α]:FldS (λ _ y:α=>y) 0:=⟨λ h k=>by
 have h1:=Rep.len h;have h2:=Rep.len k;refine⟨by omega,?_⟩;rw[cb (by omega)];simpa using k⟩
theorem FldS.fst[Rep α][Rep β]:FldS (λ(x:α×β) (y:α)=>(y,x.2)) 0:=⟨λ⟨c1,c2,h,h1,h2⟩ k=>by
 have e1:=Rep.len h1;have e2:=Rep.len k;refine⟨by rw[h,ap];omega,_,c2,?_,k,h2⟩;rw[h,dy,aB,cb (by omega),show _ - c1.length=0 by omega];simp⟩
theorem FldS.snd[Rep α][Rep β][Rep γ]{set:β->γ->β}(f:FldS set off):FldS (λ(x:α×β) (y:γ)=>(x.1,set x.2 y)) (Rep.size α+off):=⟨λ⟨c1,c2,h,h1,h2⟩ k=>by
 have e1:=Rep.len h1;obtain⟨g1,g2⟩:=f.put h2 k;refine⟨by rw[h,ap];omega,c1,_,?_,h1,g2⟩;rw[h,← e1,cg,dy,aJ (by omega),cb (by omega),dm];have e3:∀ n,c1.length+off+n - c1.length=off+n:=λ n=>by omega
 rw[e3];simp[]⟩
section
theorem Dt.kept{x:Dt}{b:Nat}(h:x.rd M w v)(hown:Off x (some b))(hb:M b)(hg:w.grownBy w' (some b)):x.rd M w' v:=
 x.stable h λ k hk hm=>hg.block k hk λ e=>by
  injection e with e;subst e;rcases hm with hm | hm
  ·exact hm hb
  ·exact hown k Z hm
def alB(P:Program)(t:TypeId)(n:Nat):Bool:=
 match P.info? t with
 | some i=>match i.zero with | some z=>z.cells.size == n | none=>false
 | none=>false
theorem alB_spec{n:Nat}(h:alB P t n=true):∃ i z,P.info? t=some i/\i.zero=some z/\z.cells.size=n:=by
 unfold alB at h;grind
theorem wpl_alloc{t d n:Nat}(hst:St F N M L a w)(ho:o.op=.alloc t)(hg:o.guard=none)(hd:o.dst=some d)(hp:Pick (λ _=>True) L L2)
  (h:∀ b a' w',F.Own b->¬ M b->Ext0 w w'->St F N (insO (some b) M) ((d,draw (some b) n)::L2) a' w'->wpList P ops Q rest a' w')(hN:d<N:=by decide)(ht:alB P t n=true:=by kernel_rfl):wpList P ops Q (o::rest) a w:=by
 obtain⟨i,z,hi,hz,hn⟩:=alB_spec ht;have he:Ext0 w (w.alloc (.cells z.cells t)):=Ext0.alloc _ _;refine av hg λ K hK=>OpOut.wp (OpOut.of_value (v:=.pointer (some ⟨w.heap.size,0,none⟩)) (w':=w.alloc _) ?_ (hK _ _ (h w.heap.size _ _ (F.fresh hst.fr _ (ak _)) (λ hm=>cJ _ (hst.mok _ hm)) he ?_)))
 ·unfold execOp;rw[ho];simp[Instr.alloc,zeroValue,typeInfo,hi,hz,newVar,newRow,newObj,JY]
 ·refine⟨F.ext hst.fr he,by rw[Act.put_size];exact hst.size,by rw[Act.put_defers];exact hst.defers,λ b hb=>?_,λ s x hs=>?_⟩
  ·rcases hb with hb | hb
   ·exact ax (hst.mok b hb) he.size
   ·injection hb with hb;subst hb;simp
  ·rw[hd];simp only[ae] at hs;by_cases hq:s=d
   ·subst hq;simp at hs;subst hs;rw[Act.at_put_self (by rw[hst.size];exact hN)];exact⟨w.heap.size,Z,Z,z.cells,t,cZ w _,hn⟩
   ·have hb:(s == d)=false:=by simpa using hq
    simp[hb] at hs;rw[Act.at_put_other (λ e=>hq (by injection e with e;exact e.symm))];have h1:=hst.has s x (hp.spec s x hs).1;have h2:x.rd (insO (some w.heap.size) M) w _:=x.weak h1 λ k hk hm=>hm.elim id λ e=>by injection e with e;omega
    exact x.ext h2 he
theorem yU{b:Nat}{cs:Array Value}:w.grownBy (w.setRow b cs) (some b):=
 ⟨Z,Z,Z,by simp,λ k _ hk=>cG w b k cs λ e=>hk (by rw[e])⟩
theorem XV{α:Type}[Rep α]{y:α}(h:(dt y).rd M w v):Rep.rdc M w v.cells.toList y:=by
 obtain⟨cs,hr,hv⟩:=h;rw[hv,Zz hr];exact hr
theorem xy{b:Nat}{cs:List Value}(ht:tyB P t agg cs.length=true)(hv:v.cells.toList=cs)(hb:w.heap[b]?=some (.cells C e (0,0)))(hl:off+cs.length<=C.size)(h1:∀ u∈cs,u.oneCell'=true):
  (storeVar t ⟨b,off,none⟩ v).run P w=.ok () (w.setRow b (C.toList.take off++cs++C.toList.drop (off+cs.length)).toArray):=by
 obtain⟨_,hs,_⟩:=tyB_spec ht;have hsz:v.cells.size=cs.length:=by rw[← hv];simp
 unfold storeVar;simp[hs,hsz,hv];have:=run_storeCells_at (P:=P) b off e cs 0 C w hb (by omega) h1;simpa using this
theorem wpl_storeNew{β:Type}[Rep β]{t p n:Nat}{b:Nat}{y:β}(hst:St F N M L a w)(ho:o.op=.store t (.tmp p) vo)(hg:o.guard=none)(hd:o.dst=none)
   (hn:n=Rep.size β) (hb0:F.Own b) (hMb:M b) (hpl:L.lookup p=some (draw (some b) n)) (hvl:OpdR M (λ s=>L.lookup s) vo (dt y)) (hp:Pick (λ x=>Off x (some b)) L L2)
  (h:∀ w',St F N M ((p,dbox (some b) 0 y)::L2) a w'->wpList P ops Q rest a w')(ht:tyB P t (Rep.agg β) (Rep.size β)=true:=by kernel_rfl):wpList P ops Q (o::rest) a w:=by
 obtain⟨b1,hb1,hpv,C,e,hb,hC⟩:=hst.has p _ hpl;injection hb1 with hb1;subst hb1;have hy:=XV (hvl w a λ s y hs=>hst.has s y hs);have hly:=Rep.len hy;have hrun:=xy (off:=0) (by rw[Rep.len hy];exact ht) Z hb (by omega) (Rep.oneCell hy);generalize hcc:(a.eval vo).cells.toList=c at*;have hgr:w.grownBy (w.setRow b (C.toList.take 0++c++C.toList.drop (0+c.length)).toArray) _:=yU;refine av hg λ K hK=>OpOut.wp (OpOut.of_skip (w':=w.setRow b (C.toList.take 0++c++C.toList.drop (0+c.length)).toArray) ?_ ?_)
 ·unfold execOp;rw[ho];have hpv':a.eval (.tmp p)=.pointer _:=hpv;simp[Instr.storeAt,Instr.sureAddr,hpv',hrun]
 ·rw[hd];refine hK _ _ (h _ ⟨F.own hst.fr (Grown.of_grownBy hgr) (λ k (hk:some b=some k)=>by injection hk with hk;subst hk;exact hb0),hst.size,hst.defers,λ k hk=>ax (hst.mok k hk) hgr.size,λ s z hs=>?_⟩);simp only[ae] at hs;by_cases hq:s=p
  ·subst hq;simp at hs;subst hs;refine⟨b,Z,hpv,_,e,c,ce w b C _ e _ hb,λ j u hj=>?_,Rep.stable hy λ k hk hm=>hgr.block k hk λ e=>?_⟩
   ·have hj':=(ai.1 hj).1;simp;rw[aK hj'];exact hj
   ·injection e with e;subst e;rcases hm with hm | hm
    ·exact hm hMb
    ·cases hm
  ·have hb':(s == p)=false:=by simpa using hq
   simp[hb'] at hs;obtain⟨h1,h2⟩:=hp.spec s z hs;exact Dt.kept (hst.has s z h1) h2 hMb hgr
theorem St.congr(h:St F N M L a w)(hm:∀ b,M' b ↔ M b):St F N M' L a w:=
 ⟨h.fr,h.size,h.defers,λ b hb=>h.mok b ((hm b).1 hb),λ s x hs=>x.weak (h.has s x hs) λ k _ hk=>(hm k).1 hk⟩
theorem ret_box{fn:Func}{α:Type}[Rep α]{t:Nat}{x y:α}(hr:fn.results=#[.cell t ty])(hst:St (Frm.of w0) N M L a w)(hl:L.lookup t=some (dbox g 0 x))(hsub:∀ b,M0 b->M b)(hx:x=y)(ht:tyB P ty (Rep.agg α) (Rep.size α)=true:=by kernel_rfl):
  bodyPost P fn (RetP M0 w0 (dt y)) .ret a w:=
 ret_cell hr ht hst hl λ v h=>by rw[← hx];exact(dt x).weak h λ k _ hk=>hsub k hk
end
section
variable{look:Nat->Option Dt}
variable{α:Type}
theorem zaJ{l:List Oper}(n:Nat)(hst:St F N M L a w)(hs:Seg P M ops N L (l.take n) L')(hp:Pick (λ _=>True) L' L2)(h:∀ a' w',Ext0 w w'->St F N M L2 a' w'->wpList P ops Q (l.drop n) a' w'):wpList P ops Q l a w:=by
 have:=zal (rest:=l.drop n) (Q:=Q) hs hst (λ a' w' he hst'=>h a' w' he (hst'.pick hp));simp_all
def OpdR2(M M0:Nat->Prop)(look:Nat->Option Dt)(opd:Operand)(x:Dt):Prop:=
 ∀ (w:World) (a:Act),(∀ s y,look s=some y->y.rd M w (Act.at a s))->x.rd M0 w (a.eval opd)
theorem xf{x:Dt}(hsub:∀ b,M0 b->M b)(h:OpdR M look opd x):OpdR2 M M0 look opd x:=λ w a hl=>x.weak (h w a hl) λ k _ hk=>hsub k hk
theorem opd2_tip[Rep α]{xs:List α}(hsub:∀ b,M0 b->M b)(htip:TipOK F M0 g)(h:OpdR M look opd (dtip g e xs)):OpdR2 M M0 look opd (dt xs):=
 λ w a hl=>Jg (h w a hl) (λ b _ hb=>hsub b hb) λ b hg=>(htip b hg).2
inductive ArgsR2 (M M0:Nat->Prop) (look:Nat->Option Dt):List Operand->List Dt->Prop
 | nil:ArgsR2 M M0 look [] []
 | cons {opd:Operand} {x:Dt} {l:List Operand} {xs:List Dt} (h:OpdR2 M M0 look opd x) (r:ArgsR2 M M0 look l xs):ArgsR2 M M0 look (opd::l) (x::xs)
theorem ArgsR2.all(h:ArgsR2 M M0 look l xs)(hl:∀ s y,look s=some y->y.rd M w (Act.at a s)):RdAll M0 w (l.map a.eval) xs:=by
 induction h with
 | nil=>exact .nil
 | cons h r ih=>exact .cons (h w a hl) ih
def Flat(x:Dt):Prop:=∀ (M M':Nat->Prop) (w:World) (v:Value),x.rd M w v->x.rd M' w v
theorem jK{n:Int}:Flat (dt n):=λ _ _ _ _ h=>yx.2 (yx.1 h)
theorem ZA:Flat (dt b):=λ _ _ _ _ h=>xE.2 (xE.1 h)
theorem flat_str{s:Str}:Flat (dt s):=λ _ _ _ _ h=>xT.2 (xT.1 h)
theorem yV{y:Dt}(hsub:∀ b,M0 b->M b)(ho:o.op=.call { callee:=.value (.func f),args:=l.toArray,argTypes:=ts })(hx:ArgsR2 M M0 look l xs)(h:Fn P f xs y)(hy:Flat y)(hf:fnB P f=true:=by kernel_rfl):OpRel P M look o y:=
 λ a w hm hl=>by
  refine OpOut.of_enter (f:=f) (args:=(l.map a.eval).toArray) (w':=w) ?_ ?_
  ·unfold execOp;rw[ho];have e:a.eval (.func f)=.func (.func f) #[] #[]:=rfl;simp[resolve,e,Deferred.ofValue,invoke,xX hf]
  ·exact(h M0 w _ (λ b hb=>hm b (hsub b hb)) (hx.all hl)).mono λ e w' ⟨v,he,hx,hr⟩=>⟨v,he,hx,hy _ _ _ _ hr⟩
theorem yv{fn:Func}[Rep α]{t:Nat}{x y:α}(hr:fn.results=#[.tmp t])(hst:St (Frm.of w0) N M' L a w)(hl:L.lookup t=some (dt x))(hx:x=y)(hsub:∀ b,M b->M' b:=by exact λ _ h=>h):bodyPost P fn (RetP M w0 (dt y)) .ret a w:=
 zc3 hr hst hl λ v h=>by rw[← hx];exact(dt x).weak h λ k _ hk=>hsub k hk
def FnOwn{α:Type}[Rep α](P:Program)(f:FuncId)(xs:List Dt)(e:TypeId)(y:List α):Prop:=
 ∀
  (M:Nat->Prop) (w:World) (vs:List Value),(∀ b,M b->b<w.heap.size)->RdAll M w vs xs->
  Calls P f vs.toArray w (λ en w'=>∃ v g,en=.returned v/\Ext0 w w'/\(∀ b,g=some b->w.heap.size<=b/\b<w'.heap.size)/\(dtip g e y).rd (insO g M) w' v)
theorem FnOwn.fn[Rep α]{y:List α}(h:FnOwn P f xs e y):Fn P f xs (dt y):=λ M w vs hm hr=>
 (h M w vs hm hr).mono λ _ _ ⟨v,_,he,hx,hg,hv⟩=>⟨v,he,hx,Jg hv (λ b _ hb=>.inl hb) λ b hb hMb=>by
  have:=hm b hMb;have:=(hg b hb).1;omega⟩
end
def Frm.take(w0:World)(g:Option Nat):Frm where
 J w:=w0.grownBy w g
 Own b:=g=some b\/w0.heap.size<=b
 ext h k:=h.trans ⟨k.os,k.tape,k.output,k.size,λ i hi _=>k.block i hi⟩
 own h hg hb:=⟨hg.os.trans h.os,hg.tape.trans h.tape,hg.output.trans h.output,aQ h.size hg.size,λ i hi hne=>(hg.block i (ax hi h.size) (λ e=>by
  rcases hb i e with h1 | h1
  ·exact hne h1.symm
  ·omega)).trans (h.block i hi hne)⟩
 fresh h _ hb:=.inr (aQ h.size hb)
section
variable{α:Type}[Rep α]
def zcE(P:Program)(f:FuncId)(e:TypeId)(xs:List α)(rest:List Dt)(ys:List α):Prop:=
 ∀
  (M0:Nat->Prop) (g:Option Nat) (w:World) (v:Value) (vs:List Value),(∀ b,insO g M0 b->b<w.heap.size)->(∀ b,g=some b->¬ M0 b)->(dtip g e xs).rd (insO g M0) w v->RdAll (insO g M0) w vs rest->
  Calls P f (v::vs).toArray w (λ en w'=>∃ v' g',en=.returned v'/\w.grownBy w' g/\(g'=g\/∀ b,g'=some b->w.heap.size<=b)/\(∀ b,g'=some b->b<w'.heap.size)/\(dtip g' e ys).rd (insO g' M0) w' v')
def RetT(e:TypeId)(M0:Nat->Prop)(w0:World)(g:Option Nat)(ys:List α):Ending->World->Prop:=λ en w'=>
 ∃ v' g',en=.returned v'/\w0.grownBy w' g/\(g'=g\/∀ b,g'=some b->w0.heap.size<=b)/\(∀ b,g'=some b->b<w'.heap.size)/\(dtip g' e ys).rd (insO g' M0) w' v'
theorem RdAll.nth:∀ {vs:List Value} {xs:List Dt},RdAll M w vs xs->∀ (i s:Nat) (x:Dt),(zK i xs).lookup s=some x->∃ j v,s=i+j/\vs[j]?=some v/\x.rd M w v:=by
 intro vs xs hr
 induction hr with
 | nil=>intro i s x h;simp[zK] at h
 |cons h r ih=>
  rename_i v x' vs xs;intro i s x hs;simp only[zK,ae] at hs;by_cases he:s=i
  ·subst he;simp at hs;subst hs;exact⟨0,v,Z,Z,h⟩
  ·have hb:(s == i)=false:=by simpa using he
   simp[hb] at hs;obtain⟨j,u,h1,h2,h3⟩:=ih _ s x hs;exact⟨j+1,u,by omega,by simpa using h2,h3⟩
theorem RdAll.len:∀ {vs:List Value} {xs:List Dt},RdAll M w vs xs->vs.length=xs.length:=by
 intro vs xs hr
 induction hr with
 | nil=>rfl
 | cons _ _ ih=>simp[ih]
theorem ze8{fn:Func}{c:Code}{xs ys:List α}{rest:List Dt}(hf:P.funcs[f]?=some fn)(hb:fn.body=some c)(hn:rest.length+1<=fn.ntmps)
  (h:∀ (M0:Nat->Prop) (g:Option Nat) (w:World) (a:Act),TipOK (Frm.take w g) M0 g->(∀ b,M0 b->b<w.heap.size)->St (Frm.take w g) fn.ntmps (insO g M0) (zK 0 (dtip g e xs::rest)) a w->c.wp P (bodyPost P fn (RetT e M0 w g ys)) a w):zcE P f e xs rest ys:=by
 intro M0 g w v vs hm hg hv hr;have hra:RdAll _ w (v::vs) _:=.cons hv hr;refine cP hf hb (h M0 g w _ (λ b hb=>⟨.inl hb,hg b hb⟩) (λ b hb=>hm b (.inl hb)) ?_);have hl:=hra.len;refine⟨cM _ _,by simp at hl ⊢;omega,Z,hm,λ s x hs=>?_⟩;obtain⟨j,u,h1,h2,h3⟩:=hra.nth 0 s x hs;have h4:Act.at { tmps:=(v::vs).toArray++Array.replicate (fn.ntmps - (v::vs).toArray.size) undef,defers:=[] } s=u:=by
  have hj:=(ai.1 h2).1;have h5:(v::vs).toArray[j]?=some u:=by simpa using h2
  have hj':j<(v::vs).toArray.size:=by simpa using hj
  have:s=j:=by omega
  subst this;simp[Act.at];rw[aV hj',h5];rfl
 rw[h4];exact h3
variable{look:Nat->Option Dt}
theorem ret_take{fn:Func}{t:Nat}{x y:List α}(hr:fn.results=#[.tmp t])(hfr:F=Frm.take w0 g)(htip:TipOK F M0 g')(hsub:∀ b,insO g' M' b->insO g' M0 b)(hst:St F N (insO g' M0) L a w)(hl:L.lookup t=some (dtip g' e x))(hx:x=y):
  bodyPost P fn (RetT e M' w0 g y) .ret a w:=by
 subst hfr hx;refine⟨hst.defers,_,cQ hr a.tmps P w,_,g',Z,hst.fr,?_,λ b hb=>hst.mok b (.inr hb),(dtip g' e x).weak (hst.has t _ hl) λ k _ hk=>hsub k hk⟩;cases g' with
 | none=>exact .inr λ b hb=>by cases hb
 |some b=>
  rcases(htip b rfl).1 with h | h
  ·exact .inl h.symm
  ·exact .inr λ k hk=>by injection hk with hk;omega
def RetO(e:TypeId)(M:Nat->Prop)(w:World)(y:List α):Ending->World->Prop:=λ en w'=>
 ∃ v g,en=.returned v/\Ext0 w w'/\(∀ b,g=some b->w.heap.size<=b/\b<w'.heap.size)/\(dtip g e y).rd (insO g M) w' v
theorem own_of_wp{fn:Func}{c:Code}{y:List α}(hf:P.funcs[f]?=some fn)(hb:fn.body=some c)(hn:xs.length<=fn.ntmps)
  (h:∀ (M:Nat->Prop) (w:World) (a:Act),(∀ b,M b->b<w.heap.size)->St (Frm.of w) fn.ntmps M (zK 0 xs) a w->c.wp P (bodyPost P fn (RetO e M w y)) a w):FnOwn P f xs e y:=by
 intro M w vs hm hr;refine cP hf hb (h M w _ hm ?_);have hl:=hr.len;refine⟨dS _ _,by simp;omega,Z,hm,λ s x hs=>?_⟩;obtain⟨j,u,h1,h2,h3⟩:=hr.nth 0 s x hs;have h4:Act.at { tmps:=vs.toArray++Array.replicate (fn.ntmps - vs.toArray.size) undef,defers:=[] } s=u:=by
  have hj:=(ai.1 h2).1;have h5:vs.toArray[j]?=some u:=by simpa using h2
  have hj':j<vs.toArray.size:=by simpa using hj
  have:s=j:=by omega
  subst this;simp[Act.at];rw[aV hj',h5];rfl
 rw[h4];exact h3
theorem tip_cut{xs:List α}{n c:Nat}(h:(dtip g e xs).rd M w (.slice A n c))(hj:j<=xs.length):(dtip g e (xs.take j)).rd M w (.slice A j c):=by
 have hlen:(xs.take j).length=j:=by simp;omega
 rcases h with⟨cells,hown,hrow,hb⟩ | ⟨hg,hx,B,hv⟩
 ·rcases hown.2 with⟨h1,h2⟩ | ⟨b,cap,cur,h1,h2,h3,h4,h5,h6,h7⟩
  ·have:j=0:=by omega
   subst this;injection h1 with e1 e2 e3;subst e1 e3;exact .inr ⟨by rw[← hb];rfl,by simp,none,Z⟩
  ·injection h1 with e1 e2 e3;subst e1 e3;refine .inl ⟨cells.take _,⟨?_,.inr ⟨b,c,cur,by rw[hlen],h2,h3,by omega,h5,h6,?_⟩⟩,WG j hj hrow,hb⟩
   ·rw[hlen,aI,hown.1,bq (aG _ hj)]
   ·rw[hlen,← h7,cm,bq (aG _ hj)]
 ·injection hv with e1 e2 e3;subst e1 e3;subst hx;have:j=0:=by simpa using hj
  subst this;exact .inr ⟨hg,Z,_,Z⟩
theorem zc4{i:Operand}{xs:List α}{x:α}(ho:o.op=.indexAddr t s i)(ht':slB P t (Rep.size α)=true)(hs:OpdR M look s (dtip g e xs))(hi:OpdR M look i (dt m))(hm:m=(k:Int))
  (hx:xs[k]?=some x):OpRel P M look o (dbox g (k*Rep.size α) x):=by subst hm;exact op_indexTip ho ht' hs hi hx
def drow(g:Option Nat)(ys:List α):Dt where
 rd M w v:=∃ A c,v=.slice A ys.length c/\(ys=[]\/∃ b off cells,A=some ⟨b,off,none⟩/\g=some b/\CellsAt w b off cells/\rowR M w cells ys/\b<w.heap.size)
 own:=oneB g
 nb:=false
 nob h:=by cases h
 stable:=λ{M w w' v} ⟨A,c,hv,h⟩ k=>⟨A,c,hv,h.imp _root_.id λ⟨b,off,cells,hA,hg,hc,hr,hlt⟩=>by
  have hb:w'.heap[b]?=w.heap[b]?:=k b hlt (.inr hg);refine⟨b,off,cells,hA,hg,λ j u hj=>?_,Z4 k.mono hr,?_⟩
  ·rw[World.cell?_of_block (w:=w) (a:=⟨b,off+j,none⟩) hb];exact hc j u hj
  ·rw[aq hlt] at hb;exact(aD.1 hb).1⟩
 weak:=λ⟨A,c,hv,h⟩ k=>⟨A,c,hv,h.imp _root_.id λ⟨b,off,cells,hA,hg,hc,hr,hlt⟩=>⟨b,off,cells,hA,hg,hc,wE k hr,hlt⟩⟩
theorem row_row{ys:List α}:IsRow (drow g ys) ys:=λ _ _ _ ⟨A,c,hv,h⟩=>⟨A,c,hv,h.imp _root_.id λ⟨b,off,cells,hA,_,hc,hr,_⟩=>⟨b,off,cells,hA,hc,hr⟩⟩
theorem tip_slice{xs:List α}(h:(dtip g e xs).rd M w v):∃ A c,v=.slice A xs.length c/\xs.length<=c:=by
 rcases h with⟨cells,hown,_,_⟩ | ⟨_,hx,B,hv⟩
 ·rcases hown.2 with⟨h1,h2⟩ | ⟨b,cap,cur,h1,_,_,h4,_⟩
  ·exact⟨none,0,by rw[h1,h2],by omega⟩
  ·exact⟨_,cap,h1,h4⟩
 grind
theorem op_sliceHT{xs:List α}{n:Int}(ho:o.op=.slice t s none (some h) none)(hs:OpdR M look s (dtip g e xs))(hh:OpdR M look h (dt n))(hn:n=(j:Int))
  (h2:j<=xs.length)(ht':slB P t (Rep.size α)=true:=by kernel_rfl):OpRel P M look o (dtip g e (xs.take j)):=
 zC λ a w _ hk=>by
  subst hn;obtain⟨e',ht⟩:=jJ ht';obtain⟨A,c,hv,hc⟩:=tip_slice (hs w a hk);have hrun:=WH ht A xs.length c none (some (j:Int)) (h1:=(cz _)) (by simp) (by simp;omega) w;simp at hrun;have hA:(if c=0 then A else A.map (·.add 0))=A:=by
   split
   ·rfl
   ·cases A with
    | none=>rfl
    |some ad=>
     have:ad.add 0=ad:=by unfold Addr.add;simp
     simp[this]
  rw[hA] at hrun;have h3:=hs w a hk;rw[hv] at h3;refine⟨.slice A j c,?_,tip_cut h3 h2⟩;unfold execOp;rw[ho];simp[hv,yx.1 (hh w a hk),hrun]
theorem op_sliceLT{l:Operand}{xs:List α}{n:Int}(ho:o.op=.slice t s (some l) none none)(hs:OpdR M look s (dtip g e xs))(hl:OpdR M look l (dt n))(hn:n=(i:Int))
  (h2:i<=xs.length)(ht':slB P t (Rep.size α)=true:=by kernel_rfl):OpRel P M look o (drow g (xs.drop i)):=
 zC λ a w _ hk=>by
  subst hn;obtain⟨e',ht⟩:=jJ ht';obtain⟨A,c,hv,hc⟩:=tip_slice (hs w a hk);have hrun:=WH ht A xs.length c (some (i:Int)) none (by simp;omega) (by simp;omega) w;simp at hrun;have h3:=hs w a hk;have hlen:(xs.drop i).length=xs.length - i:=by simp
  refine⟨.slice (if c=i then A else A.map (·.add (i*Rep.size α))) _ (c - i),?_,_,_,by rw[hlen],?_⟩
  ·unfold execOp;rw[ho];simp[hv,yx.1 (hl w a hk),hrun]
  ·by_cases hi:i=xs.length
   ·left;rw[hi];simp
   ·right
    rcases h3 with⟨cells,hown,hrow,hb⟩ | ⟨_,hx,_⟩
    ·rcases hown.2 with⟨h1,h2'⟩ | ⟨b,cap,cur,h1,h2',h3',h4,h5,h6,h7⟩
     ·omega
     ·rw[hv] at h1;injection h1 with e1 e2 e3;subst e1 e3;rw[Kd (by omega)];refine⟨b,0+i*Rep.size α,cells.drop _,by simp[jq],by rw[← hb,hv];rfl,λ q u hq=>?_,WF i h2 hrow,xG h3'⟩;rw[bJ] at hq;have:=hown.cells (by rw[hv];rfl) _ u hq;rw[jq] at this;rw[aB] at this ⊢;exact this
    ·exfalso;subst hx;simp at h2;exact hi (by simp[h2])
theorem off_none{x:Dt}:Off x none:=λ _ h=>by cases h
theorem swap_tip:∀ b,insO g (insO g2 M) b ↔ insO g2 (insO g M) b:=λ b=>by unfold insO;constructor <;> (rintro ((h | h) | h) <;> simp[h])
theorem TipOK.apart(h:TipOK F M0 g)(k:TipOK F (insO g M0) g2):TipOK F (insO g2 M0) g:=λ b hb=>⟨(h b hb).1,λ hm=>hm.elim (h b hb).2 λ h2=>(k b h2).2 (.inr hb)⟩
theorem own_apart{xs:List α}(k:TipOK F (insO g M0) g2):Off (dtip g2 e xs) g:=λ b hb h=>(k b h).2 (.inr hb)
def fldVB(P:Program)(t:TypeId)(f off:Nat)(agg:Bool)(size:Nat):Bool:=
 match P.underlying t with
 |some (.struct fs)=>match fs[f]? with
  | some fl=>fl.offset == off&&tyB P fl.type agg size
  | none=>false
 | _=>false
theorem run_part{size:Nat}{cs:List Value}(ht:tyB P t agg size=true)(hl:c.length=size)(h1:agg=false->size=1)(h:∀ j u,c[j]?=some u->cs[off+j]?=some u):(part t cs.toArray off).run P w=.ok (mkv agg c) w:=by
 obtain⟨h2,h3,_⟩:=tyB_spec ht;unfold part;simp[h2];cases agg with
 |false=>
  have hc:c.length=1:=by rw[hl];exact h1 Z
  obtain⟨u,rfl⟩:=List.length_eq_one_iff.1 hc;have:=h 0 u Z;simp at this;simp[this,mkv]
 |true=>
  simp only[bI,h3,ah,mkv]
  congr 2
  apply Array.ext';rw[← hl];apply aX;intro j;rcases aR j c.length with hj | hj
  ·have:=h j c[j] (aa hj);simp[hj,this]
  ·rw[bp hj];simp only[];rw[bp];simp;omega
theorem op_fieldV{α β:Type}[Rep α][Rep β]{v:Operand}{f:Nat}{x:α}{get:α->β}(fl:Fld get off)(ho:o.op=.field t v f)(ha:Rep.agg α=true)(hv:OpdR M look v (dt x))(ht:fldVB P t f off (Rep.agg β) (Rep.size β)=true:=by kernel_rfl):OpRel P M look o (dt (get x)):=
 zC λ a w _ hl=>by
  obtain⟨cs,hr,hval⟩:=hv w a hl;obtain⟨c,hc,hr'⟩:=fl.sub hr;refine⟨mkv _ c,?_,c,hr',Z⟩;unfold fldVB at ht;split at ht
  ·rename_i fs hfs;split at ht
   ·rename_i q hq;simp at ht;obtain⟨rfl,ht⟩:=ht;unfold execOp;rw[ho];simp[hval,mkv,ha,Instr.field,aw hfs,hq,asAgg,run_part ht (Rep.len hr') Rep.one hc]
   ·cases ht
  ·cases ht
end
theorem zaY{z:Array Value}(hz:0<z.size)(n:Nat):(madeCells z ((n+1)*z.size)).toList=(madeCells z (n*z.size)).toList++z.toList:=by
 apply aX;intro j;have hs:(n+1)*z.size=n*z.size+z.size:=bS ..;have hc:z.size*n=n*z.size:=Nat.mul_comm ..;rw[hs];generalize hm:n*z.size=m at*;rcases aR j m with h | h
 ·rw[aK (by simpa[madeCells] using h)];simp[madeCells,h,show j<m+z.size by omega]
 ·rw[aH (by simpa[madeCells] using h)];simp only[aP,size_madeCells];rcases aR (j - m) z.size with h1 | h1
  ·have h2:j % z.size=j - m:=by
    have e:j=(j - m)+z.size*n:=by omega
    rw[e,Nat.add_mul_mod_self_left,Nat.mod_eq_of_lt h1];omega
   simp[madeCells,show j<m+z.size by omega,h2,h1]
  ·rw[bp (by simp[madeCells];omega),bp (by simp;omega)]
section
variable{α:Type}[Rep α]{look:Nat->Option Dt}
theorem row_made{z:Array Value}{d:α}(hz:∀ (M:Nat->Prop) (w:World),Rep.rdc M w z.toList d)(n:Nat):rowR M w (madeCells z (n*Rep.size α)).toList (List.replicate n d):=by
 have hsz:z.size=Rep.size α:=by have:=Rep.len (hz M w);simpa using this
 induction n with
 | zero=>simp[madeCells,rowR]
 |succ n ih=>rw[← hsz] at ih ⊢;rw[zaY (by rw[hsz];exact Rep.pos),List.replicate_succ'];exact qO ih (rowR_one (hz M w))
def zeroCells(P:Program)(e:TypeId):Option (List Value):=((P.info? e).bind (·.zero)).map (·.cells.toList)
theorem take_put{l:List Value}{n:Nat}(hn:n<=l.length)(h:off+c.length<=n):(l.take off++c++l.drop (off+c.length)).take n=(l.take n).take off++c++(l.take n).drop (off+c.length):=by
 have e1:(l.take off).length=off:=by simp;omega
 have e2:(l.take off++c).length=off+c.length:=by rw[ap,e1]
 rw[cg,aJ (by omega),e2,cm,bq (by omega),cS]
end
