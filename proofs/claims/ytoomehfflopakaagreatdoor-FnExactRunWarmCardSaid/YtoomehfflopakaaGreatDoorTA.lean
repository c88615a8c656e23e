import Derived.WalkKit
import Derived.KernelRfl
import Derived.OwnWalk
import Derived.Maps.AppendAt
import Derived.Laws.AppendOwnNone
import Derived.Laws.CopyRow
import Derived.ArgAppend
import Derived.Laws.OwnMore
namespace Go.Proofs.YtoomehfflopakaaGreatDoor
abbrev aa:=@List.getElem?_eq_getElem
abbrev ab:=@decide_eq_true
abbrev ac:=@Bool.and_eq_true
abbrev ae:=@List.mem_of_getElem?
abbrev af:=@List.lookup_cons
abbrev ah:=@Go.Result.andThen_ok
abbrev ai:=@List.getElem?_eq_some_iff
abbrev aj:=@List.mem_cons
abbrev ak:=@Int.toNat_natCast
abbrev al:=@Nat.le_refl
abbrev am:=@List.all_eq_true
abbrev an:=@Array.getElem?_eq_getElem
abbrev ao:=@List.length_append
abbrev ap:=@Go.Sem.run_bind
abbrev aq:=@Nat.zero_le
abbrev ar:=@Go.Sem.run_pure
abbrev au:=@List.eq_nil_of_length_eq_zero
abbrev av:=@Go.wpList_plain
abbrev aw:=@List.getElem?_take
abbrev ax:=@Go.run_underlying
abbrev ay:=@Nat.lt_of_lt_of_le
abbrev az:=@Go.wp_skip
abbrev aA:=@List.mem_range
abbrev aB:=@Array.getElem?_eq_some_iff
abbrev aC:=@Int.eq_ofNat_of_zero_le
abbrev aD:=@Nat.zero_add
abbrev aE:=@List.append_assoc
abbrev aF:=@List.not_mem_nil
abbrev aG:=@List.getElem?_set_ne
abbrev aH:=@List.mem_singleton
abbrev aI:=@List.getElem?_set_self
abbrev aJ:=@List.length_take
abbrev aK:=@Nat.mul_le_mul_right
abbrev aL:=@List.getElem?_append_right
abbrev aM:=@List.take_of_length_le
abbrev aN:=@List.getElem?_append_left
abbrev aO:=@List.append_nil
abbrev aP:=@Bool.false_eq_true
abbrev aQ:=@List.take_length
abbrev aR:=@List.getElem?_of_mem
abbrev aS:=@Nat.le_trans
abbrev aT:=@Nat.lt_or_ge
abbrev aU:=@List.findIdx?_eq_some_iff_getElem
abbrev aV:=@List.take_append_drop
abbrev aW:=@List.length_cons
abbrev aX:=@Go.wp_block
abbrev aY:=@Array.length_toList
abbrev aZ:=@List.ext_getElem?
abbrev ba:=@List.getElem_mem
abbrev bb:=@List.nil_append
abbrev bc:=@Array.getElem?_append_left
abbrev bd:=@beq_self_eq_true
abbrev be:=@List.getElem?_map
abbrev bf:=@List.length_set
abbrev bg:=@List.mem_append
abbrev bh:=@List.getElem?_eq_none
abbrev bi:=@List.mem_map
abbrev bj:=@List.set_set
abbrev bo:=@List.length_range
abbrev bp:=@List.take_add_one
abbrev bq:=@List.length_singleton
abbrev br:=@Ne.symm
abbrev bt:=@List.drop_eq_getElem_cons
abbrev bu:=@congrArg
abbrev bv:=@if_true
abbrev bz:=@Nat.min_eq_left
abbrev bA:=@Bool.true_and
abbrev bB:=@decide_eq_true_eq
abbrev bC:=@List.findIdx?_eq_none_iff
abbrev bD:=@List.mem_cons_of_mem
abbrev bE:=@List.drop_of_length_le
abbrev bF:=@List.mem_cons_self
abbrev bG:=@List.cons_append
abbrev bH:=@List.contains_iff_mem
abbrev bI:=@or_false
abbrev bJ:=@Nat.add_assoc
abbrev bK:=@Bool.or_eq_true
abbrev bL:=@List.getElem?_drop
abbrev bM:=@of_decide_eq_false
abbrev bN:=@Int.toNat_of_nonneg
abbrev bO:=@List.drop_drop
abbrev bP:=@List.foldl_cons
abbrev bQ:=@Array.getElem?_eq_none
abbrev bR:=@List.drop_zero
abbrev bS:=@List.any_eq_false
abbrev bT:=@Bool.eq_iff_iff
abbrev bU:=@List.length_map
abbrev bV:=@Option.some.inj
abbrev bW:=@Go.Code.wp_mono
abbrev bX:=@List.drop_length
abbrev bY:=@Nat.succ_mul
abbrev bZ:=@List.drop_left
abbrev ca:=@List.take_zero
abbrev cb:=@Option.bind_eq_some_iff
abbrev cd:=@if_false
abbrev ce:=@Array.getD_eq_getD_getElem?
abbrev cg:=@List.toList_toArray
abbrev ch:=@Go.wp_exit
abbrev ci:=@List.drop_eq_nil_of_le
abbrev cj:=@Nat.mul_one
abbrev ck:=@Go.setRow_heap
abbrev cl:=@List.take_append
abbrev cm:=@List.mem_take_iff_getElem
abbrev co:=@List.getElem?_range
abbrev cp:=@Bool.false_and
abbrev cr:=@List.any_eq_true
abbrev ct:=@List.take_take
abbrev cu:=@Int.le_trans
abbrev cv:=@Nat.sub_self
abbrev cw:=@List.getElem?_toArray
abbrev cx:=@List.length_nil
abbrev cz:=@List.length_replicate
abbrev cA:=@List.getD_eq_getElem?_getD
abbrev cC:=@Bool.not_eq_true'
abbrev cF:=@List.mem_or_eq_of_mem_set
abbrev cG:=@Int.le_refl
abbrev cH:=@Go.mem_ready
abbrev cJ:=@List.map_map
abbrev cK:=@Nat.add_comm
abbrev cL:=@Go.setRow_other
abbrev cM:=@List.map_cons
abbrev cO:=@Nat.lt_irrefl
abbrev cP:=@List.eq_nil_iff_forall_not_mem
abbrev cQ:=@List.mem_filter
abbrev cR:=@Go.World.grownBy.refl
abbrev cS:=@decide_eq_false
abbrev cU:=@Go.calls_of_wp
abbrev cV:=@Go.results_tmp
abbrev cW:=@List.flatten_cons
abbrev cX:=@Array.getElem?_toList
abbrev cY:=@List.drop_take
abbrev cZ:=@List.set_append_right
abbrev c9:=@List.singleton_append
abbrev da:=@List.take_left
abbrev db:=@Go.heap_alloc_new
abbrev dc:=@List.mem_of_mem_take
abbrev dd:=@Bool.false_or
abbrev de:=@Go.ByteArray.toList_eq
abbrev df:=@List.length_zipWith
abbrev dg:=@List.replicate_succ
abbrev dh:=@List.pairwise_iff_getElem
abbrev di:=@List.take_left'
abbrev dj:=@Nat.add_sub_cancel
abbrev dk:=@Option.isSome_iff_exists
abbrev dl:=@List.lt_irrefl
abbrev dm:=@List.filter_cons_of_neg
abbrev dn:=@List.filter_cons_of_pos
abbrev dp:=@List.getElem?_singleton
abbrev dq:=@List.length_eq_zero_iff
abbrev du:=@Nat.add_sub_cancel_left
abbrev dv:=@Nat.le_mul_of_pos_right
abbrev dw:=@decide_eq_false_iff_not
abbrev dx:=@Nat.add_mul
abbrev dy:=@Option.map_eq_some_iff
abbrev dz:=@Bool.not_true
abbrev dA:=@List.lt_trans
abbrev dB:=@Array.all_eq_true_iff_forall_mem
abbrev dD:=@List.drop_append
abbrev dE:=@List.flatten_nil
abbrev dF:=@List.length_drop
abbrev dG:=@List.take_succ_eq_append_getElem
abbrev dH:=@Nat.le_add_right
abbrev dI:=@Option.getD_some
abbrev dJ:=@Go.World.cell?_alloc_new
abbrev dK:=@Array.getElem?_setIfInBounds_ne
abbrev dL:=@List.lookup_nil
abbrev dM:=@Nat.eq_of_testBit_eq
abbrev dN:=@Nat.zero_mul
abbrev dO:=@Option.map_some
abbrev dP:=@Sum.elim_inl
abbrev dQ:=@getElem!_pos
abbrev dR:=@Go.run_append_arg_grows
abbrev dS:=@List.getElem?_zipWith_eq_some
abbrev dT:=@Array.getElem?_push
abbrev dU:=@Array.getElem?_setIfInBounds
abbrev dV:=@List.foldl_map
abbrev dW:=@Nat.testBit_or
abbrev dX:=@Go.run_part_plain
abbrev dY:=@Bool.not_eq_false'
abbrev dZ:=@List.set_cons_zero
abbrev d8:=@Nat.eq_zero_or_pos
abbrev d9:=@LawfulBEq.eq_of_beq
abbrev ea:=@List.all_eq_false
abbrev eb:=@List.size_toArray
abbrev ee:=@Nat.lt_trichotomy
abbrev eh:=@Go.RowKit.Below.refl
abbrev ei:=@Bool.or_true
abbrev ek:=@Eq.trans
abbrev el:=@List.map_set
abbrev eo:=@Nat.add_zero
abbrev ep:=@Option.getD_none
abbrev eq:=@List.map_append
abbrev er:=@List.nodup_cons
abbrev eu:=@List.range_succ
abbrev ev:=@List.zipIdx_map
abbrev ew:=@Nat.le_antisymm
variable{a a0:Act}{K:Act->World->Prop}{listed:Array Bool}{ops:Array Oper}{ts:Array TypeId}{C args:Array Value}{op:BinOp}{agg b b2 d:Bool}{Q:Exit->Act->World->Prop}{f:FuncId}{m:Int}{S:List (List (Nat×Option Nat))}{zs:List (List Value)}{E ns:List Nat}{rest:List Oper}{l opds:List Operand}{c:List Value}{N bytes i j k off sz:Nat}{place:Nat->Option (Nat×Nat)}{G G' M M' M0:Nat->Prop}{ob:Obj}{o:Oper}{h opd p s vo x y:Operand}{A:Option Addr}{g g' g2:Option Nat}{P:Program}{e t t' ty:TypeId}{ti:TypeInfo}{u v:Value}{w w' w0 w1:World}
theorem oD {p:Prop} [Decidable p] (h : decide p = true) : p := of_decide_eq_true h
open Go.RowKit
theorem Z{α:Sort _}{a:α}:a=a:=rfl
theorem Ka{id:Nat}(h:wpList P ops Q ops.toList a w):Code.wp P (Code.region id ops false) Q a w:=wp_region_list h
theorem Kb(h:Q .normal a w):wpList P ops Q [] a w:=wpList_nil h
theorem Kc{x y:Code}(h:Code.wp P x (Exit.then (Code.wp P y Q) Q) a w):Code.wp P (x.seq y) Q a w:=wp_seq h
theorem Kd{α:Type _}{β:Type _}(a:α)(f:α->Option β):(some a).bind f=f a:=rfl
theorem Ke{c:Prop}{_:Decidable c}(h:c){α:Sort _}{t e:α}:(if c then t else e)=t:=if_pos h
theorem Kf{c:Prop}{_:Decidable c}(h:¬c){α:Sort _}{t e:α}:(if c then t else e)=e:=if_neg h
theorem Kz{α:Sort _}{x y:α}:(if false=true then x else y)=y:=if_neg (by decide)
theorem FN{α:Type _}{P:α->Prop}:∀ p∈([]:List α),P p:=by
 intro p h;cases h
theorem FA{α:Type _}{P:α->Prop}{x:α}{l:List α}(h:P x)(k:∀ p∈l,P p):∀ p∈x::l,P p:=List.forall_mem_cons.2 ⟨h,k⟩
abbrev fy(w w':World):Prop:=Below w.heap.size w w'
theorem fy.trans{a b c:World}(h:fy a b)(k:fy b c):fy a c:=Below.trans h (k.mono h.size)
theorem fy.refl(w:World):fy w w:=eh _ _
theorem fy.under{a b:World}(h:Below w0.heap.size w0 a)(k:fy a b):Below w0.heap.size w0 b:=h.trans (k.mono h.size)
theorem fy.drawn(w:World)(n:Nat):fy w { w with drawn:=n }:=⟨Z,Z,Z,al _,λ _ _=>Z⟩
theorem fy.alloc(w:World)(o:Obj):fy w (w.alloc o):=(eh _ _).alloc (al _) o
def kA(M:Nat->Prop)(own:Nat->Prop)(w w':World):Prop:=∀ k,k<w.heap.size->(¬ M k\/own k)->w'.heap[k]?=w.heap[k]?
def noB:Nat->Prop:=λ _=>False
def eA(g:Option Nat):Nat->Prop:=λ b=>g=some b
structure Grown(G:Nat->Prop)(w w':World):Prop where
 os:w'.os=w.os
 tape:w'.tape=w.tape
 output:w'.output=w.output
 size:w.heap.size<=w'.heap.size
 block:∀ k,k<w.heap.size->¬ G k->w'.heap[k]?=w.heap[k]?
theorem Grown.lJ(h:w.grownBy w' g):Grown (eA g) w w':=⟨h.os,h.tape,h.output,h.size,λ k hk hn=>h.block k hk λ e=>hn e.symm⟩
theorem Grown.kW(h:fy w w'):Grown noB w w':=⟨h.os,h.tape,h.output,h.size,λ k hk _=>h.block k hk⟩
theorem Grown.mono(h:Grown G w w')(hs:∀ b,G b->G' b):Grown G' w w':=⟨h.os,h.tape,h.output,h.size,λ k hk hn=>h.block k hk λ e=>hn (hs k e)⟩
theorem Grown.refl(G:Nat->Prop)(w:World):Grown G w w:=⟨Z,Z,Z,al _,λ _ _ _=>Z⟩
theorem Grown.trans{G G':Nat->Prop}{a b c:World}(h:Grown G a b)(k:Grown G' b c)(hs:∀ n,n<a.heap.size->G' n->G n):Grown G a c:=
 ⟨k.os.trans h.os,k.tape.trans h.tape,k.output.trans h.output,aS h.size k.size,λ n hn hg=>(k.block n (ay hn h.size) λ e=>hg (hs n hn e)).trans (h.block n hn hg)⟩
theorem kA.kW{own:Nat->Prop}(h:fy w w'):kA M own w w':=λ k hk _=>h.block k hk
structure Dt where
 rd:(Nat->Prop)->World->Value->Prop
 own:Nat->Prop
 nb:Bool
 nob:nb=true->∀ b,¬ own b
 stable:∀ {M:Nat->Prop} {w w':World} {v:Value},rd M w v->kA M own w w'->rd M w' v
 weak:∀ {M M':Nat->Prop} {w:World} {v:Value},rd M w v->(∀ k,k<w.heap.size->M' k->M k)->rd M' w v
variable{D xs:List Dt}
theorem Dt.ext(x:Dt)(h:x.rd M w v)(e:fy w w'):x.rd M w' v:=x.stable h (.kW e)
abbrev Env:=List (Nat×Dt)
variable{L L' L2:Env}
def Act.at(a:Act)(s:Nat):Value:=a.tmps.getD s undef
theorem Act.np(a:Act)(s:Nat):a.eval (.tmp s)=Act.at a s:=rfl
theorem Act.oX{d:Nat}(h:d<a.tmps.size):Act.at (a.put (some d) v) d=v:=by
 simp[Act.at,Act.put,h]
theorem Act.mD{d:Option Nat}{s:Nat}(h:d≠some s):Act.at (a.put d v) s=Act.at a s:=by
 cases d with
 | none=>rfl
 |some d=>
  have hne:d≠s:=λ e=>h (by rw[e])
  simp[Act.at,Act.put,dK hne]
theorem Act.nZ(a:Act)(d:Option Nat)(v:Value):(a.put d v).tmps.size=a.tmps.size:=by
 cases d <;> simp[Act.put]
theorem Act.put_defers(a:Act)(d:Option Nat)(v:Value):(a.put d v).defers=a.defers:=by
 cases d <;> rfl
structure eG where
 J:World->Prop
 Own:Nat->Prop
 ext:∀ {w w':World},J w->fy w w'->J w'
 own:∀ {w w':World} {G:Nat->Prop},J w->Grown G w w'->(∀ b,G b->Own b)->J w'
 fresh:∀ {w:World},J w->∀ b,w.heap.size<=b->Own b
variable{F:eG}
def eG.of(w0:World):eG where
 J w:=Below w0.heap.size w0 w
 Own b:=w0.heap.size<=b
 ext h k:=fy.under h k
 own h hg hb:=⟨hg.os.trans h.os,hg.tape.trans h.tape,hg.output.trans h.output,aS h.size hg.size,λ k hk=>(hg.block k (ay hk h.size) λ e=>cO _ (ay hk (hb k e))).trans (h.block k hk)⟩
 fresh h _ hb:=aS h.size hb
structure St(F:eG)(N:Nat)(M:Nat->Prop)(L:Env)(a:Act)(w:World):Prop where
 fr:F.J w
 size:a.tmps.size=N
 defers:a.defers=[]
 mok:∀ b,M b->b<w.heap.size
 has:∀ s x,L.lookup s=some x->x.rd M w (Act.at a s)
def fb(P:Program)(o:Oper)(a:Act)(w:World)(K:Value->World->Prop):Prop:=
 match (execOp a.eval o).run P w with
 | .ok (.value v) w'=>K v w'
 | .ok .skip w'=>K undef w'
 | .ok (.enter f args) w'=>Calls P f args w' (λ e w''=>∃ v,e=.returned v/\K v w'')
 | _=>False
section
variable{K:Value->World->Prop}
theorem fb.mono{K':Value->World->Prop}(h:fb P o a w K)(hk:∀ v w',K v w'->K' v w'):fb P o a w K':=by
 unfold fb at*;generalize (execOp a.eval o).run P w=r at*;cases r with
 |ok n w'=>
  cases n <;> simp only at h ⊢ <;> first
   | exact hk _ _ h
   | exact Calls.mono h (λ e w'' ⟨v,he,hv⟩=>⟨v,he,hk _ _ hv⟩)
   | exact h
 | halt x w'=>exact h
theorem fb.wp{next:Act->World->Prop}{Q:Exit->Act->World->Prop}(h:fb P o a w (λ v w'=>next (a.put o.dst v) w')):o.wp P a w next Q:=by
 unfold fb at h;unfold Oper.wp;generalize (execOp a.eval o).run P w=r at*;cases r with
 |ok n w'=>
  cases n <;> simp at h ⊢ <;> first
   | exact h
   | exact Calls.mono h (λ e w'' ⟨v,he,hv⟩=>by subst he;exact hv)
   | exact h.elim
 | halt x w'=>exact h.elim
theorem fb.iw(hr:(execOp a.eval o).run P w=.ok (.value v) w')(h:K v w'):fb P o a w K:=by
 unfold fb;rw[hr];exact h
theorem fb.mS(hr:(execOp a.eval o).run P w=.ok .skip w')(h:K undef w'):fb P o a w K:=by
 unfold fb;rw[hr];exact h
theorem fb.mK(hr:(execOp a.eval o).run P w=.ok (.enter f args) w')
  (h:Calls P f args w' (λ e w''=>∃ v,e=.returned v/\K v w'')):fb P o a w K:=by
 unfold fb;rw[hr];exact h
end
def eP(P:Program)(M:Nat->Prop)(look:Nat->Option Dt)(o:Oper)(x:Dt):Prop:=
 ∀ (a:Act) (w:World),(∀ b,M b->b<w.heap.size)->(∀ s y,look s=some y->y.rd M w (Act.at a s))->fb P o a w (λ v w'=>fy w w'/\x.rd M w' v)
def Dt.kt(c:Bool)(x:Dt):Dt where
 rd M w v:=(c=true->x.rd M w v)/\(c=false->v=undef)
 own:=x.own
 nb:=x.nb
 nob:=x.nob
 stable h e:=⟨λ hc=>x.stable (h.1 hc) e,h.2⟩
 weak h e:=⟨λ hc=>x.weak (h.1 hc) e,h.2⟩
inductive OpG (P:Program) (M:Nat->Prop) (ops:Array Oper) (N:Nat) (look:Nat->Option Dt) (o:Oper):Dt->Prop
 | plain {x:Dt} (hg:o.guard=none) (h:eP P M look o x):OpG P M ops N look o x
 | guarded {x:Dt} {j:Nat} {want b:Bool} {d:Nat} (hg:o.guard=some (j,want)) (hd:(ops[j]?).bind (·.dst)=some d) (hN:d<N) {y:Dt} (hb:look d=some y) (hy:∀ {M:Nat->Prop} {w:World} {v:Value},y.rd M w v->v=.bool b)
   (h:(b == want)=true->eP P M look o x):OpG P M ops N look o (Dt.kt (b == want) x)
 | guarded2 {x:Dt} {j:Nat} {want b c:Bool} {d:Nat} (hg:o.guard=some (j,want)) (hd:(ops[j]?).bind (·.dst)=some d) (hN:d<N) {y:Dt} (hb:look d=some (Dt.kt c y)) (hy:∀ {M:Nat->Prop} {w:World} {v:Value},y.rd M w v->v=.bool b)
   (h:(c&&(b == want))=true->eP P M look o x):OpG P M ops N look o (Dt.kt (c&&(b == want)) x)
variable{α β γ:Type}
theorem Ym{y:Nat->Option Bool}(hg:o.guard=none):Region.wanted o y=true:=by simp[Region.wanted,hg]
section
theorem OpG.step{look:Nat->Option Dt}{x:Dt}(h:OpG P M ops N look o x)
    (hM:∀ b,M b->b<w.heap.size) (hl:∀ s y,look s=some y->y.rd M w (Act.at a s)) (hs:a.tmps.size=N):
  (Region.wanted o (yielded ops a.tmps)=true->fb P o a w (λ v w'=>fy w w'/\x.rd M w' v))/\
  (Region.wanted o (yielded ops a.tmps)=false->x.rd M w undef):=by
 cases h with
 | plain hg h=>exact⟨λ _=>h a w hM hl,λ h=>by rw[Ym hg] at h;cases h⟩
 |guarded hg hd hN hb hy h=>
  rename_i x j want b d y;have h1:=hy (hl d _ hb);have h2:yielded ops a.tmps j=some b:=by
   have hlt:d<a.tmps.size:=by omega
   unfold Act.at at h1;rw[ce,an hlt] at h1;simp at h1;simp[yielded,hd,hlt,h1]
  have h3:Region.wanted o (yielded ops a.tmps)=(b == want):=by simp[Region.wanted,hg,h2]
  rw[h3];refine⟨λ hc=>(h hc a w hM hl).mono λ v w' ⟨e,r⟩=>⟨e,λ _=>r,λ hf=>(by rw[hc] at hf;cases hf)⟩,λ hc=>⟨λ hc'=>(by rw[hc] at hc';cases hc'),λ _=>rfl⟩⟩
 |guarded2 hg hd hN hb hy h=>
  rename_i x j want b c d y;have h1:=hl d _ hb;have hlt:d<a.tmps.size:=by omega
  have hat:a.tmps[d]?=some (Act.at a d):=by
   unfold Act.at;rw[ce,an hlt];rfl
  have h3:Region.wanted o (yielded ops a.tmps)=(c&&(b == want)):=by
   cases hc:c with
   |true=>have h2:=hy (h1.1 hc);simp[Region.wanted,hg,yielded,hd,hat,h2]
   |false=>have h2:=h1.2 hc;simp[Region.wanted,hg,yielded,hd,hat,h2,undef]
  rw[h3];exact⟨λ hc=>(h hc a w hM hl).mono λ v w' ⟨e,r⟩=>⟨e,λ _=>r,λ hf=>(by rw[hc] at hf;cases hf)⟩,λ hc=>⟨λ hc'=>(by rw[hc] at hc';cases hc'),λ _=>rfl⟩⟩
inductive Seg (P:Program) (M:Nat->Prop) (ops:Array Oper) (N:Nat):Env->List Oper->Env->Prop
 | nil {L:Env}:Seg P M ops N L [] L
 | cons {L L':Env} {o:Oper} {rest:List Oper} {x:Dt} {d:Nat} (hd:o.dst=some d) (hN:d<N) (h:OpG P M ops N (λ s=>L.lookup s) o x)
   (hr:Seg P M ops N ((d,x)::L) rest L'):Seg P M ops N L (o::rest) L'
theorem St.put{F:eG}{L:Env}{a:Act}{w w':World}(h:St F N M L a w)(he:fy w w'){d:Nat}(hN:d<N){x:Dt}{v:Value}(hx:x.rd M w' v):
  St F N M ((d,x)::L) (a.put (some d) v) w':=by
 refine⟨F.ext h.fr he,by rw[Act.nZ];exact h.size,by rw[Act.put_defers];exact h.defers,λ b hb=>ay (h.mok b hb) he.size,λ s y hy=>?_⟩;simp only[af] at hy;by_cases hs:s=d
 .subst hs;simp at hy;subst hy;rw[Act.oX (by rw[h.size];exact hN)];exact hx
 .have hb:(s == d)=false:=by simpa using hs
  simp[hb] at hy;rw[Act.mD (λ e=>hs (by injection e with e;exact e.symm))];exact y.ext (h.has s y hy) he
theorem pH:∀ {L L':Env} {seg:List Oper},Seg P M ops N L seg L'->∀ {a:Act} {w:World},St F N M L a w->
  (∀ a' w',fy w w'->St F N M L' a' w'->wpList P ops Q rest a' w')->wpList P ops Q (seg++rest) a w:=by
 intro L L' seg hseg
 induction hseg with
 | nil=>intro a w hst hk;exact hk a w (fy.refl w) hst
 |cons hd hN h hr ih=>
  rename_i L L' o rest' x d;intro a w hst hk;have Qq:=h.step hst.mok (λ s y hy=>hst.has s y hy) hst.size;show wpList P ops Q (o::_) a w;unfold wpList;split
  .rename_i hw;refine .inl (fb.wp ((Qq.1 hw).mono λ v w' ⟨he,hx⟩=>?_));rw[hd];exact ih (hst.put he hN hx) λ a' w'' he' hst'=>hk a' w'' (he.trans he') hst'
  .rename_i hw;have hx:=Qq.2 (by simpa using hw);rw[hd];exact ih (hst.put (fy.refl w) hN hx) hk
def Y7(S:List (Nat×Option Nat))(L:Env)(D:List Dt)(s:Nat):Option Dt:=
 match S.lookup s with
 | some (some j)=>D[j]?
 | some none=>L.lookup s
 | none=>none
inductive RegR (P:Program) (M:Nat->Prop) (ops:Array Oper) (N:Nat) (S:List (List (Nat×Option Nat))) (L:Env) (D:List Dt):Nat->List Oper->List (Nat×Dt)->Prop
 | nil {i:Nat}:RegR P M ops N S L D i [] []
 | cons {i:Nat} {o:Oper} {rest:List Oper} {x:Dt} {xs:List (Nat×Dt)} {d:Nat} (hd:o.dst=some d) (hN:d<N) (hx:D[i]?=some x) (h:OpG P M ops N (Y7 (S.getD i []) L D) o x)
   (hr:RegR P M ops N S L D (i+1) rest xs):RegR P M ops N S L D i (o::rest) ((d,x)::xs)
def xK(ops:Array Oper)(i:Nat):Option Nat:=(ops[i]?).bind (·.dst)
def XM(E:List Nat)(ops:Array Oper)(k:Nat)(T:List (List Nat))(S:List (List (Nat×Option Nat))):Bool:=
 (List.range ops.size).all (λ i=>
  match ops[i]? with
  | none=>false
  |some o=>
   (o.after.toList.all λ e=>!Region.binds .any e||decide (e.on<i))&&
   ((T.getD i []).all λ j=>E.contains j||(o.after.toList.any λ e=>Region.binds .any e&&(e.on == j||(T.getD e.on []).contains j)))&&
   (if i<k then
    ((
     S.getD i []).all λ p=>match p.2 with
     | some j=>xK ops j == some p.1&&(T.getD i []).contains j&&decide (j<k)
     | none=>(List.range ops.size).all λ m=>xK ops m != some p.1||(T.getD m []).contains i)&&
    ((List.range i).all λ j=>xK ops j != xK ops i)
    else(List.range i).all λ j=>(T.getD i []).contains j))
instance {n:Nat}:OfNat (Option Nat) n:=⟨some n⟩
def nS:Option Nat:=none
def MM(o:Oper):List Nat:=(o.after.toList.filter (Region.binds .any)).map (·.on)
def EK(ops:Array Oper):List Nat:=ops.toList.foldl (λ T o=>T++[(MM o).foldl (λ m e=>m ||| (1 <<< e) ||| T.getD e 0) 0]) []
def EA(n m:Nat):List Nat:=(List.range n).filter m.testBit
def kO(ops:Array Oper):List (List Nat):=(EK ops).map (EA ops.size)
def Bc(E:List Nat)(ops:Array Oper):List (List Nat):=(EK ops).zipIdx.map λ q=>if E.contains q.2 then[] else EA ops.size (q.1 ||| E.foldl (λ m e=>m ||| (1 <<< e)) 0)
def jA(ops:Array Oper)(k:Nat)(T:List (List Nat))(S:List (List (Nat×Option Nat))):Bool:=XM [] ops k T S
end
section
variable{T:List (List Nat)}
theorem jf(h:XM E ops k T S=true)(ho:ops[i]?=some o):
  (∀ e∈o.after,Region.binds .any e=true->e.on<i)/\
  (∀ j∈T.getD i [],j∈E\/∃ e∈o.after,Region.binds .any e=true/\(e.on=j\/j∈T.getD e.on []))/\
  (i<k->(∀ s j,(s,some j)∈S.getD i []->xK ops j=some s/\j∈T.getD i []/\j<k)/\
   (∀ s,(s,none)∈S.getD i []->∀ m,m<ops.size->xK ops m=some s->i∈T.getD m [])/\(∀ j,j<i->xK ops j≠xK ops i))/\
  (k<=i->∀ j,j<i->j∈T.getD i []):=by
 have hi:=(aB.1 ho).1;have h0:=am.1 h i (aA.2 hi);simp only[ho,ac] at h0;obtain⟨⟨h1,h2⟩,h3⟩:=h0;refine⟨λ e he hb=>?_,λ j hj=>?_,λ hk=>?_,λ hk j hj=>?_⟩
 .have:=am.1 h1 e (Array.mem_toList_iff.2 he);simp[hb] at this;exact this
 .have:=am.1 h2 j hj;rcases Bool.or_eq_true_iff.1 this with this | this
  .exact .inl (bH.1 this)
  obtain⟨e,he,hb⟩:=cr.1 this;simp at hb;exact .inr ⟨e,Array.mem_toList_iff.1 he,hb.1,hb.2⟩
 .rw[Ke hk] at h3;simp only[ac] at h3;refine⟨λ s j hp=>?_,λ s hp m hm hd=>?_,λ j hj=>?_⟩
  .have:=am.1 h3.1 _ hp;simp at this;exact⟨this.1.1,this.1.2,this.2⟩
  .have:=am.1 h3.1 _ hp;have:=am.1 this m (aA.2 hm);simpa[hd] using this
  .have:=am.1 h3.2 j (aA.2 hj);simpa using this
 .rw[Kf (by omega)] at h3;have:=am.1 h3 j (aA.2 hj);simpa using this
theorem vU(h:jA ops k T S=true)(ho:ops[i]?=some o):
  (∀ e∈o.after,Region.binds .any e=true->e.on<i)/\
  (∀ j∈T.getD i [],∃ e∈o.after,Region.binds .any e=true/\(e.on=j\/j∈T.getD e.on []))/\
  (i<k->(∀ s j,(s,some j)∈S.getD i []->xK ops j=some s/\j∈T.getD i []/\j<k)/\
   (∀ s,(s,none)∈S.getD i []->∀ m,m<ops.size->xK ops m=some s->i∈T.getD m [])/\(∀ j,j<i->xK ops j≠xK ops i))/\
  (k<=i->∀ j,j<i->j∈T.getD i []):=let⟨a,b,c,e⟩:=jf h ho;⟨a,λ j hj=>(b j hj).resolve_left (λ h=>by cases h),c,e⟩
theorem En(h:XM E ops k T S=true):∀ (i:Nat),i<ops.size->∀ j∈T.getD i [],j∈E\/j<i:=by
 intro i
 induction i using Nat.strongRecOn with
 |_ i ih=>
  intro hi j hj;obtain⟨o,ho⟩:∃ o,ops[i]?=some o:=⟨_,an hi⟩;rcases(jf h ho).2.1 j hj with hE | ⟨e,he,hb,hor⟩
  .exact .inl hE
  have hlt:=(jf h ho).1 e he hb;rcases hor with rfl | hm
  .exact .inr hlt
  .exact(ih e.on hlt (by omega) j hm).imp id λ h=>Nat.lt_trans h hlt
theorem MA(h:jA ops k T S=true):∀ (i:Nat),i<ops.size->∀ j∈T.getD i [],j<i:=λ i hi j hj=>(En h i hi j hj).resolve_left (λ h=>by cases h)
theorem Y8{l:Array Bool}(h:i<l.size)(x y:Bool):l.getD i x=l.getD i y:=by
 simp[h]
theorem Q7{l:Array Bool}(h:l.getD i false=true):i<l.size:=by
 rcases aT i l.size with h' | h'
 .exact h'
 .simp[bQ h'] at h
theorem xk{l:Array Bool}(h:i<l.size):(l.setIfInBounds i true).getD i false=true:=by simp[h]
theorem zZ{l:Array Bool}(h:i≠j):(l.setIfInBounds i true).getD j false=l.getD j false:=by
 simp[dK h]
def nO(T:List (List Nat))(n:Nat)(listed:Array Bool):Prop:=∀ i,i<n->listed.getD i false=true->∀ j∈T.getD i [],listed.getD j false=true
theorem CQ(h:XM E ops k T S=true)(hE:∀ j∈E,listed.getD j false=true)(hc:nO T ops.size listed)(hi:i∈Region.ready .any ops listed):
  i<ops.size/\listed.getD i true=false/\∀ j∈T.getD i [],listed.getD j false=true:=by
 obtain⟨h0,o,ho,hall⟩:=cH.1 hi;have hlt:=(aB.1 ho).1;refine⟨hlt,h0,λ j hj=>?_⟩;rcases(jf h ho).2.1 j hj with hj' | ⟨e,he,hb,hor⟩
 .exact hE j hj'
 have h1:=hall e he hb;have h2:=(jf h ho).1 e he hb;rcases hor with rfl | hm
 .exact h1
 .exact hc e.on (by omega) h1 j hm
theorem I8(h:jA ops k T S=true)(hc:nO T ops.size listed)(hi:i∈Region.ready .any ops listed):
  i<ops.size/\listed.getD i true=false/\∀ j∈T.getD i [],listed.getD j false=true:=CQ h (λ _ h=>by cases h) hc hi
theorem Km(h:XM E ops k T S=true)(hE:∀ j∈E,listed.getD j false=true)(hsz:listed.size=ops.size)(hc:nO T ops.size listed)(hi:i∈Region.ready .any ops listed):
  nO T ops.size (listed.setIfInBounds i true):=by
 obtain⟨hlt,_,hall⟩:=CQ h hE hc hi;intro m hm hl j hj;by_cases hji:i=j
 .subst hji;exact xk (by omega)
 .rw[zZ hji];by_cases hmi:i=m
  .subst hmi;exact hall j hj
  .rw[zZ hmi] at hl;exact hc m hm hl j hj
theorem CX(h:jA ops k T S=true)(hsz:listed.size=ops.size)(hc:nO T ops.size listed)(hi:i∈Region.ready .any ops listed):
  nO T ops.size (listed.setIfInBounds i true):=Km h (λ _ h=>by cases h) hsz hc hi
theorem Hi(h:XM E ops k T S=true)(hEk:∀ j∈E,j<k):∀ (f m:Nat) (listed:Array Bool),f+m=ops.size->k<=m->listed.size=ops.size->
  (∀ i,i<m->listed.getD i false=true)->(∀ i,m<=i->listed.getD i false=false)->
  ∀ (a:Act) (w:World),wpList P ops Q (ops.toList.drop m) a w->wpAny P .any ops Q f listed a w:=by
 intro f
 induction f with
 |zero=>
  intro m listed hf hk hsz h1 _ a w hw;have hr:Region.ready .any ops listed=[]:=by
   apply cP.2;intro i hi;obtain⟨h0,o,ho,_⟩:=cH.1 hi;have hlt:=(aB.1 ho).1;have:=h1 i (by omega);rw[Y8 (by omega) true false] at h0;rw[this] at h0;cases h0
  refine⟨hr,?_⟩;rw[ci (by simp;omega)] at hw;exact hw
 |succ f ih=>
  intro m listed hf hk hsz h1 h2 a w hw;have hmlt:m<ops.size:=by omega
  obtain⟨o,ho⟩:∃ o,ops[m]?=some o:=⟨_,an hmlt⟩;have hdrop:ops.toList.drop m=o::ops.toList.drop (m+1):=by
   rw[bt (by simpa using hmlt)]
   congr 1
   have:=ho;rw[an hmlt] at this;simpa using this
  have honly:∀ i∈Region.ready .any ops listed,i=m:=by
   intro i hi;obtain⟨h0,o',ho',hall⟩:=cH.1 hi;have hlt:=(aB.1 ho').1;rcases ee i m with hlm | rfl | hgm
   .rw[Y8 (by omega) true false,h1 i hlm] at h0;cases h0
   .rfl
   .rcases(jf h ho').2.1 m ((jf h ho').2.2.2 (by omega) m hgm) with hmE | ⟨e,he,hb,hor⟩
    .have:=hEk m hmE;omega
    have hel:=hall e he hb;have heon:e.on<m:=by
     rcases aT e.on m with hx | hx
     .exact hx
     .rw[h2 e.on hx] at hel;cases hel
    rcases hor with rfl | hm'
    .omega
    .rcases En h e.on (by omega) m hm' with hmE | this
     .have:=hEk m hmE;omega
     .omega
  have hmr:m∈Region.ready .any ops listed:=by
   refine cH.2 ⟨by rw[Y8 (by omega) true false];exact h2 m (al _),o,ho,λ e he hb=>h1 _ ((jf h ho).1 e he hb)⟩
  refine⟨λ hnil=>absurd hmr (by rw[hnil];exact aF),λ i hi=>?_⟩;have:=honly i hi;subst this;have hnext:=ih (i+1) (listed.setIfInBounds i true) (by omega) (by omega) (by simpa using hsz)
   (λ j hj=>by
    by_cases hij:i=j
    .subst hij;exact xk (by omega)
    .rw[zZ hij];exact h1 j (by omega))
   (λ j hj=>by rw[zZ (by omega)];exact h2 j (by omega))
  rw[hdrop] at hw;unfold wpList at hw;unfold wpOp;simp[ho];split
  .rename_i hwt;rw[Ke hwt] at hw;exact hw.imp (Oper.wp_mono hnext) id
  .rename_i hwt;rw[Kf hwt] at hw;exact hnext _ _ hw
theorem Tl(h:jA ops k T S=true):∀ (f m:Nat) (listed:Array Bool),f+m=ops.size->k<=m->listed.size=ops.size->
  (∀ i,i<m->listed.getD i false=true)->(∀ i,m<=i->listed.getD i false=false)->
  ∀ (a:Act) (w:World),wpList P ops Q (ops.toList.drop m) a w->wpAny P .any ops Q f listed a w:=Hi h (λ _ h=>by cases h)
theorem RegR.get:∀ {i0:Nat} {l:List Oper} {xs:List (Nat×Dt)},RegR P M ops N S L D i0 l xs->
  l.length=xs.length/\∀ (n:Nat) (o:Oper),l[n]?=some o->∃ x d,xs[n]?=some (d,x)/\o.dst=some d/\d<N/\D[i0+n]?=some x/\OpG P M ops N (Y7 (S.getD (i0+n) []) L D) o x:=by
 intro i0 l xs h
 induction h with
 | nil=>exact⟨Z,λ n o h=>by simp at h⟩
 |cons hd hN hx h hr ih=>
  rename_i i o rest x xs d;refine⟨by simp[ih.1],λ n o' ho'=>?_⟩;cases n with
  |zero=>simp at ho';subst ho';exact⟨x,d,by simp,hd,hN,hx,h⟩
  |succ n=>simp at ho';obtain⟨x',d',h1,h2,h3,h4,h5⟩:=ih.2 n o' ho';exact⟨x',d',by simpa using h1,h2,h3,by rw[<-h4];congr 1;omega,by rw[show i+_=i+1+n by omega];exact h5⟩
structure AR(P:Program)(M:Nat->Prop)(ops:Array Oper)(N k:Nat)(T:List (List Nat))(xs:List (Nat×Dt))(a0:Act)(w1:World)(listed:Array Bool)(a:Act)(w:World):Prop where
 sz:listed.size=ops.size
 size:a.tmps.size=N
 defers:a.defers=a0.defers
 ext:fy w1 w
 tail:∀ i,k<=i->listed.getD i false=false
 clos:nO T ops.size listed
 done:∀ i,listed.getD i false=true->∀ x d,xs[i]?=some (d,x)->x.rd M w (Act.at a d)
 rest:∀ s,(∀ i,listed.getD i false=true->xK ops i≠some s)->Act.at a s=Act.at a0 s
theorem qF{α:Type}(l r:List (Nat×α))(s:Nat)(x:α)(h:(l++r).lookup s=some x):(s,x)∈l\/((∀ y,(s,y) ∉ l)/\r.lookup s=some x):=by
 induction l with
 | nil=>exact .inr ⟨λ y hy=>(by cases hy),by simpa using h⟩
 |cons p l ih=>
  obtain⟨q,z⟩:=p;simp only[bG,af] at h;by_cases hs:s=q
  .subst hs;simp at h;subst h;exact .inl (by simp)
  .have hb:(s == q)=false:=by simpa using hs
   simp[hb] at h;rcases ih h with h1 | ⟨h1,h2⟩
   .exact .inl (bD _ h1)
   .exact .inr ⟨λ y hy=>by
     rcases aj.1 hy with e | e
     .injection e with e1 e2;exact hs e1
     .exact h1 y e,h2⟩
theorem jG{α:Type}(l:List (Nat×α))(s:Nat)(x:α)(h:l.lookup s=some x):(s,x)∈l:=by
 have:=qF l [] s x (by simpa using h);rcases this with h1 | ⟨_,h2⟩
 .exact h1
 .simp at h2
def left(n:Nat)(listed:Array Bool):Nat:=((List.range n).filter λ i=>!listed.getD i false).length
theorem vV{n:Nat}(hi:i<n)(hsz:listed.size=n)(hu:listed.getD i false=false):left n (listed.setIfInBounds i true)+1=left n listed:=by
 unfold left;have key:∀ l:List Nat,l.Nodup->i∈l->(l.filter λ j=>!(listed.setIfInBounds i true).getD j false).length+1=(l.filter λ j=>!listed.getD j false).length:=by
  intro l
  induction l with
  | nil=>intro _ h;cases h
  |cons j l ih=>
   intro hnd hm;have hnd':=er.1 hnd;by_cases hij:i=j
   .subst hij;rw[dm (by rw[xk (by omega)];simp),dn (by rw[hu];rfl),aW]
    congr 2
    apply List.filter_congr;intro m hm';rw[zZ (λ e=>by subst e;exact hnd'.1 hm')]
   .have hm':i∈l:=(aj.1 hm).resolve_left hij;have:=ih hnd'.2 hm';by_cases hj:listed.getD j false=true
    .rw[dm (by rw[zZ hij,hj];simp),dm (by rw[hj];simp)];exact this
    .have hj':listed.getD j false=false:=by simpa using hj
     rw[dn (by rw[zZ hij,hj'];rfl),dn (by rw[hj'];rfl)];simp only[aW];omega
 exact key _ List.nodup_range (aA.2 hi)
theorem QV{n:Nat}(hk:k<=n)(h1:∀ i,i<k->listed.getD i false=true)(h2:∀ i,k<=i->listed.getD i false=false):left n listed+k=n:=by
 unfold left;have:(List.range n).filter (λ i=>!listed.getD i false)=(List.range (n - k)).map (k+·):=by
  rw[show n=k+(n - k) by omega,List.range_add,List.filter_append];rw[List.filter_eq_nil_iff.2 (λ i hi=>by rw[h1 i (aA.1 hi)];simp)];rw[List.filter_eq_self.2 (λ i hi=>by
   obtain⟨j,_,rfl⟩:=bi.1 hi;rw[h2 _ (by omega)];rfl)]
  simp
 rw[this];simp;omega
theorem IK(h:XM E ops k T S=true)(hsz:listed.size=ops.size){p:Nat}(hp:p<ops.size)(hu:listed.getD p false=false):Region.ready .any ops listed≠[]:=by
 induction p using Nat.strongRecOn with
 |_ p ih=>
  obtain⟨o,ho⟩:∃ o,ops[p]?=some o:=⟨_,an hp⟩;by_cases hall:∀ e∈o.after,Region.binds .any e=true->listed.getD e.on false=true
  .intro hnil;have:=cH.2 ⟨by rw[Y8 (by omega) true false];exact hu,o,ho,hall⟩;rw[hnil] at this;cases this
  .simp at hall;obtain⟨e,he,hb,hne⟩:=hall;have hlt:=(jf h ho).1 e he hb;exact ih e.on hlt (by omega) (by simpa using hne)
theorem IQ(h:jA ops k T S=true)(hsz:listed.size=ops.size){p:Nat}(hp:p<ops.size)(hu:listed.getD p false=false):Region.ready .any ops listed≠[]:=IK h hsz hp hu
theorem ES(h:XM E ops k T S=true)(hEk:∀ j∈E,j<k)(hk:k<=ops.size){xs:List (Nat×Dt)}
  (hst:St F N M L a0 w1) (hreg:RegR P M ops N S L D 0 (ops.toList.take k) xs)
  (hQ:∀ a' w',fy w1 w'->St F N M (xs++L) a' w'->wpList P ops Q (ops.toList.drop k) a' w'):
  ∀ (f:Nat) (listed:Array Bool) (a:Act) (w:World),left ops.size listed=f->(∀ j∈E,listed.getD j false=true)->AR P M ops N k T xs a0 w1 listed a w->wpAny P .any ops Q f listed a w:=by
 have hlen:xs.length=k:=by rw[<-hreg.get.1];simp;omega
 have hget:∀ i o,i<k->ops[i]?=some o->∃ x d,xs[i]?=some (d,x)/\o.dst=some d/\d<N/\D[i]?=some x/\OpG P M ops N (Y7 (S.getD i []) L D) o x:=by
  intro i o hi ho;have:=hreg.get.2 i o (by rw[aw,Ke hi];simpa using ho);simpa using this
 have hdst:∀ i x d,xs[i]?=some (d,x)->i<k/\xK ops i=some d:=by
  intro i x d hx;have hi:i<k:=by rw[<-hlen];exact(ai.1 hx).1
  obtain⟨o,ho⟩:∃ o,ops[i]?=some o:=⟨_,an (by omega)⟩;obtain⟨x',d',h1,h2,_⟩:=hget i o hi ho;rw[hx] at h1;injection h1 with h1;injection h1 with h1 _;exact⟨hi,by simp[xK,ho,h2,h1]⟩
 have finish:∀ (f:Nat) (listed:Array Bool) (a:Act) (w:World),left ops.size listed=f->AR P M ops N k T xs a0 w1 listed a w->(∀ i,i<k->listed.getD i false=true)->wpAny P .any ops Q f listed a w:=by
  intro f listed a w hf inv hall;refine Hi h hEk f k listed (by rw[<-hf];exact QV hk hall inv.tail) (al _) inv.sz hall inv.tail a w (hQ a w inv.ext ?_);refine⟨F.ext hst.fr inv.ext,inv.size,by rw[inv.defers];exact hst.defers,λ b hb=>ay (hst.mok b hb) inv.ext.size,λ s x hs=>?_⟩;rcases qF xs L s x hs with hm | ⟨hno,hl⟩
  .obtain⟨i,hi⟩:=aR hm;exact inv.done i (hall i (hdst i x s hi).1) x s hi
  .rw[inv.rest s (λ i hi hd=>?_)]
   .exact x.ext (hst.has s x hl) inv.ext
   .have hik:i<k:=by
     rcases aT i k with hx | hx
     .exact hx
     .rw[inv.tail i hx] at hi;cases hi
    obtain⟨o,ho⟩:∃ o,ops[i]?=some o:=⟨_,an (by omega)⟩;obtain⟨x',d',h1,h2,_⟩:=hget i o hik ho;simp[xK,ho,h2] at hd;subst hd;exact hno x' (ae h1)
 intro f
 induction f with
 |zero=>
  intro listed a w hf _ inv;refine finish 0 listed a w hf inv (λ i hi=>?_);have h1:i ∉ (List.range ops.size).filter λ i=>!listed.getD i false:=by
   rw[au hf];intro h;cases h
  rw[cQ] at h1;have:=λ hx=>h1 ⟨aA.2 (by omega),hx⟩
  simpa using this
 |succ f ih=>
  intro listed a w hf hE inv;by_cases hall:∀ i,i<k->listed.getD i false=true
  .exact finish _ listed a w hf inv hall
  .simp at hall;obtain⟨p,hp,hup⟩:=hall;have hup:listed.getD p false=false:=by simpa using hup
   refine⟨λ hnil=>absurd hnil (IK h inv.sz (by omega) hup),λ i hi=>?_⟩;obtain⟨hilt,hiu,hicl⟩:=CQ h hE inv.clos hi;have hiu':listed.getD i false=false:=by rw[Y8 (by rw[inv.sz];exact hilt) false true];exact hiu
   obtain⟨o,ho⟩:∃ o,ops[i]?=some o:=⟨_,an hilt⟩;have hik:i<k:=by
    rcases aT i k with hx | hx
    .exact hx
    .have:=hicl p ((jf h ho).2.2.2 hx p (by omega));rw[hup] at this;cases this
   obtain⟨x,d,hx,hod,hdN,hDx,hg⟩:=hget i o hik ho;obtain⟨hS1,hS2,hdd⟩:=(jf h ho).2.2.1 hik;have hl:∀ s y,Y7 (S.getD i []) L D s=some y->y.rd M w (Act.at a s):=by
    intro s y hy;unfold Y7 at hy;split at hy
    .rename_i j hj;have hmem:=jG _ _ _ hj;obtain⟨hd1,hT,hjk⟩:=hS1 s j hmem;obtain⟨o',ho'⟩:∃ o',ops[j]?=some o':=⟨_,an (by omega)⟩;obtain⟨x',d',g1,g2,_,g4,_⟩:=hget j o' hjk ho';rw[g4] at hy;injection hy with hy;subst hy;have:d'=s:=by simpa[xK,ho',g2] using hd1
     subst this;exact inv.done j (hicl j hT) _ _ g1
    .rename_i hj;have hmem:=jG _ _ _ hj;rw[inv.rest s (λ m hm hd=>?_)]
     .exact y.ext (hst.has s y hy) inv.ext
     .have hmlt:m<ops.size:=by rw[<-inv.sz];exact Q7 hm
      have:=hS2 s hmem m hmlt hd;have:=inv.clos m hmlt hm i this;rw[hiu'] at this;cases this
    .cases hy
   have hmok:=λ b hb=>ay (hst.mok b hb) inv.ext.size
   have Qq:=hg.step hmok hl inv.size;have hnext:∀ v w',fy w w'->x.rd M w' v->wpAny P .any ops Q f (listed.setIfInBounds i true) (a.put o.dst v) w':=by
    intro v w' he hv;refine ih _ _ _ (by have:=vV hilt inv.sz hiu';omega) (λ j hj=>by
     by_cases hij:i=j
     .subst hij;exact xk (by rw[inv.sz];exact hilt)
     .rw[zZ hij];exact hE j hj) ⟨by simpa using inv.sz,by rw[Act.nZ];exact inv.size,by rw[Act.put_defers];exact inv.defers,inv.ext.trans he,λ j hj=>?_,Km h hE inv.sz inv.clos hi,λ j hj y e hy=>?_,λ s hs=>?_⟩
    .rw[zZ (by omega)];exact inv.tail j hj
    .rw[hod];by_cases hij:i=j
     .subst hij;rw[hx] at hy;injection hy with hy;injection hy with hy1 hy2;subst hy1;subst hy2;rw[Act.oX (by rw[inv.size];exact hdN)];exact hv
     .rw[zZ hij] at hj;obtain⟨hjk,hjd⟩:=hdst j y e hy;have hne:(some d:Option Nat)≠some e:=by
       intro he';have h1:xK ops i=some d:=by simp[xK,ho,hod]
       rcases Nat.lt_or_gt_of_ne hij with hlt | hgt
       .obtain⟨o',ho'⟩:∃ o',ops[j]?=some o':=⟨_,an (by omega)⟩;exact((jf h ho').2.2.1 hjk).2.2 i hlt (by rw[h1,hjd,he'])
       .exact hdd j hgt (by rw[h1,hjd,he'])
      rw[Act.mD hne];exact y.ext (inv.done j hj y e hy) he
    .rw[hod,Act.mD]
     .exact inv.rest s (λ j hj=>hs j (by
       by_cases hij:i=j
       .subst hij;exact xk (by rw[inv.sz];exact hilt)
       .rw[zZ hij];exact hj))
     .have:=hs i (xk (by rw[inv.sz];exact hilt));simpa[xK,ho,hod] using this
   unfold wpOp;simp[ho];split
   .rename_i hw;exact .inl (fb.wp ((Qq.1 hw).mono λ v w' ⟨he,hv⟩=>hnext v w' he hv))
   .rename_i hw;exact hnext undef w (fy.refl w) (Qq.2 (by simpa using hw))
theorem NI(h:jA ops k T S=true)(hk:k<=ops.size){xs:List (Nat×Dt)}
  (hst:St F N M L a0 w1) (hreg:RegR P M ops N S L D 0 (ops.toList.take k) xs)
  (hQ:∀ a' w',fy w1 w'->St F N M (xs++L) a' w'->wpList P ops Q (ops.toList.drop k) a' w'):
  ∀ (f:Nat) (listed:Array Bool) (a:Act) (w:World),left ops.size listed=f->AR P M ops N k T xs a0 w1 listed a w->wpAny P .any ops Q f listed a w:=λ f listed a w hl hi=>ES h (λ _ h=>by cases h) hk hst hreg hQ f listed a w hl (λ _ h=>by cases h) hi
theorem QW{id:Nat}{xs:List (Nat×Dt)}(hm:P.follows .mixedOrders=true)
  (k:Nat) (T:List (List Nat)) (S:List (List (Nat×Option Nat))) (h:jA ops k T S=true) (hk:k<=ops.size)
  (hst:St F N M L a w) (hreg:RegR P M ops N S L D 0 (ops.toList.take k) xs)
  (hQ:∀ a' w',fy w w'->St F N M (xs++L) a' w'->wpList P ops Q (ops.toList.drop k) a' w'):(Code.region id ops true).wp P Q a w:=by
 have he:fy w { w with drawn:=w.drawn+1 }:=fy.drawn w _;have hst':St F N M L a { w with drawn:=w.drawn+1 }:=⟨F.ext hst.fr he,hst.size,hst.defers,hst.mok,λ s x hs=>x.ext (hst.has s x hs) he⟩;refine wp_region_any hm ?_;have hall:∀ i,(Array.replicate ops.size false).getD i false=false:=λ i=>by
  rcases aT i ops.size with hi | hi <;> simp[hi]
 have hleft:left ops.size (Array.replicate ops.size false)=ops.size:=by
  have:=QV (n:=ops.size) (by omega) (λ i hi=>absurd hi (Nat.not_lt_zero _)) (λ i _=>hall i);simpa using this
 refine NI h hk hst' hreg (λ a' w' e s=>hQ a' w' (he.trans e) s) _ _ _ _ hleft ⟨by simp,hst.size,Z,fy.refl _,λ i _=>hall i,λ i _ hl=>?_,λ i hl=>?_,λ s _=>Z⟩
 .rw[hall i] at hl;cases hl
 .rw[hall i] at hl;cases hl
end
class ey (α:Type) where
 size:Nat
 agg:Bool
 rdc:(Nat->Prop)->World->List Value->α->Prop
 len:∀ {M:Nat->Prop} {w:World} {cs:List Value} {x:α},rdc M w cs x->cs.length=size
 one:agg=false->size=1
 pos:0<size
 oneCell:∀ {M:Nat->Prop} {w:World} {cs:List Value} {x:α},rdc M w cs x->∀ c∈cs,c.oneCell'=true
 stable:∀ {M:Nat->Prop} {w w':World} {cs:List Value} {x:α},rdc M w cs x->kA M noB w w'->rdc M w' cs x
 weak:∀ {M M':Nat->Prop} {w:World} {cs:List Value} {x:α},rdc M w cs x->(∀ k,k<w.heap.size->M' k->M k)->rdc M' w cs x
def gI(agg:Bool)(cs:List Value):Value:=if agg then .agg cs.toArray else cs.headD undef
def dt{α:Type}[ey α](x:α):Dt where
 rd M w v:=∃ cs,ey.rdc M w cs x/\v=gI (ey.agg α) cs
 own:=noB
 nb:=true
 nob _ _ h:=h
 stable:=λ⟨cs,h,hv⟩ e=>⟨cs,ey.stable h e,hv⟩
 weak:=λ⟨cs,h,hv⟩ e=>⟨cs,ey.weak h e,hv⟩
theorem kA.mono{o:Nat->Prop}(h:kA M o w w'):kA M noB w w':=λ k hk hm=>h k hk (hm.imp id (λ e=>e.elim))
structure Str where
 l:List UInt8
deriving DecidableEq,Inhabited
theorem Str.tS{m n:Str}:m=n ↔ m.l=n.l:=by cases m;cases n;simp
abbrev ey.flat{α:Type}(val:α->Value)(ok:α->Prop)(h1:∀ x,(val x).oneCell'=true):ey α where
 size:=1
 agg:=false
 rdc _ _ cs x:=cs=[val x]/\ok x
 len h:=by rw[h.1];rfl
 one _:=rfl
 pos:=Nat.one_pos
 oneCell h c hc:=by rw[h.1] at hc;simp at hc;subst hc;exact h1 _
 stable h _:=h
 weak h _:=h
def ik(s:Str):Value:=.string ⟨⟨s.l⟩⟩
instance:ey Int:=ey.flat (.int .i64) (λ _=>True) (λ _=>Z)
instance:ey Bool:=ey.flat .bool (λ _=>True) (λ _=>Z)
instance:ey UInt8:=ey.flat (λ b=>.int .u8 b.toNat) (λ _=>True) (λ _=>Z)
instance:ey Str:=ey.flat ik (λ s=>s.l.length<=maxLen) (λ _=>Z)
theorem yq{n:Int}:(dt n).rd M w v ↔ v=.int .i64 n:=
 ⟨λ⟨_,h,hv⟩=>by rw[hv,h.1];rfl,λ h=>⟨[.int .i64 n],⟨Z,trivial⟩,h⟩⟩
theorem xL:(dt b).rd M w v ↔ v=.bool b:=
 ⟨λ⟨_,h,hv⟩=>by rw[hv,h.1];rfl,λ h=>⟨[.bool b],⟨Z,trivial⟩,h⟩⟩
theorem rf{b:UInt8}:(dt b).rd M w v ↔ v=.int .u8 b.toNat:=
 ⟨λ⟨_,h,hv⟩=>by rw[hv,h.1];rfl,λ h=>⟨[.int .u8 b.toNat],⟨Z,trivial⟩,h⟩⟩
theorem xT{s:Str}:(dt s).rd M w v ↔ v=ik s/\s.l.length<=maxLen:=
 ⟨λ⟨_,h,hv⟩=>⟨by rw[hv,h.1];rfl,h.2⟩,λ h=>⟨[ik s],⟨Z,h.2⟩,h.1⟩⟩
theorem zB(h:(dt b).rd M w v):v=.bool b:=xL.1 h
instance {α β:Type} [ey α] [ey β]:ey (α×β) where
 size:=ey.size α+ey.size β
 agg:=true
 rdc M w cs x:=∃ c1 c2,cs=c1++c2/\ey.rdc M w c1 x.1/\ey.rdc M w c2 x.2
 len:=λ⟨_,_,h,h1,h2⟩=>by rw[h,ao,ey.len h1,ey.len h2]
 one h:=by cases h
 pos:=Nat.add_pos_left ey.pos _
 oneCell:=λ⟨_,_,h,h1,h2⟩ c hc=>by
  rw[h] at hc;exact(bg.1 hc).elim (ey.oneCell h1 c) (ey.oneCell h2 c)
 stable:=λ⟨c1,c2,h,h1,h2⟩ e=>⟨c1,c2,h,ey.stable h1 e,ey.stable h2 e⟩
 weak:=λ⟨c1,c2,h,h1,h2⟩ e=>⟨c1,c2,h,ey.weak h1 e,ey.weak h2 e⟩
abbrev ey.ku{α β:Type}[ey β](f:α->β):ey α where
 size:=ey.size β
 agg:=true
 rdc M w cs x:=ey.rdc M w cs (f x)
 len h:=ey.len h
 one h:=by cases h
 pos:=ey.pos (α:=β)
 oneCell h:=ey.oneCell h
 stable h e:=ey.stable h e
 weak h e:=ey.weak h e
structure eM{α β:Type}[ey α][ey β](get:α->β)(off:Nat):Prop where
 sub:∀ {M:Nat->Prop} {w:World} {cs:List Value} {x:α},ey.rdc M w cs x->∃ c,(∀ j u,c[j]?=some u->cs[off+j]?=some u)/\ey.rdc M w c (get x)
theorem eM.id[ey α]:eM (λ x:α=>x) 0:=⟨λ h=>⟨_,λ j u hj=>by simpa using hj,h⟩⟩
theorem eM.fst[ey α][ey β]:eM (λ x:α×β=>x.1) 0:=
 ⟨λ⟨c1,c2,h,h1,_⟩=>⟨c1,λ j u hj=>by rw[h,aD,aN (ai.1 hj).1];exact hj,h1⟩⟩
theorem eM.snd[ey α][ey β][ey γ]{get:β->γ}(f:eM get off):eM (λ x:α×β=>get x.2) (ey.size α+off):=
 ⟨λ⟨c1,c2,h,h1,h2⟩=>by
  obtain⟨c,hc,hr⟩:=f.sub h2;refine⟨c,λ j u hj=>?_,hr⟩;have hl:=ey.len h1;rw[h,aL (by omega),<-hc j u hj]
  congr 1
  omega⟩
section
variable{α:Type}[ey α]
def gQ(M:Nat->Prop)(w:World):List Value->List α->Prop
 | cells,[]=>cells=[]
 | cells,x::xs=>∃ c r,cells=c++r/\ey.rdc M w c x/\gQ M w r xs
theorem JH{M:Nat->Prop}{w:World}:∀ {cells:List Value} {xs:List α},gQ M w cells xs->cells.length=xs.length*ey.size α
 | cells,[],h=>by rw[h];simp
 | cells,x::xs,⟨c,r,h,h1,h2⟩=>by rw[h,ao,ey.len h1,JH h2,aW,bY];omega
theorem Ze{M:Nat->Prop}{w:World}:∀ {c1 c2:List Value} {xs ys:List α},gQ M w c1 xs->gQ M w c2 ys->gQ M w (c1++c2) (xs++ys)
 | c1,c2,[],ys,h,k=>by rw[h];simpa using k
 | c1,c2,x::xs,ys,⟨c,r,h,h1,h2⟩,k=>⟨c,r++c2,by rw[h,aE],h1,Ze h2 k⟩
theorem B9{x:α}(h:ey.rdc M w c x):gQ M w c [x]:=⟨c,[],by simp,h,Z⟩
theorem tH{M:Nat->Prop}{w:World}:∀ {cells:List Value} {xs:List α} {i:Nat} {x:α},gQ M w cells xs->xs[i]?=some x->
  ∃ c,(∀ j u,c[j]?=some u->cells[i*ey.size α+j]?=some u)/\ey.rdc M w c x
 | cells,[],i,x,_,hi=>by simp at hi
 |cells,y::xs,0,x,⟨c,r,h,h1,h2⟩,hi=>by
  simp at hi;subst hi;exact⟨c,λ j u hj=>by rw[h,dN,aD,aN (ai.1 hj).1];exact hj,h1⟩
 |cells,y::xs,i+1,x,⟨c,r,h,h1,h2⟩,hi=>by
  obtain⟨c',hc,hr⟩:=tH (i:=i) h2 (by simpa using hi);refine⟨c',λ j u hj=>?_,hr⟩;have hl:=ey.len h1;rw[h,aL (by rw[hl,bY];omega),<-hc j u hj,hl]
  congr 1
  rw[bY];omega
theorem Yn{M:Nat->Prop}{w w':World}(e:kA M noB w w'):∀ {cells:List Value} {xs:List α},gQ M w cells xs->gQ M w' cells xs
 | _,[],h=>h
 | _,_::_,⟨c,r,h,h1,h2⟩=>⟨c,r,h,ey.stable h1 e,Yn e h2⟩
theorem wN{M M':Nat->Prop}{w:World}(e:∀ k,k<w.heap.size->M' k->M k):∀ {cells:List Value} {xs:List α},gQ M w cells xs->gQ M' w cells xs
 | _,[],h=>h
 | _,_::_,⟨c,r,h,h1,h2⟩=>⟨c,r,h,ey.weak h1 e,wN e h2⟩
theorem J7{M:Nat->Prop}{w:World}:∀ {cells:List Value} {xs:List α},gQ M w cells xs->∀ u∈cells,u.oneCell'=true
 | _,[],h=>by rw[h];simp
 |_,_::_,⟨c,r,h,h1,h2⟩=>λ u hu=>by
  rw[h] at hu;exact(bg.1 hu).elim (ey.oneCell h1 u) (J7 h2 u)
def iu(w:World)(b o:Nat)(cells:List Value):Prop:=∀ j u,cells[j]?=some u->w.cell? ⟨b,o+j,none⟩=some u
theorem tI{b o:Nat}(h:w.cell? ⟨b,o,none⟩=some u):b<w.heap.size:=by
 rcases aT b w.heap.size with hlt | hge
 .exact hlt
 .simp[World.cell?,bQ hge] at h
theorem iu.stable{own:Nat->Prop}{b o:Nat}{cells:List Value}(h:iu w b o cells)(hb:¬ M b)(e:kA M own w w'):iu w' b o cells:=λ j u hj=>by
 have:=h j u hj;rw[World.cell?_of_block (e b (tI this) (.inl hb))];exact this
instance:ey (List α) where
 size:=1
 agg:=false
 rdc M w cs xs:=∃ A c,cs=[.slice A xs.length c]/\xs.length<=c/\c<=maxLen/\(xs=[]\/∃ b o cells,A=some ⟨b,o,none⟩/\¬ M b/\iu w b o cells/\gQ M w cells xs)
 len:=λ⟨_,_,h,_⟩=>by rw[h];rfl
 one _:=rfl
 pos:=Nat.one_pos
 oneCell:=λ⟨_,_,h,_⟩ c hc=>by rw[h] at hc;simp at hc;subst hc;rfl
 stable:=λ⟨A,c,h,h1,h2,h3⟩ e=>⟨A,c,h,h1,h2,h3.imp _root_.id λ⟨b,o,cells,ha,hb,hc,hr⟩=>⟨b,o,cells,ha,hb,hc.stable hb e,Yn e hr⟩⟩
 weak:=λ{M M' w cs xs} ⟨A,c,h,h1,h2,h3⟩ e=>⟨A,c,h,h1,h2,by
  rcases h3 with h3 | ⟨b,o,cells,ha,hb,hc,hr⟩
  .exact .inl h3
  .rcases cells with _ | ⟨u,cells⟩
   .cases xs with
    | nil=>exact .inl Z
    |cons x xs=>have h4:=JH hr;have h5:=ey.pos (α:=α);rw[aW,bY] at h4;simp at h4;omega
   .exact .inr ⟨b,o,_,ha,λ hm=>hb (e b (tI (hc 0 u Z)) hm),hc,wN e hr⟩⟩
end
section
variable{α:Type}[ey α]
def eX(x:α):Dt where
 rd M w v:=∃ b o cs,v=.pointer (some ⟨b,o,none⟩)/\¬ M b/\iu w b o cs/\ey.rdc M w cs x
 own:=noB
 nb:=true
 nob _ _ h:=h
 stable:=λ⟨b,o,cs,hv,hb,hc,h⟩ e=>⟨b,o,cs,hv,hb,hc.stable hb e,ey.stable h e⟩
 weak:=λ{M M' w v} ⟨b,o,cs,hv,hb,hc,h⟩ e=>⟨b,o,cs,hv,λ hm=>by
  have hl:=ey.len h;have hp:=ey.pos (α:=α);obtain⟨u,hu⟩:∃ u,cs[0]?=some u:=⟨_,aa (by omega)⟩;exact hb (e b (tI (hc 0 u hu)) hm),hc,ey.weak h e⟩
theorem xM{b:Nat}(h:w.heap[b]?=some ob):b<w.heap.size:=by
 rcases aT b w.heap.size with hlt | hge
 .exact hlt
 .rw[bQ hge] at h;cases h
def eY(g:Option Nat)(o:Nat)(x:α):Dt where
 rd M w v:=∃ b,g=some b/\v=.pointer (some ⟨b,o,none⟩)/\∃ C e cs,w.heap[b]?=some (.cells C e (0,0))/\(∀ j u,cs[j]?=some u->C[o+j]?=some u)/\ey.rdc M w cs x
 own:=eA g
 nb:=false
 nob h:=by cases h
 stable:=λ⟨b,hg,hv,C,e,cs,hb,hc,h⟩ k=>⟨b,hg,hv,C,e,cs,(k b (xM hb) (.inr hg)).trans hb,hc,ey.stable h k.mono⟩
 weak:=λ⟨b,hg,hv,C,e,cs,hb,hc,h⟩ k=>⟨b,hg,hv,C,e,cs,hb,hc,ey.weak h k⟩
def draw(g:Option Nat)(n:Nat):Dt where
 rd _ w v:=∃ b,g=some b/\v=.pointer (some ⟨b,0,none⟩)/\∃ C e,w.heap[b]?=some (.cells C e (0,0))/\C.size=n
 own:=eA g
 nb:=false
 nob h:=by cases h
 stable:=λ⟨b,hg,hv,C,e,hb,hc⟩ k=>⟨b,hg,hv,C,e,(k b (xM hb) (.inr hg)).trans hb,hc⟩
 weak:=λ h _=>h
def eQ(g:Option Nat)(e:TypeId)(xs:List α):Dt where
 rd M w v:=(∃ cells,w.ownsRow 0 e (ey.size α) v xs.length cells/\gQ M w cells xs/\v.ownBlock=g)\/(g=none/\xs=[]/\∃ A,v=.slice A 0 0)
 own:=eA g
 nb:=false
 nob h:=by cases h
 stable:=λ{M w w' v} h k=>h.imp (λ⟨cells,h,hr,hg⟩=>by
  refine⟨cells,⟨h.1,?_⟩,Yn k.mono hr,hg⟩;rcases h.2 with h2 | ⟨b,cap,cur,hv,hb,hh,h3⟩
  .exact .inl h2
  .exact .inr ⟨b,cap,cur,hv,hb,(k b (xM hh) (.inr (show g=some b by rw[<-hg,hv];rfl))).trans hh,h3⟩) id
 weak:=λ h k=>h.imp (λ⟨cells,h,hr,hg⟩=>⟨cells,h,wN k hr,hg⟩) id
end
def eC(M:Nat->Prop)(look:Nat->Option Dt)(opd:Operand)(x:Dt):Prop:=
 ∀ (w:World) (a:Act),(∀ s y,look s=some y->y.rd M w (Act.at a s))->x.rd M w (a.eval opd)
section
variable{look:Nat->Option Dt}
theorem zb{s:Nat}{x:Dt}(h:look s=some x):eC M look (.tmp s) x:=λ _ _ hl=>hl s x h
theorem yl{n:Int}:eC M look (.const (.int .i64 n)) (dt n):=λ _ _ _=>yq.2 Z
theorem RV:eC M look (.const (.bool b)) (dt b):=λ _ _ _=>xL.2 Z
theorem Q8{n:Nat}(h:n<256:=by decide):eC M look (.const (.int .u8 n)) (dt (UInt8.ofNat n)):=λ _ _ _=>rf.2 (by simp[Act.eval,Nat.mod_eq_of_lt h])
theorem yM{l:List UInt8}(h:l.length<=1000:=by decide):eC M look (.const (.string ⟨⟨l⟩⟩)) (dt (⟨l⟩:Str)):=
 λ _ _ _=>xT.2 ⟨Z,aS h (by decide)⟩
theorem wg{α:Type}[ey α]:eC M look (.const (.slice none 0 0)) (dt ([]:List α)):=
 λ _ _ _=>⟨_,⟨none,0,Z,al _,aq _,.inl Z⟩,Z⟩
end
section
variable{look:Nat->Option Dt}
theorem zz{x:Dt}(h:∀ (a:Act) (w:World),(∀ b,M b->b<w.heap.size)->(∀ s y,look s=some y->y.rd M w (Act.at a s))->∃ u,(execOp a.eval o).run P w=.ok (.value u) w/\x.rd M w u):eP P M look o x:=
 λ a w hm hl=>let⟨_,hr,hx⟩:=h a w hm hl;fb.iw hr ⟨fy.refl w,hx⟩
theorem zF{x:Dt}(ho:o.op=.move opd)(h:eC M look opd x):eP P M look o x:=
 zz λ a w _ hl=>⟨a.eval opd,by unfold execOp;rw[ho];simp,h w a hl⟩
theorem xw{x:Dt}(ho:o.op=.assign opd)(h:eC M look opd x):eP P M look o x:=
 zz λ a w _ hl=>⟨a.eval opd,by unfold execOp;rw[ho];simp,h w a hl⟩
theorem xd{c:Operand}(ho:o.op=.pick c x (.const (.bool false)))(hc:eC M look c (dt b))(hx:eC M look x (Dt.kt (b == true) (dt b2))):eP P M look o (dt (b&&b2)):=
 zz λ a w _ hl=>⟨.bool _,by
  have h1:=xL.1 (hc w a hl);unfold execOp;rw[ho];cases b
  .simp[h1,asBool];rfl
  .have h2:=xL.1 ((hx w a hl).1 Z);simp[h1,asBool,h2],xL.2 Z⟩
theorem qe{c:Operand}(ho:o.op=.pick c (.const (.bool true)) x)(hc:eC M look c (dt b))(hx:eC M look x (Dt.kt (b == false) (dt b2))):eP P M look o (dt (b||b2)):=
 zz λ a w _ hl=>⟨.bool _,by
  have h1:=xL.1 (hc w a hl);unfold execOp;rw[ho];cases b
  .have h2:=xL.1 ((hx w a hl).1 Z);simp[h1,asBool,h2]
  .simp[h1,asBool];rfl,xL.2 Z⟩
theorem ZQ(ho:o.op=.unOp .not t x)(h:eC M look x (dt b)):eP P M look o (dt (!b)):=
 zz λ a w _ hl=>⟨.bool _,by
  have h1:=xL.1 (h w a hl);unfold execOp;rw[ho];simp[h1,Op.unary],xL.2 Z⟩
def ez:BinOp->Int->Int->Bool
 | .eql,x,y=>x == y
 | .neq,x,y=>x != y
 | .lss,x,y=>decide (x<y)
 | .leq,x,y=>decide (x<=y)
 | .gtr,x,y=>decide (x > y)
 | .geq,x,y=>decide (x>=y)
 | _,_,_=>false
theorem qR{n:Int}(ho:o.op=.binOp op t x y t')
  (hx:eC M look x (dt m)) (hy:eC M look y (dt n))(hop:op=.eql\/op=.neq\/op=.lss\/op=.leq\/op=.gtr\/op=.geq:=by decide):eP P M look o (dt (ez op m n)):=
 zz λ a w _ hl=>⟨.bool _,by
  have h1:=yq.1 (hx w a hl);have h2:=yq.1 (hy w a hl);unfold execOp;rw[ho];rcases hop with rfl | rfl | rfl | rfl | rfl | rfl <;> simp[h1,h2,eqGuard,binOp,Op.intCmp,ez],xL.2 Z⟩
def gT:BinOp->UInt8->UInt8->Bool
 | .eql,x,y=>x == y
 | .neq,x,y=>x != y
 | .lss,x,y=>decide (x<y)
 | .leq,x,y=>decide (x<=y)
 | .gtr,x,y=>decide (x > y)
 | .geq,x,y=>decide (x>=y)
 | _,_,_=>false
theorem IS{x y:UInt8}:((x.toNat:Int)=(y.toNat:Int)) ↔ x=y:=⟨λ h=>UInt8.toNat_inj.1 (by omega),λ h=>by rw[h]⟩
theorem vj{m n:UInt8}(ho:o.op=.binOp op t x y t')
  (hx:eC M look x (dt m)) (hy:eC M look y (dt n))(hop:op=.eql\/op=.neq\/op=.lss\/op=.leq\/op=.gtr\/op=.geq:=by decide):eP P M look o (dt (gT op m n)):=
 zz λ a w _ hl=>⟨.bool _,by
  have h1:=rf.1 (hx w a hl);have h2:=rf.1 (hy w a hl);unfold execOp;rw[ho];rcases hop with rfl | rfl | rfl | rfl | rfl | rfl <;> simp[h1,h2,eqGuard,binOp,Op.intCmp,gT,UInt8.lt_iff_toNat_lt,UInt8.le_iff_toNat_le]
  .rw[bT];simp[IS]
  .rw[bT];simp[IS],xL.2 Z⟩
theorem YY{m n:Str}(ho:o.op=.binOp .eql t x y t')(hx:eC M look x (dt m))(hy:eC M look y (dt n)):eP P M look o (dt (decide (m=n))):=
 zz λ a w _ hl=>⟨.bool _,by
  have h1:=(xT.1 (hx w a hl)).1;have h2:=(xT.1 (hy w a hl)).1;unfold execOp;rw[ho];simp[h1,h2,eqGuard,binOp,Op.stringOp,ik];rw[bT];simp[Str.tS],xL.2 Z⟩
theorem rP{m n:Str}(ho:o.op=.binOp .neq t x y t')(hx:eC M look x (dt m))(hy:eC M look y (dt n)):eP P M look o (dt (decide (m≠n))):=
 zz λ a w _ hl=>⟨.bool _,by
  have h1:=(xT.1 (hx w a hl)).1;have h2:=(xT.1 (hy w a hl)).1;unfold execOp;rw[ho];simp[h1,h2,eqGuard,binOp,Op.stringOp,ik];rw[bT];simp[Str.tS],xL.2 Z⟩
end
def AS:TypeDesc->Bool
 | .struct _ | .array _ _=>true
 | _=>false
def fM(P:Program)(t:TypeId)(agg:Bool)(size:Nat):Bool:=
 match P.underlying t,P.info? t with
 | some d,some i=>i.size == size&&AS d == agg
 | _,_=>false
def fR(P:Program)(t:TypeId)(f off:Nat):Bool:=
 match P.underlying t with
 |some (.struct fs)=>match fs[f]? with
  | some fl=>fl.offset == off&&(match P.info? fl.type with | some i=>i.size != 0 | none=>false)
  | none=>false
 | _=>false
def lM(P:Program)(t e:TypeId)(size:Nat):Bool:=
 match P.underlying t,P.info? e with
 | some (.slice e'),some i=>e' == e&&i.size == size
 | _,_=>false
def gV(P:Program)(t:TypeId)(size:Nat):Bool:=
 match P.underlying t with
 | some (.slice e)=>match P.info? e with | some i=>i.size == size | none=>false
 | _=>false
def lL(P:Program)(t:TypeId):Bool:=match P.underlying t with | some (.slice _)=>true | _=>false
def mq(P:Program)(t:TypeId):Bool:=match P.underlying t with | some .string=>true | _=>false
theorem Cp{size:Nat}(h:fM P t agg size=true):
  (∀ w,(isAgg t).run P w=.ok agg w)/\(∀ w,(sizeOf t).run P w=.ok size w)/\∃ d i,P.underlying t=some d/\P.info? t=some i/\i.size=size/\AS d=agg:=by
 unfold fM at h;split at h
 .rename_i d i hd hi;simp at h;refine⟨λ w=>?_,λ w=>?_,d,i,hd,hi,h.1,h.2⟩
  .unfold isAgg;rw[ap,ax hd];rw[<-h.2];cases d <;> simp[AS]
  .simp[sizeOf,typeInfo,hi,h.1]
 .cases h
theorem N2{f:Nat}(h:fR P t f off=true):
  ∃ fs fl i,P.underlying t=some (.struct fs)/\fs[f]?=some fl/\fl.offset=off/\P.info? fl.type=some i/\i.size≠0:=by
 unfold fR at h;split at h
 .rename_i fs hfs;split at h
  .rename_i fl hfl;split at h
   .rename_i i hi;simp at h;exact⟨fs,fl,i,hfs,hfl,h.1,hi,h.2⟩
   .simp at h
  .cases h
 .cases h
theorem ZR{size:Nat}(h:lM P t e size=true):∃ i,P.underlying t=some (.slice e)/\P.info? e=some i/\i.size=size:=by
 unfold lM at h;split at h
 .rename_i e' i h1 h2;simp at h;obtain⟨rfl,h⟩:=h;exact⟨i,h1,h2,h⟩
 .cases h
theorem jZ{size:Nat}(h:gV P t size=true):∃ e,lM P t e size=true:=by
 unfold gV at h;split at h
 .rename_i e he;refine⟨e,?_⟩;unfold lM;rw[he];cases hi:P.info? e with
  | none=>rw[hi] at h;cases h
  | some i=>rw[hi] at h;simpa using h
 .cases h
theorem Dq(h:lL P t=true):∃ e,P.underlying t=some (.slice e):=by
 unfold lL at h;split at h
 .rename_i e he;exact⟨e,he⟩
 .cases h
theorem W5(h:mq P t=true):P.underlying t=some .string:=by
 unfold mq at h;split at h
 .assumption
 .cases h
theorem IL{a:Addr}(h:w.cell? a=some v):(load a).run P w=.ok v w:=by
 simp[load,Sem.run,h]
theorem IM{P:Program}{w:World}{b o:Nat}:∀ {cs:List Value} {i:Nat} {acc:Array Value},(∀ j u,cs[j]?=some u->w.cell? ⟨b,o+(i+j),none⟩=some u)->
  (loadCellsFrom ⟨b,o,none⟩ i cs.length acc).run P w=.ok (acc++cs.toArray) w
 | [],i,acc,_=>by simp[loadCellsFrom]
 |c::cs,i,acc,h=>by
  have h0:w.cell? ((⟨b,o,none⟩:Addr).add i)=some c:=by
   have:=h 0 c Z;unfold Addr.add;split
   .rename_i h0;subst h0;simpa using this
   .simpa using this
  simp only[aW,loadCellsFrom,ap,IL h0,ah];rw[IM (cs:=cs) (i:=i+1) λ j u hj=>by
   have:=h (j+1) u (by simpa using hj);rw[show i+1+j=i+(j+1) by omega];exact this]
  simp
theorem yA{b o:Nat}{cs:List Value}{size:Nat}(ht:fM P t agg size=true)(hl:cs.length=size)(h1:agg=false->size=1)
  (h:∀ j u,cs[j]?=some u->w.cell? ⟨b,o+j,none⟩=some u):(loadVar t ⟨b,o,none⟩).run P w=.ok (gI agg cs) w:=by
 obtain⟨ha,hs,_⟩:=Cp ht;unfold loadVar;cases agg with
 |true=>simp[ha,hs,loadCells];rw[<-hl,IM (by simpa using h)];simp[gI]
 |false=>
  have hl1:=hl.trans (h1 Z)
  match cs,hl1 with
  |[c],_=>simp[ha];simpa[gI] using IL (h 0 c Z)
section
variable{look:Nat->Option Dt}{α β:Type}[ey α][ey β]
theorem zG{x:α}(ho:o.op=.load t p)(hp:eC M look p (eX x))(ht:fM P t (ey.agg α) (ey.size α)=true:=by kernel_rfl):eP P M look o (dt x):=
 zz λ a w _ hl=>by
  obtain⟨b,off,cs,hv,_,hc,hr⟩:=hp w a hl;refine⟨gI _ cs,?_,cs,hr,Z⟩;unfold execOp;rw[ho];simp[Instr.loadAt,Instr.sureAddr,hv,yA ht (ey.len hr) ey.one hc]
theorem yV{x:α}(ho:o.op=.load t p)(hp:eC M look p (eY g off x))(ht:fM P t (ey.agg α) (ey.size α)=true:=by kernel_rfl):eP P M look o (dt x):=
 zz λ a w _ hl=>by
  obtain⟨b,_,hv,C,e,cs,hb,hc,hr⟩:=hp w a hl;refine⟨gI _ cs,?_,cs,hr,Z⟩;unfold execOp;rw[ho];have hc':∀ j u,cs[j]?=some u->w.cell? ⟨b,off+j,none⟩=some u:=λ j u hj=>by simp[World.cell?,hb,hc j u hj]
  simp[Instr.loadAt,Instr.sureAddr,hv,yA ht (ey.len hr) ey.one hc']
theorem JI{f b o:Nat}(h:fR P t f off=true):(Instr.fieldAt t (.pointer (some ⟨b,o,none⟩)) f).run P w=.ok (.pointer (some ⟨b,o+off,none⟩)) w:=by
 obtain⟨fs,fl,i,h1,h2,h3,h4,h5⟩:=N2 h;have h6:(sizeOf fl.type).run P w=.ok i.size w:=by simp[sizeOf,typeInfo,h4]
 have h7:(⟨b,o,none⟩:Addr).add fl.offset=⟨b,o+off,none⟩:=by
  unfold Addr.add;rw[h3];split
  .rename_i h0;subst h0;simp
  .rfl
 unfold Instr.fieldAt;simp[ax h1,h2,Instr.sureAddr,fieldPlace,h6,h5,h7]
theorem zI{f:Nat}{x:α}{get:α->β}(fl:eM get off)(ho:o.op=.fieldAddr t p f)(hp:eC M look p (eX x))(ht:fR P t f off=true:=by kernel_rfl):eP P M look o (eX (get x)):=
 zz λ a w _ hl=>by
  obtain⟨b,off',cs,hv,hb,hc,hr⟩:=hp w a hl;obtain⟨c,hcc,hr'⟩:=fl.sub hr;refine⟨_,?_,b,off'+off,c,Z,hb,λ j u hj=>by rw[bJ];exact hc _ u (hcc j u hj),hr'⟩;unfold execOp;rw[ho];simp[hv,JI ht]
theorem jH{f ob:Nat}{x:α}{get:α->β}(fl:eM get off)(ho:o.op=.fieldAddr t p f)(hp:eC M look p (eY g ob x))(ht:fR P t f off=true:=by kernel_rfl):eP P M look o (eY g (ob+off) (get x)):=
 zz λ a w _ hl=>by
  obtain⟨b,hg,hv,C,e,cs,hb,hc,hr⟩:=hp w a hl;obtain⟨c,hcc,hr'⟩:=fl.sub hr;refine⟨_,?_,b,hg,Z,C,e,c,hb,λ j u hj=>by rw[bJ];exact hc _ u (hcc j u hj),hr'⟩;unfold execOp;rw[ho];simp[hv,JI ht]
theorem RI{i:Operand}{xs:List α}{x:α}(ho:o.op=.indexAddr t s i)(ht':gV P t (ey.size α)=true)(hs:eC M look s (dt xs))(hi:eC M look i (dt (k:Int)))
  (hx:xs[k]?=some x):eP P M look o (eX x):=
 zz λ a w _ hl=>by
  obtain⟨e,ht⟩:=jZ ht';obtain⟨cs,⟨A,c,hcs,h1,h2,h3⟩,hv⟩:=hs w a hl;have hiv:=yq.1 (hi w a hl);have hk:=(ai.1 hx).1;rcases h3 with h3 | ⟨b,off,cells,hA,hb,hc,hr⟩
  .rw[h3] at hk;simp at hk
  .obtain⟨ti,ht1,ht2,ht3⟩:=ZR ht;obtain⟨c',hcc,hr'⟩:=tH hr hx;refine⟨.pointer _,?_,b,off+k*ey.size α,c',Z,hb,λ j u hj=>by rw[bJ];exact hc _ u (hcc j u hj),hr'⟩;have hadd:(⟨b,off,none⟩:Addr).add (k*ey.size α)=⟨b,off+k*ey.size α,none⟩:=by
    unfold Addr.add;split
    .rename_i h0;rw[h0];simp
    .rfl
   unfold execOp;rw[ho];subst hcs hA;simp[gI,ey.agg] at hv;simp[hv,hiv,Instr.indexAt,asIntOf,ax ht1,sizeOf,typeInfo,ht2,ht3,hk,hadd]
theorem wO{i:Operand}{xs:List α}{x:α}(ho:o.op=.indexAddr t s i)(hs:eC M look s (dt xs))(hi:eC M look i (dt m))
  (hm:m=(k:Int)) (hx:xs[k]?=some x)(ht':gV P t (ey.size α)=true:=by kernel_rfl):eP P M look o (eX x):=by subst hm;exact RI ho ht' hs hi hx
theorem RL{xs:List α}(ho:o.op=.call { callee:=.builtin .len,args:=#[s],argTypes:=#[t] })(ht:lL P t=true)(hs:eC M look s (dt xs)):
  eP P M look o (dt (xs.length:Int)):=
 zz λ a w _ hl=>by
  obtain⟨cs,⟨A,c,hcs,_⟩,hv⟩:=hs w a hl;obtain⟨e,ht1⟩:=Dq ht;subst hcs;simp[gI,ey.agg] at hv;refine⟨.int .i64 xs.length,?_,yq.2 Z⟩;unfold execOp;rw[ho];simp[resolve,invoke,builtin,Builtin.len_,hv,ax ht1,goInt]
theorem rG{x:Str}(ho:o.op=.call { callee:=.builtin .len,args:=#[s],argTypes:=#[t] })(hs:eC M look s (dt x))(ht:mq P t=true:=by kernel_rfl):
  eP P M look o (dt (x.l.length:Int)):=
 zz λ a w _ hl=>by
  have hv:=(xT.1 (hs w a hl)).1;refine⟨.int .i64 _,?_,yq.2 Z⟩;unfold execOp;rw[ho];simp[resolve,invoke,builtin,Builtin.len_,hv,ik,ax (W5 ht),goInt];rfl
end
section
variable{look:Nat->Option Dt}
def gY:BinOp->Int->Int->Int
 | .add,x,y=>x+y
 | .sub,x,y=>x - y
 | .mul,x,y=>x*y
 | _,_,_=>0
theorem vz(n:Int)(h:-9223372036854775808<=n/\n<=9223372036854775807):IntKind.i64.wrap n=n:=IntWalk.i64_in n h
theorem Zw{n:Int}(ho:o.op=.binOp op t x y t')(hx:eC M look x (dt m))(hy:eC M look y (dt n))
  (hr:-9223372036854775808<=gY op m n/\gY op m n<=9223372036854775807)(hop:op=.add\/op=.sub\/op=.mul:=by decide):eP P M look o (dt (gY op m n)):=
 zz λ a w _ hl=>⟨.int .i64 _,by
  have h1:=yq.1 (hx w a hl);have h2:=yq.1 (hy w a hl);have hw:=vz _ hr;unfold execOp;rw[ho];rcases hop with rfl | rfl | rfl <;> (simp[gY] at hw ⊢;simp[h1,h2,eqGuard,binOp,Op.intArith,hw]),yq.2 Z⟩
theorem pK{m n:Str}(ho:o.op=.binOp .add t x y t')(hx:eC M look x (dt m))(hy:eC M look y (dt n))(hr:m.l.length+n.l.length<=maxLen):
  eP P M look o (dt (⟨m.l++n.l⟩:Str)):=
 zz λ a w _ hl=>⟨ik ⟨m.l++n.l⟩,by
  have h1:=(xT.1 (hx w a hl)).1;have h2:=(xT.1 (hy w a hl)).1;have e1:(ByteArray.mk ⟨m.l⟩).size=m.l.length:=rfl;have e2:(ByteArray.mk ⟨n.l⟩).size=n.l.length:=rfl;have hr':¬ (9223372036854775807:Int)<((m.l.length:Nat):Int)+((n.l.length:Nat):Int):=by unfold maxLen at hr;omega
  have e3:(ByteArray.mk ⟨m.l⟩++ByteArray.mk ⟨n.l⟩)=ByteArray.mk ⟨m.l++n.l⟩:=by
   apply ByteArray.ext;rw[ByteArray.data_append];exact List.append_toArray ..
  unfold execOp;rw[ho];simp[h1,h2,eqGuard,binOp,Op.stringOp,ik,e1,e2,IntKind.max,IntKind.bits,IntKind.signed,hr',e3],xT.2 ⟨Z,by
   show(m.l++n.l).length<=maxLen;have:(m.l++n.l).length=m.l.length+n.l.length:=ao ..;omega⟩⟩
theorem vi{i:Operand}{x:Str}{b:UInt8}(ho:o.op=.index t s i)(hs:eC M look s (dt x))(hi:eC M look i (dt (k:Int)))(hx:x.l[k]?=some b)(ht:mq P t=true:=by kernel_rfl):
  eP P M look o (dt b):=
 zz λ a w _ hl=>⟨.int .u8 b.toNat,by
  have h1:=(xT.1 (hs w a hl)).1;have h2:=yq.1 (hi w a hl);have e1:(ByteArray.mk ⟨x.l⟩)[k]?=some b:=by
   have hk:=(ai.1 hx).1;have hk':k<(ByteArray.mk ⟨x.l⟩).size:=hk;rw[getElem?_pos _ k hk']
   congr 1
   have:=(ai.1 hx).2;rw[<-this];rfl
  unfold execOp;rw[ho];simp[h1,h2,Instr.index,asIntOf,ax (W5 ht),ik,e1],rf.2 Z⟩
theorem Cb(ht:mq P t=true)(x:Str)(lo hi:Option Int)(h1:0<=lo.getD 0)(h2:lo.getD 0<=hi.getD x.l.length)(h3:hi.getD x.l.length<=x.l.length)(w:World):
  (Instr.sliceAt t (ik x) (lo.map (.int .i64)) (hi.map (.int .i64)) none).run P w=.ok (ik ⟨(x.l.take (hi.getD x.l.length).toNat).drop (lo.getD 0).toNat⟩) w:=by
 have e0:(ByteArray.mk ⟨x.l⟩).size=x.l.length:=rfl;have e1:∀ a b:Nat,(ByteArray.mk ⟨x.l⟩).extract a b=ByteArray.mk ⟨(x.l.take b).drop a⟩:=by
  intro a b;rw[ByteArray.extract_mk]
  congr 1
  apply Array.ext';simp[cY]
 cases lo with
 |none=>
  cases hi with
  |none=>
   simp[Instr.sliceAt,Instr.slice,ax (W5 ht),ik,Instr.sliceBounds]
   try rfl
  |some j=>
   simp only[ep,dI] at h1 h2 h3;obtain⟨j,rfl⟩:=aC (cu h1 h2);have e2:=e1 0 j;have h4:j<=x.l.length:=by omega
   simp[Instr.sliceAt,Instr.slice,ax (W5 ht),ik,Instr.sliceBounds,Instr.sliceBound,asIntOf,e0,e2,h4]
   try rfl
 |some i=>
  obtain⟨i,rfl⟩:=aC h1;cases hi with
  |none=>
   simp at h2 h3;have e2:=e1 i x.l.length;have h4:i<=x.l.length:=by omega
   simp[Instr.sliceAt,Instr.slice,ax (W5 ht),ik,Instr.sliceBounds,Instr.sliceBound,asIntOf,e0,e2,h4]
   try rfl
  |some j=>
   simp at h2 h3;obtain⟨j,rfl⟩:=aC (cu h1 h2);have e2:=e1 i j;have h4:i<=j:=by omega
   have h5:j<=x.l.length:=by omega
   simp[Instr.sliceAt,Instr.slice,ax (W5 ht),ik,Instr.sliceBounds,Instr.sliceBound,asIntOf,e0,e2,h4,h5]
   try rfl
theorem CY{x:Str}{n m:Nat}(h:x.l.length<=maxLen):List.length ((x.l.take n).drop m)<=maxLen:=by
 have h1:((x.l.take n).drop m).length<=x.l.length:=by simp;omega
 exact aS h1 h
theorem RH{l:Operand}{x:Str}{i j:Int}(ho:o.op=.slice t s (some l) (some h) none)(hs:eC M look s (dt x))(hl:eC M look l (dt i))(hh:eC M look h (dt j))
  (h1:0<=i) (h2:i<=j) (h3:j<=x.l.length)(ht:mq P t=true:=by kernel_rfl):eP P M look o (dt (⟨(x.l.take j.toNat).drop i.toNat⟩:Str)):=
 zz λ a w _ hk=>⟨ik ⟨(x.l.take j.toNat).drop i.toNat⟩,by
  have:=Cb ht x (some i) (some j) h1 h2 h3 w;unfold execOp;rw[ho];simp at this;simp[(xT.1 (hs w a hk)).1,yq.1 (hl w a hk),yq.1 (hh w a hk),this],xT.2 ⟨Z,CY (xT.1 (hs w a hk)).2⟩⟩
theorem Gv{l:Operand}{x:Str}{i:Int}(ho:o.op=.slice t s (some l) none none)(ht:mq P t=true)(hs:eC M look s (dt x))(hl:eC M look l (dt i))
  (h1:0<=i) (h2:i<=x.l.length):eP P M look o (dt (⟨x.l.drop i.toNat⟩:Str)):=
 zz λ a w _ hk=>⟨ik ⟨x.l.drop i.toNat⟩,by
  have:=Cb ht x (some i) none h1 h2 (cG _) w;unfold execOp;rw[ho];simp at this;simp[(xT.1 (hs w a hk)).1,yq.1 (hl w a hk),this],xT.2 ⟨Z,by
   have:=CY (n:=x.l.length) (m:=i.toNat) (xT.1 (hs w a hk)).2;rwa[aQ] at this⟩⟩
theorem Gu{x:Str}{j:Int}(ho:o.op=.slice t s none (some h) none)(ht:mq P t=true)(hs:eC M look s (dt x))(hh:eC M look h (dt j))
  (h2:0<=j) (h3:j<=x.l.length):eP P M look o (dt (⟨x.l.take j.toNat⟩:Str)):=
 zz λ a w _ hk=>⟨ik ⟨x.l.take j.toNat⟩,by
  have:=Cb ht x none (some j) (cG _) h2 h3 w;unfold execOp;rw[ho];simp at this;simp[(xT.1 (hs w a hk)).1,yq.1 (hh w a hk),this],xT.2 ⟨Z,by
   have:=CY (n:=j.toNat) (m:=0) (xT.1 (hs w a hk)).2;simpa using this⟩⟩
theorem W6{α:Type}[ey α]{M:Nat->Prop}{w:World}:∀ {cells:List Value} {xs:List α} (n:Nat),n<=xs.length->gQ M w cells xs->gQ M w (cells.drop (n*ey.size α)) (xs.drop n)
 | cells,xs,0,_,h=>by simpa using h
 | cells,[],n+1,hn,_=>by simp at hn
 |cells,x::xs,n+1,hn,⟨c,r,h,h1,h2⟩=>by
  have:=W6 n (by simpa using hn) h2;rw[h,bY,cK,dD,ey.len h1,ci (by rw[ey.len h1];omega)];simpa[du] using this
theorem W7{α:Type}[ey α]{M:Nat->Prop}{w:World}:∀ {cells:List Value} {xs:List α} (n:Nat),n<=xs.length->gQ M w cells xs->gQ M w (cells.take (n*ey.size α)) (xs.take n)
 | cells,xs,0,_,h=>by simp[gQ]
 | cells,[],n+1,hn,_=>by simp at hn
 |cells,x::xs,n+1,hn,⟨c,r,h,h1,h2⟩=>by
  have:=W7 n (by simpa using hn) h2;refine⟨c,r.take (n*ey.size α),?_,h1,this⟩;rw[h,bY,cK,cl,ey.len h1,aM (by rw[ey.len h1];omega)];simp
theorem W8(ht:lM P t e sz=true)(A:Option Addr)(n c:Nat)(lo hi:Option Int)(h2:lo.getD 0<=hi.getD n)(h3:hi.getD n<=c)(w:World)(h1:0<=lo.getD 0:=by simp):
  (Instr.sliceAt t (.slice A n c) (lo.map (.int .i64)) (hi.map (.int .i64)) none).run P w=
   .ok (.slice (if c=(lo.getD 0).toNat then A else A.map (·.add ((lo.getD 0).toNat*sz))) ((hi.getD n).toNat - (lo.getD 0).toNat) (c - (lo.getD 0).toNat)) w:=by
 obtain⟨ti,ht1,ht2,ht3⟩:=ZR ht;cases lo with
 |none=>
  cases hi with
  |none=>simp[Instr.sliceAt,Instr.slice,ax ht1,Instr.sliceBounds,sizeOf,typeInfo,ht2]
  |some j=>
   simp only[ep,dI] at h1 h2 h3;obtain⟨j,rfl⟩:=aC (cu h1 h2);have h4:j<=c:=by omega
   simp[Instr.sliceAt,Instr.slice,ax ht1,Instr.sliceBounds,Instr.sliceBound,asIntOf,sizeOf,typeInfo,ht2,h4]
 |some i=>
  obtain⟨i,rfl⟩:=aC h1;cases hi with
  |none=>
   simp at h2 h3;have h4:i<=n:=by omega
   simp[Instr.sliceAt,Instr.slice,ax ht1,Instr.sliceBounds,Instr.sliceBound,asIntOf,sizeOf,typeInfo,ht2,ht3,h4]
  |some j=>
   simp at h2 h3;obtain⟨j,rfl⟩:=aC (cu h1 h2);have h4:i<=j:=by omega
   have h5:j<=c:=by omega
   simp[Instr.sliceAt,Instr.slice,ax ht1,Instr.sliceBounds,Instr.sliceBound,asIntOf,sizeOf,typeInfo,ht2,ht3,h4,h5]
theorem jI(b o n:Nat):(⟨b,o,none⟩:Addr).add n=⟨b,o+n,none⟩:=by
 unfold Addr.add;split
 .rename_i h;subst h;simp
 .rfl
section
variable{α:Type}[ey α]
theorem R9{n c:Nat}{xs:List α}(h:ey.rdc M w [.slice A n c] xs)(h1:i<=j)(h2:j<=xs.length):
  ey.rdc M w [.slice (if c=i then A else A.map (·.add (i*ey.size α))) (j - i) (c - i)] ((xs.take j).drop i):=by
 obtain⟨A',c',hv,h3,h4,h5⟩:=h;simp at hv;obtain⟨rfl,rfl,rfl⟩:=hv;have hlen:((xs.take j).drop i).length=j - i:=by simp;omega
 refine⟨_,c - i,by rw[hlen],by omega,by omega,?_⟩;rcases h5 with rfl | ⟨b,o,cells,rfl,hb,hc,hr⟩
 .left;simp
 .by_cases hij:i=j
  .left;subst hij;apply au;rw[hlen];omega
  .right
   rw[Kf (by omega)];refine⟨b,o+i*ey.size α,(cells.take (j*ey.size α)).drop (i*ey.size α),by simp[jI],hb,λ q u hq=>?_,?_⟩
   .rw[bJ];apply hc;rw[bL,aw] at hq;split at hq
    .exact hq
    .cases hq
   .have:=W6 i (by simp;omega) (W7 j h2 hr);exact this
theorem RR{xs:List α}(ho:o.op=.slice t s none (some h) none)(ht':gV P t (ey.size α)=true)(hs:eC M look s (dt xs))(hh:eC M look h (dt (j:Int)))
  (h2:j<=xs.length):eP P M look o (dt (xs.take j)):=
 zz λ a w _ hk=>by
  obtain⟨e,ht⟩:=jZ ht';obtain⟨cs,hcs,hv⟩:=hs w a hk;have hcs':=hcs;obtain⟨A,c,rfl,h3,h4,_⟩:=hcs';simp[gI,ey.agg] at hv;have hrun:=W8 ht A xs.length c none (some (j:Int)) (by simp) (by simp;omega) w;simp only[dO,Option.map_none,dI,ep,ak,Int.toNat_zero] at hrun;have hr:=R9 hcs (aq j) h2;rw[bR] at hr;refine⟨_,?_,_,hr,Z⟩;unfold execOp;rw[ho];simp[hv,yq.1 (hh w a hk),hrun];rfl
theorem vI{xs:List α}{n:Int}(ho:o.op=.slice t s none (some h) none)(hs:eC M look s (dt xs))(hh:eC M look h (dt n))
  (hn:n=(j:Int)) (h2:j<=xs.length)(ht':gV P t (ey.size α)=true:=by kernel_rfl):eP P M look o (dt (xs.take j)):=by subst hn;exact RR ho ht' hs hh h2
theorem Qr{β:Type}(ob:Obj)(k:Nat->Sem β)(w:World):(Sem.new ob k).run P w=(k w.heap.size).run P (w.alloc ob):=rfl
theorem JT{v:Operand}{x:α}(ho:o.op=.box t v)(hx:eC M look v (dt x)):eP P M look o (eX x):=
 λ a w hm hl=>by
  obtain⟨cs,hr,hv⟩:=hx w a hl;have hcells:(a.eval v).cells=cs.toArray:=by
   rw[hv];unfold gI;cases h:ey.agg α with
   | true=>rfl
   |false=>
    have h1:=(ey.len hr).trans (ey.one h)
    match cs,h1 with
    |[c],_=>have:=ey.oneCell hr c (by simp);cases c <;> first | rfl | (simp[Value.oneCell'] at this)
  refine fb.iw (w':=w.alloc (.cells cs.toArray t)) ?_ ⟨fy.alloc _ _,w.heap.size,0,cs,Z,λ h=>absurd (hm _ h) (cO _),λ j u hj=>?_,ey.stable hr (kA.kW (fy.alloc _ _))⟩
  .unfold execOp;rw[ho];simp[Instr.box,newVar,newRow,newObj,hcells,Qr]
  .rw[aD,dJ];simpa using hj
end
section
variable{α β:Type}[ey α][ey β]
end
end
theorem VM:∀ {k:Nat} {cells:Array Value},off+k+c.length<=cells.size->
  ((c.zipIdx k).foldl (λ cs (p:Value×Nat)=>cs.setIfInBounds (off+p.2) p.1) cells).toList=cells.toList.take (off+k)++c++cells.toList.drop (off+k+c.length):=by
 induction c with
 | nil=>intro k cells _;simp
 |cons x c ih=>
  intro k cells h;simp at h;simp;rw[ih (by simp;omega)];simp;have hlt:off+k<cells.toList.length:=by simp;omega
  rw[List.take_set,List.drop_set_of_lt (by omega)];rw[show off+_=off+k+1 by omega,dG hlt];have h2:(List.take (off+k) cells.toList).length=off+k:=by simp;omega
  rw[cZ _ _ (by omega),h2];simp[bJ,cK,Nat.add_left_comm]
theorem N6{v:Array Value}{cells:Array Value}(h:off+v.size<=cells.size):
  (v.zipIdx.foldl (λ cs (p:Value×Nat)=>cs.setIfInBounds (off+p.2) p.1) cells).toList=cells.toList.take off++v.toList++cells.toList.drop (off+v.size):=by
 rw[<-Array.foldl_toList,Array.toList_zipIdx];have:=VM (c:=v.toList) (k:=0) (by simpa using h);simpa using this
def W0(l:List (List Value))(i:Nat):Nat:=((l.take i).map List.length).sum
theorem N1{l:List (List Value)}:∀ {i:Nat} {c:List Value},(h:i<l.length)->c.length=(l[i]).length->l.flatten.take (W0 l i)++c++l.flatten.drop (W0 l i+c.length)=(l.set i c).flatten:=by
 induction l with
 | nil=>intro i c h;simp at h
 |cons x l ih=>
  intro i c h hc;cases i with
  | zero=>simp at hc;simp[W0,hc]
  |succ i=>
   have hi:i<l.length:=by simpa using h
   have:=ih hi (by simpa using hc);simp;rw[<-this];have e:W0 (x::l) (i+1)=x.length+W0 l i:=by simp[W0]
   rw[e];simp[cl,dD,bJ];rw[aM (by omega),ci (by omega)];simp
theorem Ry{l:List (List Value)}(h:i<l.length)(hc:c.length=(l[i]).length):W0 (l.set i c) j=W0 l j:=by
 unfold W0
 congr 1
 rw[List.take_set,el,hc];apply aZ;intro n;by_cases hn:i=n
 .subst hn;by_cases hj:i<j
  .rw[aI (by simp;omega)];simp[hj,aa h]
  .rw[bh (by simp;omega),bh (by simp;omega)]
 .rw[aG hn]
theorem E3:∀ {parts:List (Nat×Value)} {cells:Array Value} {l:List (List Value)},cells.toList=l.flatten->
  (∀ i v,(i,v)∈parts->∃ h:i<l.length,place i=some (W0 l i,v.cells.size)/\v.cells.size=(l[i]).length)->
  ∃ cells',Instr.fill place cells parts=some cells'/\cells'.toList=(parts.foldl (λ l p=>l.set p.1 p.2.cells.toList) l).flatten:=by
 intro parts
 induction parts with
 | nil=>intro cells l h _;exact⟨cells,Z,h⟩
 |cons p parts ih=>
  obtain⟨i,v⟩:=p;intro cells l h hp;obtain⟨hi,hpl,hsz⟩:=hp i v (by simp);have hlen:W0 l i+v.cells.size<=cells.size:=by
   rw[<-aY (xs:=cells),h,hsz]
   clear hp ih
   unfold W0;have h1:l.flatten=(l.take i).flatten++(l[i]++(l.drop (i+1)).flatten):=by
    rw[<-cW,<-bt hi,<-List.flatten_append,aV]
   rw[h1,ao,ao,List.length_flatten];omega
  have hcell:(v.cells.zipIdx.foldl (λ cs (p:Value×Nat)=>cs.setIfInBounds (W0 l i+p.2) p.1) cells).toList=(l.set i v.cells.toList).flatten:=by
   rw[N6 hlen,h];have:=N1 (c:=v.cells.toList) hi (by simpa using hsz);simpa using this
  have hnext:=ih hcell (λ j u hj=>by
   obtain⟨hj',h1,h2⟩:=hp j u (by simp[hj]);have hc:v.cells.toList.length=(l[i]).length:=by simpa using hsz
   refine⟨by simpa using hj',by rw[Ry hi hc];exact h1,?_⟩;by_cases hij:i=j
   .subst hij;simp[h2,hc]
   .rw[List.getElem_set_ne hij];exact h2)
  obtain⟨cells',h1,h2⟩:=hnext;refine⟨cells',?_,by simpa using h2⟩;unfold Instr.fill;simp only[hpl];rw[Kf (by simp;omega)];exact h1
def Wj:List Nat->List Value->List (List Value)
 | [],_=>[]
 | n::ns,l=>l.take n::Wj ns (l.drop n)
theorem Qs:∀ {ns:List Nat} {l:List Value},ns.sum=l.length->(Wj ns l).flatten=l
 | [],l,h=>(au (by simpa using h.symm)).symm
 |n::ns,l,h=>by
  have h':ns.sum=(l.drop n).length:=by simp at h ⊢;omega
  simp[Wj,Qs h']
theorem XN:∀ {ns:List Nat} {l:List Value},(Wj ns l).length=ns.length
 | [],_=>rfl
 | _::ns,l=>by simp[Wj,XN (ns:=ns)]
theorem Dr:∀ {ns:List Nat} {l:List Value} {i:Nat},ns.sum=l.length->(h:i<ns.length)->((Wj ns l)[i]'(by rw[XN];exact h)).length=ns[i]
 | n::ns,l,0,hs,_=>by simp[Wj] at hs ⊢;omega
 |n::ns,l,i+1,hs,h=>by
  have h':ns.sum=(l.drop n).length:=by simp at hs ⊢;omega
  have:=Dr (ns:=ns) (l:=l.drop n) (i:=i) h' (by simpa using h);simpa[Wj] using this
theorem CZ:∀ {ns:List Nat} {l:List Value} {i:Nat},ns.sum=l.length->i<=ns.length->W0 (Wj ns l) i=(ns.take i).sum
 | ns,l,0,_,_=>by simp[W0]
 | [],l,i+1,_,h=>by simp at h
 |n::ns,l,i+1,hs,h=>by
  have h':ns.sum=(l.drop n).length:=by simp at hs ⊢;omega
  have:=CZ (ns:=ns) (l:=l.drop n) (i:=i) h' (by simpa using h);have e:W0 (Wj (n::ns) l) (i+1)=min n l.length+W0 (Wj ns (l.drop n)) i:=by simp[W0,Wj]
  rw[e,this];simp at hs ⊢;omega
def pf(P:Program)(t:TypeId)(ns:List Nat):Bool:=
 match P.underlying t with
 |some (.struct fs)=>fs.size == ns.length&&(List.range ns.length).all λ i=>match fs[i]? with
  | some f=>f.offset == (ns.take i).sum&&(match P.info? f.type with | some ti=>ti.size == ns.getD i 0 | none=>false)
  | none=>false
 | _=>false
def Zx(P:Program)(t:TypeId)(ns:List Nat):Option (List (List Value)):=
 match P.info? t with
 |some i=>match i.zero with
  | some v=>if v.cells.size=ns.sum then some (Wj ns v.cells.toList) else none
  | none=>none
 | none=>none
theorem MY(h:pf P t ns=true):∃ fs,P.underlying t=some (.struct fs)/\fs.size=ns.length/\
  ∀ i,(hi:i<ns.length)->∃ f ti,fs[i]?=some f/\f.offset=(ns.take i).sum/\P.info? f.type=some ti/\ti.size=ns[i]:=by
 unfold pf at h;split at h
 .rename_i fs hfs;simp only[ac,beq_iff_eq] at h;refine⟨fs,hfs,h.1,λ i hi=>?_⟩;have:=am.1 h.2 i (aA.2 hi);split at this
  .rename_i f hf;simp at this;obtain⟨h1,h2⟩:=this;split at h2
   .rename_i ti hti;exact⟨f,ti,hf,h1,hti,by simpa[hi] using h2⟩
   .cases h2
  .cases this
 .cases h
theorem UZ(h:Zx P t ns=some zs):∃ i v,P.info? t=some i/\i.zero=some v/\ns.sum=v.cells.toList.length/\zs=Wj ns v.cells.toList:=by
 unfold Zx at h;split at h
 .rename_i i hi;split at h
  .rename_i v hv;split at h
   .rename_i hs;injection h with h;exact⟨i,v,hi,hv,by simpa using hs.symm,h.symm⟩
   .cases h
  .cases h
 .cases h
section
variable{look:Nat->Option Dt}{α:Type}[ey α]
theorem ZS{cs:List Value}{x:α}(hr:ey.rdc M w cs x):(gI (ey.agg α) cs).cells.toList=cs:=by
 unfold gI;cases h:ey.agg α with
 | true=>rfl
 |false=>
  have h1:=(ey.len hr).trans (ey.one h)
  match cs,h1 with
  |[c],_=>have:=ey.oneCell hr c (by simp);cases c <;> first | rfl | (simp[Value.oneCell'] at this)
theorem eC.cells{opd:Operand}{x:α}(h:eC M look opd (dt x)){w:World}{a:Act}(hl:∀ s y,look s=some y->y.rd M w (Act.at a s)):ey.rdc M w (a.eval opd).cells.toList x:=by
 obtain⟨cs,hr,hv⟩:=h w a hl;rw[hv,ZS hr];exact hr
theorem Kn{P:Program}{w:World}:∀ (l:List Field),(∀ f∈l,∃ ti,P.info? f.type=some ti)->
  (l.mapM (m:=Sem) λ f=>do pure (f.offset,<-sizeOf f.type)).run P w=.ok (l.map λ f=>(f.offset,((P.info? f.type).map (·.size)).getD 0)) w
 | [],_=>by simp
 |f::l,h=>by
  obtain⟨ti,hti⟩:=h f (by simp);have:=Kn (P:=P) (w:=w) l (λ g hg=>h g (by simp[hg]));simp[sizeOf,typeInfo,hti] at this ⊢;simp[this]
theorem Ds{parts:List (Nat×Value)}(hb:pf P t ns=true)(hz:Zx P t ns=some zs)
  (hs:∀ p∈parts,p.1<ns.length/\p.2.cells.size=ns.getD p.1 0) (w:World):
  ∃ cells:Array Value,(Instr.build t parts.toArray).run P w=.ok (.agg cells) w/\cells.toList=(parts.foldl (λ l p=>l.set p.1 p.2.cells.toList) zs).flatten:=by
 obtain⟨fs,h1,h2,h3⟩:=MY hb;obtain⟨i,v,h4,h5,h6,rfl⟩:=UZ hz;have hall:∀ f∈fs.toList,∃ ti,P.info? f.type=some ti:=by
  intro f hf;obtain⟨j,hj⟩:=aR hf;have hj':j<ns.length:=by rw[<-h2];exact(aB.1 (by simpa using hj)).1
  obtain⟨f',ti,g1,_,g3,_⟩:=h3 j hj';have:f'=f:=by
   have:fs[j]?=some f:=by simpa using hj
   rw[this] at g1;injection g1 with g1;exact g1.symm
  subst this;exact⟨ti,g3⟩
 have hplaces:=Kn (w:=w) fs.toList hall;have hfill:=E3 (place:=λ j=>((fs.toList.map λ f=>(f.offset,((P.info? f.type).map (·.size)).getD 0)).toArray)[j]?) (Qs h6).symm (λ j u hj=>by
  obtain⟨hlt,hsz⟩:=hs _ hj;simp only at hlt hsz;refine⟨by rw[XN];exact hlt,?_,?_⟩
  .obtain⟨f,ti,g1,g2,g3,g4⟩:=h3 j hlt;have g1':fs.toList[j]?=some f:=by simpa using g1
   simp[g1,g2,g3,g4,CZ h6 (Nat.le_of_lt hlt),hsz,hlt]
  .rw[Dr h6 hlt,hsz];simp[hlt])
 obtain⟨cells,g1,g2⟩:=hfill;refine⟨cells,?_,g2⟩;unfold Instr.build;have hmap:(fs.mapM (m:=Sem) λ f=>do pure (f.offset,<-sizeOf f.type)).run P w=.ok ((fs.toList.map λ f=>(f.offset,((P.info? f.type).map (·.size)).getD 0)).toArray) w:=by
  have e:fs.mapM (λ f=>do pure (f.offset,<-sizeOf f.type))=Functor.map List.toArray (fs.toList.mapM (λ f=>do pure (f.offset,<-sizeOf f.type))):=by
   rw[Array.mapM_eq_mapM_toList]
  rw[e,Sem.run_map,hplaces];rfl
 have hzero:(zeroValue t).run P w=.ok v w:=by simp[zeroValue,typeInfo,h4,h5]
 simp only[ap,hzero,ax h1,ah,hmap];rw[g1];rfl
theorem yf{parts:List (Nat×Operand)}{x:α}(hagg:ey.agg α=true)(ho:o.op=.build t parts.toArray)
  (hs:∀ (w:World) (a:Act),(∀ s y,look s=some y->y.rd M w (Act.at a s))->∀ p∈parts,p.1<ns.length/\(a.eval p.2).cells.toList.length=ns.getD p.1 0)
  (hx:∀ (w:World) (a:Act),(∀ s y,look s=some y->y.rd M w (Act.at a s))->ey.rdc M w ((parts.foldl (λ l p=>l.set p.1 (a.eval p.2).cells.toList) zs).flatten) x)(hb:pf P t ns=true:=by kernel_rfl)(hz:Zx P t ns=some zs:=by kernel_rfl):eP P M look o (dt x):=
 zz λ a w _ hl=>by
  obtain⟨cells,h1,h2⟩:=Ds (parts:=parts.map λ p=>(p.1,a.eval p.2)) hb hz (λ p hp=>by
   obtain⟨q,hq,rfl⟩:=bi.1 hp;have:=hs w a hl q hq;exact⟨this.1,by simpa using this.2⟩) w
  refine⟨.agg cells,?_,cells.toList,?_,by rw[hagg];rfl⟩
  .unfold execOp;rw[ho];have e:(parts.toArray.map λ p:Nat×Operand=>(p.1,a.eval p.2))=(parts.map λ p=>(p.1,a.eval p.2)).toArray:=by simp
   simp[e,h1]
  .rw[h2,dV];exact hx w a hl
theorem Cw{w:World}:∀ {l:List (List Value)} {xs:List α},l.length=xs.length->(∀ (i:Nat) (c:List Value) (x:α),l[i]?=some c->xs[i]?=some x->ey.rdc M w c x)->gQ M w l.flatten xs
 | [],[],_,_=>rfl
 | [],_::_,h,_=>by simp at h
 | _::_,[],h,_=>by simp at h
 | c::l,x::xs,h,hr=>⟨c,l.flatten,by simp,hr 0 c x Z Z,Cw (by simpa using h) λ i c' x' h1 h2=>hr (i+1) c' x' (by simpa using h1) (by simpa using h2)⟩
inductive OpdsR (M:Nat->Prop) (look:Nat->Option Dt):List Operand->List α->Prop
 | nil:OpdsR M look [] []
 | cons {opd:Operand} {x:α} {l:List Operand} {xs:List α} (h:eC M look opd (dt x)) (r:OpdsR M look l xs):OpdsR M look (opd::l) (x::xs)
theorem OpdsR.get{xs:List α}(h:OpdsR M look l xs):l.length=xs.length/\∀ (i:Nat) (opd:Operand) (x:α),l[i]?=some opd->xs[i]?=some x->eC M look opd (dt x):=by
 induction h with
 | nil=>exact⟨Z,λ i opd x h=>by simp at h⟩
 |cons h r ih=>
  refine⟨by simp[ih.1],λ i opd x h1 h2=>?_⟩;cases i with
  | zero=>simp at h1 h2;subst h1 h2;exact h
  | succ i=>exact ih.2 i opd x (by simpa using h1) (by simpa using h2)
theorem Ig{β:Type}{f:β->List Value}:∀ {vs:List β} {k:Nat} {l:List (List Value)},l.length=k+vs.length->(vs.zipIdx k).foldl (λ l (p:β×Nat)=>l.set p.2 (f p.1)) l=l.take k++vs.map f
 | [],k,l,h=>by simp at h;simp[<-h]
 |v::vs,k,l,h=>by
  simp only[List.zipIdx_cons,bP,cM];simp only[aW] at h;rw[Ig (vs:=vs) (k:=k+1) (l:=l.set k (f v)) (by simp;omega)];rw[dG (by simp;omega)];simp[List.take_set_of_le]
theorem Qt{parts:List Value}{size:Nat}(ht:lM P t e size=true){z:Value}(hi:P.info? e=some ti)(hz:ti.zero=some z)
  (hn:parts.length*size<=16777216) (hs:∀ v∈parts,v.cells.size=size) (w:World):
  ∃
   cells:Array Value,(Instr.buildSlice t parts.length ((parts.zipIdx.map λ p=>(p.2,p.1)).toArray)).run P w=.ok (.slice (some ⟨w.heap.size,0,none⟩) parts.length parts.length) (w.alloc (.cells cells e))/\
   cells.toList=(parts.map λ v=>v.cells.toList).flatten:=by
 obtain⟨ti',h1,h2,h3⟩:=ZR ht;rw[hi] at h2;injection h2 with h2;subst h2;generalize hzc:((Array.range (parts.length*size)).map λ i=>z.cells[i % z.cells.size]!)=zc;have hzl:zc.toList.length=parts.length*size:=by rw[<-hzc];simp
 have hsum:(List.replicate parts.length size).sum=zc.toList.length:=by rw[hzl];simp
 have hfill:=E3 (place:=λ i=>some (i*size,size)) (parts:=parts.zipIdx.map λ p=>(p.2,p.1)) (Qs hsum).symm (λ j u hj=>by
  obtain⟨q,hq,hqe⟩:=bi.1 hj;injection hqe with e1 e2;subst e1 e2;have hq':=List.mem_zipIdx hq;have hlt:q.2<parts.length:=by omega
  have hmem:q.1∈parts:=by rw[hq'.2.2];exact ba _
  have hlt':q.2<(List.replicate parts.length size).length:=by simpa using hlt
  refine⟨by rw[XN];exact hlt',?_,?_⟩
  .rw[CZ hsum (Nat.le_of_lt hlt'),hs _ hmem];simp[List.take_replicate];rw[bz (Nat.le_of_lt hlt)]
  .rw[Dr hsum hlt',hs _ hmem];simp)
 obtain⟨cells,g1,g2⟩:=hfill;refine⟨cells,?_,?_⟩
 .have hsz:(sizeOf e).run P w=.ok size w:=by simp[sizeOf,typeInfo,hi,h3]
  have hzero:(zeroValue e).run P w=.ok z w:=by simp[zeroValue,typeInfo,hi,hz]
  unfold Instr.buildSlice;simp only[ap,ax h1,ah,hsz];rw[Kf (by omega)];by_cases h0:parts.length*size=0
  .have hzc':zc=#[]:=by rw[<-hzc,h0];simp
   rw[hzc'] at g1;simp only[h0,bv,pure_bind];have hr2:((Array.range 0).map λ x=>(#[]:Array Value)[x % (#[]:Array Value).size]!)=#[]:=by simp[Array.range]
   rw[hr2,g1];rfl
  .simp only[Kf h0,ap,hzero,ah,ar,hzc];simp only[g1,ap,newRow,newObj,Qr,ar];rfl
 .rw[g2,dV]
  congr 1
  have:=Ig (f:=λ v:Value=>v.cells.toList) (vs:=parts) (k:=0) (l:=Wj (List.replicate parts.length size) zc.toList) (by rw[XN];simp);simpa using this
def mC(P:Program)(t:TypeId):Bool:=
 match P.underlying t with
 |some (.slice e)=>match P.info? e with
  | some i=>i.zero.isSome
  | none=>false
 | _=>false
theorem DA{size:Nat}(h:mC P t=true)(ht:lM P t e size=true):∃ ti z,P.info? e=some ti/\ti.zero=some z:=by
 obtain⟨i,h1,h2,_⟩:=ZR ht;unfold mC at h;rw[h1] at h;simp[h2] at h;obtain⟨z,hz⟩:=dk.1 h;exact⟨i,z,h2,hz⟩
theorem wa{n:Nat}{parts:Array (Nat×Operand)}{xs:List α}(ho:o.op=.buildSlice t n parts)
  (hp:parts=(opds.zipIdx.map λ p=>(p.2,p.1)).toArray) (hn:n=opds.length)  (hx:OpdsR M look opds xs)(hsz:opds.length*ey.size α<=16777216:=by decide)(ht':gV P t (ey.size α)=true:=by kernel_rfl)(hz':mC P t=true:=by kernel_rfl):eP P M look o (dt xs):=
 λ a w hm hl=>by
  obtain⟨e,ht⟩:=jZ ht';obtain⟨ti,z,h1,h2⟩:=DA hz' ht;have hg:=hx.get;have hcell:∀ (i:Nat) (opd:Operand),opds[i]?=some opd->∃ x,xs[i]?=some x/\ey.rdc M w (a.eval opd).cells.toList x:=λ i opd hi=>by
   have hlt:i<xs.length:=by rw[<-hg.1];exact(ai.1 hi).1
   exact⟨_,aa hlt,(hg.2 i opd _ hi (aa hlt)).cells hl⟩
  obtain⟨cells,g1,g2⟩:=Qt (parts:=opds.map a.eval) ht h1 h2 (by simpa using hsz) (λ v hv=>by
   obtain⟨opd,hopd,rfl⟩:=bi.1 hv;obtain⟨i,hi⟩:=aR hopd;obtain⟨x,_,hr⟩:=hcell i opd hi;simpa using ey.len hr) w
  have he:fy w (w.alloc (.cells cells e)):=fy.alloc _ _;refine fb.iw (w':=w.alloc _) (v:=.slice _ xs.length xs.length) ?_ ⟨he,_,⟨_,xs.length,Z,al _,?_,.inr ⟨w.heap.size,0,cells.toList,Z,λ h=>absurd (hm _ h) (cO _),λ j u hj=>?_,?_⟩⟩,Z⟩
  .unfold execOp;rw[ho];have e1:(parts.map λ p:Nat×Operand=>(p.1,a.eval p.2))=(((opds.map a.eval).zipIdx).map λ p=>(p.2,p.1)).toArray:=by
    rw[hp];simp[ev]
   simp at g1;rw[hg.1] at g1;simp[e1,hn,g1,hg.1]
  .have:=ey.pos (α:=α);rw[<-hg.1];have h5:opds.length<=opds.length*ey.size α:=dv _ this;exact aS h5 (aS hsz (by decide))
  .rw[aD,dJ];simpa using hj
  .rw[g2];refine Cw (by simp[hg.1]) λ i c x h4 h5=>?_
   simp only[be,dy] at h4;obtain⟨u,⟨opd,hopd,rfl⟩,rfl⟩:=h4;obtain⟨x',hx',hr⟩:=hcell i opd hopd;rw[h5] at hx';injection hx' with hx';subst hx';exact ey.stable hr (kA.kW he)
end
inductive RdAll (M:Nat->Prop) (w:World):List Value->List Dt->Prop
 | nil:RdAll M w [] []
 | cons {v:Value} {x:Dt} {vs:List Value} {xs:List Dt} (h:x.rd M w v) (r:RdAll M w vs xs):RdAll M w (v::vs) (x::xs)
def Fn(P:Program)(f:FuncId)(xs:List Dt)(y:Dt):Prop:=
 ∀ (M:Nat->Prop) (w:World) (vs:List Value),(∀ b,M b->b<w.heap.size)->RdAll M w vs xs->Calls P f vs.toArray w (λ e w'=>∃ v,e=.returned v/\fy w w'/\y.rd M w' v)
def gb(P:Program)(f:FuncId):Bool:=
 match P.funcs[f]? with
 | some fn => fn.name != "runtime.NumGoroutine" && fn.body.isSome
 | none=>false
theorem xq(h:gb P f=true)(args:Array Value)(w:World):(callFunc f args).run P w=.ok (.enter f args) w:=by
 unfold gb at h;split at h
 .rename_i fn hfn;simp at h;have hb:fn.body.isNone=false:=by
   cases hb:fn.body with
   | none=>rw[hb] at h;simp at h
   | some c=>rfl
  have hb':fn.body≠none:=by intro e;rw[e] at hb;simp at hb
  unfold callFunc;simp[program,Sem.run,hfn,h.1,hb']
 .cases h
inductive ArgsR (M:Nat->Prop) (look:Nat->Option Dt):List Operand->List Dt->Prop
 | nil:ArgsR M look [] []
 | cons {opd:Operand} {x:Dt} {l:List Operand} {xs:List Dt} (h:eC M look opd x) (r:ArgsR M look l xs):ArgsR M look (opd::l) (x::xs)
theorem ArgsR.all{look:Nat->Option Dt}(h:ArgsR M look l xs)(hl:∀ s y,look s=some y->y.rd M w (Act.at a s)):RdAll M w (l.map a.eval) xs:=by
 induction h with
 | nil=>exact .nil
 | cons h r ih=>exact .cons (h w a hl) ih
theorem zy{look:Nat->Option Dt}{y:Dt}(ho:o.op=.call { callee:=.value (.func f),args:=l.toArray,argTypes:=ts })
   (hx:ArgsR M look l xs) (h:Fn P f xs y)(hf:gb P f=true:=by kernel_rfl):eP P M look o y:=
 λ a w hm hl=>by
  refine fb.mK (f:=f) (args:=(l.map a.eval).toArray) (w':=w) ?_ ?_
  .unfold execOp;rw[ho];have e:a.eval (.func f)=.func _ #[] #[]:=rfl;simp[resolve,e,Deferred.ofValue,invoke,xq hf]
  .exact(h M w _ hm (hx.all hl)).mono λ e w' ⟨v,he,hx,hr⟩=>⟨v,he,hx,hr⟩
def zL:Nat->List Dt->Env
 | _,[]=>[]
 | i,x::xs=>(i,x)::zL (i+1) xs
def kZ(M:Nat->Prop)(w0:World)(y:Dt):Ending->World->Prop:=λ e w'=>∃ v,e=.returned v/\fy w0 w'/\y.rd M w' v
theorem xg{fn:Func}{c:Code}{y:Dt}(hf:P.funcs[f]?=some fn)(hb:fn.body=some c)
  (h:∀ (M:Nat->Prop) (w:World) (a:Act),(∀ b,M b->b<w.heap.size)->St (eG.of w) fn.ntmps M (zL 0 xs) a w->c.wp P (bodyPost P fn (kZ M w y)) a w)(hn:xs.length<=fn.ntmps:=by exact oD Z):Fn P f xs y:=by
 intro M w vs hm hr;refine cU hf hb (h M w _ hm ?_);have hlen:∀ {vs:List Value} {xs:List Dt},RdAll M w vs xs->vs.length=xs.length:=by
  intro vs xs hr
  induction hr with
  | nil=>rfl
  | cons _ _ ih=>simp[ih]
 have hl:=hlen hr;refine⟨eh _ _,by simp;omega,Z,hm,λ s x hs=>?_⟩;have key:∀ {vs:List Value} {xs:List Dt},RdAll M w vs xs->∀ (i s:Nat) (x:Dt),(zL i xs).lookup s=some x->∃ j v,s=i+j/\vs[j]?=some v/\x.rd M w v:=by
  intro vs xs hr
  induction hr with
  | nil=>intro i s x h;simp[zL] at h
  |cons h r ih=>
   rename_i v x' vs xs;intro i s x hs;simp only[zL,af] at hs;by_cases he:s=i
   .subst he;simp at hs;subst hs;exact⟨0,v,Z,Z,h⟩
   .have hb:(s == i)=false:=by simpa using he
    simp[hb] at hs;obtain⟨j,u,h1,h2,h3⟩:=ih _ s x hs;exact⟨j+1,u,by omega,by simpa using h2,h3⟩
 obtain⟨j,v,h1,h2,h3⟩:=key hr 0 s x hs;have h4:Act.at { tmps:=vs.toArray++Array.replicate (fn.ntmps - vs.toArray.size) undef,defers:=[] } s=v:=by
  have hj:=(ai.1 h2).1;have h5:vs.toArray[j]?=some v:=by simpa using h2
  have hj':j<vs.toArray.size:=by simpa using hj
  have:s=j:=by omega
  subst this;simp[Act.at];rw[bc hj',h5];rfl
 rw[h4];exact h3
section
variable{fn:Func}{y:Dt}
theorem tJ{t:Nat}{x:Dt}(hr:fn.results=#[.tmp t])(hst:St (eG.of w0) N M' L a w)(hl:L.lookup t=some x)(hx:∀ v,x.rd M' w v->y.rd M w v):bodyPost P fn (kZ M w0 y) .ret a w:=
 ⟨hst.defers,_,cV hr a.tmps P w,_,Z,hst.fr,hx _ (hst.has t x hl)⟩
theorem GI{α:Type}[ey α]{t:Nat}{x:α}(hr:fn.results=#[.cell t ty])(ht:fM P ty (ey.agg α) (ey.size α)=true)(hst:St (eG.of w0) N M' L a w)(hl:L.lookup t=some (eY g 0 x))
  (hx:∀ v,(dt x).rd M' w v->y.rd M w v):bodyPost P fn (kZ M w0 y) .ret a w:=by
 obtain⟨b,_,hv,C,e,cs,hb,hc,hrr⟩:=hst.has t _ hl;have hc':∀ j u,cs[j]?=some u->w.cell? ⟨b,0+j,none⟩=some u:=λ j u hj=>by
  have:=hc j u hj;rw[aD] at this ⊢;simp[World.cell?,hb,this]
 have hld:=yA ht (ey.len hrr) ey.one hc';refine⟨hst.defers,gI _ cs,?_,_,Z,hst.fr,hx _ ⟨cs,hrr,Z⟩⟩;have h1:a.tmps.getD t undef=.pointer _:=hv;simp[results,hr];simp at h1;simp[h1,asAddr,hld]
theorem zT{c:Nat}{x z:Code}(hst:St F N M L a w)(hl:L.lookup c=some (dt b))(ht:b=true->x.wp P Q a w)(hf:b=false->z.wp P Q a w):(Code.cond (.tmp c) x z).wp P Q a w:=
 wp_cond_split (xL.1 (hst.has c _ hl)) ht hf
inductive Pick (ok:Dt->Prop) (L:Env):Env->Prop
 | nil:Pick ok L []
 | cons {s:Nat} {x:Dt} {L':Env} (h:L.lookup s=some x) (hk:ok x) (r:Pick ok L L'):Pick ok L ((s,x)::L')
theorem Pick.spec{ok:Dt->Prop}(h:Pick ok L L'):∀ s x,L'.lookup s=some x->L.lookup s=some x/\ok x:=by
 induction h with
 | nil=>intro s x h;simp at h
 |cons h hk r ih=>
  rename_i s' x' L';intro s x hs;simp only[af] at hs;by_cases he:s=s'
  .subst he;simp at hs;subst hs;exact⟨h,hk⟩
  .have hb:(s == s')=false:=by simpa using he
   simp[hb] at hs;exact ih s x hs
theorem St.pick(h:St F N M L a w)(hp:Pick (λ _=>True) L L'):St F N M L' a w:=
 ⟨h.fr,h.size,h.defers,h.mok,λ s x hs=>h.has s x (hp.spec s x hs).1⟩
theorem I9{id:Nat}(hst:St F N M L a w)(hs:Seg P M ops N L ops.toList L')(hp:Pick (λ _=>True) L' L2)
  (h:∀ a' w',fy w w'->St F N M L2 a' w'->Q .normal a' w'):(Code.region id ops false).wp P Q a w:=by
 refine Ka ?_;have:=pH hs hst (λ a' w' he hst'=>Kb (h a' w' he (hst'.pick hp)));simpa using this
theorem C3{id:Nat}{xs:List (Nat×Dt)}(hm:P.follows .mixedOrders=true)
  (T:List (List Nat)) (S:List (List (Nat×Option Nat))) 
  (hst:St F N M L a w) (hreg:RegR P M ops N S L D 0 ops.toList xs) (hp:Pick (λ _=>True) (xs++L) L2)
  (hQ:∀ a' w',fy w w'->St F N M L2 a' w'->Q .normal a' w')(h:jA ops ops.size T S=true:=by decide +kernel):(Code.region id ops true).wp P Q a w:=
 QW hm ops.size T S h (al _) hst (by rwa[show ops.size=ops.toList.length from by simp,aQ]) (λ a' w' he hst'=>by
  rw[show ops.size=ops.toList.length from by simp,bX];exact Kb (hQ a' w' he (hst'.pick hp)))
theorem least{p:Nat->Prop}(h:∃ n,p n):∃ n,p n/\∀ m,p m->n<=m:=by
 obtain⟨n,hn⟩:=h
 induction n using Nat.strongRecOn with
 |_ n ih=>
  by_cases hx:∃ m,m<n/\p m
  .obtain⟨m,hm,hp⟩:=hx;exact ih m hm hp
  .refine⟨n,hn,λ m hm=>?_⟩;rcases aT m n with h1 | h1
   .exact absurd ⟨m,h1,hm⟩ hx
   .exact h1
theorem Y0{ι:Type}{c:Code}(Inv:ι->Act->World->Prop)(mu:ι->Nat)(i0:ι)(h0:Inv i0 a w)
  (round:∀ i a w,Inv i a w->c.wp P (Exit.then (λ a' w'=>∃ i',Inv i' a' w'/\mu i'<mu i) Q) a w):(Code.loop c).wp P Q a w:=by
 classical
 let S:Act->World->Nat->Prop:=λ a w n=>∃ i,Inv i a w/\mu i=n
 have hex:∀ a w,(∃ i,Inv i a w)->∃ n,S a w n/\∀ m,S a w m->n<=m:=λ a w ⟨i,hi⟩=>least ⟨mu i,i,hi,Z⟩
 refine wp_loop (λ a w=>∃ i,Inv i a w) (λ a w=>if h:∃ i,Inv i a w then Classical.choose (hex a w h) else 0) ⟨i0,h0⟩ λ a w hI=>?_
 obtain⟨⟨i,hi,hmu⟩,_⟩:=Classical.choose_spec (hex a w hI);refine bW (λ e a' w' q=>?_) (round i a w hi);cases e with
 |normal=>obtain⟨i',hi',hlt⟩:=q;refine⟨⟨i',hi'⟩,?_⟩;have hI':∃ i,Inv i a' w':=⟨i',hi'⟩;simp only[dif_pos hI,dif_pos hI'];have h1:=(Classical.choose_spec (hex a' w' hI')).2 _ ⟨i',hi',Z⟩;omega
 | _=>exact q
end
section
variable{look:Nat->Option Dt}
variable{α:Type}
theorem zk{s:Nat}{c:Bool}{x:Dt}(hc:c=true)(h:look s=some (Dt.kt c x)):eC M look (.tmp s) x:=λ _ _ hl=>(hl s _ h).1 hc
theorem rQ{s:Nat}{c:Bool}{x:Dt}(hc:c=true)(h:look s=some (Dt.kt (c&&d) x)):eC M look (.tmp s) (Dt.kt d x):=λ _ _ hl=>by
 have:=hl s _ h;subst hc;rw[bA] at this;exact this
theorem MO{c:Bool}(h:(c&&d)=true):c=true:=by cases c <;> simp_all
theorem MP{c:Bool}(h:(c&&(d == true))=true):d=true:=by cases c <;> simp_all
theorem Qu:ey.rdc (α:=Str) M w [.string ⟨⟨[]⟩⟩] (⟨[]⟩:Str):=⟨Z,aq _⟩
theorem yF[ey α]:ey.rdc M w [.slice none 0 0] ([]:List α):=⟨none,0,Z,al _,aq _,.inl Z⟩
def isBool(P:Program)(t:TypeId):Bool:=match P.underlying t with | some .bool=>true | _=>false
theorem Ko(h:isBool P t=true):P.underlying t=some .bool:=by
 unfold isBool at h;split at h
 .assumption
 .cases h
theorem I'(h:P.underlying t=some .bool)(m n:Bool)(w:World):(Op.equal t (.bool m) (.bool n)).run P w=.ok (m == n) w:=by
 unfold Op.equal Op.maxDepth;rw[show(10000:Nat)=9999+1 from Z,Op.equalIn];simp only[ap,ax h,ah,ar]
theorem sN{m n:Bool}(ho:o.op=.binOp .eql t x y t')(hx:eC M look x (dt m))(hy:eC M look y (dt n))(ht:isBool P t=true:=by kernel_rfl):eP P M look o (dt (m == n)):=
 zz λ a w _ hl=>⟨.bool (m == n),by
  unfold execOp;rw[ho];simp[xL.1 (hx w a hl),xL.1 (hy w a hl),eqGuard,binOp,I' (Ko ht)],xL.2 Z⟩
theorem vk{m n:Bool}(ho:o.op=.binOp .neq t x y t')(hx:eC M look x (dt m))(hy:eC M look y (dt n))(ht:isBool P t=true:=by kernel_rfl):eP P M look o (dt (m != n)):=
 zz λ a w _ hl=>⟨.bool (m != n),by
  unfold execOp;rw[ho];simp[xL.1 (hx w a hl),xL.1 (hy w a hl),eqGuard,binOp,I' (Ko ht),bne],xL.2 Z⟩
def ph:BinOp->Str->Str->Bool
 | .lss,x,y=>Op.bytesLess x.l y.l
 | .leq,x,y=>Op.bytesLess x.l y.l||decide (x=y)
 | .gtr,x,y=>!(Op.bytesLess x.l y.l||decide (x=y))
 | .geq,x,y=>!Op.bytesLess x.l y.l
 | _,_,_=>false
theorem RG{m n:Str}(ho:o.op=.binOp op t x y t')(hx:eC M look x (dt m))(hy:eC M look y (dt n))(hop:op=.lss\/op=.leq\/op=.gtr\/op=.geq:=by decide):
  eP P M look o (dt (ph op m n)):=
 zz λ a w _ hl=>⟨.bool (ph op m n),by
  have h1:=(xT.1 (hx w a hl)).1;have h2:=(xT.1 (hy w a hl)).1;have e1:(ByteArray.mk ⟨m.l⟩).toList=m.l:=de (⟨⟨m.l⟩⟩:ByteArray);have e2:(ByteArray.mk ⟨n.l⟩).toList=n.l:=de (⟨⟨n.l⟩⟩:ByteArray);have e3:(m.l == n.l)=decide (m=n):=by rw[bT];simp[Str.tS]
  unfold execOp;rw[ho];rcases hop with rfl | rfl | rfl | rfl <;> simp[h1,h2,eqGuard,binOp,Op.stringOp,ik,e1,e2,ph,e3],xL.2 Z⟩
theorem xX{id:Nat}(h:Q .normal a w):Exit.inBlock id Q (.exit id) a w:=by simp[Exit.inBlock,h]
theorem yv(h:Q (.exit i) a w):Exit.then K Q (.exit i) a w:=h
theorem zS(h:Q .ret a w):Exit.then K Q .ret a w:=h
theorem wz{id:Nat}(h:Q .ret a w):Exit.inBlock id Q .ret a w:=h
theorem yI{id:Nat}(h:Q .normal a w):Exit.inBlock id Q .normal a w:=h
theorem za{next:Act->World->Prop}(h:next a w):Exit.then next Q .normal a w:=h
theorem St.rZ[ey α]{s:Nat}{xs:List α}(h:St F N M L a w)(hl:L.lookup s=some (dt xs)):xs.length<=9223372036854775807:=by
 obtain⟨cs,⟨_,c,_,h1,h2,_⟩,_⟩:=h.has s _ hl;unfold maxLen at h2;omega
theorem St.LA{s:Nat}{x:Str}(h:St F N M L a w)(hl:L.lookup s=some (dt x)):x.l.length<=9223372036854775807:=(xT.1 (h.has s _ hl)).2
theorem Ra[ey α]{cs:List Value}{xs:List α}(h:ey.rdc M w cs xs):xs.length<=9223372036854775807:=by
 obtain⟨_,c,_,h1,h2,_⟩:=h;unfold maxLen at h2;omega
theorem St.DO{β:Type}[ey α][ey β]{get:α->List β}{s:Nat}{x:α}(h:St F N M L a w)(f:eM get off)(hl:L.lookup s=some (dt x)):(get x).length<=9223372036854775807:=by
 obtain⟨cs,hr,_⟩:=h.has s _ hl;obtain⟨c,_,hc⟩:=f.sub hr;exact Ra hc
theorem Q9{xs:List α}(h:ez .lss (k:Int) (xs.length:Int)=true):∃ x,xs[k]?=some x:=by
 have hk:k<xs.length:=by simpa[ez] using h
 exact⟨_,aa hk⟩
theorem Fs{x:Str}(h:ez .lss (k:Int) (x.l.length:Int)=true):∃ b,x.l[k]?=some b:=Q9 (xs:=x.l) h
theorem mZ{xs:List α}(h:ez .lss (k:Int) (xs.length:Int)=false):xs.length<=k:=by simpa[ez] using h
theorem EW{x:Str}(h:ez .lss (k:Int) (x.l.length:Int)=false):x.l.length<=k:=mZ (xs:=x.l) h
theorem zJ{xs:List α}{x:α}(h:xs[k]?=some x):k<xs.length:=(ai.1 h).1
end
def gp(g:Option Nat)(M:Nat->Prop):Nat->Prop:=λ b=>M b\/g=some b
section
def pZ(x:Dt)(g:Option Nat):Prop:=∀ b,g=some b->¬ x.own b
variable{α:Type}{ys:List α}
theorem Dt.Ml{x:Dt}(h:x.rd (gp g M0) w v)(hown:pZ x g)(hg:w.grownBy w' g)(hg':g'=g\/∀ b,g'=some b->w.heap.size<=b):x.rd (gp g' M0) w' v:=by
 have h1:x.rd (λ b=>gp g M0 b\/g'=some b) w v:=x.weak h λ k hk hm=>by
  rcases hm with hm | hm
  .exact hm
  .rcases hg' with e | e
   .right;rw[<-e];exact hm
   .have:=e k hm;omega
 have h2:=x.stable h1 λ k hk hm=>by
  refine hg.block k hk λ e=>?_
  rcases hm with hm | hm
  .exact hm (.inl (.inr e.symm))
  .exact hown k e.symm hm
 exact x.weak h2 λ k _ hm=>hm.elim (λ h=>.inl (.inl h)) (λ h=>.inr h)
theorem Xv[ey α]{cells:List Value}{xs:List α}(h:gQ (gp g M0) w cells xs)(hg:w.grownBy w' g)(hg':g'=g\/∀ b,g'=some b->w.heap.size<=b):gQ (gp g' M0) w' cells xs:=by
 have h1:gQ (λ b=>gp g M0 b\/g'=some b) w cells xs:=wN (λ k hk hm=>by
  rcases hm with hm | hm
  .exact hm
  .rcases hg' with e | e
   .right;rw[<-e];exact hm
   .have:=e k hm;omega) h
 have h2:=Yn (λ k hk hm=>by
  refine hg.block k hk λ e=>?_
  rcases hm with hm | hm
  .exact hm (.inl (.inr e.symm))
  .cases hm) h1
 exact wN (λ k _ hm=>hm.elim (λ h=>.inl (.inl h)) (λ h=>.inr h)) h2
def iH(P:Program)(t e:TypeId)(size bytes:Nat):Bool:=
 match P.underlying t,P.info? e with
 | some (.slice e'),some i=>e' == e&&i.size == size&&i.bytes == bytes&&(match i.zero with | some z=>z.cells.size == size | none=>false)
 | _,_=>false
theorem Qv{size:Nat}(h:iH P t e size bytes=true):∃ i z,P.underlying t=some (.slice e)/\P.info? e=some i/\i.zero=some z/\i.size=size/\i.bytes=bytes/\z.cells.size=size:=by
 unfold iH at h;split at h
 .rename_i e' i h1 h2;simp at h;obtain⟨⟨⟨rfl,h3⟩,h4⟩,h5⟩:=h;split at h5
  .rename_i z hz;exact⟨i,z,h1,h2,hz,h3,h4,by simpa using h5⟩
  .cases h5
 .cases h
theorem Cx{base base':Nat}{size n:Nat}{cs:List Value}(h:w.ownsRow base e size v n cs)(hb:base'<=base):w.ownsRow base' e size v n cs:=
 ⟨h.1,h.2.imp id λ⟨g,cap,cur,h1,h2,h3⟩=>⟨g,cap,cur,h1,aS hb h2,h3⟩⟩
theorem Wk{i:TypeInfo}(ht:P.underlying t=some (.slice e))(hi:P.info? e=some i)(A:Option Addr)(n cap c:Nat)(hn:n<=cap):(Builtin.append_ #[t,t] ty #[.slice A n cap,.slice none 0 c]).run P w=.ok (.slice A n cap) w:=by
 cases A <;> simp[Builtin.append_,ax ht,sizeOf,typeInfo,hi,Builtin.lenOf,Builtin.firstCells,hn,storeCells]
theorem Y9{i:TypeInfo}(ht:P.underlying t=some (.slice e))(hi:P.info? e=some i)(A:Option Addr)(ad:Addr)(n cap c:Nat)(hn:n<=cap):(Builtin.append_ #[t,t] ty #[.slice A n cap,.slice (some ad) 0 c]).run P w=.ok (.slice A n cap) w:=by
 cases A <;> simp[Builtin.append_,ax ht,sizeOf,typeInfo,hi,Builtin.lenOf,Builtin.firstCells,loadCells,loadCellsFrom,hn,storeCells]
def ny{α:Type}[ey α](M:Nat->Prop)(w:World)(u:Value)(ys:List α):Prop:=
 ∃ A c,u=.slice A ys.length c/\(ys=[]\/∃ b off cells,A=some ⟨b,off,none⟩/\iu w b off cells/\gQ M w cells ys)
def pY{α:Type}[ey α](z:Dt)(ys:List α):Prop:=∀ (M:Nat->Prop) (w:World) (u:Value),z.rd M w u->ny M w u ys
theorem yW[ey α]:pY (dt ys) ys:=λ M w u hu=>by
 obtain⟨cs,⟨A,c,hcs,hc1,hc2,hc3⟩,hu'⟩:=hu;subst hcs;exact⟨A,c,hu',hc3.imp id λ⟨b,off,cells,hA,_,hc,hr⟩=>⟨b,off,cells,hA,hc,hr⟩⟩
theorem GS[ey α]:pY (eQ g e ys) ys:=λ M w u hu=>by
 rcases hu with⟨cells,hown,hrow,hb⟩ | ⟨_,hx,A,hv⟩
 .rcases hown.2 with⟨h1,h2⟩ | ⟨b,cap,cur,h1,h2,h3,h4,h5,h6,h7⟩
  .exact⟨none,0,by rw[h1,h2],.inl (au h2)⟩
  .refine⟨some ⟨b,0,none⟩,cap,h1,.inr ⟨b,0,cells,Z,λ j u hj=>?_,hrow⟩⟩;have:=hown.cells (by rw[h1];rfl) j u hj;rwa[jI] at this
 .subst hx;exact⟨A,0,hv,.inl Z⟩
theorem Ww[ey α]{xs:List α}(hel:iH P t e (ey.size α) bytes=true)(hv:(eQ g e xs).rd (gp g M0) w v)(hu:ny (gp g M0) w u ys)
  (hsz:(xs.length+ys.length)*bytes<=140737488355328) (hml:xs.length+ys.length<=maxLen):
  ∃ v' w' g',(Builtin.append_ #[t,t] ty #[v,u]).run P w=.ok v' w'/\(eQ g' e (xs++ys)).rd (gp g' M0) w' v'/\w.grownBy w' g/\(g'=g\/∀ b,g'=some b->w.heap.size<=b)/\(∀ b,g'=some b->b<w'.heap.size):=by
 obtain⟨i,z,ht,hi,hz,hs1,hs2,hs3⟩:=Qv hel;obtain⟨A,c,hu',hc3⟩:=hu;subst hu';have hsl:∃ B cap,v=.slice B xs.length cap/\xs.length<=cap:=by
  rcases hv with⟨cells,hown,_,_⟩ | ⟨_,h2,B,h3⟩
  .rcases hown.2 with⟨h1,h2⟩ | ⟨b,cap,cur,h1,_,_,h4,_⟩
   .exact⟨none,0,by rw[h1,h2],by omega⟩
   .exact⟨_,cap,h1,h4⟩
  .exact⟨B,0,by rw[h3,h2];rfl,by rw[h2];exact al _⟩
 have hvlt:∀ b,g=some b->b<w.heap.size:=λ b hb=>by
  rcases hv with⟨cells,hown,_,hg⟩ | ⟨hg,_⟩
  .exact(hown.lt b (by rw[hg,hb])).2
  .rw[hg] at hb;cases hb
 have hempty:ys=[]->∃ v' w' g',(Builtin.append_ #[t,t] ty #[v,.slice A ys.length c]).run P w=.ok v' w'/\(eQ g' e (xs++ys)).rd (gp g' M0) w' v'/\w.grownBy w' g/\(g'=g\/∀ b,g'=some b->w.heap.size<=b)/\(∀ b,g'=some b->b<w'.heap.size):=by
  intro hy;subst hy;obtain⟨B,cap,hB,hcap⟩:=hsl;refine⟨v,w,g,?_,by rw[aO];exact hv,cR w _,.inl Z,hvlt⟩;rw[hB];cases A with
  | none=>exact Wk ht hi B xs.length cap c hcap
  | some ad=>exact Y9 ht hi B ad xs.length cap c hcap
 rcases hc3 with hy | ⟨b,off,ycells,hA,hyc,hyr⟩
 .exact hempty hy
 by_cases hy:ys=[]
 .exact hempty hy
 subst hA;have hycells:∀ j u,ycells[j]?=some u->w.cell? ((⟨b,off,none⟩:Addr).add j)=some u:=λ j u hj=>by rw[jI];exact hyc j u hj
 have own:∀ cells,w.ownsRow 0 e (ey.size α) v xs.length cells->gQ (gp g M0) w cells xs->v.ownBlock=g->∃ v' w' g',(Builtin.append_ #[t,t] ty #[v,.slice (some ⟨b,off,none⟩) ys.length c]).run P w=.ok v' w'/\(eQ g' e (xs++ys)).rd (gp g' M0) w' v'/\w.grownBy w' g/\(g'=g\/∀ b,g'=some b->w.heap.size<=b)/\(∀ b,g'=some b->b<w'.heap.size):=by
  intro cells hown hrow hg;obtain⟨v',w',hrun,hown',hgr,_,hat⟩:=run_append_own_at (w:=w) 0 t ty e i z _ bytes ht hi hz hs1 hs2 hs3 ey.pos v xs.length cells hown ⟨b,off,none⟩ ys.length c ycells (JH hyr) hycells (J7 hyr) hml hsz (aq _);have hg':v'.ownBlock=g\/∀ k,v'.ownBlock=some k->w.heap.size<=k:=hat.imp (λ h=>by rw[h,hg]) (λ h k hk=>by rw[h] at hk;injection hk with hk;omega);rw[hg] at hgr;refine⟨v',w',v'.ownBlock,hrun,.inl ⟨cells++ycells,by rw[ao];exact hown',?_,Z⟩,hgr,hg',λ k hk=>(hown'.lt k hk).2⟩;exact Ze (Xv hrow hgr hg') (Xv hyr hgr hg')
 rcases hv with⟨cells,hown,hrow,hg⟩ | ⟨hg0,hx0,B,hv0⟩
 .exact own cells hown hrow hg
 .subst hg0 hx0 hv0;cases B with
  | none=>exact own [] (World.ownsRow_nil w 0 e _) Z Z
  |some b0=>
   have hm:0<ys.length:=by
    rcases d8 ys.length with h0 | h0
    .exact absurd (au h0) hy
    .exact h0
   obtain⟨v',w',hrun,hown',hgr⟩:=dR (w:=w) t ty e i z _ bytes ht hi hz hs1 hs2 hs3 ey.pos b0 0 0 [] (by simp) (λ j u h=>by simp at h) ⟨b,off,none⟩ ys.length c ycells (JH hyr) hycells (by omega) (by simpa using hml) (by simpa using hsz);have hg':v'.ownBlock=none\/∀ k,v'.ownBlock=some k->w.heap.size<=k:=.inr λ k hk=>(hown'.lt k hk).1
   refine⟨v',w',v'.ownBlock,hrun,.inl ⟨ycells,?_,?_,Z⟩,hgr,hg',λ k hk=>(hown'.lt k hk).2⟩
   .simpa using Cx hown' (aq _)
   .simpa using Xv hyr hgr hg'
def kS(F:eG)(M0:Nat->Prop)(g:Option Nat):Prop:=∀ b,g=some b->F.Own b/\¬ M0 b
theorem kS.none_:kS F M0 none:=λ _ h=>by cases h
theorem BT{xs:List α}{x:α}{b n:Nat}(h:(xs.length+1)*b<=n):(xs.length+[x].length)*b<=n:=h
theorem BU{xs:List α}{x:α}{n:Nat}(h:xs.length+1<=n):xs.length+[x].length<=n:=h
theorem W9[ey α]{s x d:Nat}{xs:List α}{z:Dt}(hst:St F N (gp g M0) L a w)
  (ho:o.op=.call { callee:=.builtin .append,args:=#[.tmp s,.tmp x],argTypes:=#[t,t] }) (hg:o.guard=none) (hd:o.dst=some d)  
  (hs:L.lookup s=some (eQ g e xs)) (hx:L.lookup x=some z) (hz:pY z ys) (hsz:(xs.length+ys.length)*bytes<=140737488355328) (hml:xs.length+ys.length<=9223372036854775807)
  (hp:Pick (λ x=>pZ x g) L L2) (htip:kS F M0 g) (h:∀ g' a' w',kS F M0 g'->St F N (gp g' M0) ((d,eQ g' e (xs++ys))::L2) a' w'->wpList P ops Q rest a' w')(hN:d<N:=by decide)(hel:iH P t e (ey.size α) bytes=true:=by kernel_rfl):wpList P ops Q (o::rest) a w:=by
 obtain⟨v',w',g',hrun,hv',hgr,hg',hlt⟩:=Ww (ty:=o.type) hel (hst.has s _ hs) (hz _ _ _ (hst.has x _ hx)) hsz (by unfold maxLen;omega);refine av hg λ K hK=>fb.wp (fb.iw (v:=v') (w':=w') ?_ (hK _ _ (h g' _ _ ?_ ?_)))
 .unfold execOp;simp[ho,resolve,invoke,builtin,Act.np,hrun]
 .intro b hb;rcases hg' with he | he
  .exact htip b (by rw[<-he];exact hb)
  .have h1:=he b hb;exact⟨F.fresh hst.fr b h1,λ hm=>by have:=hst.mok b (.inl hm);omega⟩
 .refine⟨F.own hst.fr (Grown.lJ hgr) λ k hk=>(htip k hk).1,by rw[Act.nZ];exact hst.size,by rw[Act.put_defers];exact hst.defers,λ b hb=>?_,λ s' y hy=>?_⟩
  .rcases hb with hb | hb
   .exact ay (hst.mok b (.inl hb)) hgr.size
   .exact hlt b hb
  .rw[hd];simp only[af] at hy;by_cases he:s'=d
   .subst he;simp at hy;subst hy;rw[Act.oX (by rw[hst.size];exact hN)];exact hv'
   .have hb:(s' == d)=false:=by simpa using he
    simp[hb] at hy;rw[Act.mD (λ e=>he (by injection e with e;exact e.symm))];obtain⟨h1,h2⟩:=hp.spec s' y hy;exact Dt.Ml (hst.has s' y h1) h2 hgr hg'
theorem jg[ey α]{look:Nat->Option Dt}:eC M look (.const (.slice none 0 0)) (eQ none e ([]:List α)):=λ _ _ _=>.inr ⟨Z,Z,none,Z⟩
theorem xj[ey α]{look:Nat->Option Dt}(ho:o.op=.buildSlice t 0 #[])(ht':gV P t (ey.size α)=true:=by kernel_rfl):eP P M look o (eQ none e ([]:List α)):=
 λ a w _ _=>by
  obtain⟨e',ht⟩:=jZ ht';obtain⟨ti,h1,h2,h3⟩:=ZR ht;refine fb.iw (w':=w.alloc (.cells #[] e')) (v:=.slice (some ⟨w.heap.size,0,none⟩) 0 0) ?_ ⟨fy.alloc _ _,.inr ⟨Z,Z,_,Z⟩⟩;have hr2:((Array.range 0).map λ x=>(#[]:Array Value)[x % (#[]:Array Value).size]!)=#[]:=by simp[Array.range]
  have hsz:(sizeOf e').run P w=.ok (ey.size α) w:=by simp[sizeOf,typeInfo,h2,h3]
  unfold execOp;rw[ho];have hb:(Instr.buildSlice t 0 #[]).run P w=.ok (.slice (some ⟨w.heap.size,0,none⟩) 0 0) (w.alloc (.cells #[] e')):=by
   unfold Instr.buildSlice;simp only[ap,ax h1,ah,hsz,dN];rw[Kf (by omega)];simp only[bv,pure_bind];rw[hr2];rfl
  simp[hb]
theorem JJ[ey α]{xs:List α}(h:(eQ g e xs).rd M w v)(hM:∀ b,b<w.heap.size->M' b->M b)(hg:∀ b,g=some b->¬ M' b):(dt xs).rd M' w v:=by
 rcases h with⟨cells,hown,hrow,hb⟩ | ⟨_,hx,A,hv⟩
 .have hrow':=wN hM hrow;rcases hown.2 with⟨h1,h2⟩ | ⟨b,cap,cur,h1,h2,h3,h4,h5,h6,h7⟩
  .have hx:=au h2;subst hx;exact⟨_,⟨none,0,Z,al _,aq _,.inl Z⟩,h1⟩
  .refine⟨_,⟨some ⟨b,0,none⟩,cap,Z,h4,h5,.inr ⟨b,0,cells,Z,hg b (by rw[<-hb,h1];rfl),λ j u hj=>?_,hrow'⟩⟩,h1⟩;have:=hown.cells (by rw[h1];rfl) j u hj;rwa[jI] at this
 .subst hx;exact⟨_,⟨A,0,Z,al _,aq _,.inl Z⟩,hv⟩
theorem rH[ey α]{look:Nat->Option Dt}{xs:List α}(ho:o.op=.call { callee:=.builtin .len,args:=#[s],argTypes:=#[t] })(hs:eC M look s (eQ g e xs))(ht:lL P t=true:=by kernel_rfl):eP P M look o (dt (xs.length:Int)):=
 zz λ a w _ hl=>by
  obtain⟨e',ht1⟩:=Dq ht;obtain⟨A,c,hv⟩:∃ A c,a.eval s=.slice A xs.length c:=by
   rcases hs w a hl with⟨cells,hown,_,_⟩ | ⟨_,hx,A,hv⟩
   .rcases hown.2 with⟨h1,h2⟩ | ⟨b,cap,cur,h1,_⟩
    .exact⟨none,0,by rw[h1,h2]⟩
    .exact⟨_,cap,h1⟩
   .exact⟨A,0,by rw[hv,hx];rfl⟩
  refine⟨.int .i64 xs.length,?_,yq.2 Z⟩;unfold execOp;rw[ho];simp[resolve,invoke,builtin,Builtin.len_,hv,ax ht1,goInt]
theorem RJ[ey α]{look:Nat->Option Dt}{i:Operand}{xs:List α}{x:α}(ho:o.op=.indexAddr t s i)(ht':gV P t (ey.size α)=true)(hs:eC M look s (eQ g e xs))(hi:eC M look i (dt (k:Int)))
  (hx:xs[k]?=some x):eP P M look o (eY g (k*ey.size α) x):=
 zz λ a w _ hl=>by
  obtain⟨e',ht⟩:=jZ ht';have hk:=(ai.1 hx).1;have hiv:=yq.1 (hi w a hl);rcases hs w a hl with⟨cells,hown,hrow,hb⟩ | ⟨_,hx0,_⟩
  .rcases hown.2 with⟨h1,h2⟩ | ⟨b,cap,cur,h1,h2,h3,h4,h5,h6,h7⟩
   .omega
   .obtain⟨ti,ht1,ht2,ht3⟩:=ZR ht;obtain⟨c',hcc,hr'⟩:=tH hrow hx;refine⟨.pointer _,?_,b,by rw[<-hb,h1];rfl,Z,cur,e,c',h3,λ j u hj=>?_,hr'⟩
    .have hadd:(⟨b,0,none⟩:Addr).add (k*ey.size α)=⟨b,k*ey.size α,none⟩:=by rw[jI];simp
     unfold execOp;rw[ho];simp[h1,hiv,Instr.indexAt,asIntOf,ax ht1,sizeOf,typeInfo,ht2,ht3,hk,hadd]
    .have:=hcc j u hj;rw[<-h7,aw] at this;split at this
     .simpa using this
     .cases this
  .subst hx0;simp at hk
theorem GK{fn:Func}[ey α]{t:Nat}{x y:List α}(hr:fn.results=#[.tmp t])(htip:kS (eG.of w0) M0 g)(hst:St (eG.of w0) N (gp g M0) L a w)(hl:L.lookup t=some (eQ g e x))(hx:x=y)(hsub:∀ b,M' b->M0 b:=by exact λ _ h=>h):bodyPost P fn (kZ M' w0 (dt y)) .ret a w:=
 tJ hr hst hl λ v h=>by
  rw[<-hx];exact JJ h (λ b _ hb=>.inl (hsub b hb)) λ b hg hb=>(htip b hg).2 (hsub b hb)
theorem St.Ax(h:St F N M L a w):St F N (gp none M) L a w:=
 ⟨h.fr,h.size,h.defers,λ b hb=>hb.elim (h.mok b) (λ e=>by cases e),λ s x hs=>x.weak (h.has s x hs) λ k _ hk=>hk.elim id (λ e=>by cases e)⟩
end
structure eO{α β:Type}[ey α][ey β](set:α->β->α)(off:Nat):Prop where
 put:∀ {M:Nat->Prop} {w:World} {cs c:List Value} {x:α} {y:β},ey.rdc M w cs x->ey.rdc M w c y->off+c.length<=cs.length/\ey.rdc M w (cs.take off++c++cs.drop (off+c.length)) (set x y)
theorem eO.id[ey α]:eO (λ _ y:α=>y) 0:=⟨λ h k=>by
 have h1:=ey.len h;have h2:=ey.len k;refine⟨by omega,?_⟩;rw[ci (by omega)];simpa using k⟩
theorem eO.fst[ey α][ey β]:eO (λ(x:α×β) (y:α)=>(y,x.2)) 0:=⟨λ⟨c1,c2,h,h1,h2⟩ k=>by
 have e1:=ey.len h1;have e2:=ey.len k;refine⟨by rw[h,ao];omega,_,c2,?_,k,h2⟩;rw[h,dD,aD,ci (by omega),show _ - c1.length=0 by omega];simp⟩
theorem eO.snd[ey α][ey β][ey γ]{set:β->γ->β}(f:eO set off):eO (λ(x:α×β) (y:γ)=>(x.1,set x.2 y)) (ey.size α+off):=⟨λ⟨c1,c2,h,h1,h2⟩ k=>by
 have e1:=ey.len h1;obtain⟨g1,g2⟩:=f.put h2 k;refine⟨by rw[h,ao];omega,c1,_,?_,h1,g2⟩;rw[h,<-e1,cl,dD,aM (by omega),ci (by omega),du];have e3:∀ n,c1.length+off+n - c1.length=off+n:=λ n=>by omega
 rw[e3];simp[]⟩
section
theorem Dt.kept{x:Dt}{b:Nat}(h:x.rd M w v)(hown:pZ x (some b))(hb:M b)(hg:w.grownBy w' (some b)):x.rd M w' v:=
 x.stable h λ k hk hm=>hg.block k hk λ e=>by
  injection e with e;subst e;rcases hm with hm | hm
  .exact hm hb
  .exact hown k Z hm
def AT(P:Program)(t:TypeId)(n:Nat):Bool:=
 match P.info? t with
 | some i=>match i.zero with | some z=>z.cells.size == n | none=>false
 | none=>false
theorem MN{n:Nat}(h:AT P t n=true):∃ i z,P.info? t=some i/\i.zero=some z/\z.cells.size=n:=by
 unfold AT at h;split at h
 .rename_i i hi;split at h
  .rename_i z hz;exact⟨i,z,hi,hz,by simpa using h⟩
  .cases h
 .cases h
theorem T0{t d n:Nat}(hst:St F N M L a w)(ho:o.op=.alloc t)(hg:o.guard=none)(hd:o.dst=some d)(hp:Pick (λ _=>True) L L2)
  (h:∀ b a' w',F.Own b->¬ M b->fy w w'->St F N (gp (some b) M) ((d,draw (some b) n)::L2) a' w'->wpList P ops Q rest a' w')(hN:d<N:=by decide)(ht:AT P t n=true:=by kernel_rfl):wpList P ops Q (o::rest) a w:=by
 obtain⟨i,z,hi,hz,hn⟩:=MN ht;have he:fy w (w.alloc (.cells z.cells t)):=fy.alloc _ _;refine av hg λ K hK=>fb.wp (fb.iw (v:=.pointer (some ⟨w.heap.size,0,none⟩)) (w':=w.alloc _) ?_ (hK _ _ (h w.heap.size _ _ (F.fresh hst.fr _ (al _)) (λ hm=>cO _ (hst.mok _ hm)) he ?_)))
 .unfold execOp;rw[ho];simp[Instr.alloc,zeroValue,typeInfo,hi,hz,newVar,newRow,newObj,Qr]
 .refine⟨F.ext hst.fr he,by rw[Act.nZ];exact hst.size,by rw[Act.put_defers];exact hst.defers,λ b hb=>?_,λ s x hs=>?_⟩
  .rcases hb with hb | hb
   .exact ay (hst.mok b hb) he.size
   .injection hb with hb;subst hb;simp
  .rw[hd];simp only[af] at hs;by_cases hq:s=d
   .subst hq;simp at hs;subst hs;rw[Act.oX (by rw[hst.size];exact hN)];exact⟨w.heap.size,Z,Z,z.cells,t,db w _,hn⟩
   .have hb:(s == d)=false:=by simpa using hq
    simp[hb] at hs;rw[Act.mD (λ e=>hq (by injection e with e;exact e.symm))];have h1:=hst.has s x (hp.spec s x hs).1;have h2:x.rd (gp (some w.heap.size) M) w _:=x.weak h1 λ k hk hm=>hm.elim id λ e=>by injection e with e;omega
    exact x.ext h2 he
theorem y8{b:Nat}{cs:Array Value}:w.grownBy (w.setRow b cs) (some b):=
 ⟨Z,Z,Z,by simp,λ k _ hk=>cL w b k cs λ e=>hk (by rw[e])⟩
theorem Wn{α:Type}[ey α]{y:α}(h:(dt y).rd M w v):ey.rdc M w v.cells.toList y:=by
 obtain⟨cs,hr,hv⟩:=h;rw[hv,ZS hr];exact hr
theorem xI{b:Nat}{cs:List Value}(ht:fM P t agg cs.length=true)(hv:v.cells.toList=cs)(hb:w.heap[b]?=some (.cells C e (0,0)))(hl:off+cs.length<=C.size)(h1:∀ u∈cs,u.oneCell'=true):
  (storeVar t ⟨b,off,none⟩ v).run P w=.ok () (w.setRow b (C.toList.take off++cs++C.toList.drop (off+cs.length)).toArray):=by
 obtain⟨_,hs,_⟩:=Cp ht;have hsz:v.cells.size=cs.length:=by rw[<-hv];simp
 unfold storeVar;simp[hs,hsz,hv];have:=run_storeCells_at (P:=P) b off e cs 0 C w hb (by omega) h1;simpa using this
theorem T1{β:Type}[ey β]{t p n:Nat}{b:Nat}{y:β}(hst:St F N M L a w)(ho:o.op=.store t (.tmp p) vo)(hg:o.guard=none)(hd:o.dst=none)
   (hn:n=ey.size β) (hb0:F.Own b) (hMb:M b) (hpl:L.lookup p=some (draw (some b) n)) (hvl:eC M (λ s=>L.lookup s) vo (dt y)) (hp:Pick (λ x=>pZ x (some b)) L L2)
  (h:∀ w',St F N M ((p,eY (some b) 0 y)::L2) a w'->wpList P ops Q rest a w')(ht:fM P t (ey.agg β) (ey.size β)=true:=by kernel_rfl):wpList P ops Q (o::rest) a w:=by
 obtain⟨b1,hb1,hpv,C,e,hb,hC⟩:=hst.has p _ hpl;injection hb1 with hb1;subst hb1;have hy:=Wn (hvl w a λ s y hs=>hst.has s y hs);have hly:=ey.len hy;have hrun:=xI (off:=0) (by rw[ey.len hy];exact ht) Z hb (by omega) (ey.oneCell hy);generalize hcc:(a.eval vo).cells.toList=c at*;have hgr:w.grownBy (w.setRow b (C.toList.take 0++c++C.toList.drop (0+c.length)).toArray) _:=y8;refine av hg λ K hK=>fb.wp (fb.mS (w':=w.setRow b (C.toList.take 0++c++C.toList.drop (0+c.length)).toArray) ?_ ?_)
 .unfold execOp;rw[ho];have hpv':a.eval (.tmp p)=.pointer _:=hpv;simp[Instr.storeAt,Instr.sureAddr,hpv',hrun]
 .rw[hd];refine hK _ _ (h _ ⟨F.own hst.fr (Grown.lJ hgr) (λ k (hk:some b=some k)=>by injection hk with hk;subst hk;exact hb0),hst.size,hst.defers,λ k hk=>ay (hst.mok k hk) hgr.size,λ s z hs=>?_⟩);simp only[af] at hs;by_cases hq:s=p
  .subst hq;simp at hs;subst hs;refine⟨b,Z,hpv,_,e,c,ck w b C _ e _ hb,λ j u hj=>?_,ey.stable hy λ k hk hm=>hgr.block k hk λ e=>?_⟩
   .have hj':=(ai.1 hj).1;simp;rw[aN hj'];exact hj
   .injection e with e;subst e;rcases hm with hm | hm
    .exact hm hMb
    .cases hm
  .have hb':(s == p)=false:=by simpa using hq
   simp[hb'] at hs;obtain⟨h1,h2⟩:=hp.spec s z hs;exact Dt.kept (hst.has s z h1) h2 hMb hgr
theorem St.congr(h:St F N M L a w)(hm:∀ b,M' b ↔ M b):St F N M' L a w:=
 ⟨h.fr,h.size,h.defers,λ b hb=>h.mok b ((hm b).1 hb),λ s x hs=>x.weak (h.has s x hs) λ k _ hk=>(hm k).1 hk⟩
theorem Sf{fn:Func}{α:Type}[ey α]{t:Nat}{x y:α}(hr:fn.results=#[.cell t ty])(hst:St (eG.of w0) N M L a w)(hl:L.lookup t=some (eY g 0 x))(hsub:∀ b,M0 b->M b)(hx:x=y)(ht:fM P ty (ey.agg α) (ey.size α)=true:=by kernel_rfl):
  bodyPost P fn (kZ M0 w0 (dt y)) .ret a w:=
 GI hr ht hst hl λ v h=>by rw[<-hx];exact(dt x).weak h λ k _ hk=>hsub k hk
end
section
variable{look:Nat->Option Dt}
variable{α:Type}
theorem mr{l:List Oper}(n:Nat)(hst:St F N M L a w)(hs:Seg P M ops N L (l.take n) L')(hp:Pick (λ _=>True) L' L2)(h:∀ a' w',fy w w'->St F N M L2 a' w'->wpList P ops Q (l.drop n) a' w'):wpList P ops Q l a w:=by
 have:=pH (rest:=l.drop n) (Q:=Q) hs hst (λ a' w' he hst'=>h a' w' he (hst'.pick hp));rwa[aV] at this
def nx(M M0:Nat->Prop)(look:Nat->Option Dt)(opd:Operand)(x:Dt):Prop:=
 ∀ (w:World) (a:Act),(∀ s y,look s=some y->y.rd M w (Act.at a s))->x.rd M0 w (a.eval opd)
theorem yG{x:Dt}(hsub:∀ b,M0 b->M b)(h:eC M look opd x):nx M M0 look opd x:=λ w a hl=>x.weak (h w a hl) λ k _ hk=>hsub k hk
theorem RU[ey α]{xs:List α}(hsub:∀ b,M0 b->M b)(htip:kS F M0 g)(h:eC M look opd (eQ g e xs)):nx M M0 look opd (dt xs):=
 λ w a hl=>JJ (h w a hl) (λ b _ hb=>hsub b hb) λ b hg=>(htip b hg).2
inductive ArgsR2 (M M0:Nat->Prop) (look:Nat->Option Dt):List Operand->List Dt->Prop
 | nil:ArgsR2 M M0 look [] []
 | cons {opd:Operand} {x:Dt} {l:List Operand} {xs:List Dt} (h:nx M M0 look opd x) (r:ArgsR2 M M0 look l xs):ArgsR2 M M0 look (opd::l) (x::xs)
theorem ArgsR2.all(h:ArgsR2 M M0 look l xs)(hl:∀ s y,look s=some y->y.rd M w (Act.at a s)):RdAll M0 w (l.map a.eval) xs:=by
 induction h with
 | nil=>exact .nil
 | cons h r ih=>exact .cons (h w a hl) ih
def Flat(x:Dt):Prop:=∀ (M M':Nat->Prop) (w:World) (v:Value),x.rd M w v->x.rd M' w v
theorem xQ{n:Int}:Flat (dt n):=λ _ _ _ _ h=>yq.2 (yq.1 h)
theorem jh:Flat (dt b):=λ _ _ _ _ h=>xL.2 (xL.1 h)
theorem Bm{s:Str}:Flat (dt s):=λ _ _ _ _ h=>xT.2 (xT.1 h)
theorem yC{y:Dt}(hsub:∀ b,M0 b->M b)(ho:o.op=.call { callee:=.value (.func f),args:=l.toArray,argTypes:=ts })(hx:ArgsR2 M M0 look l xs)(h:Fn P f xs y)(hy:Flat y)(hf:gb P f=true:=by kernel_rfl):eP P M look o y:=
 λ a w hm hl=>by
  refine fb.mK (f:=f) (args:=(l.map a.eval).toArray) (w':=w) ?_ ?_
  .unfold execOp;rw[ho];have e:a.eval (.func f)=.func (.func f) #[] #[]:=rfl;simp[resolve,e,Deferred.ofValue,invoke,xq hf]
  .exact(h M0 w _ (λ b hb=>hm b (hsub b hb)) (hx.all hl)).mono λ e w' ⟨v,he,hx,hr⟩=>⟨v,he,hx,hy _ _ _ _ hr⟩
theorem yx{fn:Func}[ey α]{t:Nat}{x y:α}(hr:fn.results=#[.tmp t])(hst:St (eG.of w0) N M' L a w)(hl:L.lookup t=some (dt x))(hx:x=y)(hsub:∀ b,M b->M' b:=by exact λ _ h=>h):bodyPost P fn (kZ M w0 (dt y)) .ret a w:=
 tJ hr hst hl λ v h=>by rw[<-hx];exact(dt x).weak h λ k _ hk=>hsub k hk
def kY{α:Type}[ey α](P:Program)(f:FuncId)(xs:List Dt)(e:TypeId)(y:List α):Prop:=
 ∀
  (M:Nat->Prop) (w:World) (vs:List Value),(∀ b,M b->b<w.heap.size)->RdAll M w vs xs->
  Calls P f vs.toArray w (λ en w'=>∃ v g,en=.returned v/\fy w w'/\(∀ b,g=some b->w.heap.size<=b/\b<w'.heap.size)/\(eQ g e y).rd (gp g M) w' v)
theorem kY.fn[ey α]{y:List α}(h:kY P f xs e y):Fn P f xs (dt y):=λ M w vs hm hr=>
 (h M w vs hm hr).mono λ _ _ ⟨v,_,he,hx,hg,hv⟩=>⟨v,he,hx,JJ hv (λ b _ hb=>.inl hb) λ b hb hMb=>by
  have:=hm b hMb;have:=(hg b hb).1;omega⟩
end
def eG.take(w0:World)(g:Option Nat):eG where
 J w:=w0.grownBy w g
 Own b:=g=some b\/w0.heap.size<=b
 ext h k:=h.trans ⟨k.os,k.tape,k.output,k.size,λ i hi _=>k.block i hi⟩
 own h hg hb:=⟨hg.os.trans h.os,hg.tape.trans h.tape,hg.output.trans h.output,aS h.size hg.size,λ i hi hne=>(hg.block i (ay hi h.size) (λ e=>by
  rcases hb i e with h1 | h1
  .exact hne h1.symm
  .omega)).trans (h.block i hi hne)⟩
 fresh h _ hb:=.inr (aS h.size hb)
section
variable{α:Type}[ey α]
def pL(P:Program)(f:FuncId)(e:TypeId)(xs:List α)(rest:List Dt)(ys:List α):Prop:=
 ∀
  (M0:Nat->Prop) (g:Option Nat) (w:World) (v:Value) (vs:List Value),(∀ b,gp g M0 b->b<w.heap.size)->(∀ b,g=some b->¬ M0 b)->(eQ g e xs).rd (gp g M0) w v->RdAll (gp g M0) w vs rest->
  Calls P f (v::vs).toArray w (λ en w'=>∃ v' g',en=.returned v'/\w.grownBy w' g/\(g'=g\/∀ b,g'=some b->w.heap.size<=b)/\(∀ b,g'=some b->b<w'.heap.size)/\(eQ g' e ys).rd (gp g' M0) w' v')
def uy(e:TypeId)(M0:Nat->Prop)(w0:World)(g:Option Nat)(ys:List α):Ending->World->Prop:=λ en w'=>
 ∃ v' g',en=.returned v'/\w0.grownBy w' g/\(g'=g\/∀ b,g'=some b->w0.heap.size<=b)/\(∀ b,g'=some b->b<w'.heap.size)/\(eQ g' e ys).rd (gp g' M0) w' v'
theorem RdAll.nth:∀ {vs:List Value} {xs:List Dt},RdAll M w vs xs->∀ (i s:Nat) (x:Dt),(zL i xs).lookup s=some x->∃ j v,s=i+j/\vs[j]?=some v/\x.rd M w v:=by
 intro vs xs hr
 induction hr with
 | nil=>intro i s x h;simp[zL] at h
 |cons h r ih=>
  rename_i v x' vs xs;intro i s x hs;simp only[zL,af] at hs;by_cases he:s=i
  .subst he;simp at hs;subst hs;exact⟨0,v,Z,Z,h⟩
  .have hb:(s == i)=false:=by simpa using he
   simp[hb] at hs;obtain⟨j,u,h1,h2,h3⟩:=ih _ s x hs;exact⟨j+1,u,by omega,by simpa using h2,h3⟩
theorem RdAll.len:∀ {vs:List Value} {xs:List Dt},RdAll M w vs xs->vs.length=xs.length:=by
 intro vs xs hr
 induction hr with
 | nil=>rfl
 | cons _ _ ih=>simp[ih]
theorem J'{fn:Func}{c:Code}{xs ys:List α}{rest:List Dt}(hf:P.funcs[f]?=some fn)(hb:fn.body=some c)(hn:rest.length+1<=fn.ntmps)
  (h:∀ (M0:Nat->Prop) (g:Option Nat) (w:World) (a:Act),kS (eG.take w g) M0 g->(∀ b,M0 b->b<w.heap.size)->St (eG.take w g) fn.ntmps (gp g M0) (zL 0 (eQ g e xs::rest)) a w->c.wp P (bodyPost P fn (uy e M0 w g ys)) a w):pL P f e xs rest ys:=by
 intro M0 g w v vs hm hg hv hr;have hra:RdAll _ w (v::vs) _:=.cons hv hr;refine cU hf hb (h M0 g w _ (λ b hb=>⟨.inl hb,hg b hb⟩) (λ b hb=>hm b (.inl hb)) ?_);have hl:=hra.len;refine⟨cR _ _,by simp at hl ⊢;omega,Z,hm,λ s x hs=>?_⟩;obtain⟨j,u,h1,h2,h3⟩:=hra.nth 0 s x hs;have h4:Act.at { tmps:=(v::vs).toArray++Array.replicate (fn.ntmps - (v::vs).toArray.size) undef,defers:=[] } s=u:=by
  have hj:=(ai.1 h2).1;have h5:(v::vs).toArray[j]?=some u:=by simpa using h2
  have hj':j<(v::vs).toArray.size:=by simpa using hj
  have:s=j:=by omega
  subst this;simp[Act.at];rw[bc hj',h5];rfl
 rw[h4];exact h3
variable{look:Nat->Option Dt}
theorem GJ{fn:Func}{t:Nat}{x y:List α}(hr:fn.results=#[.tmp t])(hfr:F=eG.take w0 g)(htip:kS F M0 g')(hsub:∀ b,gp g' M' b->gp g' M0 b)(hst:St F N (gp g' M0) L a w)(hl:L.lookup t=some (eQ g' e x))(hx:x=y):
  bodyPost P fn (uy e M' w0 g y) .ret a w:=by
 subst hfr hx;refine⟨hst.defers,_,cV hr a.tmps P w,_,g',Z,hst.fr,?_,λ b hb=>hst.mok b (.inr hb),(eQ g' e x).weak (hst.has t _ hl) λ k _ hk=>hsub k hk⟩;cases g' with
 | none=>exact .inr λ b hb=>by cases hb
 |some b=>
  rcases(htip b rfl).1 with h | h
  .exact .inl h.symm
  .exact .inr λ k hk=>by injection hk with hk;omega
def sx(e:TypeId)(M:Nat->Prop)(w:World)(y:List α):Ending->World->Prop:=λ en w'=>
 ∃ v g,en=.returned v/\fy w w'/\(∀ b,g=some b->w.heap.size<=b/\b<w'.heap.size)/\(eQ g e y).rd (gp g M) w' v
theorem RX{fn:Func}{c:Code}{y:List α}(hf:P.funcs[f]?=some fn)(hb:fn.body=some c)(hn:xs.length<=fn.ntmps)
  (h:∀ (M:Nat->Prop) (w:World) (a:Act),(∀ b,M b->b<w.heap.size)->St (eG.of w) fn.ntmps M (zL 0 xs) a w->c.wp P (bodyPost P fn (sx e M w y)) a w):kY P f xs e y:=by
 intro M w vs hm hr;refine cU hf hb (h M w _ hm ?_);have hl:=hr.len;refine⟨eh _ _,by simp;omega,Z,hm,λ s x hs=>?_⟩;obtain⟨j,u,h1,h2,h3⟩:=hr.nth 0 s x hs;have h4:Act.at { tmps:=vs.toArray++Array.replicate (fn.ntmps - vs.toArray.size) undef,defers:=[] } s=u:=by
  have hj:=(ai.1 h2).1;have h5:vs.toArray[j]?=some u:=by simpa using h2
  have hj':j<vs.toArray.size:=by simpa using hj
  have:s=j:=by omega
  subst this;simp[Act.at];rw[bc hj',h5];rfl
 rw[h4];exact h3
theorem Tp{xs:List α}{n c:Nat}(h:(eQ g e xs).rd M w (.slice A n c))(hj:j<=xs.length):(eQ g e (xs.take j)).rd M w (.slice A j c):=by
 have hlen:(xs.take j).length=j:=by simp;omega
 rcases h with⟨cells,hown,hrow,hb⟩ | ⟨hg,hx,B,hv⟩
 .rcases hown.2 with⟨h1,h2⟩ | ⟨b,cap,cur,h1,h2,h3,h4,h5,h6,h7⟩
  .have:j=0:=by omega
   subst this;injection h1 with e1 e2 e3;subst e1 e3;exact .inr ⟨by rw[<-hb];rfl,by simp,none,Z⟩
  .injection h1 with e1 e2 e3;subst e1 e3;refine .inl ⟨cells.take _,⟨?_,.inr ⟨b,c,cur,by rw[hlen],h2,h3,by omega,h5,h6,?_⟩⟩,W7 j hj hrow,hb⟩
   .rw[hlen,aJ,hown.1,bz (aK _ hj)]
   .rw[hlen,<-h7,ct,bz (aK _ hj)]
 .injection hv with e1 e2 e3;subst e1 e3;subst hx;have:j=0:=by simpa using hj
  subst this;exact .inr ⟨hg,Z,_,Z⟩
theorem IT{i:Operand}{xs:List α}{x:α}(ho:o.op=.indexAddr t s i)(ht':gV P t (ey.size α)=true)(hs:eC M look s (eQ g e xs))(hi:eC M look i (dt m))(hm:m=(k:Int))
  (hx:xs[k]?=some x):eP P M look o (eY g (k*ey.size α) x):=by subst hm;exact RJ ho ht' hs hi hx
def ET(g:Option Nat)(ys:List α):Dt where
 rd M w v:=∃ A c,v=.slice A ys.length c/\(ys=[]\/∃ b off cells,A=some ⟨b,off,none⟩/\g=some b/\iu w b off cells/\gQ M w cells ys/\b<w.heap.size)
 own:=eA g
 nb:=false
 nob h:=by cases h
 stable:=λ{M w w' v} ⟨A,c,hv,h⟩ k=>⟨A,c,hv,h.imp _root_.id λ⟨b,off,cells,hA,hg,hc,hr,hlt⟩=>by
  have hb:w'.heap[b]?=w.heap[b]?:=k b hlt (.inr hg);refine⟨b,off,cells,hA,hg,λ j u hj=>?_,Yn k.mono hr,?_⟩
  .rw[World.cell?_of_block (w:=w) (a:=⟨b,off+j,none⟩) hb];exact hc j u hj
  .rw[an hlt] at hb;exact(aB.1 hb).1⟩
 weak:=λ⟨A,c,hv,h⟩ k=>⟨A,c,hv,h.imp _root_.id λ⟨b,off,cells,hA,hg,hc,hr,hlt⟩=>⟨b,off,cells,hA,hg,hc,wN k hr,hlt⟩⟩
theorem Sm{ys:List α}:pY (ET g ys) ys:=λ _ _ _ ⟨A,c,hv,h⟩=>⟨A,c,hv,h.imp _root_.id λ⟨b,off,cells,hA,_,hc,hr,_⟩=>⟨b,off,cells,hA,hc,hr⟩⟩
theorem Hm{xs:List α}(h:(eQ g e xs).rd M w v):∃ A c,v=.slice A xs.length c/\xs.length<=c:=by
 rcases h with⟨cells,hown,_,_⟩ | ⟨_,hx,B,hv⟩
 .rcases hown.2 with⟨h1,h2⟩ | ⟨b,cap,cur,h1,_,_,h4,_⟩
  .exact⟨none,0,by rw[h1,h2],by omega⟩
  .exact⟨_,cap,h1,h4⟩
 .exact⟨B,0,by rw[hv,hx];rfl,by rw[hx];exact al _⟩
theorem RS{xs:List α}{n:Int}(ho:o.op=.slice t s none (some h) none)(hs:eC M look s (eQ g e xs))(hh:eC M look h (dt n))(hn:n=(j:Int))
  (h2:j<=xs.length)(ht':gV P t (ey.size α)=true:=by kernel_rfl):eP P M look o (eQ g e (xs.take j)):=
 zz λ a w _ hk=>by
  subst hn;obtain⟨e',ht⟩:=jZ ht';obtain⟨A,c,hv,hc⟩:=Hm (hs w a hk);have hrun:=W8 ht A xs.length c none (some (j:Int)) (h1:=(cG _)) (by simp) (by simp;omega) w;simp at hrun;have hA:(if c=0 then A else A.map (·.add 0))=A:=by
   split
   .rfl
   .cases A with
    | none=>rfl
    |some ad=>
     have:ad.add 0=ad:=by unfold Addr.add;simp
     simp[this]
  rw[hA] at hrun;have h3:=hs w a hk;rw[hv] at h3;refine⟨.slice A j c,?_,Tp h3 h2⟩;unfold execOp;rw[ho];simp[hv,yq.1 (hh w a hk),hrun]
theorem RT{l:Operand}{xs:List α}{n:Int}(ho:o.op=.slice t s (some l) none none)(hs:eC M look s (eQ g e xs))(hl:eC M look l (dt n))(hn:n=(i:Int))
  (h2:i<=xs.length)(ht':gV P t (ey.size α)=true:=by kernel_rfl):eP P M look o (ET g (xs.drop i)):=
 zz λ a w _ hk=>by
  subst hn;obtain⟨e',ht⟩:=jZ ht';obtain⟨A,c,hv,hc⟩:=Hm (hs w a hk);have hrun:=W8 ht A xs.length c (some (i:Int)) none (by simp;omega) (by simp;omega) w;simp at hrun;have h3:=hs w a hk;have hlen:(xs.drop i).length=xs.length - i:=by simp
  refine⟨.slice (if c=i then A else A.map (·.add (i*ey.size α))) _ (c - i),?_,_,_,by rw[hlen],?_⟩
  .unfold execOp;rw[ho];simp[hv,yq.1 (hl w a hk),hrun]
  .by_cases hi:i=xs.length
   .left;rw[hi];simp
   .right
    rcases h3 with⟨cells,hown,hrow,hb⟩ | ⟨_,hx,_⟩
    .rcases hown.2 with⟨h1,h2'⟩ | ⟨b,cap,cur,h1,h2',h3',h4,h5,h6,h7⟩
     .omega
     .rw[hv] at h1;injection h1 with e1 e2 e3;subst e1 e3;rw[Kf (by omega)];refine⟨b,0+i*ey.size α,cells.drop _,by simp[jI],by rw[<-hb,hv];rfl,λ q u hq=>?_,W6 i h2 hrow,xM h3'⟩;rw[bL] at hq;have:=hown.cells (by rw[hv];rfl) _ u hq;rw[jI] at this;rw[aD] at this ⊢;exact this
    .exfalso;subst hx;simp at h2;exact hi (by simp[h2])
theorem Rz{x:Dt}:pZ x none:=λ _ h=>by cases h
theorem Te:∀ b,gp g (gp g2 M) b ↔ gp g2 (gp g M) b:=λ b=>by unfold gp;constructor <;> (rintro ((h | h) | h) <;> simp[h])
theorem kS.apart(h:kS F M0 g)(k:kS F (gp g M0) g2):kS F (gp g2 M0) g:=λ b hb=>⟨(h b hb).1,λ hm=>hm.elim (h b hb).2 λ h2=>(k b h2).2 (.inr hb)⟩
theorem RW{xs:List α}(k:kS F (gp g M0) g2):pZ (eQ g2 e xs) g:=λ b hb h=>(k b h).2 (.inr hb)
def E7(P:Program)(t:TypeId)(f off:Nat)(agg:Bool)(size:Nat):Bool:=
 match P.underlying t with
 |some (.struct fs)=>match fs[f]? with
  | some fl=>fl.offset == off&&fM P fl.type agg size
  | none=>false
 | _=>false
theorem Sp{size:Nat}{cs:List Value}(ht:fM P t agg size=true)(hl:c.length=size)(h1:agg=false->size=1)(h:∀ j u,c[j]?=some u->cs[off+j]?=some u):(part t cs.toArray off).run P w=.ok (gI agg c) w:=by
 obtain⟨h2,h3,_⟩:=Cp ht;unfold part;simp[h2];cases agg with
 |false=>
  have hc:c.length=1:=by rw[hl];exact h1 Z
  obtain⟨u,rfl⟩:=List.length_eq_one_iff.1 hc;have:=h 0 u Z;simp at this;simp[this,gI]
 |true=>
  simp only[bv,h3,ah,gI]
  congr 2
  apply Array.ext';rw[<-hl];apply aZ;intro j;rcases aT j c.length with hj | hj
  .have:=h j c[j] (aa hj);simp[hj,this]
  .rw[bh hj];simp only[];rw[bh];simp;omega
theorem Gw{α β:Type}[ey α][ey β]{v:Operand}{f:Nat}{x:α}{get:α->β}(fl:eM get off)(ho:o.op=.field t v f)(ha:ey.agg α=true)(hv:eC M look v (dt x))(ht:E7 P t f off (ey.agg β) (ey.size β)=true:=by kernel_rfl):eP P M look o (dt (get x)):=
 zz λ a w _ hl=>by
  obtain⟨cs,hr,hval⟩:=hv w a hl;obtain⟨c,hc,hr'⟩:=fl.sub hr;refine⟨gI _ c,?_,c,hr',Z⟩;unfold E7 at ht;split at ht
  .rename_i fs hfs;split at ht
   .rename_i q hq;simp at ht;obtain⟨rfl,ht⟩:=ht;unfold execOp;rw[ho];simp[hval,gI,ha,Instr.field,ax hfs,hq,asAgg,Sp ht (ey.len hr') ey.one hc]
   .cases ht
  .cases ht
end
theorem H0{z:Array Value}(hz:0<z.size)(n:Nat):(madeCells z ((n+1)*z.size)).toList=(madeCells z (n*z.size)).toList++z.toList:=by
 apply aZ;intro j;have hs:(n+1)*z.size=n*z.size+z.size:=bY ..;have hc:z.size*n=n*z.size:=Nat.mul_comm ..;rw[hs];generalize hm:n*z.size=m at*;rcases aT j m with h | h
 .rw[aN (by simpa[madeCells] using h)];simp[madeCells,h,show j<m+z.size by omega]
 .rw[aL (by simpa[madeCells] using h)];simp only[aY,size_madeCells];rcases aT (j - m) z.size with h1 | h1
  .have h2:j % z.size=j - m:=by
    have e:j=(j - m)+z.size*n:=by omega
    rw[e,Nat.add_mul_mod_self_left,Nat.mod_eq_of_lt h1];omega
   simp[madeCells,show j<m+z.size by omega,h2,h1]
  .rw[bh (by simp[madeCells];omega),bh (by simp;omega)]
section
variable{α:Type}[ey α]{look:Nat->Option Dt}
theorem Sk{z:Array Value}{d:α}(hz:∀ (M:Nat->Prop) (w:World),ey.rdc M w z.toList d)(n:Nat):gQ M w (madeCells z (n*ey.size α)).toList (List.replicate n d):=by
 have hsz:z.size=ey.size α:=by have:=ey.len (hz M w);simpa using this
 induction n with
 | zero=>simp[madeCells,gQ]
 |succ n ih=>rw[<-hsz] at ih ⊢;rw[H0 (by rw[hsz];exact ey.pos),List.replicate_succ'];exact Ze ih (B9 (hz M w))
def zeroCells(P:Program)(e:TypeId):Option (List Value):=((P.info? e).bind (·.zero)).map (·.cells.toList)
theorem Hj{l:List Value}{n:Nat}(hn:n<=l.length)(h:off+c.length<=n):(l.take off++c++l.drop (off+c.length)).take n=(l.take n).take off++c++(l.take n).drop (off+c.length):=by
 have e1:(l.take off).length=off:=by simp;omega
 have e2:(l.take off++c).length=off+c.length:=by rw[ao,e1]
 rw[cl,aM (by omega),e2,ct,bz (by omega),cY]
end
