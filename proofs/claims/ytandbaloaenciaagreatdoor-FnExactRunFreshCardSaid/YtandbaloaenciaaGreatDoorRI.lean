import Derived.Test.YtandbaloaenciaaGreatDoorRFb
import Derived.Test.YtandbaloaenciaaGreatDoorRB
import Derived.Test.YtandbaloaenciaaGreatDoorRG
import Derived.Test.YtandbaloaenciaaGreatDoorRKc
namespace Go.Proofs.YtandbaloaenciaaGreatDoor
variable{a:Bool}{f:File}{k0 l l0 r:Int}{K:Int->Option Int}{g y:List (List Int)}{roots xs:List Int}{b x:List Stmt}{vs:List Value}{k off:Nat}{M:Nat->Prop}{H:Option (List (List Int))}{m:Option Bool}{q:Prop}{p s:Str}{t:Tree}{c:UInt8}{w:World}
section
variable{α β σ S:Type}
theorem zH(xs:List α)(k:Nat):atI xs (k:Int)=xs[k]?:=by simp[atI]
theorem js{n:Int}(h1:-9223372036854775808<=n)(h2:n<=9223372036854775807):i64 n=some n:=Ke ⟨h1,h2⟩
theorem zG(h:k<4611686018427387904):i64 ((k:Int)+1)=some ((k+1:Nat):Int):=by rw[js (by omega) (by omega)];rfl
theorem zY[Inhabited α](g:Bool)(x:α):gO g (some x)=some (if g=true then x else default):=by unfold gO;split <;> rfl
theorem qt[Inhabited α](e:Option α):gO true e=e:=rfl
theorem Wn[Inhabited α](e:Option α):gO false e=some default:=rfl
theorem zC(k n:Nat):cmpI .lss (k:Int) (n:Int)=decide (k<n):=by simp[cmpI]
theorem yu{b:Nat}{xs ys:List α}(h:(xs.length+ys.length)*b<=140737488355328)(h2:xs.length+ys.length<=9223372036854775807):appO b xs ys=some (xs++ys):=Ke ⟨h,h2⟩
theorem zaG(h:k<=s.l.length):cutHO s (k:Int)=some ⟨s.l.take k⟩:=by unfold cutHO;rw[Ke ⟨by omega,by omega⟩];rfl
theorem zaH(h:k<=s.l.length):cutLO s (k:Int)=some ⟨s.l.drop k⟩:=by unfold cutLO;rw[Ke ⟨by omega,by omega⟩];rfl
theorem WP{xs:List α}(h:k<=xs.length):XF xs (k:Int)=some (xs.take k):=by unfold XF;rw[Ke ⟨by omega,by omega⟩];rfl
theorem zce{xs:List α}{y:α}(h:k<xs.length):setO xs (k:Int) y=some (xs.set k y):=by unfold setO;rw[Ke ⟨by omega,by omega⟩];rfl
theorem Qs{m n:Str}(h:m.l.length+n.l.length<=9223372036854775807):catO m n=some ⟨m.l++n.l⟩:=Ke h
theorem x8{step:S->Option (S⊕β)}{s s':S}{n:Nat}(h:step s=some (.inl s')):wy step (n+1) s=wy step n s':=by rw[wy,h]
theorem yq{step:S->Option (S⊕β)}{s:S}{b:β}{n:Nat}(h:step s=some (.inr b)):wy step (n+1) s=some b:=by rw[wy,h]
theorem iterM_mono{step:S->Option (S⊕β)}{r:β}:∀ (m j:Nat) (s:S),wy step m s=some r->wy step (m+j) s=some r:=by
 intro m
 induction m with
 | zero=>intro j s h;simp[wy] at h
 |succ m ih=>
  intro j s h;rw[show m+1+j=(m+j)+1 by omega];unfold wy at h ⊢;split at h
  ·cases h
  ·exact ih j _ h
  ·exact h
theorem jk{step:S->Option (S⊕β)}{r:β}{m:Nat}{s:S}(h:wy step m s=some r)(hm:m<=1152921504606846976):zE step s=some r:=by
 unfold zE;have:=iterM_mono m (1152921504606846976 - m) s h;rwa[show m+(1152921504606846976 - m)=1152921504606846976 by omega] at this
def runL(R:Nat->σ->α->σ⊕β)(fin:σ->β):Nat->σ->List α->β
 | _,s,[]=>fin s
 |k,s,x::xs=>match R k s x with
  | .inl s'=>runL R fin (k+1) s' xs
  | .inr b=>b
theorem zcf{step:S->Option (S⊕β)}(xs:List α)(mk:σ->Nat->S)(R:Nat->σ->α->σ⊕β)(fin:σ->β)(Inv:Nat->σ->Prop)
  (h:∀ k s x,xs[k]?=some x->k<xs.length->Inv k s->match R k s x with
   | .inl s'=>step (mk s k)=some (.inl (mk s' (k+1)))/\Inv (k+1) s'
   | .inr b=>step (mk s k)=some (.inr b))
  (hend:∀ s,Inv xs.length s->step (mk s xs.length)=some (.inr (fin s))) {s0:σ} (h0:Inv 0 s0) (hlen:xs.length<576460752303423488):zE step (mk s0 0)=some (runL R fin 0 s0 xs):=by
 have key:∀ m k s,k+m=xs.length->Inv k s->wy step (m+1) (mk s k)=some (runL R fin k s (xs.drop k)):=by
  intro m
  induction m with
  |zero=>
   intro k s hk hi;have:k=xs.length:=by omega
   subst this;rw[List.drop_length,runL,wy,hend s hi]
  |succ m ih=>
   intro k s hk hi;have hlt:k<xs.length:=by omega
   have hx:xs[k]?=some xs[k]:=List.getElem?_eq_getElem hlt;rw[List.drop_eq_getElem_cons hlt,runL,wy];have hr:=h k s xs[k] hx hlt hi;cases e:R k s xs[k] with
   |inl s'=>rw[e] at hr;simp only at hr;rw[hr.1];exact ih (k+1) s' (by omega) hr.2
   |inr b=>rw[e] at hr;simp only at hr;rw[hr]
 exact jk (key xs.length 0 s0 (by omega) h0) (by omega)
theorem loop_find{step:Int->Option (Int⊕β)}(xs:List α)(R:Nat->α->Option β)(e:β)
  (h:∀ k x,xs[k]?=some x->k<xs.length->step (k:Int)=some (match R k x with | none=>.inl ((k+1:Nat):Int) | some b=>.inr b))
  (hend:step (xs.length:Int)=some (.inr e)) (hlen:xs.length<576460752303423488) {s:Int} (hs:s=0):
  zE step s=some (runL (λ k (_:Unit) x=>match R k x with | none=>.inl () | some b=>.inr b) (λ _=>e) 0 () xs):=by
 subst hs;refine zcf (σ:=Unit) xs (λ _ k=>(k:Int)) _ _ (λ _ _=>True) (λ k s x hx hlt _=>?_) (λ _ _=>hend) trivial hlen;have:=h k x hx hlt;cases hR:R k x with
 | none=>rw[hR] at this;exact⟨this,trivial⟩
 | some b=>rw[hR] at this;exact this
theorem runL_any(p:α->Bool)(b e:β):∀ (k:Nat) (xs:List α),runL (λ _ (_:Unit) x=>match (if p x=true then some b else none) with | none=>.inl () | some b=>.inr b) (λ _=>e) k () xs=if xs.any p=true then b else e
 | _,[]=>rfl
 |k,x::xs=>by
  cases h:p x with
  | true=>simp[runL,h]
  | false=>simp only[runL,h];rw[List.any_cons,h,Bool.false_or];exact runL_any p b e (k+1) xs
theorem qu{step:Int->Option (Int⊕β)}(xs:List α)(p:α->Bool)(b e:β)
  (h:∀ k x,xs[k]?=some x->k<xs.length->step (k:Int)=some (if p x=true then .inr b else .inl ((k+1:Nat):Int)))
  (hend:step (xs.length:Int)=some (.inr e)) (hlen:xs.length<576460752303423488) {s:Int} (hs:s=0):
  zE step s=some (if xs.any p=true then b else e):=by
 rw[loop_find xs (λ _ x=>if p x=true then some b else none) e (λ k x hx hlt=>?_) hend hlen hs,runL_any];rw[h k x hx hlt];cases p x <;> rfl
theorem runL_idx(p:α->Bool)(f:Int->β)(e:β):∀ (k:Nat) (xs:List α),runL (λ k (_:Unit) x=>match (if p x=true then some (f k) else none) with | none=>.inl () | some b=>.inr b) (λ _=>e) k () xs=(match xs.findIdx? p with | some i=>f ((k+i:Nat):Int) | none=>e)
 | _,[]=>rfl
 |k,x::xs=>by
  cases h:p x with
  | true=>simp[runL,h,List.findIdx?_cons]
  |false=>
   simp only[runL,h,List.findIdx?_cons,Bool.false_eq_true,if_false];rw[runL_idx p f e (k+1) xs];cases xs.findIdx? p with
   | none=>rfl
   | some i=>simp only[Option.map_some];congr 1;omega
theorem Wo{step:Int->Option (Int⊕β)}(xs:List α)(p:α->Bool)(f:Int->β)(e:β)
  (h:∀ k x,xs[k]?=some x->k<xs.length->step (k:Int)=some (if p x=true then .inr (f k) else .inl ((k+1:Nat):Int)))
  (hend:step (xs.length:Int)=some (.inr e)) (hlen:xs.length<576460752303423488) {s:Int} (hs:s=0):
  zE step s=some (match xs.findIdx? p with | some i=>f (i:Int) | none=>e):=by
 rw[loop_find xs (λ k x=>if p x=true then some (f k) else none) e (λ k x hx hlt=>?_) hend hlen hs,runL_idx]
 ·cases xs.findIdx? p <;> simp
 ·rw[h k x hx hlt];cases p x <;> rfl
theorem runL_fold(g:σ->α->σ)(fin:σ->β):∀ (k:Nat) (s:σ) (xs:List α),runL (λ _ s x=>(.inl (g s x):σ⊕β)) fin k s xs=fin (xs.foldl g s)
 | _,_,[]=>rfl
 | k,s,x::xs=>runL_fold g fin (k+1) (g s x) xs
theorem zaI{step:S->Option (S⊕β)}(xs:List α)(mk:σ->Nat->S)(g:σ->α->σ)(fin:σ->β)(Inv:Nat->σ->Prop)
  (h:∀ k s x,xs[k]?=some x->k<xs.length->Inv k s->step (mk s k)=some (.inl (mk (g s x) (k+1)))/\Inv (k+1) (g s x))
  (hend:∀ s,Inv xs.length s->step (mk s xs.length)=some (.inr (fin s))) {s0:σ} (h0:Inv 0 s0) (hlen:xs.length<576460752303423488):zE step (mk s0 0)=some (fin (xs.foldl g s0)):=by
 rw[zcf xs mk (λ _ s x=>.inl (g s x)) fin Inv h hend h0 hlen,runL_fold]
end
variable{α:Type}
theorem WI(hs:mid s):y7 s=some (zB s):=by
 unfold mid at hs;have hl:zE (λ s4=>qJ s s4) 0=some (if s.l.any (λ b=>!low b)=true then .inr false else .inl ()):=by
  refine qu s.l _ _ _ (λ k x hx hlt=>?_) ?_ (by omega) Z
  ·unfold qJ;rw[zC,Ke (decide_eq_true hlt),zH,hx,obS,zY,obS,zG (by omega)];unfold low;generalize cmpB .lss x (UInt8.ofNat 97)=c1;cases c1 with
   | true=>rfl
   |false=>rw[Ke (show(false == false)=true from Z)];generalize cmpB .gtr x (UInt8.ofNat 122)=c2;cases c2 <;> rfl
  ·unfold qJ;rw[zC,Kf (by simp)]
 unfold y7;rw[hl,obS];unfold zB;cases h:s.l.any (λ b=>!low b) with
 |true=>
  have:s.l.all low=false:=by
   rw[Bool.eq_false_iff];intro h2;rw[List.any_eq_true] at h;obtain⟨b,hb,hb2⟩:=h;rw[List.all_eq_true.1 h2 b hb] at hb2;cases hb2
  simp[this]
 |false=>
  have:s.l.all low=true:=by
   rw[List.all_eq_true];intro b hb;have:=List.any_eq_false.1 h b hb;simpa using this
  simp only[Bool.false_eq_true,if_false,Sum.elim_inl,yb,obS,this,Bool.and_true,inR];simp[cmpI]
def cutF(c:UInt8):List UInt8->List (List UInt8)
 | []=>[[]]
 |b::l=>if b == c then[]::cutF c l else match cutF c l with
  | h::t=>(b::h)::t
  | []=>[[b]]
theorem XX(c b:UInt8)(l:List UInt8):cutF c (b::l)=if b == c then[]::cutF c l else match cutF c l with
  | h::t=>(b::h)::t
  | []=>[[b]]:=rfl
theorem YV(c:UInt8):∀ l,cutF c l≠[]
 | []=>by simp[cutF]
 |b::l=>by
  unfold cutF;split
  ·simp
  ·split <;> simp
theorem zas(c:UInt8):∀ l,(cutF c l).length=l.count c+1
 | []=>by simp[cutF]
 |b::l=>by
  unfold cutF;cases h:b == c with
  |true=>simp only[if_true,List.length_cons,zas c l];rw[List.count_cons,h];simp
  |false=>
   simp only[Bool.false_eq_true,if_false];rw[List.count_cons,h];simp only[Bool.false_eq_true,if_false,Nat.add_zero];rw[← zas c l];cases hc:cutF c l with
   | nil=>exact absurd hc (YV c l)
   | cons h t=>rfl
theorem za8(c:UInt8):∀ (l:List UInt8) (st:List Str×Str),(let r:=l.foldl (j0 c) st;r.1++[r.2])=st.1++(match cutF c l with | h::t=>(⟨st.2.l++h⟩:Str)::t.map Str.mk | []=>[])
 | [],st=>by simp[cutF]
 |b::l,st=>by
  rw[List.foldl_cons];have ih:=za8 c l (j0 c st b);simp only at ih ⊢;rw[ih];unfold j0;rw[XX];cases h:b == c with
  |true=>
   simp only[if_true,List.append_assoc];cases hc:cutF c l with
   | nil=>exact absurd hc (YV c l)
   | cons h t=>simp
  |false=>
   simp only[Bool.false_eq_true,if_false];cases hc:cutF c l with
   | nil=>exact absurd hc (YV c l)
   | cons h t=>simp
theorem jt(s:Str)(c:UInt8):zx s c=(cutF c s.l).map Str.mk:=by
 have:=za8 c s.l ([],⟨[]⟩);simp only at this;unfold zx xI;rw[this];cases hc:cutF c s.l with
 | nil=>exact absurd hc (YV c s.l)
 | cons h t=>simp
theorem X8(c:UInt8):∀ l,Lib.indexByte l c<0->cutF c l=[l]
 | [],_=>rfl
 |b::l,h=>by
  unfold Lib.indexByte at h;unfold cutF;cases hb:b == c with
  | true=>rw[hb] at h;simp at h
  |false=>
   rw[hb] at h;simp only[Bool.false_eq_true,if_false] at h ⊢;have hge:=Lib.indexByte_ge l c;have:Lib.indexByte l c<0:=by
    split at h
    ·rename_i e;have:=eq_of_beq e;omega
    ·omega
   rw[X8 c l this]
theorem X9(c:UInt8):∀ l,0<=Lib.indexByte l c->Lib.indexByte l c<l.length/\cutF c l=l.take (Lib.indexByte l c).toNat::cutF c (l.drop ((Lib.indexByte l c).toNat+1))
 | [],h=>by simp[Lib.indexByte] at h
 |b::l,h=>by
  unfold Lib.indexByte at h ⊢;cases hb:b == c with
  | true=>simp[cutF,hb]
  |false=>
   rw[hb] at h;simp only[Bool.false_eq_true,if_false] at h ⊢;cases he:Lib.indexByte l c == -1 with
   | true=>rw[he] at h;simp at h
   |false=>
    rw[he] at h;simp only[Bool.false_eq_true,if_false] at h ⊢;have hge:=Lib.indexByte_ge l c;have hne:Lib.indexByte l c≠-1:=by simpa using he
    obtain⟨h1,h2⟩:=X9 c l (by omega);refine⟨by simp;omega,?_⟩;have e1:(Lib.indexByte l c+1).toNat=(Lib.indexByte l c).toNat+1:=by omega
    rw[e1];rw[XX,hb,h2];simp only[Bool.false_eq_true,if_false,List.take_succ_cons,List.drop_succ_cons]
theorem genSplit_loop(c:UInt8)(n:Nat)(hn:n<1099511627777):∀ (l:List UInt8) (done:List Str),l.length<=1099511627776->done.length+(cutF c l).length=n->
  ∀
   m,(cutF c l).length<=m->wy (λ s35=>wF ⟨[c]⟩ 0 ((n:Int) - 1) s35) m ((⟨l⟩:Str),done++List.replicate (n - done.length) zStr,(done.length:Int))=
   some (⟨(cutF c l).getLast (YV c l)⟩,done++((cutF c l).dropLast.map Str.mk++[zStr]),(n:Int) - 1):=by
 intro l
 induction hlen:l.length using Nat.strongRecOn generalizing l with
 |_ k ih=>
  intro done hl hd m hm;have hne:=YV c l;have hpos:0<(cutF c l).length:=List.length_pos_iff.2 hne;obtain⟨m,rfl⟩:∃ m',m=m'+1:=⟨m - 1,by omega⟩;by_cases hlast:(cutF c l).length=1
  ·rw[yq (b:=((⟨l⟩:Str),done++List.replicate (n - done.length) zStr,(done.length:Int))) (by unfold wF;exact Kf (by simp[cmpI];omega))];obtain⟨x,hx⟩:=List.length_eq_one_iff.1 hlast;have e1:n - done.length=1:=by omega
   simp only[hx,List.getLast_singleton,List.dropLast_singleton,List.map_nil,List.nil_append,e1,List.replicate_one];have hxl:x=l:=by
    rcases Int.lt_or_le (Lib.indexByte l c) 0 with h | h
    ·rw[X8 c l h] at hx;injection hx with hx;exact hx.symm
    ·obtain⟨_,h2⟩:=X9 c l h;rw[h2] at hx;have:=congrArg List.length hx;simp at this;exact absurd this (YV _ _)
   rw[hxl]
   congr 2
   congr 1
   omega
  ·have hidx:0<=Lib.indexByte l c:=by
    rcases Int.lt_or_le (Lib.indexByte l c) 0 with h | h
    ·rw[X8 c l h] at hlast;simp at hlast
    ·exact h
   obtain⟨h1,h2⟩:=X9 c l hidx;obtain⟨j,hi⟩:=Int.eq_ofNat_of_zero_le hidx;rw[hi] at h1 h2;rw[Int.toNat_natCast] at h2;have hj:j<l.length:=by omega
   have e2:wA ⟨l⟩ ⟨[c]⟩=some (j:Int):=by simp[wA,hi]
   have hrep:done.length<(done++List.replicate (n - done.length) zStr).length:=by simp;omega
   have e4:atI (done++List.replicate (n - done.length) zStr) (done.length:Int)=some zStr:=by
    rw[zH,List.getElem?_append_right (Nat.le_refl _),Nat.sub_self,List.getElem?_replicate,Ke (by omega)]
   have e5:setO (done++List.replicate (n - done.length) zStr) (done.length:Int) (⟨l.take j⟩:Str)=some ((done++[⟨l.take j⟩])++List.replicate (n - (done.length+1)) zStr):=by
    rw[zce hrep]
    congr 1
    rw[List.set_append_right _ _ (Nat.le_refl _),Nat.sub_self];obtain⟨q,hq⟩:∃ q,n - done.length=q+1:=⟨n - done.length - 1,by omega⟩;rw[hq,List.replicate_succ,List.set_cons_zero,List.append_assoc,show n - (done.length+1)=q by omega];rfl
   have hstep:wF ⟨[c]⟩ 0 ((n:Int) - 1) ((⟨l⟩:Str),done++List.replicate (n - done.length) zStr,(done.length:Int))=some (.inl ((⟨l.drop (j+1)⟩:Str),(done++[⟨l.take j⟩])++List.replicate (n - (done.length+1)) zStr,((done.length+1:Nat):Int))):=by
    unfold wF;rw[Ke (by simp[cmpI];omega)];simp only;rw[e2,obS,Kf (by simp[cmpI]),show((j:Int)+0)=(j:Int) by omega,js (by omega) (by omega),obS,zaG (show j<=(⟨l⟩:Str).l.length by show j<=l.length;omega),obS,e4,obS,e5,obS];rw[show((j:Int)+(([c]:List UInt8).length:Int))=((j+1:Nat):Int) from Z,js (by omega) (by omega),obS,zaH (show j+1<=(⟨l⟩:Str).l.length by show j+1<=l.length;omega),obS,zG (by omega),obS]
   rw[x8 hstep];have hlen2:(cutF c (l.drop (j+1))).length+1=(cutF c l).length:=by rw[h2];rfl
   have hrec:=ih (l.drop (j+1)).length (by simp;omega) (l.drop (j+1)) Z (done++[⟨l.take j⟩]) (by simp;omega) (by simp;omega) m (by omega);rw[List.length_append,List.length_singleton] at hrec;rw[hrec];have hne2:=YV c (l.drop (j+1));have e7:(cutF c l).getLast hne=(cutF c (l.drop (j+1))).getLast hne2:=by
    have:∀ (L:List (List UInt8)) (hL:L≠[]),L=l.take j::cutF c (l.drop (j+1))->L.getLast hL=(cutF c (l.drop (j+1))).getLast hne2:=by
     intro L hL e;subst e;exact List.getLast_cons hne2
    exact this _ hne h2
   have e8:(cutF c l).dropLast=l.take j::(cutF c (l.drop (j+1))).dropLast:=by
    have:∀ (L:List (List UInt8)),L=l.take j::cutF c (l.drop (j+1))->L.dropLast=l.take j::(cutF c (l.drop (j+1))).dropLast:=by
     intro L e;subst e;rw[List.dropLast_cons_of_ne_nil hne2]
    exact this _ h2
   rw[e7,e8];simp
theorem Split_eq(hs:s.l.length<=8388608)(c:UInt8):wB s ⟨[c]⟩=some (zx s c):=by
 unfold wB Zv;have hcount:s.l.count c<=s.l.length:=List.count_le_length;rw[Kf (by simp[cmpI]),Kf (by simp)];have e1:ZC s ⟨[c]⟩=some (s.l.count c:Int):=rfl;rw[Ke (by simp[cmpI]),e1,obS,zG (by omega),obS,obS,zG (by omega),obS];have hmin:(if((s.l.length+1:Nat):Int)<((s.l.count c+1:Nat):Int) then((s.l.length+1:Nat):Int) else((s.l.count c+1:Nat):Int))=((s.l.count c+1:Nat):Int):=Kf (by omega);rw[hmin];have hbig:s.l.count c+1<=16777216:=by omega
 have e2:QC 1 16 ((s.l.count c+1:Nat):Int) zStr=some (List.replicate (s.l.count c+1) zStr):=by
  unfold QC;rw[Ke ⟨by omega,by simp;omega,by simp;omega,by omega⟩];rfl
 rw[e2,obS,js (by omega) (by omega),obS];have hl:=jk (genSplit_loop c (s.l.count c+1) (by omega) s.l [] (by omega) (by simp[zas]) (s.l.count c+1) (by rw[zas];omega)) (by omega);simp only[List.nil_append,List.length_nil,Nat.sub_zero] at hl;rw[show((0:Nat):Int)=0 from Z] at hl;rw[hl,obS];have hne:=YV c s.l;have hlen:=zas c s.l;have hz:((cutF c s.l).dropLast.map Str.mk).length=s.l.count c:=by simp[hlen]
 have e3:(((s.l.count c+1:Nat):Int) - 1)=(s.l.count c:Int):=by omega
 simp only[e3];have e4:atI ((cutF c s.l).dropLast.map Str.mk++[zStr]) (s.l.count c:Int)=some zStr:=by
  rw[zH,List.getElem?_append_right (by omega),hz,Nat.sub_self];rfl
 have e5:setO ((cutF c s.l).dropLast.map Str.mk++[zStr]) (s.l.count c:Int) (⟨(cutF c s.l).getLast hne⟩:Str)=some ((cutF c s.l).map Str.mk):=by
  unfold setO;rw[Ke ⟨by omega,by simp[hlen]⟩]
  congr 1
  rw[Int.toNat_natCast,List.set_append_right _ _ (by omega),hz,Nat.sub_self,List.set_cons_zero];have:=List.dropLast_concat_getLast hne
  conv=>rhs;rw[← this]
  simp
 rw[e4,obS,e5,obS,zG (by omega),obS];have e6:XF ((cutF c s.l).map Str.mk) ((s.l.count c+1:Nat):Int)=some ((cutF c s.l).map Str.mk):=by
  unfold XF;rw[Ke ⟨by omega,by simp[hlen]⟩]
  congr 1
  rw[Int.toNat_natCast];exact List.take_of_length_le (by simp[hlen])
 rw[e6,jt];rfl
def sho(s:Str):Prop:=s.l.length<=8388608
theorem sho.mid{s:Str}(h:sho s):mid s:=by unfold sho at h;unfold Go.Proofs.YtandbaloaenciaaGreatDoor.mid;omega
theorem zcS(s:Str)(c:UInt8):(zx s c).length<=s.l.length+1:=by have:=zbK (zx s c);rwa[Z3] at this
theorem split_part{x:Str}(h:x∈zx s c):x.l.length<=s.l.length+1:=by
 obtain⟨k,hk⟩:=List.getElem?_of_mem h;have:=part_le hk;rwa[Z3] at this
theorem Wa(p:α->Bool)(l:List α):l.any (λ x=>!p x)=!l.all p:=by
 induction l with
 | nil=>rfl
 | cons x l ih=>simp[ih]
theorem wl(hs:sho s):ya s=some (zj s):=by
 unfold sho at hs;have hlen:=zcS s dot;unfold ya;rw[show wB s (⟨[46]⟩:Str)=some (zx s dot) from Split_eq hs dot,obS];have hl:zE (λ s7=>qK (zx s dot) s7) 0=some (if(zx s dot).any (λ x=>!zB x)=true then .inr false else .inl ()):=by
  refine qu _ _ _ _ (λ k x hx hlt=>?_) ?_ (by omega) Z
  ·unfold qK;have hm:mid x:=by have:=split_part (List.mem_of_getElem? hx);unfold mid;omega
   rw[zC,Ke (decide_eq_true hlt),zH,hx,obS,WI hm,obS,zG (by omega)];cases zB x <;> rfl
  ·unfold qK;rw[zC,Kf (by simp)]
 rw[hl,obS,Wa];unfold zj;cases(zx s dot).all zB <;> rfl
theorem Yx(hs:sho s):y8 s=some (zi s):=by
 unfold y8;rw[wl hs,zY,obS];unfold zi emptyS;cases decide (s=(⟨[]⟩:Str)) <;> rfl
theorem zdS(hs:sho s):q5 s=some (if zj s=true then zx s dot else[]):=by
 unfold q5;rw[wl hs,obS,show wB s (⟨[46]⟩:Str)=some (zx s dot) from Split_eq hs dot];cases zj s <;> rfl
def Jt(p s:Str):Str:=if(zi p&&zB s&&zj (child p s))=true then child p s else emptyS
theorem zbs(h:p.l.length+s.l.length+1<=8388608):wX p s=some (Jt p s):=by
 have hp:sho p:=by unfold sho;omega
 have hs:mid s:=by unfold mid;omega
 unfold wX Jt;rw[Yx hp,obS,WI hs,zY,obS];cases zi p with
 | false=>simp only[Bool.not_false,Bool.true_or,if_true,Bool.false_and,Bool.false_eq_true,if_false,emptyS]
 |true=>
  cases zB s with
  | false=>simp only[Bool.not_false,Bool.or_true,if_true,Bool.false_and,Bool.and_false,Bool.false_eq_true,if_false,emptyS,Bool.not_true,beq_self_eq_true]
  |true=>
   have hc:(if(decide (p≠(⟨[]⟩:Str)))=true then((catO p (⟨[46]⟩:Str)).bind λ v14=>(catO v14 s).bind λ v15=>some v15) else(some s))=some (child p s):=by
    unfold child emptyS;by_cases he:p=⟨[]⟩
    ·rw[Kf (by simp[he]),Ke he]
    ·rw[Ke (by simp[he]),Kf he,Qs (by show p.l.length+1<=_;omega),obS,Qs (by rw[List.length_append];show p.l.length+1+s.l.length<=_;omega),obS]
   have hsc:sho (child p s):=by
    unfold sho child;split
    ·omega
    ·rw[List.length_append,List.length_append];show p.l.length+1+s.l.length<=_;omega
   rw[hc,Kf (by decide),obS,wl hsc,obS];generalize child p s=q;cases zj q <;> rfl
theorem HasPrefix_eq:ji s p=some (decide (p.l.length<=s.l.length)&&decide ((⟨s.l.take p.l.length⟩:Str)=p)):=by
 unfold ji xe;by_cases h:p.l.length<=s.l.length
 ·have e:cmpI .geq (s.l.length:Int) (p.l.length:Int)=true:=by simp[cmpI,h]
  rw[e,zaG h];simp[gO,h]
 ·have e:cmpI .geq (s.l.length:Int) (p.l.length:Int)=false:=by simp[cmpI];omega
  rw[e];simp[gO,h]
theorem IsUnder_eq(hs:sho s)(hp:p.l.length+1<=8388608):Z6 s p=some (zj s&&zi p&&under s p):=by
 have hp':sho p:=by unfold sho;omega
 unfold Z6;rw[wl hs,obS,Yx hp',zY,obS,Qs (by show p.l.length+1<=_;omega),zY];unfold under emptyS;cases zj s with
 | false=>rfl
 |true=>
  cases zi p with
  | false=>rfl
  |true=>
   cases he:decide (p=(⟨[]⟩:Str)) with
   | true=>rfl
   |false=>
    cases hq:decide (s=p) with
    | true=>rfl
    |false=>
     simp only[HasPrefix_eq,zY,Bool.not_true,Bool.or_self,Bool.false_eq_true,if_false,beq_self_eq_true,if_true,Bool.true_and,Bool.false_or,obS,List.length_append,List.length_singleton]
     congr 2
     simp[cmpI];omega
theorem ZV(a b c:Int):yb a b c=some (inR a b c):=rfl
theorem ZM:zj emptyS=false:=rfl
theorem idx_join(p:α->Bool)(xs:List α):Option.bind (some (match xs.findIdx? p with | some i=>(Sum.inr (i:Int):Unit⊕Int) | none=>Sum.inl ())) (Sum.elim (λ _=>some (-1)) some)=some (xm p xs):=by
 unfold xm;cases xs.findIdx? p <;> rfl
theorem J6(p:α->Bool)(xs:List α):cmpI .geq (xm p xs) 0=xs.any p:=by
 unfold xm;cases h:xs.findIdx? p with
 |none=>
  rw[List.findIdx?_eq_none_iff] at h;have:xs.any p=false:=by rw[List.any_eq_false];intro x hx;simp[h x hx]
  rw[this];rfl
 |some i=>
  obtain⟨hi,hp,_⟩:=List.findIdx?_eq_some_iff_getElem.1 h;have:xs.any p=true:=by rw[List.any_eq_true];exact⟨_,List.getElem_mem hi,hp⟩
  rw[this];simp[cmpI]
theorem idxOf_lss{p:α->Bool}{xs:List α}{x:α}(hx:xs[k]?=some x)(hp:p x=true):cmpI .lss (xm p xs) k=(xs.take k).any p:=by
 have hk:=zK hx;have hxk:xs[k]=x:=by rw[List.getElem?_eq_getElem hk] at hx;injection hx
 unfold xm;cases h:xs.findIdx? p with
 |none=>rw[List.findIdx?_eq_none_iff] at h;have:=h x (List.mem_of_getElem? hx);rw[hp] at this;cases this
 |some i=>
  obtain⟨hi,hpi,hmin⟩:=List.findIdx?_eq_some_iff_getElem.1 h;by_cases hik:i<k
  ·have:(xs.take k).any p=true:=by
    rw[List.any_eq_true];exact⟨xs[i],List.mem_take_iff_getElem.2 ⟨i,by omega,Z⟩,hpi⟩
   rw[this];simp[cmpI,hik]
  ·have:(xs.take k).any p=false:=by
    rw[List.any_eq_false];intro y hy;obtain⟨j,hj,rfl⟩:=List.mem_take_iff_getElem.1 hy;exact hmin j (by omega)
   rw[this];simp[cmpI];omega
theorem IndexI_eq{n:Int}(h:xs.length<=1152921504606846):wc xs n=some (xm (λ x=>n == x) xs):=by
 unfold wc;have hl:zE (λ s4=>wD xs n s4) 0=some (match xs.findIdx? (λ x=>n == x) with | some i=>(Sum.inr (i:Int):Unit⊕Int) | none=>Sum.inl ()):=by
  refine Wo xs (λ x=>n == x) (λ i=>Sum.inr i) _ (λ k x hx hlt=>?_) ?_ (by omega) Z
  ·unfold wD;rw[zC,Ke (decide_eq_true hlt),zH,hx,obS,zG (by omega),show cmpI .eql n x=(n == x) from Z];cases n == x <;> rfl
  ·unfold wD;rw[zC,Kf (by simp)]
 rw[hl];exact idx_join _ _
theorem ContainsI_eq{n:Int}(h:xs.length<=1152921504606846):xp xs n=some (xs.any (λ x=>n == x)):=by
 unfold xp;rw[IndexI_eq h,obS,J6]
theorem stmt_mod(s:Stmt):decide (s={ (⟨s.kind,⟨[]⟩,0,⟨[]⟩,0⟩:Stmt) with module:=s.module })=(cmpI .eql s.level 0&&decide (s.name=⟨[]⟩)&&cmpI .eql s.value 0):=by
 cases s;rw[Bool.eq_iff_iff];simp[cmpI,and_assoc]
theorem stmt_nv(s:Stmt):decide (s={ { (⟨s.kind,⟨[]⟩,0,⟨[]⟩,0⟩:Stmt) with name:=s.name } with value:=s.value })=(decide (s.module=⟨[]⟩)&&cmpI .eql s.level 0):=by
 cases s;rw[Bool.eq_iff_iff];simp[cmpI]
theorem stmt_n(s:Stmt):decide (s={ (⟨s.kind,⟨[]⟩,0,⟨[]⟩,0⟩:Stmt) with name:=s.name })=(decide (s.module=⟨[]⟩)&&cmpI .eql s.level 0&&cmpI .eql s.value 0):=by
 cases s;rw[Bool.eq_iff_iff];simp[cmpI,and_assoc]
theorem smStmt.sho{s:Stmt}(h:smStmt s):sho s.module:=by have:=h.1;unfold Go.Proofs.YtandbaloaenciaaGreatDoor.sho;omega
theorem smStmt.midn{s:Stmt}(h:smStmt s):mid s.name:=by have:=h.2;unfold mid;omega
theorem stmtOk_eq{s:Stmt}(h:smStmt s):YI s=some (zP s):=by
 have hm:=wl h.sho;have hn:=WI h.midn;unfold YI;rw[hm,hn,stmt_mod,stmt_nv,stmt_n];simp only[ZV,zY,obS];unfold zP;rcases s with⟨kind,m,level,name,value⟩;simp only[show ∀ x y:Int,cmpI .eql x y=(x == y) from λ _ _=>Z];by_cases h0:kind=0
 ·subst h0;simp only[beq_self_eq_true,if_true,obS];generalize zj m=a;generalize (level == 0)=b;generalize decide (name=⟨[]⟩)=c;generalize (value == 0)=d;cases a <;> cases b <;> cases c <;> cases d <;> rfl
 ·by_cases h2:kind=2
  ·subst h2;simp only[beq_self_eq_true,if_true,obS,show((2:Int) == 0)=false from Z,show((2:Int) == 1)=false from Z,Bool.false_eq_true,if_false];generalize zj m=a;generalize (level == 0)=b;generalize decide (name=⟨[]⟩)=c;generalize (value == 0)=d;cases a <;> cases b <;> cases c <;> cases d <;> rfl
  ·have e0:(kind == 0)=false:=by simpa using h0
   have e2:(kind == 2)=false:=by simpa using h2
   simp only[e0,e2,Bool.false_eq_true,if_false,obS];by_cases h1:kind=1
   ·subst h1;simp only[beq_self_eq_true,if_true];have hl:cmpI .geq level 1=cmpI .gtr level 0:=by simp[cmpI];omega
    rw[hl];unfold zi;by_cases hme:m=emptyS
    ·subst hme;rw[ZM];simp only[emptyS,decide_true,ne_eq,not_true_eq_false,decide_false];generalize (value == 0)=a;generalize inR level 0 3=b;generalize cmpI .gtr level 0=c;generalize zB name=d;cases a <;> cases b <;> cases c <;> cases d <;> rfl
    ·have e1:decide (m=emptyS)=false:=decide_eq_false hme;have e3:decide (m=⟨[]⟩)=false:=decide_eq_false hme;have e4:decide (m≠⟨[]⟩)=true:=decide_eq_true hme;rw[e1,e3,e4];generalize (value == 0)=a;generalize inR level 0 3=b;generalize cmpI .gtr level 0=c;generalize zB name=d;generalize zj m=e;cases a <;> cases b <;> cases c <;> cases d <;> cases e <;> rfl
   ·have e1:(kind == 1)=false:=by simpa using h1
    simp only[e1,Bool.false_eq_true,if_false];by_cases h3:kind=3
    ·subst h3;simp only[beq_self_eq_true,if_true];generalize decide (m=⟨[]⟩)=a;generalize (level == 0)=b;generalize inR value 0 99=c;generalize zB name=d;cases a <;> cases b <;> cases c <;> cases d <;> rfl
    ·have e3:(kind == 3)=false:=by simpa using h3
     simp only[e3,Bool.false_eq_true,if_false];by_cases h4:kind=4
     ·subst h4;simp only[beq_self_eq_true,if_true];generalize decide (m=⟨[]⟩)=a;generalize (level == 0)=b;generalize (value == 0)=c;generalize zB name=d;cases a <;> cases b <;> cases c <;> cases d <;> rfl
     ·have e4:(kind == 4)=false:=by simpa using h4
      simp only[e4,Bool.false_eq_true,if_false];by_cases h5:kind=5
      ·subst h5;rfl
      ·have e5:(kind == 5)=false:=by simpa using h5
       simp only[e5,Bool.false_eq_true,if_false]
theorem zcg(hlen:b.length<=1048576)(h:∀ s∈b,smStmt s):jA b=some (yc b):=by
 unfold jA;have hl:zE (λ s4=>qL b s4) 0=some (if b.any (λ x=>!zP x)=true then .inr false else .inl ()):=by
  refine qu _ _ _ _ (λ k x hx hlt=>?_) ?_ (by omega) Z
  ·unfold qL;rw[zC,Ke (decide_eq_true hlt),zH,hx,obS,stmtOk_eq (h x (List.mem_of_getElem? hx)),obS,zG (by omega)];cases zP x <;> rfl
  ·unfold qL;rw[zC,Kf (by simp)]
 rw[hl,obS,Wa];unfold yc;cases b.all zP <;> rfl
theorem child_ne(h:zj (child p s)=true):child p s≠emptyS:=by
 intro e;rw[e,ZM] at h;cases h
theorem smFile.shop(h:smFile f):sho f.pkg:=by have:=h.1;unfold sho;omega
theorem smFile.midn(h:smFile f):mid f.name:=by have:=h.2.1;unfold mid;omega
theorem smFile.child(h:smFile f):f.pkg.l.length+f.name.l.length+1<=8388608:=by have:=h.1;have:=h.2.1;omega
theorem fileOk_eq(h:smFile f):ZO f=some (yy f):=by
 unfold ZO;rw[ZV,obS,Yx h.shop,zY,obS,ZV,zY,obS,zcg h.2.2.1 h.2.2.2,zY,obS,WI h.midn,obS,zbs h.child,zY,obS];unfold yy;cases inR f.root 0 2 with
 | false=>rfl
 |true=>
  cases hp:zi f.pkg with
  | false=>cases inR f.stamp 0 99 <;> rfl
  |true=>
   cases inR f.stamp 0 99 with
   | false=>rfl
   |true=>
    cases yc f.body with
    | false=>rfl
    |true=>
     cases f.init with
     | true=>rfl
     |false=>
      show some (zB f.name&&decide ((if(zB f.name == true)=true then Jt f.pkg f.name else default)≠(⟨[]⟩:Str)))=some (zB f.name&&zj (Go.Proofs.YtandbaloaenciaaGreatDoor.child f.pkg f.name));cases hn:zB f.name with
      | false=>rfl
      |true=>
       unfold Jt;rw[hp,hn];cases hc:zj (Go.Proofs.YtandbaloaenciaaGreatDoor.child f.pkg f.name) with
       | false=>simp[emptyS]
       |true=>have:=child_ne hc;simp only[Bool.and_self,if_true,beq_self_eq_true,Bool.true_and];rw[decide_eq_true (show Go.Proofs.YtandbaloaenciaaGreatDoor.child f.pkg f.name≠⟨[]⟩ from this)]
theorem zch(f g:File):qY f g=some (wa f g):=rfl
theorem za9(f g:File):wa f g=wa g f:=by
 unfold wa;rw[BEq.comm (a:=f.root),BEq.comm (a:=f.init),decide_eq_decide.2 (eq_comm (a:=f.pkg) (b:=g.pkg)),decide_eq_decide.2 (eq_comm (a:=f.name) (b:=g.name))]
theorem sameFile_refl(f:File):wa f f=true:=by simp[wa]
theorem Yy(h:jZ t):y9 t=some (zI t):=by
 have hlen:=h.1;unfold y9;have hl:zE (λ s4=>qN t s4) 0=some (if(List.range t.files.length).any (λ k=>!Qh t.files k)=true then .inr false else .inl ()):=by
  refine qu (List.range t.files.length) _ _ _ (λ k x hx hlt=>?_) ?_ (by rw[List.length_range];omega) Z
  ·rw[List.length_range] at hlt;rw[List.getElem?_range hlt] at hx;injection hx with hx;subst hx;unfold qN;obtain⟨f,hf⟩:∃ f,t.files[k]?=some f:=⟨_,List.getElem?_eq_getElem hlt⟩;have ht:Qh t.files k=!(!yy f||cmpI .lss (yM t.files f) k):=by unfold Qh;rw[hf]
   rw[zC,Ke (decide_eq_true hlt),zH,hf,obS,fileOk_eq (h.2 _ (List.mem_of_getElem? hf)),obS,WP (by omega),obS,ht];cases yy f with
   | false=>rfl
   |true=>
    rw[Kf (by decide)];have hin:zE (λ s28=>qM f (t.files.take k) s28) 0=some (if(t.files.take k).any (λ x=>wa f x)=true then .inr (.inr (.inr false)) else .inl ()):=by
     have htl:(t.files.take k).length<=k:=by simp;omega
     refine qu _ _ _ _ (λ j y hy hjt=>?_) ?_ (by omega) Z
     ·unfold qM;rw[zC,Ke (decide_eq_true hjt),zH,hy,obS,zch,obS,zG (by omega)];cases wa f y <;> rfl
     ·unfold qM;rw[zC,Kf (by simp)]
    rw[hin];have hfa:cmpI .lss (yM t.files f) k=(t.files.take k).any (λ x=>wa f x):=by
     unfold yM;rw[idxOf_lss (p:=λ x=>wa x f) hf (sameFile_refl _)]
     congr 1
     funext x
     exact za9 _ _
    rw[hfa];cases(t.files.take k).any (λ x=>wa f x) with
    | true=>rfl
    |false=>rw[Kf (by decide),obS,Sum.elim_inl,zG (by omega)];rfl
  ·unfold qN;rw[List.length_range,zC,Kf (by simp)]
 rw[hl,obS,Wa];unfold zI W1;cases(List.range t.files.length).all (Qh t.files) <;> rfl
theorem fileAt_eq(h:t.files.length<=1048576):ZP t f=some (yM t.files f):=by
 unfold ZP;have hl:zE (λ s4=>Yr t f s4) 0=some (match t.files.findIdx? (λ x=>wa x f) with | some i=>(Sum.inr (i:Int):Unit⊕Int) | none=>Sum.inl ()):=by
  refine Wo t.files (λ x=>wa x f) (λ i=>Sum.inr i) _ (λ k x hx hlt=>?_) ?_ (by omega) Z
  ·unfold Yr;rw[zC,Ke (decide_eq_true hlt),zH,hx,obS,zch,obS,zG (by omega),za9];cases wa x f <;> rfl
  ·unfold Yr;rw[zC,Kf (by simp)]
 rw[hl];exact idx_join _ _
theorem Yi(h:zI t=true)(hf:f∈t.files):yy f=true:=by
 obtain⟨k,hk⟩:=List.getElem?_of_mem hf;unfold zI W1 at h;rw[Bool.and_eq_true] at h;have:=List.all_eq_true.1 h.1 k (List.mem_range.2 (zK hk));unfold Qh at this;rw[hk] at this;simp only at this;cases hv:yy f with
 | true=>rfl
 | false=>rw[hv] at this;cases this
theorem YR(h:yy f=true):zi f.pkg=true:=by
 unfold yy at h;cases hv:zi f.pkg with
 | true=>rfl
 |false=>rw[hv,Ke (by simp)] at h;cases h
theorem hasDir_eq(h:jZ t)(hv:∀ f∈t.files,zi f.pkg=true)(hp:zi p=true)(hpl:p.l.length+1<=8388608):YJ t r p=some (Xg t.files r p):=by
 have hlen:=h.1;unfold YJ;have hl:zE (λ s4=>Yq t r p s4) 0=some (if t.files.any (QY r p)=true then .inr true else .inl ()):=by
  refine qu _ _ _ _ (λ k x hx hlt=>?_) ?_ (by omega) Z
  ·unfold Yq;have hm:=List.mem_of_getElem? hx;rw[zC,Ke (decide_eq_true hlt),zH,hx,obS,IsUnder_eq (h.2 x hm).shop hpl,zY,obS,zG (by omega),hp];unfold QY;have hvx:=hv x hm;unfold zi at hvx;rw[show cmpI .eql x.root r=(x.root == r) from Z];by_cases he:x.pkg=emptyS
   ·rw[he,ZM];simp
   ·have e1:zj x.pkg=true:=by simpa[he] using hvx
    rw[e1,decide_eq_true (show x.pkg≠emptyS from he)];cases x.root == r <;> cases under x.pkg p <;> rfl
  ·unfold Yq;rw[zC,Kf (by simp)]
 rw[hl,obS];unfold Xg emptyS;cases t.files.any (QY r p) <;> rfl
theorem ValidPath_eq{l:List Int}(h:l.length<=1048576):jB l=some (jy l):=by
 unfold jB;have hl:zE (λ s4=>qO l s4) 0=some (if(List.range l.length).any (λ k=>!zbl l k)=true then .inr false else .inl ()):=by
  refine qu (List.range l.length) _ _ _ (λ k x hx hlt=>?_) ?_ (by rw[List.length_range];omega) Z
  ·rw[List.length_range] at hlt;rw[List.getElem?_range hlt] at hx;injection hx with hx;subst hx;unfold qO;obtain⟨n,hf⟩:∃ n,l[k]?=some n:=⟨_,List.getElem?_eq_getElem hlt⟩;have htl:(l.take k).length<=1152921504606846:=by simp;omega
   have ht:zbl l k=!(!inR n 0 2||(l.take k).any (λ x=>n == x)):=by
    unfold zbl;rw[hf];simp only;unfold intAt;rw[J6,show(λ x=>x == n)=(λ x=>n == x) from by funext x;exact BEq.comm]
   rw[zC,Ke (decide_eq_true hlt),zH,hf,obS,ZV,obS,WP (by omega),zY,obS,ht,zG (by omega)];cases inR n 0 2 with
   | false=>rfl
   |true=>simp only[Bool.not_true,beq_self_eq_true,if_true];rw[ContainsI_eq htl,zY,obS];cases(l.take k).any (λ x=>n == x) <;> rfl
  ·unfold qO;rw[List.length_range,zC,Kf (by simp)]
 rw[hl,obS,Wa];unfold jy QZ;cases(List.range l.length).all (zbl l) <;> rfl
structure Good(t:Tree):Prop where
 sm:jZ t
 ok:zI t=true
theorem Good.pkg{t:Tree}(h:Good t):∀ f∈t.files,zi f.pkg=true:=λ _ hf=>YR (Yi h.ok hf)
theorem Good.len(h:Good t):t.files.length<=1048576:=h.sm.1
theorem qF(h:zB s=true):1<=s.l.length/\s.l.length<=3:=by
 unfold zB inR at h;simp[cmpI] at h;omega
theorem lenSum_le(l:List Str)(h:∀ x∈l,x.l.length<=3):wW l<=4*l.length:=by
 induction l with
 | nil=>exact Nat.le_refl _
 |cons x l ih=>
  have h1:=h x (by simp);have h2:=ih λ y hy=>h y (by simp[hy])
  unfold wW at h2 ⊢;simp only[List.map_cons,List.sum_cons,List.length_cons];omega
theorem yF(h:zj s=true):s.l.length<=11:=by
 unfold zj at h;rw[Bool.and_eq_true] at h;have h1:=lenSum_le (zx s dot) λ x hx=>(qF (List.all_eq_true.1 h.1 x hx)).2
 rw[Z3] at h1;have h2:=h.2;simp[cmpI] at h2;omega
theorem yf(h:zi s=true):s.l.length<=11:=by
 unfold zi at h;rw[Bool.or_eq_true] at h;rcases h with h | h
 ·rw[oD h];exact Nat.zero_le _
 ·exact yF h
def J7:List (List UInt8)->List UInt8
 | []=>[]
 | [a]=>a
 | a::b::l=>a++46::J7 (b::l)
theorem zba:∀ (l:List Str) (acc:List UInt8),(l.foldl Wg (⟨acc⟩,true)).1=⟨acc++(l.map λ x=>46::x.l).flatten⟩
 | [],acc=>by simp
 |x::l,acc=>by
  rw[List.foldl_cons];show(l.foldl Wg (⟨(acc++[46])++x.l⟩,true)).1=_;rw[zba l];simp
theorem zbt(a:List UInt8)(l:List (List UInt8)):J7 (a::l)=a++(l.map λ x=>46::x).flatten:=by
 induction l generalizing a with
 | nil=>simp[J7]
 | cons b l ih=>rw[J7,ih];simp
theorem zbu(l:List Str):join l=⟨J7 (l.map (·.l))⟩:=by
 cases l with
 | nil=>rfl
 |cons x l=>unfold join Yp;rw[List.foldl_cons];show(l.foldl Wg (⟨[]++x.l⟩,true)).1=_;rw[zba,List.map_cons,zbt];simp[List.map_map,Function.comp_def]
theorem cutF_pre(c:UInt8):∀ (a l:List UInt8),c ∉ a->cutF c (a++c::l)=a::cutF c l
 | [],l,_=>by simp[cutF]
 |b::a,l,h=>by
  have hb:(b == c)=false:=by
   have:b≠c:=λ e=>h (by simp[e])
   simpa using this
  rw[List.cons_append,XX,hb,cutF_pre c a l (λ e=>h (by simp[e]))];rfl
theorem zci(c:UInt8):∀ (a:List UInt8),c ∉ a->cutF c a=[a]
 | [],_=>rfl
 |b::a,h=>by
  have hb:(b == c)=false:=by
   have:b≠c:=λ e=>h (by simp[e])
   simpa using this
  rw[XX,hb,zci c a (λ e=>h (by simp[e]))];rfl
theorem zdT:∀ (l:List (List UInt8)),l≠[]->(∀ x∈l,(46:UInt8) ∉ x)->cutF 46 (J7 l)=l
 | [],h,_=>absurd Z h
 | [a],_,h=>zci 46 a (h a (by simp))
 |a::b::l,_,h=>by
  rw[J7,cutF_pre 46 a _ (h a (by simp)),zdT (b::l) (by simp) λ x hx=>h x (by simp[hx])]
theorem zbv:∀ (l:List UInt8),J7 (cutF 46 l)=l
 | []=>rfl
 |b::l=>by
  rw[XX];cases hb:b == 46 with
  |true=>
   have ih:=zbv l;have hb:=eq_of_beq hb;rw[Ke Z];cases hc:cutF 46 l with
   | nil=>exact absurd hc (YV 46 l)
   | cons h t=>rw[J7,← hc,ih,hb];rfl
  |false=>
   have ih:=zbv l;rw[Kf (by decide)];cases hc:cutF 46 l with
   | nil=>exact absurd hc (YV 46 l)
   |cons h t=>rw[hc] at ih;show J7 ((b::h)::t)=b::l;rw[zbt] at ih ⊢;rw[← ih];rfl
theorem join_split(s:Str):join (zx s dot)=s:=by
 rw[zbu,jt,List.map_map];show(⟨J7 ((cutF 46 s.l).map λ x=>x)⟩:Str)=s;rw[List.map_id',zbv]
theorem low_ne{b:UInt8}(h:low b=true):b≠46:=by
 intro e;subst e;revert h;decide
theorem validPart_dot(h:zB s=true):(46:UInt8) ∉ s.l:=by
 unfold zB at h;rw[Bool.and_eq_true] at h;intro hm;exact low_ne (List.all_eq_true.1 h.2 _ hm) Z
theorem zdU{l:List Str}(hne:l≠[])(h:∀ x∈l,zB x=true):zx (join l) dot=l:=by
 rw[zbu,jt];show(cutF 46 (J7 (l.map (·.l)))).map Str.mk=l;rw[zdT _ (by simpa using hne) (by
  intro x hx;obtain⟨y,hy,rfl⟩:=List.mem_map.1 hx;exact validPart_dot (h y hy)),List.map_map]
 show l.map (λ x=>x)=l;exact List.map_id' l
theorem zdV{l:List Str}(hne:l≠[])(hlen:l.length<=3)(h:∀ x∈l,zB x=true):zj (join l)=true:=by
 unfold zj;rw[zdU hne h,Bool.and_eq_true];exact⟨List.all_eq_true.2 h,by simp[cmpI];omega⟩
theorem jf(h:zj s=true):(∀ x∈zx s dot,zB x=true)/\(zx s dot).length<=3:=by
 unfold zj at h;rw[Bool.and_eq_true] at h;have:=h.2;simp[cmpI] at this;exact⟨List.all_eq_true.1 h.1,by omega⟩
theorem pre_valid(h:zj s=true)(k:Nat):zi (join ((zx s dot).take k))=true:=by
 obtain⟨h1,h2⟩:=jf h;unfold zi;cases k with
 | zero=>rfl
 |succ k=>have hne:=QX s dot;rw[zdV (by intro e;have:=congrArg List.length e;simp at this;rw[this] at hne;simp at hne) (by simp;omega) λ x hx=>h1 x (List.mem_of_mem_take hx),Bool.or_true]
theorem dir_of_init{t:List File}{c:Str}(hc:c≠emptyS)(h:cmpI .geq (yM t ⟨r,c,⟨[]⟩,true,0,[]⟩) 0=true):Xg t r c=true:=by
 unfold yM at h;rw[J6,List.any_eq_true] at h;obtain⟨f,hf,hs⟩:=h;unfold wa at hs;simp only[Bool.and_eq_true,beq_iff_eq,decide_eq_true_eq] at hs;obtain⟨⟨⟨h1,h2⟩,_⟩,_⟩:=hs;unfold Xg;rw[Bool.or_eq_true,List.any_eq_true];refine .inl ⟨f,hf,?_⟩;unfold QY under;simp[h1,h2,hc]
theorem find_eq(ht:Good t)(hr:roots.length<=1048576)(hp:zi p=true)(hs:zB s=true)(hc:zj (child p s)=true):Y3 t roots p s=some (YY t.files roots p s):=by
 have hpl:=yf hp;have hsl:=(qF hs).2;have hcl:=yF hc;have hne:=child_ne hc;have hcp:zi (child p s)=true:=by unfold zi;rw[hc,Bool.or_true]
 have he:Jt p s=child p s:=by unfold Jt;rw[hp,hs,hc];rfl
 unfold Y3;rw[zbs (by omega),he,obS,Kf (by simp only[decide_eq_true_eq];exact hne)];have hl:zE (λ s16=>jM t roots p s (child p s) s16) (zSpec,[],(0:Int))=some (runL (λ _ (acc:List Int) r=>
   if cmpI .geq (yM t.files ⟨r,child p s,⟨[]⟩,true,0,[]⟩) 0=true then .inr (Sum.inr (⟨2,yM t.files ⟨r,child p s,⟨[]⟩,true,0,[]⟩,[r]⟩:Spec))
   else if cmpI .geq (yM t.files ⟨r,p,s,false,0,[]⟩) 0=true then .inr (Sum.inr (⟨1,yM t.files ⟨r,p,s,false,0,[]⟩,[]⟩:Spec))
   else .inl (if Xg t.files r (child p s)=true then acc++[r] else acc)) (λ acc=>Sum.inl (zSpec,acc)) 0 [] roots):=by
  refine zcf (σ:=List Int) roots (λ acc k=>(zSpec,acc,(k:Int))) _ _ (λ k acc=>acc.length<=k) (λ k acc r hx hlt hi=>?_) (λ acc _=>?_) (Nat.le_refl 0) (by omega)
  ·have hst:jM t roots p s (child p s) (zSpec,acc,(k:Int))=(if cmpI .geq (yM t.files ⟨r,child p s,⟨[]⟩,true,0,[]⟩) 0=true then some (.inr (.inr (⟨2,yM t.files ⟨r,child p s,⟨[]⟩,true,0,[]⟩,[r]⟩:Spec)))
     else if cmpI .geq (yM t.files ⟨r,p,s,false,0,[]⟩) 0=true then some (.inr (.inr (⟨1,yM t.files ⟨r,p,s,false,0,[]⟩,[]⟩:Spec)))
     else some (.inl (zSpec,(if Xg t.files r (child p s)=true then acc++[r] else acc),((k+1:Nat):Int)))):=by
    unfold jM;simp only;rw[zC,Ke (decide_eq_true hlt),zH,hx,obS,obS,fileAt_eq ht.len,obS,Bool.true_and,fileAt_eq ht.len,obS,Bool.true_and,hasDir_eq ht.sm ht.pkg hcp (by omega),zG (by omega)];rw[zY,obS,yu (by simp;omega) (by simp;omega)];generalize cmpI .geq (yM t.files ⟨r,child p s,⟨[]⟩,true,0,[]⟩) 0=b1;generalize cmpI .geq (yM t.files ⟨r,p,s,false,0,[]⟩) 0=b2;generalize Xg t.files r (child p s)=b3;cases b1 <;> cases b2 <;> cases b3 <;> rfl
   cases h1:cmpI .geq (yM t.files ⟨r,child p s,⟨[]⟩,true,0,[]⟩) 0 with
   | true=>rw[h1] at hst;exact hst
   |false=>
    rw[h1] at hst;rw[Kf (by decide)] at hst ⊢;cases h2:cmpI .geq (yM t.files ⟨r,p,s,false,0,[]⟩) 0 with
    | true=>rw[h2] at hst;exact hst
    |false=>
     rw[h2] at hst;rw[Kf (by decide)] at hst ⊢;refine⟨hst,?_⟩;split
     ·simp;omega
     ·omega
  ·unfold jM;simp only;rw[zC,Kf (by simp)]
 rw[hl,obS];unfold YY;have key:∀ (rs:List Int) (k:Nat) (acc:List Int),Sum.elim (λ b14:Spec×List Int=>if(cmpI .gtr (b14.2.length:Int) (0:Int))=true then(some (⟨(3:Int),(-1:Int),b14.2⟩:Spec)) else((Za).bind λ v75=>some v75)) some (runL (λ _ (acc:List Int) r=>
   if cmpI .geq (yM t.files ⟨r,child p s,⟨[]⟩,true,0,[]⟩) 0=true then .inr (Sum.inr (⟨2,yM t.files ⟨r,child p s,⟨[]⟩,true,0,[]⟩,[r]⟩:Spec))
   else if cmpI .geq (yM t.files ⟨r,p,s,false,0,[]⟩) 0=true then .inr (Sum.inr (⟨1,yM t.files ⟨r,p,s,false,0,[]⟩,[]⟩:Spec))
   else .inl (if Xg t.files r (child p s)=true then acc++[r] else acc)) (λ acc=>Sum.inl (zSpec,acc)) k acc rs)=some (jp t.files p s acc rs):=by
  intro rs
  induction rs with
  |nil=>intro k acc;unfold jp;simp only[runL,Sum.elim_inl];split <;> rfl
  |cons r rs ih=>
   intro k acc;unfold jp;rw[runL];cases h1:cmpI .geq (yM t.files ⟨r,child p s,⟨[]⟩,true,0,[]⟩) 0 with
   | true=>rw[dir_of_init hne h1];rfl
   |false=>
    rw[Bool.and_false];cases h2:cmpI .geq (yM t.files ⟨r,p,s,false,0,[]⟩) 0 with
    | true=>rfl
    | false=>exact ih _ _
 exact key roots 0 []
theorem zdb(c:UInt8):∀ (a l:List UInt8),cutF c (a++c::l)=cutF c a++cutF c l
 | [],l=>by simp[cutF]
 |b::a,l=>by
  rw[List.cons_append,XX,zdb c a l,XX];cases b == c with
  | true=>rfl
  |false=>
   rw[Kf (by decide),Kf (by decide)];cases hc:cutF c a with
   | nil=>exact absurd hc (YV c a)
   | cons h t=>rfl
theorem split_append(p s:Str):zx ⟨(p.l++[46])++s.l⟩ dot=zx p dot++zx s dot:=by
 rw[jt,jt,jt,← List.map_append];show(cutF 46 ((p.l++[46])++s.l)).map Str.mk=(cutF 46 p.l++cutF 46 s.l).map Str.mk;rw[List.append_assoc,List.singleton_append,zdb]
section
variable{S β:Type}
theorem WQ{step:S->Option (S⊕β)}(n:Nat)(mk:Nat->S){b:β}(h:∀ k,k<n->step (mk k)=some (.inl (mk (k+1))))(hend:step (mk n)=some (.inr b))(hn:n<576460752303423488){s:S}(hs:s=mk 0):zE step s=some b:=by
 subst hs;have key:∀ m k,k+m=n->wy step (m+1) (mk k)=some b:=by
  intro m
  induction m with
  | zero=>intro k hk;rw[show k=n by omega];exact yq hend
  | succ m ih=>intro k hk;rw[x8 (h k (by omega))];exact ih (k+1) (by omega)
 exact jk (key n 0 (by omega)) (by omega)
end
theorem Zq{l:List α}(h:k<l.length):∃ x,l[k]?=some x/\x∈l:=⟨l[k],List.getElem?_eq_getElem h,List.getElem_mem h⟩
theorem libJoin(l:List (List UInt8)):Lib.join l [46]=J7 l:=by
 cases l with
 | nil=>rfl
 |cons a l=>rw[zbt];rw[Lib.join_cons];rfl
theorem NamesAbove_eq(hs:sho s):ja s=some (if zj s=true then Jp s else[]):=by
 unfold ja;rw[zdS hs,obS];cases hv:zj s with
 |false=>rw[Kf (by decide),Kf (by decide),show zE (λ s7=>xW s [] s7) ([],(0:Int))=some [] from WQ (b:=[]) 0 (λ k=>(([]:List Str),(k:Int))) (λ k hk=>absurd hk (by omega)) (by unfold xW;simp only;rw[Kf (by decide)]) (by omega) Z];rfl
 |true=>
  obtain⟨hparts,hlen⟩:=jf hv;have hnl:=yF hv;have hl:zE (λ s7=>xW s (zx s dot) s7) ([],(0:Int))=some (Jp s):=by
   refine WQ (b:=Jp s) (zx s dot).length (λ k=>(Xf (zx s dot) k,(k:Int))) (λ k hk=>?_) (by unfold xW;simp only;rw[zC,Kf (by simp)];rfl) (by omega) Z;unfold xW;simp only;have hj:qX ((zx s dot).take (k+1)) (⟨[46]⟩:Str)=some (join ((zx s dot).take (k+1))):=by
    have hb:=join_le (zx s dot) (k+1);rw[Z3] at hb;have e:(⟨Lib.join (((zx s dot).take (k+1)).map (·.l)) [46]⟩:Str)=join ((zx s dot).take (k+1)):=by rw[libJoin,zbu]
    unfold qX;rw[Ke ⟨by simp;omega,by
     have:=congrArg (λ x:Str=>x.l.length) e;simp only at this;rw[this];omega⟩]
    exact congrArg some e
   rw[zC,Ke (decide_eq_true hk),zdS hs,hv,Ke Z,obS,zG (by omega),obS,WP (by omega),obS,hj,obS,yu (by simp[WE];omega) (by simp[WE];omega),obS,obS,zaQ]
  rw[Ke Z,Ke Z,hl];rfl
theorem JM(h:zI t=true):t.files.length<=12:=by
 unfold zI at h;rw[Bool.and_eq_true] at h;have:=h.2;simp[cmpI] at this;omega
theorem above_len(s:Str):(Jp s).length=(zx s dot).length:=WE _ _
theorem wU{x:Str}(h:zj x=true):sho x:=by have:=yF h;unfold sho;omega
theorem atI_file{l:List File}{n:Int}(h0:0<=n)(h:n<l.length):atI l n=some ((l[n.toNat]?).getD default):=by
 unfold atI;rw[Ke h0];exact get_def h0 h
open Go.RowKit
def Okd{α:Type}[Rep α](x:α):Prop:=∃ M w cs,Rep.rdc M w cs x
section
variable{α β:Type}[Rep α][Rep β]
theorem Okd.fld{get:α->β}(f:Fld get off){x:α}(h:Okd x):Okd (get x):=by
 obtain⟨M,w,cs,hr⟩:=h;obtain⟨c,_,h2⟩:=f.sub hr;exact⟨M,w,c,h2⟩
theorem Okd.str(h:Okd s):s.l.length<=9223372036854775807:=by
 obtain⟨M,w,cs,hr⟩:=h;exact hr.2
theorem Okd.len{xs:List α}(h:Okd xs):xs.length<=9223372036854775807:=by
 obtain⟨M,w,cs,A,c,_,h1,h2,_⟩:=h;exact Nat.le_trans h1 h2
theorem rowR_okd{M:Nat->Prop}{w:World}:∀ {cells:List Value} {xs:List α},rowR M w cells xs->∀ x∈xs,Okd x
 | _,_::_,⟨c,_r,_,h1,h2⟩,x,hx=>(List.mem_cons.1 hx).elim (λ e=>e ▸ ⟨M,w,c,h1⟩) (rowR_okd h2 x)
theorem Okd.mem{xs:List α}(h:Okd xs){x:α}(hx:x∈xs):Okd x:=by
 obtain⟨M,w,cs,A,c,_,_,_,h3⟩:=h;rcases h3 with h3 | ⟨b,o,cells,_,_,_,hr⟩
 ·rw[h3] at hx;cases hx
 ·exact rowR_okd hr x hx
theorem RdAll.okd{xs:List Dt}(hr:RdAll M w vs xs){x:α}(hx:dt x∈xs):Okd x:=by
 induction hr with
 | nil=>cases hx
 |cons h r ih=>
  rcases List.mem_cons.1 hx with e | hx
  ·rw[← e] at h;obtain⟨cs,h1,_⟩:=h;exact⟨M,w,cs,h1⟩
  ·exact ih hx
theorem Fn.okd{P:Program}{f:FuncId}{xs:List Dt}{y:Dt}{x:α}(hx:dt x∈xs)(h:Okd x->Fn P f xs y):Fn P f xs y:=λ M w vs hm hr=>h (hr.okd hx) M w vs hm hr
end
section
variable{α β σ S:Type}
theorem neq_len{m n:Nat}:cmpI .neq (m:Int) (n:Int)=!decide (m=n):=by
 by_cases h:m=n
 ·simp[cmpI,h]
 ·simp[cmpI,h];omega
theorem set_at{xs:List α}{z:α}(hk:k<xs.length):(xs.take k++List.replicate (xs.length - k) z).set k xs[k]=xs.take (k+1)++List.replicate (xs.length - (k+1)) z:=by
 rw[List.set_append_right _ _ (by rw[List.length_take];omega),List.length_take,Nat.min_eq_left (by omega),Nat.sub_self,show xs.length - k=(xs.length - (k+1))+1 by omega,List.replicate_succ,List.set_cons_zero,List.take_add_one,List.getElem?_eq_getElem hk];simp only[Option.toList_some,List.append_assoc,List.singleton_append]
theorem at_at{xs:List α}{z:α}(hk:k<xs.length):(xs.take k++List.replicate (xs.length - k) z)[k]?=some z:=by
 rw[List.getElem?_append_right (by rw[List.length_take];omega),List.length_take,Nat.min_eq_left (by omega),Nat.sub_self,List.getElem?_replicate,Ke (by omega)]
theorem len_at{xs:List α}{z:α}(hk:k<xs.length):k<(xs.take k++List.replicate (xs.length - k) z).length:=by
 rw[List.length_append,List.length_take,List.length_replicate];omega
theorem zcT{step:List α×Int->Option ((List α×Int)⊕List α)}(xs:List α)(z:α)
  (h:∀ k (hk:k<xs.length),step (xs.take k++List.replicate (xs.length - k) z,(k:Int))=some (.inl ((xs.take k++List.replicate (xs.length - k) z).set k xs[k],((k+1:Nat):Int))))
  (hend:∀ ys,step (ys,(xs.length:Int))=some (.inr ys)) (hlen:xs.length<576460752303423488) {s0:List α×Int} (h0:s0=(List.replicate xs.length z,0)):zE step s0=some xs:=by
 have key:∀ m k,k+m=xs.length->wy step (m+1) (xs.take k++List.replicate (xs.length - k) z,(k:Int))=some xs:=by
  intro m
  induction m with
  |zero=>
   intro k hk;have:k=xs.length:=by omega
   subst this;rw[yq (hend _)];simp
  |succ m ih=>
   intro k hk;have hlt:k<xs.length:=by omega
   rw[x8 (h k hlt),set_at hlt];exact ih (k+1) (by omega)
 have h1:=key xs.length 0 (by omega);subst h0;exact jk (by simpa using h1) (by omega)
theorem makeO_of{size bytes n:Nat}{z:α}(h1:n*size<=16777216)(h2:bytes*n<=281474976710656)(h3:n<=9223372036854775807):QC size bytes (n:Int) z=some (List.replicate n z):=by
 unfold QC;rw[Ke ⟨by omega,by simpa using h1,by simpa using h2,by omega⟩];simp
theorem eq_loop[DecidableEq α]{step:Int->Option (Int⊕(Unit⊕Bool))}(xs ys:List α)(hxy:xs.length=ys.length)
  (h:∀ k (hk:k<xs.length) (hk2:k<ys.length),step (k:Int)=some (if xs[k]=ys[k] then .inl ((k+1:Nat):Int) else .inr (.inr false)))
  (hend:step (xs.length:Int)=some (.inr (.inl ()))) (hlen:xs.length<576460752303423488):Option.bind (α:=Unit⊕Bool) (zE step 0) (Sum.elim (λ _=>some true) some)=some (decide (xs=ys)):=by
 have key:∀ m k,k+m=xs.length->xs.take k=ys.take k->∃ r,wy step (m+1) (k:Int)=some r/\(Sum.elim (λ _=>some true) some r:Option Bool)=some (decide (xs=ys)):=by
  intro m
  induction m with
  |zero=>
   intro k hk he;have:k=xs.length:=by omega
   subst this;refine⟨_,yq hend,?_⟩;rw[List.take_length,hxy,List.take_length] at he;simp[he]
  |succ m ih=>
   intro k hk he;have hlt:k<xs.length:=by omega
   have hlt2:k<ys.length:=by omega
   have hs:=h k hlt hlt2;by_cases e:xs[k]=ys[k]
   ·rw[Ke e] at hs;rw[x8 hs];refine ih (k+1) (by omega) ?_;rw[List.take_add_one,List.take_add_one,he,List.getElem?_eq_getElem hlt,List.getElem?_eq_getElem hlt2,e]
   ·rw[Kf e] at hs;refine⟨_,yq hs,?_⟩;have:xs≠ys:=λ h=>by subst h;exact e Z
    simp[this]
 obtain⟨r,h1,h2⟩:=key xs.length 0 (by omega) Z;have h1':wy step (xs.length+1) (0:Int)=some r:=h1;rw[jk h1' (by omega),obS];exact h2
def szR(t:Nat)(left:Int):Int:=if(t:Int)<=left then left - t else -1
theorem szR_neg{t:Nat}{left:Int}:szR t left<0 ↔ left<t:=by unfold szR;split <;> omega
theorem szR_nn{t:Nat}{left:Int}(h:0<=szR t left):(t:Int)<=left/\szR t left=left - t:=by
 unfold szR at h ⊢;split at h
 ·rename_i h1;rw[Ke h1];exact⟨h1,Z⟩
 ·omega
def sumL(f:α->Nat):List α->Nat
 | []=>0
 | x::xs=>f x+sumL f xs
theorem J8{f:α->Nat}:∀ {xs:List α} {x:α},x∈xs->f x<=sumL f xs
 |y::ys,x,hx=>by
  unfold sumL;rcases List.mem_cons.1 hx with rfl | hx
  ·omega
  ·have:=J8 (f:=f) hx;omega
theorem sumL_drop{f:α->Nat}{xs:List α}(hk:k<xs.length):sumL f (xs.drop k)=f xs[k]+sumL f (xs.drop (k+1)):=by
 rw[List.drop_eq_getElem_cons hk];rfl
theorem sz_loop{step:Int×Int->Option ((Int×Int)⊕(Int⊕Int))}(xs:List α)(f:α->Nat)
  (h:∀ k (hk:k<xs.length) (l:Int),0<=l->l<=1048576->step (l,(k:Int))=some (if szR (f xs[k]) l<0 then .inr (.inr (-1)) else .inl (szR (f xs[k]) l,((k+1:Nat):Int))))
  (hend:∀ l,step (l,(xs.length:Int))=some (.inr (.inl l))) (hlen:xs.length<576460752303423488)  (h0:0<=l0) (h1:l0<=1048576):
  Option.bind (α:=Int⊕Int) (zE step (l0,0)) (Sum.elim (λ l=>some l) some)=some (szR (sumL f xs) l0):=by
 have key:∀ m k l,k+m=xs.length->0<=l->l<=1048576->∃ r,wy step (m+1) (l,(k:Int))=some r/\(Sum.elim (λ l=>some l) some r:Option Int)=some (szR (sumL f (xs.drop k)) l):=by
  intro m
  induction m with
  |zero=>
   intro k l hk hl hl2;have:k=xs.length:=by omega
   subst this;refine⟨_,yq (hend l),?_⟩;rw[List.drop_length];show some l=some (szR 0 l)
   congr 1
   unfold szR;rw[Ke (by omega)];simp
  |succ m ih=>
   intro k l hk hl hl2;have hlt:k<xs.length:=by omega
   have hs:=h k hlt l hl hl2;rw[sumL_drop hlt];by_cases e:szR (f xs[k]) l<0
   ·rw[Ke e] at hs;refine⟨_,yq hs,?_⟩;show some (-1:Int)=_
    congr 1
    rw[szR_neg] at e;unfold szR;rw[Kf (by omega)]
   ·rw[Kf e] at hs;obtain⟨e1,e2⟩:=szR_nn (t:=f xs[k]) (left:=l) (by omega);obtain⟨r,r1,r2⟩:=ih (k+1) (szR (f xs[k]) l) (by omega) (by omega) (by omega);refine⟨r,by rw[x8 hs];exact r1,?_⟩;rw[r2]
    congr 1
    rw[e2];unfold szR;by_cases e3:(sumL f (xs.drop (k+1)):Int)<=l - f xs[k]
    ·rw[Ke e3,Ke (by omega)];omega
    ·rw[Kf e3,Kf (by omega)]
 obtain⟨r,r1,r2⟩:=key xs.length 0 l0 (by omega) h0 h1;have r1':wy step (xs.length+1) (l0,(0:Int))=some r:=r1;rw[jk r1' (by omega),obS];simpa using r2
theorem mark_loop{T:Type}{step:List α×Int×Int->Option ((List α×Int×Int)⊕T)}(fin:List α->Int->T){held:List α->Int×Int->Option ((Int×Int)⊕(Int⊕Int))}(xs:List α)(B:Nat)(C:Int)
  (h:∀ (ys:List α) (k:Int) (i:Nat) (hi:i<ys.length),ys.length=xs.length->ys[i]∈xs->0<=k->k<=C->∃ y k',step (ys,k,(i:Int))=some (.inl (ys.set i y,k',((i+1:Nat):Int)))/\k<=k'/\k'<=k+B/\
   ∀ zs:List α,zs.length=xs.length->zs[i]?=some y->held zs (k,(i:Int))=some (.inl (k',((i+1:Nat):Int))))
  (hend:∀ (ys:List α) (k:Int),ys.length=xs.length->step (ys,k,(xs.length:Int))=some (.inr (fin ys k)))
  (hend2:∀ (ys:List α) (k:Int),ys.length=xs.length->held ys (k,(xs.length:Int))=some (.inr (.inl k)))
  (hlen:xs.length<576460752303423488)  (h0:0<=k0) (hB:k0+B*xs.length<=C):
  ∃ ys k',zE step (xs,k0,0)=some (fin ys k')/\ys.length=xs.length/\k0<=k'/\k'<=k0+B*xs.length/\zE (held ys) (k0,0)=some (.inl k'):=by
 have key:∀ m i (ys:List α) (k:Int),i+m=xs.length->ys.length=xs.length->(∀ j,i<=j->ys[j]?=xs[j]?)->0<=k->k+B*m<=C->
   ∃ ys' k',wy step (m+1) (ys,k,(i:Int))=some (fin ys' k')/\ys'.length=xs.length/\ys'.take i=ys.take i/\k<=k'/\k'<=k+B*m/\wy (held ys') (m+1) (k,(i:Int))=some (.inl k'):=by
  intro m
  induction m with
  |zero=>
   intro i ys k hi hl hd hk hB;have:i=xs.length:=by omega
   subst this;exact⟨ys,k,yq (hend ys k hl),hl,Z,by omega,by omega,yq (hend2 ys k hl)⟩
  |succ m ih=>
   intro i ys k hi hl hd hk hB;have hlt:i<ys.length:=by omega
   have hlt2:i<xs.length:=by omega
   have hm:ys[i]∈xs:=by
    have h1:=hd i (Nat.le_refl _);rw[List.getElem?_eq_getElem hlt,List.getElem?_eq_getElem hlt2] at h1;injection h1 with h1;rw[h1];exact List.getElem_mem hlt2
   have hBm:(B:Int)*((m+1:Nat):Int)=B*m+B:=by
    rw[Int.natCast_add,Int.mul_add];simp
   have hBm0:(0:Int)<=B*m:=Int.mul_nonneg (by omega) (by omega);obtain⟨y,k',h1,h2,h3,h4⟩:=h ys k i hlt hl hm hk (by omega);obtain⟨ys',k2,r1,r2,r3,r4,r5,r6⟩:=ih (i+1) (ys.set i y) k' (by omega) (by rw[List.length_set];exact hl) (λ j hj=>by rw[List.getElem?_set_ne (by omega)];exact hd j (by omega)) (by omega) (by omega);have hy:ys'[i]?=some y:=by
    have e1:=congrArg (λ l=>l[i]?) r3;simp only[List.getElem?_take,Ke (Nat.lt_succ_self i)] at e1;rw[e1,List.getElem?_set_self hlt]
   refine⟨ys',k2,by rw[x8 h1];exact r1,r2,?_,by omega,by omega,by rw[x8 (h4 ys' r2 hy)];exact r6⟩;apply List.ext_getElem?;intro j;rw[List.getElem?_take,List.getElem?_take];by_cases hj:j<i
   ·rw[Ke hj,Ke hj];have e1:=congrArg (λ l=>l[j]?) r3;simp only[List.getElem?_take,Ke (show j<i+1 by omega)] at e1;rw[e1,List.getElem?_set_ne (by omega)]
   ·rw[Kf hj,Kf hj]
 obtain⟨ys',k',r1,r2,_,r4,r5,r6⟩:=key xs.length 0 xs k0 (by omega) Z (λ _ _=>Z) h0 hB;exact⟨ys',k',jk r1 (by omega),r2,r4,r5,jk r6 (by omega)⟩
theorem mark_only{T:Type}{step:List α×Int×Int->Option ((List α×Int×Int)⊕T)}(fin:List α->Int->T)(xs:List α)(B:Nat)(C:Int)
  (h:∀ (ys:List α) (k:Int) (i:Nat) (hi:i<ys.length),ys.length=xs.length->ys[i]∈xs->0<=k->k<=C->∃ y k',step (ys,k,(i:Int))=some (.inl (ys.set i y,k',((i+1:Nat):Int)))/\k<=k'/\k'<=k+B)
  (hend:∀ (ys:List α) (k:Int),ys.length=xs.length->step (ys,k,(xs.length:Int))=some (.inr (fin ys k)))
  (hlen:xs.length<576460752303423488)  (h0:0<=k0) (hB:k0+B*xs.length<=C):
  ∃ ys k',zE step (xs,k0,0)=some (fin ys k')/\ys.length=xs.length/\k0<=k'/\k'<=k0+B*xs.length:=by
 have key:∀ m i (ys:List α) (k:Int),i+m=xs.length->ys.length=xs.length->(∀ j,i<=j->ys[j]?=xs[j]?)->0<=k->k+B*m<=C->
   ∃ ys' k',wy step (m+1) (ys,k,(i:Int))=some (fin ys' k')/\ys'.length=xs.length/\k<=k'/\k'<=k+B*m:=by
  intro m
  induction m with
  |zero=>
   intro i ys k hi hl hd hk hB;have:i=xs.length:=by omega
   subst this;exact⟨ys,k,yq (hend ys k hl),hl,by omega,by omega⟩
  |succ m ih=>
   intro i ys k hi hl hd hk hB;have hlt:i<ys.length:=by omega
   have hlt2:i<xs.length:=by omega
   have hm:ys[i]∈xs:=by
    have h1:=hd i (Nat.le_refl _);rw[List.getElem?_eq_getElem hlt,List.getElem?_eq_getElem hlt2] at h1;injection h1 with h1;rw[h1];exact List.getElem_mem hlt2
   have hBm:(B:Int)*((m+1:Nat):Int)=B*m+B:=by
    rw[Int.natCast_add,Int.mul_add];simp
   have hBm0:(0:Int)<=B*m:=Int.mul_nonneg (by omega) (by omega);obtain⟨y,k',h1,h2,h3⟩:=h ys k i hlt hl hm hk (by omega);obtain⟨ys',k2,r1,r2,r4,r5⟩:=ih (i+1) (ys.set i y) k' (by omega) (by rw[List.length_set];exact hl) (λ j hj=>by rw[List.getElem?_set_ne (by omega)];exact hd j (by omega)) (by omega) (by omega);exact⟨ys',k2,by rw[x8 h1];exact r1,r2,by omega,by omega⟩
 obtain⟨ys',k',r1,r2,r4,r5⟩:=key xs.length 0 xs k0 (by omega) Z (λ _ _=>Z) h0 hB;exact⟨ys',k',jk r1 (by omega),r2,r4,r5⟩
end
section
variable{α:Type}
theorem zcj{len:Nat}(hl:0<=l)(h2:l<=1048576)(hlen:len<=9223372036854775807){K:Int->Option Int}{t:Nat}(hK:∀ l',0<=l'->l'<=1048576->K l'=some (szR t l')):
  ((i64 (l - (len:Int))).bind λ v=>if cmpI .lss v (0:Int)=true then some (-1:Int) else K v)=some (szR (len+t) l):=by
 rw[js (by omega) (by omega),obS];cases h:cmpI .lss (l - (len:Int)) 0 with
 |true=>have h':l - (len:Int)<0:=oD h;rw[Ke Z];unfold szR;rw[Kf (by omega)]
 |false=>
  have h':¬ l - (len:Int)<0:=of_decide_eq_false h;rw[Kf (by decide),hK _ (by omega) (by omega)]
  congr 1
  unfold szR;by_cases e:(t:Int)<=l - len
  ·rw[Ke e,Ke (by omega)];omega
  ·rw[Kf e,Kf (by omega)]
theorem szS_sub{t1 t:Nat}{m:Option Int}(hl:0<=l)(h2:l<=1048576)(hm:m=some (szR t1 l)){K:Int->Option Int}(hK:∀ l',0<=l'->l'<=1048576->K l'=some (szR t l')):
  (m.bind λ v=>if cmpI .lss v (0:Int)=true then some (-1:Int) else K v)=some (szR (t1+t) l):=by
 rw[hm,obS];cases h:cmpI .lss (szR t1 l) 0 with
 |true=>have h':szR t1 l<0:=oD h;rw[szR_neg] at h';rw[Ke Z];unfold szR;rw[Kf (by omega)]
 |false=>
  have h':¬ szR t1 l<0:=of_decide_eq_false h;obtain⟨e1,e2⟩:=szR_nn (t:=t1) (left:=l) (by omega);rw[Kf (by decide),hK _ (by omega) (by omega),e2]
  congr 1
  unfold szR;by_cases e:(t:Int)<=l - t1
  ·rw[Ke e,Ke (by omega)];omega
  ·rw[Kf e,Kf (by omega)]
theorem szS_end(h:0<=l):some l=some (szR 0 l):=by
 congr 1
 unfold szR;rw[Ke (by omega)];simp
theorem szS_list{step:Int×Int->Option ((Int×Int)⊕(Int⊕Int))}{xs:List α}{f:α->Nat}(hlen:xs.length<=9223372036854775807)
  (h:∀ k (hk:k<xs.length) (l:Int),xs.length<=1048576->0<=l->l<=1048576->step (l,(k:Int))=some (if szR (f xs[k]) l<0 then .inr (.inr (-1)) else .inl (szR (f xs[k]) l,((k+1:Nat):Int))))
  (hend:∀ l,step (l,(xs.length:Int))=some (.inr (.inl l))) (hl:0<=l) (h2:l<=1048576):
  ((i64 (l - (xs.length:Int))).bind λ v=>if cmpI .lss v (0:Int)=true then some (-1:Int) else Option.bind (α:=Int⊕Int) (zE step (v,(0:Int))) (Sum.elim (λ b=>some b) some))=some (szR (xs.length+sumL f xs) l):=by
 rw[js (by omega) (by omega),obS];cases hc:cmpI .lss (l - (xs.length:Int)) 0 with
 |true=>have h':l - (xs.length:Int)<0:=oD hc;rw[Ke Z];unfold szR;rw[Kf (by omega)]
 |false=>
  have h':¬ l - (xs.length:Int)<0:=of_decide_eq_false hc;rw[Kf (by decide),sz_loop xs f (λ k hk l h3 h4=>h k hk l (by omega) h3 h4) hend (by omega) (by omega) (by omega)]
  congr 1
  unfold szR;by_cases e:(sumL f xs:Int)<=l - xs.length
  ·rw[Ke e,Ke (by omega)];omega
  ·rw[Kf e,Kf (by omega)]
variable[Decidable q]{K:Option Bool}
theorem Qt{a b:Int}(hK:K=some (decide q)):(if cmpI .neq a b=true then some false else K)=some (decide (a=b/\q)):=by
 rw[hK];by_cases h:a=b
 ·simp[cmpI,h]
 ·simp[cmpI,h]
theorem zck{a b:Str}(hK:K=some (decide q)):(if decide (a≠b)=true then some false else K)=some (decide (a=b/\q)):=by
 rw[hK];by_cases h:a=b
 ·simp[h]
 ·simp[h]
theorem eqS_bool{b:Bool}(hK:K=some (decide q)):(if(a != b)=true then some false else K)=some (decide (a=b/\q)):=by
 rw[hK];by_cases h:a=b
 ·simp[h]
 ·simp[h]
theorem eqS_sub[DecidableEq α]{a b:α}(hm:m=some (decide (a=b)))(hK:K=some (decide q)):(m.bind λ v=>if(!v)=true then some false else K)=some (decide (a=b/\q)):=by
 rw[hm,hK,obS];by_cases h:a=b
 ·simp[h]
 ·simp[h]
theorem eqS_end:some true=some (decide True):=by simp
theorem zcl[DecidableEq α]{step:Int->Option (Int⊕(Unit⊕Bool))}{xs ys:List α}
  (h:∀ k (hk:k<xs.length) (hk2:k<ys.length),step (k:Int)=some (if xs[k]=ys[k] then .inl ((k+1:Nat):Int) else .inr (.inr false)))
  (hend:step (xs.length:Int)=some (.inr (.inl ()))) (hlen:xs.length<576460752303423488):
  (if cmpI .neq (xs.length:Int) (ys.length:Int)=true then some false else Option.bind (α:=Unit⊕Bool) (zE step 0) (Sum.elim (λ _=>some true) some))=some (decide (xs=ys)):=by
 rw[neq_len];by_cases e:xs.length=ys.length
 ·rw[Kf (by simp[e]),eq_loop xs ys e h hend hlen]
 ·rw[Ke (by simp[e])];have:xs≠ys:=λ h=>e (by rw[h])
  simp[this]
end
theorem i64_in{n:Int}(h1:0<=n)(h2:n<=4611686018427387904):i64 n=some n:=js (by omega) (by omega)
theorem modO_of{m n:Int}(h:n≠0:=by decide):modO m n=some (m.tmod n):=Kf h
theorem divO_of{m n:Int}(h2:0<=m.tdiv n)(h3:m.tdiv n<=9223372036854775807)(h:n≠0:=by decide):divO m n=some (m.tdiv n):=Kf (by omega)
theorem XY{xs:List α}(hk:k<xs.length):cmpI .lss (k:Int) (xs.length:Int)=true:=by rw[zC];exact decide_eq_true hk
theorem WJ{xs:List α}:cmpI .lss (xs.length:Int) (xs.length:Int)=false:=by rw[zC];simp
theorem lss_at'{xs:List α}{n:Nat}(h:xs.length=n)(hk:k<n):cmpI .lss (k:Int) (xs.length:Int)=true:=by rw[zC];exact decide_eq_true (by omega)
theorem J9{xs:List α}{n:Nat}(h:xs.length=n):cmpI .lss (n:Int) (xs.length:Int)=false:=by rw[zC,h];simp
theorem Yj{xs:List α}(hk:k<xs.length):atI xs (k:Int)=some xs[k]:=by rw[zH,List.getElem?_eq_getElem hk]
theorem XZ(k:Nat):(k:Int).toNat=k:=rfl
def txt(k:Int):Str:=(yY k).getD ⟨[]⟩
theorem neq_self(n:Int):cmpI .neq n n=false:=by simp[cmpI]
theorem markText_ex{k:Int}(h1:0<=k)(h2:k<=4611686018427387904):∃ s,yY k=some s:=by
 unfold yY;by_cases hk:k<=0
 ·rw[Ke (by simp[cmpI,hk])];exact⟨_,Z⟩
 ·rw[Kf (by simp[cmpI];omega)];have key:∀ (m:Nat) (n:Int) (s:Str),0<=n->n<10 ^ m->n<=4611686018427387904->m<=20->(s.l.length:Int)<=40 - m->∃ o,wy (λ s8=>xk s8) (m+1) (n,s)=some o/\o.l.length<=40:=by
   intro m
   induction m with
   |zero=>
    intro n s h1 h2 _ _ h4;have hn:n=0:=by simp at h2;omega
    subst hn;refine⟨s,yq ?_,by omega⟩;unfold xk;rfl
   |succ m ih=>
    intro n s h1 h2 hb h3 h4;have h5:n.tdiv 10=n / 10:=Int.tdiv_eq_ediv_of_nonneg h1;have h6:n.tmod 10=n % 10:=Int.tmod_eq_emod_of_nonneg h1;by_cases hn:n<=0
    ·refine⟨s,yq ?_,by omega⟩;unfold xk;rw[Kf (by simp[cmpI];omega)]
    ·have hs:xk (n,s)=some (.inl (n / 10,⟨[toB (48+n % 10)]++s.l⟩)):=by
      unfold xk;simp only;rw[Ke (by simp[cmpI];omega),modO_of,obS,h6,js (by omega) (by omega),obS,Qs (by simp;omega),obS,divO_of (by omega) (by omega),h5];rfl
     rw[x8 hs];refine ih (n / 10) _ (by omega) ?_ (by omega) (by omega) (by simp;omega);have:(10:Int) ^ (m+1)=10*10 ^ m:=by rw[Int.pow_succ];omega
     omega
  have e:(10:Int) ^ 19=10000000000000000000:=by decide
  obtain⟨o,ho,hl⟩:=key 19 k ⟨[]⟩ h1 (by omega) h2 (by omega) (by simp);rw[jk ho (by decide),obS,Qs (by simp;omega)];exact⟨_,Z⟩
theorem Wp{k:Int}(h1:0<=k)(h2:k<=4611686018427387904):yY k=some (txt k):=by
 obtain⟨s,hs⟩:=markText_ex h1 h2;rw[txt,hs];rfl
def zaJ(x:Stmt):Nat:=x.module.l.length+(x.name.l.length+(0))
theorem szStmt_eq{x:Stmt}(h0:Okd x)(hl:0<=l)(h2:l<=1048576):YN x l=some (szR (zaJ x) l):=by
 unfold YN zaJ;exact zcj hl h2 ((h0.fld Stmt.fld1)).str (λ v1 l1 u1=>zcj l1 u1 ((h0.fld Stmt.fld3)).str (λ v2 l2 u2=>szS_end l2))
def XA(xs:List Stmt):Nat:=xs.length+sumL zaJ xs
theorem zat{n:Nat}(h:XA x<=n):x.length<=n:=by unfold XA at h;omega
theorem szStmtS_eq(h0:Okd x)(hl:0<=l)(h2:l<=1048576):Yg x l=some (szR (XA x) l):=by
 unfold Yg XA;refine szS_list h0.len (λ k hk l hn h3 h4=>?_) (λ l=>?_) hl h2
 ·unfold qn;simp only[XY hk,if_true,Yj hk,obS,szStmt_eq (h0.mem (List.getElem_mem hk)) h3 h4];by_cases e:szR (zaJ x[k]) l<0
  ·rw[Ke (by simp[cmpI,e]),Ke e]
  ·rw[Kf (by simp[cmpI];omega),Kf e,zG (by omega)];rfl
 ·unfold qn;rw[WJ];rfl
def Ju(x:File):Nat:=x.pkg.l.length+(x.name.l.length+(XA x.body+(0)))
theorem szFile_eq{x:File}(h0:Okd x)(hl:0<=l)(h2:l<=1048576):ZS x l=some (szR (Ju x) l):=by
 unfold ZS Ju;exact zcj hl h2 ((h0.fld File.fld1)).str (λ v1 l1 u1=>zcj l1 u1 ((h0.fld File.fld2)).str (λ v2 l2 u2=>szS_sub l2 u2 (szStmtS_eq (h0.fld File.fld5) l2 u2) (λ v3 l3 u3=>szS_end l3)))
def Y1(x:GAct):Nat:=Ju x.file+(x.name.l.length+(0))
theorem szAct_eq{x:GAct}(h0:Okd x)(hl:0<=l)(h2:l<=1048576):Xx x l=some (szR (Y1 x) l):=by
 unfold Xx Y1;exact szS_sub hl h2 (szFile_eq (h0.fld GAct.fld1) hl h2) (λ v1 l1 u1=>zcj l1 u1 ((h0.fld GAct.fld3)).str (λ v2 l2 u2=>szS_end l2))
def Zy(xs:List GAct):Nat:=xs.length+sumL Y1 xs
theorem lenActS_le{x:List GAct}{n:Nat}(h:Zy x<=n):x.length<=n:=by unfold Zy at h;omega
theorem szActS_eq{x:List GAct}(h0:Okd x)(hl:0<=l)(h2:l<=1048576):YQ x l=some (szR (Zy x) l):=by
 unfold YQ Zy;refine szS_list h0.len (λ k hk l hn h3 h4=>?_) (λ l=>?_) hl h2
 ·unfold Zn;simp only[XY hk,if_true,Yj hk,obS,szAct_eq (h0.mem (List.getElem_mem hk)) h3 h4];by_cases e:szR (Y1 x[k]) l<0
  ·rw[Ke (by simp[cmpI,e]),Ke e]
  ·rw[Kf (by simp[cmpI];omega),Kf e,zG (by omega)];rfl
 ·unfold Zn;rw[WJ];rfl
theorem eqStmt_eq{x y:Stmt}:YP x y=some (decide (x=y)):=by
 have e:(x=y)=(x.kind=y.kind/\x.module=y.module/\x.level=y.level/\x.name=y.name/\x.value=y.value/\True):=by cases x;cases y;simp
 unfold YP;simp only[e];exact Qt (zck (Qt (zck (Qt (eqS_end)))))
theorem eqStmtS_eq{y:List Stmt}(h:x.length<=288230376151711744):Yh x y=some (decide (x=y)):=by
 unfold Yh;refine zcl (λ k hk hk2=>?_) ?_ (by omega)
 ·unfold qq;simp only[XY hk,if_true,Yj hk,Yj hk2,obS,eqStmt_eq,zG (show k<4611686018427387904 by omega)];by_cases e:x[k]=y[k] <;> simp[e]
 ·unfold qq;rw[WJ];rfl
theorem eqFile_eq{x y:File}(h:Ju x<=288230376151711744):ZT x y=some (decide (x=y)):=by
 have e:(x=y)=(x.root=y.root/\x.pkg=y.pkg/\x.name=y.name/\x.init=y.init/\x.stamp=y.stamp/\x.body=y.body/\True):=by cases x;cases y;simp
 unfold Ju at h;unfold ZT;simp only[e];exact Qt (zck (zck (eqS_bool (Qt (eqS_sub (eqStmtS_eq (zat (by omega))) (eqS_end))))))
theorem eqAct_eq{x y:GAct}(h:Y1 x<=288230376151711744):Xy x y=some (decide (x=y)):=by
 have e:(x=y)=(x.kind=y.kind/\x.file=y.file/\x.index=y.index/\x.name=y.name/\True):=by cases x;cases y;simp
 unfold Y1 at h;unfold Xy;simp only[e];exact Qt (eqS_sub (eqFile_eq (by omega)) (Qt (zck (eqS_end))))
theorem eqActS_eq{x y:List GAct}(h:Zy x<=288230376151711744):ZU x y=some (decide (x=y)):=by
 unfold Zy at h;unfold ZU;refine zcl (λ k hk hk2=>?_) ?_ (by omega)
 ·unfold Zo;simp only[XY hk,if_true,Yj hk,Yj hk2,obS,eqAct_eq (x:=x[k]) (y:=y[k]) (by have:=J8 (f:=Y1) (List.getElem_mem hk);omega),zG (show k<4611686018427387904 by omega)];by_cases e:x[k]=y[k] <;> simp[e]
 ·unfold Zo;rw[WJ];rfl
def totIntS(xs:List Int):Nat:=xs.length
theorem eqIntS_eq{x y:List Int}(h:x.length<=288230376151711744):qD x y=some (decide (x=y)):=by
 unfold qD;refine zcl (λ k hk hk2=>?_) ?_ (by omega)
 ·unfold Zm;simp only[XY hk,if_true,Yj hk,Yj hk2,obS,zG (show k<4611686018427387904 by omega)];by_cases e:x[k]=y[k] <;> simp[e,cmpI]
 ·unfold Zm;rw[WJ];rfl
theorem toStmt_eq{x:Stmt}:YO x=some x:=by
 unfold YO;cases x;rfl
theorem toStmtS_eq(h:XA x<=1048576):Xv x=some x:=by
 unfold XA at h;unfold Xv;rw[makeO_of (by omega) (by omega) (by omega),obS];have hl:zE (λ s=>jd x s) (List.replicate x.length zStmt,0)=some x:=by
  refine zcT x zStmt (λ k hk=>?_) (λ ys=>?_) (by omega) Z
  ·unfold jd;simp only[XY hk,if_true,Yj hk,obS,toStmt_eq,zH,at_at hk,zce (len_at hk),zG (show k<4611686018427387904 by omega)]
  ·unfold jd;rw[WJ];rfl
 rw[hl];rfl
theorem toFile_eq{x:File}(h:Ju x<=1048576):X6 x=some x:=by
 unfold Ju at h;unfold X6;rw[toStmtS_eq (x:=x.body) (by omega),obS]
theorem toAct_eq{x:GAct}(h:Y1 x<=1048576):WH x=some x:=by
 unfold Y1 at h;unfold WH;rw[toFile_eq (x:=x.file) (by omega),obS]
theorem toActS_eq{x:List GAct}(h:Zy x<=1048576):qE x=some x:=by
 unfold Zy at h;unfold qE;rw[makeO_of (by omega) (by omega) (by omega),obS];have hl:zE (λ s=>jJ x s) (List.replicate x.length zGAct,0)=some x:=by
  refine zcT x zGAct (λ k hk=>?_) (λ ys=>?_) (by omega) Z
  ·unfold jJ;simp only[XY hk,if_true,Yj hk,obS,toAct_eq (x:=x[k]) (by have:=J8 (f:=Y1) (List.getElem_mem hk);omega),zH,at_at hk,zG (show k<4611686018427387904 by omega),XZ]
  ·unfold jJ;rw[WJ];rfl
 rw[hl];rfl
theorem toIntS_eq{x:List Int}(h:totIntS x<=1048576):jw x=some x:=by
 unfold totIntS at h;unfold jw;rw[makeO_of (by omega) (by omega) (by omega),obS];have hl:zE (λ s=>jI x s) (List.replicate x.length zInt,0)=some x:=by
  refine zcT x zInt (λ k hk=>?_) (λ ys=>?_) (by omega) Z
  ·unfold jI;simp only[XY hk,if_true,Yj hk,obS,zH,at_at hk,zce (len_at hk),zG (show k<4611686018427387904 by omega)]
  ·unfold jI;rw[WJ];rfl
 rw[hl];rfl
theorem markStmtS_ok{k:Int}(h:x.length<=1125899906842624)(h0:0<=k)(hB:k<=1152921504606846976):∃ y k',Yw x k=some (y,k')/\k<=k'/\k'<=k+5*(x.length:Int):=by
 have hl:=mark_only (step:=λ s=>wv s) (λ ys k=>(ys,k)) x 5 1170935903116328960 (λ ys k i hi hn hm h1 h2=>?_) (λ ys k hn=>?_) (by omega) h0 (by omega)
 ·obtain⟨ys,k',r1,r2,r3,r4⟩:=hl;refine⟨ys,k',?_,r3,by omega⟩
  ·unfold Yw;rw[r1];rfl
 ·unfold wv;refine⟨_,_,by simp only[XY hi,if_true,Yj hi,obS,XZ,i64_in (n:=k+1) (by omega) (by omega),Wp (k:=k+1) (by omega) (by omega),i64_in (n:=k+1+1) (by omega) (by omega),i64_in (n:=k+1+1+1) (by omega) (by omega),Wp (k:=k+1+1+1) (by omega) (by omega),i64_in (n:=k+1+1+1+1) (by omega) (by omega),i64_in (n:=k+1+1+1+1+1) (by omega) (by omega),zG (show i<4611686018427387904 by omega)];rfl,by omega,by omega⟩
 ·unfold wv;simp only[J9 hn];rfl
theorem zdc{x:List Int}{k:Int}(h:x.length<=1125899906842624)(h0:0<=k)(hB:k<=1152921504606846976):∃ y k',ZK x k=some (y,k')/\k<=k'/\k'<=k+1*(x.length:Int)/\ZL y k=some k':=by
 have hl:=mark_loop (held:=λ y s=>wR y s) (step:=λ s=>wQ s) (λ ys k=>(ys,k)) x 1 1170935903116328960 (λ ys k i hi hn hm h1 h2=>?_) (λ ys k hn=>?_) (λ ys k hn=>?_) (by omega) h0 (by omega)
 ·obtain⟨ys,k',r1,r2,r3,r4,r5⟩:=hl;refine⟨ys,k',?_,r3,by omega,?_⟩
  ·unfold ZK;rw[r1];rfl
  ·unfold ZL;rw[r5];rfl
 ·unfold wQ;refine⟨_,_,by simp only[XY hi,if_true,Yj hi,obS,XZ,i64_in (n:=k+1) (by omega) (by omega),zG (show i<4611686018427387904 by omega)];rfl,by omega,by omega,λ zs hz hzi=>?_⟩;unfold wR;simp only[lss_at' hz (show i<x.length by omega),if_true,zH,hzi,obS,neq_self,if_false,Bool.false_eq_true,i64_in (n:=k+1) (by omega) (by omega),zG (show i<4611686018427387904 by omega)]
  first | done | rfl | (simp[cmpI];omega) | simp
 ·unfold wQ;simp only[J9 hn];rfl
 ·unfold wR;simp only[J9 hn];rfl
theorem markActS_ok{x:List GAct}{k:Int}(h:Zy x<=1048576)(h0:0<=k)(hB:k<=576460752303423488):∃ y k',YU x k=some (y,k')/\k<=k'/\k'<=k+5497566527488:=by
 unfold Zy at h;have hl:=mark_only (step:=λ s=>wS s) (λ ys k=>(ys,k)) x 5242888 594475150812905472 (λ ys k i hi hn hm h1 h2=>?_) (λ ys k hn=>?_) (by omega) h0 (by omega)
 ·obtain⟨ys,k',r1,r2,r3,r4⟩:=hl;refine⟨ys,k',?_,r3,by omega⟩
  ·unfold YU;rw[r1];rfl
 ·unfold wS;have hm5:=J8 (f:=Y1) hm;have hu5:Y1 ys[i]=(ys[i].file.pkg.l.length+(ys[i].file.name.l.length+(XA ys[i].file.body+(0))))+(ys[i].name.l.length+(0)):=rfl;have hl5:ys[i].file.body.length<=1048576:=zat (by omega);obtain⟨y5,k5,e5,a5,b5⟩:=markStmtS_ok (x:=ys[i].file.body) (k:=k+1+1+1+1+1+1) (zat (n:=1125899906842624) (by omega)) (by omega) (by omega);refine⟨_,_,by simp only[XY hi,if_true,Yj hi,obS,XZ,i64_in (n:=k+1) (by omega) (by omega),Wp (k:=k+1+1) (by omega) (by omega),i64_in (n:=k+1+1) (by omega) (by omega),Wp (k:=k+1+1+1) (by omega) (by omega),i64_in (n:=k+1+1+1) (by omega) (by omega),modO_of (m:=k+1+1+1+1) (n:=3),i64_in (n:=k+1+1+1+1) (by omega) (by omega),i64_in (n:=k+1+1+1+1+1) (by omega) (by omega),i64_in (n:=k+1+1+1+1+1+1) (by omega) (by omega),e5,i64_in (n:=k5+1) (by omega) (by omega),Wp (k:=k5+1) (by omega) (by omega),i64_in (n:=k5+1+1) (by omega) (by omega),zG (show i<4611686018427387904 by omega)];rfl,by omega,by omega⟩
 ·unfold wS;simp only[J9 hn];rfl
theorem eqII_eq{x:List (List Int)}(h:x.length<=1048576)(he:∀ l∈x,l.length<=1048576):wk x y=some (decide (x=y)):=by
 unfold wk;refine zcl (λ k hk hk2=>?_) ?_ (by omega)
 ·unfold qr;have h1:=he x[k] (List.getElem_mem hk);simp only[XY hk,if_true,Yj hk,Yj hk2,obS,eqIntS_eq (x:=x[k]) (y:=y[k]) (by omega),zG (show k<4611686018427387904 by omega)];by_cases e:x[k]=y[k] <;> simp[e]
 ·unfold qr;rw[WJ];rfl
theorem markII_ok{x:List (List Int)}{k:Int}(h:x.length<=1048576)(he:∀ l∈x,l.length<=1048576)(h0:0<=k)(hB:k<=576460752303423488):∃ y k',Zp x k=some (y,k')/\k<=k'/\xZ y k=some k':=by
 have hl:=mark_loop (held:=λ y s=>wx y s) (step:=λ s=>ww s) (λ ys k=>(ys,k)) x 1048576 594475150812905472 (λ ys k i hi hn hm h1 h2=>?_) (λ ys k hn=>?_) (λ ys k hn=>?_) (by omega) h0 (by omega)
 ·obtain⟨ys,k',r1,r2,r3,r4,r5⟩:=hl;refine⟨ys,k',?_,r3,?_⟩
  ·unfold Zp;rw[r1];rfl
  ·unfold xZ;rw[r5];rfl
 ·unfold ww;have hl0:=he _ hm;obtain⟨y0,k0,e0,a0,b0,c0⟩:=zdc (x:=ys[i]) (k:=k) (by omega) (by omega) (by omega);refine⟨_,_,by simp only[XY hi,if_true,Yj hi,obS,XZ,e0,zG (show i<4611686018427387904 by omega)];rfl,by omega,by omega,λ zs hz hzi=>?_⟩;unfold wx;have hk0:cmpI .lss k0 (0:Int)=false:=by simp only[cmpI,decide_eq_false_iff_not];omega
  simp only[lss_at' hz (show i<x.length by omega),if_true,zH,hzi,obS,c0,hk0,Bool.false_eq_true,if_false,zG (show i<4611686018427387904 by omega)]
 ·unfold ww;simp only[J9 hn];rfl
 ·unfold wx;simp only[J9 hn];rfl
theorem tail_ints(hg:g.length<=1048576)(he:∀ l∈g,l.length<=1048576)(hH:H=some g):
  ((
   Zp g (1:Int)).bind λ v86=>
   (xZ v86.1 (1:Int)).bind λ v90=>
   if(cmpI .lss v90 (0:Int))=true then(some false)
   else(if(cmpI .neq v90 v86.2)=true then(some false)
   else(H.bind λ v103=>
   (wk v103 g).bind λ v108=>
   if(!v108)=true then(some false)
   else((xZ v86.1 (1:Int)).bind λ v115=>
   if(cmpI .lss v115 (0:Int))=true then(some false)
   else(if(cmpI .neq v115 v86.2)=true then(some false)
   else(some true))))))=some true:=by
 obtain⟨y,k',h1,h2,h4⟩:=markII_ok (x:=g) (k:=1) hg he (by omega) (by omega);have h5:cmpI .lss k' 0=false:=by simp[cmpI];omega
 simp only[h1,obS,h4,h5,neq_self,hH,eqII_eq (x:=g) (y:=g) hg he,Bool.false_eq_true,if_false,decide_true,Bool.not_true]
end Go.Proofs.YtandbaloaenciaaGreatDoor
