import Derived.Test.YtiiiokblnnlapaaGreatDoorRF
import Derived.Test.YtiiiokblnnlapaaGreatDoorRB
import Derived.Test.YtiiiokblnnlapaaGreatDoorRG
import Derived.Test.YtiiiokblnnlapaaGreatDoorRK
namespace Go.Proofs.YtiiiokblnnlapaaGreatDoor
section
variable{α β σ S:Type}
theorem zJ(xs:List α)(k:Nat):atI xs (k:Int)=xs[k]?:=by simp[atI]
theorem Z7{n:Int}(h1:-9223372036854775808<=n)(h2:n<=9223372036854775807):i64 n=some n:=if_pos ⟨h1,h2⟩
theorem zH{k:Nat}(h:k<4611686018427387904):i64 ((k:Int)+1)=some ((k+1:Nat):Int):=by rw[Z7 (by omega) (by omega)];rfl
theorem wA[Inhabited α](g:Bool)(x:α):gO g (some x)=some (if g=true then x else default):=by unfold gO;split <;> rfl
theorem qj[Inhabited α](e:Option α):gO true e=e:=rfl
theorem Y7[Inhabited α](e:Option α):gO false e=some default:=rfl
theorem zK(k n:Nat):cmpI .lss (k:Int) (n:Int)=decide (k<n):=by simp[cmpI]
theorem xV{b:Nat}{xs ys:List α}(h:(xs.length+ys.length)*b<=140737488355328)(h2:xs.length+ys.length<=9223372036854775807):appO b xs ys=some (xs++ys):=if_pos ⟨h,h2⟩
theorem JI{s:Str}{k:Nat}(h:k<=s.l.length):cutHO s (k:Int)=some ⟨s.l.take k⟩:=by unfold cutHO;rw[if_pos ⟨by omega,by omega⟩];rfl
theorem JJ{s:Str}{k:Nat}(h:k<=s.l.length):cutLO s (k:Int)=some ⟨s.l.drop k⟩:=by unfold cutLO;rw[if_pos ⟨by omega,by omega⟩];rfl
theorem zaL{xs:List α}{k:Nat}(h:k<=xs.length):WX xs (k:Int)=some (xs.take k):=by unfold WX;rw[if_pos ⟨by omega,by omega⟩];rfl
theorem zab{xs:List α}{k:Nat}{y:α}(h:k<xs.length):setO xs (k:Int) y=some (xs.set k y):=by unfold setO;rw[if_pos ⟨by omega,by omega⟩];rfl
theorem WM{m n:Str}(h:m.l.length+n.l.length<=9223372036854775807):catO m n=some ⟨m.l++n.l⟩:=if_pos h
theorem wH{step:S->Option (S⊕β)}{s s':S}{n:Nat}(h:step s=some (.inl s')):wQ step (n+1) s=wQ step n s':=by rw[wQ,h]
theorem yD{step:S->Option (S⊕β)}{s:S}{b:β}{n:Nat}(h:step s=some (.inr b)):wQ step (n+1) s=some b:=by rw[wQ,h]
theorem iterM_mono{step:S->Option (S⊕β)}{r:β}:∀ (m j:Nat) (s:S),wQ step m s=some r->wQ step (m+j) s=some r:=by
 intro m
 induction m with
 | zero=>intro j s h;simp[wQ] at h
 |
  succ m ih=>
  intro j s h;rw[show m+1+j=(m+j)+1 by omega];unfold wQ at h ⊢;split at h
  ·
   cases h
  ·
   exact ih j _ h
  ·
   exact h
theorem ji{step:S->Option (S⊕β)}{r:β}{m:Nat}{s:S}(h:wQ step m s=some r)(hm:m<=1152921504606846976):zL step s=some r:=by
 unfold zL;have:=iterM_mono m (1152921504606846976 - m) s h;rwa[show m+(1152921504606846976 - m)=1152921504606846976 by omega] at this
def runL(R:Nat->σ->α->σ⊕β)(fin:σ->β):Nat->σ->List α->β
 | _,s,[]=>fin s
 |
  k,s,x::xs=>match R k s x with
  | .inl s'=>runL R fin (k+1) s' xs
  | .inr b=>b
theorem zac{step:S->Option (S⊕β)}(xs:List α)(mk:σ->Nat->S)(R:Nat->σ->α->σ⊕β)(fin:σ->β)(Inv:Nat->σ->Prop)
  (h:∀ k s x,xs[k]?=some x->k<xs.length->Inv k s->match R k s x with
   | .inl s'=>step (mk s k)=some (.inl (mk s' (k+1)))/\Inv (k+1) s'
   | .inr b=>step (mk s k)=some (.inr b))
  (hend:∀ s,Inv xs.length s->step (mk s xs.length)=some (.inr (fin s))) {s0:σ} (h0:Inv 0 s0) (hlen:xs.length<576460752303423488):zL step (mk s0 0)=some (runL R fin 0 s0 xs):=by
 have key:∀ m k s,k+m=xs.length->Inv k s->wQ step (m+1) (mk s k)=some (runL R fin k s (xs.drop k)):=by
  intro m
  induction m with
  |
   zero=>
   intro k s hk hi;have:k=xs.length:=by omega
   subst this;rw[List.drop_length,runL,wQ,hend s hi]
  |
   succ m ih=>
   intro k s hk hi;have hlt:k<xs.length:=by omega
   have hx:xs[k]?=some xs[k]:=List.getElem?_eq_getElem hlt;rw[List.drop_eq_getElem_cons hlt,runL,wQ];have hr:=h k s xs[k] hx hlt hi;cases e:R k s xs[k] with
   |
    inl s'=>
    rw[e] at hr;simp only at hr;rw[hr.1];exact ih (k+1) s' (by omega) hr.2
   |
    inr b=>
    rw[e] at hr;simp only at hr;rw[hr]
 exact ji (key xs.length 0 s0 (by omega) h0) (by omega)
theorem loop_find{step:Int->Option (Int⊕β)}(xs:List α)(R:Nat->α->Option β)(e:β)
  (h:∀ k x,xs[k]?=some x->k<xs.length->step (k:Int)=some (match R k x with | none=>.inl ((k+1:Nat):Int) | some b=>.inr b))
  (hend:step (xs.length:Int)=some (.inr e)) (hlen:xs.length<576460752303423488) {s:Int} (hs:s=0):
  zL step s=some (runL (λ k (_:Unit) x=>match R k x with | none=>.inl () | some b=>.inr b) (λ _=>e) 0 () xs):=by
 subst hs;refine zac (σ:=Unit) xs (λ _ k=>(k:Int)) _ _ (λ _ _=>True) (λ k s x hx hlt _=>?_) (λ _ _=>hend) trivial hlen;have:=h k x hx hlt;cases hR:R k x with
 | none=>rw[hR] at this;exact⟨this,trivial⟩
 | some b=>rw[hR] at this;exact this
theorem runL_any(p:α->Bool)(b e:β):∀ (k:Nat) (xs:List α),runL (λ _ (_:Unit) x=>match (if p x=true then some b else none) with | none=>.inl () | some b=>.inr b) (λ _=>e) k () xs=if xs.any p=true then b else e
 | _,[]=>rfl
 |
  k,x::xs=>by
  cases h:p x with
  | true=>simp[runL,h]
  | false=>simp only[runL,h];rw[List.any_cons,h,Bool.false_or];exact runL_any p b e (k+1) xs
theorem XE{step:Int->Option (Int⊕β)}(xs:List α)(p:α->Bool)(b e:β)
  (h:∀ k x,xs[k]?=some x->k<xs.length->step (k:Int)=some (if p x=true then .inr b else .inl ((k+1:Nat):Int)))
  (hend:step (xs.length:Int)=some (.inr e)) (hlen:xs.length<576460752303423488) {s:Int} (hs:s=0):
  zL step s=some (if xs.any p=true then b else e):=by
 rw[loop_find xs (λ _ x=>if p x=true then some b else none) e (λ k x hx hlt=>?_) hend hlen hs,runL_any];rw[h k x hx hlt];cases p x <;> rfl
theorem runL_idx(p:α->Bool)(f:Int->β)(e:β):∀ (k:Nat) (xs:List α),runL (λ k (_:Unit) x=>match (if p x=true then some (f k) else none) with | none=>.inl () | some b=>.inr b) (λ _=>e) k () xs=(match xs.findIdx? p with | some i=>f ((k+i:Nat):Int) | none=>e)
 | _,[]=>rfl
 |
  k,x::xs=>by
  cases h:p x with
  | true=>simp[runL,h,List.findIdx?_cons]
  |
   false=>
   simp only[runL,h,List.findIdx?_cons,Bool.false_eq_true,if_false];rw[runL_idx p f e (k+1) xs];cases xs.findIdx? p with
   | none=>rfl
   | some i=>simp only[Option.map_some];congr 1;omega
theorem Y8{step:Int->Option (Int⊕β)}(xs:List α)(p:α->Bool)(f:Int->β)(e:β)
  (h:∀ k x,xs[k]?=some x->k<xs.length->step (k:Int)=some (if p x=true then .inr (f k) else .inl ((k+1:Nat):Int)))
  (hend:step (xs.length:Int)=some (.inr e)) (hlen:xs.length<576460752303423488) {s:Int} (hs:s=0):
  zL step s=some (match xs.findIdx? p with | some i=>f (i:Int) | none=>e):=by
 rw[loop_find xs (λ k x=>if p x=true then some (f k) else none) e (λ k x hx hlt=>?_) hend hlen hs,runL_idx]
 ·
  cases xs.findIdx? p <;> simp
 ·
  rw[h k x hx hlt];cases p x <;> rfl
theorem runL_fold(g:σ->α->σ)(fin:σ->β):∀ (k:Nat) (s:σ) (xs:List α),runL (λ _ s x=>(.inl (g s x):σ⊕β)) fin k s xs=fin (xs.foldl g s)
 | _,_,[]=>rfl
 | k,s,x::xs=>runL_fold g fin (k+1) (g s x) xs
theorem JK{step:S->Option (S⊕β)}(xs:List α)(mk:σ->Nat->S)(g:σ->α->σ)(fin:σ->β)(Inv:Nat->σ->Prop)
  (h:∀ k s x,xs[k]?=some x->k<xs.length->Inv k s->step (mk s k)=some (.inl (mk (g s x) (k+1)))/\Inv (k+1) (g s x))
  (hend:∀ s,Inv xs.length s->step (mk s xs.length)=some (.inr (fin s))) {s0:σ} (h0:Inv 0 s0) (hlen:xs.length<576460752303423488):zL step (mk s0 0)=some (fin (xs.foldl g s0)):=by
 rw[zac xs mk (λ _ s x=>.inl (g s x)) fin Inv h hend h0 hlen,runL_fold]
end
theorem Xj{s:Str}(hs:mid s):yU s=some (zA s):=by
 unfold mid at hs;have hl:zL (λ s4=>wi s s4) 0=some (if s.l.any (λ b=>!low b)=true then .inr false else .inl ()):=by
  refine XE s.l _ _ _ (λ k x hx hlt=>?_) ?_ (by omega) rfl
  ·
   unfold wi;rw[zK,if_pos (decide_eq_true hlt),zJ,hx,obS,wA,obS,zH (by omega)];unfold low;generalize cmpB .lss x (UInt8.ofNat 97)=c1;cases c1 with
   | true=>rfl
   |
    false=>
    rw[if_pos (show(false == false)=true from rfl)];generalize cmpB .gtr x (UInt8.ofNat 122)=c2;cases c2 <;> rfl
  ·
   unfold wi;rw[zK,if_neg (by simp)]
 unfold yU;rw[hl,obS];unfold zA;cases h:s.l.any (λ b=>!low b) with
 |
  true=>
  have:s.l.all low=false:=by
   rw[Bool.eq_false_iff];intro h2;rw[List.any_eq_true] at h;obtain⟨b,hb,hb2⟩:=h;rw[List.all_eq_true.1 h2 b hb] at hb2;cases hb2
  simp[this]
 |
  false=>
  have:s.l.all low=true:=by
   rw[List.all_eq_true];intro b hb;have:=List.any_eq_false.1 h b hb;simpa using this
  simp only[Bool.false_eq_true,if_false,Sum.elim_inl,yS,obS,this,Bool.and_true,inR];simp[cmpI]
def cutF(c:UInt8):List UInt8->List (List UInt8)
 | []=>[[]]
 |
  b::l=>if b == c then[]::cutF c l else match cutF c l with
  | h::t=>(b::h)::t
  | []=>[[b]]
theorem YK(c b:UInt8)(l:List UInt8):cutF c (b::l)=if b == c then[]::cutF c l else match cutF c l with
  | h::t=>(b::h)::t
  | []=>[[b]]:=rfl
theorem Z2(c:UInt8):∀ l,cutF c l≠[]
 | []=>by simp[cutF]
 |
  b::l=>by
  unfold cutF;split
  ·
   simp
  ·
   split <;> simp
theorem Jw(c:UInt8):∀ l,(cutF c l).length=l.count c+1
 | []=>by simp[cutF]
 |
  b::l=>by
  unfold cutF;cases h:b == c with
  |
   true=>
   simp only[if_true,List.length_cons,Jw c l];rw[List.count_cons,h];simp
  |
   false=>
   simp only[Bool.false_eq_true,if_false];rw[List.count_cons,h];simp only[Bool.false_eq_true,if_false,Nat.add_zero];rw[← Jw c l];cases hc:cutF c l with
   | nil=>exact absurd hc (Z2 c l)
   | cons h t=>rfl
theorem Qb(c:UInt8):∀ (l:List UInt8) (st:List Str×Str),(let r:=l.foldl (jP c) st;r.1++[r.2])=st.1++(match cutF c l with | h::t=>(⟨st.2.l++h⟩:Str)::t.map Str.mk | []=>[])
 | [],st=>by simp[cutF]
 |
  b::l,st=>by
  rw[List.foldl_cons];have ih:=Qb c l (jP c st b);simp only at ih ⊢;rw[ih];unfold jP;rw[YK];cases h:b == c with
  |
   true=>
   simp only[if_true,List.append_assoc];cases hc:cutF c l with
   | nil=>exact absurd hc (Z2 c l)
   | cons h t=>simp
  |
   false=>
   simp only[Bool.false_eq_true,if_false];cases hc:cutF c l with
   | nil=>exact absurd hc (Z2 c l)
   | cons h t=>simp
theorem jm(s:Str)(c:UInt8):zC s c=(cutF c s.l).map Str.mk:=by
 have:=Qb c s.l ([],⟨[]⟩);simp only at this;unfold zC xD;rw[this];cases hc:cutF c s.l with
 | nil=>exact absurd hc (Z2 c s.l)
 | cons h t=>simp
theorem YT(c:UInt8):∀ l,Lib.indexByte l c<0->cutF c l=[l]
 | [],_=>rfl
 |
  b::l,h=>by
  unfold Lib.indexByte at h;unfold cutF;cases hb:b == c with
  | true=>rw[hb] at h;simp at h
  |
   false=>
   rw[hb] at h;simp only[Bool.false_eq_true,if_false] at h ⊢;have hge:=Lib.indexByte_ge l c;have:Lib.indexByte l c<0:=by
    split at h
    ·
     rename_i e;have:=eq_of_beq e;omega
    ·
     omega
   rw[YT c l this]
theorem YU(c:UInt8):∀ l,0<=Lib.indexByte l c->Lib.indexByte l c<l.length/\cutF c l=l.take (Lib.indexByte l c).toNat::cutF c (l.drop ((Lib.indexByte l c).toNat+1))
 | [],h=>by simp[Lib.indexByte] at h
 |
  b::l,h=>by
  unfold Lib.indexByte at h ⊢;cases hb:b == c with
  | true=>simp[cutF,hb]
  |
   false=>
   rw[hb] at h;simp only[Bool.false_eq_true,if_false] at h ⊢;cases he:Lib.indexByte l c == -1 with
   | true=>rw[he] at h;simp at h
   |
    false=>
    rw[he] at h;simp only[Bool.false_eq_true,if_false] at h ⊢;have hge:=Lib.indexByte_ge l c;have hne:Lib.indexByte l c≠-1:=by simpa using he
    obtain⟨h1,h2⟩:=YU c l (by omega);refine⟨by simp;omega,?_⟩;have e1:(Lib.indexByte l c+1).toNat=(Lib.indexByte l c).toNat+1:=by omega
    rw[e1];rw[YK,hb,h2];simp only[Bool.false_eq_true,if_false,List.take_succ_cons,List.drop_succ_cons]
theorem genSplit_loop(c:UInt8)(n:Nat)(hn:n<1099511627777):∀ (l:List UInt8) (done:List Str),l.length<=1099511627776->done.length+(cutF c l).length=n->
  ∀
   m,(cutF c l).length<=m->wQ (λ s35=>yX ⟨[c]⟩ 0 ((n:Int) - 1) s35) m ((⟨l⟩:Str),done++List.replicate (n - done.length) zStr,(done.length:Int))=
   some (⟨(cutF c l).getLast (Z2 c l)⟩,done++((cutF c l).dropLast.map Str.mk++[zStr]),(n:Int) - 1):=by
 intro l
 induction hlen:l.length using Nat.strongRecOn generalizing l with
 |
  _ k ih=>
  intro done hl hd m hm;have hne:=Z2 c l;have hpos:0<(cutF c l).length:=List.length_pos_iff.2 hne;obtain⟨m,rfl⟩:∃ m',m=m'+1:=⟨m - 1,by omega⟩;by_cases hlast:(cutF c l).length=1
  ·
   rw[yD (b:=((⟨l⟩:Str),done++List.replicate (n - done.length) zStr,(done.length:Int))) (by unfold yX;exact if_neg (by simp[cmpI];omega))];obtain⟨x,hx⟩:=List.length_eq_one_iff.1 hlast;have e1:n - done.length=1:=by omega
   simp only[hx,List.getLast_singleton,List.dropLast_singleton,List.map_nil,List.nil_append,e1,List.replicate_one];have hxl:x=l:=by
    rcases Int.lt_or_le (Lib.indexByte l c) 0 with h | h
    ·
     rw[YT c l h] at hx;injection hx with hx;exact hx.symm
    ·
     obtain⟨_,h2⟩:=YU c l h;rw[h2] at hx;have:=congrArg List.length hx;simp at this;exact absurd this (Z2 _ _)
   rw[hxl]
   congr 2
   congr 1
   omega
  ·
   have hidx:0<=Lib.indexByte l c:=by
    rcases Int.lt_or_le (Lib.indexByte l c) 0 with h | h
    ·
     rw[YT c l h] at hlast;simp at hlast
    ·
     exact h
   obtain⟨h1,h2⟩:=YU c l hidx;obtain⟨j,hi⟩:=Int.eq_ofNat_of_zero_le hidx;rw[hi] at h1 h2;rw[Int.toNat_natCast] at h2;have hj:j<l.length:=by omega
   have e2:jd ⟨l⟩ ⟨[c]⟩=some (j:Int):=by simp[jd,hi]
   have hrep:done.length<(done++List.replicate (n - done.length) zStr).length:=by simp;omega
   have e4:atI (done++List.replicate (n - done.length) zStr) (done.length:Int)=some zStr:=by
    rw[zJ,List.getElem?_append_right (Nat.le_refl _),Nat.sub_self,List.getElem?_replicate,if_pos (by omega)]
   have e5:setO (done++List.replicate (n - done.length) zStr) (done.length:Int) (⟨l.take j⟩:Str)=some ((done++[⟨l.take j⟩])++List.replicate (n - (done.length+1)) zStr):=by
    rw[zab hrep]
    congr 1
    rw[List.set_append_right _ _ (Nat.le_refl _),Nat.sub_self];obtain⟨q,hq⟩:∃ q,n - done.length=q+1:=⟨n - done.length - 1,by omega⟩;rw[hq,List.replicate_succ,List.set_cons_zero,List.append_assoc,show n - (done.length+1)=q by omega];rfl
   have hstep:yX ⟨[c]⟩ 0 ((n:Int) - 1) ((⟨l⟩:Str),done++List.replicate (n - done.length) zStr,(done.length:Int))=some (.inl ((⟨l.drop (j+1)⟩:Str),(done++[⟨l.take j⟩])++List.replicate (n - (done.length+1)) zStr,((done.length+1:Nat):Int))):=by
    unfold yX;rw[if_pos (by simp[cmpI];omega)];simp only;rw[e2,obS,if_neg (by simp[cmpI]),show((j:Int)+0)=(j:Int) by omega,Z7 (by omega) (by omega),obS,JI (show j<=(⟨l⟩:Str).l.length by show j<=l.length;omega),obS,e4,obS,e5,obS];rw[show((j:Int)+(([c]:List UInt8).length:Int))=((j+1:Nat):Int) from rfl,Z7 (by omega) (by omega),obS,JJ (show j+1<=(⟨l⟩:Str).l.length by show j+1<=l.length;omega),obS,zH (by omega),obS]
   rw[wH hstep];have hlen2:(cutF c (l.drop (j+1))).length+1=(cutF c l).length:=by rw[h2];rfl
   have hrec:=ih (l.drop (j+1)).length (by simp;omega) (l.drop (j+1)) rfl (done++[⟨l.take j⟩]) (by simp;omega) (by simp;omega) m (by omega);rw[List.length_append,List.length_singleton] at hrec;rw[hrec];have hne2:=Z2 c (l.drop (j+1));have e7:(cutF c l).getLast hne=(cutF c (l.drop (j+1))).getLast hne2:=by
    have:∀ (L:List (List UInt8)) (hL:L≠[]),L=l.take j::cutF c (l.drop (j+1))->L.getLast hL=(cutF c (l.drop (j+1))).getLast hne2:=by
     intro L hL e;subst e;exact List.getLast_cons hne2
    exact this _ hne h2
   have e8:(cutF c l).dropLast=l.take j::(cutF c (l.drop (j+1))).dropLast:=by
    have:∀ (L:List (List UInt8)),L=l.take j::cutF c (l.drop (j+1))->L.dropLast=l.take j::(cutF c (l.drop (j+1))).dropLast:=by
     intro L e;subst e;rw[List.dropLast_cons_of_ne_nil hne2]
    exact this _ h2
   rw[e7,e8];simp
theorem Split_eq{s:Str}(hs:s.l.length<=8388608)(c:UInt8):jS s ⟨[c]⟩=some (zC s c):=by
 unfold jS qI;have hcount:s.l.count c<=s.l.length:=List.count_le_length;rw[if_neg (by simp[cmpI]),if_neg (by simp)];have e1:ZX s ⟨[c]⟩=some (s.l.count c:Int):=rfl;rw[if_pos (by simp[cmpI]),e1,obS,zH (by omega),obS,obS,zH (by omega),obS];have hmin:(if((s.l.length+1:Nat):Int)<((s.l.count c+1:Nat):Int) then((s.l.length+1:Nat):Int) else((s.l.count c+1:Nat):Int))=((s.l.count c+1:Nat):Int):=if_neg (by omega);rw[hmin];have hbig:s.l.count c+1<=16777216:=by omega
 have e2:WY 1 16 ((s.l.count c+1:Nat):Int) zStr=some (List.replicate (s.l.count c+1) zStr):=by
  unfold WY;rw[if_pos ⟨by omega,by simp;omega,by simp;omega,by omega⟩];rfl
 rw[e2,obS,Z7 (by omega) (by omega),obS];have hl:=ji (genSplit_loop c (s.l.count c+1) (by omega) s.l [] (by omega) (by simp[Jw]) (s.l.count c+1) (by rw[Jw];omega)) (by omega);simp only[List.nil_append,List.length_nil,Nat.sub_zero] at hl;rw[show((0:Nat):Int)=0 from rfl] at hl;rw[hl,obS];have hne:=Z2 c s.l;have hlen:=Jw c s.l;have hz:((cutF c s.l).dropLast.map Str.mk).length=s.l.count c:=by simp[hlen]
 have e3:(((s.l.count c+1:Nat):Int) - 1)=(s.l.count c:Int):=by omega
 simp only[e3];have e4:atI ((cutF c s.l).dropLast.map Str.mk++[zStr]) (s.l.count c:Int)=some zStr:=by
  rw[zJ,List.getElem?_append_right (by omega),hz,Nat.sub_self];rfl
 have e5:setO ((cutF c s.l).dropLast.map Str.mk++[zStr]) (s.l.count c:Int) (⟨(cutF c s.l).getLast hne⟩:Str)=some ((cutF c s.l).map Str.mk):=by
  unfold setO;rw[if_pos ⟨by omega,by simp[hlen]⟩]
  congr 1
  rw[Int.toNat_natCast,List.set_append_right _ _ (by omega),hz,Nat.sub_self,List.set_cons_zero];have:=List.dropLast_concat_getLast hne
  conv=>rhs;rw[← this]
  simp
 rw[e4,obS,e5,obS,zH (by omega),obS];have e6:WX ((cutF c s.l).map Str.mk) ((s.l.count c+1:Nat):Int)=some ((cutF c s.l).map Str.mk):=by
  unfold WX;rw[if_pos ⟨by omega,by simp[hlen]⟩]
  congr 1
  rw[Int.toNat_natCast];exact List.take_of_length_le (by simp[hlen])
 rw[e6,jm];rfl
def sho(s:Str):Prop:=s.l.length<=8388608
theorem sho.mid{s:Str}(h:sho s):mid s:=by unfold sho at h;unfold Go.Proofs.YtiiiokblnnlapaaGreatDoor.mid;omega
theorem split_len(s:Str)(c:UInt8):(zC s c).length<=s.l.length+1:=by have:=len_room (zC s c);rwa[Xu] at this
theorem split_part{s x:Str}{c:UInt8}(h:x∈zC s c):x.l.length<=s.l.length+1:=by
 obtain⟨k,hk⟩:=List.getElem?_of_mem h;have:=part_le hk;rwa[Xu] at this
theorem any_not{α:Type}(p:α->Bool)(l:List α):l.any (λ x=>!p x)=!l.all p:=by
 induction l with
 | nil=>rfl
 | cons x l ih=>simp[ih]
theorem wI{s:Str}(hs:sho s):yl s=some (zl s):=by
 unfold sho at hs;have hlen:=split_len s dot;unfold yl;rw[show jS s (⟨[46]⟩:Str)=some (zC s dot) from Split_eq hs dot,obS];have hl:zL (λ s7=>wj (zC s dot) s7) 0=some (if(zC s dot).any (λ x=>!zA x)=true then .inr false else .inl ()):=by
  refine XE _ _ _ _ (λ k x hx hlt=>?_) ?_ (by omega) rfl
  ·
   unfold wj;have hm:mid x:=by have:=split_part (List.mem_of_getElem? hx);unfold mid;omega
   rw[zK,if_pos (decide_eq_true hlt),zJ,hx,obS,Xj hm,obS,zH (by omega)];cases zA x <;> rfl
  ·
   unfold wj;rw[zK,if_neg (by simp)]
 rw[hl,obS,any_not];unfold zl;cases(zC s dot).all zA <;> rfl
theorem Yw{s:Str}(hs:sho s):xl s=some (zv s):=by
 unfold xl;rw[wI hs,wA,obS];unfold zv emptyS;cases decide (s=(⟨[]⟩:Str)) <;> rfl
def XX(p s:Str):Str:=if(zv p&&zA s&&zl (child p s))=true then child p s else emptyS
theorem QA{p s:Str}(h:p.l.length+s.l.length+1<=8388608):wL p s=some (XX p s):=by
 have hp:sho p:=by unfold sho;omega
 have hs:mid s:=by unfold mid;omega
 unfold wL XX;rw[Yw hp,obS,Xj hs,wA,obS];cases zv p with
 | false=>simp only[Bool.not_false,Bool.true_or,if_true,Bool.false_and,Bool.false_eq_true,if_false,emptyS]
 |
  true=>
  cases zA s with
  | false=>simp only[Bool.not_false,Bool.or_true,if_true,Bool.false_and,Bool.and_false,Bool.false_eq_true,if_false,emptyS,Bool.not_true,beq_self_eq_true]
  |
   true=>
   have hc:(if(decide (p≠(⟨[]⟩:Str)))=true then((catO p (⟨[46]⟩:Str)).bind λ v14=>(catO v14 s).bind λ v15=>some v15) else(some s))=some (child p s):=by
    unfold child emptyS;by_cases he:p=⟨[]⟩
    ·
     rw[if_neg (by simp[he]),if_pos he]
    ·
     rw[if_pos (by simp[he]),if_neg he,WM (by show p.l.length+1<=_;omega),obS,WM (by rw[List.length_append];show p.l.length+1+s.l.length<=_;omega),obS]
   have hsc:sho (child p s):=by
    unfold sho child;split
    ·
     omega
    ·
     rw[List.length_append,List.length_append];show p.l.length+1+s.l.length<=_;omega
   rw[hc,if_neg (by decide),obS,wI hsc,obS];generalize child p s=q;cases zl q <;> rfl
theorem HasPrefix_eq{s p:Str}:jf s p=some (decide (p.l.length<=s.l.length)&&decide ((⟨s.l.take p.l.length⟩:Str)=p)):=by
 unfold jf yZ;by_cases h:p.l.length<=s.l.length
 ·
  have e:cmpI .geq (s.l.length:Int) (p.l.length:Int)=true:=by simp[cmpI,h]
  rw[e,JI h];simp[gO,h]
 ·
  have e:cmpI .geq (s.l.length:Int) (p.l.length:Int)=false:=by simp[cmpI];omega
  rw[e];simp[gO,h]
theorem IsUnder_eq{s p:Str}(hs:sho s)(hp:p.l.length+1<=8388608):Za s p=some (zl s&&zv p&&under s p):=by
 have hp':sho p:=by unfold sho;omega
 unfold Za;rw[wI hs,obS,Yw hp',wA,obS,WM (by show p.l.length+1<=_;omega),wA];unfold under emptyS;cases zl s with
 | false=>rfl
 |
  true=>
  cases zv p with
  | false=>rfl
  |
   true=>
   cases he:decide (p=(⟨[]⟩:Str)) with
   | true=>rfl
   |
    false=>
    cases hq:decide (s=p) with
    | true=>rfl
    |
     false=>
     simp only[HasPrefix_eq,wA,Bool.not_true,Bool.or_self,Bool.false_eq_true,if_false,beq_self_eq_true,if_true,Bool.true_and,Bool.false_or,obS,List.length_append,List.length_singleton]
     congr 2
     simp[cmpI];omega
theorem JL(a b c:Int):yS a b c=some (inR a b c):=rfl
theorem qR:zl emptyS=false:=rfl
theorem idx_join{α:Type}(p:α->Bool)(xs:List α):Option.bind (some (match xs.findIdx? p with | some i=>(Sum.inr (i:Int):Unit⊕Int) | none=>Sum.inl ())) (Sum.elim (λ _=>some (-1)) some)=some (yY p xs):=by
 unfold yY;cases xs.findIdx? p <;> rfl
theorem Wr{α:Type}(p:α->Bool)(xs:List α):cmpI .geq (yY p xs) 0=xs.any p:=by
 unfold yY;cases h:xs.findIdx? p with
 |
  none=>
  rw[List.findIdx?_eq_none_iff] at h;have:xs.any p=false:=by rw[List.any_eq_false];intro x hx;simp[h x hx]
  rw[this];rfl
 |
  some i=>
  obtain⟨hi,hp,_⟩:=List.findIdx?_eq_some_iff_getElem.1 h;have:xs.any p=true:=by rw[List.any_eq_true];exact⟨_,List.getElem_mem hi,hp⟩
  rw[this];simp[cmpI]
theorem idxOf_lss{α:Type}{p:α->Bool}{xs:List α}{k:Nat}{x:α}(hx:xs[k]?=some x)(hp:p x=true):cmpI .lss (yY p xs) k=(xs.take k).any p:=by
 have hk:=zG hx;have hxk:xs[k]=x:=by rw[List.getElem?_eq_getElem hk] at hx;injection hx
 unfold yY;cases h:xs.findIdx? p with
 |
  none=>
  rw[List.findIdx?_eq_none_iff] at h;have:=h x (List.mem_of_getElem? hx);rw[hp] at this;cases this
 |
  some i=>
  obtain⟨hi,hpi,hmin⟩:=List.findIdx?_eq_some_iff_getElem.1 h;by_cases hik:i<k
  ·
   have:(xs.take k).any p=true:=by
    rw[List.any_eq_true];exact⟨xs[i],List.mem_take_iff_getElem.2 ⟨i,by omega,rfl⟩,hpi⟩
   rw[this];simp[cmpI,hik]
  ·
   have:(xs.take k).any p=false:=by
    rw[List.any_eq_false];intro y hy;obtain⟨j,hj,rfl⟩:=List.mem_take_iff_getElem.1 hy;exact hmin j (by omega)
   rw[this];simp[cmpI];omega
theorem IndexI_eq{xs:List Int}{n:Int}(h:xs.length<=1152921504606846):wa xs n=some (yY (λ x=>n == x) xs):=by
 unfold wa;have hl:zL (λ s4=>yP xs n s4) 0=some (match xs.findIdx? (λ x=>n == x) with | some i=>(Sum.inr (i:Int):Unit⊕Int) | none=>Sum.inl ()):=by
  refine Y8 xs (λ x=>n == x) (λ i=>Sum.inr i) _ (λ k x hx hlt=>?_) ?_ (by omega) rfl
  ·
   unfold yP;rw[zK,if_pos (decide_eq_true hlt),zJ,hx,obS,zH (by omega),show cmpI .eql n x=(n == x) from rfl];cases n == x <;> rfl
  ·
   unfold yP;rw[zK,if_neg (by simp)]
 rw[hl];exact idx_join _ _
theorem ContainsI_eq{xs:List Int}{n:Int}(h:xs.length<=1152921504606846):xt xs n=some (xs.any (λ x=>n == x)):=by
 unfold xt;rw[IndexI_eq h,obS,Wr]
theorem stmt_mod(s:Stmt):decide (s={ (⟨s.kind,⟨[]⟩,0,⟨[]⟩,0⟩:Stmt) with module:=s.module })=(cmpI .eql s.level 0&&decide (s.name=⟨[]⟩)&&cmpI .eql s.value 0):=by
 cases s;rw[Bool.eq_iff_iff];simp[cmpI,and_assoc]
theorem stmt_nv(s:Stmt):decide (s={ { (⟨s.kind,⟨[]⟩,0,⟨[]⟩,0⟩:Stmt) with name:=s.name } with value:=s.value })=(decide (s.module=⟨[]⟩)&&cmpI .eql s.level 0):=by
 cases s;rw[Bool.eq_iff_iff];simp[cmpI]
theorem stmt_n(s:Stmt):decide (s={ (⟨s.kind,⟨[]⟩,0,⟨[]⟩,0⟩:Stmt) with name:=s.name })=(decide (s.module=⟨[]⟩)&&cmpI .eql s.level 0&&cmpI .eql s.value 0):=by
 cases s;rw[Bool.eq_iff_iff];simp[cmpI,and_assoc]
theorem smStmt.sho{s:Stmt}(h:smStmt s):sho s.module:=by have:=h.1;unfold Go.Proofs.YtiiiokblnnlapaaGreatDoor.sho;omega
theorem smStmt.midn{s:Stmt}(h:smStmt s):mid s.name:=by have:=h.2;unfold mid;omega
theorem stmtOk_eq{s:Stmt}(h:smStmt s):ZH s=some (zU s):=by
 have hm:=wI h.sho;have hn:=Xj h.midn;unfold ZH;rw[hm,hn,stmt_mod,stmt_nv,stmt_n];simp only[JL,wA,obS];unfold zU;rcases s with⟨kind,m,level,name,value⟩;simp only[show ∀ x y:Int,cmpI .eql x y=(x == y) from λ _ _=>rfl];by_cases h0:kind=0
 ·
  subst h0;simp only[beq_self_eq_true,if_true,obS];generalize zl m=a;generalize (level == 0)=b;generalize decide (name=⟨[]⟩)=c;generalize (value == 0)=d;cases a <;> cases b <;> cases c <;> cases d <;> rfl
 ·
  by_cases h2:kind=2
  ·
   subst h2;simp only[beq_self_eq_true,if_true,obS,show((2:Int) == 0)=false from rfl,show((2:Int) == 1)=false from rfl,Bool.false_eq_true,if_false];generalize zl m=a;generalize (level == 0)=b;generalize decide (name=⟨[]⟩)=c;generalize (value == 0)=d;cases a <;> cases b <;> cases c <;> cases d <;> rfl
  ·
   have e0:(kind == 0)=false:=by simpa using h0
   have e2:(kind == 2)=false:=by simpa using h2
   simp only[e0,e2,Bool.false_eq_true,if_false,obS];by_cases h1:kind=1
   ·
    subst h1;simp only[beq_self_eq_true,if_true];have hl:cmpI .geq level 1=cmpI .gtr level 0:=by simp[cmpI];omega
    rw[hl];unfold zv;by_cases hme:m=emptyS
    ·
     subst hme;rw[qR];simp only[emptyS,decide_true,ne_eq,not_true_eq_false,decide_false];generalize (value == 0)=a;generalize inR level 0 3=b;generalize cmpI .gtr level 0=c;generalize zA name=d;cases a <;> cases b <;> cases c <;> cases d <;> rfl
    ·
     have e1:decide (m=emptyS)=false:=decide_eq_false hme;have e3:decide (m=⟨[]⟩)=false:=decide_eq_false hme;have e4:decide (m≠⟨[]⟩)=true:=decide_eq_true hme;rw[e1,e3,e4];generalize (value == 0)=a;generalize inR level 0 3=b;generalize cmpI .gtr level 0=c;generalize zA name=d;generalize zl m=e;cases a <;> cases b <;> cases c <;> cases d <;> cases e <;> rfl
   ·
    have e1:(kind == 1)=false:=by simpa using h1
    simp only[e1,Bool.false_eq_true,if_false];by_cases h3:kind=3
    ·
     subst h3;simp only[beq_self_eq_true,if_true];generalize decide (m=⟨[]⟩)=a;generalize (level == 0)=b;generalize inR value 0 99=c;generalize zA name=d;cases a <;> cases b <;> cases c <;> cases d <;> rfl
    ·
     have e3:(kind == 3)=false:=by simpa using h3
     simp only[e3,Bool.false_eq_true,if_false];by_cases h4:kind=4
     ·
      subst h4;simp only[beq_self_eq_true,if_true];generalize decide (m=⟨[]⟩)=a;generalize (level == 0)=b;generalize (value == 0)=c;generalize zA name=d;cases a <;> cases b <;> cases c <;> cases d <;> rfl
     ·
      have e4:(kind == 4)=false:=by simpa using h4
      simp only[e4,Bool.false_eq_true,if_false];by_cases h5:kind=5
      ·
       subst h5;rfl
      ·
       have e5:(kind == 5)=false:=by simpa using h5
       simp only[e5,Bool.false_eq_true,if_false]
theorem ValidBody_eq{b:List Stmt}(hlen:b.length<=1048576)(h:∀ s∈b,smStmt s):qq b=some (jQ b):=by
 unfold qq;have hl:zL (λ s4=>wk b s4) 0=some (if b.any (λ x=>!zU x)=true then .inr false else .inl ()):=by
  refine XE _ _ _ _ (λ k x hx hlt=>?_) ?_ (by omega) rfl
  ·
   unfold wk;rw[zK,if_pos (decide_eq_true hlt),zJ,hx,obS,stmtOk_eq (h x (List.mem_of_getElem? hx)),obS,zH (by omega)];cases zU x <;> rfl
  ·
   unfold wk;rw[zK,if_neg (by simp)]
 rw[hl,obS,any_not];unfold jQ;cases b.all zU <;> rfl
theorem child_ne{p s:Str}(h:zl (child p s)=true):child p s≠emptyS:=by
 intro e;rw[e,qR] at h;cases h
theorem smFile.shop{f:File}(h:smFile f):sho f.pkg:=by have:=h.1;unfold sho;omega
theorem smFile.midn{f:File}(h:smFile f):mid f.name:=by have:=h.2.1;unfold mid;omega
theorem smFile.child{f:File}(h:smFile f):f.pkg.l.length+f.name.l.length+1<=8388608:=by have:=h.1;have:=h.2.1;omega
theorem fileOk_eq{f:File}(h:smFile f):ZI f=some (wh f):=by
 unfold ZI;rw[JL,obS,Yw h.shop,wA,obS,JL,wA,obS,ValidBody_eq h.2.2.1 h.2.2.2,wA,obS,Xj h.midn,obS,QA h.child,wA,obS];unfold wh;cases inR f.root 0 2 with
 | false=>rfl
 |
  true=>
  cases hp:zv f.pkg with
  | false=>cases inR f.stamp 0 99 <;> rfl
  |
   true=>
   cases inR f.stamp 0 99 with
   | false=>rfl
   |
    true=>
    cases jQ f.body with
    | false=>rfl
    |
     true=>
     cases f.init with
     | true=>rfl
     |
      false=>
      show some (zA f.name&&decide ((if(zA f.name == true)=true then XX f.pkg f.name else default)≠(⟨[]⟩:Str)))=some (zA f.name&&zl (Go.Proofs.YtiiiokblnnlapaaGreatDoor.child f.pkg f.name));cases hn:zA f.name with
      | false=>rfl
      |
       true=>
       unfold XX;rw[hp,hn];cases hc:zl (Go.Proofs.YtiiiokblnnlapaaGreatDoor.child f.pkg f.name) with
       | false=>simp[emptyS]
       |
        true=>
        have:=child_ne hc;simp only[Bool.and_self,if_true,beq_self_eq_true,Bool.true_and];rw[decide_eq_true (show Go.Proofs.YtiiiokblnnlapaaGreatDoor.child f.pkg f.name≠⟨[]⟩ from this)]
theorem zad(f g:File):qm f g=some (x9 f g):=rfl
theorem Qc(f g:File):x9 f g=x9 g f:=by
 unfold x9;rw[BEq.comm (a:=f.root),BEq.comm (a:=f.init),decide_eq_decide.2 (eq_comm (a:=f.pkg) (b:=g.pkg)),decide_eq_decide.2 (eq_comm (a:=f.name) (b:=g.name))]
theorem sameFile_refl(f:File):x9 f f=true:=by simp[x9]
theorem ValidTree_eq{t:Tree}(h:qH t):qr t=some (yk t):=by
 have hlen:=h.1;unfold qr;have hl:zL (λ s4=>wm t s4) 0=some (if(List.range t.files.length).any (λ k=>!Jf t.files k)=true then .inr false else .inl ()):=by
  refine XE (List.range t.files.length) _ _ _ (λ k x hx hlt=>?_) ?_ (by rw[List.length_range];omega) rfl
  ·
   rw[List.length_range] at hlt;rw[List.getElem?_range hlt] at hx;injection hx with hx;subst hx;unfold wm;obtain⟨f,hf⟩:∃ f,t.files[k]?=some f:=⟨_,List.getElem?_eq_getElem hlt⟩;have ht:Jf t.files k=!(!wh f||cmpI .lss (xj t.files f) k):=by unfold Jf;rw[hf]
   rw[zK,if_pos (decide_eq_true hlt),zJ,hf,obS,fileOk_eq (h.2 _ (List.mem_of_getElem? hf)),obS,zaL (by omega),obS,ht];cases wh f with
   | false=>rfl
   |
    true=>
    rw[if_neg (by decide)];have hin:zL (λ s28=>wl f (t.files.take k) s28) 0=some (if(t.files.take k).any (λ x=>x9 f x)=true then .inr (.inr (.inr false)) else .inl ()):=by
     have htl:(t.files.take k).length<=k:=by simp;omega
     refine XE _ _ _ _ (λ j y hy hjt=>?_) ?_ (by omega) rfl
     ·
      unfold wl;rw[zK,if_pos (decide_eq_true hjt),zJ,hy,obS,zad,obS,zH (by omega)];cases x9 f y <;> rfl
     ·
      unfold wl;rw[zK,if_neg (by simp)]
    rw[hin];have hfa:cmpI .lss (xj t.files f) k=(t.files.take k).any (λ x=>x9 f x):=by
     unfold xj;rw[idxOf_lss (p:=λ x=>x9 x f) hf (sameFile_refl _)]
     congr 1
     funext x
     exact Qc _ _
    rw[hfa];cases(t.files.take k).any (λ x=>x9 f x) with
    | true=>rfl
    |
     false=>
     rw[if_neg (by decide),obS,Sum.elim_inl,zH (by omega)];rfl
  ·
   unfold wm;rw[List.length_range,zK,if_neg (by simp)]
 rw[hl,obS,any_not];unfold yk X6;cases(List.range t.files.length).all (Jf t.files) <;> rfl
theorem fileAt_eq{t:Tree}{f:File}(h:t.files.length<=1048576):qW t f=some (xj t.files f):=by
 unfold qW;have hl:zL (λ s4=>jw t f s4) 0=some (match t.files.findIdx? (λ x=>x9 x f) with | some i=>(Sum.inr (i:Int):Unit⊕Int) | none=>Sum.inl ()):=by
  refine Y8 t.files (λ x=>x9 x f) (λ i=>Sum.inr i) _ (λ k x hx hlt=>?_) ?_ (by omega) rfl
  ·
   unfold jw;rw[zK,if_pos (decide_eq_true hlt),zJ,hx,obS,zad,obS,zH (by omega),Qc];cases x9 x f <;> rfl
  ·
   unfold jw;rw[zK,if_neg (by simp)]
 rw[hl];exact idx_join _ _
theorem Jx{t:Tree}(h:yk t=true){f:File}(hf:f∈t.files):wh f=true:=by
 obtain⟨k,hk⟩:=List.getElem?_of_mem hf;unfold yk X6 at h;rw[Bool.and_eq_true] at h;have:=List.all_eq_true.1 h.1 k (List.mem_range.2 (zG hk));unfold Jf at this;rw[hk] at this;simp only at this;cases hv:wh f with
 | true=>rfl
 | false=>rw[hv] at this;cases this
theorem validFile_pkg{f:File}(h:wh f=true):zv f.pkg=true:=by
 unfold wh at h;cases hv:zv f.pkg with
 | true=>rfl
 |
  false=>
  rw[hv,if_pos (by simp)] at h;cases h
theorem hasDir_eq{t:Tree}{r:Int}{p:Str}(h:qH t)(hv:∀ f∈t.files,zv f.pkg=true)(hp:zv p=true)(hpl:p.l.length+1<=8388608):ZJ t r p=some (YI t.files r p):=by
 have hlen:=h.1;unfold ZJ;have hl:zL (λ s4=>jv t r p s4) 0=some (if t.files.any (Jg r p)=true then .inr true else .inl ()):=by
  refine XE _ _ _ _ (λ k x hx hlt=>?_) ?_ (by omega) rfl
  ·
   unfold jv;have hm:=List.mem_of_getElem? hx;rw[zK,if_pos (decide_eq_true hlt),zJ,hx,obS,IsUnder_eq (h.2 x hm).shop hpl,wA,obS,zH (by omega),hp];unfold Jg;have hvx:=hv x hm;unfold zv at hvx;rw[show cmpI .eql x.root r=(x.root == r) from rfl];by_cases he:x.pkg=emptyS
   ·
    rw[he,qR];simp
   ·
    have e1:zl x.pkg=true:=by simpa[he] using hvx
    rw[e1,decide_eq_true (show x.pkg≠emptyS from he)];cases x.root == r <;> cases under x.pkg p <;> rfl
  ·
   unfold jv;rw[zK,if_neg (by simp)]
 rw[hl,obS];unfold YI emptyS;cases t.files.any (Jg r p) <;> rfl
theorem ValidPath_eq{l:List Int}(h:l.length<=1048576):qu l=some (jt l):=by
 unfold qu;have hl:zL (λ s4=>wn l s4) 0=some (if(List.range l.length).any (λ k=>!Qn l k)=true then .inr false else .inl ()):=by
  refine XE (List.range l.length) _ _ _ (λ k x hx hlt=>?_) ?_ (by rw[List.length_range];omega) rfl
  ·
   rw[List.length_range] at hlt;rw[List.getElem?_range hlt] at hx;injection hx with hx;subst hx;unfold wn;obtain⟨n,hf⟩:∃ n,l[k]?=some n:=⟨_,List.getElem?_eq_getElem hlt⟩;have htl:(l.take k).length<=1152921504606846:=by simp;omega
   have ht:Qn l k=!(!inR n 0 2||(l.take k).any (λ x=>n == x)):=by
    unfold Qn;rw[hf];simp only;unfold intAt;rw[Wr,show(λ x=>x == n)=(λ x=>n == x) from by funext x;exact BEq.comm]
   rw[zK,if_pos (decide_eq_true hlt),zJ,hf,obS,JL,obS,zaL (by omega),wA,obS,ht,zH (by omega)];cases inR n 0 2 with
   | false=>rfl
   |
    true=>
    simp only[Bool.not_true,beq_self_eq_true,if_true];rw[ContainsI_eq htl,wA,obS];cases(l.take k).any (λ x=>n == x) <;> rfl
  ·
   unfold wn;rw[List.length_range,zK,if_neg (by simp)]
 rw[hl,obS,any_not];unfold jt Jh;cases(List.range l.length).all (Qn l) <;> rfl
structure Good(t:Tree):Prop where
 sm:qH t
 ok:yk t=true
theorem Good.pkg{t:Tree}(h:Good t):∀ f∈t.files,zv f.pkg=true:=λ _ hf=>validFile_pkg (Jx h.ok hf)
theorem Good.len{t:Tree}(h:Good t):t.files.length<=1048576:=h.sm.1
theorem Wa{s:Str}(h:zA s=true):1<=s.l.length/\s.l.length<=3:=by
 unfold zA inR at h;simp[cmpI] at h;omega
theorem lenSum_le(l:List Str)(h:∀ x∈l,x.l.length<=3):jk l<=4*l.length:=by
 induction l with
 | nil=>exact Nat.le_refl _
 |
  cons x l ih=>
  have h1:=h x (by simp);have h2:=ih λ y hy=>h y (by simp[hy])
  unfold jk at h2 ⊢;simp only[List.map_cons,List.sum_cons,List.length_cons];omega
theorem xh{s:Str}(h:zl s=true):s.l.length<=11:=by
 unfold zl at h;rw[Bool.and_eq_true] at h;have h1:=lenSum_le (zC s dot) λ x hx=>(Wa (List.all_eq_true.1 h.1 x hx)).2
 rw[Xu] at h1;have h2:=h.2;simp[cmpI] at h2;omega
theorem xU{s:Str}(h:zv s=true):s.l.length<=11:=by
 unfold zv at h;rw[Bool.or_eq_true] at h;rcases h with h | h
 ·
  rw[oD h];exact Nat.zero_le _
 ·
  exact xh h
def W0:List (List UInt8)->List UInt8
 | []=>[]
 | [a]=>a
 | a::b::l=>a++46::W0 (b::l)
theorem Qd:∀ (l:List Str) (acc:List UInt8),(l.foldl Y1 (⟨acc⟩,true)).1=⟨acc++(l.map λ x=>46::x.l).flatten⟩
 | [],acc=>by simp
 |
  x::l,acc=>by
  rw[List.foldl_cons];show(l.foldl Y1 (⟨(acc++[46])++x.l⟩,true)).1=_;rw[Qd l];simp
theorem zbD(a:List UInt8)(l:List (List UInt8)):W0 (a::l)=a++(l.map λ x=>46::x).flatten:=by
 induction l generalizing a with
 | nil=>simp[W0]
 | cons b l ih=>rw[W0,ih];simp
theorem zbE(l:List Str):join l=⟨W0 (l.map (·.l))⟩:=by
 cases l with
 | nil=>rfl
 |
  cons x l=>
  unfold join Zx;rw[List.foldl_cons];show(l.foldl Y1 (⟨[]++x.l⟩,true)).1=_;rw[Qd,List.map_cons,zbD];simp[List.map_map,Function.comp_def]
theorem cutF_pre(c:UInt8):∀ (a l:List UInt8),c ∉ a->cutF c (a++c::l)=a::cutF c l
 | [],l,_=>by simp[cutF]
 |
  b::a,l,h=>by
  have hb:(b == c)=false:=by
   have:b≠c:=λ e=>h (by simp[e])
   simpa using this
  rw[List.cons_append,YK,hb,cutF_pre c a l (λ e=>h (by simp[e]))];rfl
theorem zae(c:UInt8):∀ (a:List UInt8),c ∉ a->cutF c a=[a]
 | [],_=>rfl
 |
  b::a,h=>by
  have hb:(b == c)=false:=by
   have:b≠c:=λ e=>h (by simp[e])
   simpa using this
  rw[YK,hb,zae c a (λ e=>h (by simp[e]))];rfl
theorem zbF:∀ (l:List (List UInt8)),l≠[]->(∀ x∈l,(46:UInt8) ∉ x)->cutF 46 (W0 l)=l
 | [],h,_=>absurd rfl h
 | [a],_,h=>zae 46 a (h a (by simp))
 |
  a::b::l,_,h=>by
  rw[W0,cutF_pre 46 a _ (h a (by simp)),zbF (b::l) (by simp) λ x hx=>h x (by simp[hx])]
theorem QB:∀ (l:List UInt8),W0 (cutF 46 l)=l
 | []=>rfl
 |
  b::l=>by
  rw[YK];cases hb:b == 46 with
  |
   true=>
   have ih:=QB l;have hb:=eq_of_beq hb;rw[if_pos rfl];cases hc:cutF 46 l with
   | nil=>exact absurd hc (Z2 46 l)
   | cons h t=>rw[W0,← hc,ih,hb];rfl
  |
   false=>
   have ih:=QB l;rw[if_neg (by decide)];cases hc:cutF 46 l with
   | nil=>exact absurd hc (Z2 46 l)
   |
    cons h t=>
    rw[hc] at ih;show W0 ((b::h)::t)=b::l;rw[zbD] at ih ⊢;rw[← ih];rfl
theorem join_split(s:Str):join (zC s dot)=s:=by
 rw[zbE,jm,List.map_map];show(⟨W0 ((cutF 46 s.l).map λ x=>x)⟩:Str)=s;rw[List.map_id',QB]
theorem low_ne{b:UInt8}(h:low b=true):b≠46:=by
 intro e;subst e;revert h;decide
theorem validPart_dot{s:Str}(h:zA s=true):(46:UInt8) ∉ s.l:=by
 unfold zA at h;rw[Bool.and_eq_true] at h;intro hm;exact low_ne (List.all_eq_true.1 h.2 _ hm) rfl
theorem zbG{l:List Str}(hne:l≠[])(h:∀ x∈l,zA x=true):zC (join l) dot=l:=by
 rw[zbE,jm];show(cutF 46 (W0 (l.map (·.l)))).map Str.mk=l;rw[zbF _ (by simpa using hne) (by
  intro x hx;obtain⟨y,hy,rfl⟩:=List.mem_map.1 hx;exact validPart_dot (h y hy)),List.map_map]
 show l.map (λ x=>x)=l;exact List.map_id' l
theorem zbH{l:List Str}(hne:l≠[])(hlen:l.length<=3)(h:∀ x∈l,zA x=true):zl (join l)=true:=by
 unfold zl;rw[zbG hne h,Bool.and_eq_true];exact⟨List.all_eq_true.2 h,by simp[cmpI];omega⟩
theorem jV{s:Str}(h:zl s=true):(∀ x∈zC s dot,zA x=true)/\(zC s dot).length<=3:=by
 unfold zl at h;rw[Bool.and_eq_true] at h;have:=h.2;simp[cmpI] at this;exact⟨List.all_eq_true.1 h.1,by omega⟩
theorem pre_valid{s:Str}(h:zl s=true)(k:Nat):zv (join ((zC s dot).take k))=true:=by
 obtain⟨h1,h2⟩:=jV h;unfold zv;cases k with
 | zero=>rfl
 |
  succ k=>
  have hne:=Je s dot;rw[zbH (by intro e;have:=congrArg List.length e;simp at this;rw[this] at hne;simp at hne) (by simp;omega) λ x hx=>h1 x (List.mem_of_mem_take hx),Bool.or_true]
theorem dir_of_init{t:List File}{r:Int}{c:Str}(hc:c≠emptyS)(h:cmpI .geq (xj t ⟨r,c,⟨[]⟩,true,0,[]⟩) 0=true):YI t r c=true:=by
 unfold xj at h;rw[Wr,List.any_eq_true] at h;obtain⟨f,hf,hs⟩:=h;unfold x9 at hs;simp only[Bool.and_eq_true,beq_iff_eq,decide_eq_true_eq] at hs;obtain⟨⟨⟨h1,h2⟩,_⟩,_⟩:=hs;unfold YI;rw[Bool.or_eq_true,List.any_eq_true];refine .inl ⟨f,hf,?_⟩;unfold Jg under;simp[h1,h2,hc]
theorem find_eq{t:Tree}(ht:Good t){roots:List Int}(hr:roots.length<=1048576){p s:Str}(hp:zv p=true)(hs:zA s=true)(hc:zl (child p s)=true):Yd t roots p s=some (Z4 t.files roots p s):=by
 have hpl:=xU hp;have hsl:=(Wa hs).2;have hcl:=xh hc;have hne:=child_ne hc;have hcp:zv (child p s)=true:=by unfold zv;rw[hc,Bool.or_true]
 have he:XX p s=child p s:=by unfold XX;rw[hp,hs,hc];rfl
 unfold Yd;rw[QA (by omega),he,obS,if_neg (by simp only[decide_eq_true_eq];exact hne)];have hl:zL (λ s16=>jE t roots p s (child p s) s16) (zSpec,[],(0:Int))=some (runL (λ _ (acc:List Int) r=>
   if cmpI .geq (xj t.files ⟨r,child p s,⟨[]⟩,true,0,[]⟩) 0=true then .inr (Sum.inr (⟨2,xj t.files ⟨r,child p s,⟨[]⟩,true,0,[]⟩,[r]⟩:Spec))
   else if cmpI .geq (xj t.files ⟨r,p,s,false,0,[]⟩) 0=true then .inr (Sum.inr (⟨1,xj t.files ⟨r,p,s,false,0,[]⟩,[]⟩:Spec))
   else .inl (if YI t.files r (child p s)=true then acc++[r] else acc)) (λ acc=>Sum.inl (zSpec,acc)) 0 [] roots):=by
  refine zac (σ:=List Int) roots (λ acc k=>(zSpec,acc,(k:Int))) _ _ (λ k acc=>acc.length<=k) (λ k acc r hx hlt hi=>?_) (λ acc _=>?_) (Nat.le_refl 0) (by omega)
  ·
   have hst:jE t roots p s (child p s) (zSpec,acc,(k:Int))=(if cmpI .geq (xj t.files ⟨r,child p s,⟨[]⟩,true,0,[]⟩) 0=true then some (.inr (.inr (⟨2,xj t.files ⟨r,child p s,⟨[]⟩,true,0,[]⟩,[r]⟩:Spec)))
     else if cmpI .geq (xj t.files ⟨r,p,s,false,0,[]⟩) 0=true then some (.inr (.inr (⟨1,xj t.files ⟨r,p,s,false,0,[]⟩,[]⟩:Spec)))
     else some (.inl (zSpec,(if YI t.files r (child p s)=true then acc++[r] else acc),((k+1:Nat):Int)))):=by
    unfold jE;simp only;rw[zK,if_pos (decide_eq_true hlt),zJ,hx,obS,obS,fileAt_eq ht.len,obS,Bool.true_and,fileAt_eq ht.len,obS,Bool.true_and,hasDir_eq ht.sm ht.pkg hcp (by omega),zH (by omega)];rw[wA,obS,xV (by simp;omega) (by simp;omega)];generalize cmpI .geq (xj t.files ⟨r,child p s,⟨[]⟩,true,0,[]⟩) 0=b1;generalize cmpI .geq (xj t.files ⟨r,p,s,false,0,[]⟩) 0=b2;generalize YI t.files r (child p s)=b3;cases b1 <;> cases b2 <;> cases b3 <;> rfl
   cases h1:cmpI .geq (xj t.files ⟨r,child p s,⟨[]⟩,true,0,[]⟩) 0 with
   | true=>rw[h1] at hst;exact hst
   |
    false=>
    rw[h1] at hst;rw[if_neg (by decide)] at hst ⊢;cases h2:cmpI .geq (xj t.files ⟨r,p,s,false,0,[]⟩) 0 with
    | true=>rw[h2] at hst;exact hst
    |
     false=>
     rw[h2] at hst;rw[if_neg (by decide)] at hst ⊢;refine⟨hst,?_⟩;split
     ·
      simp;omega
     ·
      omega
  ·
   unfold jE;simp only;rw[zK,if_neg (by simp)]
 rw[hl,obS];unfold Z4;have key:∀ (rs:List Int) (k:Nat) (acc:List Int),Sum.elim (λ b14:Spec×List Int=>if(cmpI .gtr (b14.2.length:Int) (0:Int))=true then(some (⟨(3:Int),(-1:Int),b14.2⟩:Spec)) else((qt).bind λ v75=>some v75)) some (runL (λ _ (acc:List Int) r=>
   if cmpI .geq (xj t.files ⟨r,child p s,⟨[]⟩,true,0,[]⟩) 0=true then .inr (Sum.inr (⟨2,xj t.files ⟨r,child p s,⟨[]⟩,true,0,[]⟩,[r]⟩:Spec))
   else if cmpI .geq (xj t.files ⟨r,p,s,false,0,[]⟩) 0=true then .inr (Sum.inr (⟨1,xj t.files ⟨r,p,s,false,0,[]⟩,[]⟩:Spec))
   else .inl (if YI t.files r (child p s)=true then acc++[r] else acc)) (λ acc=>Sum.inl (zSpec,acc)) k acc rs)=some (jl t.files p s acc rs):=by
  intro rs
  induction rs with
  |
   nil=>
   intro k acc;unfold jl;simp only[runL,Sum.elim_inl];split <;> rfl
  |
   cons r rs ih=>
   intro k acc;unfold jl;rw[runL];cases h1:cmpI .geq (xj t.files ⟨r,child p s,⟨[]⟩,true,0,[]⟩) 0 with
   | true=>rw[dir_of_init hne h1];rfl
   |
    false=>
    rw[Bool.and_false];cases h2:cmpI .geq (xj t.files ⟨r,p,s,false,0,[]⟩) 0 with
    | true=>rfl
    | false=>exact ih _ _
 exact key roots 0 []
theorem za7(c:UInt8):∀ (a l:List UInt8),cutF c (a++c::l)=cutF c a++cutF c l
 | [],l=>by simp[cutF]
 |
  b::a,l=>by
  rw[List.cons_append,YK,za7 c a l,YK];cases b == c with
  | true=>rfl
  |
   false=>
   rw[if_neg (by decide),if_neg (by decide)];cases hc:cutF c a with
   | nil=>exact absurd hc (Z2 c a)
   | cons h t=>rfl
theorem split_append(p s:Str):zC ⟨(p.l++[46])++s.l⟩ dot=zC p dot++zC s dot:=by
 rw[jm,jm,jm,← List.map_append];show(cutF 46 ((p.l++[46])++s.l)).map Str.mk=(cutF 46 p.l++cutF 46 s.l).map Str.mk;rw[List.append_assoc,List.singleton_append,za7]
section
variable{S β:Type}
end
theorem wJ{x:Str}(h:zl x=true):sho x:=by have:=xh h;unfold sho;omega
theorem atI_file{l:List File}{n:Int}(h0:0<=n)(h:n<l.length):atI l n=some ((l[n.toNat]?).getD default):=by
 unfold atI;rw[if_pos h0];exact get_def h0 h
open Go.RowKit
def Okd{α:Type}[Rep α](x:α):Prop:=∃ M w cs,Rep.rdc M w cs x
section
variable{α β:Type}[Rep α][Rep β]
theorem Okd.fld{get:α->β}{off:Nat}(f:Fld get off){x:α}(h:Okd x):Okd (get x):=by
 obtain⟨M,w,cs,hr⟩:=h;obtain⟨c,_,h2⟩:=f.sub hr;exact⟨M,w,c,h2⟩
theorem Okd.str{s:Str}(h:Okd s):s.l.length<=9223372036854775807:=by
 obtain⟨M,w,cs,hr⟩:=h;exact hr.2
theorem Okd.len{xs:List α}(h:Okd xs):xs.length<=9223372036854775807:=by
 obtain⟨M,w,cs,A,c,_,h1,h2,_⟩:=h;exact Nat.le_trans h1 h2
theorem rowR_okd{M:Nat->Prop}{w:World}:∀ {cells:List Value} {xs:List α},rowR M w cells xs->∀ x∈xs,Okd x
 | _,_::_,⟨c,_r,_,h1,h2⟩,x,hx=>(List.mem_cons.1 hx).elim (λ e=>e ▸ ⟨M,w,c,h1⟩) (rowR_okd h2 x)
theorem Okd.mem{xs:List α}(h:Okd xs){x:α}(hx:x∈xs):Okd x:=by
 obtain⟨M,w,cs,A,c,_,_,_,h3⟩:=h;rcases h3 with h3 | ⟨b,o,cells,_,_,_,hr⟩
 ·
  rw[h3] at hx;cases hx
 ·
  exact rowR_okd hr x hx
theorem RdAll.okd{M:Nat->Prop}{w:World}{vs:List Value}{xs:List Dt}(hr:RdAll M w vs xs){x:α}(hx:dt x∈xs):Okd x:=by
 induction hr with
 | nil=>cases hx
 |
  cons h r ih=>
  rcases List.mem_cons.1 hx with e | hx
  ·
   rw[← e] at h;obtain⟨cs,h1,_⟩:=h;exact⟨M,w,cs,h1⟩
  ·
   exact ih hx
theorem Fn.okd{P:Program}{f:FuncId}{xs:List Dt}{y:Dt}{x:α}(hx:dt x∈xs)(h:Okd x->Fn P f xs y):Fn P f xs y:=λ M w vs hm hr=>h (hr.okd hx) M w vs hm hr
end
section
variable{α β σ S:Type}
theorem neq_len{m n:Nat}:cmpI .neq (m:Int) (n:Int)=!decide (m=n):=by
 by_cases h:m=n
 ·
  simp[cmpI,h]
 ·
  simp[cmpI,h];omega
theorem set_at{xs:List α}{z:α}{k:Nat}(hk:k<xs.length):(xs.take k++List.replicate (xs.length - k) z).set k xs[k]=xs.take (k+1)++List.replicate (xs.length - (k+1)) z:=by
 rw[List.set_append_right _ _ (by rw[List.length_take];omega),List.length_take,Nat.min_eq_left (by omega),Nat.sub_self,show xs.length - k=(xs.length - (k+1))+1 by omega,List.replicate_succ,List.set_cons_zero,List.take_add_one,List.getElem?_eq_getElem hk];simp only[Option.toList_some,List.append_assoc,List.singleton_append]
theorem at_at{xs:List α}{z:α}{k:Nat}(hk:k<xs.length):(xs.take k++List.replicate (xs.length - k) z)[k]?=some z:=by
 rw[List.getElem?_append_right (by rw[List.length_take];omega),List.length_take,Nat.min_eq_left (by omega),Nat.sub_self,List.getElem?_replicate,if_pos (by omega)]
theorem len_at{xs:List α}{z:α}{k:Nat}(hk:k<xs.length):k<(xs.take k++List.replicate (xs.length - k) z).length:=by
 rw[List.length_append,List.length_take,List.length_replicate];omega
theorem zaM{step:List α×Int->Option ((List α×Int)⊕List α)}(xs:List α)(z:α)
  (h:∀ k (hk:k<xs.length),step (xs.take k++List.replicate (xs.length - k) z,(k:Int))=some (.inl ((xs.take k++List.replicate (xs.length - k) z).set k xs[k],((k+1:Nat):Int))))
  (hend:∀ ys,step (ys,(xs.length:Int))=some (.inr ys)) (hlen:xs.length<576460752303423488) {s0:List α×Int} (h0:s0=(List.replicate xs.length z,0)):zL step s0=some xs:=by
 have key:∀ m k,k+m=xs.length->wQ step (m+1) (xs.take k++List.replicate (xs.length - k) z,(k:Int))=some xs:=by
  intro m
  induction m with
  |
   zero=>
   intro k hk;have:k=xs.length:=by omega
   subst this;rw[yD (hend _)];simp
  |
   succ m ih=>
   intro k hk;have hlt:k<xs.length:=by omega
   rw[wH (h k hlt),set_at hlt];exact ih (k+1) (by omega)
 have h1:=key xs.length 0 (by omega);subst h0;exact ji (by simpa using h1) (by omega)
theorem makeO_of{size bytes n:Nat}{z:α}(h1:n*size<=16777216)(h2:bytes*n<=281474976710656)(h3:n<=9223372036854775807):WY size bytes (n:Int) z=some (List.replicate n z):=by
 unfold WY;rw[if_pos ⟨by omega,by simpa using h1,by simpa using h2,by omega⟩];simp
theorem eq_loop[DecidableEq α]{step:Int->Option (Int⊕(Unit⊕Bool))}(xs ys:List α)(hxy:xs.length=ys.length)
  (h:∀ k (hk:k<xs.length) (hk2:k<ys.length),step (k:Int)=some (if xs[k]=ys[k] then .inl ((k+1:Nat):Int) else .inr (.inr false)))
  (hend:step (xs.length:Int)=some (.inr (.inl ()))) (hlen:xs.length<576460752303423488):Option.bind (α:=Unit⊕Bool) (zL step 0) (Sum.elim (λ _=>some true) some)=some (decide (xs=ys)):=by
 have key:∀ m k,k+m=xs.length->xs.take k=ys.take k->∃ r,wQ step (m+1) (k:Int)=some r/\(Sum.elim (λ _=>some true) some r:Option Bool)=some (decide (xs=ys)):=by
  intro m
  induction m with
  |
   zero=>
   intro k hk he;have:k=xs.length:=by omega
   subst this;refine⟨_,yD hend,?_⟩;rw[List.take_length,hxy,List.take_length] at he;simp[he]
  |
   succ m ih=>
   intro k hk he;have hlt:k<xs.length:=by omega
   have hlt2:k<ys.length:=by omega
   have hs:=h k hlt hlt2;by_cases e:xs[k]=ys[k]
   ·
    rw[if_pos e] at hs;rw[wH hs];refine ih (k+1) (by omega) ?_;rw[List.take_add_one,List.take_add_one,he,List.getElem?_eq_getElem hlt,List.getElem?_eq_getElem hlt2,e]
   ·
    rw[if_neg e] at hs;refine⟨_,yD hs,?_⟩;have:xs≠ys:=λ h=>by subst h;exact e rfl
    simp[this]
 obtain⟨r,h1,h2⟩:=key xs.length 0 (by omega) rfl;have h1':wQ step (xs.length+1) (0:Int)=some r:=h1;rw[ji h1' (by omega),obS];exact h2
def szR(t:Nat)(left:Int):Int:=if(t:Int)<=left then left - t else -1
theorem szR_neg{t:Nat}{left:Int}:szR t left<0 ↔ left<t:=by unfold szR;split <;> omega
theorem zaN{t:Nat}{left:Int}(h:0<=szR t left):(t:Int)<=left/\szR t left=left - t:=by
 unfold szR at h ⊢;split at h
 ·
  rename_i h1;rw[if_pos h1];exact⟨h1,rfl⟩
 ·
  omega
def sumL(f:α->Nat):List α->Nat
 | []=>0
 | x::xs=>f x+sumL f xs
theorem Ws{f:α->Nat}:∀ {xs:List α} {x:α},x∈xs->f x<=sumL f xs
 |
  y::ys,x,hx=>by
  unfold sumL;rcases List.mem_cons.1 hx with rfl | hx
  ·
   omega
  ·
   have:=Ws (f:=f) hx;omega
theorem sumL_drop{f:α->Nat}{xs:List α}{k:Nat}(hk:k<xs.length):sumL f (xs.drop k)=f xs[k]+sumL f (xs.drop (k+1)):=by
 rw[List.drop_eq_getElem_cons hk];rfl
theorem sz_loop{step:Int×Int->Option ((Int×Int)⊕(Int⊕Int))}(xs:List α)(f:α->Nat)
  (h:∀ k (hk:k<xs.length) (l:Int),0<=l->l<=1048576->step (l,(k:Int))=some (if szR (f xs[k]) l<0 then .inr (.inr (-1)) else .inl (szR (f xs[k]) l,((k+1:Nat):Int))))
  (hend:∀ l,step (l,(xs.length:Int))=some (.inr (.inl l))) (hlen:xs.length<576460752303423488) {l0:Int} (h0:0<=l0) (h1:l0<=1048576):
  Option.bind (α:=Int⊕Int) (zL step (l0,0)) (Sum.elim (λ l=>some l) some)=some (szR (sumL f xs) l0):=by
 have key:∀ m k l,k+m=xs.length->0<=l->l<=1048576->∃ r,wQ step (m+1) (l,(k:Int))=some r/\(Sum.elim (λ l=>some l) some r:Option Int)=some (szR (sumL f (xs.drop k)) l):=by
  intro m
  induction m with
  |
   zero=>
   intro k l hk hl hl2;have:k=xs.length:=by omega
   subst this;refine⟨_,yD (hend l),?_⟩;rw[List.drop_length];show some l=some (szR 0 l)
   congr 1
   unfold szR;rw[if_pos (by omega)];simp
  |
   succ m ih=>
   intro k l hk hl hl2;have hlt:k<xs.length:=by omega
   have hs:=h k hlt l hl hl2;rw[sumL_drop hlt];by_cases e:szR (f xs[k]) l<0
   ·
    rw[if_pos e] at hs;refine⟨_,yD hs,?_⟩;show some (-1:Int)=_
    congr 1
    rw[szR_neg] at e;unfold szR;rw[if_neg (by omega)]
   ·
    rw[if_neg e] at hs;obtain⟨e1,e2⟩:=zaN (t:=f xs[k]) (left:=l) (by omega);obtain⟨r,r1,r2⟩:=ih (k+1) (szR (f xs[k]) l) (by omega) (by omega) (by omega);refine⟨r,by rw[wH hs];exact r1,?_⟩;rw[r2]
    congr 1
    rw[e2];unfold szR;by_cases e3:(sumL f (xs.drop (k+1)):Int)<=l - f xs[k]
    ·
     rw[if_pos e3,if_pos (by omega)];omega
    ·
     rw[if_neg e3,if_neg (by omega)]
 obtain⟨r,r1,r2⟩:=key xs.length 0 l0 (by omega) h0 h1;have r1':wQ step (xs.length+1) (l0,(0:Int))=some r:=r1;rw[ji r1' (by omega),obS];simpa using r2
theorem mark_loop{T:Type}{step:List α×Int×Int->Option ((List α×Int×Int)⊕T)}(fin:List α->Int->T){held:List α->Int×Int->Option ((Int×Int)⊕(Int⊕Int))}(xs:List α)(B:Nat)(C:Int)
  (h:∀ (ys:List α) (k:Int) (i:Nat) (hi:i<ys.length),ys.length=xs.length->ys[i]∈xs->0<=k->k<=C->∃ y k',step (ys,k,(i:Int))=some (.inl (ys.set i y,k',((i+1:Nat):Int)))/\k<=k'/\k'<=k+B/\
   ∀ zs:List α,zs.length=xs.length->zs[i]?=some y->held zs (k,(i:Int))=some (.inl (k',((i+1:Nat):Int))))
  (hend:∀ (ys:List α) (k:Int),ys.length=xs.length->step (ys,k,(xs.length:Int))=some (.inr (fin ys k)))
  (hend2:∀ (ys:List α) (k:Int),ys.length=xs.length->held ys (k,(xs.length:Int))=some (.inr (.inl k)))
  (hlen:xs.length<576460752303423488) {k0:Int} (h0:0<=k0) (hB:k0+B*xs.length<=C):
  ∃ ys k',zL step (xs,k0,0)=some (fin ys k')/\ys.length=xs.length/\k0<=k'/\k'<=k0+B*xs.length/\zL (held ys) (k0,0)=some (.inl k'):=by
 have key:∀ m i (ys:List α) (k:Int),i+m=xs.length->ys.length=xs.length->(∀ j,i<=j->ys[j]?=xs[j]?)->0<=k->k+B*m<=C->
   ∃ ys' k',wQ step (m+1) (ys,k,(i:Int))=some (fin ys' k')/\ys'.length=xs.length/\ys'.take i=ys.take i/\k<=k'/\k'<=k+B*m/\wQ (held ys') (m+1) (k,(i:Int))=some (.inl k'):=by
  intro m
  induction m with
  |
   zero=>
   intro i ys k hi hl hd hk hB;have:i=xs.length:=by omega
   subst this;exact⟨ys,k,yD (hend ys k hl),hl,rfl,by omega,by omega,yD (hend2 ys k hl)⟩
  |
   succ m ih=>
   intro i ys k hi hl hd hk hB;have hlt:i<ys.length:=by omega
   have hlt2:i<xs.length:=by omega
   have hm:ys[i]∈xs:=by
    have h1:=hd i (Nat.le_refl _);rw[List.getElem?_eq_getElem hlt,List.getElem?_eq_getElem hlt2] at h1;injection h1 with h1;rw[h1];exact List.getElem_mem hlt2
   have hBm:(B:Int)*((m+1:Nat):Int)=B*m+B:=by
    rw[Int.natCast_add,Int.mul_add];simp
   have hBm0:(0:Int)<=B*m:=Int.mul_nonneg (by omega) (by omega);obtain⟨y,k',h1,h2,h3,h4⟩:=h ys k i hlt hl hm hk (by omega);obtain⟨ys',k2,r1,r2,r3,r4,r5,r6⟩:=ih (i+1) (ys.set i y) k' (by omega) (by rw[List.length_set];exact hl) (λ j hj=>by rw[List.getElem?_set_ne (by omega)];exact hd j (by omega)) (by omega) (by omega);have hy:ys'[i]?=some y:=by
    have e1:=congrArg (λ l=>l[i]?) r3;simp only[List.getElem?_take,if_pos (Nat.lt_succ_self i)] at e1;rw[e1,List.getElem?_set_self hlt]
   refine⟨ys',k2,by rw[wH h1];exact r1,r2,?_,by omega,by omega,by rw[wH (h4 ys' r2 hy)];exact r6⟩;apply List.ext_getElem?;intro j;rw[List.getElem?_take,List.getElem?_take];by_cases hj:j<i
   ·
    rw[if_pos hj,if_pos hj];have e1:=congrArg (λ l=>l[j]?) r3;simp only[List.getElem?_take,if_pos (show j<i+1 by omega)] at e1;rw[e1,List.getElem?_set_ne (by omega)]
   ·
    rw[if_neg hj,if_neg hj]
 obtain⟨ys',k',r1,r2,_,r4,r5,r6⟩:=key xs.length 0 xs k0 (by omega) rfl (λ _ _=>rfl) h0 hB;exact⟨ys',k',ji r1 (by omega),r2,r4,r5,ji r6 (by omega)⟩
theorem zaO{T:Type}{step:List α×Int×Int->Option ((List α×Int×Int)⊕T)}(fin:List α->Int->T)(xs:List α)(B:Nat)(C:Int)
  (h:∀ (ys:List α) (k:Int) (i:Nat) (hi:i<ys.length),ys.length=xs.length->ys[i]∈xs->0<=k->k<=C->∃ y k',step (ys,k,(i:Int))=some (.inl (ys.set i y,k',((i+1:Nat):Int)))/\k<=k'/\k'<=k+B)
  (hend:∀ (ys:List α) (k:Int),ys.length=xs.length->step (ys,k,(xs.length:Int))=some (.inr (fin ys k)))
  (hlen:xs.length<576460752303423488) {k0:Int} (h0:0<=k0) (hB:k0+B*xs.length<=C):
  ∃ ys k',zL step (xs,k0,0)=some (fin ys k')/\ys.length=xs.length/\k0<=k'/\k'<=k0+B*xs.length:=by
 have key:∀ m i (ys:List α) (k:Int),i+m=xs.length->ys.length=xs.length->(∀ j,i<=j->ys[j]?=xs[j]?)->0<=k->k+B*m<=C->
   ∃ ys' k',wQ step (m+1) (ys,k,(i:Int))=some (fin ys' k')/\ys'.length=xs.length/\k<=k'/\k'<=k+B*m:=by
  intro m
  induction m with
  |
   zero=>
   intro i ys k hi hl hd hk hB;have:i=xs.length:=by omega
   subst this;exact⟨ys,k,yD (hend ys k hl),hl,by omega,by omega⟩
  |
   succ m ih=>
   intro i ys k hi hl hd hk hB;have hlt:i<ys.length:=by omega
   have hlt2:i<xs.length:=by omega
   have hm:ys[i]∈xs:=by
    have h1:=hd i (Nat.le_refl _);rw[List.getElem?_eq_getElem hlt,List.getElem?_eq_getElem hlt2] at h1;injection h1 with h1;rw[h1];exact List.getElem_mem hlt2
   have hBm:(B:Int)*((m+1:Nat):Int)=B*m+B:=by
    rw[Int.natCast_add,Int.mul_add];simp
   have hBm0:(0:Int)<=B*m:=Int.mul_nonneg (by omega) (by omega);obtain⟨y,k',h1,h2,h3⟩:=h ys k i hlt hl hm hk (by omega);obtain⟨ys',k2,r1,r2,r4,r5⟩:=ih (i+1) (ys.set i y) k' (by omega) (by rw[List.length_set];exact hl) (λ j hj=>by rw[List.getElem?_set_ne (by omega)];exact hd j (by omega)) (by omega) (by omega);exact⟨ys',k2,by rw[wH h1];exact r1,r2,by omega,by omega⟩
 obtain⟨ys',k',r1,r2,r4,r5⟩:=key xs.length 0 xs k0 (by omega) rfl (λ _ _=>rfl) h0 hB;exact⟨ys',k',ji r1 (by omega),r2,r4,r5⟩
end
open Go.RowKit
section
variable{α:Type}
theorem szS_len{len:Nat}{l:Int}(hl:0<=l)(h2:l<=1048576)(hlen:len<=9223372036854775807){K:Int->Option Int}{t:Nat}(hK:∀ l',0<=l'->l'<=1048576->K l'=some (szR t l')):
  ((i64 (l - (len:Int))).bind λ v=>if cmpI .lss v (0:Int)=true then some (-1:Int) else K v)=some (szR (len+t) l):=by
 rw[Z7 (by omega) (by omega),obS];cases h:cmpI .lss (l - (len:Int)) 0 with
 |
  true=>
  have h':l - (len:Int)<0:=oD h;rw[if_pos rfl];unfold szR;rw[if_neg (by omega)]
 |
  false=>
  have h':¬ l - (len:Int)<0:=of_decide_eq_false h;rw[if_neg (by decide),hK _ (by omega) (by omega)]
  congr 1
  unfold szR;by_cases e:(t:Int)<=l - len
  ·
   rw[if_pos e,if_pos (by omega)];omega
  ·
   rw[if_neg e,if_neg (by omega)]
theorem szS_sub{t1 t:Nat}{l:Int}{m:Option Int}(hl:0<=l)(h2:l<=1048576)(hm:m=some (szR t1 l)){K:Int->Option Int}(hK:∀ l',0<=l'->l'<=1048576->K l'=some (szR t l')):
  (m.bind λ v=>if cmpI .lss v (0:Int)=true then some (-1:Int) else K v)=some (szR (t1+t) l):=by
 rw[hm,obS];cases h:cmpI .lss (szR t1 l) 0 with
 |
  true=>
  have h':szR t1 l<0:=oD h;rw[szR_neg] at h';rw[if_pos rfl];unfold szR;rw[if_neg (by omega)]
 |
  false=>
  have h':¬ szR t1 l<0:=of_decide_eq_false h;obtain⟨e1,e2⟩:=zaN (t:=t1) (left:=l) (by omega);rw[if_neg (by decide),hK _ (by omega) (by omega),e2]
  congr 1
  unfold szR;by_cases e:(t:Int)<=l - t1
  ·
   rw[if_pos e,if_pos (by omega)];omega
  ·
   rw[if_neg e,if_neg (by omega)]
theorem szS_end{l:Int}(h:0<=l):some l=some (szR 0 l):=by
 congr 1
 unfold szR;rw[if_pos (by omega)];simp
theorem szS_list{step:Int×Int->Option ((Int×Int)⊕(Int⊕Int))}{xs:List α}{f:α->Nat}{l:Int}(hlen:xs.length<=9223372036854775807)
  (h:∀ k (hk:k<xs.length) (l:Int),xs.length<=1048576->0<=l->l<=1048576->step (l,(k:Int))=some (if szR (f xs[k]) l<0 then .inr (.inr (-1)) else .inl (szR (f xs[k]) l,((k+1:Nat):Int))))
  (hend:∀ l,step (l,(xs.length:Int))=some (.inr (.inl l))) (hl:0<=l) (h2:l<=1048576):
  ((i64 (l - (xs.length:Int))).bind λ v=>if cmpI .lss v (0:Int)=true then some (-1:Int) else Option.bind (α:=Int⊕Int) (zL step (v,(0:Int))) (Sum.elim (λ b=>some b) some))=some (szR (xs.length+sumL f xs) l):=by
 rw[Z7 (by omega) (by omega),obS];cases hc:cmpI .lss (l - (xs.length:Int)) 0 with
 |
  true=>
  have h':l - (xs.length:Int)<0:=oD hc;rw[if_pos rfl];unfold szR;rw[if_neg (by omega)]
 |
  false=>
  have h':¬ l - (xs.length:Int)<0:=of_decide_eq_false hc;rw[if_neg (by decide),sz_loop xs f (λ k hk l h3 h4=>h k hk l (by omega) h3 h4) hend (by omega) (by omega) (by omega)]
  congr 1
  unfold szR;by_cases e:(sumL f xs:Int)<=l - xs.length
  ·
   rw[if_pos e,if_pos (by omega)];omega
  ·
   rw[if_neg e,if_neg (by omega)]
variable{q:Prop}[Decidable q]{K:Option Bool}
theorem WN{a b:Int}(hK:K=some (decide q)):(if cmpI .neq a b=true then some false else K)=some (decide (a=b/\q)):=by
 rw[hK];by_cases h:a=b
 ·
  simp[cmpI,h]
 ·
  simp[cmpI,h]
theorem zaf{a b:Str}(hK:K=some (decide q)):(if decide (a≠b)=true then some false else K)=some (decide (a=b/\q)):=by
 rw[hK];by_cases h:a=b
 ·
  simp[h]
 ·
  simp[h]
theorem eqS_bool{a b:Bool}(hK:K=some (decide q)):(if(a != b)=true then some false else K)=some (decide (a=b/\q)):=by
 rw[hK];by_cases h:a=b
 ·
  simp[h]
 ·
  simp[h]
theorem eqS_sub[DecidableEq α]{a b:α}{m:Option Bool}(hm:m=some (decide (a=b)))(hK:K=some (decide q)):(m.bind λ v=>if(!v)=true then some false else K)=some (decide (a=b/\q)):=by
 rw[hm,hK,obS];by_cases h:a=b
 ·
  simp[h]
 ·
  simp[h]
theorem zag:some true=some (decide True):=by simp
theorem Jy[DecidableEq α]{step:Int->Option (Int⊕(Unit⊕Bool))}{xs ys:List α}
  (h:∀ k (hk:k<xs.length) (hk2:k<ys.length),step (k:Int)=some (if xs[k]=ys[k] then .inl ((k+1:Nat):Int) else .inr (.inr false)))
  (hend:step (xs.length:Int)=some (.inr (.inl ()))) (hlen:xs.length<576460752303423488):
  (if cmpI .neq (xs.length:Int) (ys.length:Int)=true then some false else Option.bind (α:=Unit⊕Bool) (zL step 0) (Sum.elim (λ _=>some true) some))=some (decide (xs=ys)):=by
 rw[neq_len];by_cases e:xs.length=ys.length
 ·
  rw[if_neg (by simp[e]),eq_loop xs ys e h hend hlen]
 ·
  rw[if_pos (by simp[e])];have:xs≠ys:=λ h=>e (by rw[h])
  simp[this]
end
theorem i64_in{n:Int}(h1:0<=n)(h2:n<=4611686018427387904):i64 n=some n:=Z7 (by omega) (by omega)
theorem modO_of{m n:Int}(h:n≠0):modO m n=some (m.tmod n):=if_neg h
theorem divO_of{m n:Int}(h:n≠0)(h2:0<=m.tdiv n)(h3:m.tdiv n<=9223372036854775807):divO m n=some (m.tdiv n):=if_neg (by omega)
theorem Z8{α:Type}{xs:List α}{k:Nat}(hk:k<xs.length):cmpI .lss (k:Int) (xs.length:Int)=true:=by rw[zK];exact decide_eq_true hk
theorem YV{α:Type}{xs:List α}:cmpI .lss (xs.length:Int) (xs.length:Int)=false:=by rw[zK];simp
theorem lss_at'{α:Type}{xs:List α}{n k:Nat}(h:xs.length=n)(hk:k<n):cmpI .lss (k:Int) (xs.length:Int)=true:=by rw[zK];exact decide_eq_true (by omega)
theorem XF{α:Type}{xs:List α}{n:Nat}(h:xs.length=n):cmpI .lss (n:Int) (xs.length:Int)=false:=by rw[zK,h];simp
theorem qD{α:Type}{xs:List α}{k:Nat}(hk:k<xs.length):atI xs (k:Int)=some xs[k]:=by rw[zJ,List.getElem?_eq_getElem hk]
theorem Yf(k:Nat):(k:Int).toNat=k:=rfl
open Go.RowKit
def txt(k:Int):Str:=(yu k).getD ⟨[]⟩
theorem Jz(n:Int):cmpI .neq n n=false:=by simp[cmpI]
theorem markText_ex{k:Int}(h1:0<=k)(h2:k<=4611686018427387904):∃ s,yu k=some s:=by
 unfold yu;by_cases hk:k<=0
 ·
  rw[if_pos (by simp[cmpI,hk])];exact⟨_,rfl⟩
 ·
  rw[if_neg (by simp[cmpI];omega)];have key:∀ (m:Nat) (n:Int) (s:Str),0<=n->n<10 ^ m->n<=4611686018427387904->m<=20->(s.l.length:Int)<=40 - m->∃ o,wQ (λ s8=>xd s8) (m+1) (n,s)=some o/\o.l.length<=40:=by
   intro m
   induction m with
   |
    zero=>
    intro n s h1 h2 _ _ h4;have hn:n=0:=by simp at h2;omega
    subst hn;refine⟨s,yD ?_,by omega⟩;unfold xd;rfl
   |
    succ m ih=>
    intro n s h1 h2 hb h3 h4;have h5:n.tdiv 10=n / 10:=Int.tdiv_eq_ediv_of_nonneg h1;have h6:n.tmod 10=n % 10:=Int.tmod_eq_emod_of_nonneg h1;by_cases hn:n<=0
    ·
     refine⟨s,yD ?_,by omega⟩;unfold xd;rw[if_neg (by simp[cmpI];omega)]
    ·
     have hs:xd (n,s)=some (.inl (n / 10,⟨[toB (48+n % 10)]++s.l⟩)):=by
      unfold xd;simp only;rw[if_pos (by simp[cmpI];omega),modO_of (by decide),obS,h6,Z7 (by omega) (by omega),obS,WM (by simp;omega),obS,divO_of (by decide) (by omega) (by omega),h5];rfl
     rw[wH hs];refine ih (n / 10) _ (by omega) ?_ (by omega) (by omega) (by simp;omega);have:(10:Int) ^ (m+1)=10*10 ^ m:=by rw[Int.pow_succ];omega
     omega
  have e:(10:Int) ^ 19=10000000000000000000:=by decide
  obtain⟨o,ho,hl⟩:=key 19 k ⟨[]⟩ h1 (by omega) h2 (by omega) (by simp);rw[ji ho (by decide),obS,WM (by simp;omega)];exact⟨_,rfl⟩
theorem qE{k:Int}(h1:0<=k)(h2:k<=4611686018427387904):yu k=some (txt k):=by
 obtain⟨s,hs⟩:=markText_ex h1 h2;rw[txt,hs];rfl
def WO(x:Stmt):Nat:=x.module.l.length+(x.name.l.length+(0))
theorem szStmt_eq{x:Stmt}{l:Int}(h0:Okd x)(hl:0<=l)(h2:l<=1048576):ZN x l=some (szR (WO x) l):=by
 unfold ZN WO;exact szS_len hl h2 ((h0.fld Stmt.fld1)).str (λ v1 l1 u1=>szS_len l1 u1 ((h0.fld Stmt.fld3)).str (λ v2 l2 u2=>szS_end l2))
def ZU(xs:List Stmt):Nat:=xs.length+sumL WO xs
theorem JA{x:List Stmt}{n:Nat}(h:ZU x<=n):x.length<=n:=by unfold ZU at h;omega
theorem szStmtS_eq{x:List Stmt}{l:Int}(h0:Okd x)(hl:0<=l)(h2:l<=1048576):Zl x l=some (szR (ZU x) l):=by
 unfold Zl ZU;refine szS_list h0.len (λ k hk l hn h3 h4=>?_) (λ l=>?_) hl h2
 ·
  unfold j7;simp only[Z8 hk,if_true,qD hk,obS,szStmt_eq (h0.mem (List.getElem_mem hk)) h3 h4];by_cases e:szR (WO x[k]) l<0
  ·
   rw[if_pos (by simp[cmpI,e]),if_pos e]
  ·
   rw[if_neg (by simp[cmpI];omega),if_neg e,zH (by omega)];rfl
 ·
  unfold j7;rw[YV];rfl
def qN(x:File):Nat:=x.pkg.l.length+(x.name.l.length+(ZU x.body+(0)))
theorem szFile_eq{x:File}{l:Int}(h0:Okd x)(hl:0<=l)(h2:l<=1048576):ZO x l=some (szR (qN x) l):=by
 unfold ZO qN;exact szS_len hl h2 ((h0.fld File.fld1)).str (λ v1 l1 u1=>szS_len l1 u1 ((h0.fld File.fld2)).str (λ v2 l2 u2=>szS_sub l2 u2 (szStmtS_eq (h0.fld File.fld5) l2 u2) (λ v3 l3 u3=>szS_end l3)))
def Zs(xs:List File):Nat:=xs.length+sumL qN xs
theorem szFileS_eq{x:List File}{l:Int}(h0:Okd x)(hl:0<=l)(h2:l<=1048576):Zm x l=some (szR (Zs x) l):=by
 unfold Zm Zs;refine szS_list h0.len (λ k hk l hn h3 h4=>?_) (λ l=>?_) hl h2
 ·
  unfold j8;simp only[Z8 hk,if_true,qD hk,obS,szFile_eq (h0.mem (List.getElem_mem hk)) h3 h4];by_cases e:szR (qN x[k]) l<0
  ·
   rw[if_pos (by simp[cmpI,e]),if_pos e]
  ·
   rw[if_neg (by simp[cmpI];omega),if_neg e,zH (by omega)];rfl
 ·
  unfold j8;rw[YV];rfl
def xx(x:Tree):Nat:=Zs x.files+(0)
theorem JM{x:Tree}{l:Int}(h0:Okd x)(hl:0<=l)(h2:l<=1048576):jq x l=some (szR (xx x) l):=by
 unfold jq xx;exact szS_sub hl h2 (szFileS_eq (h0.fld Tree.fld0) hl h2) (λ v1 l1 u1=>szS_end l1)
theorem eqStmt_eq{x y:Stmt}:ZR x y=some (decide (x=y)):=by
 have e:(x=y)=(x.kind=y.kind/\x.module=y.module/\x.level=y.level/\x.name=y.name/\x.value=y.value/\True):=by cases x;cases y;simp
 unfold ZR;simp only[e];exact WN (zaf (WN (zaf (WN (zag)))))
theorem eqStmtS_eq{x y:List Stmt}(h:x.length<=288230376151711744):Zp x y=some (decide (x=y)):=by
 unfold Zp;refine Jy (λ k hk hk2=>?_) ?_ (by omega)
 ·
  unfold j9;simp only[Z8 hk,if_true,qD hk,qD hk2,obS,eqStmt_eq,zH (show k<4611686018427387904 by omega)];by_cases e:x[k]=y[k] <;> simp[e]
 ·
  unfold j9;rw[YV];rfl
theorem eqFile_eq{x y:File}(h:qN x<=288230376151711744):ZS x y=some (decide (x=y)):=by
 have e:(x=y)=(x.root=y.root/\x.pkg=y.pkg/\x.name=y.name/\x.init=y.init/\x.stamp=y.stamp/\x.body=y.body/\True):=by cases x;cases y;simp
 unfold qN at h;unfold ZS;simp only[e];exact WN (zaf (zaf (eqS_bool (WN (eqS_sub (eqStmtS_eq (JA (by omega))) (zag))))))
theorem eqFileS_eq{x y:List File}(h:Zs x<=288230376151711744):Zq x y=some (decide (x=y)):=by
 unfold Zs at h;unfold Zq;refine Jy (λ k hk hk2=>?_) ?_ (by omega)
 ·
  unfold qa;simp only[Z8 hk,if_true,qD hk,qD hk2,obS,eqFile_eq (x:=x[k]) (y:=y[k]) (by have:=Ws (f:=qN) (List.getElem_mem hk);omega),zH (show k<4611686018427387904 by omega)];by_cases e:x[k]=y[k] <;> simp[e]
 ·
  unfold qa;rw[YV];rfl
theorem JN{x y:Tree}(h:xx x<=288230376151711744):xf x y=some (decide (x=y)):=by
 have e:(x=y)=(x.files=y.files/\True):=by cases x;cases y;simp
 unfold xx at h;unfold xf;simp only[e];exact eqS_sub (eqFileS_eq (by omega)) (zag)
theorem eqValue_eq{x y:GVal}:Zr x y=some (decide (x=y)):=by
 have e:(x=y)=(x.kind=y.kind/\x.num=y.num/\True):=by cases x;cases y;simp
 unfold Zr;simp only[e];exact WN (WN (zag))
theorem eqAttr_eq{x y:GAttr}:ZT x y=some (decide (x=y)):=by
 have e:(x=y)=(x.name=y.name/\x.value=y.value/\True):=by cases x;cases y;simp
 unfold ZT;simp only[e];exact zaf (eqS_sub (eqValue_eq) (zag))
theorem zbI{x y:List GAttr}(h:x.length<=288230376151711744):wg x y=some (decide (x=y)):=by
 unfold wg;refine Jy (λ k hk hk2=>?_) ?_ (by omega)
 ·
  unfold qb;simp only[Z8 hk,if_true,qD hk,qD hk2,obS,eqAttr_eq,zH (show k<4611686018427387904 by omega)];by_cases e:x[k]=y[k] <;> simp[e]
 ·
  unfold qb;rw[YV];rfl
def JO(xs:List Int):Nat:=xs.length
theorem JP{x y:List Int}(h:x.length<=288230376151711744):xg x y=some (decide (x=y)):=by
 unfold xg;refine Jy (λ k hk hk2=>?_) ?_ (by omega)
 ·
  unfold qA;simp only[Z8 hk,if_true,qD hk,qD hk2,obS,zH (show k<4611686018427387904 by omega)];by_cases e:x[k]=y[k] <;> simp[e,cmpI]
 ·
  unfold qA;rw[YV];rfl
theorem Yx{x y:List Str}(h:x.length<=288230376151711744):zV x y=some (decide (x=y)):=by
 unfold zV;refine Jy (λ k hk hk2=>?_) ?_ (by omega)
 ·
  unfold jh;simp only[Z8 hk,if_true,qD hk,qD hk2,obS,zH (show k<4611686018427387904 by omega)];by_cases e:x[k]=y[k] <;> simp[e]
 ·
  unfold jh;rw[YV];rfl
theorem toStmt_eq{x:Stmt}:ZP x=some x:=by
 unfold ZP;cases x;rfl
theorem toStmtS_eq{x:List Stmt}(h:ZU x<=1048576):Zn x=some x:=by
 unfold ZU at h;unfold Zn;rw[makeO_of (by omega) (by omega) (by omega),obS];have hl:zL (λ s=>wU x s) (List.replicate x.length zStmt,0)=some x:=by
  refine zaM x zStmt (λ k hk=>?_) (λ ys=>?_) (by omega) rfl
  ·
   unfold wU;simp only[Z8 hk,if_true,qD hk,obS,toStmt_eq,zJ,at_at hk,zab (len_at hk),zH (show k<4611686018427387904 by omega)]
  ·
   unfold wU;rw[YV];rfl
 rw[hl];rfl
theorem toFile_eq{x:File}(h:qN x<=1048576):ZQ x=some x:=by
 unfold qN at h;unfold ZQ;rw[toStmtS_eq (x:=x.body) (by omega),obS]
theorem toFileS_eq{x:List File}(h:Zs x<=1048576):Zo x=some x:=by
 unfold Zs at h;unfold Zo;rw[makeO_of (by omega) (by omega) (by omega),obS];have hl:zL (λ s=>wV x s) (List.replicate x.length zFile,0)=some x:=by
  refine zaM x zFile (λ k hk=>?_) (λ ys=>?_) (by omega) rfl
  ·
   unfold wV;simp only[Z8 hk,if_true,qD hk,obS,toFile_eq (x:=x[k]) (by have:=Ws (f:=qN) (List.getElem_mem hk);omega),zJ,at_at hk,zH (show k<4611686018427387904 by omega),Yf]
  ·
   unfold wV;rw[YV];rfl
 rw[hl];rfl
theorem JQ{x:Tree}(h:xx x<=1048576):yb x=some x:=by
 unfold xx at h;unfold yb;rw[toFileS_eq (x:=x.files) (by omega),obS]
theorem JR{x:List Int}(h:JO x<=1048576):zR x=some x:=by
 unfold JO at h;unfold zR;rw[makeO_of (by omega) (by omega) (by omega),obS];have hl:zL (λ s=>jA x s) (List.replicate x.length zInt,0)=some x:=by
  refine zaM x zInt (λ k hk=>?_) (λ ys=>?_) (by omega) rfl
  ·
   unfold jA;simp only[Z8 hk,if_true,qD hk,obS,zJ,at_at hk,zab (len_at hk),zH (show k<4611686018427387904 by omega)]
  ·
   unfold jA;rw[YV];rfl
 rw[hl];rfl
theorem markStmtS_ok{x:List Stmt}{k:Int}(h:x.length<=1125899906842624)(h0:0<=k)(hB:k<=1152921504606846976):∃ y k',qB x k=some (y,k')/\k<=k'/\k'<=k+5*(x.length:Int):=by
 have hl:=zaO (step:=λ s=>wq s) (λ ys k=>(ys,k)) x 5 1170935903116328960 (λ ys k i hi hn hm h1 h2=>?_) (λ ys k hn=>?_) (by omega) h0 (by omega)
 ·
  obtain⟨ys,k',r1,r2,r3,r4⟩:=hl;refine⟨ys,k',?_,r3,by omega⟩
  ·
   unfold qB;rw[r1];rfl
 ·
  unfold wq;refine⟨_,_,by simp only[Z8 hi,if_true,qD hi,obS,Yf,i64_in (n:=k+1) (by omega) (by omega),qE (k:=k+1) (by omega) (by omega),i64_in (n:=k+1+1) (by omega) (by omega),i64_in (n:=k+1+1+1) (by omega) (by omega),qE (k:=k+1+1+1) (by omega) (by omega),i64_in (n:=k+1+1+1+1) (by omega) (by omega),i64_in (n:=k+1+1+1+1+1) (by omega) (by omega),zH (show i<4611686018427387904 by omega)];rfl,by omega,by omega⟩
 ·
  unfold wq;simp only[XF hn];rfl
theorem markFileS_ok{x:List File}{k:Int}(h:Zs x<=1048576)(h0:0<=k)(hB:k<=576460752303423488):∃ y k',qC x k=some (y,k')/\k<=k'/\k'<=k+5497563381760:=by
 unfold Zs at h;have hl:=zaO (step:=λ s=>wr s) (λ ys k=>(ys,k)) x 5242885 594475150812905472 (λ ys k i hi hn hm h1 h2=>?_) (λ ys k hn=>?_) (by omega) h0 (by omega)
 ·
  obtain⟨ys,k',r1,r2,r3,r4⟩:=hl;refine⟨ys,k',?_,r3,by omega⟩
  ·
   unfold qC;rw[r1];rfl
 ·
  unfold wr;have hm5:=Ws (f:=qN) hm;have hu5:qN ys[i]=ys[i].pkg.l.length+(ys[i].name.l.length+(ZU ys[i].body+(0))):=rfl;have hl5:ys[i].body.length<=1048576:=JA (by omega);obtain⟨y5,k5,e5,a5,b5⟩:=markStmtS_ok (x:=ys[i].body) (k:=k+1+1+1+1+1) (JA (n:=1125899906842624) (by omega)) (by omega) (by omega);refine⟨_,_,by simp only[Z8 hi,if_true,qD hi,obS,Yf,i64_in (n:=k+1) (by omega) (by omega),qE (k:=k+1) (by omega) (by omega),i64_in (n:=k+1+1) (by omega) (by omega),qE (k:=k+1+1) (by omega) (by omega),i64_in (n:=k+1+1+1) (by omega) (by omega),modO_of (m:=k+1+1+1) (n:=3) (by decide),i64_in (n:=k+1+1+1+1) (by omega) (by omega),i64_in (n:=k+1+1+1+1+1) (by omega) (by omega),e5,zH (show i<4611686018427387904 by omega)];rfl,by omega,by omega⟩
 ·
  unfold wr;simp only[XF hn];rfl
theorem XY{x:Tree}{k:Int}(h:xx x<=1048576)(h0:0<=k)(hB:k<=576425567931334656):∃ y k',ww x k=some (y,k')/\k<=k'/\k'<=k+5497563381760:=by
 unfold xx at h;unfold ww;obtain⟨y0,k0,e0,a0,b0⟩:=markFileS_ok (x:=x.files) (k:=k) (by omega) (by omega) (by omega);exact⟨_,k0,by simp only[e0,obS];rfl,by omega,by omega⟩
theorem markAttrS_ok{x:List GAttr}{k:Int}(h:x.length<=1125899906842624)(h0:0<=k)(hB:k<=1152921504606846976):∃ y k',jB x k=some (y,k')/\k<=k'/\k'<=k+3*(x.length:Int)/\xT y k=some k':=by
 have hl:=mark_loop (held:=λ y s=>wt y s) (step:=λ s=>ws s) (λ ys k=>(ys,k)) x 3 1170935903116328960 (λ ys k i hi hn hm h1 h2=>?_) (λ ys k hn=>?_) (λ ys k hn=>?_) (by omega) h0 (by omega)
 ·
  obtain⟨ys,k',r1,r2,r3,r4,r5⟩:=hl;refine⟨ys,k',?_,r3,by omega,?_⟩
  ·
   unfold jB;rw[r1];rfl
  ·
   unfold xT;rw[r5];rfl
 ·
  unfold ws;refine⟨_,_,by simp only[Z8 hi,if_true,qD hi,obS,Yf,qE (k:=k) (by omega) (by omega),i64_in (n:=k+1) (by omega) (by omega),i64_in (n:=k+1+1) (by omega) (by omega),i64_in (n:=k+1+1+1) (by omega) (by omega),zH (show i<4611686018427387904 by omega)];rfl,by omega,by omega,λ zs hz hzi=>?_⟩;unfold wt;simp only[lss_at' hz (show i<x.length by omega),if_true,zJ,hzi,obS,Jz,ne_eq,if_false,Bool.false_eq_true,decide_not,qE (k:=k) (by omega) (by omega),i64_in (n:=k+1) (by omega) (by omega),i64_in (n:=k+1+1) (by omega) (by omega),i64_in (n:=k+1+1+1) (by omega) (by omega),zH (show i<4611686018427387904 by omega)]
  first | done | rfl | simp
 ·
  unfold ws;simp only[XF hn];rfl
 ·
  unfold wt;simp only[XF hn];rfl
theorem XZ{x:List Int}{k:Int}(h:x.length<=1125899906842624)(h0:0<=k)(hB:k<=1152921504606846976):∃ y k',wx x k=some (y,k')/\k<=k'/\k'<=k+1*(x.length:Int):=by
 have hl:=zaO (step:=λ s=>wF s) (λ ys k=>(ys,k)) x 1 1170935903116328960 (λ ys k i hi hn hm h1 h2=>?_) (λ ys k hn=>?_) (by omega) h0 (by omega)
 ·
  obtain⟨ys,k',r1,r2,r3,r4⟩:=hl;refine⟨ys,k',?_,r3,by omega⟩
  ·
   unfold wx;rw[r1];rfl
 ·
  unfold wF;refine⟨_,_,by simp only[Z8 hi,if_true,qD hi,obS,Yf,i64_in (n:=k+1) (by omega) (by omega),zH (show i<4611686018427387904 by omega)];rfl,by omega,by omega⟩
 ·
  unfold wF;simp only[XF hn];rfl
theorem JB{x:List Str}{k:Int}(h:x.length<=1125899906842624)(h0:0<=k)(hB:k<=1152921504606846976):∃ y k',yR x k=some (y,k')/\k<=k'/\k'<=k+1*(x.length:Int)/\zZ y k=some k':=by
 have hl:=mark_loop (held:=λ y s=>xC y s) (step:=λ s=>xB s) (λ ys k=>(ys,k)) x 1 1170935903116328960 (λ ys k i hi hn hm h1 h2=>?_) (λ ys k hn=>?_) (λ ys k hn=>?_) (by omega) h0 (by omega)
 ·
  obtain⟨ys,k',r1,r2,r3,r4,r5⟩:=hl;refine⟨ys,k',?_,r3,by omega,?_⟩
  ·
   unfold yR;rw[r1];rfl
  ·
   unfold zZ;rw[r5];rfl
 ·
  unfold xB;refine⟨_,_,by simp only[Z8 hi,if_true,qD hi,obS,Yf,qE (k:=k) (by omega) (by omega),i64_in (n:=k+1) (by omega) (by omega),zH (show i<4611686018427387904 by omega)];rfl,by omega,by omega,λ zs hz hzi=>?_⟩;unfold xC;simp only[lss_at' hz (show i<x.length by omega),if_true,zJ,hzi,obS,ne_eq,decide_not,qE (k:=k) (by omega) (by omega),i64_in (n:=k+1) (by omega) (by omega),zH (show i<4611686018427387904 by omega)]
  first | done | rfl | simp
 ·
  unfold xB;simp only[XF hn];rfl
 ·
  unfold xC;simp only[XF hn];rfl
end Go.Proofs.YtiiiokblnnlapaaGreatDoor
