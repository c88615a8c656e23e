import Derived.Test.YtobplpdjkfbfoaaGreatDoorRFb
import Derived.Test.YtobplpdjkfbfoaaGreatDoorRB
import Derived.Test.YtobplpdjkfbfoaaGreatDoorRG
import Derived.Test.YtobplpdjkfbfoaaGreatDoorRKb
namespace Go.Proofs.YtobplpdjkfbfoaaGreatDoor
section
variable{α β σ S:Type}
theorem zR(xs:List α)(k:Nat):atI xs (k:Int)=xs[k]?:=by simp[atI]
theorem Xp{n:Int}(h1:-9223372036854775808<=n)(h2:n<=9223372036854775807):i64 n=some n:=if_pos ⟨h1,h2⟩
theorem zF{k:Nat}(h:k<4611686018427387904):i64 ((k:Int)+1)=some ((k+1:Nat):Int):=by rw[Xp (by omega) (by omega)];rfl
theorem xD[Inhabited α](g:Bool)(x:α):gO g (some x)=some (if g=true then x else default):=by unfold gO;split <;> rfl
theorem gO_true[Inhabited α](e:Option α):gO true e=e:=rfl
theorem zC(k n:Nat):cmpI .lss (k:Int) (n:Int)=decide (k<n):=by simp[cmpI]
theorem wv{b:Nat}{xs ys:List α}(h:(xs.length+ys.length)*b<=140737488355328)(h2:xs.length+ys.length<=9223372036854775807):appO b xs ys=some (xs++ys):=if_pos ⟨h,h2⟩
theorem zan{s:Str}{k:Nat}(h:k<=s.l.length):cutHO s (k:Int)=some ⟨s.l.take k⟩:=by unfold cutHO;rw[if_pos ⟨by omega,by omega⟩];rfl
theorem cutLO_nat{s:Str}{k:Nat}(h:k<=s.l.length):cutLO s (k:Int)=some ⟨s.l.drop k⟩:=by unfold cutLO;rw[if_pos ⟨by omega,by omega⟩];rfl
theorem zao{xs:List α}{k:Nat}(h:k<=xs.length):JD xs (k:Int)=some (xs.take k):=by unfold JD;rw[if_pos ⟨by omega,by omega⟩];rfl
theorem QO{xs:List α}{k:Nat}{y:α}(h:k<xs.length):setO xs (k:Int) y=some (xs.set k y):=by unfold setO;rw[if_pos ⟨by omega,by omega⟩];rfl
theorem Wo{m n:Str}(h:m.l.length+n.l.length<=9223372036854775807):catO m n=some ⟨m.l++n.l⟩:=if_pos h
theorem wc{step:S->Option (S⊕β)}{s s':S}{n:Nat}(h:step s=some (.inl s')):wi step (n+1) s=wi step n s':=by rw[wi,h]
theorem yf{step:S->Option (S⊕β)}{s:S}{b:β}{n:Nat}(h:step s=some (.inr b)):wi step (n+1) s=some b:=by rw[wi,h]
theorem iterM_mono{step:S->Option (S⊕β)}{r:β}:∀ (m j:Nat) (s:S),wi step m s=some r->wi step (m+j) s=some r:=by
 intro m
 induction m with
 | zero=>intro j s h;simp[wi] at h
 |
  succ m ih=>
  intro j s h;rw[show m+1+j=(m+j)+1 by omega];unfold wi at h ⊢;split at h
  ·
   cases h
  ·
   exact ih j _ h
  ·
   exact h
theorem wm{step:S->Option (S⊕β)}{r:β}{m:Nat}{s:S}(h:wi step m s=some r)(hm:m<=1152921504606846976):zB step s=some r:=by
 unfold zB;have:=iterM_mono m (1152921504606846976 - m) s h;rwa[show m+(1152921504606846976 - m)=1152921504606846976 by omega] at this
def runL(R:Nat->σ->α->σ⊕β)(fin:σ->β):Nat->σ->List α->β
 | _,s,[]=>fin s
 |
  k,s,x::xs=>match R k s x with
  | .inl s'=>runL R fin (k+1) s' xs
  | .inr b=>b
theorem QP{step:S->Option (S⊕β)}(xs:List α)(mk:σ->Nat->S)(R:Nat->σ->α->σ⊕β)(fin:σ->β)(Inv:Nat->σ->Prop)
  (h:∀ k s x,xs[k]?=some x->k<xs.length->Inv k s->match R k s x with
   | .inl s'=>step (mk s k)=some (.inl (mk s' (k+1)))/\Inv (k+1) s'
   | .inr b=>step (mk s k)=some (.inr b))
  (hend:∀ s,Inv xs.length s->step (mk s xs.length)=some (.inr (fin s))) {s0:σ} (h0:Inv 0 s0) (hlen:xs.length<576460752303423488):zB step (mk s0 0)=some (runL R fin 0 s0 xs):=by
 have key:∀ m k s,k+m=xs.length->Inv k s->wi step (m+1) (mk s k)=some (runL R fin k s (xs.drop k)):=by
  intro m
  induction m with
  |
   zero=>
   intro k s hk hi;have:k=xs.length:=by omega
   subst this;rw[List.drop_length,runL,wi,hend s hi]
  |
   succ m ih=>
   intro k s hk hi;have hlt:k<xs.length:=by omega
   have hx:xs[k]?=some xs[k]:=List.getElem?_eq_getElem hlt;rw[List.drop_eq_getElem_cons hlt,runL,wi];have hr:=h k s xs[k] hx hlt hi;cases e:R k s xs[k] with
   |
    inl s'=>
    rw[e] at hr;simp only at hr;rw[hr.1];exact ih (k+1) s' (by omega) hr.2
   |
    inr b=>
    rw[e] at hr;simp only at hr;rw[hr]
 exact wm (key xs.length 0 s0 (by omega) h0) (by omega)
theorem loop_find{step:Int->Option (Int⊕β)}(xs:List α)(R:Nat->α->Option β)(e:β)
  (h:∀ k x,xs[k]?=some x->k<xs.length->step (k:Int)=some (match R k x with | none=>.inl ((k+1:Nat):Int) | some b=>.inr b))
  (hend:step (xs.length:Int)=some (.inr e)) (hlen:xs.length<576460752303423488) {s:Int} (hs:s=0):
  zB step s=some (runL (λ k (_:Unit) x=>match R k x with | none=>.inl () | some b=>.inr b) (λ _=>e) 0 () xs):=by
 subst hs;refine QP (σ:=Unit) xs (λ _ k=>(k:Int)) _ _ (λ _ _=>True) (λ k s x hx hlt _=>?_) (λ _ _=>hend) trivial hlen;have:=h k x hx hlt;cases hR:R k x with
 | none=>rw[hR] at this;exact⟨this,trivial⟩
 | some b=>rw[hR] at this;exact this
theorem runL_any(p:α->Bool)(b e:β):∀ (k:Nat) (xs:List α),runL (λ _ (_:Unit) x=>match (if p x=true then some b else none) with | none=>.inl () | some b=>.inr b) (λ _=>e) k () xs=if xs.any p=true then b else e
 | _,[]=>rfl
 |
  k,x::xs=>by
  cases h:p x with
  | true=>simp[runL,h]
  | false=>simp only[runL,h];rw[List.any_cons,h,Bool.false_or];exact runL_any p b e (k+1) xs
theorem YB{step:Int->Option (Int⊕β)}(xs:List α)(p:α->Bool)(b e:β)
  (h:∀ k x,xs[k]?=some x->k<xs.length->step (k:Int)=some (if p x=true then .inr b else .inl ((k+1:Nat):Int)))
  (hend:step (xs.length:Int)=some (.inr e)) (hlen:xs.length<576460752303423488) {s:Int} (hs:s=0):
  zB step s=some (if xs.any p=true then b else e):=by
 rw[loop_find xs (λ _ x=>if p x=true then some b else none) e (λ k x hx hlt=>?_) hend hlen hs,runL_any];rw[h k x hx hlt];cases p x <;> rfl
theorem runL_idx(p:α->Bool)(f:Int->β)(e:β):∀ (k:Nat) (xs:List α),runL (λ k (_:Unit) x=>match (if p x=true then some (f k) else none) with | none=>.inl () | some b=>.inr b) (λ _=>e) k () xs=(match xs.findIdx? p with | some i=>f ((k+i:Nat):Int) | none=>e)
 | _,[]=>rfl
 |
  k,x::xs=>by
  cases h:p x with
  | true=>simp[runL,h,List.findIdx?_cons]
  |
   false=>
   simp only[runL,h,List.findIdx?_cons,Bool.false_eq_true,if_false];rw[runL_idx p f e (k+1) xs];cases xs.findIdx? p with
   | none=>rfl
   | some i=>simp only[Option.map_some];congr 1;omega
theorem QQ{step:Int->Option (Int⊕β)}(xs:List α)(p:α->Bool)(f:Int->β)(e:β)
  (h:∀ k x,xs[k]?=some x->k<xs.length->step (k:Int)=some (if p x=true then .inr (f k) else .inl ((k+1:Nat):Int)))
  (hend:step (xs.length:Int)=some (.inr e)) (hlen:xs.length<576460752303423488) {s:Int} (hs:s=0):
  zB step s=some (match xs.findIdx? p with | some i=>f (i:Int) | none=>e):=by
 rw[loop_find xs (λ k x=>if p x=true then some (f k) else none) e (λ k x hx hlt=>?_) hend hlen hs,runL_idx]
 ·
  cases xs.findIdx? p <;> simp
 ·
  rw[h k x hx hlt];cases p x <;> rfl
theorem runL_fold(g:σ->α->σ)(fin:σ->β):∀ (k:Nat) (s:σ) (xs:List α),runL (λ _ s x=>(.inl (g s x):σ⊕β)) fin k s xs=fin (xs.foldl g s)
 | _,_,[]=>rfl
 | k,s,x::xs=>runL_fold g fin (k+1) (g s x) xs
theorem loop_fold{step:S->Option (S⊕β)}(xs:List α)(mk:σ->Nat->S)(g:σ->α->σ)(fin:σ->β)(Inv:Nat->σ->Prop)
  (h:∀ k s x,xs[k]?=some x->k<xs.length->Inv k s->step (mk s k)=some (.inl (mk (g s x) (k+1)))/\Inv (k+1) (g s x))
  (hend:∀ s,Inv xs.length s->step (mk s xs.length)=some (.inr (fin s))) {s0:σ} (h0:Inv 0 s0) (hlen:xs.length<576460752303423488):zB step (mk s0 0)=some (fin (xs.foldl g s0)):=by
 rw[QP xs mk (λ _ s x=>.inl (g s x)) fin Inv h hend h0 hlen,runL_fold]
end
theorem YV{s:Str}(hs:mid s):yv s=some (zJ s):=by
 unfold mid at hs;have hl:zB (λ s4=>xH s s4) 0=some (if s.l.any (λ b=>!low b)=true then .inr false else .inl ()):=by
  refine YB s.l _ _ _ (λ k x hx hlt=>?_) ?_ (by omega) rfl
  ·
   unfold xH;rw[zC,if_pos (decide_eq_true hlt),zR,hx,obS,xD,obS,zF (by omega)];unfold low;generalize cmpB .lss x (UInt8.ofNat 97)=c1;cases c1 with
   | true=>rfl
   |
    false=>
    rw[if_pos (show(false == false)=true from rfl)];generalize cmpB .gtr x (UInt8.ofNat 122)=c2;cases c2 <;> rfl
  ·
   unfold xH;rw[zC,if_neg (by simp)]
 unfold yv;rw[hl,obS];unfold zJ;cases h:s.l.any (λ b=>!low b) with
 |
  true=>
  have:s.l.all low=false:=by
   rw[Bool.eq_false_iff];intro h2;rw[List.any_eq_true] at h;obtain⟨b,hb,hb2⟩:=h;rw[List.all_eq_true.1 h2 b hb] at hb2;cases hb2
  simp[this]
 |
  false=>
  have:s.l.all low=true:=by
   rw[List.all_eq_true];intro b hb;have:=List.any_eq_false.1 h b hb;simpa using this
  simp only[Bool.false_eq_true,if_false,Sum.elim_inl,yu,obS,this,Bool.and_true,inR];simp[cmpI]
def cutF(c:UInt8):List UInt8->List (List UInt8)
 | []=>[[]]
 |
  b::l=>if b == c then[]::cutF c l else match cutF c l with
  | h::t=>(b::h)::t
  | []=>[[b]]
theorem Z5(c b:UInt8)(l:List UInt8):cutF c (b::l)=if b == c then[]::cutF c l else match cutF c l with
  | h::t=>(b::h)::t
  | []=>[[b]]:=rfl
theorem Zv(c:UInt8):∀ l,cutF c l≠[]
 | []=>by simp[cutF]
 |
  b::l=>by
  unfold cutF;split
  ·
   simp
  ·
   split <;> simp
theorem W8(c:UInt8):∀ l,(cutF c l).length=l.count c+1
 | []=>by simp[cutF]
 |
  b::l=>by
  unfold cutF;cases h:b == c with
  |
   true=>
   simp only[if_true,List.length_cons,W8 c l];rw[List.count_cons,h];simp
  |
   false=>
   simp only[Bool.false_eq_true,if_false];rw[List.count_cons,h];simp only[Bool.false_eq_true,if_false,Nat.add_zero];rw[← W8 c l];cases hc:cutF c l with
   | nil=>exact absurd hc (Zv c l)
   | cons h t=>rfl
theorem JI(c:UInt8):∀ (l:List UInt8) (st:List Str×Str),(let r:=l.foldl (jm c) st;r.1++[r.2])=st.1++(match cutF c l with | h::t=>(⟨st.2.l++h⟩:Str)::t.map Str.mk | []=>[])
 | [],st=>by simp[cutF]
 |
  b::l,st=>by
  rw[List.foldl_cons];have ih:=JI c l (jm c st b);simp only at ih ⊢;rw[ih];unfold jm;rw[Z5];cases h:b == c with
  |
   true=>
   simp only[if_true,List.append_assoc];cases hc:cutF c l with
   | nil=>exact absurd hc (Zv c l)
   | cons h t=>simp
  |
   false=>
   simp only[Bool.false_eq_true,if_false];cases hc:cutF c l with
   | nil=>exact absurd hc (Zv c l)
   | cons h t=>simp
theorem jG(s:Str)(c:UInt8):zl s c=(cutF c s.l).map Str.mk:=by
 have:=JI c s.l ([],⟨[]⟩);simp only at this;unfold zl yZ;rw[this];cases hc:cutF c s.l with
 | nil=>exact absurd hc (Zv c s.l)
 | cons h t=>simp
theorem XO(c:UInt8):∀ l,Lib.indexByte l c<0->cutF c l=[l]
 | [],_=>rfl
 |
  b::l,h=>by
  unfold Lib.indexByte at h;unfold cutF;cases hb:b == c with
  | true=>rw[hb] at h;simp at h
  |
   false=>
   rw[hb] at h;simp only[Bool.false_eq_true,if_false] at h ⊢;have hge:=Lib.indexByte_ge l c;have:Lib.indexByte l c<0:=by
    split at h
    ·
     rename_i e;have:=eq_of_beq e;omega
    ·
     omega
   rw[XO c l this]
theorem XP(c:UInt8):∀ l,0<=Lib.indexByte l c->Lib.indexByte l c<l.length/\cutF c l=l.take (Lib.indexByte l c).toNat::cutF c (l.drop ((Lib.indexByte l c).toNat+1))
 | [],h=>by simp[Lib.indexByte] at h
 |
  b::l,h=>by
  unfold Lib.indexByte at h ⊢;cases hb:b == c with
  | true=>simp[cutF,hb]
  |
   false=>
   rw[hb] at h;simp only[Bool.false_eq_true,if_false] at h ⊢;cases he:Lib.indexByte l c == -1 with
   | true=>rw[he] at h;simp at h
   |
    false=>
    rw[he] at h;simp only[Bool.false_eq_true,if_false] at h ⊢;have hge:=Lib.indexByte_ge l c;have hne:Lib.indexByte l c≠-1:=by simpa using he
    obtain⟨h1,h2⟩:=XP c l (by omega);refine⟨by simp;omega,?_⟩;have e1:(Lib.indexByte l c+1).toNat=(Lib.indexByte l c).toNat+1:=by omega
    rw[e1];rw[Z5,hb,h2];simp only[Bool.false_eq_true,if_false,List.take_succ_cons,List.drop_succ_cons]
theorem genSplit_loop(c:UInt8)(n:Nat)(hn:n<1099511627777):∀ (l:List UInt8) (done:List Str),l.length<=1099511627776->done.length+(cutF c l).length=n->
  ∀
   m,(cutF c l).length<=m->wi (λ s35=>yB ⟨[c]⟩ 0 ((n:Int) - 1) s35) m ((⟨l⟩:Str),done++List.replicate (n - done.length) zStr,(done.length:Int))=
   some (⟨(cutF c l).getLast (Zv c l)⟩,done++((cutF c l).dropLast.map Str.mk++[zStr]),(n:Int) - 1):=by
 intro l
 induction hlen:l.length using Nat.strongRecOn generalizing l with
 |
  _ k ih=>
  intro done hl hd m hm;have hne:=Zv c l;have hpos:0<(cutF c l).length:=List.length_pos_iff.2 hne;obtain⟨m,rfl⟩:∃ m',m=m'+1:=⟨m - 1,by omega⟩;by_cases hlast:(cutF c l).length=1
  ·
   rw[yf (b:=((⟨l⟩:Str),done++List.replicate (n - done.length) zStr,(done.length:Int))) (by unfold yB;exact if_neg (by simp[cmpI];omega))];obtain⟨x,hx⟩:=List.length_eq_one_iff.1 hlast;have e1:n - done.length=1:=by omega
   simp only[hx,List.getLast_singleton,List.dropLast_singleton,List.map_nil,List.nil_append,e1,List.replicate_one];have hxl:x=l:=by
    rcases Int.lt_or_le (Lib.indexByte l c) 0 with h | h
    ·
     rw[XO c l h] at hx;injection hx with hx;exact hx.symm
    ·
     obtain⟨_,h2⟩:=XP c l h;rw[h2] at hx;have:=congrArg List.length hx;simp at this;exact absurd this (Zv _ _)
   rw[hxl]
   congr 2
   congr 1
   omega
  ·
   have hidx:0<=Lib.indexByte l c:=by
    rcases Int.lt_or_le (Lib.indexByte l c) 0 with h | h
    ·
     rw[XO c l h] at hlast;simp at hlast
    ·
     exact h
   obtain⟨h1,h2⟩:=XP c l hidx;obtain⟨j,hi⟩:=Int.eq_ofNat_of_zero_le hidx;rw[hi] at h1 h2;rw[Int.toNat_natCast] at h2;have hj:j<l.length:=by omega
   have e2:qt ⟨l⟩ ⟨[c]⟩=some (j:Int):=by simp[qt,hi]
   have hrep:done.length<(done++List.replicate (n - done.length) zStr).length:=by simp;omega
   have e4:atI (done++List.replicate (n - done.length) zStr) (done.length:Int)=some zStr:=by
    rw[zR,List.getElem?_append_right (Nat.le_refl _),Nat.sub_self,List.getElem?_replicate,if_pos (by omega)]
   have e5:setO (done++List.replicate (n - done.length) zStr) (done.length:Int) (⟨l.take j⟩:Str)=some ((done++[⟨l.take j⟩])++List.replicate (n - (done.length+1)) zStr):=by
    rw[QO hrep]
    congr 1
    rw[List.set_append_right _ _ (Nat.le_refl _),Nat.sub_self];obtain⟨q,hq⟩:∃ q,n - done.length=q+1:=⟨n - done.length - 1,by omega⟩;rw[hq,List.replicate_succ,List.set_cons_zero,List.append_assoc,show n - (done.length+1)=q by omega];rfl
   have hstep:yB ⟨[c]⟩ 0 ((n:Int) - 1) ((⟨l⟩:Str),done++List.replicate (n - done.length) zStr,(done.length:Int))=some (.inl ((⟨l.drop (j+1)⟩:Str),(done++[⟨l.take j⟩])++List.replicate (n - (done.length+1)) zStr,((done.length+1:Nat):Int))):=by
    unfold yB;rw[if_pos (by simp[cmpI];omega)];simp only;rw[e2,obS,if_neg (by simp[cmpI]),show((j:Int)+0)=(j:Int) by omega,Xp (by omega) (by omega),obS,zan (show j<=(⟨l⟩:Str).l.length by show j<=l.length;omega),obS,e4,obS,e5,obS];rw[show((j:Int)+(([c]:List UInt8).length:Int))=((j+1:Nat):Int) from rfl,Xp (by omega) (by omega),obS,cutLO_nat (show j+1<=(⟨l⟩:Str).l.length by show j+1<=l.length;omega),obS,zF (by omega),obS]
   rw[wc hstep];have hlen2:(cutF c (l.drop (j+1))).length+1=(cutF c l).length:=by rw[h2];rfl
   have hrec:=ih (l.drop (j+1)).length (by simp;omega) (l.drop (j+1)) rfl (done++[⟨l.take j⟩]) (by simp;omega) (by simp;omega) m (by omega);rw[List.length_append,List.length_singleton] at hrec;rw[hrec];have hne2:=Zv c (l.drop (j+1));have e7:(cutF c l).getLast hne=(cutF c (l.drop (j+1))).getLast hne2:=by
    have:∀ (L:List (List UInt8)) (hL:L≠[]),L=l.take j::cutF c (l.drop (j+1))->L.getLast hL=(cutF c (l.drop (j+1))).getLast hne2:=by
     intro L hL e;subst e;exact List.getLast_cons hne2
    exact this _ hne h2
   have e8:(cutF c l).dropLast=l.take j::(cutF c (l.drop (j+1))).dropLast:=by
    have:∀ (L:List (List UInt8)),L=l.take j::cutF c (l.drop (j+1))->L.dropLast=l.take j::(cutF c (l.drop (j+1))).dropLast:=by
     intro L e;subst e;rw[List.dropLast_cons_of_ne_nil hne2]
    exact this _ h2
   rw[e7,e8];simp
theorem Split_eq{s:Str}(hs:s.l.length<=8388608)(c:UInt8):xS s ⟨[c]⟩=some (zl s c):=by
 unfold xS ql;have hcount:s.l.count c<=s.l.length:=List.count_le_length;rw[if_neg (by simp[cmpI]),if_neg (by simp)];have e1:Zr s ⟨[c]⟩=some (s.l.count c:Int):=rfl;rw[if_pos (by simp[cmpI]),e1,obS,zF (by omega),obS,obS,zF (by omega),obS];have hmin:(if((s.l.length+1:Nat):Int)<((s.l.count c+1:Nat):Int) then((s.l.length+1:Nat):Int) else((s.l.count c+1:Nat):Int))=((s.l.count c+1:Nat):Int):=if_neg (by omega);rw[hmin];have hbig:s.l.count c+1<=16777216:=by omega
 have e2:WD 1 16 ((s.l.count c+1:Nat):Int) zStr=some (List.replicate (s.l.count c+1) zStr):=by
  unfold WD;rw[if_pos ⟨by omega,by simp;omega,by simp;omega,by omega⟩];rfl
 rw[e2,obS,Xp (by omega) (by omega),obS];have hl:=wm (genSplit_loop c (s.l.count c+1) (by omega) s.l [] (by omega) (by simp[W8]) (s.l.count c+1) (by rw[W8];omega)) (by omega);simp only[List.nil_append,List.length_nil,Nat.sub_zero] at hl;rw[show((0:Nat):Int)=0 from rfl] at hl;rw[hl,obS];have hne:=Zv c s.l;have hlen:=W8 c s.l;have hz:((cutF c s.l).dropLast.map Str.mk).length=s.l.count c:=by simp[hlen]
 have e3:(((s.l.count c+1:Nat):Int) - 1)=(s.l.count c:Int):=by omega
 simp only[e3];have e4:atI ((cutF c s.l).dropLast.map Str.mk++[zStr]) (s.l.count c:Int)=some zStr:=by
  rw[zR,List.getElem?_append_right (by omega),hz,Nat.sub_self];rfl
 have e5:setO ((cutF c s.l).dropLast.map Str.mk++[zStr]) (s.l.count c:Int) (⟨(cutF c s.l).getLast hne⟩:Str)=some ((cutF c s.l).map Str.mk):=by
  unfold setO;rw[if_pos ⟨by omega,by simp[hlen]⟩]
  congr 1
  rw[Int.toNat_natCast,List.set_append_right _ _ (by omega),hz,Nat.sub_self,List.set_cons_zero];have:=List.dropLast_concat_getLast hne
  conv=>rhs;rw[← this]
  simp
 rw[e4,obS,e5,obS,zF (by omega),obS];have e6:JD ((cutF c s.l).map Str.mk) ((s.l.count c+1:Nat):Int)=some ((cutF c s.l).map Str.mk):=by
  unfold JD;rw[if_pos ⟨by omega,by simp[hlen]⟩]
  congr 1
  rw[Int.toNat_natCast];exact List.take_of_length_le (by simp[hlen])
 rw[e6,jG];rfl
def sho(s:Str):Prop:=s.l.length<=8388608
theorem sho.mid{s:Str}(h:sho s):mid s:=by unfold sho at h;unfold Go.Proofs.YtobplpdjkfbfoaaGreatDoor.mid;omega
theorem split_len(s:Str)(c:UInt8):(zl s c).length<=s.l.length+1:=by have:=Qv (zl s c);rwa[Zy] at this
theorem split_part{s x:Str}{c:UInt8}(h:x∈zl s c):x.l.length<=s.l.length+1:=by
 obtain⟨k,hk⟩:=List.getElem?_of_mem h;have:=part_le hk;rwa[Zy] at this
theorem any_not{α:Type}(p:α->Bool)(l:List α):l.any (λ x=>!p x)=!l.all p:=by
 induction l with
 | nil=>rfl
 | cons x l ih=>simp[ih]
theorem xE{s:Str}(hs:sho s):zO s=some (zg s):=by
 unfold sho at hs;have hlen:=split_len s dot;unfold zO;rw[show xS s (⟨[46]⟩:Str)=some (zl s dot) from Split_eq hs dot,obS];have hl:zB (λ s7=>xI (zl s dot) s7) 0=some (if(zl s dot).any (λ x=>!zJ x)=true then .inr false else .inl ()):=by
  refine YB _ _ _ _ (λ k x hx hlt=>?_) ?_ (by omega) rfl
  ·
   unfold xI;have hm:mid x:=by have:=split_part (List.mem_of_getElem? hx);unfold mid;omega
   rw[zC,if_pos (decide_eq_true hlt),zR,hx,obS,YV hm,obS,zF (by omega)];cases zJ x <;> rfl
  ·
   unfold xI;rw[zC,if_neg (by simp)]
 rw[hl,obS,any_not];unfold zg;cases(zl s dot).all zJ <;> rfl
theorem ZO{s:Str}(hs:sho s):yS s=some (zu s):=by
 unfold yS;rw[xE hs,xD,obS];unfold zu emptyS;cases decide (s=(⟨[]⟩:Str)) <;> rfl
theorem J6{s:Str}(hs:sho s):jc s=some (if zg s=true then zl s dot else[]):=by
 unfold jc;rw[xE hs,obS,show xS s (⟨[46]⟩:Str)=some (zl s dot) from Split_eq hs dot];cases zg s <;> rfl
def XC(p s:Str):Str:=if(zu p&&zJ s&&zg (child p s))=true then child p s else emptyS
theorem J7{p s:Str}(h:p.l.length+s.l.length+1<=8388608):jd p s=some (XC p s):=by
 have hp:sho p:=by unfold sho;omega
 have hs:mid s:=by unfold mid;omega
 unfold jd XC;rw[ZO hp,obS,YV hs,xD,obS];cases zu p with
 | false=>simp only[Bool.not_false,Bool.true_or,if_true,Bool.false_and,Bool.false_eq_true,if_false,emptyS]
 |
  true=>
  cases zJ s with
  | false=>simp only[Bool.not_false,Bool.or_true,if_true,Bool.false_and,Bool.and_false,Bool.false_eq_true,if_false,emptyS,Bool.not_true,beq_self_eq_true]
  |
   true=>
   have hc:(if(decide (p≠(⟨[]⟩:Str)))=true then((catO p (⟨[46]⟩:Str)).bind λ v14=>(catO v14 s).bind λ v15=>some v15) else(some s))=some (child p s):=by
    unfold child emptyS;by_cases he:p=⟨[]⟩
    ·
     rw[if_neg (by simp[he]),if_pos he]
    ·
     rw[if_pos (by simp[he]),if_neg he,Wo (by show p.l.length+1<=_;omega),obS,Wo (by rw[List.length_append];show p.l.length+1+s.l.length<=_;omega),obS]
   have hsc:sho (child p s):=by
    unfold sho child;split
    ·
     omega
    ·
     rw[List.length_append,List.length_append];show p.l.length+1+s.l.length<=_;omega
   rw[hc,if_neg (by decide),obS,xE hsc,obS];generalize child p s=q;cases zg q <;> rfl
theorem HasPrefix_eq{s p:Str}:wB s p=some (decide (p.l.length<=s.l.length)&&decide ((⟨s.l.take p.l.length⟩:Str)=p)):=by
 unfold wB yD;by_cases h:p.l.length<=s.l.length
 ·
  have e:cmpI .geq (s.l.length:Int) (p.l.length:Int)=true:=by simp[cmpI,h]
  rw[e,zan h];simp[gO,h]
 ·
  have e:cmpI .geq (s.l.length:Int) (p.l.length:Int)=false:=by simp[cmpI];omega
  rw[e];simp[gO,h]
theorem IsUnder_eq{s p:Str}(hs:sho s)(hp:p.l.length+1<=8388608):qG s p=some (zg s&&zu p&&under s p):=by
 have hp':sho p:=by unfold sho;omega
 unfold qG;rw[xE hs,obS,ZO hp',xD,obS,Wo (by show p.l.length+1<=_;omega),xD];unfold under emptyS;cases zg s with
 | false=>rfl
 |
  true=>
  cases zu p with
  | false=>rfl
  |
   true=>
   cases he:decide (p=(⟨[]⟩:Str)) with
   | true=>rfl
   |
    false=>
    cases hq:decide (s=p) with
    | true=>rfl
    |
     false=>
     simp only[HasPrefix_eq,xD,Bool.not_true,Bool.or_self,Bool.false_eq_true,if_false,beq_self_eq_true,if_true,Bool.true_and,Bool.false_or,obS,List.length_append,List.length_singleton]
     congr 2
     simp[cmpI];omega
theorem Jt(a b c:Int):yu a b c=some (inR a b c):=rfl
theorem wA:zg emptyS=false:=rfl
theorem idx_join{α:Type}(p:α->Bool)(xs:List α):Option.bind (some (match xs.findIdx? p with | some i=>(Sum.inr (i:Int):Unit⊕Int) | none=>Sum.inl ())) (Sum.elim (λ _=>some (-1)) some)=some (Zb p xs):=by
 unfold Zb;cases xs.findIdx? p <;> rfl
theorem X7{α:Type}(p:α->Bool)(xs:List α):cmpI .geq (Zb p xs) 0=xs.any p:=by
 unfold Zb;cases h:xs.findIdx? p with
 |
  none=>
  rw[List.findIdx?_eq_none_iff] at h;have:xs.any p=false:=by rw[List.any_eq_false];intro x hx;simp[h x hx]
  rw[this];rfl
 |
  some i=>
  obtain⟨hi,hp,_⟩:=List.findIdx?_eq_some_iff_getElem.1 h;have:xs.any p=true:=by rw[List.any_eq_true];exact⟨_,List.getElem_mem hi,hp⟩
  rw[this];simp[cmpI]
theorem idxOf_lss{α:Type}{p:α->Bool}{xs:List α}{k:Nat}{x:α}(hx:xs[k]?=some x)(hp:p x=true):cmpI .lss (Zb p xs) k=(xs.take k).any p:=by
 have hk:=zL hx;have hxk:xs[k]=x:=by rw[List.getElem?_eq_getElem hk] at hx;injection hx
 unfold Zb;cases h:xs.findIdx? p with
 |
  none=>
  rw[List.findIdx?_eq_none_iff] at h;have:=h x (List.mem_of_getElem? hx);rw[hp] at this;cases this
 |
  some i=>
  obtain⟨hi,hpi,hmin⟩:=List.findIdx?_eq_some_iff_getElem.1 h;by_cases hik:i<k
  ·
   have:(xs.take k).any p=true:=by
    rw[List.any_eq_true];exact⟨xs[i],List.mem_take_iff_getElem.2 ⟨i,by omega,rfl⟩,hpi⟩
   rw[this];simp[cmpI,hik]
  ·
   have:(xs.take k).any p=false:=by
    rw[List.any_eq_false];intro y hy;obtain⟨j,hj,rfl⟩:=List.mem_take_iff_getElem.1 hy;exact hmin j (by omega)
   rw[this];simp[cmpI];omega
theorem IndexI_eq{xs:List Int}{n:Int}(h:xs.length<=1152921504606846):xz xs n=some (Zb (λ x=>n == x) xs):=by
 unfold xz;have hl:zB (λ s4=>yl xs n s4) 0=some (match xs.findIdx? (λ x=>n == x) with | some i=>(Sum.inr (i:Int):Unit⊕Int) | none=>Sum.inl ()):=by
  refine QQ xs (λ x=>n == x) (λ i=>Sum.inr i) _ (λ k x hx hlt=>?_) ?_ (by omega) rfl
  ·
   unfold yl;rw[zC,if_pos (decide_eq_true hlt),zR,hx,obS,zF (by omega),show cmpI .eql n x=(n == x) from rfl];cases n == x <;> rfl
  ·
   unfold yl;rw[zC,if_neg (by simp)]
 rw[hl];exact idx_join _ _
theorem ContainsI_eq{xs:List Int}{n:Int}(h:xs.length<=1152921504606846):y7 xs n=some (xs.any (λ x=>n == x)):=by
 unfold y7;rw[IndexI_eq h,obS,X7]
theorem stmt_mod(s:Stmt):decide (s={ (⟨s.kind,⟨[]⟩,0,⟨[]⟩,0⟩:Stmt) with module:=s.module })=(cmpI .eql s.level 0&&decide (s.name=⟨[]⟩)&&cmpI .eql s.value 0):=by
 cases s;rw[Bool.eq_iff_iff];simp[cmpI,and_assoc]
theorem stmt_nv(s:Stmt):decide (s={ { (⟨s.kind,⟨[]⟩,0,⟨[]⟩,0⟩:Stmt) with name:=s.name } with value:=s.value })=(decide (s.module=⟨[]⟩)&&cmpI .eql s.level 0):=by
 cases s;rw[Bool.eq_iff_iff];simp[cmpI]
theorem stmt_n(s:Stmt):decide (s={ (⟨s.kind,⟨[]⟩,0,⟨[]⟩,0⟩:Stmt) with name:=s.name })=(decide (s.module=⟨[]⟩)&&cmpI .eql s.level 0&&cmpI .eql s.value 0):=by
 cases s;rw[Bool.eq_iff_iff];simp[cmpI,and_assoc]
theorem smStmt.sho{s:Stmt}(h:smStmt s):sho s.module:=by have:=h.1;unfold Go.Proofs.YtobplpdjkfbfoaaGreatDoor.sho;omega
theorem smStmt.midn{s:Stmt}(h:smStmt s):mid s.name:=by have:=h.2;unfold mid;omega
theorem stmtOk_eq{s:Stmt}(h:smStmt s):Zc s=some (yH s):=by
 have hm:=xE h.sho;have hn:=YV h.midn;unfold Zc;rw[hm,hn,stmt_mod,stmt_nv,stmt_n];simp only[Jt,xD,obS];unfold yH;rcases s with⟨kind,m,level,name,value⟩;simp only[show ∀ x y:Int,cmpI .eql x y=(x == y) from λ _ _=>rfl];by_cases h0:kind=0
 ·
  subst h0;simp only[beq_self_eq_true,if_true,obS];generalize zg m=a;generalize (level == 0)=b;generalize decide (name=⟨[]⟩)=c;generalize (value == 0)=d;cases a <;> cases b <;> cases c <;> cases d <;> rfl
 ·
  by_cases h2:kind=2
  ·
   subst h2;simp only[beq_self_eq_true,if_true,obS,show((2:Int) == 0)=false from rfl,show((2:Int) == 1)=false from rfl,Bool.false_eq_true,if_false];generalize zg m=a;generalize (level == 0)=b;generalize decide (name=⟨[]⟩)=c;generalize (value == 0)=d;cases a <;> cases b <;> cases c <;> cases d <;> rfl
  ·
   have e0:(kind == 0)=false:=by simpa using h0
   have e2:(kind == 2)=false:=by simpa using h2
   simp only[e0,e2,Bool.false_eq_true,if_false,obS];by_cases h1:kind=1
   ·
    subst h1;simp only[beq_self_eq_true,if_true];have hl:cmpI .geq level 1=cmpI .gtr level 0:=by simp[cmpI];omega
    rw[hl];unfold zu;by_cases hme:m=emptyS
    ·
     subst hme;rw[wA];simp only[emptyS,decide_true,ne_eq,not_true_eq_false,decide_false];generalize (value == 0)=a;generalize inR level 0 3=b;generalize cmpI .gtr level 0=c;generalize zJ name=d;cases a <;> cases b <;> cases c <;> cases d <;> rfl
    ·
     have e1:decide (m=emptyS)=false:=decide_eq_false hme;have e3:decide (m=⟨[]⟩)=false:=decide_eq_false hme;have e4:decide (m≠⟨[]⟩)=true:=decide_eq_true hme;rw[e1,e3,e4];generalize (value == 0)=a;generalize inR level 0 3=b;generalize cmpI .gtr level 0=c;generalize zJ name=d;generalize zg m=e;cases a <;> cases b <;> cases c <;> cases d <;> cases e <;> rfl
   ·
    have e1:(kind == 1)=false:=by simpa using h1
    simp only[e1,Bool.false_eq_true,if_false];by_cases h3:kind=3
    ·
     subst h3;simp only[beq_self_eq_true,if_true];generalize decide (m=⟨[]⟩)=a;generalize (level == 0)=b;generalize inR value 0 99=c;generalize zJ name=d;cases a <;> cases b <;> cases c <;> cases d <;> rfl
    ·
     have e3:(kind == 3)=false:=by simpa using h3
     simp only[e3,Bool.false_eq_true,if_false];by_cases h4:kind=4
     ·
      subst h4;simp only[beq_self_eq_true,if_true];generalize decide (m=⟨[]⟩)=a;generalize (level == 0)=b;generalize (value == 0)=c;generalize zJ name=d;cases a <;> cases b <;> cases c <;> cases d <;> rfl
     ·
      have e4:(kind == 4)=false:=by simpa using h4
      simp only[e4,Bool.false_eq_true,if_false];by_cases h5:kind=5
      ·
       subst h5;rfl
      ·
       have e5:(kind == 5)=false:=by simpa using h5
       simp only[e5,Bool.false_eq_true,if_false]
theorem ValidBody_eq{b:List Stmt}(hlen:b.length<=1048576)(h:∀ s∈b,smStmt s):jY b=some (xG b):=by
 unfold jY;have hl:zB (λ s4=>xJ b s4) 0=some (if b.any (λ x=>!yH x)=true then .inr false else .inl ()):=by
  refine YB _ _ _ _ (λ k x hx hlt=>?_) ?_ (by omega) rfl
  ·
   unfold xJ;rw[zC,if_pos (decide_eq_true hlt),zR,hx,obS,stmtOk_eq (h x (List.mem_of_getElem? hx)),obS,zF (by omega)];cases yH x <;> rfl
  ·
   unfold xJ;rw[zC,if_neg (by simp)]
 rw[hl,obS,any_not];unfold xG;cases b.all yH <;> rfl
theorem child_ne{p s:Str}(h:zg (child p s)=true):child p s≠emptyS:=by
 intro e;rw[e,wA] at h;cases h
theorem smFile.shop{f:File}(h:smFile f):sho f.pkg:=by have:=h.1;unfold sho;omega
theorem smFile.midn{f:File}(h:smFile f):mid f.name:=by have:=h.2.1;unfold mid;omega
theorem smFile.child{f:File}(h:smFile f):f.pkg.l.length+f.name.l.length+1<=8388608:=by have:=h.1;have:=h.2.1;omega
theorem fileOk_eq{f:File}(h:smFile f):Zd f=some (xk f):=by
 unfold Zd;rw[Jt,obS,ZO h.shop,xD,obS,Jt,xD,obS,ValidBody_eq h.2.2.1 h.2.2.2,xD,obS,YV h.midn,obS,J7 h.child,xD,obS];unfold xk;cases inR f.root 0 2 with
 | false=>rfl
 |
  true=>
  cases hp:zu f.pkg with
  | false=>cases inR f.stamp 0 99 <;> rfl
  |
   true=>
   cases inR f.stamp 0 99 with
   | false=>rfl
   |
    true=>
    cases xG f.body with
    | false=>rfl
    |
     true=>
     cases f.init with
     | true=>rfl
     |
      false=>
      show some (zJ f.name&&decide ((if(zJ f.name == true)=true then XC f.pkg f.name else default)≠(⟨[]⟩:Str)))=some (zJ f.name&&zg (Go.Proofs.YtobplpdjkfbfoaaGreatDoor.child f.pkg f.name));cases hn:zJ f.name with
      | false=>rfl
      |
       true=>
       unfold XC;rw[hp,hn];cases hc:zg (Go.Proofs.YtobplpdjkfbfoaaGreatDoor.child f.pkg f.name) with
       | false=>simp[emptyS]
       |
        true=>
        have:=child_ne hc;simp only[Bool.and_self,if_true,beq_self_eq_true,Bool.true_and];rw[decide_eq_true (show Go.Proofs.YtobplpdjkfbfoaaGreatDoor.child f.pkg f.name≠⟨[]⟩ from this)]
theorem QR(f g:File):jW f g=some (xd f g):=rfl
theorem JJ(f g:File):xd f g=xd g f:=by
 unfold xd;rw[BEq.comm (a:=f.root),BEq.comm (a:=f.init),decide_eq_decide.2 (eq_comm (a:=f.pkg) (b:=g.pkg)),decide_eq_decide.2 (eq_comm (a:=f.name) (b:=g.name))]
theorem sameFile_refl(f:File):xd f f=true:=by simp[xd]
theorem QS{t:Tree}(h:xu t):wR t=some (zH t):=by
 have hlen:=h.1;unfold wR;have hl:zB (λ s4=>xL t s4) 0=some (if(List.range t.files.length).any (λ k=>!WW t.files k)=true then .inr false else .inl ()):=by
  refine YB (List.range t.files.length) _ _ _ (λ k x hx hlt=>?_) ?_ (by rw[List.length_range];omega) rfl
  ·
   rw[List.length_range] at hlt;rw[List.getElem?_range hlt] at hx;injection hx with hx;subst hx;unfold xL;obtain⟨f,hf⟩:∃ f,t.files[k]?=some f:=⟨_,List.getElem?_eq_getElem hlt⟩;have ht:WW t.files k=!(!xk f||cmpI .lss (yQ t.files f) k):=by unfold WW;rw[hf]
   rw[zC,if_pos (decide_eq_true hlt),zR,hf,obS,fileOk_eq (h.2 _ (List.mem_of_getElem? hf)),obS,zao (by omega),obS,ht];cases xk f with
   | false=>rfl
   |
    true=>
    rw[if_neg (by decide)];have hin:zB (λ s28=>xK f (t.files.take k) s28) 0=some (if(t.files.take k).any (λ x=>xd f x)=true then .inr (.inr (.inr false)) else .inl ()):=by
     have htl:(t.files.take k).length<=k:=by simp;omega
     refine YB _ _ _ _ (λ j y hy hjt=>?_) ?_ (by omega) rfl
     ·
      unfold xK;rw[zC,if_pos (decide_eq_true hjt),zR,hy,obS,QR,obS,zF (by omega)];cases xd f y <;> rfl
     ·
      unfold xK;rw[zC,if_neg (by simp)]
    rw[hin];have hfa:cmpI .lss (yQ t.files f) k=(t.files.take k).any (λ x=>xd f x):=by
     unfold yQ;rw[idxOf_lss (p:=λ x=>xd x f) hf (sameFile_refl _)]
     congr 1
     funext x
     exact JJ _ _
    rw[hfa];cases(t.files.take k).any (λ x=>xd f x) with
    | true=>rfl
    |
     false=>
     rw[if_neg (by decide),obS,Sum.elim_inl,zF (by omega)];rfl
  ·
   unfold xL;rw[List.length_range,zC,if_neg (by simp)]
 rw[hl,obS,any_not];unfold zH XM;cases(List.range t.files.length).all (WW t.files) <;> rfl
theorem fileAt_eq{t:Tree}{f:File}(h:t.files.length<=1048576):qw t f=some (yQ t.files f):=by
 unfold qw;have hl:zB (λ s4=>wU t f s4) 0=some (match t.files.findIdx? (λ x=>xd x f) with | some i=>(Sum.inr (i:Int):Unit⊕Int) | none=>Sum.inl ()):=by
  refine QQ t.files (λ x=>xd x f) (λ i=>Sum.inr i) _ (λ k x hx hlt=>?_) ?_ (by omega) rfl
  ·
   unfold wU;rw[zC,if_pos (decide_eq_true hlt),zR,hx,obS,QR,obS,zF (by omega),JJ];cases xd x f <;> rfl
  ·
   unfold wU;rw[zC,if_neg (by simp)]
 rw[hl];exact idx_join _ _
theorem Xq{t:Tree}(h:zH t=true){f:File}(hf:f∈t.files):xk f=true:=by
 obtain⟨k,hk⟩:=List.getElem?_of_mem hf;unfold zH XM at h;rw[Bool.and_eq_true] at h;have:=List.all_eq_true.1 h.1 k (List.mem_range.2 (zL hk));unfold WW at this;rw[hk] at this;simp only at this;cases hv:xk f with
 | true=>rfl
 | false=>rw[hv] at this;cases this
theorem validFile_pkg{f:File}(h:xk f=true):zu f.pkg=true:=by
 unfold xk at h;cases hv:zu f.pkg with
 | true=>rfl
 |
  false=>
  rw[hv,if_pos (by simp)] at h;cases h
theorem hasDir_eq{t:Tree}{r:Int}{p:Str}(h:xu t)(hv:∀ f∈t.files,zu f.pkg=true)(hp:zu p=true)(hpl:p.l.length+1<=8388608):Ze t r p=some (Z2 t.files r p):=by
 have hlen:=h.1;unfold Ze;have hl:zB (λ s4=>wS t r p s4) 0=some (if t.files.any (WX r p)=true then .inr true else .inl ()):=by
  refine YB _ _ _ _ (λ k x hx hlt=>?_) ?_ (by omega) rfl
  ·
   unfold wS;have hm:=List.mem_of_getElem? hx;rw[zC,if_pos (decide_eq_true hlt),zR,hx,obS,IsUnder_eq (h.2 x hm).shop hpl,xD,obS,zF (by omega),hp];unfold WX;have hvx:=hv x hm;unfold zu at hvx;rw[show cmpI .eql x.root r=(x.root == r) from rfl];by_cases he:x.pkg=emptyS
   ·
    rw[he,wA];simp
   ·
    have e1:zg x.pkg=true:=by simpa[he] using hvx
    rw[e1,decide_eq_true (show x.pkg≠emptyS from he)];cases x.root == r <;> cases under x.pkg p <;> rfl
  ·
   unfold wS;rw[zC,if_neg (by simp)]
 rw[hl,obS];unfold Z2 emptyS;cases t.files.any (WX r p) <;> rfl
theorem QT{l:List Int}(h:l.length<=1048576):wT l=some (xl l):=by
 unfold wT;have hl:zB (λ s4=>xM l s4) 0=some (if(List.range l.length).any (λ k=>!JZ l k)=true then .inr false else .inl ()):=by
  refine YB (List.range l.length) _ _ _ (λ k x hx hlt=>?_) ?_ (by rw[List.length_range];omega) rfl
  ·
   rw[List.length_range] at hlt;rw[List.getElem?_range hlt] at hx;injection hx with hx;subst hx;unfold xM;obtain⟨n,hf⟩:∃ n,l[k]?=some n:=⟨_,List.getElem?_eq_getElem hlt⟩;have htl:(l.take k).length<=1152921504606846:=by simp;omega
   have ht:JZ l k=!(!inR n 0 2||(l.take k).any (λ x=>n == x)):=by
    unfold JZ;rw[hf];simp only;unfold intAt;rw[X7,show(λ x=>x == n)=(λ x=>n == x) from by funext x;exact BEq.comm]
   rw[zC,if_pos (decide_eq_true hlt),zR,hf,obS,Jt,obS,zao (by omega),xD,obS,ht,zF (by omega)];cases inR n 0 2 with
   | false=>rfl
   |
    true=>
    simp only[Bool.not_true,beq_self_eq_true,if_true];rw[ContainsI_eq htl,xD,obS];cases(l.take k).any (λ x=>n == x) <;> rfl
  ·
   unfold xM;rw[List.length_range,zC,if_neg (by simp)]
 rw[hl,obS,any_not];unfold xl WY;cases(List.range l.length).all (JZ l) <;> rfl
structure Good(t:Tree):Prop where
 sm:xu t
 ok:zH t=true
theorem Good.pkg{t:Tree}(h:Good t):∀ f∈t.files,zu f.pkg=true:=λ _ hf=>validFile_pkg (Xq h.ok hf)
theorem Good.len{t:Tree}(h:Good t):t.files.length<=1048576:=h.sm.1
theorem XQ{s:Str}(h:zJ s=true):1<=s.l.length/\s.l.length<=3:=by
 unfold zJ inR at h;simp[cmpI] at h;omega
theorem lenSum_le(l:List Str)(h:∀ x∈l,x.l.length<=3):wx l<=4*l.length:=by
 induction l with
 | nil=>exact Nat.le_refl _
 |
  cons x l ih=>
  have h1:=h x (by simp);have h2:=ih λ y hy=>h y (by simp[hy])
  unfold wx at h2 ⊢;simp only[List.map_cons,List.sum_cons,List.length_cons];omega
theorem jM{s:Str}(h:zg s=true):s.l.length<=11:=by
 unfold zg at h;rw[Bool.and_eq_true] at h;have h1:=lenSum_le (zl s dot) λ x hx=>(XQ (List.all_eq_true.1 h.1 x hx)).2
 rw[Zy] at h1;have h2:=h.2;simp[cmpI] at h2;omega
theorem yy{s:Str}(h:zu s=true):s.l.length<=11:=by
 unfold zu at h;rw[Bool.or_eq_true] at h;rcases h with h | h
 ·
  rw[oD h];exact Nat.zero_le _
 ·
  exact jM h
def X8:List (List UInt8)->List UInt8
 | []=>[]
 | [a]=>a
 | a::b::l=>a++46::X8 (b::l)
theorem JK:∀ (l:List Str) (acc:List UInt8),(l.foldl Yw (⟨acc⟩,true)).1=⟨acc++(l.map λ x=>46::x.l).flatten⟩
 | [],acc=>by simp
 |
  x::l,acc=>by
  rw[List.foldl_cons];show(l.foldl Yw (⟨(acc++[46])++x.l⟩,true)).1=_;rw[JK l];simp
theorem J8(a:List UInt8)(l:List (List UInt8)):X8 (a::l)=a++(l.map λ x=>46::x).flatten:=by
 induction l generalizing a with
 | nil=>simp[X8]
 | cons b l ih=>rw[X8,ih];simp
theorem J9(l:List Str):join l=⟨X8 (l.map (·.l))⟩:=by
 cases l with
 | nil=>rfl
 |
  cons x l=>
  unfold join qV;rw[List.foldl_cons];show(l.foldl Yw (⟨[]++x.l⟩,true)).1=_;rw[JK,List.map_cons,J8];simp[List.map_map,Function.comp_def]
theorem cutF_pre(c:UInt8):∀ (a l:List UInt8),c ∉ a->cutF c (a++c::l)=a::cutF c l
 | [],l,_=>by simp[cutF]
 |
  b::a,l,h=>by
  have hb:(b == c)=false:=by
   have:b≠c:=λ e=>h (by simp[e])
   simpa using this
  rw[List.cons_append,Z5,hb,cutF_pre c a l (λ e=>h (by simp[e]))];rfl
theorem QU(c:UInt8):∀ (a:List UInt8),c ∉ a->cutF c a=[a]
 | [],_=>rfl
 |
  b::a,h=>by
  have hb:(b == c)=false:=by
   have:b≠c:=λ e=>h (by simp[e])
   simpa using this
  rw[Z5,hb,QU c a (λ e=>h (by simp[e]))];rfl
theorem zbq:∀ (l:List (List UInt8)),l≠[]->(∀ x∈l,(46:UInt8) ∉ x)->cutF 46 (X8 l)=l
 | [],h,_=>absurd rfl h
 | [a],_,h=>QU 46 a (h a (by simp))
 |
  a::b::l,_,h=>by
  rw[X8,cutF_pre 46 a _ (h a (by simp)),zbq (b::l) (by simp) λ x hx=>h x (by simp[hx])]
theorem Qa:∀ (l:List UInt8),X8 (cutF 46 l)=l
 | []=>rfl
 |
  b::l=>by
  rw[Z5];cases hb:b == 46 with
  |
   true=>
   have ih:=Qa l;have hb:=eq_of_beq hb;rw[if_pos rfl];cases hc:cutF 46 l with
   | nil=>exact absurd hc (Zv 46 l)
   | cons h t=>rw[X8,← hc,ih,hb];rfl
  |
   false=>
   have ih:=Qa l;rw[if_neg (by decide)];cases hc:cutF 46 l with
   | nil=>exact absurd hc (Zv 46 l)
   |
    cons h t=>
    rw[hc] at ih;show X8 ((b::h)::t)=b::l;rw[J8] at ih ⊢;rw[← ih];rfl
theorem Z6(s:Str):join (zl s dot)=s:=by
 rw[J9,jG,List.map_map];show(⟨X8 ((cutF 46 s.l).map λ x=>x)⟩:Str)=s;rw[List.map_id',Qa]
theorem low_ne{b:UInt8}(h:low b=true):b≠46:=by
 intro e;subst e;revert h;decide
theorem XR{s:Str}(h:zJ s=true):(46:UInt8) ∉ s.l:=by
 unfold zJ at h;rw[Bool.and_eq_true] at h;intro hm;exact low_ne (List.all_eq_true.1 h.2 _ hm) rfl
theorem Z7{l:List Str}(hne:l≠[])(h:∀ x∈l,zJ x=true):zl (join l) dot=l:=by
 rw[J9,jG];show(cutF 46 (X8 (l.map (·.l)))).map Str.mk=l;rw[zbq _ (by simpa using hne) (by
  intro x hx;obtain⟨y,hy,rfl⟩:=List.mem_map.1 hx;exact XR (h y hy)),List.map_map]
 show l.map (λ x=>x)=l;exact List.map_id' l
theorem Wp{l:List Str}(hne:l≠[])(hlen:l.length<=3)(h:∀ x∈l,zJ x=true):zg (join l)=true:=by
 unfold zg;rw[Z7 hne h,Bool.and_eq_true];exact⟨List.all_eq_true.2 h,by simp[cmpI];omega⟩
theorem yN{s:Str}(h:zg s=true):(∀ x∈zl s dot,zJ x=true)/\(zl s dot).length<=3:=by
 unfold zg at h;rw[Bool.and_eq_true] at h;have:=h.2;simp[cmpI] at this;exact⟨List.all_eq_true.1 h.1,by omega⟩
theorem pre_valid{s:Str}(h:zg s=true)(k:Nat):zu (join ((zl s dot).take k))=true:=by
 obtain⟨h1,h2⟩:=yN h;unfold zu;cases k with
 | zero=>rfl
 |
  succ k=>
  have hne:=Xd s dot;rw[Wp (by intro e;have:=congrArg List.length e;simp at this;rw[this] at hne;simp at hne) (by simp;omega) λ x hx=>h1 x (List.mem_of_mem_take hx),Bool.or_true]
theorem zbr{s:Str}(h:zg s=true)(k:Nat):zg (join ((zl s dot).take (k+1)))=true:=by
 obtain⟨h1,h2⟩:=yN h;have hne:=Xd s dot;exact Wp (by intro e;have:=congrArg List.length e;simp at this;rw[this] at hne;simp at hne) (by simp;omega) λ x hx=>h1 x (List.mem_of_mem_take hx)
theorem zbs{l:List Str}{k:Nat}{x:Str}(hx:l[k]?=some x)(h:∀ x∈l,zJ x=true):join (l.take (k+1))=child (join (l.take k)) x:=by
 have hk:=zL hx;unfold join;cases k with
 |
  zero=>
  rw[Jp hx rfl];rfl
 |
  succ k=>
  rw[Qu hx (by simp[cmpI])];unfold child;rw[if_neg];intro e;have hne:l.take (k+1)≠[]:=by intro e;have:=congrArg List.length e;simp at this;subst this;simp at hk
  have hs:=Z7 hne λ y hy=>h y (List.mem_of_mem_take hy)
  unfold join at hs;rw[e] at hs;have h0:zJ emptyS=true:=h _ (List.mem_of_mem_take (by rw[← hs];simp[zl,yZ,emptyS]));exact absurd h0 (by decide)
def okKind(s:Spec):Prop:=s.kind=0\/s.kind=1\/s.kind=2\/s.kind=3
theorem QV(t:List File)(p s:Str):∀ (rs acc:List Int),okKind (xf t p s acc rs)
 |
  [],acc=>by
  unfold xf;split
  ·
   exact .inr (.inr (.inr rfl))
  ·
   exact .inl rfl
 |
  r::rs,acc=>by
  unfold xf;split
  ·
   exact .inr (.inr (.inl rfl))
  ·
   split
   ·
    exact .inr (.inl rfl)
   ·
    exact QV t p s rs _
theorem dir_of_init{t:List File}{r:Int}{c:Str}(hc:c≠emptyS)(h:cmpI .geq (yQ t ⟨r,c,⟨[]⟩,true,0,[]⟩) 0=true):Z2 t r c=true:=by
 unfold yQ at h;rw[X7,List.any_eq_true] at h;obtain⟨f,hf,hs⟩:=h;unfold xd at hs;simp only[Bool.and_eq_true,beq_iff_eq,decide_eq_true_eq] at hs;obtain⟨⟨⟨h1,h2⟩,_⟩,_⟩:=hs;unfold Z2;rw[Bool.or_eq_true,List.any_eq_true];refine .inl ⟨f,hf,?_⟩;unfold WX under;simp[h1,h2,hc]
theorem find_eq{t:Tree}(ht:Good t){roots:List Int}(hr:roots.length<=1048576){p s:Str}(hp:zu p=true)(hs:zJ s=true)(hc:zg (child p s)=true):Yy t roots p s=some (qC t.files roots p s):=by
 have hpl:=yy hp;have hsl:=(XQ hs).2;have hcl:=jM hc;have hne:=child_ne hc;have hcp:zu (child p s)=true:=by unfold zu;rw[hc,Bool.or_true]
 have he:XC p s=child p s:=by unfold XC;rw[hp,hs,hc];rfl
 unfold Yy;rw[J7 (by omega),he,obS,if_neg (by simp only[decide_eq_true_eq];exact hne)];have hl:zB (λ s16=>jg t roots p s (child p s) s16) (Xf,[],(0:Int))=some (runL (λ _ (acc:List Int) r=>
   if cmpI .geq (yQ t.files ⟨r,child p s,⟨[]⟩,true,0,[]⟩) 0=true then .inr (Sum.inr (⟨2,yQ t.files ⟨r,child p s,⟨[]⟩,true,0,[]⟩,[r]⟩:Spec))
   else if cmpI .geq (yQ t.files ⟨r,p,s,false,0,[]⟩) 0=true then .inr (Sum.inr (⟨1,yQ t.files ⟨r,p,s,false,0,[]⟩,[]⟩:Spec))
   else .inl (if Z2 t.files r (child p s)=true then acc++[r] else acc)) (λ acc=>Sum.inl (Xf,acc)) 0 [] roots):=by
  refine QP (σ:=List Int) roots (λ acc k=>(Xf,acc,(k:Int))) _ _ (λ k acc=>acc.length<=k) (λ k acc r hx hlt hi=>?_) (λ acc _=>?_) (Nat.le_refl 0) (by omega)
  ·
   have hst:jg t roots p s (child p s) (Xf,acc,(k:Int))=(if cmpI .geq (yQ t.files ⟨r,child p s,⟨[]⟩,true,0,[]⟩) 0=true then some (.inr (.inr (⟨2,yQ t.files ⟨r,child p s,⟨[]⟩,true,0,[]⟩,[r]⟩:Spec)))
     else if cmpI .geq (yQ t.files ⟨r,p,s,false,0,[]⟩) 0=true then some (.inr (.inr (⟨1,yQ t.files ⟨r,p,s,false,0,[]⟩,[]⟩:Spec)))
     else some (.inl (Xf,(if Z2 t.files r (child p s)=true then acc++[r] else acc),((k+1:Nat):Int)))):=by
    unfold jg;simp only;rw[zC,if_pos (decide_eq_true hlt),zR,hx,obS,obS,fileAt_eq ht.len,obS,Bool.true_and,fileAt_eq ht.len,obS,Bool.true_and,hasDir_eq ht.sm ht.pkg hcp (by omega),zF (by omega)];rw[xD,obS,wv (by simp;omega) (by simp;omega)];generalize cmpI .geq (yQ t.files ⟨r,child p s,⟨[]⟩,true,0,[]⟩) 0=b1;generalize cmpI .geq (yQ t.files ⟨r,p,s,false,0,[]⟩) 0=b2;generalize Z2 t.files r (child p s)=b3;cases b1 <;> cases b2 <;> cases b3 <;> rfl
   cases h1:cmpI .geq (yQ t.files ⟨r,child p s,⟨[]⟩,true,0,[]⟩) 0 with
   | true=>rw[h1] at hst;exact hst
   |
    false=>
    rw[h1] at hst;rw[if_neg (by decide)] at hst ⊢;cases h2:cmpI .geq (yQ t.files ⟨r,p,s,false,0,[]⟩) 0 with
    | true=>rw[h2] at hst;exact hst
    |
     false=>
     rw[h2] at hst;rw[if_neg (by decide)] at hst ⊢;refine⟨hst,?_⟩;split
     ·
      simp;omega
     ·
      omega
  ·
   unfold jg;simp only;rw[zC,if_neg (by simp)]
 rw[hl,obS];unfold qC;have key:∀ (rs:List Int) (k:Nat) (acc:List Int),Sum.elim (λ b14:Spec×List Int=>if(cmpI .gtr (b14.2.length:Int) (0:Int))=true then(some (⟨(3:Int),(-1:Int),b14.2⟩:Spec)) else((jf).bind λ v75=>some v75)) some (runL (λ _ (acc:List Int) r=>
   if cmpI .geq (yQ t.files ⟨r,child p s,⟨[]⟩,true,0,[]⟩) 0=true then .inr (Sum.inr (⟨2,yQ t.files ⟨r,child p s,⟨[]⟩,true,0,[]⟩,[r]⟩:Spec))
   else if cmpI .geq (yQ t.files ⟨r,p,s,false,0,[]⟩) 0=true then .inr (Sum.inr (⟨1,yQ t.files ⟨r,p,s,false,0,[]⟩,[]⟩:Spec))
   else .inl (if Z2 t.files r (child p s)=true then acc++[r] else acc)) (λ acc=>Sum.inl (Xf,acc)) k acc rs)=some (xf t.files p s acc rs):=by
  intro rs
  induction rs with
  |
   nil=>
   intro k acc;unfold xf;simp only[runL,Sum.elim_inl];split <;> rfl
  |
   cons r rs ih=>
   intro k acc;unfold xf;rw[runL];cases h1:cmpI .geq (yQ t.files ⟨r,child p s,⟨[]⟩,true,0,[]⟩) 0 with
   | true=>rw[dir_of_init hne h1];rfl
   |
    false=>
    rw[Bool.and_false];cases h2:cmpI .geq (yQ t.files ⟨r,p,s,false,0,[]⟩) 0 with
    | true=>rfl
    | false=>exact ih _ _
 exact key roots 0 []
theorem kind_two{s:Spec}(h:okKind s):(cmpI .eql s.kind 0||cmpI .eql s.kind 1)=(cmpI .neq s.kind 2&&cmpI .neq s.kind 3):=by
 rcases h with h | h | h | h <;> rw[h] <;> rfl
theorem findName_eq{t:Tree}(ht:Good t){path:List Int}(hp:path.length<=1048576){n:Str}(hn:zg n=true):qu t path n=some (find t.files path n):=by
 have hnl:=jM hn;obtain⟨hparts,hlen⟩:=yN hn;unfold qu;rw[J6 (by unfold sho;omega),hn,if_pos rfl,obS];have hl:zB (λ s11=>xh t (zl n dot) s11) (Xf,(⟨(3:Int),(-1:Int),path⟩:Spec),(⟨[]⟩:Str),(0:Int))=some (runL (λ k (out:Spec) x=>
   if(cmpI .neq out.kind 2&&cmpI .neq out.kind 3)=true then .inr (Sum.inr XN) else .inl (qC t.files out.roots (join ((zl n dot).take k)) x)) (λ out=>Sum.inl (Xf,out)) 0 ⟨3,-1,path⟩ (zl n dot)):=by
  refine QP (σ:=Spec) (zl n dot) (λ out k=>(Xf,out,join ((zl n dot).take k),(k:Int))) _ _ (λ k out=>out.roots.length<=path.length/\okKind out) (λ k out x hx hlt hi=>?_) (λ out _=>?_) ⟨Nat.le_refl _,.inr (.inr (.inr rfl))⟩ (by omega)
  ·
   have hpre:=pre_valid hn k;have hxv:=hparts x (List.mem_of_getElem? hx);have hch:=zbs hx hparts;have hcv:=zbr hn k;rw[hch] at hcv;have hst:xh t (zl n dot) (Xf,out,join ((zl n dot).take k),(k:Int))=(if(cmpI .neq out.kind 2&&cmpI .neq out.kind 3)=true then some (.inr (.inr XN)) else some (.inl (Xf,qC t.files out.roots (join ((zl n dot).take k)) x,join ((zl n dot).take (k+1)),((k+1:Nat):Int)))):=by
    unfold xh;simp only;have hlp:=yy hpre;have hlx:=(XQ hxv).2;have he:XC (join ((zl n dot).take k)) x=child (join ((zl n dot).take k)) x:=by unfold XC;rw[hpre,hxv,hcv];rfl
    rw[zC,if_pos (decide_eq_true hlt),zR,hx,obS,kind_two hi.2,find_eq ht (by omega) hpre hxv hcv,obS,J7 (by omega),obS,he,zF (by omega),obS,hch];rfl
   rw[hst];cases hk:(cmpI .neq out.kind 2&&cmpI .neq out.kind 3) with
   | true=>rfl
   |
    false=>
    refine⟨rfl,?_,QV _ _ _ _ _⟩;have:=WZ t.files (join ((zl n dot).take k)) x out.roots [];unfold qC;simp only[List.length_nil] at this;omega
  ·
   unfold xh;simp only;rw[zC,if_neg (by simp)]
 rw[hl,obS];unfold find;have key:∀ (xs:List Str) (k:Nat) (out:Spec),Sum.elim (λ b7:Spec×Spec=>some b7.2) some (runL (λ k (out:Spec) x=>
   if(cmpI .neq out.kind 2&&cmpI .neq out.kind 3)=true then .inr (Sum.inr XN) else .inl (qC t.files out.roots (join ((zl n dot).take k)) x)) (λ out=>Sum.inl (Xf,out)) k out xs)=some (jV t.files (zl n dot) k out xs):=by
  intro xs
  induction xs with
  | nil=>intro k out;rfl
  |
   cons x xs ih=>
   intro k out;rw[runL];unfold jV;cases(cmpI .neq out.kind 2&&cmpI .neq out.kind 3) with
   | true=>rfl
   | false=>exact ih _ _
 exact key _ 0 _
def Qb(t:Tree)(path:List Int)(n:Str):Spec:=if(zH t&&xl path&&zg n)=true then find t.files path n else XN
theorem W9{t:Tree}(ht:xu t){path:List Int}(hp:path.length<=1048576){n:Str}(hn:sho n):xT t path n=some (Qb t path n):=by
 unfold xT;rw[QS ht,obS,QT hp,xD,obS,xE hn,xD,obS];unfold Qb;cases hv:zH t with
 | false=>rfl
 |
  true=>
  cases xl path with
  | false=>rfl
  |
   true=>
   cases hnn:zg n with
   | false=>rfl
   |
    true=>
    rw[findName_eq ⟨ht,hv⟩ hp hnn];rfl
theorem CanFind_eq{t:Tree}(ht:xu t){path:List Int}(hp:path.length<=1048576){n:Str}(hn:sho n):qH t path n=some (cmpI .neq (Qb t path n).kind 0):=by
 unfold qH;rw[W9 ht hp hn,obS]
theorem zaL(c:UInt8):∀ (a l:List UInt8),cutF c (a++c::l)=cutF c a++cutF c l
 | [],l=>by simp[cutF]
 |
  b::a,l=>by
  rw[List.cons_append,Z5,zaL c a l,Z5];cases b == c with
  | true=>rfl
  |
   false=>
   rw[if_neg (by decide),if_neg (by decide)];cases hc:cutF c a with
   | nil=>exact absurd hc (Zv c a)
   | cons h t=>rfl
theorem split_append(p s:Str):zl ⟨(p.l++[46])++s.l⟩ dot=zl p dot++zl s dot:=by
 rw[jG,jG,jG,← List.map_append];show(cutF 46 ((p.l++[46])++s.l)).map Str.mk=(cutF 46 p.l++cutF 46 s.l).map Str.mk;rw[List.append_assoc,List.singleton_append,zaL]
theorem Qc(s:Str):s∈y6 s:=by
 unfold y6 qr;have hne:=Xd s dot;refine List.mem_map.2 ⟨(zl s dot).length - 1,List.mem_range.2 (by omega),?_⟩;rw[show(zl s dot).length - 1+1=(zl s dot).length by omega,List.take_length,Z6]
theorem zaM{l:List Str}{s:Str}:Qw l s=true ↔ s∈l:=by
 unfold Qw textAt;rw[X7,List.any_eq_true];constructor
 ·
  rintro ⟨x,hx,h⟩;rw[← oD h];exact hx
 ·
  intro h;exact⟨s,h,by simp⟩
theorem insertT_iff{l:List Str}{s x:Str}:x∈xp l s ↔ x∈l\/x=s:=by
 refine⟨insertT_mem,λ h=>?_⟩;unfold xp;split
 ·
  rename_i hc;rcases h with h | h
  ·
   exact h
  ·
   rw[h];exact zaM.1 hc
 ·
  rcases h with h | h
  ·
   simp only[List.mem_append,List.mem_singleton];have:=List.take_append_drop (jb l s l.length) l;rw[← this,List.mem_append] at h;rcases h with h | h
   ·
    exact .inl (.inl h)
   ·
    exact .inr h
  ·
   simp[h]
theorem insertAll_iff{m l:List Str}{x:Str}:x∈m.foldl xp l ↔ x∈l\/x∈m:=by
 induction m generalizing l with
 | nil=>simp
 | cons y m ih=>rw[List.foldl_cons,ih,insertT_iff,List.mem_cons,or_assoc]
theorem JL{t:List File}{list:List Str}:∀ (xs:List Str) (k:Nat) (out:Spec) (x:Str),jV t list k out (xs++[x])=XN\/∃ r,jV t list k out (xs++[x])=qC t r (join (list.take (k+xs.length))) x
 |
  [],k,out,x=>by
  rw[List.nil_append];unfold jV jV;split
  ·
   exact .inl rfl
  ·
   exact .inr ⟨_,rfl⟩
 |
  y::xs,k,out,x=>by
  rw[List.cons_append];unfold jV;split
  ·
   exact .inl rfl
  ·
   have:=JL (t:=t) (list:=list) xs (k+1) (qC t out.roots (join (list.take k)) y) x;rwa[show k+1+xs.length=k+(y::xs).length by simp;omega] at this
theorem find_last{t:List File}{path:List Int}{n:Str}(hn:zg n=true):find t path n=XN\/∃ r p s,find t path n=qC t r p s/\child p s=n:=by
 obtain⟨hparts,_⟩:=yN hn;have hne:=Xd n dot;obtain⟨xs,x,hxs⟩:∃ xs x,zl n dot=xs++[x]:=by
  have h0:zl n dot≠[]:=by intro e;rw[e] at hne;simp at hne
  exact⟨_,_,(List.dropLast_concat_getLast h0).symm⟩
 unfold find;have hg:(zl n dot)[xs.length]?=some x:=by rw[hxs];simp
 have hj:=zbs hg hparts;rw[show xs.length+1=(zl n dot).length by rw[hxs];simp,List.take_length,Z6] at hj;have:=JL (t:=t) (list:=zl n dot) xs 0 ⟨3,-1,path⟩ x;rw[← hxs,Nat.zero_add] at this;rcases this with h | ⟨r,h⟩
 ·
  exact .inl h
 ·
  exact .inr ⟨r,_,_,h,hj.symm⟩
theorem bytesLt:∀ (x y:List UInt8),Op.bytesLess x y=decide (x<y)
 | [],[]=>by simp[Op.bytesLess]
 | _::_,[]=>by simp[Op.bytesLess]
 | [],_::_=>by simp[Op.bytesLess]
 |
  a::x,b::y=>by
  rw[Op.bytesLess,bytesLt x y];simp only[List.cons_lt_cons_iff];by_cases h1:a<b <;> by_cases h2:a=b <;> by_cases h3:x<y <;> simp[h1,h2,h3]
def Asc(l:List Str):Prop:=l.Pairwise λ x y=>x.l<y.l
theorem asc_ext:∀ {l m:List Str},Asc l->Asc m->(∀ x,x∈l ↔ x∈m)->l=m
 | [],[],_,_,_=>rfl
 | [],b::m,_,_,h=>absurd ((h b).2 (by simp)) (by simp)
 | a::l,[],_,_,h=>absurd ((h a).1 (by simp)) (by simp)
 |
  a::l,b::m,hl,hm,h=>by
  rw[Asc,List.pairwise_cons] at hl hm;have hab:a=b:=by
   rcases List.mem_cons.1 ((h a).1 (by simp)) with e | e
   ·
    exact e
   ·
    rcases List.mem_cons.1 ((h b).2 (by simp)) with e2 | e2
    ·
     exact e2.symm
    ·
     exact absurd (List.lt_trans (hm.1 a e) (hl.1 b e2)) (List.lt_irrefl _)
  subst hab;rw[asc_ext hl.2 hm.2 λ x=>?_];constructor
  ·
   intro hx;rcases List.mem_cons.1 ((h x).1 (by simp[hx])) with e | e
   ·
    rw[e] at hx;exact absurd (hl.1 a hx) (List.lt_irrefl _)
   ·
    exact e
  ·
   intro hx;rcases List.mem_cons.1 ((h x).2 (by simp[hx])) with e | e
   ·
    rw[e] at hx;exact absurd (hm.1 a hx) (List.lt_irrefl _)
   ·
    exact e
theorem zbt{l:List Str}(p:Str->Bool)(h:Asc l):Asc (l.filter p):=List.Pairwise.filter _ h
theorem XD{a b:List UInt8}(h:a<=b)(hne:a≠b):a<b:=by
 rcases Decidable.em (a<b) with h' | h'
 ·
  exact h'
 ·
  exact absurd (List.le_antisymm h (List.not_lt.1 h')) hne
theorem QW(d:Array (List UInt8))(hd:∀ i j,i<=j->j<d.size->d[i]! <= d[j]!):∀ m,m<=d.size->
  (Lib.compactUpTo d m).Pairwise (·<·)/\(∀ x,x∈Lib.compactUpTo d m ↔ ∃ j,j<m/\d[j]! = x)
 | 0,_=>⟨by simp[Lib.compactUpTo],λ x=>by simp[Lib.compactUpTo]⟩
 |
  m+1,hm=>by
  obtain⟨h1,h2⟩:=QW d hd m (by omega);rw[Lib.compactUpTo_succ];cases hk:Lib.keeps d m with
  |
   true=>
   rw[if_pos rfl];refine⟨List.pairwise_append.2 ⟨h1,by simp,λ a ha b hb=>?_⟩,λ x=>?_⟩
   ·
    rw[List.mem_singleton] at hb;subst hb;obtain⟨j,hj,rfl⟩:=(h2 a).1 ha;have hk':m=0\/d[m]! ≠ d[m - 1]! := oD hk;rcases hk' with e | e
    ·
     omega
    ·
     have hlt:=XD (hd (m - 1) m (by omega) (by omega)) (Ne.symm e);rcases Decidable.em (d[j]! = d[m - 1]!) with e2 | e2
     ·
      rw[e2];exact hlt
     ·
      exact List.lt_trans (XD (hd j (m - 1) (by omega) (by omega)) e2) hlt
   ·
    rw[List.mem_append,h2,List.mem_singleton];constructor
    ·
     rintro (⟨j,hj,h⟩ | h)
     ·
      exact⟨j,by omega,h⟩
     ·
      exact⟨m,by omega,h.symm⟩
    ·
     rintro ⟨j,hj,h⟩
     by_cases hjm:j=m
     ·
      subst hjm;exact .inr h.symm
     ·
      exact .inl ⟨j,by omega,h⟩
  |
   false=>
   rw[if_neg (by decide),List.append_nil];refine⟨h1,λ x=>?_⟩;rw[h2];have hk':¬ (m=0\/d[m]! ≠ d[m - 1]!):=of_decide_eq_false hk;constructor
   ·
    rintro ⟨j,hj,h⟩;exact⟨j,by omega,h⟩
   ·
    rintro ⟨j,hj,h⟩
    by_cases hjm:j=m
    ·
     subst hjm;refine⟨j - 1,by omega,?_⟩;rw[← h];exact(Decidable.byContradiction λ e=>hk' (.inr (Ne.symm e)))
    ·
     exact⟨j,by omega,h⟩
def XE(xs:List Str):List Str:=qD (XZ xs)
theorem le_dec_trans(a b c:List UInt8)(h1:decide (a<=b)=true)(h2:decide (b<=c)=true):decide (a<=c)=true:=
 decide_eq_true (List.le_trans (oD h1) (oD h2))
theorem le_dec_total(a b:List UInt8):(decide (a<=b)||decide (b<=a))=true:=by
 rcases List.le_total a b with h | h <;> simp[h]
theorem Wq(xs:List Str):Asc (XE xs)/\∀ x,x∈XE xs ↔ x∈xs:=by
 have hs:=List.pairwise_mergeSort (le:=λ x y:List UInt8=>decide (x<=y)) le_dec_trans le_dec_total (xs.map (·.l));have hm:∀ y,y∈(xs.map (·.l)).mergeSort (λ x y=>decide (x<=y)) ↔ y∈xs.map (·.l):=λ y=>List.mem_mergeSort
 unfold XE qD;rw[sortS_l];generalize (xs.map (·.l)).mergeSort (λ x y=>decide (x<=y))=zs at hs hm;have hd:∀ i j,i<=j->j<zs.toArray.size->zs.toArray[i]! <= zs.toArray[j]! := by
  intro i j hij hj;have hj':j<zs.length:=by simpa using hj
  by_cases e:i=j
  ·
   subst e;exact List.le_refl _
  ·
   have:=List.pairwise_iff_getElem.1 hs i j (by omega) hj' (by omega);simpa[getElem!_pos,hj',show i<zs.length by omega] using this
 obtain⟨h1,h2⟩:=QW zs.toArray hd zs.length (by simp);refine⟨?_,λ x=>?_⟩
 ·
  unfold Asc Lib.compact;rw[List.pairwise_map];exact h1
 ·
  have hmem:∀ y,y∈Lib.compact zs ↔ y∈xs.map (·.l):=by
   intro y;rw[← hm];unfold Lib.compact;rw[h2];constructor
   ·
    rintro ⟨j,hj,rfl⟩
    rw[show zs.toArray[j]! = zs[j] from by simp[getElem!_pos,hj]];exact List.getElem_mem hj
   ·
    intro hy;obtain⟨j,hj,rfl⟩:=List.mem_iff_getElem.1 hy;exact⟨j,hj,by simp[getElem!_pos,hj]⟩
  rw[List.mem_map];constructor
  ·
   rintro ⟨y,hy,rfl⟩
   obtain⟨z,hz,rfl⟩:=List.mem_map.1 ((hmem y).1 hy);exact hz
  ·
   intro hx;exact⟨x.l,(hmem _).2 (List.mem_map.2 ⟨x,hx,rfl⟩),rfl⟩
theorem zaN(xs:List Str):(XE xs).length<=xs.length:=by
 unfold XE qD;rw[List.length_map,sortS_l];refine Nat.le_trans (Lib.compact_length_le _) ?_;simp
theorem sorted_eq{xs:List Str}(h:xs.length<=1099511627776):Zf xs=some (XE xs):=by
 have h2:=zaN xs;unfold Zf xq;rw[if_pos (by omega),obS];unfold yR;rw[if_pos (by rw[zac];omega),obS];show(appO 16 [] (XE xs)).bind (λ v11=>some v11)=_;rw[wv (by simp;omega) (by simp;omega)];rfl
theorem gtr_lt{x y:Str}:cmpS .gtr x y=decide (y.l<x.l):=by
 show(!(Op.bytesLess x.l y.l||decide (x=y)))=_;rw[bytesLt];by_cases h:x=y
 ·
  subst h;simp[List.lt_irrefl]
 ·
  have hne:x.l≠y.l:=λ e=>h (by cases x;cases y;simp_all)
  by_cases h2:x.l<y.l
  ·
   have:¬ y.l<x.l:=λ h3=>List.lt_irrefl _ (List.lt_trans h2 h3)
   simp[h2,this]
  ·
   have:y.l<x.l:=XD (List.not_lt.1 h2) (Ne.symm hne);simp[h,h2,this]
theorem insPos_le(l:List Str)(s:Str):∀ k,jb l s k<=k
 | 0=>Nat.le_refl _
 |
  k+1=>by
  unfold jb;split
  ·
   split
   ·
    have:=insPos_le l s k;omega
   ·
    exact Nat.le_refl _
  ·
   exact Nat.le_refl _
theorem zaO{l:List Str}{s:Str}:∀ k,k<=l.length->(∀ j y,l[j]?=some y->jb l s k<=j->j<k->s.l<y.l)/\(∀ y,0<jb l s k->l[jb l s k - 1]?=some y->¬ s.l<y.l)
 | 0,_=>⟨λ j _ _ _ h=>absurd h (by omega),λ _ h=>absurd h (by simp[jb])⟩
 |
  k+1,hk=>by
  have hx:l[k]?=some l[k]:=List.getElem?_eq_getElem (by omega);by_cases h:s.l<l[k].l
  ·
   have e:jb l s (k+1)=jb l s k:=by
    conv=>lhs;unfold jb
    rw[hx];simp only;rw[gtr_lt,if_pos (decide_eq_true h)]
   rw[e];obtain⟨h1,h2⟩:=zaO (l:=l) (s:=s) k (by omega);refine⟨λ j y hj hj1 hj2=>?_,h2⟩;by_cases e:j=k
   ·
    subst e;rw[hx] at hj;injection hj with hj;rw[← hj];exact h
   ·
    exact h1 j y hj hj1 (by omega)
  ·
   have e:jb l s (k+1)=k+1:=by
    unfold jb;rw[hx];simp only;rw[gtr_lt,if_neg (by simpa using h)]
   rw[e];refine⟨λ j _ _ h1 h2=>by omega,λ y _ hy=>?_⟩;rw[Nat.add_sub_cancel,hx] at hy;injection hy with hy;rw[← hy];exact h
theorem insertT_asc{l:List Str}{s:Str}(hl:Asc l):Asc (xp l s):=by
 unfold xp;cases hc:Qw l s with
 | true=>exact hl
 |
  false=>
  rw[if_neg (by decide)];have hns:s ∉ l:=λ h=>by rw[zaM.2 h] at hc;cases hc
  obtain⟨h1,h2⟩:=zaO (l:=l) (s:=s) l.length (Nat.le_refl _);have hle:=insPos_le l s l.length;generalize jb l s l.length=p at*;have hpw:=List.pairwise_iff_getElem.1 hl;have hlow:∀ a∈l.take p,a.l<s.l:=by
   intro a ha;obtain⟨i,hi,rfl⟩:=List.mem_take_iff_getElem.1 ha;have hp:=h2 l[p - 1] (by omega) (List.getElem?_eq_getElem (by omega));have hlt:l[p - 1].l<s.l:=XD (List.not_lt.1 hp) λ e=>hns (by
    have:l[p - 1]=s:=by
     cases hq:l[p - 1] with
     | mk q=>rw[hq] at e;cases s;simp_all
    rw[← this];exact List.getElem_mem _)
   by_cases e:i=p - 1
   ·
    subst e;exact hlt
   ·
    exact List.lt_trans (hpw i (p - 1) (by omega) (by omega) (by omega)) hlt
  have hhigh:∀ b∈l.drop p,s.l<b.l:=by
   intro b hb;obtain⟨i,hi,rfl⟩:=List.mem_drop_iff_getElem.1 hb;exact h1 _ _ (List.getElem?_eq_getElem _) (by omega) (by omega)
  unfold Asc;rw[List.append_assoc,List.pairwise_append];refine⟨hl.sublist (List.take_sublist _ _),?_,λ a ha b hb=>?_⟩
  ·
   rw[List.singleton_append,List.pairwise_cons];exact⟨hhigh,hl.sublist (List.drop_sublist _ _)⟩
  ·
   rw[List.singleton_append,List.mem_cons] at hb;rcases hb with rfl | hb
   ·
    exact hlow a ha
   ·
    exact List.lt_trans (hlow a ha) (hhigh b hb)
theorem insertAll_asc{m l:List Str}(hl:Asc l):Asc (m.foldl xp l):=by
 induction m generalizing l with
 | nil=>exact hl
 | cons x m ih=>rw[List.foldl_cons];exact ih (insertT_asc hl)
section
variable{S β:Type}
theorem Ju{step:S->Option (S⊕β)}(n:Nat)(mk:Nat->S){b:β}(h:∀ k,k<n->step (mk k)=some (.inl (mk (k+1))))(hend:step (mk n)=some (.inr b))(hn:n<576460752303423488){s:S}(hs:s=mk 0):zB step s=some b:=by
 subst hs;have key:∀ m k,k+m=n->wi step (m+1) (mk k)=some b:=by
  intro m
  induction m with
  | zero=>intro k hk;rw[show k=n by omega];exact yf hend
  | succ m ih=>intro k hk;rw[wc (h k (by omega))];exact ih (k+1) (by omega)
 exact wm (key n 0 (by omega)) (by omega)
end
theorem get_some{α:Type}{l:List α}{k:Nat}(h:k<l.length):∃ x,l[k]?=some x/\x∈l:=⟨l[k],List.getElem?_eq_getElem h,List.getElem_mem h⟩
theorem libJoin(l:List (List UInt8)):Lib.join l [46]=X8 l:=by
 cases l with
 | nil=>rfl
 |
  cons a l=>
  rw[J8];rw[Lib.join_cons];rfl
theorem NamesAbove_eq{s:Str}(hs:sho s):xA s=some (if zg s=true then y6 s else[]):=by
 unfold xA;rw[J6 hs,obS];cases hv:zg s with
 |
  false=>
  rw[if_neg (by decide),if_neg (by decide),show zB (λ s7=>yk s [] s7) ([],(0:Int))=some [] from Ju (b:=[]) 0 (λ k=>(([]:List Str),(k:Int))) (λ k hk=>absurd hk (by omega)) (by unfold yk;simp only;rw[if_neg (by decide)]) (by omega) rfl];rfl
 |
  true=>
  obtain⟨hparts,hlen⟩:=yN hv;have hnl:=jM hv;have hl:zB (λ s7=>yk s (zl s dot) s7) ([],(0:Int))=some (y6 s):=by
   refine Ju (b:=y6 s) (zl s dot).length (λ k=>(qr (zl s dot) k,(k:Int))) (λ k hk=>?_) (by unfold yk;simp only;rw[zC,if_neg (by simp)];rfl) (by omega) rfl;unfold yk;simp only;have hj:qE ((zl s dot).take (k+1)) (⟨[46]⟩:Str)=some (join ((zl s dot).take (k+1))):=by
    have hb:=join_le (zl s dot) (k+1);rw[Zy] at hb;have e:(⟨Lib.join (((zl s dot).take (k+1)).map (·.l)) [46]⟩:Str)=join ((zl s dot).take (k+1)):=by rw[libJoin,J9]
    unfold qE;rw[if_pos ⟨by simp;omega,by
     have:=congrArg (λ x:Str=>x.l.length) e;simp only at this;rw[this];omega⟩]
    exact congrArg some e
   rw[zC,if_pos (decide_eq_true hk),J6 hs,hv,if_pos rfl,obS,zF (by omega),obS,zao (by omega),obS,hj,obS,wv (by simp[YP];omega) (by simp[YP];omega),obS,obS,XL]
  rw[if_pos rfl,if_pos rfl,hl];rfl
theorem validTree_len{t:Tree}(h:zH t=true):t.files.length<=12:=by
 unfold zH at h;rw[Bool.and_eq_true] at h;have:=h.2;simp[cmpI] at this;omega
theorem above_len(s:Str):(y6 s).length=(zl s dot).length:=YP _ _
theorem zaP{s x:Str}(h:zg s=true)(hx:x∈y6 s):zg x=true:=by
 unfold y6 qr at hx;obtain⟨i,_,rfl⟩:=List.mem_map.1 hx;exact zbr h i
theorem yO{x:Str}(h:zg x=true):sho x:=by have:=jM h;unfold sho;omega
open Go.RowKit
def Okd{α:Type}[Rep α](x:α):Prop:=∃ M w cs,Rep.rdc M w cs x
section
variable{α β:Type}[Rep α][Rep β]
theorem Okd.fld{get:α->β}{off:Nat}(f:Fld get off){x:α}(h:Okd x):Okd (get x):=by
 obtain⟨M,w,cs,hr⟩:=h;obtain⟨c,_,h2⟩:=f.sub hr;exact⟨M,w,c,h2⟩
theorem Okd.str{s:Str}(h:Okd s):s.l.length<=9223372036854775807:=by
 obtain⟨M,w,cs,hr⟩:=h;exact hr.2
theorem Okd.len{xs:List α}(h:Okd xs):xs.length<=9223372036854775807:=by
 obtain⟨M,w,cs,A,c,_,h1,h2,_⟩:=h;exact Nat.le_trans h1 h2
theorem rowR_okd{M:Nat->Prop}{w:World}:∀ {cells:List Value} {xs:List α},rowR M w cells xs->∀ x∈xs,Okd x
 | _,_::_,⟨c,_r,_,h1,h2⟩,x,hx=>(List.mem_cons.1 hx).elim (λ e=>e ▸ ⟨M,w,c,h1⟩) (rowR_okd h2 x)
theorem Okd.mem{xs:List α}(h:Okd xs){x:α}(hx:x∈xs):Okd x:=by
 obtain⟨M,w,cs,A,c,_,_,_,h3⟩:=h;rcases h3 with h3 | ⟨b,o,cells,_,_,_,hr⟩
 ·
  rw[h3] at hx;cases hx
 ·
  exact rowR_okd hr x hx
theorem RdAll.okd{M:Nat->Prop}{w:World}{vs:List Value}{xs:List Dt}(hr:RdAll M w vs xs){x:α}(hx:dt x∈xs):Okd x:=by
 induction hr with
 | nil=>cases hx
 |
  cons h r ih=>
  rcases List.mem_cons.1 hx with e | hx
  ·
   rw[← e] at h;obtain⟨cs,h1,_⟩:=h;exact⟨M,w,cs,h1⟩
  ·
   exact ih hx
theorem Fn.okd{P:Program}{f:FuncId}{xs:List Dt}{y:Dt}{x:α}(hx:dt x∈xs)(h:Okd x->Fn P f xs y):Fn P f xs y:=λ M w vs hm hr=>h (hr.okd hx) M w vs hm hr
end
section
variable{α β σ S:Type}
theorem neq_len{m n:Nat}:cmpI .neq (m:Int) (n:Int)=!decide (m=n):=by
 by_cases h:m=n
 ·
  simp[cmpI,h]
 ·
  simp[cmpI,h];omega
theorem set_at{xs:List α}{z:α}{k:Nat}(hk:k<xs.length):(xs.take k++List.replicate (xs.length - k) z).set k xs[k]=xs.take (k+1)++List.replicate (xs.length - (k+1)) z:=by
 rw[List.set_append_right _ _ (by rw[List.length_take];omega),List.length_take,Nat.min_eq_left (by omega),Nat.sub_self,show xs.length - k=(xs.length - (k+1))+1 by omega,List.replicate_succ,List.set_cons_zero,List.take_add_one,List.getElem?_eq_getElem hk];simp only[Option.toList_some,List.append_assoc,List.singleton_append]
theorem at_at{xs:List α}{z:α}{k:Nat}(hk:k<xs.length):(xs.take k++List.replicate (xs.length - k) z)[k]?=some z:=by
 rw[List.getElem?_append_right (by rw[List.length_take];omega),List.length_take,Nat.min_eq_left (by omega),Nat.sub_self,List.getElem?_replicate,if_pos (by omega)]
theorem len_at{xs:List α}{z:α}{k:Nat}(hk:k<xs.length):k<(xs.take k++List.replicate (xs.length - k) z).length:=by
 rw[List.length_append,List.length_take,List.length_replicate];omega
theorem zap{step:List α×Int->Option ((List α×Int)⊕List α)}(xs:List α)(z:α)
  (h:∀ k (hk:k<xs.length),step (xs.take k++List.replicate (xs.length - k) z,(k:Int))=some (.inl ((xs.take k++List.replicate (xs.length - k) z).set k xs[k],((k+1:Nat):Int))))
  (hend:∀ ys,step (ys,(xs.length:Int))=some (.inr ys)) (hlen:xs.length<576460752303423488) {s0:List α×Int} (h0:s0=(List.replicate xs.length z,0)):zB step s0=some xs:=by
 have key:∀ m k,k+m=xs.length->wi step (m+1) (xs.take k++List.replicate (xs.length - k) z,(k:Int))=some xs:=by
  intro m
  induction m with
  |
   zero=>
   intro k hk;have:k=xs.length:=by omega
   subst this;rw[yf (hend _)];simp
  |
   succ m ih=>
   intro k hk;have hlt:k<xs.length:=by omega
   rw[wc (h k hlt),set_at hlt];exact ih (k+1) (by omega)
 have h1:=key xs.length 0 (by omega);subst h0;exact wm (by simpa using h1) (by omega)
theorem makeO_of{size bytes n:Nat}{z:α}(h1:n*size<=16777216)(h2:bytes*n<=281474976710656)(h3:n<=9223372036854775807):WD size bytes (n:Int) z=some (List.replicate n z):=by
 unfold WD;rw[if_pos ⟨by omega,by simpa using h1,by simpa using h2,by omega⟩];simp
theorem eq_loop[DecidableEq α]{step:Int->Option (Int⊕(Unit⊕Bool))}(xs ys:List α)(hxy:xs.length=ys.length)
  (h:∀ k (hk:k<xs.length) (hk2:k<ys.length),step (k:Int)=some (if xs[k]=ys[k] then .inl ((k+1:Nat):Int) else .inr (.inr false)))
  (hend:step (xs.length:Int)=some (.inr (.inl ()))) (hlen:xs.length<576460752303423488):Option.bind (α:=Unit⊕Bool) (zB step 0) (Sum.elim (λ _=>some true) some)=some (decide (xs=ys)):=by
 have key:∀ m k,k+m=xs.length->xs.take k=ys.take k->∃ r,wi step (m+1) (k:Int)=some r/\(Sum.elim (λ _=>some true) some r:Option Bool)=some (decide (xs=ys)):=by
  intro m
  induction m with
  |
   zero=>
   intro k hk he;have:k=xs.length:=by omega
   subst this;refine⟨_,yf hend,?_⟩;rw[List.take_length,hxy,List.take_length] at he;simp[he]
  |
   succ m ih=>
   intro k hk he;have hlt:k<xs.length:=by omega
   have hlt2:k<ys.length:=by omega
   have hs:=h k hlt hlt2;by_cases e:xs[k]=ys[k]
   ·
    rw[if_pos e] at hs;rw[wc hs];refine ih (k+1) (by omega) ?_;rw[List.take_add_one,List.take_add_one,he,List.getElem?_eq_getElem hlt,List.getElem?_eq_getElem hlt2,e]
   ·
    rw[if_neg e] at hs;refine⟨_,yf hs,?_⟩;have:xs≠ys:=λ h=>by subst h;exact e rfl
    simp[this]
 obtain⟨r,h1,h2⟩:=key xs.length 0 (by omega) rfl;have h1':wi step (xs.length+1) (0:Int)=some r:=h1;rw[wm h1' (by omega),obS];exact h2
def szR(t:Nat)(left:Int):Int:=if(t:Int)<=left then left - t else -1
theorem szR_neg{t:Nat}{left:Int}:szR t left<0 ↔ left<t:=by unfold szR;split <;> omega
theorem szR_nn{t:Nat}{left:Int}(h:0<=szR t left):(t:Int)<=left/\szR t left=left - t:=by
 unfold szR at h ⊢;split at h
 ·
  rename_i h1;rw[if_pos h1];exact⟨h1,rfl⟩
 ·
  omega
def sumL(f:α->Nat):List α->Nat
 | []=>0
 | x::xs=>f x+sumL f xs
theorem X9{f:α->Nat}:∀ {xs:List α} {x:α},x∈xs->f x<=sumL f xs
 |
  y::ys,x,hx=>by
  unfold sumL;rcases List.mem_cons.1 hx with rfl | hx
  ·
   omega
  ·
   have:=X9 (f:=f) hx;omega
theorem sumL_drop{f:α->Nat}{xs:List α}{k:Nat}(hk:k<xs.length):sumL f (xs.drop k)=f xs[k]+sumL f (xs.drop (k+1)):=by
 rw[List.drop_eq_getElem_cons hk];rfl
theorem sz_loop{step:Int×Int->Option ((Int×Int)⊕(Int⊕Int))}(xs:List α)(f:α->Nat)
  (h:∀ k (hk:k<xs.length) (l:Int),0<=l->l<=1048576->step (l,(k:Int))=some (if szR (f xs[k]) l<0 then .inr (.inr (-1)) else .inl (szR (f xs[k]) l,((k+1:Nat):Int))))
  (hend:∀ l,step (l,(xs.length:Int))=some (.inr (.inl l))) (hlen:xs.length<576460752303423488) {l0:Int} (h0:0<=l0) (h1:l0<=1048576):
  Option.bind (α:=Int⊕Int) (zB step (l0,0)) (Sum.elim (λ l=>some l) some)=some (szR (sumL f xs) l0):=by
 have key:∀ m k l,k+m=xs.length->0<=l->l<=1048576->∃ r,wi step (m+1) (l,(k:Int))=some r/\(Sum.elim (λ l=>some l) some r:Option Int)=some (szR (sumL f (xs.drop k)) l):=by
  intro m
  induction m with
  |
   zero=>
   intro k l hk hl hl2;have:k=xs.length:=by omega
   subst this;refine⟨_,yf (hend l),?_⟩;rw[List.drop_length];show some l=some (szR 0 l)
   congr 1
   unfold szR;rw[if_pos (by omega)];simp
  |
   succ m ih=>
   intro k l hk hl hl2;have hlt:k<xs.length:=by omega
   have hs:=h k hlt l hl hl2;rw[sumL_drop hlt];by_cases e:szR (f xs[k]) l<0
   ·
    rw[if_pos e] at hs;refine⟨_,yf hs,?_⟩;show some (-1:Int)=_
    congr 1
    rw[szR_neg] at e;unfold szR;rw[if_neg (by omega)]
   ·
    rw[if_neg e] at hs;obtain⟨e1,e2⟩:=szR_nn (t:=f xs[k]) (left:=l) (by omega);obtain⟨r,r1,r2⟩:=ih (k+1) (szR (f xs[k]) l) (by omega) (by omega) (by omega);refine⟨r,by rw[wc hs];exact r1,?_⟩;rw[r2]
    congr 1
    rw[e2];unfold szR;by_cases e3:(sumL f (xs.drop (k+1)):Int)<=l - f xs[k]
    ·
     rw[if_pos e3,if_pos (by omega)];omega
    ·
     rw[if_neg e3,if_neg (by omega)]
 obtain⟨r,r1,r2⟩:=key xs.length 0 l0 (by omega) h0 h1;have r1':wi step (xs.length+1) (l0,(0:Int))=some r:=r1;rw[wm r1' (by omega),obS];simpa using r2
theorem mark_loop{T:Type}{step:List α×Int×Int->Option ((List α×Int×Int)⊕T)}(fin:List α->Int->T){held:List α->Int×Int->Option ((Int×Int)⊕(Int⊕Int))}(xs:List α)(B:Nat)(C:Int)
  (h:∀ (ys:List α) (k:Int) (i:Nat) (hi:i<ys.length),ys.length=xs.length->ys[i]∈xs->0<=k->k<=C->∃ y k',step (ys,k,(i:Int))=some (.inl (ys.set i y,k',((i+1:Nat):Int)))/\k<=k'/\k'<=k+B/\
   ∀ zs:List α,zs.length=xs.length->zs[i]?=some y->held zs (k,(i:Int))=some (.inl (k',((i+1:Nat):Int))))
  (hend:∀ (ys:List α) (k:Int),ys.length=xs.length->step (ys,k,(xs.length:Int))=some (.inr (fin ys k)))
  (hend2:∀ (ys:List α) (k:Int),ys.length=xs.length->held ys (k,(xs.length:Int))=some (.inr (.inl k)))
  (hlen:xs.length<576460752303423488) {k0:Int} (h0:0<=k0) (hB:k0+B*xs.length<=C):
  ∃ ys k',zB step (xs,k0,0)=some (fin ys k')/\ys.length=xs.length/\k0<=k'/\k'<=k0+B*xs.length/\zB (held ys) (k0,0)=some (.inl k'):=by
 have key:∀ m i (ys:List α) (k:Int),i+m=xs.length->ys.length=xs.length->(∀ j,i<=j->ys[j]?=xs[j]?)->0<=k->k+B*m<=C->
   ∃ ys' k',wi step (m+1) (ys,k,(i:Int))=some (fin ys' k')/\ys'.length=xs.length/\ys'.take i=ys.take i/\k<=k'/\k'<=k+B*m/\wi (held ys') (m+1) (k,(i:Int))=some (.inl k'):=by
  intro m
  induction m with
  |
   zero=>
   intro i ys k hi hl hd hk hB;have:i=xs.length:=by omega
   subst this;exact⟨ys,k,yf (hend ys k hl),hl,rfl,by omega,by omega,yf (hend2 ys k hl)⟩
  |
   succ m ih=>
   intro i ys k hi hl hd hk hB;have hlt:i<ys.length:=by omega
   have hlt2:i<xs.length:=by omega
   have hm:ys[i]∈xs:=by
    have h1:=hd i (Nat.le_refl _);rw[List.getElem?_eq_getElem hlt,List.getElem?_eq_getElem hlt2] at h1;injection h1 with h1;rw[h1];exact List.getElem_mem hlt2
   have hBm:(B:Int)*((m+1:Nat):Int)=B*m+B:=by
    rw[Int.natCast_add,Int.mul_add];simp
   have hBm0:(0:Int)<=B*m:=Int.mul_nonneg (by omega) (by omega);obtain⟨y,k',h1,h2,h3,h4⟩:=h ys k i hlt hl hm hk (by omega);obtain⟨ys',k2,r1,r2,r3,r4,r5,r6⟩:=ih (i+1) (ys.set i y) k' (by omega) (by rw[List.length_set];exact hl) (λ j hj=>by rw[List.getElem?_set_ne (by omega)];exact hd j (by omega)) (by omega) (by omega);have hy:ys'[i]?=some y:=by
    have e1:=congrArg (λ l=>l[i]?) r3;simp only[List.getElem?_take,if_pos (Nat.lt_succ_self i)] at e1;rw[e1,List.getElem?_set_self hlt]
   refine⟨ys',k2,by rw[wc h1];exact r1,r2,?_,by omega,by omega,by rw[wc (h4 ys' r2 hy)];exact r6⟩;apply List.ext_getElem?;intro j;rw[List.getElem?_take,List.getElem?_take];by_cases hj:j<i
   ·
    rw[if_pos hj,if_pos hj];have e1:=congrArg (λ l=>l[j]?) r3;simp only[List.getElem?_take,if_pos (show j<i+1 by omega)] at e1;rw[e1,List.getElem?_set_ne (by omega)]
   ·
    rw[if_neg hj,if_neg hj]
 obtain⟨ys',k',r1,r2,_,r4,r5,r6⟩:=key xs.length 0 xs k0 (by omega) rfl (λ _ _=>rfl) h0 hB;exact⟨ys',k',wm r1 (by omega),r2,r4,r5,wm r6 (by omega)⟩
theorem zaq{T:Type}{step:List α×Int×Int->Option ((List α×Int×Int)⊕T)}(fin:List α->Int->T)(xs:List α)(B:Nat)(C:Int)
  (h:∀ (ys:List α) (k:Int) (i:Nat) (hi:i<ys.length),ys.length=xs.length->ys[i]∈xs->0<=k->k<=C->∃ y k',step (ys,k,(i:Int))=some (.inl (ys.set i y,k',((i+1:Nat):Int)))/\k<=k'/\k'<=k+B)
  (hend:∀ (ys:List α) (k:Int),ys.length=xs.length->step (ys,k,(xs.length:Int))=some (.inr (fin ys k)))
  (hlen:xs.length<576460752303423488) {k0:Int} (h0:0<=k0) (hB:k0+B*xs.length<=C):
  ∃ ys k',zB step (xs,k0,0)=some (fin ys k')/\ys.length=xs.length/\k0<=k'/\k'<=k0+B*xs.length:=by
 have key:∀ m i (ys:List α) (k:Int),i+m=xs.length->ys.length=xs.length->(∀ j,i<=j->ys[j]?=xs[j]?)->0<=k->k+B*m<=C->
   ∃ ys' k',wi step (m+1) (ys,k,(i:Int))=some (fin ys' k')/\ys'.length=xs.length/\k<=k'/\k'<=k+B*m:=by
  intro m
  induction m with
  |
   zero=>
   intro i ys k hi hl hd hk hB;have:i=xs.length:=by omega
   subst this;exact⟨ys,k,yf (hend ys k hl),hl,by omega,by omega⟩
  |
   succ m ih=>
   intro i ys k hi hl hd hk hB;have hlt:i<ys.length:=by omega
   have hlt2:i<xs.length:=by omega
   have hm:ys[i]∈xs:=by
    have h1:=hd i (Nat.le_refl _);rw[List.getElem?_eq_getElem hlt,List.getElem?_eq_getElem hlt2] at h1;injection h1 with h1;rw[h1];exact List.getElem_mem hlt2
   have hBm:(B:Int)*((m+1:Nat):Int)=B*m+B:=by
    rw[Int.natCast_add,Int.mul_add];simp
   have hBm0:(0:Int)<=B*m:=Int.mul_nonneg (by omega) (by omega);obtain⟨y,k',h1,h2,h3⟩:=h ys k i hlt hl hm hk (by omega);obtain⟨ys',k2,r1,r2,r4,r5⟩:=ih (i+1) (ys.set i y) k' (by omega) (by rw[List.length_set];exact hl) (λ j hj=>by rw[List.getElem?_set_ne (by omega)];exact hd j (by omega)) (by omega) (by omega);exact⟨ys',k2,by rw[wc h1];exact r1,r2,by omega,by omega⟩
 obtain⟨ys',k',r1,r2,r4,r5⟩:=key xs.length 0 xs k0 (by omega) rfl (λ _ _=>rfl) h0 hB;exact⟨ys',k',wm r1 (by omega),r2,r4,r5⟩
end
open Go.RowKit
section
variable{α:Type}
theorem szS_len{len:Nat}{l:Int}(hl:0<=l)(h2:l<=1048576)(hlen:len<=9223372036854775807){K:Int->Option Int}{t:Nat}(hK:∀ l',0<=l'->l'<=1048576->K l'=some (szR t l')):
  ((i64 (l - (len:Int))).bind λ v=>if cmpI .lss v (0:Int)=true then some (-1:Int) else K v)=some (szR (len+t) l):=by
 rw[Xp (by omega) (by omega),obS];cases h:cmpI .lss (l - (len:Int)) 0 with
 |
  true=>
  have h':l - (len:Int)<0:=oD h;rw[if_pos rfl];unfold szR;rw[if_neg (by omega)]
 |
  false=>
  have h':¬ l - (len:Int)<0:=of_decide_eq_false h;rw[if_neg (by decide),hK _ (by omega) (by omega)]
  congr 1
  unfold szR;by_cases e:(t:Int)<=l - len
  ·
   rw[if_pos e,if_pos (by omega)];omega
  ·
   rw[if_neg e,if_neg (by omega)]
theorem szS_sub{t1 t:Nat}{l:Int}{m:Option Int}(hl:0<=l)(h2:l<=1048576)(hm:m=some (szR t1 l)){K:Int->Option Int}(hK:∀ l',0<=l'->l'<=1048576->K l'=some (szR t l')):
  (m.bind λ v=>if cmpI .lss v (0:Int)=true then some (-1:Int) else K v)=some (szR (t1+t) l):=by
 rw[hm,obS];cases h:cmpI .lss (szR t1 l) 0 with
 |
  true=>
  have h':szR t1 l<0:=oD h;rw[szR_neg] at h';rw[if_pos rfl];unfold szR;rw[if_neg (by omega)]
 |
  false=>
  have h':¬ szR t1 l<0:=of_decide_eq_false h;obtain⟨e1,e2⟩:=szR_nn (t:=t1) (left:=l) (by omega);rw[if_neg (by decide),hK _ (by omega) (by omega),e2]
  congr 1
  unfold szR;by_cases e:(t:Int)<=l - t1
  ·
   rw[if_pos e,if_pos (by omega)];omega
  ·
   rw[if_neg e,if_neg (by omega)]
theorem szS_end{l:Int}(h:0<=l):some l=some (szR 0 l):=by
 congr 1
 unfold szR;rw[if_pos (by omega)];simp
theorem szS_list{step:Int×Int->Option ((Int×Int)⊕(Int⊕Int))}{xs:List α}{f:α->Nat}{l:Int}(hlen:xs.length<=9223372036854775807)
  (h:∀ k (hk:k<xs.length) (l:Int),xs.length<=1048576->0<=l->l<=1048576->step (l,(k:Int))=some (if szR (f xs[k]) l<0 then .inr (.inr (-1)) else .inl (szR (f xs[k]) l,((k+1:Nat):Int))))
  (hend:∀ l,step (l,(xs.length:Int))=some (.inr (.inl l))) (hl:0<=l) (h2:l<=1048576):
  ((i64 (l - (xs.length:Int))).bind λ v=>if cmpI .lss v (0:Int)=true then some (-1:Int) else Option.bind (α:=Int⊕Int) (zB step (v,(0:Int))) (Sum.elim (λ b=>some b) some))=some (szR (xs.length+sumL f xs) l):=by
 rw[Xp (by omega) (by omega),obS];cases hc:cmpI .lss (l - (xs.length:Int)) 0 with
 |
  true=>
  have h':l - (xs.length:Int)<0:=oD hc;rw[if_pos rfl];unfold szR;rw[if_neg (by omega)]
 |
  false=>
  have h':¬ l - (xs.length:Int)<0:=of_decide_eq_false hc;rw[if_neg (by decide),sz_loop xs f (λ k hk l h3 h4=>h k hk l (by omega) h3 h4) hend (by omega) (by omega) (by omega)]
  congr 1
  unfold szR;by_cases e:(sumL f xs:Int)<=l - xs.length
  ·
   rw[if_pos e,if_pos (by omega)];omega
  ·
   rw[if_neg e,if_neg (by omega)]
variable{q:Prop}[Decidable q]{K:Option Bool}
theorem QX{a b:Int}(hK:K=some (decide q)):(if cmpI .neq a b=true then some false else K)=some (decide (a=b/\q)):=by
 rw[hK];by_cases h:a=b
 ·
  simp[cmpI,h]
 ·
  simp[cmpI,h]
theorem eqS_str{a b:Str}(hK:K=some (decide q)):(if decide (a≠b)=true then some false else K)=some (decide (a=b/\q)):=by
 rw[hK];by_cases h:a=b
 ·
  simp[h]
 ·
  simp[h]
theorem eqS_bool{a b:Bool}(hK:K=some (decide q)):(if(a != b)=true then some false else K)=some (decide (a=b/\q)):=by
 rw[hK];by_cases h:a=b
 ·
  simp[h]
 ·
  simp[h]
theorem eqS_sub[DecidableEq α]{a b:α}{m:Option Bool}(hm:m=some (decide (a=b)))(hK:K=some (decide q)):(m.bind λ v=>if(!v)=true then some false else K)=some (decide (a=b/\q)):=by
 rw[hm,hK,obS];by_cases h:a=b
 ·
  simp[h]
 ·
  simp[h]
theorem eqS_end:some true=some (decide True):=by simp
theorem Ja[DecidableEq α]{step:Int->Option (Int⊕(Unit⊕Bool))}{xs ys:List α}
  (h:∀ k (hk:k<xs.length) (hk2:k<ys.length),step (k:Int)=some (if xs[k]=ys[k] then .inl ((k+1:Nat):Int) else .inr (.inr false)))
  (hend:step (xs.length:Int)=some (.inr (.inl ()))) (hlen:xs.length<576460752303423488):
  (if cmpI .neq (xs.length:Int) (ys.length:Int)=true then some false else Option.bind (α:=Unit⊕Bool) (zB step 0) (Sum.elim (λ _=>some true) some))=some (decide (xs=ys)):=by
 rw[neq_len];by_cases e:xs.length=ys.length
 ·
  rw[if_neg (by simp[e]),eq_loop xs ys e h hend hlen]
 ·
  rw[if_pos (by simp[e])];have:xs≠ys:=λ h=>e (by rw[h])
  simp[this]
end
theorem i64_in{n:Int}(h1:0<=n)(h2:n<=4611686018427387904):i64 n=some n:=Xp (by omega) (by omega)
theorem modO_of{m n:Int}(h:n≠0):modO m n=some (m.tmod n):=if_neg h
theorem divO_of{m n:Int}(h:n≠0)(h2:0<=m.tdiv n)(h3:m.tdiv n<=9223372036854775807):divO m n=some (m.tdiv n):=if_neg (by omega)
theorem ZA{α:Type}{xs:List α}{k:Nat}(hk:k<xs.length):cmpI .lss (k:Int) (xs.length:Int)=true:=by rw[zC];exact decide_eq_true hk
theorem Yl{α:Type}{xs:List α}:cmpI .lss (xs.length:Int) (xs.length:Int)=false:=by rw[zC];simp
theorem lss_at'{α:Type}{xs:List α}{n k:Nat}(h:xs.length=n)(hk:k<n):cmpI .lss (k:Int) (xs.length:Int)=true:=by rw[zC];exact decide_eq_true (by omega)
theorem Xr{α:Type}{xs:List α}{n:Nat}(h:xs.length=n):cmpI .lss (n:Int) (xs.length:Int)=false:=by rw[zC,h];simp
theorem qf{α:Type}{xs:List α}{k:Nat}(hk:k<xs.length):atI xs (k:Int)=some xs[k]:=by rw[zR,List.getElem?_eq_getElem hk]
theorem ZE(k:Nat):(k:Int).toNat=k:=rfl
open Go.RowKit
def txt(k:Int):Str:=(yg k).getD ⟨[]⟩
theorem neq_self(n:Int):cmpI .neq n n=false:=by simp[cmpI]
theorem markText_ex{k:Int}(h1:0<=k)(h2:k<=4611686018427387904):∃ s,yg k=some s:=by
 unfold yg;by_cases hk:k<=0
 ·
  rw[if_pos (by simp[cmpI,hk])];exact⟨_,rfl⟩
 ·
  rw[if_neg (by simp[cmpI];omega)];have key:∀ (m:Nat) (n:Int) (s:Str),0<=n->n<10 ^ m->n<=4611686018427387904->m<=20->(s.l.length:Int)<=40 - m->∃ o,wi (λ s8=>yJ s8) (m+1) (n,s)=some o/\o.l.length<=40:=by
   intro m
   induction m with
   |
    zero=>
    intro n s h1 h2 _ _ h4;have hn:n=0:=by simp at h2;omega
    subst hn;refine⟨s,yf ?_,by omega⟩;unfold yJ;rfl
   |
    succ m ih=>
    intro n s h1 h2 hb h3 h4;have h5:n.tdiv 10=n / 10:=Int.tdiv_eq_ediv_of_nonneg h1;have h6:n.tmod 10=n % 10:=Int.tmod_eq_emod_of_nonneg h1;by_cases hn:n<=0
    ·
     refine⟨s,yf ?_,by omega⟩;unfold yJ;rw[if_neg (by simp[cmpI];omega)]
    ·
     have hs:yJ (n,s)=some (.inl (n / 10,⟨[toB (48+n % 10)]++s.l⟩)):=by
      unfold yJ;simp only;rw[if_pos (by simp[cmpI];omega),modO_of (by decide),obS,h6,Xp (by omega) (by omega),obS,Wo (by simp;omega),obS,divO_of (by decide) (by omega) (by omega),h5];rfl
     rw[wc hs];refine ih (n / 10) _ (by omega) ?_ (by omega) (by omega) (by simp;omega);have:(10:Int) ^ (m+1)=10*10 ^ m:=by rw[Int.pow_succ];omega
     omega
  have e:(10:Int) ^ 19=10000000000000000000:=by decide
  obtain⟨o,ho,hl⟩:=key 19 k ⟨[]⟩ h1 (by omega) h2 (by omega) (by simp);rw[wm ho (by decide),obS,Wo (by simp;omega)];exact⟨_,rfl⟩
theorem ZF{k:Int}(h1:0<=k)(h2:k<=4611686018427387904):yg k=some (txt k):=by
 obtain⟨s,hs⟩:=markText_ex h1 h2;rw[txt,hs];rfl
def Wr(x:Stmt):Nat:=x.module.l.length+(x.name.l.length+(0))
theorem szStmt_eq{x:Stmt}{l:Int}(h0:Okd x)(hl:0<=l)(h2:l<=1048576):Zg x l=some (szR (Wr x) l):=by
 unfold Zg Wr;exact szS_len hl h2 ((h0.fld Stmt.fld1)).str (λ v1 l1 u1=>szS_len l1 u1 ((h0.fld Stmt.fld3)).str (λ v2 l2 u2=>szS_end l2))
def Zn(xs:List Stmt):Nat:=xs.length+sumL Wr xs
theorem Jb{x:List Stmt}{n:Nat}(h:Zn x<=n):x.length<=n:=by unfold Zn at h;omega
theorem szStmtS_eq{x:List Stmt}{l:Int}(h0:Okd x)(hl:0<=l)(h2:l<=1048576):qI x l=some (szR (Zn x) l):=by
 unfold qI Zn;refine szS_list h0.len (λ k hk l hn h3 h4=>?_) (λ l=>?_) hl h2
 ·
  unfold jB;simp only[ZA hk,if_true,qf hk,obS,szStmt_eq (h0.mem (List.getElem_mem hk)) h3 h4];by_cases e:szR (Wr x[k]) l<0
  ·
   rw[if_pos (by simp[cmpI,e]),if_pos e]
  ·
   rw[if_neg (by simp[cmpI];omega),if_neg e,zF (by omega)];rfl
 ·
  unfold jB;rw[Yl];rfl
def qo(x:File):Nat:=x.pkg.l.length+(x.name.l.length+(Zn x.body+(0)))
theorem szFile_eq{x:File}{l:Int}(h0:Okd x)(hl:0<=l)(h2:l<=1048576):Zh x l=some (szR (qo x) l):=by
 unfold Zh qo;exact szS_len hl h2 ((h0.fld File.fld1)).str (λ v1 l1 u1=>szS_len l1 u1 ((h0.fld File.fld2)).str (λ v2 l2 u2=>szS_sub l2 u2 (szStmtS_eq (h0.fld File.fld5) l2 u2) (λ v3 l3 u3=>szS_end l3)))
def qP(xs:List File):Nat:=xs.length+sumL qo xs
theorem szFileS_eq{x:List File}{l:Int}(h0:Okd x)(hl:0<=l)(h2:l<=1048576):qJ x l=some (szR (qP x) l):=by
 unfold qJ qP;refine szS_list h0.len (λ k hk l hn h3 h4=>?_) (λ l=>?_) hl h2
 ·
  unfold jC;simp only[ZA hk,if_true,qf hk,obS,szFile_eq (h0.mem (List.getElem_mem hk)) h3 h4];by_cases e:szR (qo x[k]) l<0
  ·
   rw[if_pos (by simp[cmpI,e]),if_pos e]
  ·
   rw[if_neg (by simp[cmpI];omega),if_neg e,zF (by omega)];rfl
 ·
  unfold jC;rw[Yl];rfl
def jl(x:Tree):Nat:=qP x.files+(0)
theorem szTree_eq{x:Tree}{l:Int}(h0:Okd x)(hl:0<=l)(h2:l<=1048576):qy x l=some (szR (jl x) l):=by
 unfold qy jl;exact szS_sub hl h2 (szFileS_eq (h0.fld Tree.fld0) hl h2) (λ v1 l1 u1=>szS_end l1)
theorem eqStmt_eq{x y:Stmt}:Zk x y=some (decide (x=y)):=by
 have e:(x=y)=(x.kind=y.kind/\x.module=y.module/\x.level=y.level/\x.name=y.name/\x.value=y.value/\True):=by cases x;cases y;simp
 unfold Zk;simp only[e];exact QX (eqS_str (QX (eqS_str (QX (eqS_end)))))
theorem eqStmtS_eq{x y:List Stmt}(h:x.length<=288230376151711744):qM x y=some (decide (x=y)):=by
 unfold qM;refine Ja (λ k hk hk2=>?_) ?_ (by omega)
 ·
  unfold jD;simp only[ZA hk,if_true,qf hk,qf hk2,obS,eqStmt_eq,zF (show k<4611686018427387904 by omega)];by_cases e:x[k]=y[k] <;> simp[e]
 ·
  unfold jD;rw[Yl];rfl
theorem eqFile_eq{x y:File}(h:qo x<=288230376151711744):Zl x y=some (decide (x=y)):=by
 have e:(x=y)=(x.root=y.root/\x.pkg=y.pkg/\x.name=y.name/\x.init=y.init/\x.stamp=y.stamp/\x.body=y.body/\True):=by cases x;cases y;simp
 unfold qo at h;unfold Zl;simp only[e];exact QX (eqS_str (eqS_str (eqS_bool (QX (eqS_sub (eqStmtS_eq (Jb (by omega))) (eqS_end))))))
theorem eqFileS_eq{x y:List File}(h:qP x<=288230376151711744):qN x y=some (decide (x=y)):=by
 unfold qP at h;unfold qN;refine Ja (λ k hk hk2=>?_) ?_ (by omega)
 ·
  unfold jE;simp only[ZA hk,if_true,qf hk,qf hk2,obS,eqFile_eq (x:=x[k]) (y:=y[k]) (by have:=X9 (f:=qo) (List.getElem_mem hk);omega),zF (show k<4611686018427387904 by omega)];by_cases e:x[k]=y[k] <;> simp[e]
 ·
  unfold jE;rw[Yl];rfl
theorem eqTree_eq{x y:Tree}(h:jl x<=288230376151711744):wN x y=some (decide (x=y)):=by
 have e:(x=y)=(x.files=y.files/\True):=by cases x;cases y;simp
 unfold jl at h;unfold wN;simp only[e];exact eqS_sub (eqFileS_eq (by omega)) (eqS_end)
def totIntS(xs:List Int):Nat:=xs.length
theorem eqIntS_eq{x y:List Int}(h:x.length<=288230376151711744):wO x y=some (decide (x=y)):=by
 unfold wO;refine Ja (λ k hk hk2=>?_) ?_ (by omega)
 ·
  unfold j0;simp only[ZA hk,if_true,qf hk,qf hk2,obS,zF (show k<4611686018427387904 by omega)];by_cases e:x[k]=y[k] <;> simp[e,cmpI]
 ·
  unfold j0;rw[Yl];rfl
theorem Ws{x y:List Str}(h:x.length<=288230376151711744):yx x y=some (decide (x=y)):=by
 unfold yx;refine Ja (λ k hk hk2=>?_) ?_ (by omega)
 ·
  unfold wC;simp only[ZA hk,if_true,qf hk,qf hk2,obS,zF (show k<4611686018427387904 by omega)];by_cases e:x[k]=y[k] <;> simp[e]
 ·
  unfold wC;rw[Yl];rfl
theorem toStmt_eq{x:Stmt}:Zi x=some x:=by
 unfold Zi;cases x;rfl
theorem toStmtS_eq{x:List Stmt}(h:Zn x<=1048576):qK x=some x:=by
 unfold Zn at h;unfold qK;rw[makeO_of (by omega) (by omega) (by omega),obS];have hl:zB (λ s=>wn x s) (List.replicate x.length zStmt,0)=some x:=by
  refine zap x zStmt (λ k hk=>?_) (λ ys=>?_) (by omega) rfl
  ·
   unfold wn;simp only[ZA hk,if_true,qf hk,obS,toStmt_eq,zR,at_at hk,QO (len_at hk),zF (show k<4611686018427387904 by omega)]
  ·
   unfold wn;rw[Yl];rfl
 rw[hl];rfl
theorem toFile_eq{x:File}(h:qo x<=1048576):Zj x=some x:=by
 unfold qo at h;unfold Zj;rw[toStmtS_eq (x:=x.body) (by omega),obS]
theorem toFileS_eq{x:List File}(h:qP x<=1048576):qL x=some x:=by
 unfold qP at h;unfold qL;rw[makeO_of (by omega) (by omega) (by omega),obS];have hl:zB (λ s=>wo x s) (List.replicate x.length zFile,0)=some x:=by
  refine zap x zFile (λ k hk=>?_) (λ ys=>?_) (by omega) rfl
  ·
   unfold wo;simp only[ZA hk,if_true,qf hk,obS,toFile_eq (x:=x[k]) (by have:=X9 (f:=qo) (List.getElem_mem hk);omega),zR,at_at hk,zF (show k<4611686018427387904 by omega),ZE]
  ·
   unfold wo;rw[Yl];rfl
 rw[hl];rfl
theorem toTree_eq{x:Tree}(h:jl x<=1048576):yM x=some x:=by
 unfold jl at h;unfold yM;rw[toFileS_eq (x:=x.files) (by omega),obS]
theorem toIntS_eq{x:List Int}(h:totIntS x<=1048576):yj x=some x:=by
 unfold totIntS at h;unfold yj;rw[makeO_of (by omega) (by omega) (by omega),obS];have hl:zB (λ s=>wV x s) (List.replicate x.length zInt,0)=some x:=by
  refine zap x zInt (λ k hk=>?_) (λ ys=>?_) (by omega) rfl
  ·
   unfold wV;simp only[ZA hk,if_true,qf hk,obS,zR,at_at hk,QO (len_at hk),zF (show k<4611686018427387904 by omega)]
  ·
   unfold wV;rw[Yl];rfl
 rw[hl];rfl
theorem markStmtS_ok{x:List Stmt}{k:Int}(h:x.length<=1125899906842624)(h0:0<=k)(hB:k<=1152921504606846976):∃ y k',j3 x k=some (y,k')/\k<=k'/\k'<=k+5*(x.length:Int):=by
 have hl:=zaq (step:=λ s=>xN s) (λ ys k=>(ys,k)) x 5 1170935903116328960 (λ ys k i hi hn hm h1 h2=>?_) (λ ys k hn=>?_) (by omega) h0 (by omega)
 ·
  obtain⟨ys,k',r1,r2,r3,r4⟩:=hl;refine⟨ys,k',?_,r3,by omega⟩
  ·
   unfold j3;rw[r1];rfl
 ·
  unfold xN;refine⟨_,_,by simp only[ZA hi,if_true,qf hi,obS,ZE,i64_in (n:=k+1) (by omega) (by omega),ZF (k:=k+1) (by omega) (by omega),i64_in (n:=k+1+1) (by omega) (by omega),i64_in (n:=k+1+1+1) (by omega) (by omega),ZF (k:=k+1+1+1) (by omega) (by omega),i64_in (n:=k+1+1+1+1) (by omega) (by omega),i64_in (n:=k+1+1+1+1+1) (by omega) (by omega),zF (show i<4611686018427387904 by omega)];rfl,by omega,by omega⟩
 ·
  unfold xN;simp only[Xr hn];rfl
theorem markFileS_ok{x:List File}{k:Int}(h:qP x<=1048576)(h0:0<=k)(hB:k<=576460752303423488):∃ y k',j4 x k=some (y,k')/\k<=k'/\k'<=k+5497563381760:=by
 unfold qP at h;have hl:=zaq (step:=λ s=>xO s) (λ ys k=>(ys,k)) x 5242885 594475150812905472 (λ ys k i hi hn hm h1 h2=>?_) (λ ys k hn=>?_) (by omega) h0 (by omega)
 ·
  obtain⟨ys,k',r1,r2,r3,r4⟩:=hl;refine⟨ys,k',?_,r3,by omega⟩
  ·
   unfold j4;rw[r1];rfl
 ·
  unfold xO;have hm5:=X9 (f:=qo) hm;have hu5:qo ys[i]=ys[i].pkg.l.length+(ys[i].name.l.length+(Zn ys[i].body+(0))):=rfl;have hl5:ys[i].body.length<=1048576:=Jb (by omega);obtain⟨y5,k5,e5,a5,b5⟩:=markStmtS_ok (x:=ys[i].body) (k:=k+1+1+1+1+1) (Jb (n:=1125899906842624) (by omega)) (by omega) (by omega);refine⟨_,_,by simp only[ZA hi,if_true,qf hi,obS,ZE,i64_in (n:=k+1) (by omega) (by omega),ZF (k:=k+1) (by omega) (by omega),i64_in (n:=k+1+1) (by omega) (by omega),ZF (k:=k+1+1) (by omega) (by omega),i64_in (n:=k+1+1+1) (by omega) (by omega),modO_of (m:=k+1+1+1) (n:=3) (by decide),i64_in (n:=k+1+1+1+1) (by omega) (by omega),i64_in (n:=k+1+1+1+1+1) (by omega) (by omega),e5,zF (show i<4611686018427387904 by omega)];rfl,by omega,by omega⟩
 ·
  unfold xO;simp only[Xr hn];rfl
theorem zaQ{x:Tree}{k:Int}(h:jl x<=1048576)(h0:0<=k)(hB:k<=576425567931334656):∃ y k',jr x k=some (y,k')/\k<=k'/\k'<=k+5497563381760:=by
 unfold jl at h;unfold jr;obtain⟨y0,k0,e0,a0,b0⟩:=markFileS_ok (x:=x.files) (k:=k) (by omega) (by omega) (by omega);exact⟨_,k0,by simp only[e0,obS];rfl,by omega,by omega⟩
theorem zaR{x:List Int}{k:Int}(h:x.length<=1125899906842624)(h0:0<=k)(hB:k<=1152921504606846976):∃ y k',js x k=some (y,k')/\k<=k'/\k'<=k+1*(x.length:Int):=by
 have hl:=zaq (step:=λ s=>xX s) (λ ys k=>(ys,k)) x 1 1170935903116328960 (λ ys k i hi hn hm h1 h2=>?_) (λ ys k hn=>?_) (by omega) h0 (by omega)
 ·
  obtain⟨ys,k',r1,r2,r3,r4⟩:=hl;refine⟨ys,k',?_,r3,by omega⟩
  ·
   unfold js;rw[r1];rfl
 ·
  unfold xX;refine⟨_,_,by simp only[ZA hi,if_true,qf hi,obS,ZE,i64_in (n:=k+1) (by omega) (by omega),zF (show i<4611686018427387904 by omega)];rfl,by omega,by omega⟩
 ·
  unfold xX;simp only[Xr hn];rfl
theorem Jc{x:List Str}{k:Int}(h:x.length<=1125899906842624)(h0:0<=k)(hB:k<=1152921504606846976):∃ y k',xi x k=some (y,k')/\k<=k'/\k'<=k+1*(x.length:Int)/\ym y k=some k':=by
 have hl:=mark_loop (held:=λ y s=>xb y s) (step:=λ s=>xa s) (λ ys k=>(ys,k)) x 1 1170935903116328960 (λ ys k i hi hn hm h1 h2=>?_) (λ ys k hn=>?_) (λ ys k hn=>?_) (by omega) h0 (by omega)
 ·
  obtain⟨ys,k',r1,r2,r3,r4,r5⟩:=hl;refine⟨ys,k',?_,r3,by omega,?_⟩
  ·
   unfold xi;rw[r1];rfl
  ·
   unfold ym;rw[r5];rfl
 ·
  unfold xa;refine⟨_,_,by simp only[ZA hi,if_true,qf hi,obS,ZE,ZF (k:=k) (by omega) (by omega),i64_in (n:=k+1) (by omega) (by omega),zF (show i<4611686018427387904 by omega)];rfl,by omega,by omega,λ zs hz hzi=>?_⟩;unfold xb;simp only[lss_at' hz (show i<x.length by omega),if_true,zR,hzi,obS,ne_eq,decide_not,ZF (k:=k) (by omega) (by omega),i64_in (n:=k+1) (by omega) (by omega),zF (show i<4611686018427387904 by omega)]
  first | done | rfl | simp
 ·
  unfold xa;simp only[Xr hn];rfl
 ·
  unfold xb;simp only[Xr hn];rfl
end Go.Proofs.YtobplpdjkfbfoaaGreatDoor
