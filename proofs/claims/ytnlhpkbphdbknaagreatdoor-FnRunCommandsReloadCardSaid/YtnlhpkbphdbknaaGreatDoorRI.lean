import Derived.Test.YtnlhpkbphdbknaaGreatDoorRFb
import Derived.Test.YtnlhpkbphdbknaaGreatDoorRB
import Derived.Test.YtnlhpkbphdbknaaGreatDoorRG
namespace Go.Proofs.YtnlhpkbphdbknaaGreatDoor
section
variable{α β σ S:Type}
theorem zG(xs:List α)(k:Nat):atI xs (k:Int)=xs[k]?:=by simp[atI]
theorem xU{n:Int}(h1:-9223372036854775808<=n)(h2:n<=9223372036854775807):i64 n=some n:=if_pos ⟨h1,h2⟩
theorem z7{k:Nat}(h:k<4611686018427387904):i64 ((k:Int)+1)=some ((k+1:Nat):Int):=by rw[xU (by omega) (by omega)];rfl
theorem xe[Inhabited α](g:Bool)(x:α):gO g (some x)=some (if g=true then x else default):=by unfold gO;split <;> rfl
theorem yZ[Inhabited α](e:Option α):gO true e=e:=rfl
theorem jB[Inhabited α](e:Option α):gO false e=some default:=rfl
theorem zM(k n:Nat):cmpI .lss (k:Int) (n:Int)=decide (k<n):=by simp[cmpI]
theorem yE{b:Nat}{xs ys:List α}(h:(xs.length+ys.length)*b<=140737488355328)(h2:xs.length+ys.length<=9223372036854775807):appO b xs ys=some (xs++ys):=if_pos ⟨h,h2⟩
theorem Jj{s:Str}{k:Nat}(h:k<=s.l.length):cutHO s (k:Int)=some ⟨s.l.take k⟩:=by unfold cutHO;rw[if_pos ⟨by omega,by omega⟩];rfl
theorem Jk{s:Str}{k:Nat}(h:k<=s.l.length):cutLO s (k:Int)=some ⟨s.l.drop k⟩:=by unfold cutLO;rw[if_pos ⟨by omega,by omega⟩];rfl
theorem zap{xs:List α}{k:Nat}(h:k<=xs.length):JF xs (k:Int)=some (xs.take k):=by unfold JF;rw[if_pos ⟨by omega,by omega⟩];rfl
theorem setO_nat{xs:List α}{k:Nat}{y:α}(h:k<xs.length):setO xs (k:Int) y=some (xs.set k y):=by unfold setO;rw[if_pos ⟨by omega,by omega⟩];rfl
theorem Yy{m n:Str}(h:m.l.length+n.l.length<=9223372036854775807):catO m n=some ⟨m.l++n.l⟩:=if_pos h
theorem qV{step:S->Option (S⊕β)}{s s':S}{n:Nat}(h:step s=some (.inl s')):jU step (n+1) s=jU step n s':=by rw[jU,h]
theorem xw{step:S->Option (S⊕β)}{s:S}{b:β}{n:Nat}(h:step s=some (.inr b)):jU step (n+1) s=some b:=by rw[jU,h]
theorem iterM_mono{step:S->Option (S⊕β)}{r:β}:∀ (m j:Nat) (s:S),jU step m s=some r->jU step (m+j) s=some r:=by
 intro m
 induction m with
 | zero=>intro j s h;simp[jU] at h
 |
  succ m ih=>
  intro j s h;rw[show m+1+j=(m+j)+1 by omega];unfold jU at h ⊢;split at h
  ·
   cases h
  ·
   exact ih j _ h
  ·
   exact h
theorem qO{step:S->Option (S⊕β)}{r:β}{m:Nat}{s:S}(h:jU step m s=some r)(hm:m<=1152921504606846976):zW step s=some r:=by
 unfold zW;have:=iterM_mono m (1152921504606846976 - m) s h;rwa[show m+(1152921504606846976 - m)=1152921504606846976 by omega] at this
def runL(R:Nat->σ->α->σ⊕β)(fin:σ->β):Nat->σ->List α->β
 | _,s,[]=>fin s
 |
  k,s,x::xs=>match R k s x with
  | .inl s'=>runL R fin (k+1) s' xs
  | .inr b=>b
theorem QP{step:S->Option (S⊕β)}(xs:List α)(mk:σ->Nat->S)(R:Nat->σ->α->σ⊕β)(fin:σ->β)(Inv:Nat->σ->Prop)
  (h:∀ k s x,xs[k]?=some x->k<xs.length->Inv k s->match R k s x with
   | .inl s'=>step (mk s k)=some (.inl (mk s' (k+1)))/\Inv (k+1) s'
   | .inr b=>step (mk s k)=some (.inr b))
  (hend:∀ s,Inv xs.length s->step (mk s xs.length)=some (.inr (fin s))) {s0:σ} (h0:Inv 0 s0) (hlen:xs.length<576460752303423488):zW step (mk s0 0)=some (runL R fin 0 s0 xs):=by
 have key:∀ m k s,k+m=xs.length->Inv k s->jU step (m+1) (mk s k)=some (runL R fin k s (xs.drop k)):=by
  intro m
  induction m with
  |
   zero=>
   intro k s hk hi;have:k=xs.length:=by omega
   subst this;rw[List.drop_length,runL,jU,hend s hi]
  |
   succ m ih=>
   intro k s hk hi;have hlt:k<xs.length:=by omega
   have hx:xs[k]?=some xs[k]:=List.getElem?_eq_getElem hlt;rw[List.drop_eq_getElem_cons hlt,runL,jU];have hr:=h k s xs[k] hx hlt hi;cases e:R k s xs[k] with
   |
    inl s'=>
    rw[e] at hr;simp only at hr;rw[hr.1];exact ih (k+1) s' (by omega) hr.2
   |
    inr b=>
    rw[e] at hr;simp only at hr;rw[hr]
 exact qO (key xs.length 0 s0 (by omega) h0) (by omega)
theorem loop_find{step:Int->Option (Int⊕β)}(xs:List α)(R:Nat->α->Option β)(e:β)
  (h:∀ k x,xs[k]?=some x->k<xs.length->step (k:Int)=some (match R k x with | none=>.inl ((k+1:Nat):Int) | some b=>.inr b))
  (hend:step (xs.length:Int)=some (.inr e)) (hlen:xs.length<576460752303423488) {s:Int} (hs:s=0):
  zW step s=some (runL (λ k (_:Unit) x=>match R k x with | none=>.inl () | some b=>.inr b) (λ _=>e) 0 () xs):=by
 subst hs;refine QP (σ:=Unit) xs (λ _ k=>(k:Int)) _ _ (λ _ _=>True) (λ k s x hx hlt _=>?_) (λ _ _=>hend) trivial hlen;have:=h k x hx hlt;cases hR:R k x with
 | none=>rw[hR] at this;exact⟨this,trivial⟩
 | some b=>rw[hR] at this;exact this
theorem runL_any(p:α->Bool)(b e:β):∀ (k:Nat) (xs:List α),runL (λ _ (_:Unit) x=>match (if p x=true then some b else none) with | none=>.inl () | some b=>.inr b) (λ _=>e) k () xs=if xs.any p=true then b else e
 | _,[]=>rfl
 |
  k,x::xs=>by
  cases h:p x with
  | true=>simp[runL,h]
  | false=>simp only[runL,h];rw[List.any_cons,h,Bool.false_or];exact runL_any p b e (k+1) xs
theorem Yd{step:Int->Option (Int⊕β)}(xs:List α)(p:α->Bool)(b e:β)
  (h:∀ k x,xs[k]?=some x->k<xs.length->step (k:Int)=some (if p x=true then .inr b else .inl ((k+1:Nat):Int)))
  (hend:step (xs.length:Int)=some (.inr e)) (hlen:xs.length<576460752303423488) {s:Int} (hs:s=0):
  zW step s=some (if xs.any p=true then b else e):=by
 rw[loop_find xs (λ _ x=>if p x=true then some b else none) e (λ k x hx hlt=>?_) hend hlen hs,runL_any];rw[h k x hx hlt];cases p x <;> rfl
theorem runL_idx(p:α->Bool)(f:Int->β)(e:β):∀ (k:Nat) (xs:List α),runL (λ k (_:Unit) x=>match (if p x=true then some (f k) else none) with | none=>.inl () | some b=>.inr b) (λ _=>e) k () xs=(match xs.findIdx? p with | some i=>f ((k+i:Nat):Int) | none=>e)
 | _,[]=>rfl
 |
  k,x::xs=>by
  cases h:p x with
  | true=>simp[runL,h,List.findIdx?_cons]
  |
   false=>
   simp only[runL,h,List.findIdx?_cons,Bool.false_eq_true,if_false];rw[runL_idx p f e (k+1) xs];cases xs.findIdx? p with
   | none=>rfl
   | some i=>simp only[Option.map_some];congr 1;omega
theorem Wa{step:Int->Option (Int⊕β)}(xs:List α)(p:α->Bool)(f:Int->β)(e:β)
  (h:∀ k x,xs[k]?=some x->k<xs.length->step (k:Int)=some (if p x=true then .inr (f k) else .inl ((k+1:Nat):Int)))
  (hend:step (xs.length:Int)=some (.inr e)) (hlen:xs.length<576460752303423488) {s:Int} (hs:s=0):
  zW step s=some (match xs.findIdx? p with | some i=>f (i:Int) | none=>e):=by
 rw[loop_find xs (λ k x=>if p x=true then some (f k) else none) e (λ k x hx hlt=>?_) hend hlen hs,runL_idx]
 ·
  cases xs.findIdx? p <;> simp
 ·
  rw[h k x hx hlt];cases p x <;> rfl
theorem runL_fold(g:σ->α->σ)(fin:σ->β):∀ (k:Nat) (s:σ) (xs:List α),runL (λ _ s x=>(.inl (g s x):σ⊕β)) fin k s xs=fin (xs.foldl g s)
 | _,_,[]=>rfl
 | k,s,x::xs=>runL_fold g fin (k+1) (g s x) xs
theorem Jl{step:S->Option (S⊕β)}(xs:List α)(mk:σ->Nat->S)(g:σ->α->σ)(fin:σ->β)(Inv:Nat->σ->Prop)
  (h:∀ k s x,xs[k]?=some x->k<xs.length->Inv k s->step (mk s k)=some (.inl (mk (g s x) (k+1)))/\Inv (k+1) (g s x))
  (hend:∀ s,Inv xs.length s->step (mk s xs.length)=some (.inr (fin s))) {s0:σ} (h0:Inv 0 s0) (hlen:xs.length<576460752303423488):zW step (mk s0 0)=some (fin (xs.foldl g s0)):=by
 rw[QP xs mk (λ _ s x=>.inl (g s x)) fin Inv h hend h0 hlen,runL_fold]
end
theorem YV{s:Str}(hs:mid s):y8 s=some (zC s):=by
 unfold mid at hs;have hl:zW (λ s4=>wn s s4) 0=some (if s.l.any (λ b=>!low b)=true then .inr false else .inl ()):=by
  refine Yd s.l _ _ _ (λ k x hx hlt=>?_) ?_ (by omega) rfl
  ·
   unfold wn;rw[zM,if_pos (decide_eq_true hlt),zG,hx,obS,xe,obS,z7 (by omega)];unfold low;generalize cmpB .lss x (UInt8.ofNat 97)=c1;cases c1 with
   | true=>rfl
   |
    false=>
    rw[if_pos (show(false == false)=true from rfl)];generalize cmpB .gtr x (UInt8.ofNat 122)=c2;cases c2 <;> rfl
  ·
   unfold wn;rw[zM,if_neg (by simp)]
 unfold y8;rw[hl,obS];unfold zC;cases h:s.l.any (λ b=>!low b) with
 |
  true=>
  have:s.l.all low=false:=by
   rw[Bool.eq_false_iff];intro h2;rw[List.any_eq_true] at h;obtain⟨b,hb,hb2⟩:=h;rw[List.all_eq_true.1 h2 b hb] at hb2;cases hb2
  simp[this]
 |
  false=>
  have:s.l.all low=true:=by
   rw[List.all_eq_true];intro b hb;have:=List.any_eq_false.1 h b hb;simpa using this
  simp only[Bool.false_eq_true,if_false,Sum.elim_inl,yy,obS,this,Bool.and_true,inR];simp[cmpI]
def cutF(c:UInt8):List UInt8->List (List UInt8)
 | []=>[[]]
 |
  b::l=>if b == c then[]::cutF c l else match cutF c l with
  | h::t=>(b::h)::t
  | []=>[[b]]
theorem Yr(c b:UInt8)(l:List UInt8):cutF c (b::l)=if b == c then[]::cutF c l else match cutF c l with
  | h::t=>(b::h)::t
  | []=>[[b]]:=rfl
theorem ZQ(c:UInt8):∀ l,cutF c l≠[]
 | []=>by simp[cutF]
 |
  b::l=>by
  unfold cutF;split
  ·
   simp
  ·
   split <;> simp
theorem W8(c:UInt8):∀ l,(cutF c l).length=l.count c+1
 | []=>by simp[cutF]
 |
  b::l=>by
  unfold cutF;cases h:b == c with
  |
   true=>
   simp only[if_true,List.length_cons,W8 c l];rw[List.count_cons,h];simp
  |
   false=>
   simp only[Bool.false_eq_true,if_false];rw[List.count_cons,h];simp only[Bool.false_eq_true,if_false,Nat.add_zero];rw[← W8 c l];cases hc:cutF c l with
   | nil=>exact absurd hc (ZQ c l)
   | cons h t=>rfl
theorem JO(c:UInt8):∀ (l:List UInt8) (st:List Str×Str),(let r:=l.foldl (jJ c) st;r.1++[r.2])=st.1++(match cutF c l with | h::t=>(⟨st.2.l++h⟩:Str)::t.map Str.mk | []=>[])
 | [],st=>by simp[cutF]
 |
  b::l,st=>by
  rw[List.foldl_cons];have ih:=JO c l (jJ c st b);simp only at ih ⊢;rw[ih];unfold jJ;rw[Yr];cases h:b == c with
  |
   true=>
   simp only[if_true,List.append_assoc];cases hc:cutF c l with
   | nil=>exact absurd hc (ZQ c l)
   | cons h t=>simp
  |
   false=>
   simp only[Bool.false_eq_true,if_false];cases hc:cutF c l with
   | nil=>exact absurd hc (ZQ c l)
   | cons h t=>simp
theorem jk(s:Str)(c:UInt8):zq s c=(cutF c s.l).map Str.mk:=by
 have:=JO c s.l ([],⟨[]⟩);simp only at this;unfold zq xB;rw[this];cases hc:cutF c s.l with
 | nil=>exact absurd hc (ZQ c s.l)
 | cons h t=>simp
theorem Yz(c:UInt8):∀ l,Lib.indexByte l c<0->cutF c l=[l]
 | [],_=>rfl
 |
  b::l,h=>by
  unfold Lib.indexByte at h;unfold cutF;cases hb:b == c with
  | true=>rw[hb] at h;simp at h
  |
   false=>
   rw[hb] at h;simp only[Bool.false_eq_true,if_false] at h ⊢;have hge:=Lib.indexByte_ge l c;have:Lib.indexByte l c<0:=by
    split at h
    ·
     rename_i e;have:=eq_of_beq e;omega
    ·
     omega
   rw[Yz c l this]
theorem YA(c:UInt8):∀ l,0<=Lib.indexByte l c->Lib.indexByte l c<l.length/\cutF c l=l.take (Lib.indexByte l c).toNat::cutF c (l.drop ((Lib.indexByte l c).toNat+1))
 | [],h=>by simp[Lib.indexByte] at h
 |
  b::l,h=>by
  unfold Lib.indexByte at h ⊢;cases hb:b == c with
  | true=>simp[cutF,hb]
  |
   false=>
   rw[hb] at h;simp only[Bool.false_eq_true,if_false] at h ⊢;cases he:Lib.indexByte l c == -1 with
   | true=>rw[he] at h;simp at h
   |
    false=>
    rw[he] at h;simp only[Bool.false_eq_true,if_false] at h ⊢;have hge:=Lib.indexByte_ge l c;have hne:Lib.indexByte l c≠-1:=by simpa using he
    obtain⟨h1,h2⟩:=YA c l (by omega);refine⟨by simp;omega,?_⟩;have e1:(Lib.indexByte l c+1).toNat=(Lib.indexByte l c).toNat+1:=by omega
    rw[e1];rw[Yr,hb,h2];simp only[Bool.false_eq_true,if_false,List.take_succ_cons,List.drop_succ_cons]
theorem genSplit_loop(c:UInt8)(n:Nat)(hn:n<1099511627777):∀ (l:List UInt8) (done:List Str),l.length<=1099511627776->done.length+(cutF c l).length=n->
  ∀
   m,(cutF c l).length<=m->jU (λ s35=>xb ⟨[c]⟩ 0 ((n:Int) - 1) s35) m ((⟨l⟩:Str),done++List.replicate (n - done.length) zStr,(done.length:Int))=
   some (⟨(cutF c l).getLast (ZQ c l)⟩,done++((cutF c l).dropLast.map Str.mk++[zStr]),(n:Int) - 1):=by
 intro l
 induction hlen:l.length using Nat.strongRecOn generalizing l with
 |
  _ k ih=>
  intro done hl hd m hm;have hne:=ZQ c l;have hpos:0<(cutF c l).length:=List.length_pos_iff.2 hne;obtain⟨m,rfl⟩:∃ m',m=m'+1:=⟨m - 1,by omega⟩;by_cases hlast:(cutF c l).length=1
  ·
   rw[xw (b:=((⟨l⟩:Str),done++List.replicate (n - done.length) zStr,(done.length:Int))) (by unfold xb;exact if_neg (by simp[cmpI];omega))];obtain⟨x,hx⟩:=List.length_eq_one_iff.1 hlast;have e1:n - done.length=1:=by omega
   simp only[hx,List.getLast_singleton,List.dropLast_singleton,List.map_nil,List.nil_append,e1,List.replicate_one];have hxl:x=l:=by
    rcases Int.lt_or_le (Lib.indexByte l c) 0 with h | h
    ·
     rw[Yz c l h] at hx;injection hx with hx;exact hx.symm
    ·
     obtain⟨_,h2⟩:=YA c l h;rw[h2] at hx;have:=congrArg List.length hx;simp at this;exact absurd this (ZQ _ _)
   rw[hxl]
   congr 2
   congr 1
   omega
  ·
   have hidx:0<=Lib.indexByte l c:=by
    rcases Int.lt_or_le (Lib.indexByte l c) 0 with h | h
    ·
     rw[Yz c l h] at hlast;simp at hlast
    ·
     exact h
   obtain⟨h1,h2⟩:=YA c l hidx;obtain⟨j,hi⟩:=Int.eq_ofNat_of_zero_le hidx;rw[hi] at h1 h2;rw[Int.toNat_natCast] at h2;have hj:j<l.length:=by omega
   have e2:jd ⟨l⟩ ⟨[c]⟩=some (j:Int):=by simp[jd,hi]
   have hrep:done.length<(done++List.replicate (n - done.length) zStr).length:=by simp;omega
   have e4:atI (done++List.replicate (n - done.length) zStr) (done.length:Int)=some zStr:=by
    rw[zG,List.getElem?_append_right (Nat.le_refl _),Nat.sub_self,List.getElem?_replicate,if_pos (by omega)]
   have e5:setO (done++List.replicate (n - done.length) zStr) (done.length:Int) (⟨l.take j⟩:Str)=some ((done++[⟨l.take j⟩])++List.replicate (n - (done.length+1)) zStr):=by
    rw[setO_nat hrep]
    congr 1
    rw[List.set_append_right _ _ (Nat.le_refl _),Nat.sub_self];obtain⟨q,hq⟩:∃ q,n - done.length=q+1:=⟨n - done.length - 1,by omega⟩;rw[hq,List.replicate_succ,List.set_cons_zero,List.append_assoc,show n - (done.length+1)=q by omega];rfl
   have hstep:xb ⟨[c]⟩ 0 ((n:Int) - 1) ((⟨l⟩:Str),done++List.replicate (n - done.length) zStr,(done.length:Int))=some (.inl ((⟨l.drop (j+1)⟩:Str),(done++[⟨l.take j⟩])++List.replicate (n - (done.length+1)) zStr,((done.length+1:Nat):Int))):=by
    unfold xb;rw[if_pos (by simp[cmpI];omega)];simp only;rw[e2,obS,if_neg (by simp[cmpI]),show((j:Int)+0)=(j:Int) by omega,xU (by omega) (by omega),obS,Jj (show j<=(⟨l⟩:Str).l.length by show j<=l.length;omega),obS,e4,obS,e5,obS];rw[show((j:Int)+(([c]:List UInt8).length:Int))=((j+1:Nat):Int) from rfl,xU (by omega) (by omega),obS,Jk (show j+1<=(⟨l⟩:Str).l.length by show j+1<=l.length;omega),obS,z7 (by omega),obS]
   rw[qV hstep];have hlen2:(cutF c (l.drop (j+1))).length+1=(cutF c l).length:=by rw[h2];rfl
   have hrec:=ih (l.drop (j+1)).length (by simp;omega) (l.drop (j+1)) rfl (done++[⟨l.take j⟩]) (by simp;omega) (by simp;omega) m (by omega);rw[List.length_append,List.length_singleton] at hrec;rw[hrec];have hne2:=ZQ c (l.drop (j+1));have e7:(cutF c l).getLast hne=(cutF c (l.drop (j+1))).getLast hne2:=by
    have:∀ (L:List (List UInt8)) (hL:L≠[]),L=l.take j::cutF c (l.drop (j+1))->L.getLast hL=(cutF c (l.drop (j+1))).getLast hne2:=by
     intro L hL e;subst e;exact List.getLast_cons hne2
    exact this _ hne h2
   have e8:(cutF c l).dropLast=l.take j::(cutF c (l.drop (j+1))).dropLast:=by
    have:∀ (L:List (List UInt8)),L=l.take j::cutF c (l.drop (j+1))->L.dropLast=l.take j::(cutF c (l.drop (j+1))).dropLast:=by
     intro L e;subst e;rw[List.dropLast_cons_of_ne_nil hne2]
    exact this _ h2
   rw[e7,e8];simp
theorem Split_eq{s:Str}(hs:s.l.length<=8388608)(c:UInt8):jM s ⟨[c]⟩=some (zq s c):=by
 unfold jM qA;have hcount:s.l.count c<=s.l.length:=List.count_le_length;rw[if_neg (by simp[cmpI]),if_neg (by simp)];have e1:ZN s ⟨[c]⟩=some (s.l.count c:Int):=rfl;rw[if_pos (by simp[cmpI]),e1,obS,z7 (by omega),obS,obS,z7 (by omega),obS];have hmin:(if((s.l.length+1:Nat):Int)<((s.l.count c+1:Nat):Int) then((s.l.length+1:Nat):Int) else((s.l.count c+1:Nat):Int))=((s.l.count c+1:Nat):Int):=if_neg (by omega);rw[hmin];have hbig:s.l.count c+1<=16777216:=by omega
 have e2:makeO 1 16 ((s.l.count c+1:Nat):Int) zStr=some (List.replicate (s.l.count c+1) zStr):=by
  unfold makeO;rw[if_pos ⟨by omega,by simp;omega,by simp;omega,by omega⟩];rfl
 rw[e2,obS,xU (by omega) (by omega),obS];have hl:=qO (genSplit_loop c (s.l.count c+1) (by omega) s.l [] (by omega) (by simp[W8]) (s.l.count c+1) (by rw[W8];omega)) (by omega);simp only[List.nil_append,List.length_nil,Nat.sub_zero] at hl;rw[show((0:Nat):Int)=0 from rfl] at hl;rw[hl,obS];have hne:=ZQ c s.l;have hlen:=W8 c s.l;have hz:((cutF c s.l).dropLast.map Str.mk).length=s.l.count c:=by simp[hlen]
 have e3:(((s.l.count c+1:Nat):Int) - 1)=(s.l.count c:Int):=by omega
 simp only[e3];have e4:atI ((cutF c s.l).dropLast.map Str.mk++[zStr]) (s.l.count c:Int)=some zStr:=by
  rw[zG,List.getElem?_append_right (by omega),hz,Nat.sub_self];rfl
 have e5:setO ((cutF c s.l).dropLast.map Str.mk++[zStr]) (s.l.count c:Int) (⟨(cutF c s.l).getLast hne⟩:Str)=some ((cutF c s.l).map Str.mk):=by
  unfold setO;rw[if_pos ⟨by omega,by simp[hlen]⟩]
  congr 1
  rw[Int.toNat_natCast,List.set_append_right _ _ (by omega),hz,Nat.sub_self,List.set_cons_zero];have:=List.dropLast_concat_getLast hne
  conv=>rhs;rw[← this]
  simp
 rw[e4,obS,e5,obS,z7 (by omega),obS];have e6:JF ((cutF c s.l).map Str.mk) ((s.l.count c+1:Nat):Int)=some ((cutF c s.l).map Str.mk):=by
  unfold JF;rw[if_pos ⟨by omega,by simp[hlen]⟩]
  congr 1
  rw[Int.toNat_natCast];exact List.take_of_length_le (by simp[hlen])
 rw[e6,jk];rfl
def sho(s:Str):Prop:=s.l.length<=8388608
theorem sho.mid{s:Str}(h:sho s):mid s:=by unfold sho at h;unfold Go.Proofs.YtnlhpkbphdbknaaGreatDoor.mid;omega
theorem split_len(s:Str)(c:UInt8):(zq s c).length<=s.l.length+1:=by have:=len_room (zq s c);rwa[Y7] at this
theorem split_part{s x:Str}{c:UInt8}(h:x∈zq s c):x.l.length<=s.l.length+1:=by
 obtain⟨k,hk⟩:=List.getElem?_of_mem h;have:=part_le hk;rwa[Y7] at this
theorem any_not{α:Type}(p:α->Bool)(l:List α):l.any (λ x=>!p x)=!l.all p:=by
 induction l with
 | nil=>rfl
 | cons x l ih=>simp[ih]
theorem wP{s:Str}(hs:sho s):yl s=some (zg s):=by
 unfold sho at hs;have hlen:=split_len s dot;unfold yl;rw[show jM s (⟨[46]⟩:Str)=some (zq s dot) from Split_eq hs dot,obS];have hl:zW (λ s7=>wo (zq s dot) s7) 0=some (if(zq s dot).any (λ x=>!zC x)=true then .inr false else .inl ()):=by
  refine Yd _ _ _ _ (λ k x hx hlt=>?_) ?_ (by omega) rfl
  ·
   unfold wo;have hm:mid x:=by have:=split_part (List.mem_of_getElem? hx);unfold mid;omega
   rw[zM,if_pos (decide_eq_true hlt),zG,hx,obS,YV hm,obS,z7 (by omega)];cases zC x <;> rfl
  ·
   unfold wo;rw[zM,if_neg (by simp)]
 rw[hl,obS,any_not];unfold zg;cases(zq s dot).all zC <;> rfl
theorem Ye{s:Str}(hs:sho s):xq s=some (zu s):=by
 unfold xq;rw[wP hs,xe,obS];unfold zu emptyS;cases decide (s=(⟨[]⟩:Str)) <;> rfl
def XB(p s:Str):Str:=if(zu p&&zC s&&zg (child p s))=true then child p s else emptyS
theorem Qd{p s:Str}(h:p.l.length+s.l.length+1<=8388608):wQ p s=some (XB p s):=by
 have hp:sho p:=by unfold sho;omega
 have hs:mid s:=by unfold mid;omega
 unfold wQ XB;rw[Ye hp,obS,YV hs,xe,obS];cases zu p with
 | false=>simp only[Bool.not_false,Bool.true_or,if_true,Bool.false_and,Bool.false_eq_true,if_false,emptyS]
 |
  true=>
  cases zC s with
  | false=>simp only[Bool.not_false,Bool.or_true,if_true,Bool.false_and,Bool.and_false,Bool.false_eq_true,if_false,emptyS,Bool.not_true,beq_self_eq_true]
  |
   true=>
   have hc:(if(decide (p≠(⟨[]⟩:Str)))=true then((catO p (⟨[46]⟩:Str)).bind λ v14=>(catO v14 s).bind λ v15=>some v15) else(some s))=some (child p s):=by
    unfold child emptyS;by_cases he:p=⟨[]⟩
    ·
     rw[if_neg (by simp[he]),if_pos he]
    ·
     rw[if_pos (by simp[he]),if_neg he,Yy (by show p.l.length+1<=_;omega),obS,Yy (by rw[List.length_append];show p.l.length+1+s.l.length<=_;omega),obS]
   have hsc:sho (child p s):=by
    unfold sho child;split
    ·
     omega
    ·
     rw[List.length_append,List.length_append];show p.l.length+1+s.l.length<=_;omega
   rw[hc,if_neg (by decide),obS,wP hsc,obS];generalize child p s=q;cases zg q <;> rfl
theorem HasPrefix_eq{s p:Str}:jf s p=some (decide (p.l.length<=s.l.length)&&decide ((⟨s.l.take p.l.length⟩:Str)=p)):=by
 unfold jf xc;by_cases h:p.l.length<=s.l.length
 ·
  have e:cmpI .geq (s.l.length:Int) (p.l.length:Int)=true:=by simp[cmpI,h]
  rw[e,Jj h];simp[gO,h]
 ·
  have e:cmpI .geq (s.l.length:Int) (p.l.length:Int)=false:=by simp[cmpI];omega
  rw[e];simp[gO,h]
theorem IsUnder_eq{s p:Str}(hs:sho s)(hp:p.l.length+1<=8388608):Zb s p=some (zg s&&zu p&&under s p):=by
 have hp':sho p:=by unfold sho;omega
 unfold Zb;rw[wP hs,obS,Ye hp',xe,obS,Yy (by show p.l.length+1<=_;omega),xe];unfold under emptyS;cases zg s with
 | false=>rfl
 |
  true=>
  cases zu p with
  | false=>rfl
  |
   true=>
   cases he:decide (p=(⟨[]⟩:Str)) with
   | true=>rfl
   |
    false=>
    cases hq:decide (s=p) with
    | true=>rfl
    |
     false=>
     simp only[HasPrefix_eq,xe,Bool.not_true,Bool.or_self,Bool.false_eq_true,if_false,beq_self_eq_true,if_true,Bool.true_and,Bool.false_or,obS,List.length_append,List.length_singleton]
     congr 2
     simp[cmpI];omega
theorem Jm(a b c:Int):yy a b c=some (inR a b c):=rfl
theorem qP:zg emptyS=false:=rfl
theorem idx_join{α:Type}(p:α->Bool)(xs:List α):Option.bind (some (match xs.findIdx? p with | some i=>(Sum.inr (i:Int):Unit⊕Int) | none=>Sum.inl ())) (Sum.elim (λ _=>some (-1)) some)=some (xA p xs):=by
 unfold xA;cases xs.findIdx? p <;> rfl
theorem W9{α:Type}(p:α->Bool)(xs:List α):cmpI .geq (xA p xs) 0=xs.any p:=by
 unfold xA;cases h:xs.findIdx? p with
 |
  none=>
  rw[List.findIdx?_eq_none_iff] at h;have:xs.any p=false:=by rw[List.any_eq_false];intro x hx;simp[h x hx]
  rw[this];rfl
 |
  some i=>
  obtain⟨hi,hp,_⟩:=List.findIdx?_eq_some_iff_getElem.1 h;have:xs.any p=true:=by rw[List.any_eq_true];exact⟨_,List.getElem_mem hi,hp⟩
  rw[this];simp[cmpI]
theorem idxOf_lss{α:Type}{p:α->Bool}{xs:List α}{k:Nat}{x:α}(hx:xs[k]?=some x)(hp:p x=true):cmpI .lss (xA p xs) k=(xs.take k).any p:=by
 have hk:=zv hx;have hxk:xs[k]=x:=by rw[List.getElem?_eq_getElem hk] at hx;injection hx
 unfold xA;cases h:xs.findIdx? p with
 |
  none=>
  rw[List.findIdx?_eq_none_iff] at h;have:=h x (List.mem_of_getElem? hx);rw[hp] at this;cases this
 |
  some i=>
  obtain⟨hi,hpi,hmin⟩:=List.findIdx?_eq_some_iff_getElem.1 h;by_cases hik:i<k
  ·
   have:(xs.take k).any p=true:=by
    rw[List.any_eq_true];exact⟨xs[i],List.mem_take_iff_getElem.2 ⟨i,by omega,rfl⟩,hpi⟩
   rw[this];simp[cmpI,hik]
  ·
   have:(xs.take k).any p=false:=by
    rw[List.any_eq_false];intro y hy;obtain⟨j,hj,rfl⟩:=List.mem_take_iff_getElem.1 hy;exact hmin j (by omega)
   rw[this];simp[cmpI];omega
theorem IndexI_eq{xs:List Int}{n:Int}(h:xs.length<=1152921504606846):wg xs n=some (xA (λ x=>n == x) xs):=by
 unfold wg;have hl:zW (λ s4=>yW xs n s4) 0=some (match xs.findIdx? (λ x=>n == x) with | some i=>(Sum.inr (i:Int):Unit⊕Int) | none=>Sum.inl ()):=by
  refine Wa xs (λ x=>n == x) (λ i=>Sum.inr i) _ (λ k x hx hlt=>?_) ?_ (by omega) rfl
  ·
   unfold yW;rw[zM,if_pos (decide_eq_true hlt),zG,hx,obS,z7 (by omega),show cmpI .eql n x=(n == x) from rfl];cases n == x <;> rfl
  ·
   unfold yW;rw[zM,if_neg (by simp)]
 rw[hl];exact idx_join _ _
theorem ContainsI_eq{xs:List Int}{n:Int}(h:xs.length<=1152921504606846):xC xs n=some (xs.any (λ x=>n == x)):=by
 unfold xC;rw[IndexI_eq h,obS,W9]
theorem stmt_mod(s:Stmt):decide (s={ (⟨s.kind,⟨[]⟩,0,⟨[]⟩,0⟩:Stmt) with module:=s.module })=(cmpI .eql s.level 0&&decide (s.name=⟨[]⟩)&&cmpI .eql s.value 0):=by
 cases s;rw[Bool.eq_iff_iff];simp[cmpI,and_assoc]
theorem stmt_nv(s:Stmt):decide (s={ { (⟨s.kind,⟨[]⟩,0,⟨[]⟩,0⟩:Stmt) with name:=s.name } with value:=s.value })=(decide (s.module=⟨[]⟩)&&cmpI .eql s.level 0):=by
 cases s;rw[Bool.eq_iff_iff];simp[cmpI]
theorem stmt_n(s:Stmt):decide (s={ (⟨s.kind,⟨[]⟩,0,⟨[]⟩,0⟩:Stmt) with name:=s.name })=(decide (s.module=⟨[]⟩)&&cmpI .eql s.level 0&&cmpI .eql s.value 0):=by
 cases s;rw[Bool.eq_iff_iff];simp[cmpI,and_assoc]
theorem smStmt.sho{s:Stmt}(h:smStmt s):sho s.module:=by have:=h.1;unfold Go.Proofs.YtnlhpkbphdbknaaGreatDoor.sho;omega
theorem smStmt.midn{s:Stmt}(h:smStmt s):mid s.name:=by have:=h.2;unfold mid;omega
theorem stmtOk_eq{s:Stmt}(h:smStmt s):ZE s=some (zU s):=by
 have hm:=wP h.sho;have hn:=YV h.midn;unfold ZE;rw[hm,hn,stmt_mod,stmt_nv,stmt_n];simp only[Jm,xe,obS];unfold zU;rcases s with⟨kind,m,level,name,value⟩;simp only[show ∀ x y:Int,cmpI .eql x y=(x == y) from λ _ _=>rfl];by_cases h0:kind=0
 ·
  subst h0;simp only[beq_self_eq_true,if_true,obS];generalize zg m=a;generalize (level == 0)=b;generalize decide (name=⟨[]⟩)=c;generalize (value == 0)=d;cases a <;> cases b <;> cases c <;> cases d <;> rfl
 ·
  by_cases h2:kind=2
  ·
   subst h2;simp only[beq_self_eq_true,if_true,obS,show((2:Int) == 0)=false from rfl,show((2:Int) == 1)=false from rfl,Bool.false_eq_true,if_false];generalize zg m=a;generalize (level == 0)=b;generalize decide (name=⟨[]⟩)=c;generalize (value == 0)=d;cases a <;> cases b <;> cases c <;> cases d <;> rfl
  ·
   have e0:(kind == 0)=false:=by simpa using h0
   have e2:(kind == 2)=false:=by simpa using h2
   simp only[e0,e2,Bool.false_eq_true,if_false,obS];by_cases h1:kind=1
   ·
    subst h1;simp only[beq_self_eq_true,if_true];have hl:cmpI .geq level 1=cmpI .gtr level 0:=by simp[cmpI];omega
    rw[hl];unfold zu;by_cases hme:m=emptyS
    ·
     subst hme;rw[qP];simp only[emptyS,decide_true,ne_eq,not_true_eq_false,decide_false];generalize (value == 0)=a;generalize inR level 0 3=b;generalize cmpI .gtr level 0=c;generalize zC name=d;cases a <;> cases b <;> cases c <;> cases d <;> rfl
    ·
     have e1:decide (m=emptyS)=false:=decide_eq_false hme;have e3:decide (m=⟨[]⟩)=false:=decide_eq_false hme;have e4:decide (m≠⟨[]⟩)=true:=decide_eq_true hme;rw[e1,e3,e4];generalize (value == 0)=a;generalize inR level 0 3=b;generalize cmpI .gtr level 0=c;generalize zC name=d;generalize zg m=e;cases a <;> cases b <;> cases c <;> cases d <;> cases e <;> rfl
   ·
    have e1:(kind == 1)=false:=by simpa using h1
    simp only[e1,Bool.false_eq_true,if_false];by_cases h3:kind=3
    ·
     subst h3;simp only[beq_self_eq_true,if_true];generalize decide (m=⟨[]⟩)=a;generalize (level == 0)=b;generalize inR value 0 99=c;generalize zC name=d;cases a <;> cases b <;> cases c <;> cases d <;> rfl
    ·
     have e3:(kind == 3)=false:=by simpa using h3
     simp only[e3,Bool.false_eq_true,if_false];by_cases h4:kind=4
     ·
      subst h4;simp only[beq_self_eq_true,if_true];generalize decide (m=⟨[]⟩)=a;generalize (level == 0)=b;generalize (value == 0)=c;generalize zC name=d;cases a <;> cases b <;> cases c <;> cases d <;> rfl
     ·
      have e4:(kind == 4)=false:=by simpa using h4
      simp only[e4,Bool.false_eq_true,if_false];by_cases h5:kind=5
      ·
       subst h5;rfl
      ·
       have e5:(kind == 5)=false:=by simpa using h5
       simp only[e5,Bool.false_eq_true,if_false]
theorem ValidBody_eq{b:List Stmt}(hlen:b.length<=1048576)(h:∀ s∈b,smStmt s):qm b=some (jK b):=by
 unfold qm;have hl:zW (λ s4=>wq b s4) 0=some (if b.any (λ x=>!zU x)=true then .inr false else .inl ()):=by
  refine Yd _ _ _ _ (λ k x hx hlt=>?_) ?_ (by omega) rfl
  ·
   unfold wq;rw[zM,if_pos (decide_eq_true hlt),zG,hx,obS,stmtOk_eq (h x (List.mem_of_getElem? hx)),obS,z7 (by omega)];cases zU x <;> rfl
  ·
   unfold wq;rw[zM,if_neg (by simp)]
 rw[hl,obS,any_not];unfold jK;cases b.all zU <;> rfl
theorem child_ne{p s:Str}(h:zg (child p s)=true):child p s≠emptyS:=by
 intro e;rw[e,qP] at h;cases h
theorem smFile.shop{f:File}(h:smFile f):sho f.pkg:=by have:=h.1;unfold sho;omega
theorem smFile.midn{f:File}(h:smFile f):mid f.name:=by have:=h.2.1;unfold mid;omega
theorem smFile.child{f:File}(h:smFile f):f.pkg.l.length+f.name.l.length+1<=8388608:=by have:=h.1;have:=h.2.1;omega
theorem fileOk_eq{f:File}(h:smFile f):ZF f=some (wm f):=by
 unfold ZF;rw[Jm,obS,Ye h.shop,xe,obS,Jm,xe,obS,ValidBody_eq h.2.2.1 h.2.2.2,xe,obS,YV h.midn,obS,Qd h.child,xe,obS];unfold wm;cases inR f.root 0 2 with
 | false=>rfl
 |
  true=>
  cases hp:zu f.pkg with
  | false=>cases inR f.stamp 0 99 <;> rfl
  |
   true=>
   cases inR f.stamp 0 99 with
   | false=>rfl
   |
    true=>
    cases jK f.body with
    | false=>rfl
    |
     true=>
     cases f.init with
     | true=>rfl
     |
      false=>
      show some (zC f.name&&decide ((if(zC f.name == true)=true then XB f.pkg f.name else default)≠(⟨[]⟩:Str)))=some (zC f.name&&zg (Go.Proofs.YtnlhpkbphdbknaaGreatDoor.child f.pkg f.name));cases hn:zC f.name with
      | false=>rfl
      |
       true=>
       unfold XB;rw[hp,hn];cases hc:zg (Go.Proofs.YtnlhpkbphdbknaaGreatDoor.child f.pkg f.name) with
       | false=>simp[emptyS]
       |
        true=>
        have:=child_ne hc;simp only[Bool.and_self,if_true,beq_self_eq_true,Bool.true_and];rw[decide_eq_true (show Go.Proofs.YtnlhpkbphdbknaaGreatDoor.child f.pkg f.name≠⟨[]⟩ from this)]
theorem QQ(f g:File):qh f g=some (we f g):=rfl
theorem JP(f g:File):we f g=we g f:=by
 unfold we;rw[BEq.comm (a:=f.root),BEq.comm (a:=f.init),decide_eq_decide.2 (eq_comm (a:=f.pkg) (b:=g.pkg)),decide_eq_decide.2 (eq_comm (a:=f.name) (b:=g.name))]
theorem sameFile_refl(f:File):we f f=true:=by simp[we]
theorem QR{t:Tree}(h:YN t):xu t=some (zR t):=by
 have hlen:=h.1;unfold xu;have hl:zW (λ s4=>ws t s4) 0=some (if(List.range t.files.length).any (λ k=>!WS t.files k)=true then .inr false else .inl ()):=by
  refine Yd (List.range t.files.length) _ _ _ (λ k x hx hlt=>?_) ?_ (by rw[List.length_range];omega) rfl
  ·
   rw[List.length_range] at hlt;rw[List.getElem?_range hlt] at hx;injection hx with hx;subst hx;unfold ws;obtain⟨f,hf⟩:∃ f,t.files[k]?=some f:=⟨_,List.getElem?_eq_getElem hlt⟩;have ht:WS t.files k=!(!wm f||cmpI .lss (xk t.files f) k):=by unfold WS;rw[hf]
   rw[zM,if_pos (decide_eq_true hlt),zG,hf,obS,fileOk_eq (h.2 _ (List.mem_of_getElem? hf)),obS,zap (by omega),obS,ht];cases wm f with
   | false=>rfl
   |
    true=>
    rw[if_neg (by decide)];have hin:zW (λ s28=>wr f (t.files.take k) s28) 0=some (if(t.files.take k).any (λ x=>we f x)=true then .inr (.inr (.inr false)) else .inl ()):=by
     have htl:(t.files.take k).length<=k:=by simp;omega
     refine Yd _ _ _ _ (λ j y hy hjt=>?_) ?_ (by omega) rfl
     ·
      unfold wr;rw[zM,if_pos (decide_eq_true hjt),zG,hy,obS,QQ,obS,z7 (by omega)];cases we f y <;> rfl
     ·
      unfold wr;rw[zM,if_neg (by simp)]
    rw[hin];have hfa:cmpI .lss (xk t.files f) k=(t.files.take k).any (λ x=>we f x):=by
     unfold xk;rw[idxOf_lss (p:=λ x=>we x f) hf (sameFile_refl _)]
     congr 1
     funext x
     exact JP _ _
    rw[hfa];cases(t.files.take k).any (λ x=>we f x) with
    | true=>rfl
    |
     false=>
     rw[if_neg (by decide),obS,Sum.elim_inl,z7 (by omega)];rfl
  ·
   unfold ws;rw[List.length_range,zM,if_neg (by simp)]
 rw[hl,obS,any_not];unfold zR XJ;cases(List.range t.files.length).all (WS t.files) <;> rfl
theorem fileAt_eq{t:Tree}{f:File}(h:t.files.length<=1048576):qT t f=some (xk t.files f):=by
 unfold qT;have hl:zW (λ s4=>jr t f s4) 0=some (match t.files.findIdx? (λ x=>we x f) with | some i=>(Sum.inr (i:Int):Unit⊕Int) | none=>Sum.inl ()):=by
  refine Wa t.files (λ x=>we x f) (λ i=>Sum.inr i) _ (λ k x hx hlt=>?_) ?_ (by omega) rfl
  ·
   unfold jr;rw[zM,if_pos (decide_eq_true hlt),zG,hx,obS,QQ,obS,z7 (by omega),JP];cases we x f <;> rfl
  ·
   unfold jr;rw[zM,if_neg (by simp)]
 rw[hl];exact idx_join _ _
theorem Ja{t:Tree}(h:zR t=true){f:File}(hf:f∈t.files):wm f=true:=by
 obtain⟨k,hk⟩:=List.getElem?_of_mem hf;unfold zR XJ at h;rw[Bool.and_eq_true] at h;have:=List.all_eq_true.1 h.1 k (List.mem_range.2 (zv hk));unfold WS at this;rw[hk] at this;simp only at this;cases hv:wm f with
 | true=>rfl
 | false=>rw[hv] at this;cases this
theorem validFile_pkg{f:File}(h:wm f=true):zu f.pkg=true:=by
 unfold wm at h;cases hv:zu f.pkg with
 | true=>rfl
 |
  false=>
  rw[hv,if_pos (by simp)] at h;cases h
theorem hasDir_eq{t:Tree}{r:Int}{p:Str}(h:YN t)(hv:∀ f∈t.files,zu f.pkg=true)(hp:zu p=true)(hpl:p.l.length+1<=8388608):ZG t r p=some (Yp t.files r p):=by
 have hlen:=h.1;unfold ZG;have hl:zW (λ s4=>jq t r p s4) 0=some (if t.files.any (WT r p)=true then .inr true else .inl ()):=by
  refine Yd _ _ _ _ (λ k x hx hlt=>?_) ?_ (by omega) rfl
  ·
   unfold jq;have hm:=List.mem_of_getElem? hx;rw[zM,if_pos (decide_eq_true hlt),zG,hx,obS,IsUnder_eq (h.2 x hm).shop hpl,xe,obS,z7 (by omega),hp];unfold WT;have hvx:=hv x hm;unfold zu at hvx;rw[show cmpI .eql x.root r=(x.root == r) from rfl];by_cases he:x.pkg=emptyS
   ·
    rw[he,qP];simp
   ·
    have e1:zg x.pkg=true:=by simpa[he] using hvx
    rw[e1,decide_eq_true (show x.pkg≠emptyS from he)];cases x.root == r <;> cases under x.pkg p <;> rfl
  ·
   unfold jq;rw[zM,if_neg (by simp)]
 rw[hl,obS];unfold Yp emptyS;cases t.files.any (WT r p) <;> rfl
theorem QS{l:List Int}(h:l.length<=1048576):xv l=some (wY l):=by
 unfold xv;have hl:zW (λ s4=>wt l s4) 0=some (if(List.range l.length).any (λ k=>!J2 l k)=true then .inr false else .inl ()):=by
  refine Yd (List.range l.length) _ _ _ (λ k x hx hlt=>?_) ?_ (by rw[List.length_range];omega) rfl
  ·
   rw[List.length_range] at hlt;rw[List.getElem?_range hlt] at hx;injection hx with hx;subst hx;unfold wt;obtain⟨n,hf⟩:∃ n,l[k]?=some n:=⟨_,List.getElem?_eq_getElem hlt⟩;have htl:(l.take k).length<=1152921504606846:=by simp;omega
   have ht:J2 l k=!(!inR n 0 2||(l.take k).any (λ x=>n == x)):=by
    unfold J2;rw[hf];simp only;unfold intAt;rw[W9,show(λ x=>x == n)=(λ x=>n == x) from by funext x;exact BEq.comm]
   rw[zM,if_pos (decide_eq_true hlt),zG,hf,obS,Jm,obS,zap (by omega),xe,obS,ht,z7 (by omega)];cases inR n 0 2 with
   | false=>rfl
   |
    true=>
    simp only[Bool.not_true,beq_self_eq_true,if_true];rw[ContainsI_eq htl,xe,obS];cases(l.take k).any (λ x=>n == x) <;> rfl
  ·
   unfold wt;rw[List.length_range,zM,if_neg (by simp)]
 rw[hl,obS,any_not];unfold wY WU;cases(List.range l.length).all (J2 l) <;> rfl
structure Good(t:Tree):Prop where
 sm:YN t
 ok:zR t=true
theorem Good.pkg{t:Tree}(h:Good t):∀ f∈t.files,zu f.pkg=true:=λ _ hf=>validFile_pkg (Ja h.ok hf)
theorem Good.len{t:Tree}(h:Good t):t.files.length<=1048576:=h.sm.1
theorem XP{s:Str}(h:zC s=true):1<=s.l.length/\s.l.length<=3:=by
 unfold zC inR at h;simp[cmpI] at h;omega
theorem lenSum_le(l:List Str)(h:∀ x∈l,x.l.length<=3):ji l<=4*l.length:=by
 induction l with
 | nil=>exact Nat.le_refl _
 |
  cons x l ih=>
  have h1:=h x (by simp);have h2:=ih λ y hy=>h y (by simp[hy])
  unfold ji at h2 ⊢;simp only[List.map_cons,List.sum_cons,List.length_cons];omega
theorem xm{s:Str}(h:zg s=true):s.l.length<=11:=by
 unfold zg at h;rw[Bool.and_eq_true] at h;have h1:=lenSum_le (zq s dot) λ x hx=>(XP (List.all_eq_true.1 h.1 x hx)).2
 rw[Y7] at h1;have h2:=h.2;simp[cmpI] at h2;omega
theorem x9{s:Str}(h:zu s=true):s.l.length<=11:=by
 unfold zu at h;rw[Bool.or_eq_true] at h;rcases h with h | h
 ·
  rw[oD h];exact Nat.zero_le _
 ·
  exact xm h
def WH:List (List UInt8)->List UInt8
 | []=>[]
 | [a]=>a
 | a::b::l=>a++46::WH (b::l)
theorem JQ:∀ (l:List Str) (acc:List UInt8),(l.foldl YG (⟨acc⟩,true)).1=⟨acc++(l.map λ x=>46::x.l).flatten⟩
 | [],acc=>by simp
 |
  x::l,acc=>by
  rw[List.foldl_cons];show(l.foldl YG (⟨(acc++[46])++x.l⟩,true)).1=_;rw[JQ l];simp
theorem zbq(a:List UInt8)(l:List (List UInt8)):WH (a::l)=a++(l.map λ x=>46::x).flatten:=by
 induction l generalizing a with
 | nil=>simp[WH]
 | cons b l ih=>rw[WH,ih];simp
theorem zbr(l:List Str):join l=⟨WH (l.map (·.l))⟩:=by
 cases l with
 | nil=>rfl
 |
  cons x l=>
  unfold join Zr;rw[List.foldl_cons];show(l.foldl YG (⟨[]++x.l⟩,true)).1=_;rw[JQ,List.map_cons,zbq];simp[List.map_map,Function.comp_def]
theorem cutF_pre(c:UInt8):∀ (a l:List UInt8),c ∉ a->cutF c (a++c::l)=a::cutF c l
 | [],l,_=>by simp[cutF]
 |
  b::a,l,h=>by
  have hb:(b == c)=false:=by
   have:b≠c:=λ e=>h (by simp[e])
   simpa using this
  rw[List.cons_append,Yr,hb,cutF_pre c a l (λ e=>h (by simp[e]))];rfl
theorem QT(c:UInt8):∀ (a:List UInt8),c ∉ a->cutF c a=[a]
 | [],_=>rfl
 |
  b::a,h=>by
  have hb:(b == c)=false:=by
   have:b≠c:=λ e=>h (by simp[e])
   simpa using this
  rw[Yr,hb,QT c a (λ e=>h (by simp[e]))];rfl
theorem zbs:∀ (l:List (List UInt8)),l≠[]->(∀ x∈l,(46:UInt8) ∉ x)->cutF 46 (WH l)=l
 | [],h,_=>absurd rfl h
 | [a],_,h=>QT 46 a (h a (by simp))
 |
  a::b::l,_,h=>by
  rw[WH,cutF_pre 46 a _ (h a (by simp)),zbs (b::l) (by simp) λ x hx=>h x (by simp[hx])]
theorem Qe:∀ (l:List UInt8),WH (cutF 46 l)=l
 | []=>rfl
 |
  b::l=>by
  rw[Yr];cases hb:b == 46 with
  |
   true=>
   have ih:=Qe l;have hb:=eq_of_beq hb;rw[if_pos rfl];cases hc:cutF 46 l with
   | nil=>exact absurd hc (ZQ 46 l)
   | cons h t=>rw[WH,← hc,ih,hb];rfl
  |
   false=>
   have ih:=Qe l;rw[if_neg (by decide)];cases hc:cutF 46 l with
   | nil=>exact absurd hc (ZQ 46 l)
   |
    cons h t=>
    rw[hc] at ih;show WH ((b::h)::t)=b::l;rw[zbq] at ih ⊢;rw[← ih];rfl
theorem Wx(s:Str):join (zq s dot)=s:=by
 rw[zbr,jk,List.map_map];show(⟨WH ((cutF 46 s.l).map λ x=>x)⟩:Str)=s;rw[List.map_id',Qe]
theorem low_ne{b:UInt8}(h:low b=true):b≠46:=by
 intro e;subst e;revert h;decide
theorem validPart_dot{s:Str}(h:zC s=true):(46:UInt8) ∉ s.l:=by
 unfold zC at h;rw[Bool.and_eq_true] at h;intro hm;exact low_ne (List.all_eq_true.1 h.2 _ hm) rfl
theorem Wy{l:List Str}(hne:l≠[])(h:∀ x∈l,zC x=true):zq (join l) dot=l:=by
 rw[zbr,jk];show(cutF 46 (WH (l.map (·.l)))).map Str.mk=l;rw[zbs _ (by simpa using hne) (by
  intro x hx;obtain⟨y,hy,rfl⟩:=List.mem_map.1 hx;exact validPart_dot (h y hy)),List.map_map]
 show l.map (λ x=>x)=l;exact List.map_id' l
theorem Qf{l:List Str}(hne:l≠[])(hlen:l.length<=3)(h:∀ x∈l,zC x=true):zg (join l)=true:=by
 unfold zg;rw[Wy hne h,Bool.and_eq_true];exact⟨List.all_eq_true.2 h,by simp[cmpI];omega⟩
theorem xR{s:Str}(h:zg s=true):(∀ x∈zq s dot,zC x=true)/\(zq s dot).length<=3:=by
 unfold zg at h;rw[Bool.and_eq_true] at h;have:=h.2;simp[cmpI] at this;exact⟨List.all_eq_true.1 h.1,by omega⟩
theorem pre_valid{s:Str}(h:zg s=true)(k:Nat):zu (join ((zq s dot).take k))=true:=by
 obtain⟨h1,h2⟩:=xR h;unfold zu;cases k with
 | zero=>rfl
 |
  succ k=>
  have hne:=X2 s dot;rw[Qf (by intro e;have:=congrArg List.length e;simp at this;rw[this] at hne;simp at hne) (by simp;omega) λ x hx=>h1 x (List.mem_of_mem_take hx),Bool.or_true]
theorem join_child{l:List Str}{k:Nat}{x:Str}(hx:l[k]?=some x)(h:∀ x∈l,zC x=true):join (l.take (k+1))=child (join (l.take k)) x:=by
 have hk:=zv hx;unfold join;cases k with
 |
  zero=>
  rw[Jg hx rfl];rfl
 |
  succ k=>
  rw[Qq hx (by simp[cmpI])];unfold child;rw[if_neg];intro e;have hne:l.take (k+1)≠[]:=by intro e;have:=congrArg List.length e;simp at this;subst this;simp at hk
  have hs:=Wy hne λ y hy=>h y (List.mem_of_mem_take hy)
  unfold join at hs;rw[e] at hs;have h0:zC emptyS=true:=h _ (List.mem_of_mem_take (by rw[← hs];simp[zq,xB,emptyS]));exact absurd h0 (by decide)
def okKind(s:Spec):Prop:=s.kind=0\/s.kind=1\/s.kind=2\/s.kind=3
theorem QU(t:List File)(p s:Str):∀ (rs acc:List Int),okKind (ww t p s acc rs)
 |
  [],acc=>by
  unfold ww;split
  ·
   exact .inr (.inr (.inr rfl))
  ·
   exact .inl rfl
 |
  r::rs,acc=>by
  unfold ww;split
  ·
   exact .inr (.inr (.inl rfl))
  ·
   split
   ·
    exact .inr (.inl rfl)
   ·
    exact QU t p s rs _
theorem dir_of_init{t:List File}{r:Int}{c:Str}(hc:c≠emptyS)(h:cmpI .geq (xk t ⟨r,c,⟨[]⟩,true,0,[]⟩) 0=true):Yp t r c=true:=by
 unfold xk at h;rw[W9,List.any_eq_true] at h;obtain⟨f,hf,hs⟩:=h;unfold we at hs;simp only[Bool.and_eq_true,beq_iff_eq,decide_eq_true_eq] at hs;obtain⟨⟨⟨h1,h2⟩,_⟩,_⟩:=hs;unfold Yp;rw[Bool.or_eq_true,List.any_eq_true];refine .inl ⟨f,hf,?_⟩;unfold WT under;simp[h1,h2,hc]
theorem find_eq{t:Tree}(ht:Good t){roots:List Int}(hr:roots.length<=1048576){p s:Str}(hp:zu p=true)(hs:zC s=true)(hc:zg (child p s)=true):ZX t roots p s=some (ju t.files roots p s):=by
 have hpl:=x9 hp;have hsl:=(XP hs).2;have hcl:=xm hc;have hne:=child_ne hc;have hcp:zu (child p s)=true:=by unfold zu;rw[hc,Bool.or_true]
 have he:XB p s=child p s:=by unfold XB;rw[hp,hs,hc];rfl
 unfold ZX;rw[Qd (by omega),he,obS,if_neg (by simp only[decide_eq_true_eq];exact hne)];have hl:zW (λ s16=>jw t roots p s (child p s) s16) (zSpec,[],(0:Int))=some (runL (λ _ (acc:List Int) r=>
   if cmpI .geq (xk t.files ⟨r,child p s,⟨[]⟩,true,0,[]⟩) 0=true then .inr (Sum.inr (⟨2,xk t.files ⟨r,child p s,⟨[]⟩,true,0,[]⟩,[r]⟩:Spec))
   else if cmpI .geq (xk t.files ⟨r,p,s,false,0,[]⟩) 0=true then .inr (Sum.inr (⟨1,xk t.files ⟨r,p,s,false,0,[]⟩,[]⟩:Spec))
   else .inl (if Yp t.files r (child p s)=true then acc++[r] else acc)) (λ acc=>Sum.inl (zSpec,acc)) 0 [] roots):=by
  refine QP (σ:=List Int) roots (λ acc k=>(zSpec,acc,(k:Int))) _ _ (λ k acc=>acc.length<=k) (λ k acc r hx hlt hi=>?_) (λ acc _=>?_) (Nat.le_refl 0) (by omega)
  ·
   have hst:jw t roots p s (child p s) (zSpec,acc,(k:Int))=(if cmpI .geq (xk t.files ⟨r,child p s,⟨[]⟩,true,0,[]⟩) 0=true then some (.inr (.inr (⟨2,xk t.files ⟨r,child p s,⟨[]⟩,true,0,[]⟩,[r]⟩:Spec)))
     else if cmpI .geq (xk t.files ⟨r,p,s,false,0,[]⟩) 0=true then some (.inr (.inr (⟨1,xk t.files ⟨r,p,s,false,0,[]⟩,[]⟩:Spec)))
     else some (.inl (zSpec,(if Yp t.files r (child p s)=true then acc++[r] else acc),((k+1:Nat):Int)))):=by
    unfold jw;simp only;rw[zM,if_pos (decide_eq_true hlt),zG,hx,obS,obS,fileAt_eq ht.len,obS,Bool.true_and,fileAt_eq ht.len,obS,Bool.true_and,hasDir_eq ht.sm ht.pkg hcp (by omega),z7 (by omega)];rw[xe,obS,yE (by simp;omega) (by simp;omega)];generalize cmpI .geq (xk t.files ⟨r,child p s,⟨[]⟩,true,0,[]⟩) 0=b1;generalize cmpI .geq (xk t.files ⟨r,p,s,false,0,[]⟩) 0=b2;generalize Yp t.files r (child p s)=b3;cases b1 <;> cases b2 <;> cases b3 <;> rfl
   cases h1:cmpI .geq (xk t.files ⟨r,child p s,⟨[]⟩,true,0,[]⟩) 0 with
   | true=>rw[h1] at hst;exact hst
   |
    false=>
    rw[h1] at hst;rw[if_neg (by decide)] at hst ⊢;cases h2:cmpI .geq (xk t.files ⟨r,p,s,false,0,[]⟩) 0 with
    | true=>rw[h2] at hst;exact hst
    |
     false=>
     rw[h2] at hst;rw[if_neg (by decide)] at hst ⊢;refine⟨hst,?_⟩;split
     ·
      simp;omega
     ·
      omega
  ·
   unfold jw;simp only;rw[zM,if_neg (by simp)]
 rw[hl,obS];unfold ju;have key:∀ (rs:List Int) (k:Nat) (acc:List Int),Sum.elim (λ b14:Spec×List Int=>if(cmpI .gtr (b14.2.length:Int) (0:Int))=true then(some (⟨(3:Int),(-1:Int),b14.2⟩:Spec)) else((qn).bind λ v75=>some v75)) some (runL (λ _ (acc:List Int) r=>
   if cmpI .geq (xk t.files ⟨r,child p s,⟨[]⟩,true,0,[]⟩) 0=true then .inr (Sum.inr (⟨2,xk t.files ⟨r,child p s,⟨[]⟩,true,0,[]⟩,[r]⟩:Spec))
   else if cmpI .geq (xk t.files ⟨r,p,s,false,0,[]⟩) 0=true then .inr (Sum.inr (⟨1,xk t.files ⟨r,p,s,false,0,[]⟩,[]⟩:Spec))
   else .inl (if Yp t.files r (child p s)=true then acc++[r] else acc)) (λ acc=>Sum.inl (zSpec,acc)) k acc rs)=some (ww t.files p s acc rs):=by
  intro rs
  induction rs with
  |
   nil=>
   intro k acc;unfold ww;simp only[runL,Sum.elim_inl];split <;> rfl
  |
   cons r rs ih=>
   intro k acc;unfold ww;rw[runL];cases h1:cmpI .geq (xk t.files ⟨r,child p s,⟨[]⟩,true,0,[]⟩) 0 with
   | true=>rw[dir_of_init hne h1];rfl
   |
    false=>
    rw[Bool.and_false];cases h2:cmpI .geq (xk t.files ⟨r,p,s,false,0,[]⟩) 0 with
    | true=>rfl
    | false=>exact ih _ _
 exact key roots 0 []
theorem zaQ(c:UInt8):∀ (a l:List UInt8),cutF c (a++c::l)=cutF c a++cutF c l
 | [],l=>by simp[cutF]
 |
  b::a,l=>by
  rw[List.cons_append,Yr,zaQ c a l,Yr];cases b == c with
  | true=>rfl
  |
   false=>
   rw[if_neg (by decide),if_neg (by decide)];cases hc:cutF c a with
   | nil=>exact absurd hc (ZQ c a)
   | cons h t=>rfl
theorem split_append(p s:Str):zq ⟨(p.l++[46])++s.l⟩ dot=zq p dot++zq s dot:=by
 rw[jk,jk,jk,← List.map_append];show(cutF 46 ((p.l++[46])++s.l)).map Str.mk=(cutF 46 p.l++cutF 46 s.l).map Str.mk;rw[List.append_assoc,List.singleton_append,zaQ]
theorem JR{t:List File}{list:List Str}:∀ (xs:List Str) (k:Nat) (out:Spec) (x:Str),jv t list k out (xs++[x])=Y8\/∃ r,jv t list k out (xs++[x])=ju t r (join (list.take (k+xs.length))) x
 |
  [],k,out,x=>by
  rw[List.nil_append];unfold jv jv;split
  ·
   exact .inl rfl
  ·
   exact .inr ⟨_,rfl⟩
 |
  y::xs,k,out,x=>by
  rw[List.cons_append];unfold jv;split
  ·
   exact .inl rfl
  ·
   have:=JR (t:=t) (list:=list) xs (k+1) (ju t out.roots (join (list.take k)) y) x;rwa[show k+1+xs.length=k+(y::xs).length by simp;omega] at this
theorem find_last{t:List File}{path:List Int}{n:Str}(hn:zg n=true):find t path n=Y8\/∃ r p s,find t path n=ju t r p s/\child p s=n:=by
 obtain⟨hparts,_⟩:=xR hn;have hne:=X2 n dot;obtain⟨xs,x,hxs⟩:∃ xs x,zq n dot=xs++[x]:=by
  have h0:zq n dot≠[]:=by intro e;rw[e] at hne;simp at hne
  exact⟨_,_,(List.dropLast_concat_getLast h0).symm⟩
 unfold find;have hg:(zq n dot)[xs.length]?=some x:=by rw[hxs];simp
 have hj:=join_child hg hparts;rw[show xs.length+1=(zq n dot).length by rw[hxs];simp,List.take_length,Wx] at hj;have:=JR (t:=t) (list:=zq n dot) xs 0 ⟨3,-1,path⟩ x;rw[← hxs,Nat.zero_add] at this;rcases this with h | ⟨r,h⟩
 ·
  exact .inl h
 ·
  exact .inr ⟨r,_,_,h,hj.symm⟩
section
variable{S β:Type}
theorem Jn{step:S->Option (S⊕β)}(n:Nat)(mk:Nat->S){b:β}(h:∀ k,k<n->step (mk k)=some (.inl (mk (k+1))))(hend:step (mk n)=some (.inr b))(hn:n<576460752303423488){s:S}(hs:s=mk 0):zW step s=some b:=by
 subst hs;have key:∀ m k,k+m=n->jU step (m+1) (mk k)=some b:=by
  intro m
  induction m with
  | zero=>intro k hk;rw[show k=n by omega];exact xw hend
  | succ m ih=>intro k hk;rw[qV (h k (by omega))];exact ih (k+1) (by omega)
 exact qO (key n 0 (by omega)) (by omega)
end
theorem Xh{α:Type}{l:List α}{k:Nat}(h:k<l.length):∃ x,l[k]?=some x/\x∈l:=⟨l[k],List.getElem?_eq_getElem h,List.getElem_mem h⟩
theorem wa{x:Str}(h:zg x=true):sho x:=by have:=xm h;unfold sho;omega
theorem atI_file{l:List File}{n:Int}(h0:0<=n)(h:n<l.length):atI l n=some ((l[n.toNat]?).getD default):=by
 unfold atI;rw[if_pos h0];exact get_def h0 h
open Go.RowKit
def Okd{α:Type}[Rep α](x:α):Prop:=∃ M w cs,Rep.rdc M w cs x
section
variable{α β:Type}[Rep α][Rep β]
theorem Okd.fld{get:α->β}{off:Nat}(f:Fld get off){x:α}(h:Okd x):Okd (get x):=by
 obtain⟨M,w,cs,hr⟩:=h;obtain⟨c,_,h2⟩:=f.sub hr;exact⟨M,w,c,h2⟩
theorem Okd.len{xs:List α}(h:Okd xs):xs.length<=9223372036854775807:=by
 obtain⟨M,w,cs,A,c,_,h1,h2,_⟩:=h;exact Nat.le_trans h1 h2
theorem rowR_okd{M:Nat->Prop}{w:World}:∀ {cells:List Value} {xs:List α},rowR M w cells xs->∀ x∈xs,Okd x
 | _,_::_,⟨c,_r,_,h1,h2⟩,x,hx=>(List.mem_cons.1 hx).elim (λ e=>e ▸ ⟨M,w,c,h1⟩) (rowR_okd h2 x)
theorem Okd.mem{xs:List α}(h:Okd xs){x:α}(hx:x∈xs):Okd x:=by
 obtain⟨M,w,cs,A,c,_,_,_,h3⟩:=h;rcases h3 with h3 | ⟨b,o,cells,_,_,_,hr⟩
 ·
  rw[h3] at hx;cases hx
 ·
  exact rowR_okd hr x hx
end
section
variable{α β σ S:Type}
theorem neq_len{m n:Nat}:cmpI .neq (m:Int) (n:Int)=!decide (m=n):=by
 by_cases h:m=n
 ·
  simp[cmpI,h]
 ·
  simp[cmpI,h];omega
theorem eq_loop[DecidableEq α]{step:Int->Option (Int⊕(Unit⊕Bool))}(xs ys:List α)(hxy:xs.length=ys.length)
  (h:∀ k (hk:k<xs.length) (hk2:k<ys.length),step (k:Int)=some (if xs[k]=ys[k] then .inl ((k+1:Nat):Int) else .inr (.inr false)))
  (hend:step (xs.length:Int)=some (.inr (.inl ()))) (hlen:xs.length<576460752303423488):Option.bind (α:=Unit⊕Bool) (zW step 0) (Sum.elim (λ _=>some true) some)=some (decide (xs=ys)):=by
 have key:∀ m k,k+m=xs.length->xs.take k=ys.take k->∃ r,jU step (m+1) (k:Int)=some r/\(Sum.elim (λ _=>some true) some r:Option Bool)=some (decide (xs=ys)):=by
  intro m
  induction m with
  |
   zero=>
   intro k hk he;have:k=xs.length:=by omega
   subst this;refine⟨_,xw hend,?_⟩;rw[List.take_length,hxy,List.take_length] at he;simp[he]
  |
   succ m ih=>
   intro k hk he;have hlt:k<xs.length:=by omega
   have hlt2:k<ys.length:=by omega
   have hs:=h k hlt hlt2;by_cases e:xs[k]=ys[k]
   ·
    rw[if_pos e] at hs;rw[qV hs];refine ih (k+1) (by omega) ?_;rw[List.take_add_one,List.take_add_one,he,List.getElem?_eq_getElem hlt,List.getElem?_eq_getElem hlt2,e]
   ·
    rw[if_neg e] at hs;refine⟨_,xw hs,?_⟩;have:xs≠ys:=λ h=>by subst h;exact e rfl
    simp[this]
 obtain⟨r,h1,h2⟩:=key xs.length 0 (by omega) rfl;have h1':jU step (xs.length+1) (0:Int)=some r:=h1;rw[qO h1' (by omega),obS];exact h2
end
open Go.RowKit
section
variable{α:Type}
variable{q:Prop}[Decidable q]{K:Option Bool}
theorem eqS_list[DecidableEq α]{step:Int->Option (Int⊕(Unit⊕Bool))}{xs ys:List α}
  (h:∀ k (hk:k<xs.length) (hk2:k<ys.length),step (k:Int)=some (if xs[k]=ys[k] then .inl ((k+1:Nat):Int) else .inr (.inr false)))
  (hend:step (xs.length:Int)=some (.inr (.inl ()))) (hlen:xs.length<576460752303423488):
  (if cmpI .neq (xs.length:Int) (ys.length:Int)=true then some false else Option.bind (α:=Unit⊕Bool) (zW step 0) (Sum.elim (λ _=>some true) some))=some (decide (xs=ys)):=by
 rw[neq_len];by_cases e:xs.length=ys.length
 ·
  rw[if_neg (by simp[e]),eq_loop xs ys e h hend hlen]
 ·
  rw[if_pos (by simp[e])];have:xs≠ys:=λ h=>e (by rw[h])
  simp[this]
end
theorem i64_in{n:Int}(h1:0<=n)(h2:n<=4611686018427387904):i64 n=some n:=xU (by omega) (by omega)
theorem modO_of{m n:Int}(h:n≠0):modO m n=some (m.tmod n):=if_neg h
theorem divO_of{m n:Int}(h:n≠0)(h2:0<=m.tdiv n)(h3:m.tdiv n<=9223372036854775807):divO m n=some (m.tdiv n):=if_neg (by omega)
theorem lss_at{α:Type}{xs:List α}{k:Nat}(hk:k<xs.length):cmpI .lss (k:Int) (xs.length:Int)=true:=by rw[zM];exact decide_eq_true hk
theorem lss_end{α:Type}{xs:List α}:cmpI .lss (xs.length:Int) (xs.length:Int)=false:=by rw[zM];simp
theorem zaq{α:Type}{xs:List α}{k:Nat}(hk:k<xs.length):atI xs (k:Int)=some xs[k]:=by rw[zG,List.getElem?_eq_getElem hk]
end Go.Proofs.YtnlhpkbphdbknaaGreatDoor
