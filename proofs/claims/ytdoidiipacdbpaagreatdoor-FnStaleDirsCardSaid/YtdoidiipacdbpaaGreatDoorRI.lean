import Derived.Test.YtdoidiipacdbpaaGreatDoorRFb
import Derived.Test.YtdoidiipacdbpaaGreatDoorRB
import Derived.Test.YtdoidiipacdbpaaGreatDoorRG
import Derived.Test.YtdoidiipacdbpaaGreatDoorRKb
namespace Go.Proofs.YtdoidiipacdbpaaGreatDoor
section
variable{α β σ S:Type}
theorem yb(xs:List α)(k:Nat):atI xs (k:Int)=xs[k]?:=by simp[atI]
theorem wn{n:Int}(h1:-9223372036854775808<=n)(h2:n<=9223372036854775807):i64 n=some n:=if_pos ⟨h1,h2⟩
theorem zV{k:Nat}(h:k<4611686018427387904):i64 ((k:Int)+1)=some ((k+1:Nat):Int):=by rw[wn (by omega) (by omega)];rfl
theorem zU[Inhabited α](g:Bool)(x:α):gO g (some x)=some (if g=true then x else default):=by unfold gO;split <;> rfl
theorem qa[Inhabited α](e:Option α):gO true e=e:=rfl
theorem gO_false[Inhabited α](e:Option α):gO false e=some default:=rfl
theorem zK(k n:Nat):cmpI .lss (k:Int) (n:Int)=decide (k<n):=by simp[cmpI]
theorem wq{b:Nat}{xs ys:List α}(h:(xs.length+ys.length)*b<=140737488355328)(h2:xs.length+ys.length<=9223372036854775807):appO b xs ys=some (xs++ys):=if_pos ⟨h,h2⟩
theorem zaQ{s:Str}{k:Nat}(h:k<=s.l.length):cutHO s (k:Int)=some ⟨s.l.take k⟩:=by unfold cutHO;rw[if_pos ⟨by omega,by omega⟩];rfl
theorem zaR{s:Str}{k:Nat}(h:k<=s.l.length):cutLO s (k:Int)=some ⟨s.l.drop k⟩:=by unfold cutLO;rw[if_pos ⟨by omega,by omega⟩];rfl
theorem Xp{xs:List α}{k:Nat}(h:k<=xs.length):ZQ xs (k:Int)=some (xs.take k):=by unfold ZQ;rw[if_pos ⟨by omega,by omega⟩];rfl
theorem setO_nat{xs:List α}{k:Nat}{y:α}(h:k<xs.length):setO xs (k:Int) y=some (xs.set k y):=by unfold setO;rw[if_pos ⟨by omega,by omega⟩];rfl
theorem Zh{m n:Str}(h:m.l.length+n.l.length<=9223372036854775807):catO m n=some ⟨m.l++n.l⟩:=if_pos h
theorem YL{step:S->Option (S⊕β)}{s s':S}{n:Nat}(h:step s=some (.inl s')):qL step (n+1) s=qL step n s':=by rw[qL,h]
theorem qF{step:S->Option (S⊕β)}{s:S}{b:β}{n:Nat}(h:step s=some (.inr b)):qL step (n+1) s=some b:=by rw[qL,h]
theorem iterM_mono{step:S->Option (S⊕β)}{r:β}:∀ (m j:Nat) (s:S),qL step m s=some r->qL step (m+j) s=some r:=by
 intro m
 induction m with
 | zero=>intro j s h;simp[qL] at h
 |
  succ m ih=>
  intro j s h;rw[show m+1+j=(m+j)+1 by omega];unfold qL at h ⊢;split at h
  ·
   cases h
  ·
   exact ih j _ h
  ·
   exact h
theorem Yn{step:S->Option (S⊕β)}{r:β}{m:Nat}{s:S}(h:qL step m s=some r)(hm:m<=1152921504606846976):zS step s=some r:=by
 unfold zS;have:=iterM_mono m (1152921504606846976 - m) s h;rwa[show m+(1152921504606846976 - m)=1152921504606846976 by omega] at this
def runL(R:Nat->σ->α->σ⊕β)(fin:σ->β):Nat->σ->List α->β
 | _,s,[]=>fin s
 |
  k,s,x::xs=>match R k s x with
  | .inl s'=>runL R fin (k+1) s' xs
  | .inr b=>b
theorem XF{step:S->Option (S⊕β)}(xs:List α)(mk:σ->Nat->S)(R:Nat->σ->α->σ⊕β)(fin:σ->β)(Inv:Nat->σ->Prop)
  (h:∀ k s x,xs[k]?=some x->k<xs.length->Inv k s->match R k s x with
   | .inl s'=>step (mk s k)=some (.inl (mk s' (k+1)))/\Inv (k+1) s'
   | .inr b=>step (mk s k)=some (.inr b))
  (hend:∀ s,Inv xs.length s->step (mk s xs.length)=some (.inr (fin s))) {s0:σ} (h0:Inv 0 s0) (hlen:xs.length<576460752303423488):zS step (mk s0 0)=some (runL R fin 0 s0 xs):=by
 have key:∀ m k s,k+m=xs.length->Inv k s->qL step (m+1) (mk s k)=some (runL R fin k s (xs.drop k)):=by
  intro m
  induction m with
  |
   zero=>
   intro k s hk hi;have:k=xs.length:=by omega
   subst this;rw[List.drop_length,runL,qL,hend s hi]
  |
   succ m ih=>
   intro k s hk hi;have hlt:k<xs.length:=by omega
   have hx:xs[k]?=some xs[k]:=List.getElem?_eq_getElem hlt;rw[List.drop_eq_getElem_cons hlt,runL,qL];have hr:=h k s xs[k] hx hlt hi;cases e:R k s xs[k] with
   |
    inl s'=>
    rw[e] at hr;simp only at hr;rw[hr.1];exact ih (k+1) s' (by omega) hr.2
   |
    inr b=>
    rw[e] at hr;simp only at hr;rw[hr]
 exact Yn (key xs.length 0 s0 (by omega) h0) (by omega)
theorem loop_find{step:Int->Option (Int⊕β)}(xs:List α)(R:Nat->α->Option β)(e:β)
  (h:∀ k x,xs[k]?=some x->k<xs.length->step (k:Int)=some (match R k x with | none=>.inl ((k+1:Nat):Int) | some b=>.inr b))
  (hend:step (xs.length:Int)=some (.inr e)) (hlen:xs.length<576460752303423488) {s:Int} (hs:s=0):
  zS step s=some (runL (λ k (_:Unit) x=>match R k x with | none=>.inl () | some b=>.inr b) (λ _=>e) 0 () xs):=by
 subst hs;refine XF (σ:=Unit) xs (λ _ k=>(k:Int)) _ _ (λ _ _=>True) (λ k s x hx hlt _=>?_) (λ _ _=>hend) trivial hlen;have:=h k x hx hlt;cases hR:R k x with
 | none=>rw[hR] at this;exact⟨this,trivial⟩
 | some b=>rw[hR] at this;exact this
theorem runL_any(p:α->Bool)(b e:β):∀ (k:Nat) (xs:List α),runL (λ _ (_:Unit) x=>match (if p x=true then some b else none) with | none=>.inl () | some b=>.inr b) (λ _=>e) k () xs=if xs.any p=true then b else e
 | _,[]=>rfl
 |
  k,x::xs=>by
  cases h:p x with
  | true=>simp[runL,h]
  | false=>simp only[runL,h];rw[List.any_cons,h,Bool.false_or];exact runL_any p b e (k+1) xs
theorem q7{step:Int->Option (Int⊕β)}(xs:List α)(p:α->Bool)(b e:β)
  (h:∀ k x,xs[k]?=some x->k<xs.length->step (k:Int)=some (if p x=true then .inr b else .inl ((k+1:Nat):Int)))
  (hend:step (xs.length:Int)=some (.inr e)) (hlen:xs.length<576460752303423488) {s:Int} (hs:s=0):
  zS step s=some (if xs.any p=true then b else e):=by
 rw[loop_find xs (λ _ x=>if p x=true then some b else none) e (λ k x hx hlt=>?_) hend hlen hs,runL_any];rw[h k x hx hlt];cases p x <;> rfl
theorem runL_idx(p:α->Bool)(f:Int->β)(e:β):∀ (k:Nat) (xs:List α),runL (λ k (_:Unit) x=>match (if p x=true then some (f k) else none) with | none=>.inl () | some b=>.inr b) (λ _=>e) k () xs=(match xs.findIdx? p with | some i=>f ((k+i:Nat):Int) | none=>e)
 | _,[]=>rfl
 |
  k,x::xs=>by
  cases h:p x with
  | true=>simp[runL,h,List.findIdx?_cons]
  |
   false=>
   simp only[runL,h,List.findIdx?_cons,Bool.false_eq_true,if_false];rw[runL_idx p f e (k+1) xs];cases xs.findIdx? p with
   | none=>rfl
   | some i=>simp only[Option.map_some];congr 1;omega
theorem Wo{step:Int->Option (Int⊕β)}(xs:List α)(p:α->Bool)(f:Int->β)(e:β)
  (h:∀ k x,xs[k]?=some x->k<xs.length->step (k:Int)=some (if p x=true then .inr (f k) else .inl ((k+1:Nat):Int)))
  (hend:step (xs.length:Int)=some (.inr e)) (hlen:xs.length<576460752303423488) {s:Int} (hs:s=0):
  zS step s=some (match xs.findIdx? p with | some i=>f (i:Int) | none=>e):=by
 rw[loop_find xs (λ k x=>if p x=true then some (f k) else none) e (λ k x hx hlt=>?_) hend hlen hs,runL_idx]
 ·
  cases xs.findIdx? p <;> simp
 ·
  rw[h k x hx hlt];cases p x <;> rfl
end
theorem Xl{s:Str}(hs:mid s):yY s=some (zM s):=by
 unfold mid at hs;have hl:zS (λ s4=>x6 s s4) 0=some (if s.l.any (λ b=>!low b)=true then .inr false else .inl ()):=by
  refine q7 s.l _ _ _ (λ k x hx hlt=>?_) ?_ (by omega) rfl
  ·
   unfold x6;rw[zK,if_pos (decide_eq_true hlt),yb,hx,obS,zU,obS,zV (by omega)];unfold low;generalize cmpB .lss x (UInt8.ofNat 97)=c1;cases c1 with
   | true=>rfl
   |
    false=>
    rw[if_pos (show(false == false)=true from rfl)];generalize cmpB .gtr x (UInt8.ofNat 122)=c2;cases c2 <;> rfl
  ·
   unfold x6;rw[zK,if_neg (by simp)]
 unfold yY;rw[hl,obS];unfold zM;cases h:s.l.any (λ b=>!low b) with
 |
  true=>
  have:s.l.all low=false:=by
   rw[Bool.eq_false_iff];intro h2;rw[List.any_eq_true] at h;obtain⟨b,hb,hb2⟩:=h;rw[List.all_eq_true.1 h2 b hb] at hb2;cases hb2
  simp[this]
 |
  false=>
  have:s.l.all low=true:=by
   rw[List.all_eq_true];intro b hb;have:=List.any_eq_false.1 h b hb;simpa using this
  simp only[Bool.false_eq_true,if_false,Sum.elim_inl,yx,obS,this,Bool.and_true,inR];simp[cmpI]
def cutF(c:UInt8):List UInt8->List (List UInt8)
 | []=>[[]]
 |
  b::l=>if b == c then[]::cutF c l else match cutF c l with
  | h::t=>(b::h)::t
  | []=>[[b]]
theorem YM(c b:UInt8)(l:List UInt8):cutF c (b::l)=if b == c then[]::cutF c l else match cutF c l with
  | h::t=>(b::h)::t
  | []=>[[b]]:=rfl
theorem ZI(c:UInt8):∀ l,cutF c l≠[]
 | []=>by simp[cutF]
 |
  b::l=>by
  unfold cutF;split
  ·
   simp
  ·
   split <;> simp
theorem Ju(c:UInt8):∀ l,(cutF c l).length=l.count c+1
 | []=>by simp[cutF]
 |
  b::l=>by
  unfold cutF;cases h:b == c with
  |
   true=>
   simp only[if_true,List.length_cons,Ju c l];rw[List.count_cons,h];simp
  |
   false=>
   simp only[Bool.false_eq_true,if_false];rw[List.count_cons,h];simp only[Bool.false_eq_true,if_false,Nat.add_zero];rw[← Ju c l];cases hc:cutF c l with
   | nil=>exact absurd hc (ZI c l)
   | cons h t=>rfl
theorem J4(c:UInt8):∀ (l:List UInt8) (st:List Str×Str),(let r:=l.foldl (jM c) st;r.1++[r.2])=st.1++(match cutF c l with | h::t=>(⟨st.2.l++h⟩:Str)::t.map Str.mk | []=>[])
 | [],st=>by simp[cutF]
 |
  b::l,st=>by
  rw[List.foldl_cons];have ih:=J4 c l (jM c st b);simp only at ih ⊢;rw[ih];unfold jM;rw[YM];cases h:b == c with
  |
   true=>
   simp only[if_true,List.append_assoc];cases hc:cutF c l with
   | nil=>exact absurd hc (ZI c l)
   | cons h t=>simp
  |
   false=>
   simp only[Bool.false_eq_true,if_false];cases hc:cutF c l with
   | nil=>exact absurd hc (ZI c l)
   | cons h t=>simp
theorem ji(s:Str)(c:UInt8):zu s c=(cutF c s.l).map Str.mk:=by
 have:=J4 c s.l ([],⟨[]⟩);simp only at this;unfold zu xp;rw[this];cases hc:cutF c s.l with
 | nil=>exact absurd hc (ZI c s.l)
 | cons h t=>simp
theorem YV(c:UInt8):∀ l,Lib.indexByte l c<0->cutF c l=[l]
 | [],_=>rfl
 |
  b::l,h=>by
  unfold Lib.indexByte at h;unfold cutF;cases hb:b == c with
  | true=>rw[hb] at h;simp at h
  |
   false=>
   rw[hb] at h;simp only[Bool.false_eq_true,if_false] at h ⊢;have hge:=Lib.indexByte_ge l c;have:Lib.indexByte l c<0:=by
    split at h
    ·
     rename_i e;have:=eq_of_beq e;omega
    ·
     omega
   rw[YV c l this]
theorem YW(c:UInt8):∀ l,0<=Lib.indexByte l c->Lib.indexByte l c<l.length/\cutF c l=l.take (Lib.indexByte l c).toNat::cutF c (l.drop ((Lib.indexByte l c).toNat+1))
 | [],h=>by simp[Lib.indexByte] at h
 |
  b::l,h=>by
  unfold Lib.indexByte at h ⊢;cases hb:b == c with
  | true=>simp[cutF,hb]
  |
   false=>
   rw[hb] at h;simp only[Bool.false_eq_true,if_false] at h ⊢;cases he:Lib.indexByte l c == -1 with
   | true=>rw[he] at h;simp at h
   |
    false=>
    rw[he] at h;simp only[Bool.false_eq_true,if_false] at h ⊢;have hge:=Lib.indexByte_ge l c;have hne:Lib.indexByte l c≠-1:=by simpa using he
    obtain⟨h1,h2⟩:=YW c l (by omega);refine⟨by simp;omega,?_⟩;have e1:(Lib.indexByte l c+1).toNat=(Lib.indexByte l c).toNat+1:=by omega
    rw[e1];rw[YM,hb,h2];simp only[Bool.false_eq_true,if_false,List.take_succ_cons,List.drop_succ_cons]
theorem genSplit_loop(c:UInt8)(n:Nat)(hn:n<1099511627777):∀ (l:List UInt8) (done:List Str),l.length<=1099511627776->done.length+(cutF c l).length=n->
  ∀
   m,(cutF c l).length<=m->qL (λ s35=>y9 ⟨[c]⟩ 0 ((n:Int) - 1) s35) m ((⟨l⟩:Str),done++List.replicate (n - done.length) zStr,(done.length:Int))=
   some (⟨(cutF c l).getLast (ZI c l)⟩,done++((cutF c l).dropLast.map Str.mk++[zStr]),(n:Int) - 1):=by
 intro l
 induction hlen:l.length using Nat.strongRecOn generalizing l with
 |
  _ k ih=>
  intro done hl hd m hm;have hne:=ZI c l;have hpos:0<(cutF c l).length:=List.length_pos_iff.2 hne;obtain⟨m,rfl⟩:∃ m',m=m'+1:=⟨m - 1,by omega⟩;by_cases hlast:(cutF c l).length=1
  ·
   rw[qF (b:=((⟨l⟩:Str),done++List.replicate (n - done.length) zStr,(done.length:Int))) (by unfold y9;exact if_neg (by simp[cmpI];omega))];obtain⟨x,hx⟩:=List.length_eq_one_iff.1 hlast;have e1:n - done.length=1:=by omega
   simp only[hx,List.getLast_singleton,List.dropLast_singleton,List.map_nil,List.nil_append,e1,List.replicate_one];have hxl:x=l:=by
    rcases Int.lt_or_le (Lib.indexByte l c) 0 with h | h
    ·
     rw[YV c l h] at hx;injection hx with hx;exact hx.symm
    ·
     obtain⟨_,h2⟩:=YW c l h;rw[h2] at hx;have:=congrArg List.length hx;simp at this;exact absurd this (ZI _ _)
   rw[hxl]
   congr 2
   congr 1
   omega
  ·
   have hidx:0<=Lib.indexByte l c:=by
    rcases Int.lt_or_le (Lib.indexByte l c) 0 with h | h
    ·
     rw[YV c l h] at hlast;simp at hlast
    ·
     exact h
   obtain⟨h1,h2⟩:=YW c l hidx;obtain⟨j,hi⟩:=Int.eq_ofNat_of_zero_le hidx;rw[hi] at h1 h2;rw[Int.toNat_natCast] at h2;have hj:j<l.length:=by omega
   have e2:ja ⟨l⟩ ⟨[c]⟩=some (j:Int):=by simp[ja,hi]
   have hrep:done.length<(done++List.replicate (n - done.length) zStr).length:=by simp;omega
   have e4:atI (done++List.replicate (n - done.length) zStr) (done.length:Int)=some zStr:=by
    rw[yb,List.getElem?_append_right (Nat.le_refl _),Nat.sub_self,List.getElem?_replicate,if_pos (by omega)]
   have e5:setO (done++List.replicate (n - done.length) zStr) (done.length:Int) (⟨l.take j⟩:Str)=some ((done++[⟨l.take j⟩])++List.replicate (n - (done.length+1)) zStr):=by
    rw[setO_nat hrep]
    congr 1
    rw[List.set_append_right _ _ (Nat.le_refl _),Nat.sub_self];obtain⟨q,hq⟩:∃ q,n - done.length=q+1:=⟨n - done.length - 1,by omega⟩;rw[hq,List.replicate_succ,List.set_cons_zero,List.append_assoc,show n - (done.length+1)=q by omega];rfl
   have hstep:y9 ⟨[c]⟩ 0 ((n:Int) - 1) ((⟨l⟩:Str),done++List.replicate (n - done.length) zStr,(done.length:Int))=some (.inl ((⟨l.drop (j+1)⟩:Str),(done++[⟨l.take j⟩])++List.replicate (n - (done.length+1)) zStr,((done.length+1:Nat):Int))):=by
    unfold y9;rw[if_pos (by simp[cmpI];omega)];simp only;rw[e2,obS,if_neg (by simp[cmpI]),show((j:Int)+0)=(j:Int) by omega,wn (by omega) (by omega),obS,zaQ (show j<=(⟨l⟩:Str).l.length by show j<=l.length;omega),obS,e4,obS,e5,obS];rw[show((j:Int)+(([c]:List UInt8).length:Int))=((j+1:Nat):Int) from rfl,wn (by omega) (by omega),obS,zaR (show j+1<=(⟨l⟩:Str).l.length by show j+1<=l.length;omega),obS,zV (by omega),obS]
   rw[YL hstep];have hlen2:(cutF c (l.drop (j+1))).length+1=(cutF c l).length:=by rw[h2];rfl
   have hrec:=ih (l.drop (j+1)).length (by simp;omega) (l.drop (j+1)) rfl (done++[⟨l.take j⟩]) (by simp;omega) (by simp;omega) m (by omega);rw[List.length_append,List.length_singleton] at hrec;rw[hrec];have hne2:=ZI c (l.drop (j+1));have e7:(cutF c l).getLast hne=(cutF c (l.drop (j+1))).getLast hne2:=by
    have:∀ (L:List (List UInt8)) (hL:L≠[]),L=l.take j::cutF c (l.drop (j+1))->L.getLast hL=(cutF c (l.drop (j+1))).getLast hne2:=by
     intro L hL e;subst e;exact List.getLast_cons hne2
    exact this _ hne h2
   have e8:(cutF c l).dropLast=l.take j::(cutF c (l.drop (j+1))).dropLast:=by
    have:∀ (L:List (List UInt8)),L=l.take j::cutF c (l.drop (j+1))->L.dropLast=l.take j::(cutF c (l.drop (j+1))).dropLast:=by
     intro L e;subst e;rw[List.dropLast_cons_of_ne_nil hne2]
    exact this _ h2
   rw[e7,e8];simp
theorem Split_eq{s:Str}(hs:s.l.length<=8388608)(c:UInt8):wl s ⟨[c]⟩=some (zu s c):=by
 unfold wl qO;have hcount:s.l.count c<=s.l.length:=List.count_le_length;rw[if_neg (by simp[cmpI]),if_neg (by simp)];have e1:Z0 s ⟨[c]⟩=some (s.l.count c:Int):=rfl;rw[if_pos (by simp[cmpI]),e1,obS,zV (by omega),obS,obS,zV (by omega),obS];have hmin:(if((s.l.length+1:Nat):Int)<((s.l.count c+1:Nat):Int) then((s.l.length+1:Nat):Int) else((s.l.count c+1:Nat):Int))=((s.l.count c+1:Nat):Int):=if_neg (by omega);rw[hmin];have hbig:s.l.count c+1<=16777216:=by omega
 have e2:makeO 1 16 ((s.l.count c+1:Nat):Int) zStr=some (List.replicate (s.l.count c+1) zStr):=by
  unfold makeO;rw[if_pos ⟨by omega,by simp;omega,by simp;omega,by omega⟩];rfl
 rw[e2,obS,wn (by omega) (by omega),obS];have hl:=Yn (genSplit_loop c (s.l.count c+1) (by omega) s.l [] (by omega) (by simp[Ju]) (s.l.count c+1) (by rw[Ju];omega)) (by omega);simp only[List.nil_append,List.length_nil,Nat.sub_zero] at hl;rw[show((0:Nat):Int)=0 from rfl] at hl;rw[hl,obS];have hne:=ZI c s.l;have hlen:=Ju c s.l;have hz:((cutF c s.l).dropLast.map Str.mk).length=s.l.count c:=by simp[hlen]
 have e3:(((s.l.count c+1:Nat):Int) - 1)=(s.l.count c:Int):=by omega
 simp only[e3];have e4:atI ((cutF c s.l).dropLast.map Str.mk++[zStr]) (s.l.count c:Int)=some zStr:=by
  rw[yb,List.getElem?_append_right (by omega),hz,Nat.sub_self];rfl
 have e5:setO ((cutF c s.l).dropLast.map Str.mk++[zStr]) (s.l.count c:Int) (⟨(cutF c s.l).getLast hne⟩:Str)=some ((cutF c s.l).map Str.mk):=by
  unfold setO;rw[if_pos ⟨by omega,by simp[hlen]⟩]
  congr 1
  rw[Int.toNat_natCast,List.set_append_right _ _ (by omega),hz,Nat.sub_self,List.set_cons_zero];have:=List.dropLast_concat_getLast hne
  conv=>rhs;rw[← this]
  simp
 rw[e4,obS,e5,obS,zV (by omega),obS];have e6:ZQ ((cutF c s.l).map Str.mk) ((s.l.count c+1:Nat):Int)=some ((cutF c s.l).map Str.mk):=by
  unfold ZQ;rw[if_pos ⟨by omega,by simp[hlen]⟩]
  congr 1
  rw[Int.toNat_natCast];exact List.take_of_length_le (by simp[hlen])
 rw[e6,ji];rfl
def sho(s:Str):Prop:=s.l.length<=8388608
theorem sho.mid{s:Str}(h:sho s):mid s:=by unfold sho at h;unfold Go.Proofs.YtdoidiipacdbpaaGreatDoor.mid;omega
theorem split_len(s:Str)(c:UInt8):(zu s c).length<=s.l.length+1:=by have:=len_room (zu s c);rwa[YC] at this
theorem zbQ{s x:Str}{c:UInt8}(h:x∈zu s c):x.l.length<=s.l.length+1:=by
 obtain⟨k,hk⟩:=List.getElem?_of_mem h;have:=part_le hk;rwa[YC] at this
theorem JH{α:Type}(p:α->Bool)(l:List α):l.any (λ x=>!p x)=!l.all p:=by
 induction l with
 | nil=>rfl
 | cons x l ih=>simp[ih]
theorem qb{s:Str}(hs:sho s):yc s=some (zF s):=by
 unfold sho at hs;have hlen:=split_len s dot;unfold yc;rw[show wl s (⟨[46]⟩:Str)=some (zu s dot) from Split_eq hs dot,obS];have hl:zS (λ s7=>x9 (zu s dot) s7) 0=some (if(zu s dot).any (λ x=>!zM x)=true then .inr false else .inl ()):=by
  refine q7 _ _ _ _ (λ k x hx hlt=>?_) ?_ (by omega) rfl
  ·
   unfold x9;have hm:mid x:=by have:=zbQ (List.mem_of_getElem? hx);unfold mid;omega
   rw[zK,if_pos (decide_eq_true hlt),yb,hx,obS,Xl hm,obS,zV (by omega)];cases zM x <;> rfl
  ·
   unfold x9;rw[zK,if_neg (by simp)]
 rw[hl,obS,JH];unfold zF;cases(zu s dot).all zM <;> rfl
theorem ZJ{s:Str}(hs:sho s):yZ s=some (zy s):=by
 unfold yZ;rw[qb hs,zU,obS];unfold zy yv;cases decide (s=(⟨[]⟩:Str)) <;> rfl
theorem zbR{s:Str}(hs:sho s):qr s=some (if zF s=true then zu s dot else[]):=by
 unfold qr;rw[qb hs,obS,show wl s (⟨[46]⟩:Str)=some (zu s dot) from Split_eq hs dot];cases zF s <;> rfl
def ZK(p s:Str):Str:=if(zy p&&zM s&&zF (child p s))=true then child p s else yv
theorem YN{p s:Str}(h:p.l.length+s.l.length+1<=8388608):xB p s=some (ZK p s):=by
 have hp:sho p:=by unfold sho;omega
 have hs:mid s:=by unfold mid;omega
 unfold xB ZK;rw[ZJ hp,obS,Xl hs,zU,obS];cases zy p with
 | false=>simp only[Bool.not_false,Bool.true_or,if_true,Bool.false_and,Bool.false_eq_true,if_false,yv]
 |
  true=>
  cases zM s with
  | false=>simp only[Bool.not_false,Bool.or_true,if_true,Bool.false_and,Bool.and_false,Bool.false_eq_true,if_false,yv,Bool.not_true,beq_self_eq_true]
  |
   true=>
   have hc:(if(decide (p≠(⟨[]⟩:Str)))=true then((catO p (⟨[46]⟩:Str)).bind λ v14=>(catO v14 s).bind λ v15=>some v15) else(some s))=some (child p s):=by
    unfold child yv;by_cases he:p=⟨[]⟩
    ·
     rw[if_neg (by simp[he]),if_pos he]
    ·
     rw[if_pos (by simp[he]),if_neg he,Zh (by show p.l.length+1<=_;omega),obS,Zh (by rw[List.length_append];show p.l.length+1+s.l.length<=_;omega),obS]
   have hsc:sho (child p s):=by
    unfold sho child;split
    ·
     omega
    ·
     rw[List.length_append,List.length_append];show p.l.length+1+s.l.length<=_;omega
   rw[hc,if_neg (by decide),obS,qb hsc,obS];generalize child p s=q;cases zF q <;> rfl
theorem HasPrefix_eq{s p:Str}:jd s p=some (decide (p.l.length<=s.l.length)&&decide ((⟨s.l.take p.l.length⟩:Str)=p)):=by
 unfold jd xa;by_cases h:p.l.length<=s.l.length
 ·
  have e:cmpI .geq (s.l.length:Int) (p.l.length:Int)=true:=by simp[cmpI,h]
  rw[e,zaQ h];simp[gO,h]
 ·
  have e:cmpI .geq (s.l.length:Int) (p.l.length:Int)=false:=by simp[cmpI];omega
  rw[e];simp[gO,h]
theorem zbS{s p:Str}(hs:sho s)(hp:p.l.length+1<=8388608):qu s p=some (zF s&&zy p&&under s p):=by
 have hp':sho p:=by unfold sho;omega
 unfold qu;rw[qb hs,obS,ZJ hp',zU,obS,Zh (by show p.l.length+1<=_;omega),zU];unfold under yv;cases zF s with
 | false=>rfl
 |
  true=>
  cases zy p with
  | false=>rfl
  |
   true=>
   cases he:decide (p=(⟨[]⟩:Str)) with
   | true=>rfl
   |
    false=>
    cases hq:decide (s=p) with
    | true=>rfl
    |
     false=>
     simp only[HasPrefix_eq,zU,Bool.not_true,Bool.or_self,Bool.false_eq_true,if_false,beq_self_eq_true,if_true,Bool.true_and,Bool.false_or,obS,List.length_append,List.length_singleton]
     congr 2
     simp[cmpI];omega
theorem qG(a b c:Int):yx a b c=some (inR a b c):=rfl
theorem Z2:zF yv=false:=rfl
theorem idx_join{α:Type}(p:α->Bool)(xs:List α):Option.bind (some (match xs.findIdx? p with | some i=>(Sum.inr (i:Int):Unit⊕Int) | none=>Sum.inl ())) (Sum.elim (λ _=>some (-1)) some)=some (jA p xs):=by
 unfold jA;cases xs.findIdx? p <;> rfl
theorem Yo{α:Type}(p:α->Bool)(xs:List α):cmpI .geq (jA p xs) 0=xs.any p:=by
 unfold jA;cases h:xs.findIdx? p with
 |
  none=>
  rw[List.findIdx?_eq_none_iff] at h;have:xs.any p=false:=by rw[List.any_eq_false];intro x hx;simp[h x hx]
  rw[this];rfl
 |
  some i=>
  obtain⟨hi,hp,_⟩:=List.findIdx?_eq_some_iff_getElem.1 h;have:xs.any p=true:=by rw[List.any_eq_true];exact⟨_,List.getElem_mem hi,hp⟩
  rw[this];simp[cmpI]
theorem idxOf_lss{α:Type}{p:α->Bool}{xs:List α}{k:Nat}{x:α}(hx:xs[k]?=some x)(hp:p x=true):cmpI .lss (jA p xs) k=(xs.take k).any p:=by
 have hk:=yg hx;have hxk:xs[k]=x:=by rw[List.getElem?_eq_getElem hk] at hx;injection hx
 unfold jA;cases h:xs.findIdx? p with
 |
  none=>
  rw[List.findIdx?_eq_none_iff] at h;have:=h x (List.mem_of_getElem? hx);rw[hp] at this;cases this
 |
  some i=>
  obtain⟨hi,hpi,hmin⟩:=List.findIdx?_eq_some_iff_getElem.1 h;by_cases hik:i<k
  ·
   have:(xs.take k).any p=true:=by
    rw[List.any_eq_true];exact⟨xs[i],List.mem_take_iff_getElem.2 ⟨i,by omega,rfl⟩,hpi⟩
   rw[this];simp[cmpI,hik]
  ·
   have:(xs.take k).any p=false:=by
    rw[List.any_eq_false];intro y hy;obtain⟨j,hj,rfl⟩:=List.mem_take_iff_getElem.1 hy;exact hmin j (by omega)
   rw[this];simp[cmpI];omega
theorem IndexI_eq{xs:List Int}{n:Int}(h:xs.length<=1152921504606846):xU xs n=some (jA (λ x=>n == x) xs):=by
 unfold xU;have hl:zS (λ s4=>yQ xs n s4) 0=some (match xs.findIdx? (λ x=>n == x) with | some i=>(Sum.inr (i:Int):Unit⊕Int) | none=>Sum.inl ()):=by
  refine Wo xs (λ x=>n == x) (λ i=>Sum.inr i) _ (λ k x hx hlt=>?_) ?_ (by omega) rfl
  ·
   unfold yQ;rw[zK,if_pos (decide_eq_true hlt),yb,hx,obS,zV (by omega),show cmpI .eql n x=(n == x) from rfl];cases n == x <;> rfl
  ·
   unfold yQ;rw[zK,if_neg (by simp)]
 rw[hl];exact idx_join _ _
theorem ContainsI_eq{xs:List Int}{n:Int}(h:xs.length<=1152921504606846):xt xs n=some (xs.any (λ x=>n == x)):=by
 unfold xt;rw[IndexI_eq h,obS,Yo]
theorem stmt_mod(s:Stmt):decide (s={ (⟨s.kind,⟨[]⟩,0,⟨[]⟩,0⟩:Stmt) with module:=s.module })=(cmpI .eql s.level 0&&decide (s.name=⟨[]⟩)&&cmpI .eql s.value 0):=by
 cases s;rw[Bool.eq_iff_iff];simp[cmpI,and_assoc]
theorem stmt_nv(s:Stmt):decide (s={ { (⟨s.kind,⟨[]⟩,0,⟨[]⟩,0⟩:Stmt) with name:=s.name } with value:=s.value })=(decide (s.module=⟨[]⟩)&&cmpI .eql s.level 0):=by
 cases s;rw[Bool.eq_iff_iff];simp[cmpI]
theorem stmt_n(s:Stmt):decide (s={ (⟨s.kind,⟨[]⟩,0,⟨[]⟩,0⟩:Stmt) with name:=s.name })=(decide (s.module=⟨[]⟩)&&cmpI .eql s.level 0&&cmpI .eql s.value 0):=by
 cases s;rw[Bool.eq_iff_iff];simp[cmpI,and_assoc]
theorem smStmt.sho{s:Stmt}(h:smStmt s):sho s.module:=by have:=h.1;unfold Go.Proofs.YtdoidiipacdbpaaGreatDoor.sho;omega
theorem smStmt.midn{s:Stmt}(h:smStmt s):mid s.name:=by have:=h.2;unfold mid;omega
theorem stmtOk_eq{s:Stmt}(h:smStmt s):ZR s=some (xJ s):=by
 have hm:=qb h.sho;have hn:=Xl h.midn;unfold ZR;rw[hm,hn,stmt_mod,stmt_nv,stmt_n];simp only[qG,zU,obS];unfold xJ;rcases s with⟨kind,m,level,name,value⟩;simp only[show ∀ x y:Int,cmpI .eql x y=(x == y) from λ _ _=>rfl];by_cases h0:kind=0
 ·
  subst h0;simp only[beq_self_eq_true,if_true,obS];generalize zF m=a;generalize (level == 0)=b;generalize decide (name=⟨[]⟩)=c;generalize (value == 0)=d;cases a <;> cases b <;> cases c <;> cases d <;> rfl
 ·
  by_cases h2:kind=2
  ·
   subst h2;simp only[beq_self_eq_true,if_true,obS,show((2:Int) == 0)=false from rfl,show((2:Int) == 1)=false from rfl,Bool.false_eq_true,if_false];generalize zF m=a;generalize (level == 0)=b;generalize decide (name=⟨[]⟩)=c;generalize (value == 0)=d;cases a <;> cases b <;> cases c <;> cases d <;> rfl
  ·
   have e0:(kind == 0)=false:=by simpa using h0
   have e2:(kind == 2)=false:=by simpa using h2
   simp only[e0,e2,Bool.false_eq_true,if_false,obS];by_cases h1:kind=1
   ·
    subst h1;simp only[beq_self_eq_true,if_true];have hl:cmpI .geq level 1=cmpI .gtr level 0:=by simp[cmpI];omega
    rw[hl];unfold zy;by_cases hme:m=yv
    ·
     subst hme;rw[Z2];simp only[yv,decide_true,ne_eq,not_true_eq_false,decide_false];generalize (value == 0)=a;generalize inR level 0 3=b;generalize cmpI .gtr level 0=c;generalize zM name=d;cases a <;> cases b <;> cases c <;> cases d <;> rfl
    ·
     have e1:decide (m=yv)=false:=decide_eq_false hme;have e3:decide (m=⟨[]⟩)=false:=decide_eq_false hme;have e4:decide (m≠⟨[]⟩)=true:=decide_eq_true hme;rw[e1,e3,e4];generalize (value == 0)=a;generalize inR level 0 3=b;generalize cmpI .gtr level 0=c;generalize zM name=d;generalize zF m=e;cases a <;> cases b <;> cases c <;> cases d <;> cases e <;> rfl
   ·
    have e1:(kind == 1)=false:=by simpa using h1
    simp only[e1,Bool.false_eq_true,if_false];by_cases h3:kind=3
    ·
     subst h3;simp only[beq_self_eq_true,if_true];generalize decide (m=⟨[]⟩)=a;generalize (level == 0)=b;generalize inR value 0 99=c;generalize zM name=d;cases a <;> cases b <;> cases c <;> cases d <;> rfl
    ·
     have e3:(kind == 3)=false:=by simpa using h3
     simp only[e3,Bool.false_eq_true,if_false];by_cases h4:kind=4
     ·
      subst h4;simp only[beq_self_eq_true,if_true];generalize decide (m=⟨[]⟩)=a;generalize (level == 0)=b;generalize (value == 0)=c;generalize zM name=d;cases a <;> cases b <;> cases c <;> cases d <;> rfl
     ·
      have e4:(kind == 4)=false:=by simpa using h4
      simp only[e4,Bool.false_eq_true,if_false];by_cases h5:kind=5
      ·
       subst h5;rfl
      ·
       have e5:(kind == 5)=false:=by simpa using h5
       simp only[e5,Bool.false_eq_true,if_false]
theorem ValidBody_eq{b:List Stmt}(hlen:b.length<=1048576)(h:∀ s∈b,smStmt s):qv b=some (ZB b):=by
 unfold qv;have hl:zS (λ s4=>wa b s4) 0=some (if b.any (λ x=>!xJ x)=true then .inr false else .inl ()):=by
  refine q7 _ _ _ _ (λ k x hx hlt=>?_) ?_ (by omega) rfl
  ·
   unfold wa;rw[zK,if_pos (decide_eq_true hlt),yb,hx,obS,stmtOk_eq (h x (List.mem_of_getElem? hx)),obS,zV (by omega)];cases xJ x <;> rfl
  ·
   unfold wa;rw[zK,if_neg (by simp)]
 rw[hl,obS,JH];unfold ZB;cases b.all xJ <;> rfl
theorem child_ne{p s:Str}(h:zF (child p s)=true):child p s≠yv:=by
 intro e;rw[e,Z2] at h;cases h
theorem smFile.shop{f:File}(h:smFile f):sho f.pkg:=by have:=h.1;unfold sho;omega
theorem smFile.midn{f:File}(h:smFile f):mid f.name:=by have:=h.2.1;unfold mid;omega
theorem smFile.child{f:File}(h:smFile f):f.pkg.l.length+f.name.l.length+1<=8388608:=by have:=h.1;have:=h.2.1;omega
theorem fileOk_eq{f:File}(h:smFile f):q8 f=some (yC f):=by
 unfold q8;rw[qG,obS,ZJ h.shop,zU,obS,qG,zU,obS,ValidBody_eq h.2.2.1 h.2.2.2,zU,obS,Xl h.midn,obS,YN h.child,zU,obS];unfold yC;cases inR f.root 0 2 with
 | false=>rfl
 |
  true=>
  cases hp:zy f.pkg with
  | false=>cases inR f.stamp 0 99 <;> rfl
  |
   true=>
   cases inR f.stamp 0 99 with
   | false=>rfl
   |
    true=>
    cases ZB f.body with
    | false=>rfl
    |
     true=>
     cases f.init with
     | true=>rfl
     |
      false=>
      show some (zM f.name&&decide ((if(zM f.name == true)=true then ZK f.pkg f.name else default)≠(⟨[]⟩:Str)))=some (zM f.name&&zF (Go.Proofs.YtdoidiipacdbpaaGreatDoor.child f.pkg f.name));cases hn:zM f.name with
      | false=>rfl
      |
       true=>
       unfold ZK;rw[hp,hn];cases hc:zF (Go.Proofs.YtdoidiipacdbpaaGreatDoor.child f.pkg f.name) with
       | false=>simp[yv]
       |
        true=>
        have:=child_ne hc;simp only[Bool.and_self,if_true,beq_self_eq_true,Bool.true_and];rw[decide_eq_true (show Go.Proofs.YtdoidiipacdbpaaGreatDoor.child f.pkg f.name≠⟨[]⟩ from this)]
theorem zac(f g:File):qo f g=some (xq f g):=rfl
theorem J5(f g:File):xq f g=xq g f:=by
 unfold xq;rw[BEq.comm (a:=f.root),BEq.comm (a:=f.init),decide_eq_decide.2 (eq_comm (a:=f.pkg) (b:=g.pkg)),decide_eq_decide.2 (eq_comm (a:=f.name) (b:=g.name))]
theorem sameFile_refl(f:File):xq f f=true:=by simp[xq]
theorem WH{t:Tree}(h:xc t):wy t=some (zR t):=by
 have hlen:=h.1;unfold wy;have hl:zS (λ s4=>wd t s4) 0=some (if(List.range t.files.length).any (λ k=>!Jb t.files k)=true then .inr false else .inl ()):=by
  refine q7 (List.range t.files.length) _ _ _ (λ k x hx hlt=>?_) ?_ (by rw[List.length_range];omega) rfl
  ·
   rw[List.length_range] at hlt;rw[List.getElem?_range hlt] at hx;injection hx with hx;subst hx;unfold wd;obtain⟨f,hf⟩:∃ f,t.files[k]?=some f:=⟨_,List.getElem?_eq_getElem hlt⟩;have ht:Jb t.files k=!(!yC f||cmpI .lss (yh t.files f) k):=by unfold Jb;rw[hf]
   rw[zK,if_pos (decide_eq_true hlt),yb,hf,obS,fileOk_eq (h.2 _ (List.mem_of_getElem? hf)),obS,Xp (by omega),obS,ht];cases yC f with
   | false=>rfl
   |
    true=>
    rw[if_neg (by decide)];have hin:zS (λ s28=>wc f (t.files.take k) s28) 0=some (if(t.files.take k).any (λ x=>xq f x)=true then .inr (.inr (.inr false)) else .inl ()):=by
     have htl:(t.files.take k).length<=k:=by simp;omega
     refine q7 _ _ _ _ (λ j y hy hjt=>?_) ?_ (by omega) rfl
     ·
      unfold wc;rw[zK,if_pos (decide_eq_true hjt),yb,hy,obS,zac,obS,zV (by omega)];cases xq f y <;> rfl
     ·
      unfold wc;rw[zK,if_neg (by simp)]
    rw[hin];have hfa:cmpI .lss (yh t.files f) k=(t.files.take k).any (λ x=>xq f x):=by
     unfold yh;rw[idxOf_lss (p:=λ x=>xq x f) hf (sameFile_refl _)]
     congr 1
     funext x
     exact J5 _ _
    rw[hfa];cases(t.files.take k).any (λ x=>xq f x) with
    | true=>rfl
    |
     false=>
     rw[if_neg (by decide),obS,Sum.elim_inl,zV (by omega)];rfl
  ·
   unfold wd;rw[List.length_range,zK,if_neg (by simp)]
 rw[hl,obS,JH];unfold zR XW;cases(List.range t.files.length).all (Jb t.files) <;> rfl
theorem JI{t:Tree}{f:File}(h:t.files.length<=1048576):jp t f=some (yh t.files f):=by
 unfold jp;have hl:zS (λ s4=>jt t f s4) 0=some (match t.files.findIdx? (λ x=>xq x f) with | some i=>(Sum.inr (i:Int):Unit⊕Int) | none=>Sum.inl ()):=by
  refine Wo t.files (λ x=>xq x f) (λ i=>Sum.inr i) _ (λ k x hx hlt=>?_) ?_ (by omega) rfl
  ·
   unfold jt;rw[zK,if_pos (decide_eq_true hlt),yb,hx,obS,zac,obS,zV (by omega),J5];cases xq x f <;> rfl
  ·
   unfold jt;rw[zK,if_neg (by simp)]
 rw[hl];exact idx_join _ _
theorem qH{t:Tree}(h:zR t=true){f:File}(hf:f∈t.files):yC f=true:=by
 obtain⟨k,hk⟩:=List.getElem?_of_mem hf;unfold zR XW at h;rw[Bool.and_eq_true] at h;have:=List.all_eq_true.1 h.1 k (List.mem_range.2 (yg hk));unfold Jb at this;rw[hk] at this;simp only at this;cases hv:yC f with
 | true=>rfl
 | false=>rw[hv] at this;cases this
theorem qf{f:File}(h:yC f=true):zy f.pkg=true:=by
 unfold yC at h;cases hv:zy f.pkg with
 | true=>rfl
 |
  false=>
  rw[hv,if_pos (by simp)] at h;cases h
theorem validFile_mod{f:File}(h:yC f=true):zF (xT f)=true:=by
 have hp:=qf h;unfold yC at h;unfold xT;split at h
 ·
  cases h
 ·
  cases hi:f.init with
  |
   true=>
   rw[hi] at h;simp only[if_true,Bool.and_eq_true,decide_eq_true_eq] at h ⊢;unfold zy at hp;simpa[h.1] using hp
  |
   false=>
   rw[hi] at h;simp only[Bool.false_eq_true,if_false,Bool.and_eq_true] at h ⊢;exact h.2
theorem ModuleOf_eq{f:File}(h:smFile f):qV f=some (if yC f=true then xT f else yv):=by
 unfold qV;rw[fileOk_eq h,obS,YN h.child,obS];cases hv:yC f with
 | false=>rfl
 |
  true=>
  rw[if_neg (by decide),if_pos rfl];have hp:=qf hv;have hm:=validFile_mod hv;unfold xT at hm ⊢;unfold yC at hv;split at hv
  ·
   cases hv
  ·
   cases hi:f.init with
   | true=>rfl
   |
    false=>
    rw[hi] at hv hm;simp only[Bool.false_eq_true,if_false,Bool.and_eq_true] at hv hm ⊢;unfold ZK;rw[hp,hv.1,hm];rfl
theorem hasDir_eq{t:Tree}{r:Int}{p:Str}(h:xc t)(hv:∀ f∈t.files,zy f.pkg=true)(hp:zy p=true)(hpl:p.l.length+1<=8388608):q9 t r p=some (qe t.files r p):=by
 have hlen:=h.1;unfold q9;have hl:zS (λ s4=>js t r p s4) 0=some (if t.files.any (XX r p)=true then .inr true else .inl ()):=by
  refine q7 _ _ _ _ (λ k x hx hlt=>?_) ?_ (by omega) rfl
  ·
   unfold js;have hm:=List.mem_of_getElem? hx;rw[zK,if_pos (decide_eq_true hlt),yb,hx,obS,zbS (h.2 x hm).shop hpl,zU,obS,zV (by omega),hp];unfold XX;have hvx:=hv x hm;unfold zy at hvx;rw[show cmpI .eql x.root r=(x.root == r) from rfl];by_cases he:x.pkg=yv
   ·
    rw[he,Z2];simp
   ·
    have e1:zF x.pkg=true:=by simpa[he] using hvx
    rw[e1,decide_eq_true (show x.pkg≠yv from he)];cases x.root == r <;> cases under x.pkg p <;> rfl
  ·
   unfold js;rw[zK,if_neg (by simp)]
 rw[hl,obS];unfold qe yv;cases t.files.any (XX r p) <;> rfl
theorem WI{l:List Int}(h:l.length<=1048576):y6 l=some (ym l):=by
 unfold y6;have hl:zS (λ s4=>we l s4) 0=some (if(List.range l.length).any (λ k=>!Wy l k)=true then .inr false else .inl ()):=by
  refine q7 (List.range l.length) _ _ _ (λ k x hx hlt=>?_) ?_ (by rw[List.length_range];omega) rfl
  ·
   rw[List.length_range] at hlt;rw[List.getElem?_range hlt] at hx;injection hx with hx;subst hx;unfold we;obtain⟨n,hf⟩:∃ n,l[k]?=some n:=⟨_,List.getElem?_eq_getElem hlt⟩;have htl:(l.take k).length<=1152921504606846:=by simp;omega
   have ht:Wy l k=!(!inR n 0 2||(l.take k).any (λ x=>n == x)):=by
    unfold Wy;rw[hf];simp only;unfold intAt;rw[Yo,show(λ x=>x == n)=(λ x=>n == x) from by funext x;exact BEq.comm]
   rw[zK,if_pos (decide_eq_true hlt),yb,hf,obS,qG,obS,Xp (by omega),zU,obS,ht,zV (by omega)];cases inR n 0 2 with
   | false=>rfl
   |
    true=>
    simp only[Bool.not_true,beq_self_eq_true,if_true];rw[ContainsI_eq htl,zU,obS];cases(l.take k).any (λ x=>n == x) <;> rfl
  ·
   unfold we;rw[List.length_range,zK,if_neg (by simp)]
 rw[hl,obS,JH];unfold ym XY;cases(List.range l.length).all (Wy l) <;> rfl
structure Good(t:Tree):Prop where
 sm:xc t
 ok:zR t=true
theorem Good.pkg{t:Tree}(h:Good t):∀ f∈t.files,zy f.pkg=true:=λ _ hf=>qf (qH h.ok hf)
theorem Good.len{t:Tree}(h:Good t):t.files.length<=1048576:=h.sm.1
theorem xl{s:Str}(h:zM s=true):1<=s.l.length/\s.l.length<=3:=by
 unfold zM inR at h;simp[cmpI] at h;omega
theorem lenSum_le(l:List Str)(h:∀ x∈l,x.l.length<=3):ww l<=4*l.length:=by
 induction l with
 | nil=>exact Nat.le_refl _
 |
  cons x l ih=>
  have h1:=h x (by simp);have h2:=ih λ y hy=>h y (by simp[hy])
  unfold ww at h2 ⊢;simp only[List.map_cons,List.sum_cons,List.length_cons];omega
theorem y8{s:Str}(h:zF s=true):s.l.length<=11:=by
 unfold zF at h;rw[Bool.and_eq_true] at h;have h1:=lenSum_le (zu s dot) λ x hx=>(xl (List.all_eq_true.1 h.1 x hx)).2
 rw[YC] at h1;have h2:=h.2;simp[cmpI] at h2;omega
theorem yn{s:Str}(h:zy s=true):s.l.length<=11:=by
 unfold zy at h;rw[Bool.or_eq_true] at h;rcases h with h | h
 ·
  rw[oD h];exact Nat.zero_le _
 ·
  exact y8 h
def Wp:List (List UInt8)->List UInt8
 | []=>[]
 | [a]=>a
 | a::b::l=>a++46::Wp (b::l)
theorem J6:∀ (l:List Str) (acc:List UInt8),(l.foldl Y1 (⟨acc⟩,true)).1=⟨acc++(l.map λ x=>46::x.l).flatten⟩
 | [],acc=>by simp
 |
  x::l,acc=>by
  rw[List.foldl_cons];show(l.foldl Y1 (⟨(acc++[46])++x.l⟩,true)).1=_;rw[J6 l];simp
theorem zbT(a:List UInt8)(l:List (List UInt8)):Wp (a::l)=a++(l.map λ x=>46::x).flatten:=by
 induction l generalizing a with
 | nil=>simp[Wp]
 | cons b l ih=>rw[Wp,ih];simp
theorem zbU(l:List Str):join l=⟨Wp (l.map (·.l))⟩:=by
 cases l with
 | nil=>rfl
 |
  cons x l=>
  unfold join ZA;rw[List.foldl_cons];show(l.foldl Y1 (⟨[]++x.l⟩,true)).1=_;rw[J6,List.map_cons,zbT];simp[List.map_map,Function.comp_def]
theorem cutF_pre(c:UInt8):∀ (a l:List UInt8),c ∉ a->cutF c (a++c::l)=a::cutF c l
 | [],l,_=>by simp[cutF]
 |
  b::a,l,h=>by
  have hb:(b == c)=false:=by
   have:b≠c:=λ e=>h (by simp[e])
   simpa using this
  rw[List.cons_append,YM,hb,cutF_pre c a l (λ e=>h (by simp[e]))];rfl
theorem zad(c:UInt8):∀ (a:List UInt8),c ∉ a->cutF c a=[a]
 | [],_=>rfl
 |
  b::a,h=>by
  have hb:(b == c)=false:=by
   have:b≠c:=λ e=>h (by simp[e])
   simpa using this
  rw[YM,hb,zad c a (λ e=>h (by simp[e]))];rfl
theorem zbV:∀ (l:List (List UInt8)),l≠[]->(∀ x∈l,(46:UInt8) ∉ x)->cutF 46 (Wp l)=l
 | [],h,_=>absurd rfl h
 | [a],_,h=>zad 46 a (h a (by simp))
 |
  a::b::l,_,h=>by
  rw[Wp,cutF_pre 46 a _ (h a (by simp)),zbV (b::l) (by simp) λ x hx=>h x (by simp[hx])]
theorem WJ:∀ (l:List UInt8),Wp (cutF 46 l)=l
 | []=>rfl
 |
  b::l=>by
  rw[YM];cases hb:b == 46 with
  |
   true=>
   have ih:=WJ l;have hb:=eq_of_beq hb;rw[if_pos rfl];cases hc:cutF 46 l with
   | nil=>exact absurd hc (ZI 46 l)
   | cons h t=>rw[Wp,← hc,ih,hb];rfl
  |
   false=>
   have ih:=WJ l;rw[if_neg (by decide)];cases hc:cutF 46 l with
   | nil=>exact absurd hc (ZI 46 l)
   |
    cons h t=>
    rw[hc] at ih;show Wp ((b::h)::t)=b::l;rw[zbT] at ih ⊢;rw[← ih];rfl
theorem join_split(s:Str):join (zu s dot)=s:=by
 rw[zbU,ji,List.map_map];show(⟨Wp ((cutF 46 s.l).map λ x=>x)⟩:Str)=s;rw[List.map_id',WJ]
theorem low_ne{b:UInt8}(h:low b=true):b≠46:=by
 intro e;subst e;revert h;decide
theorem X1{s:Str}(h:zM s=true):(46:UInt8) ∉ s.l:=by
 unfold zM at h;rw[Bool.and_eq_true] at h;intro hm;exact low_ne (List.all_eq_true.1 h.2 _ hm) rfl
theorem zbW{l:List Str}(hne:l≠[])(h:∀ x∈l,zM x=true):zu (join l) dot=l:=by
 rw[zbU,ji];show(cutF 46 (Wp (l.map (·.l)))).map Str.mk=l;rw[zbV _ (by simpa using hne) (by
  intro x hx;obtain⟨y,hy,rfl⟩:=List.mem_map.1 hx;exact X1 (h y hy)),List.map_map]
 show l.map (λ x=>x)=l;exact List.map_id' l
theorem zbX{l:List Str}(hne:l≠[])(hlen:l.length<=3)(h:∀ x∈l,zM x=true):zF (join l)=true:=by
 unfold zF;rw[zbW hne h,Bool.and_eq_true];exact⟨List.all_eq_true.2 h,by simp[cmpI];omega⟩
theorem jc{s:Str}(h:zF s=true):(∀ x∈zu s dot,zM x=true)/\(zu s dot).length<=3:=by
 unfold zF at h;rw[Bool.and_eq_true] at h;have:=h.2;simp[cmpI] at this;exact⟨List.all_eq_true.1 h.1,by omega⟩
theorem JJ{s:Str}(h:zF s=true)(k:Nat):zy (join ((zu s dot).take k))=true:=by
 obtain⟨h1,h2⟩:=jc h;unfold zy;cases k with
 | zero=>rfl
 |
  succ k=>
  have hne:=QL s dot;rw[zbX (by intro e;have:=congrArg List.length e;simp at this;rw[this] at hne;simp at hne) (by simp;omega) λ x hx=>h1 x (List.mem_of_mem_take hx),Bool.or_true]
theorem Qp{s:Str}(h:zF s=true)(k:Nat):zF (join ((zu s dot).take (k+1)))=true:=by
 obtain⟨h1,h2⟩:=jc h;have hne:=QL s dot;exact zbX (by intro e;have:=congrArg List.length e;simp at this;rw[this] at hne;simp at hne) (by simp;omega) λ x hx=>h1 x (List.mem_of_mem_take hx)
theorem WK{l:List Str}{k:Nat}{x:Str}(hx:l[k]?=some x)(h:∀ x∈l,zM x=true):join (l.take (k+1))=child (join (l.take k)) x:=by
 have hk:=yg hx;unfold join;cases k with
 |
  zero=>
  rw[JF hx rfl];rfl
 |
  succ k=>
  rw[QK hx (by simp[cmpI])];unfold child;rw[if_neg];intro e;have hne:l.take (k+1)≠[]:=by intro e;have:=congrArg List.length e;simp at this;subst this;simp at hk
  have hs:=zbW hne λ y hy=>h y (List.mem_of_mem_take hy)
  unfold join at hs;rw[e] at hs;have h0:zM yv=true:=h _ (List.mem_of_mem_take (by rw[← hs];simp[zu,xp,yv]));exact absurd h0 (by decide)
def okKind(s:Spec):Prop:=s.kind=0\/s.kind=1\/s.kind=2\/s.kind=3
theorem zae(t:List File)(p s:Str):∀ (rs acc:List Int),okKind (ZC t p s acc rs)
 |
  [],acc=>by
  unfold ZC;split
  ·
   exact .inr (.inr (.inr rfl))
  ·
   exact .inl rfl
 |
  r::rs,acc=>by
  unfold ZC;split
  ·
   exact .inr (.inr (.inl rfl))
  ·
   split
   ·
    exact .inr (.inl rfl)
   ·
    exact zae t p s rs _
theorem dir_of_init{t:List File}{r:Int}{c:Str}(hc:c≠yv)(h:cmpI .geq (yh t ⟨r,c,⟨[]⟩,true,0,[]⟩) 0=true):qe t r c=true:=by
 unfold yh at h;rw[Yo,List.any_eq_true] at h;obtain⟨f,hf,hs⟩:=h;unfold xq at hs;simp only[Bool.and_eq_true,beq_iff_eq,decide_eq_true_eq] at hs;obtain⟨⟨⟨h1,h2⟩,_⟩,_⟩:=hs;unfold qe;rw[Bool.or_eq_true,List.any_eq_true];refine .inl ⟨f,hf,?_⟩;unfold XX under;simp[h1,h2,hc]
theorem find_eq{t:Tree}(ht:Good t){roots:List Int}(hr:roots.length<=1048576){p s:Str}(hp:zy p=true)(hs:zM s=true)(hc:zF (child p s)=true):Y3 t roots p s=some (Jc t.files roots p s):=by
 have hpl:=yn hp;have hsl:=(xl hs).2;have hcl:=y8 hc;have hne:=child_ne hc;have hcp:zy (child p s)=true:=by unfold zy;rw[hc,Bool.or_true]
 have he:ZK p s=child p s:=by unfold ZK;rw[hp,hs,hc];rfl
 unfold Y3;rw[YN (by omega),he,obS,if_neg (by simp only[decide_eq_true_eq];exact hne)];have hl:zS (λ s16=>jD t roots p s (child p s) s16) (zO,[],(0:Int))=some (runL (λ _ (acc:List Int) r=>
   if cmpI .geq (yh t.files ⟨r,child p s,⟨[]⟩,true,0,[]⟩) 0=true then .inr (Sum.inr (⟨2,yh t.files ⟨r,child p s,⟨[]⟩,true,0,[]⟩,[r]⟩:Spec))
   else if cmpI .geq (yh t.files ⟨r,p,s,false,0,[]⟩) 0=true then .inr (Sum.inr (⟨1,yh t.files ⟨r,p,s,false,0,[]⟩,[]⟩:Spec))
   else .inl (if qe t.files r (child p s)=true then acc++[r] else acc)) (λ acc=>Sum.inl (zO,acc)) 0 [] roots):=by
  refine XF (σ:=List Int) roots (λ acc k=>(zO,acc,(k:Int))) _ _ (λ k acc=>acc.length<=k) (λ k acc r hx hlt hi=>?_) (λ acc _=>?_) (Nat.le_refl 0) (by omega)
  ·
   have hst:jD t roots p s (child p s) (zO,acc,(k:Int))=(if cmpI .geq (yh t.files ⟨r,child p s,⟨[]⟩,true,0,[]⟩) 0=true then some (.inr (.inr (⟨2,yh t.files ⟨r,child p s,⟨[]⟩,true,0,[]⟩,[r]⟩:Spec)))
     else if cmpI .geq (yh t.files ⟨r,p,s,false,0,[]⟩) 0=true then some (.inr (.inr (⟨1,yh t.files ⟨r,p,s,false,0,[]⟩,[]⟩:Spec)))
     else some (.inl (zO,(if qe t.files r (child p s)=true then acc++[r] else acc),((k+1:Nat):Int)))):=by
    unfold jD;simp only;rw[zK,if_pos (decide_eq_true hlt),yb,hx,obS,obS,JI ht.len,obS,Bool.true_and,JI ht.len,obS,Bool.true_and,hasDir_eq ht.sm ht.pkg hcp (by omega),zV (by omega)];rw[zU,obS,wq (by simp;omega) (by simp;omega)];generalize cmpI .geq (yh t.files ⟨r,child p s,⟨[]⟩,true,0,[]⟩) 0=b1;generalize cmpI .geq (yh t.files ⟨r,p,s,false,0,[]⟩) 0=b2;generalize qe t.files r (child p s)=b3;cases b1 <;> cases b2 <;> cases b3 <;> rfl
   cases h1:cmpI .geq (yh t.files ⟨r,child p s,⟨[]⟩,true,0,[]⟩) 0 with
   | true=>rw[h1] at hst;exact hst
   |
    false=>
    rw[h1] at hst;rw[if_neg (by decide)] at hst ⊢;cases h2:cmpI .geq (yh t.files ⟨r,p,s,false,0,[]⟩) 0 with
    | true=>rw[h2] at hst;exact hst
    |
     false=>
     rw[h2] at hst;rw[if_neg (by decide)] at hst ⊢;refine⟨hst,?_⟩;split
     ·
      simp;omega
     ·
      omega
  ·
   unfold jD;simp only;rw[zK,if_neg (by simp)]
 rw[hl,obS];unfold Jc;have key:∀ (rs:List Int) (k:Nat) (acc:List Int),Sum.elim (λ b14:Spec×List Int=>if(cmpI .gtr (b14.2.length:Int) (0:Int))=true then(some (⟨(3:Int),(-1:Int),b14.2⟩:Spec)) else((xi).bind λ v75=>some v75)) some (runL (λ _ (acc:List Int) r=>
   if cmpI .geq (yh t.files ⟨r,child p s,⟨[]⟩,true,0,[]⟩) 0=true then .inr (Sum.inr (⟨2,yh t.files ⟨r,child p s,⟨[]⟩,true,0,[]⟩,[r]⟩:Spec))
   else if cmpI .geq (yh t.files ⟨r,p,s,false,0,[]⟩) 0=true then .inr (Sum.inr (⟨1,yh t.files ⟨r,p,s,false,0,[]⟩,[]⟩:Spec))
   else .inl (if qe t.files r (child p s)=true then acc++[r] else acc)) (λ acc=>Sum.inl (zO,acc)) k acc rs)=some (ZC t.files p s acc rs):=by
  intro rs
  induction rs with
  |
   nil=>
   intro k acc;unfold ZC;simp only[runL,Sum.elim_inl];split <;> rfl
  |
   cons r rs ih=>
   intro k acc;unfold ZC;rw[runL];cases h1:cmpI .geq (yh t.files ⟨r,child p s,⟨[]⟩,true,0,[]⟩) 0 with
   | true=>rw[dir_of_init hne h1];rfl
   |
    false=>
    rw[Bool.and_false];cases h2:cmpI .geq (yh t.files ⟨r,p,s,false,0,[]⟩) 0 with
    | true=>rfl
    | false=>exact ih _ _
 exact key roots 0 []
theorem kind_two{s:Spec}(h:okKind s):(cmpI .eql s.kind 0||cmpI .eql s.kind 1)=(cmpI .neq s.kind 2&&cmpI .neq s.kind 3):=by
 rcases h with h | h | h | h <;> rw[h] <;> rfl
theorem findName_eq{t:Tree}(ht:Good t){path:List Int}(hp:path.length<=1048576){n:Str}(hn:zF n=true):qW t path n=some (find t.files path n):=by
 have hnl:=y8 hn;obtain⟨hparts,hlen⟩:=jc hn;unfold qW;rw[zbR (by unfold sho;omega),hn,if_pos rfl,obS];have hl:zS (λ s11=>xH t (zu n dot) s11) (zO,(⟨(3:Int),(-1:Int),path⟩:Spec),(⟨[]⟩:Str),(0:Int))=some (runL (λ k (out:Spec) x=>
   if(cmpI .neq out.kind 2&&cmpI .neq out.kind 3)=true then .inr (Sum.inr Yf) else .inl (Jc t.files out.roots (join ((zu n dot).take k)) x)) (λ out=>Sum.inl (zO,out)) 0 ⟨3,-1,path⟩ (zu n dot)):=by
  refine XF (σ:=Spec) (zu n dot) (λ out k=>(zO,out,join ((zu n dot).take k),(k:Int))) _ _ (λ k out=>out.roots.length<=path.length/\okKind out) (λ k out x hx hlt hi=>?_) (λ out _=>?_) ⟨Nat.le_refl _,.inr (.inr (.inr rfl))⟩ (by omega)
  ·
   have hpre:=JJ hn k;have hxv:=hparts x (List.mem_of_getElem? hx);have hch:=WK hx hparts;have hcv:=Qp hn k;rw[hch] at hcv;have hst:xH t (zu n dot) (zO,out,join ((zu n dot).take k),(k:Int))=(if(cmpI .neq out.kind 2&&cmpI .neq out.kind 3)=true then some (.inr (.inr Yf)) else some (.inl (zO,Jc t.files out.roots (join ((zu n dot).take k)) x,join ((zu n dot).take (k+1)),((k+1:Nat):Int)))):=by
    unfold xH;simp only;have hlp:=yn hpre;have hlx:=(xl hxv).2;have he:ZK (join ((zu n dot).take k)) x=child (join ((zu n dot).take k)) x:=by unfold ZK;rw[hpre,hxv,hcv];rfl
    rw[zK,if_pos (decide_eq_true hlt),yb,hx,obS,kind_two hi.2,find_eq ht (by omega) hpre hxv hcv,obS,YN (by omega),obS,he,zV (by omega),obS,hch];rfl
   rw[hst];cases hk:(cmpI .neq out.kind 2&&cmpI .neq out.kind 3) with
   | true=>rfl
   |
    false=>
    refine⟨rfl,?_,zae _ _ _ _ _⟩;have:=za2 t.files (join ((zu n dot).take k)) x out.roots [];unfold Jc;simp only[List.length_nil] at this;omega
  ·
   unfold xH;simp only;rw[zK,if_neg (by simp)]
 rw[hl,obS];unfold find;have key:∀ (xs:List Str) (k:Nat) (out:Spec),Sum.elim (λ b7:Spec×Spec=>some b7.2) some (runL (λ k (out:Spec) x=>
   if(cmpI .neq out.kind 2&&cmpI .neq out.kind 3)=true then .inr (Sum.inr Yf) else .inl (Jc t.files out.roots (join ((zu n dot).take k)) x)) (λ out=>Sum.inl (zO,out)) k out xs)=some (Wc t.files (zu n dot) k out xs):=by
  intro xs
  induction xs with
  | nil=>intro k out;rfl
  |
   cons x xs ih=>
   intro k out;rw[runL];unfold Wc;cases(cmpI .neq out.kind 2&&cmpI .neq out.kind 3) with
   | true=>rfl
   | false=>exact ih _ _
 exact key _ 0 _
def findOf(t:Tree)(path:List Int)(n:Str):Spec:=if(zR t&&ym path&&zF n)=true then find t.files path n else Yf
theorem za7{t:Tree}(ht:xc t){path:List Int}(hp:path.length<=1048576){n:Str}(hn:sho n):jP t path n=some (findOf t path n):=by
 unfold jP;rw[WH ht,obS,WI hp,zU,obS,qb hn,zU,obS];unfold findOf;cases hv:zR t with
 | false=>rfl
 |
  true=>
  cases ym path with
  | false=>rfl
  |
   true=>
   cases hnn:zF n with
   | false=>rfl
   |
    true=>
    rw[findName_eq ⟨ht,hv⟩ hp hnn];rfl
theorem za8(c:UInt8):∀ (a l:List UInt8),cutF c (a++c::l)=cutF c a++cutF c l
 | [],l=>by simp[cutF]
 |
  b::a,l=>by
  rw[List.cons_append,YM,za8 c a l,YM];cases b == c with
  | true=>rfl
  |
   false=>
   rw[if_neg (by decide),if_neg (by decide)];cases hc:cutF c a with
   | nil=>exact absurd hc (ZI c a)
   | cons h t=>rfl
theorem split_append(p s:Str):zu ⟨(p.l++[46])++s.l⟩ dot=zu p dot++zu s dot:=by
 rw[ji,ji,ji,← List.map_append];show(cutF 46 ((p.l++[46])++s.l)).map Str.mk=(cutF 46 p.l++cutF 46 s.l).map Str.mk;rw[List.append_assoc,List.singleton_append,za8]
theorem XO{l:List Str}{s:Str}:xu l s=true ↔ s∈l:=by
 unfold xu textAt;rw[Yo,List.any_eq_true];constructor
 ·
  rintro ⟨x,hx,h⟩;rw[← oD h];exact hx
 ·
  intro h;exact⟨s,h,by simp⟩
theorem insertT_iff{l:List Str}{s x:Str}:x∈wo l s ↔ x∈l\/x=s:=by
 refine⟨insertT_mem,λ h=>?_⟩;unfold wo;split
 ·
  rename_i hc;rcases h with h | h
  ·
   exact h
  ·
   rw[h];exact XO.1 hc
 ·
  rcases h with h | h
  ·
   simp only[List.mem_append,List.mem_singleton];have:=List.take_append_drop (jB l s l.length) l;rw[← this,List.mem_append] at h;rcases h with h | h
   ·
    exact .inl (.inl h)
   ·
    exact .inr h
  ·
   simp[h]
theorem insertAll_iff{m l:List Str}{x:Str}:x∈m.foldl wo l ↔ x∈l\/x∈m:=by
 induction m generalizing l with
 | nil=>simp
 | cons y m ih=>rw[List.foldl_cons,ih,insertT_iff,List.mem_cons,or_assoc]
theorem bytesLt:∀ (x y:List UInt8),Op.bytesLess x y=decide (x<y)
 | [],[]=>by simp[Op.bytesLess]
 | _::_,[]=>by simp[Op.bytesLess]
 | [],_::_=>by simp[Op.bytesLess]
 |
  a::x,b::y=>by
  rw[Op.bytesLess,bytesLt x y];simp only[List.cons_lt_cons_iff];by_cases h1:a<b <;> by_cases h2:a=b <;> by_cases h3:x<y <;> simp[h1,h2,h3]
def Asc(l:List Str):Prop:=l.Pairwise λ x y=>x.l<y.l
theorem asc_ext:∀ {l m:List Str},Asc l->Asc m->(∀ x,x∈l ↔ x∈m)->l=m
 | [],[],_,_,_=>rfl
 | [],b::m,_,_,h=>absurd ((h b).2 (by simp)) (by simp)
 | a::l,[],_,_,h=>absurd ((h a).1 (by simp)) (by simp)
 |
  a::l,b::m,hl,hm,h=>by
  rw[Asc,List.pairwise_cons] at hl hm;have hab:a=b:=by
   rcases List.mem_cons.1 ((h a).1 (by simp)) with e | e
   ·
    exact e
   ·
    rcases List.mem_cons.1 ((h b).2 (by simp)) with e2 | e2
    ·
     exact e2.symm
    ·
     exact absurd (List.lt_trans (hm.1 a e) (hl.1 b e2)) (List.lt_irrefl _)
  subst hab;rw[asc_ext hl.2 hm.2 λ x=>?_];constructor
  ·
   intro hx;rcases List.mem_cons.1 ((h x).1 (by simp[hx])) with e | e
   ·
    rw[e] at hx;exact absurd (hl.1 a hx) (List.lt_irrefl _)
   ·
    exact e
  ·
   intro hx;rcases List.mem_cons.1 ((h x).2 (by simp[hx])) with e | e
   ·
    rw[e] at hx;exact absurd (hm.1 a hx) (List.lt_irrefl _)
   ·
    exact e
theorem XP{a b:List UInt8}(h:a<=b)(hne:a≠b):a<b:=by
 rcases Decidable.em (a<b) with h' | h'
 ·
  exact h'
 ·
  exact absurd (List.le_antisymm h (List.not_lt.1 h')) hne
theorem zaf(d:Array (List UInt8))(hd:∀ i j,i<=j->j<d.size->d[i]! <= d[j]!):∀ m,m<=d.size->
  (Lib.compactUpTo d m).Pairwise (·<·)/\(∀ x,x∈Lib.compactUpTo d m ↔ ∃ j,j<m/\d[j]! = x)
 | 0,_=>⟨by simp[Lib.compactUpTo],λ x=>by simp[Lib.compactUpTo]⟩
 |
  m+1,hm=>by
  obtain⟨h1,h2⟩:=zaf d hd m (by omega);rw[Lib.compactUpTo_succ];cases hk:Lib.keeps d m with
  |
   true=>
   rw[if_pos rfl];refine⟨List.pairwise_append.2 ⟨h1,by simp,λ a ha b hb=>?_⟩,λ x=>?_⟩
   ·
    rw[List.mem_singleton] at hb;subst hb;obtain⟨j,hj,rfl⟩:=(h2 a).1 ha;have hk':m=0\/d[m]! ≠ d[m - 1]! := oD hk;rcases hk' with e | e
    ·
     omega
    ·
     have hlt:=XP (hd (m - 1) m (by omega) (by omega)) (Ne.symm e);rcases Decidable.em (d[j]! = d[m - 1]!) with e2 | e2
     ·
      rw[e2];exact hlt
     ·
      exact List.lt_trans (XP (hd j (m - 1) (by omega) (by omega)) e2) hlt
   ·
    rw[List.mem_append,h2,List.mem_singleton];constructor
    ·
     rintro (⟨j,hj,h⟩ | h)
     ·
      exact⟨j,by omega,h⟩
     ·
      exact⟨m,by omega,h.symm⟩
    ·
     rintro ⟨j,hj,h⟩
     by_cases hjm:j=m
     ·
      subst hjm;exact .inr h.symm
     ·
      exact .inl ⟨j,by omega,h⟩
  |
   false=>
   rw[if_neg (by decide),List.append_nil];refine⟨h1,λ x=>?_⟩;rw[h2];have hk':¬ (m=0\/d[m]! ≠ d[m - 1]!):=of_decide_eq_false hk;constructor
   ·
    rintro ⟨j,hj,h⟩;exact⟨j,by omega,h⟩
   ·
    rintro ⟨j,hj,h⟩
    by_cases hjm:j=m
    ·
     subst hjm;refine⟨j - 1,by omega,?_⟩;rw[← h];exact(Decidable.byContradiction λ e=>hk' (.inr (Ne.symm e)))
    ·
     exact⟨j,by omega,h⟩
def qc(xs:List Str):List Str:=Zo (We xs)
theorem le_dec_trans(a b c:List UInt8)(h1:decide (a<=b)=true)(h2:decide (b<=c)=true):decide (a<=c)=true:=
 decide_eq_true (List.le_trans (oD h1) (oD h2))
theorem le_dec_total(a b:List UInt8):(decide (a<=b)||decide (b<=a))=true:=by
 rcases List.le_total a b with h | h <;> simp[h]
theorem Xm(xs:List Str):Asc (qc xs)/\∀ x,x∈qc xs ↔ x∈xs:=by
 have hs:=List.pairwise_mergeSort (le:=λ x y:List UInt8=>decide (x<=y)) le_dec_trans le_dec_total (xs.map (·.l));have hm:∀ y,y∈(xs.map (·.l)).mergeSort (λ x y=>decide (x<=y)) ↔ y∈xs.map (·.l):=λ y=>List.mem_mergeSort
 unfold qc Zo;rw[sortS_l];generalize (xs.map (·.l)).mergeSort (λ x y=>decide (x<=y))=zs at hs hm;have hd:∀ i j,i<=j->j<zs.toArray.size->zs.toArray[i]! <= zs.toArray[j]! := by
  intro i j hij hj;have hj':j<zs.length:=by simpa using hj
  by_cases e:i=j
  ·
   subst e;exact List.le_refl _
  ·
   have:=List.pairwise_iff_getElem.1 hs i j (by omega) hj' (by omega);simpa[getElem!_pos,hj',show i<zs.length by omega] using this
 obtain⟨h1,h2⟩:=zaf zs.toArray hd zs.length (by simp);refine⟨?_,λ x=>?_⟩
 ·
  unfold Asc Lib.compact;rw[List.pairwise_map];exact h1
 ·
  have hmem:∀ y,y∈Lib.compact zs ↔ y∈xs.map (·.l):=by
   intro y;rw[← hm];unfold Lib.compact;rw[h2];constructor
   ·
    rintro ⟨j,hj,rfl⟩
    rw[show zs.toArray[j]! = zs[j] from by simp[getElem!_pos,hj]];exact List.getElem_mem hj
   ·
    intro hy;obtain⟨j,hj,rfl⟩:=List.mem_iff_getElem.1 hy;exact⟨j,hj,by simp[getElem!_pos,hj]⟩
  rw[List.mem_map];constructor
  ·
   rintro ⟨y,hy,rfl⟩
   obtain⟨z,hz,rfl⟩:=List.mem_map.1 ((hmem y).1 hy);exact hz
  ·
   intro hx;exact⟨x.l,(hmem _).2 (List.mem_map.2 ⟨x,hx,rfl⟩),rfl⟩
theorem za9(xs:List Str):(qc xs).length<=xs.length:=by
 unfold qc Zo;rw[List.length_map,sortS_l];refine Nat.le_trans (Lib.compact_length_le _) ?_;simp
theorem sorted_eq{xs:List Str}(h:xs.length<=1099511627776):ZS xs=some (qc xs):=by
 have h2:=za9 xs;unfold ZS xO;rw[if_pos (by omega),obS];unfold xm;rw[if_pos (by rw[zaD];omega),obS];show(appO 16 [] (qc xs)).bind (λ v11=>some v11)=_;rw[wq (by simp;omega) (by simp;omega)];rfl
theorem gtr_lt{x y:Str}:cmpS .gtr x y=decide (y.l<x.l):=by
 show(!(Op.bytesLess x.l y.l||decide (x=y)))=_;rw[bytesLt];by_cases h:x=y
 ·
  subst h;simp[List.lt_irrefl]
 ·
  have hne:x.l≠y.l:=λ e=>h (by cases x;cases y;simp_all)
  by_cases h2:x.l<y.l
  ·
   have:¬ y.l<x.l:=λ h3=>List.lt_irrefl _ (List.lt_trans h2 h3)
   simp[h2,this]
  ·
   have:y.l<x.l:=XP (List.not_lt.1 h2) (Ne.symm hne);simp[h,h2,this]
theorem insPos_le(l:List Str)(s:Str):∀ k,jB l s k<=k
 | 0=>Nat.le_refl _
 |
  k+1=>by
  unfold jB;split
  ·
   split
   ·
    have:=insPos_le l s k;omega
   ·
    exact Nat.le_refl _
  ·
   exact Nat.le_refl _
theorem zba{l:List Str}{s:Str}:∀ k,k<=l.length->(∀ j y,l[j]?=some y->jB l s k<=j->j<k->s.l<y.l)/\(∀ y,0<jB l s k->l[jB l s k - 1]?=some y->¬ s.l<y.l)
 | 0,_=>⟨λ j _ _ _ h=>absurd h (by omega),λ _ h=>absurd h (by simp[jB])⟩
 |
  k+1,hk=>by
  have hx:l[k]?=some l[k]:=List.getElem?_eq_getElem (by omega);by_cases h:s.l<l[k].l
  ·
   have e:jB l s (k+1)=jB l s k:=by
    conv=>lhs;unfold jB
    rw[hx];simp only;rw[gtr_lt,if_pos (decide_eq_true h)]
   rw[e];obtain⟨h1,h2⟩:=zba (l:=l) (s:=s) k (by omega);refine⟨λ j y hj hj1 hj2=>?_,h2⟩;by_cases e:j=k
   ·
    subst e;rw[hx] at hj;injection hj with hj;rw[← hj];exact h
   ·
    exact h1 j y hj hj1 (by omega)
  ·
   have e:jB l s (k+1)=k+1:=by
    unfold jB;rw[hx];simp only;rw[gtr_lt,if_neg (by simpa using h)]
   rw[e];refine⟨λ j _ _ h1 h2=>by omega,λ y _ hy=>?_⟩;rw[Nat.add_sub_cancel,hx] at hy;injection hy with hy;rw[← hy];exact h
theorem insertT_asc{l:List Str}{s:Str}(hl:Asc l):Asc (wo l s):=by
 unfold wo;cases hc:xu l s with
 | true=>exact hl
 |
  false=>
  rw[if_neg (by decide)];have hns:s ∉ l:=λ h=>by rw[XO.2 h] at hc;cases hc
  obtain⟨h1,h2⟩:=zba (l:=l) (s:=s) l.length (Nat.le_refl _);have hle:=insPos_le l s l.length;generalize jB l s l.length=p at*;have hpw:=List.pairwise_iff_getElem.1 hl;have hlow:∀ a∈l.take p,a.l<s.l:=by
   intro a ha;obtain⟨i,hi,rfl⟩:=List.mem_take_iff_getElem.1 ha;have hp:=h2 l[p - 1] (by omega) (List.getElem?_eq_getElem (by omega));have hlt:l[p - 1].l<s.l:=XP (List.not_lt.1 hp) λ e=>hns (by
    have:l[p - 1]=s:=by
     cases hq:l[p - 1] with
     | mk q=>rw[hq] at e;cases s;simp_all
    rw[← this];exact List.getElem_mem _)
   by_cases e:i=p - 1
   ·
    subst e;exact hlt
   ·
    exact List.lt_trans (hpw i (p - 1) (by omega) (by omega) (by omega)) hlt
  have hhigh:∀ b∈l.drop p,s.l<b.l:=by
   intro b hb;obtain⟨i,hi,rfl⟩:=List.mem_drop_iff_getElem.1 hb;exact h1 _ _ (List.getElem?_eq_getElem _) (by omega) (by omega)
  unfold Asc;rw[List.append_assoc,List.pairwise_append];refine⟨hl.sublist (List.take_sublist _ _),?_,λ a ha b hb=>?_⟩
  ·
   rw[List.singleton_append,List.pairwise_cons];exact⟨hhigh,hl.sublist (List.drop_sublist _ _)⟩
  ·
   rw[List.singleton_append,List.mem_cons] at hb;rcases hb with rfl | hb
   ·
    exact hlow a ha
   ·
    exact List.lt_trans (hlow a ha) (hhigh b hb)
theorem insertAll_asc{m l:List Str}(hl:Asc l):Asc (m.foldl wo l):=by
 induction m generalizing l with
 | nil=>exact hl
 | cons x m ih=>rw[List.foldl_cons];exact ih (insertT_asc hl)
section
variable{S β:Type}
theorem Yb{step:S->Option (S⊕β)}(n:Nat)(mk:Nat->S){b:β}(h:∀ k,k<n->step (mk k)=some (.inl (mk (k+1))))(hend:step (mk n)=some (.inr b))(hn:n<576460752303423488){s:S}(hs:s=mk 0):zS step s=some b:=by
 subst hs;have key:∀ m k,k+m=n->qL step (m+1) (mk k)=some b:=by
  intro m
  induction m with
  | zero=>intro k hk;rw[show k=n by omega];exact qF hend
  | succ m ih=>intro k hk;rw[YL (h k (by omega))];exact ih (k+1) (by omega)
 exact Yn (key n 0 (by omega)) (by omega)
end
theorem xM{α:Type}{l:List α}{k:Nat}(h:k<l.length):∃ x,l[k]?=some x/\x∈l:=⟨l[k],List.getElem?_eq_getElem h,List.getElem_mem h⟩
theorem EqualS_eq{l m:List Str}(h:l.length<=1152921504606846):yV l m=some (decide (l=m)):=by
 unfold yV;by_cases hlen:l.length=m.length
 ·
  rw[if_neg (by simp[cmpI,hlen])];have hl:zS (λ s=>yq l m s) 0=some (if(List.range l.length).any (λ k=>decide (l[k]?≠m[k]?))=true then .inr false else .inl ()):=by
   refine q7 (List.range l.length) _ _ _ (λ k x hx hlt=>?_) ?_ (by rw[List.length_range];omega) rfl
   ·
    rw[List.length_range] at hlt;rw[List.getElem?_range hlt] at hx;injection hx with hx;subst hx;obtain⟨a,ha,_⟩:=xM hlt;obtain⟨b,hb,_⟩:=xM (l:=m) (k:=k) (by omega);unfold yq;rw[zK,if_pos (decide_eq_true hlt),yb,ha,obS,yb,hb,obS,zV (by omega)];by_cases e:a=b <;> simp[e]
   ·
    unfold yq;rw[List.length_range,zK,if_neg (by simp)]
  rw[hl,obS];by_cases e:l=m
  ·
   subst e;rw[if_neg (by simp)];simp
  ·
   rw[if_pos]
   ·
    simp[e]
   ·
    rw[List.any_eq_true];refine Decidable.byContradiction λ hc=>e (List.ext_getElem? λ k=>?_)
    by_cases hk:k<l.length
    ·
     refine Decidable.byContradiction λ h2=>hc ⟨k,List.mem_range.2 hk,decide_eq_true h2⟩
    ·
     rw[List.getElem?_eq_none (by omega),List.getElem?_eq_none (by omega)]
 ·
  rw[if_pos (by simp[cmpI];omega)];have:l≠m:=λ e=>hlen (by rw[e])
  simp[this]
theorem ZY{t:Tree}(h:zR t=true):t.files.length<=12:=by
 unfold zR at h;rw[Bool.and_eq_true] at h;have:=h.2;simp[cmpI] at this;omega
theorem above_len(s:Str):(above s).length=(zu s dot).length:=QM _ _
open Go.RowKit
def Okd{α:Type}[Rep α](x:α):Prop:=∃ M w cs,Rep.rdc M w cs x
section
variable{α β:Type}[Rep α][Rep β]
theorem Okd.fld{get:α->β}{off:Nat}(f:Fld get off){x:α}(h:Okd x):Okd (get x):=by
 obtain⟨M,w,cs,hr⟩:=h;obtain⟨c,_,h2⟩:=f.sub hr;exact⟨M,w,c,h2⟩
theorem Okd.len{xs:List α}(h:Okd xs):xs.length<=9223372036854775807:=by
 obtain⟨M,w,cs,A,c,_,h1,h2,_⟩:=h;exact Nat.le_trans h1 h2
end
section
variable{α β σ S:Type}
theorem neq_len{m n:Nat}:cmpI .neq (m:Int) (n:Int)=!decide (m=n):=by
 by_cases h:m=n
 ·
  simp[cmpI,h]
 ·
  simp[cmpI,h];omega
theorem eq_loop[DecidableEq α]{step:Int->Option (Int⊕(Unit⊕Bool))}(xs ys:List α)(hxy:xs.length=ys.length)
  (h:∀ k (hk:k<xs.length) (hk2:k<ys.length),step (k:Int)=some (if xs[k]=ys[k] then .inl ((k+1:Nat):Int) else .inr (.inr false)))
  (hend:step (xs.length:Int)=some (.inr (.inl ()))) (hlen:xs.length<576460752303423488):Option.bind (α:=Unit⊕Bool) (zS step 0) (Sum.elim (λ _=>some true) some)=some (decide (xs=ys)):=by
 have key:∀ m k,k+m=xs.length->xs.take k=ys.take k->∃ r,qL step (m+1) (k:Int)=some r/\(Sum.elim (λ _=>some true) some r:Option Bool)=some (decide (xs=ys)):=by
  intro m
  induction m with
  |
   zero=>
   intro k hk he;have:k=xs.length:=by omega
   subst this;refine⟨_,qF hend,?_⟩;rw[List.take_length,hxy,List.take_length] at he;simp[he]
  |
   succ m ih=>
   intro k hk he;have hlt:k<xs.length:=by omega
   have hlt2:k<ys.length:=by omega
   have hs:=h k hlt hlt2;by_cases e:xs[k]=ys[k]
   ·
    rw[if_pos e] at hs;rw[YL hs];refine ih (k+1) (by omega) ?_;rw[List.take_add_one,List.take_add_one,he,List.getElem?_eq_getElem hlt,List.getElem?_eq_getElem hlt2,e]
   ·
    rw[if_neg e] at hs;refine⟨_,qF hs,?_⟩;have:xs≠ys:=λ h=>by subst h;exact e rfl
    simp[this]
 obtain⟨r,h1,h2⟩:=key xs.length 0 (by omega) rfl;have h1':qL step (xs.length+1) (0:Int)=some r:=h1;rw[Yn h1' (by omega),obS];exact h2
end
open Go.RowKit
section
variable{α:Type}
variable{q:Prop}[Decidable q]{K:Option Bool}
theorem zag[DecidableEq α]{step:Int->Option (Int⊕(Unit⊕Bool))}{xs ys:List α}
  (h:∀ k (hk:k<xs.length) (hk2:k<ys.length),step (k:Int)=some (if xs[k]=ys[k] then .inl ((k+1:Nat):Int) else .inr (.inr false)))
  (hend:step (xs.length:Int)=some (.inr (.inl ()))) (hlen:xs.length<576460752303423488):
  (if cmpI .neq (xs.length:Int) (ys.length:Int)=true then some false else Option.bind (α:=Unit⊕Bool) (zS step 0) (Sum.elim (λ _=>some true) some))=some (decide (xs=ys)):=by
 rw[neq_len];by_cases e:xs.length=ys.length
 ·
  rw[if_neg (by simp[e]),eq_loop xs ys e h hend hlen]
 ·
  rw[if_pos (by simp[e])];have:xs≠ys:=λ h=>e (by rw[h])
  simp[this]
end
theorem i64_in{n:Int}(h1:0<=n)(h2:n<=4611686018427387904):i64 n=some n:=wn (by omega) (by omega)
theorem modO_of{m n:Int}(h:n≠0):modO m n=some (m.tmod n):=if_neg h
theorem divO_of{m n:Int}(h:n≠0)(h2:0<=m.tdiv n)(h3:m.tdiv n<=9223372036854775807):divO m n=some (m.tdiv n):=if_neg (by omega)
theorem lss_at{α:Type}{xs:List α}{k:Nat}(hk:k<xs.length):cmpI .lss (k:Int) (xs.length:Int)=true:=by rw[zK];exact decide_eq_true hk
theorem lss_end{α:Type}{xs:List α}:cmpI .lss (xs.length:Int) (xs.length:Int)=false:=by rw[zK];simp
theorem Jv{α:Type}{xs:List α}{k:Nat}(hk:k<xs.length):atI xs (k:Int)=some xs[k]:=by rw[yb,List.getElem?_eq_getElem hk]
open Go.RowKit
end Go.Proofs.YtdoidiipacdbpaaGreatDoor
