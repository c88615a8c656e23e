import Derived.Test.YtpmkkijamfgaeaaGreatDoorRFb
import Derived.Test.YtpmkkijamfgaeaaGreatDoorRB
import Derived.Test.YtpmkkijamfgaeaaGreatDoorRG
namespace Go.Proofs.YtpmkkijamfgaeaaGreatDoor
section
variable{α β σ S:Type}
theorem zT(xs:List α)(k:Nat):atI xs (k:Int)=xs[k]?:=by simp[atI]
theorem wC{n:Int}(h1:-9223372036854775808<=n)(h2:n<=9223372036854775807):i64 n=some n:=if_pos ⟨h1,h2⟩
theorem zU{k:Nat}(h:k<4611686018427387904):i64 ((k:Int)+1)=some ((k+1:Nat):Int):=by rw[wC (by omega) (by omega)];rfl
theorem xU[Inhabited α](g:Bool)(x:α):gO g (some x)=some (if g=true then x else default):=by unfold gO;split <;> rfl
theorem ZK[Inhabited α](e:Option α):gO true e=e:=rfl
theorem YV[Inhabited α](e:Option α):gO false e=some default:=rfl
theorem zF(k n:Nat):cmpI .lss (k:Int) (n:Int)=decide (k<n):=by simp[cmpI]
theorem yF{b:Nat}{xs ys:List α}(h:(xs.length+ys.length)*b<=140737488355328)(h2:xs.length+ys.length<=9223372036854775807):appO b xs ys=some (xs++ys):=if_pos ⟨h,h2⟩
theorem JE{s:Str}{k:Nat}(h:k<=s.l.length):cutHO s (k:Int)=some ⟨s.l.take k⟩:=by unfold cutHO;rw[if_pos ⟨by omega,by omega⟩];rfl
theorem JF{s:Str}{k:Nat}(h:k<=s.l.length):cutLO s (k:Int)=some ⟨s.l.drop k⟩:=by unfold cutLO;rw[if_pos ⟨by omega,by omega⟩];rfl
theorem JG{xs:List α}{k:Nat}(h:k<=xs.length):W0 xs (k:Int)=some (xs.take k):=by unfold W0;rw[if_pos ⟨by omega,by omega⟩];rfl
theorem setO_nat{xs:List α}{k:Nat}{y:α}(h:k<xs.length):setO xs (k:Int) y=some (xs.set k y):=by unfold setO;rw[if_pos ⟨by omega,by omega⟩];rfl
theorem YG{m n:Str}(h:m.l.length+n.l.length<=9223372036854775807):catO m n=some ⟨m.l++n.l⟩:=if_pos h
theorem qK{step:S->Option (S⊕β)}{s s':S}{n:Nat}(h:step s=some (.inl s')):jL step (n+1) s=jL step n s':=by rw[jL,h]
theorem xo{step:S->Option (S⊕β)}{s:S}{b:β}{n:Nat}(h:step s=some (.inr b)):jL step (n+1) s=some b:=by rw[jL,h]
theorem iterM_mono{step:S->Option (S⊕β)}{r:β}:∀ (m j:Nat) (s:S),jL step m s=some r->jL step (m+j) s=some r:=by
 intro m
 induction m with
 | zero=>intro j s h;simp[jL] at h
 |
  succ m ih=>
  intro j s h;rw[show m+1+j=(m+j)+1 by omega];unfold jL at h ⊢;split at h
  ·
   cases h
  ·
   exact ih j _ h
  ·
   exact h
theorem qF{step:S->Option (S⊕β)}{r:β}{m:Nat}{s:S}(h:jL step m s=some r)(hm:m<=1152921504606846976):zM step s=some r:=by
 unfold zM;have:=iterM_mono m (1152921504606846976 - m) s h;rwa[show m+(1152921504606846976 - m)=1152921504606846976 by omega] at this
def runL(R:Nat->σ->α->σ⊕β)(fin:σ->β):Nat->σ->List α->β
 | _,s,[]=>fin s
 |
  k,s,x::xs=>match R k s x with
  | .inl s'=>runL R fin (k+1) s' xs
  | .inr b=>b
theorem Jh{step:S->Option (S⊕β)}(xs:List α)(mk:σ->Nat->S)(R:Nat->σ->α->σ⊕β)(fin:σ->β)(Inv:Nat->σ->Prop)
  (h:∀ k s x,xs[k]?=some x->k<xs.length->Inv k s->match R k s x with
   | .inl s'=>step (mk s k)=some (.inl (mk s' (k+1)))/\Inv (k+1) s'
   | .inr b=>step (mk s k)=some (.inr b))
  (hend:∀ s,Inv xs.length s->step (mk s xs.length)=some (.inr (fin s))) {s0:σ} (h0:Inv 0 s0) (hlen:xs.length<576460752303423488):zM step (mk s0 0)=some (runL R fin 0 s0 xs):=by
 have key:∀ m k s,k+m=xs.length->Inv k s->jL step (m+1) (mk s k)=some (runL R fin k s (xs.drop k)):=by
  intro m
  induction m with
  |
   zero=>
   intro k s hk hi;have:k=xs.length:=by omega
   subst this;rw[List.drop_length,runL,jL,hend s hi]
  |
   succ m ih=>
   intro k s hk hi;have hlt:k<xs.length:=by omega
   have hx:xs[k]?=some xs[k]:=List.getElem?_eq_getElem hlt;rw[List.drop_eq_getElem_cons hlt,runL,jL];have hr:=h k s xs[k] hx hlt hi;cases e:R k s xs[k] with
   |
    inl s'=>
    rw[e] at hr;simp only at hr;rw[hr.1];exact ih (k+1) s' (by omega) hr.2
   |
    inr b=>
    rw[e] at hr;simp only at hr;rw[hr]
 exact qF (key xs.length 0 s0 (by omega) h0) (by omega)
theorem loop_find{step:Int->Option (Int⊕β)}(xs:List α)(R:Nat->α->Option β)(e:β)
  (h:∀ k x,xs[k]?=some x->k<xs.length->step (k:Int)=some (match R k x with | none=>.inl ((k+1:Nat):Int) | some b=>.inr b))
  (hend:step (xs.length:Int)=some (.inr e)) (hlen:xs.length<576460752303423488) {s:Int} (hs:s=0):
  zM step s=some (runL (λ k (_:Unit) x=>match R k x with | none=>.inl () | some b=>.inr b) (λ _=>e) 0 () xs):=by
 subst hs;refine Jh (σ:=Unit) xs (λ _ k=>(k:Int)) _ _ (λ _ _=>True) (λ k s x hx hlt _=>?_) (λ _ _=>hend) trivial hlen;have:=h k x hx hlt;cases hR:R k x with
 | none=>rw[hR] at this;exact⟨this,trivial⟩
 | some b=>rw[hR] at this;exact this
theorem runL_any(p:α->Bool)(b e:β):∀ (k:Nat) (xs:List α),runL (λ _ (_:Unit) x=>match (if p x=true then some b else none) with | none=>.inl () | some b=>.inr b) (λ _=>e) k () xs=if xs.any p=true then b else e
 | _,[]=>rfl
 |
  k,x::xs=>by
  cases h:p x with
  | true=>simp[runL,h]
  | false=>simp only[runL,h];rw[List.any_cons,h,Bool.false_or];exact runL_any p b e (k+1) xs
theorem qG{step:Int->Option (Int⊕β)}(xs:List α)(p:α->Bool)(b e:β)
  (h:∀ k x,xs[k]?=some x->k<xs.length->step (k:Int)=some (if p x=true then .inr b else .inl ((k+1:Nat):Int)))
  (hend:step (xs.length:Int)=some (.inr e)) (hlen:xs.length<576460752303423488) {s:Int} (hs:s=0):
  zM step s=some (if xs.any p=true then b else e):=by
 rw[loop_find xs (λ _ x=>if p x=true then some b else none) e (λ k x hx hlt=>?_) hend hlen hs,runL_any];rw[h k x hx hlt];cases p x <;> rfl
theorem runL_idx(p:α->Bool)(f:Int->β)(e:β):∀ (k:Nat) (xs:List α),runL (λ k (_:Unit) x=>match (if p x=true then some (f k) else none) with | none=>.inl () | some b=>.inr b) (λ _=>e) k () xs=(match xs.findIdx? p with | some i=>f ((k+i:Nat):Int) | none=>e)
 | _,[]=>rfl
 |
  k,x::xs=>by
  cases h:p x with
  | true=>simp[runL,h,List.findIdx?_cons]
  |
   false=>
   simp only[runL,h,List.findIdx?_cons,Bool.false_eq_true,if_false];rw[runL_idx p f e (k+1) xs];cases xs.findIdx? p with
   | none=>rfl
   | some i=>simp only[Option.map_some];congr 1;omega
theorem Ji{step:Int->Option (Int⊕β)}(xs:List α)(p:α->Bool)(f:Int->β)(e:β)
  (h:∀ k x,xs[k]?=some x->k<xs.length->step (k:Int)=some (if p x=true then .inr (f k) else .inl ((k+1:Nat):Int)))
  (hend:step (xs.length:Int)=some (.inr e)) (hlen:xs.length<576460752303423488) {s:Int} (hs:s=0):
  zM step s=some (match xs.findIdx? p with | some i=>f (i:Int) | none=>e):=by
 rw[loop_find xs (λ k x=>if p x=true then some (f k) else none) e (λ k x hx hlt=>?_) hend hlen hs,runL_idx]
 ·
  cases xs.findIdx? p <;> simp
 ·
  rw[h k x hx hlt];cases p x <;> rfl
theorem runL_fold(g:σ->α->σ)(fin:σ->β):∀ (k:Nat) (s:σ) (xs:List α),runL (λ _ s x=>(.inl (g s x):σ⊕β)) fin k s xs=fin (xs.foldl g s)
 | _,_,[]=>rfl
 | k,s,x::xs=>runL_fold g fin (k+1) (g s x) xs
theorem zaW{step:S->Option (S⊕β)}(xs:List α)(mk:σ->Nat->S)(g:σ->α->σ)(fin:σ->β)(Inv:Nat->σ->Prop)
  (h:∀ k s x,xs[k]?=some x->k<xs.length->Inv k s->step (mk s k)=some (.inl (mk (g s x) (k+1)))/\Inv (k+1) (g s x))
  (hend:∀ s,Inv xs.length s->step (mk s xs.length)=some (.inr (fin s))) {s0:σ} (h0:Inv 0 s0) (hlen:xs.length<576460752303423488):zM step (mk s0 0)=some (fin (xs.foldl g s0)):=by
 rw[Jh xs mk (λ _ s x=>.inl (g s x)) fin Inv h hend h0 hlen,runL_fold]
end
theorem Xb{s:Str}(hs:mid s):yI s=some (zB s):=by
 unfold mid at hs;have hl:zM (λ s4=>xY s s4) 0=some (if s.l.any (λ b=>!low b)=true then .inr false else .inl ()):=by
  refine qG s.l _ _ _ (λ k x hx hlt=>?_) ?_ (by omega) rfl
  ·
   unfold xY;rw[zF,if_pos (decide_eq_true hlt),zT,hx,obS,xU,obS,zU (by omega)];unfold low;generalize cmpB .lss x (UInt8.ofNat 97)=c1;cases c1 with
   | true=>rfl
   |
    false=>
    rw[if_pos (show(false == false)=true from rfl)];generalize cmpB .gtr x (UInt8.ofNat 122)=c2;cases c2 <;> rfl
  ·
   unfold xY;rw[zF,if_neg (by simp)]
 unfold yI;rw[hl,obS];unfold zB;cases h:s.l.any (λ b=>!low b) with
 |
  true=>
  have:s.l.all low=false:=by
   rw[Bool.eq_false_iff];intro h2;rw[List.any_eq_true] at h;obtain⟨b,hb,hb2⟩:=h;rw[List.all_eq_true.1 h2 b hb] at hb2;cases hb2
  simp[this]
 |
  false=>
  have:s.l.all low=true:=by
   rw[List.all_eq_true];intro b hb;have:=List.any_eq_false.1 h b hb;simpa using this
  simp only[Bool.false_eq_true,if_false,Sum.elim_inl,yg,obS,this,Bool.and_true,inR];simp[cmpI]
def cutF(c:UInt8):List UInt8->List (List UInt8)
 | []=>[[]]
 |
  b::l=>if b == c then[]::cutF c l else match cutF c l with
  | h::t=>(b::h)::t
  | []=>[[b]]
theorem Yy(c b:UInt8)(l:List UInt8):cutF c (b::l)=if b == c then[]::cutF c l else match cutF c l with
  | h::t=>(b::h)::t
  | []=>[[b]]:=rfl
theorem ZL(c:UInt8):∀ l,cutF c l≠[]
 | []=>by simp[cutF]
 |
  b::l=>by
  unfold cutF;split
  ·
   simp
  ·
   split <;> simp
theorem Jj(c:UInt8):∀ l,(cutF c l).length=l.count c+1
 | []=>by simp[cutF]
 |
  b::l=>by
  unfold cutF;cases h:b == c with
  |
   true=>
   simp only[if_true,List.length_cons,Jj c l];rw[List.count_cons,h];simp
  |
   false=>
   simp only[Bool.false_eq_true,if_false];rw[List.count_cons,h];simp only[Bool.false_eq_true,if_false,Nat.add_zero];rw[← Jj c l];cases hc:cutF c l with
   | nil=>exact absurd hc (ZL c l)
   | cons h t=>rfl
theorem J4(c:UInt8):∀ (l:List UInt8) (st:List Str×Str),(let r:=l.foldl (js c) st;r.1++[r.2])=st.1++(match cutF c l with | h::t=>(⟨st.2.l++h⟩:Str)::t.map Str.mk | []=>[])
 | [],st=>by simp[cutF]
 |
  b::l,st=>by
  rw[List.foldl_cons];have ih:=J4 c l (js c st b);simp only at ih ⊢;rw[ih];unfold js;rw[Yy];cases h:b == c with
  |
   true=>
   simp only[if_true,List.append_assoc];cases hc:cutF c l with
   | nil=>exact absurd hc (ZL c l)
   | cons h t=>simp
  |
   false=>
   simp only[Bool.false_eq_true,if_false];cases hc:cutF c l with
   | nil=>exact absurd hc (ZL c l)
   | cons h t=>simp
theorem wU(s:Str)(c:UInt8):zg s c=(cutF c s.l).map Str.mk:=by
 have:=J4 c s.l ([],⟨[]⟩);simp only at this;unfold zg xd;rw[this];cases hc:cutF c s.l with
 | nil=>exact absurd hc (ZL c s.l)
 | cons h t=>simp
theorem YH(c:UInt8):∀ l,Lib.indexByte l c<0->cutF c l=[l]
 | [],_=>rfl
 |
  b::l,h=>by
  unfold Lib.indexByte at h;unfold cutF;cases hb:b == c with
  | true=>rw[hb] at h;simp at h
  |
   false=>
   rw[hb] at h;simp only[Bool.false_eq_true,if_false] at h ⊢;have hge:=Lib.indexByte_ge l c;have:Lib.indexByte l c<0:=by
    split at h
    ·
     rename_i e;have:=eq_of_beq e;omega
    ·
     omega
   rw[YH c l this]
theorem YI(c:UInt8):∀ l,0<=Lib.indexByte l c->Lib.indexByte l c<l.length/\cutF c l=l.take (Lib.indexByte l c).toNat::cutF c (l.drop ((Lib.indexByte l c).toNat+1))
 | [],h=>by simp[Lib.indexByte] at h
 |
  b::l,h=>by
  unfold Lib.indexByte at h ⊢;cases hb:b == c with
  | true=>simp[cutF,hb]
  |
   false=>
   rw[hb] at h;simp only[Bool.false_eq_true,if_false] at h ⊢;cases he:Lib.indexByte l c == -1 with
   | true=>rw[he] at h;simp at h
   |
    false=>
    rw[he] at h;simp only[Bool.false_eq_true,if_false] at h ⊢;have hge:=Lib.indexByte_ge l c;have hne:Lib.indexByte l c≠-1:=by simpa using he
    obtain⟨h1,h2⟩:=YI c l (by omega);refine⟨by simp;omega,?_⟩;have e1:(Lib.indexByte l c+1).toNat=(Lib.indexByte l c).toNat+1:=by omega
    rw[e1];rw[Yy,hb,h2];simp only[Bool.false_eq_true,if_false,List.take_succ_cons,List.drop_succ_cons]
theorem genSplit_loop(c:UInt8)(n:Nat)(hn:n<1099511627777):∀ (l:List UInt8) (done:List Str),l.length<=1099511627776->done.length+(cutF c l).length=n->
  ∀
   m,(cutF c l).length<=m->jL (λ s35=>yL ⟨[c]⟩ 0 ((n:Int) - 1) s35) m ((⟨l⟩:Str),done++List.replicate (n - done.length) zStr,(done.length:Int))=
   some (⟨(cutF c l).getLast (ZL c l)⟩,done++((cutF c l).dropLast.map Str.mk++[zStr]),(n:Int) - 1):=by
 intro l
 induction hlen:l.length using Nat.strongRecOn generalizing l with
 |
  _ k ih=>
  intro done hl hd m hm;have hne:=ZL c l;have hpos:0<(cutF c l).length:=List.length_pos_iff.2 hne;obtain⟨m,rfl⟩:∃ m',m=m'+1:=⟨m - 1,by omega⟩;by_cases hlast:(cutF c l).length=1
  ·
   rw[xo (b:=((⟨l⟩:Str),done++List.replicate (n - done.length) zStr,(done.length:Int))) (by unfold yL;exact if_neg (by simp[cmpI];omega))];obtain⟨x,hx⟩:=List.length_eq_one_iff.1 hlast;have e1:n - done.length=1:=by omega
   simp only[hx,List.getLast_singleton,List.dropLast_singleton,List.map_nil,List.nil_append,e1,List.replicate_one];have hxl:x=l:=by
    rcases Int.lt_or_le (Lib.indexByte l c) 0 with h | h
    ·
     rw[YH c l h] at hx;injection hx with hx;exact hx.symm
    ·
     obtain⟨_,h2⟩:=YI c l h;rw[h2] at hx;have:=congrArg List.length hx;simp at this;exact absurd this (ZL _ _)
   rw[hxl]
   congr 2
   congr 1
   omega
  ·
   have hidx:0<=Lib.indexByte l c:=by
    rcases Int.lt_or_le (Lib.indexByte l c) 0 with h | h
    ·
     rw[YH c l h] at hlast;simp at hlast
    ·
     exact h
   obtain⟨h1,h2⟩:=YI c l hidx;obtain⟨j,hi⟩:=Int.eq_ofNat_of_zero_le hidx;rw[hi] at h1 h2;rw[Int.toNat_natCast] at h2;have hj:j<l.length:=by omega
   have e2:wM ⟨l⟩ ⟨[c]⟩=some (j:Int):=by simp[wM,hi]
   have hrep:done.length<(done++List.replicate (n - done.length) zStr).length:=by simp;omega
   have e4:atI (done++List.replicate (n - done.length) zStr) (done.length:Int)=some zStr:=by
    rw[zT,List.getElem?_append_right (Nat.le_refl _),Nat.sub_self,List.getElem?_replicate,if_pos (by omega)]
   have e5:setO (done++List.replicate (n - done.length) zStr) (done.length:Int) (⟨l.take j⟩:Str)=some ((done++[⟨l.take j⟩])++List.replicate (n - (done.length+1)) zStr):=by
    rw[setO_nat hrep]
    congr 1
    rw[List.set_append_right _ _ (Nat.le_refl _),Nat.sub_self];obtain⟨q,hq⟩:∃ q,n - done.length=q+1:=⟨n - done.length - 1,by omega⟩;rw[hq,List.replicate_succ,List.set_cons_zero,List.append_assoc,show n - (done.length+1)=q by omega];rfl
   have hstep:yL ⟨[c]⟩ 0 ((n:Int) - 1) ((⟨l⟩:Str),done++List.replicate (n - done.length) zStr,(done.length:Int))=some (.inl ((⟨l.drop (j+1)⟩:Str),(done++[⟨l.take j⟩])++List.replicate (n - (done.length+1)) zStr,((done.length+1:Nat):Int))):=by
    unfold yL;rw[if_pos (by simp[cmpI];omega)];simp only;rw[e2,obS,if_neg (by simp[cmpI]),show((j:Int)+0)=(j:Int) by omega,wC (by omega) (by omega),obS,JE (show j<=(⟨l⟩:Str).l.length by show j<=l.length;omega),obS,e4,obS,e5,obS];rw[show((j:Int)+(([c]:List UInt8).length:Int))=((j+1:Nat):Int) from rfl,wC (by omega) (by omega),obS,JF (show j+1<=(⟨l⟩:Str).l.length by show j+1<=l.length;omega),obS,zU (by omega),obS]
   rw[qK hstep];have hlen2:(cutF c (l.drop (j+1))).length+1=(cutF c l).length:=by rw[h2];rfl
   have hrec:=ih (l.drop (j+1)).length (by simp;omega) (l.drop (j+1)) rfl (done++[⟨l.take j⟩]) (by simp;omega) (by simp;omega) m (by omega);rw[List.length_append,List.length_singleton] at hrec;rw[hrec];have hne2:=ZL c (l.drop (j+1));have e7:(cutF c l).getLast hne=(cutF c (l.drop (j+1))).getLast hne2:=by
    have:∀ (L:List (List UInt8)) (hL:L≠[]),L=l.take j::cutF c (l.drop (j+1))->L.getLast hL=(cutF c (l.drop (j+1))).getLast hne2:=by
     intro L hL e;subst e;exact List.getLast_cons hne2
    exact this _ hne h2
   have e8:(cutF c l).dropLast=l.take j::(cutF c (l.drop (j+1))).dropLast:=by
    have:∀ (L:List (List UInt8)),L=l.take j::cutF c (l.drop (j+1))->L.dropLast=l.take j::(cutF c (l.drop (j+1))).dropLast:=by
     intro L e;subst e;rw[List.dropLast_cons_of_ne_nil hne2]
    exact this _ h2
   rw[e7,e8];simp
theorem Split_eq{s:Str}(hs:s.l.length<=8388608)(c:UInt8):wg s ⟨[c]⟩=some (zg s c):=by
 unfold wg qn;have hcount:s.l.count c<=s.l.length:=List.count_le_length;rw[if_neg (by simp[cmpI]),if_neg (by simp)];have e1:ZH s ⟨[c]⟩=some (s.l.count c:Int):=rfl;rw[if_pos (by simp[cmpI]),e1,obS,zU (by omega),obS,obS,zU (by omega),obS];have hmin:(if((s.l.length+1:Nat):Int)<((s.l.count c+1:Nat):Int) then((s.l.length+1:Nat):Int) else((s.l.count c+1:Nat):Int))=((s.l.count c+1:Nat):Int):=if_neg (by omega);rw[hmin];have hbig:s.l.count c+1<=16777216:=by omega
 have e2:makeO 1 16 ((s.l.count c+1:Nat):Int) zStr=some (List.replicate (s.l.count c+1) zStr):=by
  unfold makeO;rw[if_pos ⟨by omega,by simp;omega,by simp;omega,by omega⟩];rfl
 rw[e2,obS,wC (by omega) (by omega),obS];have hl:=qF (genSplit_loop c (s.l.count c+1) (by omega) s.l [] (by omega) (by simp[Jj]) (s.l.count c+1) (by rw[Jj];omega)) (by omega);simp only[List.nil_append,List.length_nil,Nat.sub_zero] at hl;rw[show((0:Nat):Int)=0 from rfl] at hl;rw[hl,obS];have hne:=ZL c s.l;have hlen:=Jj c s.l;have hz:((cutF c s.l).dropLast.map Str.mk).length=s.l.count c:=by simp[hlen]
 have e3:(((s.l.count c+1:Nat):Int) - 1)=(s.l.count c:Int):=by omega
 simp only[e3];have e4:atI ((cutF c s.l).dropLast.map Str.mk++[zStr]) (s.l.count c:Int)=some zStr:=by
  rw[zT,List.getElem?_append_right (by omega),hz,Nat.sub_self];rfl
 have e5:setO ((cutF c s.l).dropLast.map Str.mk++[zStr]) (s.l.count c:Int) (⟨(cutF c s.l).getLast hne⟩:Str)=some ((cutF c s.l).map Str.mk):=by
  unfold setO;rw[if_pos ⟨by omega,by simp[hlen]⟩]
  congr 1
  rw[Int.toNat_natCast,List.set_append_right _ _ (by omega),hz,Nat.sub_self,List.set_cons_zero];have:=List.dropLast_concat_getLast hne
  conv=>rhs;rw[← this]
  simp
 rw[e4,obS,e5,obS,zU (by omega),obS];have e6:W0 ((cutF c s.l).map Str.mk) ((s.l.count c+1:Nat):Int)=some ((cutF c s.l).map Str.mk):=by
  unfold W0;rw[if_pos ⟨by omega,by simp[hlen]⟩]
  congr 1
  rw[Int.toNat_natCast];exact List.take_of_length_le (by simp[hlen])
 rw[e6,wU];rfl
def sho(s:Str):Prop:=s.l.length<=8388608
theorem sho.mid{s:Str}(h:sho s):mid s:=by unfold sho at h;unfold Go.Proofs.YtpmkkijamfgaeaaGreatDoor.mid;omega
theorem split_len(s:Str)(c:UInt8):(zg s c).length<=s.l.length+1:=by have:=QX (zg s c);rwa[ZO] at this
theorem split_part{s x:Str}{c:UInt8}(h:x∈zg s c):x.l.length<=s.l.length+1:=by
 obtain⟨k,hk⟩:=List.getElem?_of_mem h;have:=part_le hk;rwa[ZO] at this
theorem XV{α:Type}(p:α->Bool)(l:List α):l.any (λ x=>!p x)=!l.all p:=by
 induction l with
 | nil=>rfl
 | cons x l ih=>simp[ih]
theorem xa{s:Str}(hs:sho s):zV s=some (zd s):=by
 unfold sho at hs;have hlen:=split_len s dot;unfold zV;rw[show wg s (⟨[46]⟩:Str)=some (zg s dot) from Split_eq hs dot,obS];have hl:zM (λ s7=>xZ (zg s dot) s7) 0=some (if(zg s dot).any (λ x=>!zB x)=true then .inr false else .inl ()):=by
  refine qG _ _ _ _ (λ k x hx hlt=>?_) ?_ (by omega) rfl
  ·
   unfold xZ;have hm:mid x:=by have:=split_part (List.mem_of_getElem? hx);unfold mid;omega
   rw[zF,if_pos (decide_eq_true hlt),zT,hx,obS,Xb hm,obS,zU (by omega)];cases zB x <;> rfl
  ·
   unfold xZ;rw[zF,if_neg (by simp)]
 rw[hl,obS,XV];unfold zd;cases(zg s dot).all zB <;> rfl
theorem Yh{s:Str}(hs:sho s):y8 s=some (zt s):=by
 unfold y8;rw[xa hs,xU,obS];unfold zt emptyS;cases decide (s=(⟨[]⟩:Str)) <;> rfl
theorem Qw{s:Str}(hs:sho s):jg s=some (if zd s=true then zg s dot else[]):=by
 unfold jg;rw[xa hs,obS,show wg s (⟨[46]⟩:Str)=some (zg s dot) from Split_eq hs dot];cases zd s <;> rfl
def YJ(p s:Str):Str:=if(zt p&&zB s&&zd (child p s))=true then child p s else emptyS
theorem WF{p s:Str}(h:p.l.length+s.l.length+1<=8388608):xQ p s=some (YJ p s):=by
 have hp:sho p:=by unfold sho;omega
 have hs:mid s:=by unfold mid;omega
 unfold xQ YJ;rw[Yh hp,obS,Xb hs,xU,obS];cases zt p with
 | false=>simp only[Bool.not_false,Bool.true_or,if_true,Bool.false_and,Bool.false_eq_true,if_false,emptyS]
 |
  true=>
  cases zB s with
  | false=>simp only[Bool.not_false,Bool.or_true,if_true,Bool.false_and,Bool.and_false,Bool.false_eq_true,if_false,emptyS,Bool.not_true,beq_self_eq_true]
  |
   true=>
   have hc:(if(decide (p≠(⟨[]⟩:Str)))=true then((catO p (⟨[46]⟩:Str)).bind λ v14=>(catO v14 s).bind λ v15=>some v15) else(some s))=some (child p s):=by
    unfold child emptyS;by_cases he:p=⟨[]⟩
    ·
     rw[if_neg (by simp[he]),if_pos he]
    ·
     rw[if_pos (by simp[he]),if_neg he,YG (by show p.l.length+1<=_;omega),obS,YG (by rw[List.length_append];show p.l.length+1+s.l.length<=_;omega),obS]
   have hsc:sho (child p s):=by
    unfold sho child;split
    ·
     omega
    ·
     rw[List.length_append,List.length_append];show p.l.length+1+s.l.length<=_;omega
   rw[hc,if_neg (by decide),obS,xa hsc,obS];generalize child p s=q;cases zd q <;> rfl
theorem HasPrefix_eq{s p:Str}:wQ s p=some (decide (p.l.length<=s.l.length)&&decide ((⟨s.l.take p.l.length⟩:Str)=p)):=by
 unfold wQ yN;by_cases h:p.l.length<=s.l.length
 ·
  have e:cmpI .geq (s.l.length:Int) (p.l.length:Int)=true:=by simp[cmpI,h]
  rw[e,JE h];simp[gO,h]
 ·
  have e:cmpI .geq (s.l.length:Int) (p.l.length:Int)=false:=by simp[cmpI];omega
  rw[e];simp[gO,h]
theorem IsUnder_eq{s p:Str}(hs:sho s)(hp:p.l.length+1<=8388608):qX s p=some (zd s&&zt p&&under s p):=by
 have hp':sho p:=by unfold sho;omega
 unfold qX;rw[xa hs,obS,Yh hp',xU,obS,YG (by show p.l.length+1<=_;omega),xU];unfold under emptyS;cases zd s with
 | false=>rfl
 |
  true=>
  cases zt p with
  | false=>rfl
  |
   true=>
   cases he:decide (p=(⟨[]⟩:Str)) with
   | true=>rfl
   |
    false=>
    cases hq:decide (s=p) with
    | true=>rfl
    |
     false=>
     simp only[HasPrefix_eq,xU,Bool.not_true,Bool.or_self,Bool.false_eq_true,if_false,beq_self_eq_true,if_true,Bool.true_and,Bool.false_or,obS,List.length_append,List.length_singleton]
     congr 2
     simp[cmpI];omega
theorem JH(a b c:Int):yg a b c=some (inR a b c):=rfl
theorem wO:zd emptyS=false:=rfl
theorem idx_join{α:Type}(p:α->Bool)(xs:List α):Option.bind (some (match xs.findIdx? p with | some i=>(Sum.inr (i:Int):Unit⊕Int) | none=>Sum.inl ())) (Sum.elim (λ _=>some (-1)) some)=some (xc p xs):=by
 unfold xc;cases xs.findIdx? p <;> rfl
theorem Wj{α:Type}(p:α->Bool)(xs:List α):cmpI .geq (xc p xs) 0=xs.any p:=by
 unfold xc;cases h:xs.findIdx? p with
 |
  none=>
  rw[List.findIdx?_eq_none_iff] at h;have:xs.any p=false:=by rw[List.any_eq_false];intro x hx;simp[h x hx]
  rw[this];rfl
 |
  some i=>
  obtain⟨hi,hp,_⟩:=List.findIdx?_eq_some_iff_getElem.1 h;have:xs.any p=true:=by rw[List.any_eq_true];exact⟨_,List.getElem_mem hi,hp⟩
  rw[this];simp[cmpI]
theorem idxOf_lss{α:Type}{p:α->Bool}{xs:List α}{k:Nat}{x:α}(hx:xs[k]?=some x)(hp:p x=true):cmpI .lss (xc p xs) k=(xs.take k).any p:=by
 have hk:=zx hx;have hxk:xs[k]=x:=by rw[List.getElem?_eq_getElem hk] at hx;injection hx
 unfold xc;cases h:xs.findIdx? p with
 |
  none=>
  rw[List.findIdx?_eq_none_iff] at h;have:=h x (List.mem_of_getElem? hx);rw[hp] at this;cases this
 |
  some i=>
  obtain⟨hi,hpi,hmin⟩:=List.findIdx?_eq_some_iff_getElem.1 h;by_cases hik:i<k
  ·
   have:(xs.take k).any p=true:=by
    rw[List.any_eq_true];exact⟨xs[i],List.mem_take_iff_getElem.2 ⟨i,by omega,rfl⟩,hpi⟩
   rw[this];simp[cmpI,hik]
  ·
   have:(xs.take k).any p=false:=by
    rw[List.any_eq_false];intro y hy;obtain⟨j,hj,rfl⟩:=List.mem_take_iff_getElem.1 hy;exact hmin j (by omega)
   rw[this];simp[cmpI];omega
theorem IndexI_eq{xs:List Int}{n:Int}(h:xs.length<=1152921504606846):xP xs n=some (xc (λ x=>n == x) xs):=by
 unfold xP;have hl:zM (λ s4=>yD xs n s4) 0=some (match xs.findIdx? (λ x=>n == x) with | some i=>(Sum.inr (i:Int):Unit⊕Int) | none=>Sum.inl ()):=by
  refine Ji xs (λ x=>n == x) (λ i=>Sum.inr i) _ (λ k x hx hlt=>?_) ?_ (by omega) rfl
  ·
   unfold yD;rw[zF,if_pos (decide_eq_true hlt),zT,hx,obS,zU (by omega),show cmpI .eql n x=(n == x) from rfl];cases n == x <;> rfl
  ·
   unfold yD;rw[zF,if_neg (by simp)]
 rw[hl];exact idx_join _ _
theorem ContainsI_eq{xs:List Int}{n:Int}(h:xs.length<=1152921504606846):xe xs n=some (xs.any (λ x=>n == x)):=by
 unfold xe;rw[IndexI_eq h,obS,Wj]
theorem stmt_mod(s:Stmt):decide (s={ (⟨s.kind,⟨[]⟩,0,⟨[]⟩,0⟩:Stmt) with module:=s.module })=(cmpI .eql s.level 0&&decide (s.name=⟨[]⟩)&&cmpI .eql s.value 0):=by
 cases s;rw[Bool.eq_iff_iff];simp[cmpI,and_assoc]
theorem stmt_nv(s:Stmt):decide (s={ { (⟨s.kind,⟨[]⟩,0,⟨[]⟩,0⟩:Stmt) with name:=s.name } with value:=s.value })=(decide (s.module=⟨[]⟩)&&cmpI .eql s.level 0):=by
 cases s;rw[Bool.eq_iff_iff];simp[cmpI]
theorem stmt_n(s:Stmt):decide (s={ (⟨s.kind,⟨[]⟩,0,⟨[]⟩,0⟩:Stmt) with name:=s.name })=(decide (s.module=⟨[]⟩)&&cmpI .eql s.level 0&&cmpI .eql s.value 0):=by
 cases s;rw[Bool.eq_iff_iff];simp[cmpI,and_assoc]
theorem smStmt.sho{s:Stmt}(h:smStmt s):sho s.module:=by have:=h.1;unfold Go.Proofs.YtpmkkijamfgaeaaGreatDoor.sho;omega
theorem smStmt.midn{s:Stmt}(h:smStmt s):mid s.name:=by have:=h.2;unfold mid;omega
theorem stmtOk_eq{s:Stmt}(h:smStmt s):Zv s=some (zW s):=by
 have hm:=xa h.sho;have hn:=Xb h.midn;unfold Zv;rw[hm,hn,stmt_mod,stmt_nv,stmt_n];simp only[JH,xU,obS];unfold zW;rcases s with⟨kind,m,level,name,value⟩;simp only[show ∀ x y:Int,cmpI .eql x y=(x == y) from λ _ _=>rfl];by_cases h0:kind=0
 ·
  subst h0;simp only[beq_self_eq_true,if_true,obS];generalize zd m=a;generalize (level == 0)=b;generalize decide (name=⟨[]⟩)=c;generalize (value == 0)=d;cases a <;> cases b <;> cases c <;> cases d <;> rfl
 ·
  by_cases h2:kind=2
  ·
   subst h2;simp only[beq_self_eq_true,if_true,obS,show((2:Int) == 0)=false from rfl,show((2:Int) == 1)=false from rfl,Bool.false_eq_true,if_false];generalize zd m=a;generalize (level == 0)=b;generalize decide (name=⟨[]⟩)=c;generalize (value == 0)=d;cases a <;> cases b <;> cases c <;> cases d <;> rfl
  ·
   have e0:(kind == 0)=false:=by simpa using h0
   have e2:(kind == 2)=false:=by simpa using h2
   simp only[e0,e2,Bool.false_eq_true,if_false,obS];by_cases h1:kind=1
   ·
    subst h1;simp only[beq_self_eq_true,if_true];have hl:cmpI .geq level 1=cmpI .gtr level 0:=by simp[cmpI];omega
    rw[hl];unfold zt;by_cases hme:m=emptyS
    ·
     subst hme;rw[wO];simp only[emptyS,decide_true,ne_eq,not_true_eq_false,decide_false];generalize (value == 0)=a;generalize inR level 0 3=b;generalize cmpI .gtr level 0=c;generalize zB name=d;cases a <;> cases b <;> cases c <;> cases d <;> rfl
    ·
     have e1:decide (m=emptyS)=false:=decide_eq_false hme;have e3:decide (m=⟨[]⟩)=false:=decide_eq_false hme;have e4:decide (m≠⟨[]⟩)=true:=decide_eq_true hme;rw[e1,e3,e4];generalize (value == 0)=a;generalize inR level 0 3=b;generalize cmpI .gtr level 0=c;generalize zB name=d;generalize zd m=e;cases a <;> cases b <;> cases c <;> cases d <;> cases e <;> rfl
   ·
    have e1:(kind == 1)=false:=by simpa using h1
    simp only[e1,Bool.false_eq_true,if_false];by_cases h3:kind=3
    ·
     subst h3;simp only[beq_self_eq_true,if_true];generalize decide (m=⟨[]⟩)=a;generalize (level == 0)=b;generalize inR value 0 99=c;generalize zB name=d;cases a <;> cases b <;> cases c <;> cases d <;> rfl
    ·
     have e3:(kind == 3)=false:=by simpa using h3
     simp only[e3,Bool.false_eq_true,if_false];by_cases h4:kind=4
     ·
      subst h4;simp only[beq_self_eq_true,if_true];generalize decide (m=⟨[]⟩)=a;generalize (level == 0)=b;generalize (value == 0)=c;generalize zB name=d;cases a <;> cases b <;> cases c <;> cases d <;> rfl
     ·
      have e4:(kind == 4)=false:=by simpa using h4
      simp only[e4,Bool.false_eq_true,if_false];by_cases h5:kind=5
      ·
       subst h5;rfl
      ·
       have e5:(kind == 5)=false:=by simpa using h5
       simp only[e5,Bool.false_eq_true,if_false]
theorem ValidBody_eq{b:List Stmt}(hlen:b.length<=1048576)(h:∀ s∈b,smStmt s):jY b=some (xk b):=by
 unfold jY;have hl:zM (λ s4=>x8 b s4) 0=some (if b.any (λ x=>!zW x)=true then .inr false else .inl ()):=by
  refine qG _ _ _ _ (λ k x hx hlt=>?_) ?_ (by omega) rfl
  ·
   unfold x8;rw[zF,if_pos (decide_eq_true hlt),zT,hx,obS,stmtOk_eq (h x (List.mem_of_getElem? hx)),obS,zU (by omega)];cases zW x <;> rfl
  ·
   unfold x8;rw[zF,if_neg (by simp)]
 rw[hl,obS,XV];unfold xk;cases b.all zW <;> rfl
theorem child_ne{p s:Str}(h:zd (child p s)=true):child p s≠emptyS:=by
 intro e;rw[e,wO] at h;cases h
theorem smFile.shop{f:File}(h:smFile f):sho f.pkg:=by have:=h.1;unfold sho;omega
theorem smFile.midn{f:File}(h:smFile f):mid f.name:=by have:=h.2.1;unfold mid;omega
theorem smFile.child{f:File}(h:smFile f):f.pkg.l.length+f.name.l.length+1<=8388608:=by have:=h.1;have:=h.2.1;omega
theorem fileOk_eq{f:File}(h:smFile f):Zw f=some (xF f):=by
 unfold Zw;rw[JH,obS,Yh h.shop,xU,obS,JH,xU,obS,ValidBody_eq h.2.2.1 h.2.2.2,xU,obS,Xb h.midn,obS,WF h.child,xU,obS];unfold xF;cases inR f.root 0 2 with
 | false=>rfl
 |
  true=>
  cases hp:zt f.pkg with
  | false=>cases inR f.stamp 0 99 <;> rfl
  |
   true=>
   cases inR f.stamp 0 99 with
   | false=>rfl
   |
    true=>
    cases xk f.body with
    | false=>rfl
    |
     true=>
     cases f.init with
     | true=>rfl
     |
      false=>
      show some (zB f.name&&decide ((if(zB f.name == true)=true then YJ f.pkg f.name else default)≠(⟨[]⟩:Str)))=some (zB f.name&&zd (Go.Proofs.YtpmkkijamfgaeaaGreatDoor.child f.pkg f.name));cases hn:zB f.name with
      | false=>rfl
      |
       true=>
       unfold YJ;rw[hp,hn];cases hc:zd (Go.Proofs.YtpmkkijamfgaeaaGreatDoor.child f.pkg f.name) with
       | false=>simp[emptyS]
       |
        true=>
        have:=child_ne hc;simp only[Bool.and_self,if_true,beq_self_eq_true,Bool.true_and];rw[decide_eq_true (show Go.Proofs.YtpmkkijamfgaeaaGreatDoor.child f.pkg f.name≠⟨[]⟩ from this)]
theorem zaf(f g:File):jV f g=some (xp f g):=rfl
theorem J5(f g:File):xp f g=xp g f:=by
 unfold xp;rw[BEq.comm (a:=f.root),BEq.comm (a:=f.init),decide_eq_decide.2 (eq_comm (a:=f.pkg) (b:=g.pkg)),decide_eq_decide.2 (eq_comm (a:=f.name) (b:=g.name))]
theorem sameFile_refl(f:File):xp f f=true:=by simp[xp]
theorem WG{t:Tree}(h:wL t):wk t=some (zw t):=by
 have hlen:=h.1;unfold wk;have hl:zM (λ s4=>wa t s4) 0=some (if(List.range t.files.length).any (λ k=>!W3 t.files k)=true then .inr false else .inl ()):=by
  refine qG (List.range t.files.length) _ _ _ (λ k x hx hlt=>?_) ?_ (by rw[List.length_range];omega) rfl
  ·
   rw[List.length_range] at hlt;rw[List.getElem?_range hlt] at hx;injection hx with hx;subst hx;unfold wa;obtain⟨f,hf⟩:∃ f,t.files[k]?=some f:=⟨_,List.getElem?_eq_getElem hlt⟩;have ht:W3 t.files k=!(!xF f||cmpI .lss (yW t.files f) k):=by unfold W3;rw[hf]
   rw[zF,if_pos (decide_eq_true hlt),zT,hf,obS,fileOk_eq (h.2 _ (List.mem_of_getElem? hf)),obS,JG (by omega),obS,ht];cases xF f with
   | false=>rfl
   |
    true=>
    rw[if_neg (by decide)];have hin:zM (λ s28=>x9 f (t.files.take k) s28) 0=some (if(t.files.take k).any (λ x=>xp f x)=true then .inr (.inr (.inr false)) else .inl ()):=by
     have htl:(t.files.take k).length<=k:=by simp;omega
     refine qG _ _ _ _ (λ j y hy hjt=>?_) ?_ (by omega) rfl
     ·
      unfold x9;rw[zF,if_pos (decide_eq_true hjt),zT,hy,obS,zaf,obS,zU (by omega)];cases xp f y <;> rfl
     ·
      unfold x9;rw[zF,if_neg (by simp)]
    rw[hin];have hfa:cmpI .lss (yW t.files f) k=(t.files.take k).any (λ x=>xp f x):=by
     unfold yW;rw[idxOf_lss (p:=λ x=>xp x f) hf (sameFile_refl _)]
     congr 1
     funext x
     exact J5 _ _
    rw[hfa];cases(t.files.take k).any (λ x=>xp f x) with
    | true=>rfl
    |
     false=>
     rw[if_neg (by decide),obS,Sum.elim_inl,zU (by omega)];rfl
  ·
   unfold wa;rw[List.length_range,zF,if_neg (by simp)]
 rw[hl,obS,XV];unfold zw X1;cases(List.range t.files.length).all (W3 t.files) <;> rfl
theorem fileAt_eq{t:Tree}{f:File}(h:t.files.length<=1048576):qJ t f=some (yW t.files f):=by
 unfold qJ;have hl:zM (λ s4=>jc t f s4) 0=some (match t.files.findIdx? (λ x=>xp x f) with | some i=>(Sum.inr (i:Int):Unit⊕Int) | none=>Sum.inl ()):=by
  refine Ji t.files (λ x=>xp x f) (λ i=>Sum.inr i) _ (λ k x hx hlt=>?_) ?_ (by omega) rfl
  ·
   unfold jc;rw[zF,if_pos (decide_eq_true hlt),zT,hx,obS,zaf,obS,zU (by omega),J5];cases xp x f <;> rfl
  ·
   unfold jc;rw[zF,if_neg (by simp)]
 rw[hl];exact idx_join _ _
theorem XE{t:Tree}(h:zw t=true){f:File}(hf:f∈t.files):xF f=true:=by
 obtain⟨k,hk⟩:=List.getElem?_of_mem hf;unfold zw X1 at h;rw[Bool.and_eq_true] at h;have:=List.all_eq_true.1 h.1 k (List.mem_range.2 (zx hk));unfold W3 at this;rw[hk] at this;simp only at this;cases hv:xF f with
 | true=>rfl
 | false=>rw[hv] at this;cases this
theorem validFile_pkg{f:File}(h:xF f=true):zt f.pkg=true:=by
 unfold xF at h;cases hv:zt f.pkg with
 | true=>rfl
 |
  false=>
  rw[hv,if_pos (by simp)] at h;cases h
theorem hasDir_eq{t:Tree}{r:Int}{p:Str}(h:wL t)(hv:∀ f∈t.files,zt f.pkg=true)(hp:zt p=true)(hpl:p.l.length+1<=8388608):Zx t r p=some (Yt t.files r p):=by
 have hlen:=h.1;unfold Zx;have hl:zM (λ s4=>ja t r p s4) 0=some (if t.files.any (W4 r p)=true then .inr true else .inl ()):=by
  refine qG _ _ _ _ (λ k x hx hlt=>?_) ?_ (by omega) rfl
  ·
   unfold ja;have hm:=List.mem_of_getElem? hx;rw[zF,if_pos (decide_eq_true hlt),zT,hx,obS,IsUnder_eq (h.2 x hm).shop hpl,xU,obS,zU (by omega),hp];unfold W4;have hvx:=hv x hm;unfold zt at hvx;rw[show cmpI .eql x.root r=(x.root == r) from rfl];by_cases he:x.pkg=emptyS
   ·
    rw[he,wO];simp
   ·
    have e1:zd x.pkg=true:=by simpa[he] using hvx
    rw[e1,decide_eq_true (show x.pkg≠emptyS from he)];cases x.root == r <;> cases under x.pkg p <;> rfl
  ·
   unfold ja;rw[zF,if_neg (by simp)]
 rw[hl,obS];unfold Yt emptyS;cases t.files.any (W4 r p) <;> rfl
theorem WH{l:List Int}(h:l.length<=1048576):wl l=some (yR l):=by
 unfold wl;have hl:zM (λ s4=>wc l s4) 0=some (if(List.range l.length).any (λ k=>!Qm l k)=true then .inr false else .inl ()):=by
  refine qG (List.range l.length) _ _ _ (λ k x hx hlt=>?_) ?_ (by rw[List.length_range];omega) rfl
  ·
   rw[List.length_range] at hlt;rw[List.getElem?_range hlt] at hx;injection hx with hx;subst hx;unfold wc;obtain⟨n,hf⟩:∃ n,l[k]?=some n:=⟨_,List.getElem?_eq_getElem hlt⟩;have htl:(l.take k).length<=1152921504606846:=by simp;omega
   have ht:Qm l k=!(!inR n 0 2||(l.take k).any (λ x=>n == x)):=by
    unfold Qm;rw[hf];simp only;unfold intAt;rw[Wj,show(λ x=>x == n)=(λ x=>n == x) from by funext x;exact BEq.comm]
   rw[zF,if_pos (decide_eq_true hlt),zT,hf,obS,JH,obS,JG (by omega),xU,obS,ht,zU (by omega)];cases inR n 0 2 with
   | false=>rfl
   |
    true=>
    simp only[Bool.not_true,beq_self_eq_true,if_true];rw[ContainsI_eq htl,xU,obS];cases(l.take k).any (λ x=>n == x) <;> rfl
  ·
   unfold wc;rw[List.length_range,zF,if_neg (by simp)]
 rw[hl,obS,XV];unfold yR W5;cases(List.range l.length).all (Qm l) <;> rfl
structure Good(t:Tree):Prop where
 sm:wL t
 ok:zw t=true
theorem Good.pkg{t:Tree}(h:Good t):∀ f∈t.files,zt f.pkg=true:=λ _ hf=>validFile_pkg (XE h.ok hf)
theorem Good.len{t:Tree}(h:Good t):t.files.length<=1048576:=h.sm.1
theorem YK{s:Str}(h:zB s=true):1<=s.l.length/\s.l.length<=3:=by
 unfold zB inR at h;simp[cmpI] at h;omega
theorem lenSum_le(l:List Str)(h:∀ x∈l,x.l.length<=3):wK l<=4*l.length:=by
 induction l with
 | nil=>exact Nat.le_refl _
 |
  cons x l ih=>
  have h1:=h x (by simp);have h2:=ih λ y hy=>h y (by simp[hy])
  unfold wK at h2 ⊢;simp only[List.map_cons,List.sum_cons,List.length_cons];omega
theorem yX{s:Str}(h:zd s=true):s.l.length<=11:=by
 unfold zd at h;rw[Bool.and_eq_true] at h;have h1:=lenSum_le (zg s dot) λ x hx=>(YK (List.all_eq_true.1 h.1 x hx)).2
 rw[ZO] at h1;have h2:=h.2;simp[cmpI] at h2;omega
theorem yJ{s:Str}(h:zt s=true):s.l.length<=11:=by
 unfold zt at h;rw[Bool.or_eq_true] at h;rcases h with h | h
 ·
  rw[oD h];exact Nat.zero_le _
 ·
  exact yX h
def Wk:List (List UInt8)->List UInt8
 | []=>[]
 | [a]=>a
 | a::b::l=>a++46::Wk (b::l)
theorem J6:∀ (l:List Str) (acc:List UInt8),(l.foldl YQ (⟨acc⟩,true)).1=⟨acc++(l.map λ x=>46::x.l).flatten⟩
 | [],acc=>by simp
 |
  x::l,acc=>by
  rw[List.foldl_cons];show(l.foldl YQ (⟨(acc++[46])++x.l⟩,true)).1=_;rw[J6 l];simp
theorem Qx(a:List UInt8)(l:List (List UInt8)):Wk (a::l)=a++(l.map λ x=>46::x).flatten:=by
 induction l generalizing a with
 | nil=>simp[Wk]
 | cons b l ih=>rw[Wk,ih];simp
theorem Qy(l:List Str):join l=⟨Wk (l.map (·.l))⟩:=by
 cases l with
 | nil=>rfl
 |
  cons x l=>
  unfold join Zm;rw[List.foldl_cons];show(l.foldl YQ (⟨[]++x.l⟩,true)).1=_;rw[J6,List.map_cons,Qx];simp[List.map_map,Function.comp_def]
theorem cutF_pre(c:UInt8):∀ (a l:List UInt8),c ∉ a->cutF c (a++c::l)=a::cutF c l
 | [],l,_=>by simp[cutF]
 |
  b::a,l,h=>by
  have hb:(b == c)=false:=by
   have:b≠c:=λ e=>h (by simp[e])
   simpa using this
  rw[List.cons_append,Yy,hb,cutF_pre c a l (λ e=>h (by simp[e]))];rfl
theorem zag(c:UInt8):∀ (a:List UInt8),c ∉ a->cutF c a=[a]
 | [],_=>rfl
 |
  b::a,h=>by
  have hb:(b == c)=false:=by
   have:b≠c:=λ e=>h (by simp[e])
   simpa using this
  rw[Yy,hb,zag c a (λ e=>h (by simp[e]))];rfl
theorem zb0:∀ (l:List (List UInt8)),l≠[]->(∀ x∈l,(46:UInt8) ∉ x)->cutF 46 (Wk l)=l
 | [],h,_=>absurd rfl h
 | [a],_,h=>zag 46 a (h a (by simp))
 |
  a::b::l,_,h=>by
  rw[Wk,cutF_pre 46 a _ (h a (by simp)),zb0 (b::l) (by simp) λ x hx=>h x (by simp[hx])]
theorem Qz:∀ (l:List UInt8),Wk (cutF 46 l)=l
 | []=>rfl
 |
  b::l=>by
  rw[Yy];cases hb:b == 46 with
  |
   true=>
   have ih:=Qz l;have hb:=eq_of_beq hb;rw[if_pos rfl];cases hc:cutF 46 l with
   | nil=>exact absurd hc (ZL 46 l)
   | cons h t=>rw[Wk,← hc,ih,hb];rfl
  |
   false=>
   have ih:=Qz l;rw[if_neg (by decide)];cases hc:cutF 46 l with
   | nil=>exact absurd hc (ZL 46 l)
   |
    cons h t=>
    rw[hc] at ih;show Wk ((b::h)::t)=b::l;rw[Qx] at ih ⊢;rw[← ih];rfl
theorem qq(s:Str):join (zg s dot)=s:=by
 rw[Qy,wU,List.map_map];show(⟨Wk ((cutF 46 s.l).map λ x=>x)⟩:Str)=s;rw[List.map_id',Qz]
theorem low_ne{b:UInt8}(h:low b=true):b≠46:=by
 intro e;subst e;revert h;decide
theorem X6{s:Str}(h:zB s=true):(46:UInt8) ∉ s.l:=by
 unfold zB at h;rw[Bool.and_eq_true] at h;intro hm;exact low_ne (List.all_eq_true.1 h.2 _ hm) rfl
theorem Yz{l:List Str}(hne:l≠[])(h:∀ x∈l,zB x=true):zg (join l) dot=l:=by
 rw[Qy,wU];show(cutF 46 (Wk (l.map (·.l)))).map Str.mk=l;rw[zb0 _ (by simpa using hne) (by
  intro x hx;obtain⟨y,hy,rfl⟩:=List.mem_map.1 hx;exact X6 (h y hy)),List.map_map]
 show l.map (λ x=>x)=l;exact List.map_id' l
theorem WI{l:List Str}(hne:l≠[])(hlen:l.length<=3)(h:∀ x∈l,zB x=true):zd (join l)=true:=by
 unfold zd;rw[Yz hne h,Bool.and_eq_true];exact⟨List.all_eq_true.2 h,by simp[cmpI];omega⟩
theorem yj{s:Str}(h:zd s=true):(∀ x∈zg s dot,zB x=true)/\(zg s dot).length<=3:=by
 unfold zd at h;rw[Bool.and_eq_true] at h;have:=h.2;simp[cmpI] at this;exact⟨List.all_eq_true.1 h.1,by omega⟩
theorem pre_valid{s:Str}(h:zd s=true)(k:Nat):zt (join ((zg s dot).take k))=true:=by
 obtain⟨h1,h2⟩:=yj h;unfold zt;cases k with
 | zero=>rfl
 |
  succ k=>
  have hne:=Xt s dot;rw[WI (by intro e;have:=congrArg List.length e;simp at this;rw[this] at hne;simp at hne) (by simp;omega) λ x hx=>h1 x (List.mem_of_mem_take hx),Bool.or_true]
theorem zb1{s:Str}(h:zd s=true)(k:Nat):zd (join ((zg s dot).take (k+1)))=true:=by
 obtain⟨h1,h2⟩:=yj h;have hne:=Xt s dot;exact WI (by intro e;have:=congrArg List.length e;simp at this;rw[this] at hne;simp at hne) (by simp;omega) λ x hx=>h1 x (List.mem_of_mem_take hx)
theorem zb2{l:List Str}{k:Nat}{x:Str}(hx:l[k]?=some x)(h:∀ x∈l,zB x=true):join (l.take (k+1))=child (join (l.take k)) x:=by
 have hk:=zx hx;unfold join;cases k with
 |
  zero=>
  rw[Jx hx rfl];rfl
 |
  succ k=>
  rw[QW hx (by simp[cmpI])];unfold child;rw[if_neg];intro e;have hne:l.take (k+1)≠[]:=by intro e;have:=congrArg List.length e;simp at this;subst this;simp at hk
  have hs:=Yz hne λ y hy=>h y (List.mem_of_mem_take hy)
  unfold join at hs;rw[e] at hs;have h0:zB emptyS=true:=h _ (List.mem_of_mem_take (by rw[← hs];simp[zg,xd,emptyS]));exact absurd h0 (by decide)
def okKind(s:Spec):Prop:=s.kind=0\/s.kind=1\/s.kind=2\/s.kind=3
theorem WJ(t:List File)(p s:Str):∀ (rs acc:List Int),okKind (yT t p s acc rs)
 |
  [],acc=>by
  unfold yT;split
  ·
   exact .inr (.inr (.inr rfl))
  ·
   exact .inl rfl
 |
  r::rs,acc=>by
  unfold yT;split
  ·
   exact .inr (.inr (.inl rfl))
  ·
   split
   ·
    exact .inr (.inl rfl)
   ·
    exact WJ t p s rs _
theorem dir_of_init{t:List File}{r:Int}{c:Str}(hc:c≠emptyS)(h:cmpI .geq (yW t ⟨r,c,⟨[]⟩,true,0,[]⟩) 0=true):Yt t r c=true:=by
 unfold yW at h;rw[Wj,List.any_eq_true] at h;obtain⟨f,hf,hs⟩:=h;unfold xp at hs;simp only[Bool.and_eq_true,beq_iff_eq,decide_eq_true_eq] at hs;obtain⟨⟨⟨h1,h2⟩,_⟩,_⟩:=hs;unfold Yt;rw[Bool.or_eq_true,List.any_eq_true];refine .inl ⟨f,hf,?_⟩;unfold W4 under;simp[h1,h2,hc]
theorem find_eq{t:Tree}(ht:Good t){roots:List Int}(hr:roots.length<=1048576){p s:Str}(hp:zt p=true)(hs:zB s=true)(hc:zd (child p s)=true):qZ t roots p s=some (wx t.files roots p s):=by
 have hpl:=yJ hp;have hsl:=(YK hs).2;have hcl:=yX hc;have hne:=child_ne hc;have hcp:zt (child p s)=true:=by unfold zt;rw[hc,Bool.or_true]
 have he:YJ p s=child p s:=by unfold YJ;rw[hp,hs,hc];rfl
 unfold qZ;rw[WF (by omega),he,obS,if_neg (by simp only[decide_eq_true_eq];exact hne)];have hl:zM (λ s16=>jh t roots p s (child p s) s16) (Y4,[],(0:Int))=some (runL (λ _ (acc:List Int) r=>
   if cmpI .geq (yW t.files ⟨r,child p s,⟨[]⟩,true,0,[]⟩) 0=true then .inr (Sum.inr (⟨2,yW t.files ⟨r,child p s,⟨[]⟩,true,0,[]⟩,[r]⟩:Spec))
   else if cmpI .geq (yW t.files ⟨r,p,s,false,0,[]⟩) 0=true then .inr (Sum.inr (⟨1,yW t.files ⟨r,p,s,false,0,[]⟩,[]⟩:Spec))
   else .inl (if Yt t.files r (child p s)=true then acc++[r] else acc)) (λ acc=>Sum.inl (Y4,acc)) 0 [] roots):=by
  refine Jh (σ:=List Int) roots (λ acc k=>(Y4,acc,(k:Int))) _ _ (λ k acc=>acc.length<=k) (λ k acc r hx hlt hi=>?_) (λ acc _=>?_) (Nat.le_refl 0) (by omega)
  ·
   have hst:jh t roots p s (child p s) (Y4,acc,(k:Int))=(if cmpI .geq (yW t.files ⟨r,child p s,⟨[]⟩,true,0,[]⟩) 0=true then some (.inr (.inr (⟨2,yW t.files ⟨r,child p s,⟨[]⟩,true,0,[]⟩,[r]⟩:Spec)))
     else if cmpI .geq (yW t.files ⟨r,p,s,false,0,[]⟩) 0=true then some (.inr (.inr (⟨1,yW t.files ⟨r,p,s,false,0,[]⟩,[]⟩:Spec)))
     else some (.inl (Y4,(if Yt t.files r (child p s)=true then acc++[r] else acc),((k+1:Nat):Int)))):=by
    unfold jh;simp only;rw[zF,if_pos (decide_eq_true hlt),zT,hx,obS,obS,fileAt_eq ht.len,obS,Bool.true_and,fileAt_eq ht.len,obS,Bool.true_and,hasDir_eq ht.sm ht.pkg hcp (by omega),zU (by omega)];rw[xU,obS,yF (by simp;omega) (by simp;omega)];generalize cmpI .geq (yW t.files ⟨r,child p s,⟨[]⟩,true,0,[]⟩) 0=b1;generalize cmpI .geq (yW t.files ⟨r,p,s,false,0,[]⟩) 0=b2;generalize Yt t.files r (child p s)=b3;cases b1 <;> cases b2 <;> cases b3 <;> rfl
   cases h1:cmpI .geq (yW t.files ⟨r,child p s,⟨[]⟩,true,0,[]⟩) 0 with
   | true=>rw[h1] at hst;exact hst
   |
    false=>
    rw[h1] at hst;rw[if_neg (by decide)] at hst ⊢;cases h2:cmpI .geq (yW t.files ⟨r,p,s,false,0,[]⟩) 0 with
    | true=>rw[h2] at hst;exact hst
    |
     false=>
     rw[h2] at hst;rw[if_neg (by decide)] at hst ⊢;refine⟨hst,?_⟩;split
     ·
      simp;omega
     ·
      omega
  ·
   unfold jh;simp only;rw[zF,if_neg (by simp)]
 rw[hl,obS];unfold wx;have key:∀ (rs:List Int) (k:Nat) (acc:List Int),Sum.elim (λ b14:Spec×List Int=>if(cmpI .gtr (b14.2.length:Int) (0:Int))=true then(some (⟨(3:Int),(-1:Int),b14.2⟩:Spec)) else((wy).bind λ v75=>some v75)) some (runL (λ _ (acc:List Int) r=>
   if cmpI .geq (yW t.files ⟨r,child p s,⟨[]⟩,true,0,[]⟩) 0=true then .inr (Sum.inr (⟨2,yW t.files ⟨r,child p s,⟨[]⟩,true,0,[]⟩,[r]⟩:Spec))
   else if cmpI .geq (yW t.files ⟨r,p,s,false,0,[]⟩) 0=true then .inr (Sum.inr (⟨1,yW t.files ⟨r,p,s,false,0,[]⟩,[]⟩:Spec))
   else .inl (if Yt t.files r (child p s)=true then acc++[r] else acc)) (λ acc=>Sum.inl (Y4,acc)) k acc rs)=some (yT t.files p s acc rs):=by
  intro rs
  induction rs with
  |
   nil=>
   intro k acc;unfold yT;simp only[runL,Sum.elim_inl];split <;> rfl
  |
   cons r rs ih=>
   intro k acc;unfold yT;rw[runL];cases h1:cmpI .geq (yW t.files ⟨r,child p s,⟨[]⟩,true,0,[]⟩) 0 with
   | true=>rw[dir_of_init hne h1];rfl
   |
    false=>
    rw[Bool.and_false];cases h2:cmpI .geq (yW t.files ⟨r,p,s,false,0,[]⟩) 0 with
    | true=>rfl
    | false=>exact ih _ _
 exact key roots 0 []
theorem kind_two{s:Spec}(h:okKind s):(cmpI .eql s.kind 0||cmpI .eql s.kind 1)=(cmpI .neq s.kind 2&&cmpI .neq s.kind 3):=by
 rcases h with h | h | h | h <;> rw[h] <;> rfl
theorem findName_eq{t:Tree}(ht:Good t){path:List Int}(hp:path.length<=1048576){n:Str}(hn:zd n=true):qv t path n=some (find t.files path n):=by
 have hnl:=yX hn;obtain⟨hparts,hlen⟩:=yj hn;unfold qv;rw[Qw (by unfold sho;omega),hn,if_pos rfl,obS];have hl:zM (λ s11=>xA t (zg n dot) s11) (Y4,(⟨(3:Int),(-1:Int),path⟩:Spec),(⟨[]⟩:Str),(0:Int))=some (runL (λ k (out:Spec) x=>
   if(cmpI .neq out.kind 2&&cmpI .neq out.kind 3)=true then .inr (Sum.inr ZP) else .inl (wx t.files out.roots (join ((zg n dot).take k)) x)) (λ out=>Sum.inl (Y4,out)) 0 ⟨3,-1,path⟩ (zg n dot)):=by
  refine Jh (σ:=Spec) (zg n dot) (λ out k=>(Y4,out,join ((zg n dot).take k),(k:Int))) _ _ (λ k out=>out.roots.length<=path.length/\okKind out) (λ k out x hx hlt hi=>?_) (λ out _=>?_) ⟨Nat.le_refl _,.inr (.inr (.inr rfl))⟩ (by omega)
  ·
   have hpre:=pre_valid hn k;have hxv:=hparts x (List.mem_of_getElem? hx);have hch:=zb2 hx hparts;have hcv:=zb1 hn k;rw[hch] at hcv;have hst:xA t (zg n dot) (Y4,out,join ((zg n dot).take k),(k:Int))=(if(cmpI .neq out.kind 2&&cmpI .neq out.kind 3)=true then some (.inr (.inr ZP)) else some (.inl (Y4,wx t.files out.roots (join ((zg n dot).take k)) x,join ((zg n dot).take (k+1)),((k+1:Nat):Int)))):=by
    unfold xA;simp only;have hlp:=yJ hpre;have hlx:=(YK hxv).2;have he:YJ (join ((zg n dot).take k)) x=child (join ((zg n dot).take k)) x:=by unfold YJ;rw[hpre,hxv,hcv];rfl
    rw[zF,if_pos (decide_eq_true hlt),zT,hx,obS,kind_two hi.2,find_eq ht (by omega) hpre hxv hcv,obS,WF (by omega),obS,he,zU (by omega),obS,hch];rfl
   rw[hst];cases hk:(cmpI .neq out.kind 2&&cmpI .neq out.kind 3) with
   | true=>rfl
   |
    false=>
    refine⟨rfl,?_,WJ _ _ _ _ _⟩;have:=XS t.files (join ((zg n dot).take k)) x out.roots [];unfold wx;simp only[List.length_nil] at this;omega
  ·
   unfold xA;simp only;rw[zF,if_neg (by simp)]
 rw[hl,obS];unfold find;have key:∀ (xs:List Str) (k:Nat) (out:Spec),Sum.elim (λ b7:Spec×Spec=>some b7.2) some (runL (λ k (out:Spec) x=>
   if(cmpI .neq out.kind 2&&cmpI .neq out.kind 3)=true then .inr (Sum.inr ZP) else .inl (wx t.files out.roots (join ((zg n dot).take k)) x)) (λ out=>Sum.inl (Y4,out)) k out xs)=some (xq t.files (zg n dot) k out xs):=by
  intro xs
  induction xs with
  | nil=>intro k out;rfl
  |
   cons x xs ih=>
   intro k out;rw[runL];unfold xq;cases(cmpI .neq out.kind 2&&cmpI .neq out.kind 3) with
   | true=>rfl
   | false=>exact ih _ _
 exact key _ 0 _
def QA(t:Tree)(path:List Int)(n:Str):Spec:=if(zw t&&yR path&&zd n)=true then find t.files path n else ZP
theorem Jk{t:Tree}(ht:wL t){path:List Int}(hp:path.length<=1048576){n:Str}(hn:sho n):xx t path n=some (QA t path n):=by
 unfold xx;rw[WG ht,obS,WH hp,xU,obS,xa hn,xU,obS];unfold QA;cases hv:zw t with
 | false=>rfl
 |
  true=>
  cases yR path with
  | false=>rfl
  |
   true=>
   cases hnn:zd n with
   | false=>rfl
   |
    true=>
    rw[findName_eq ⟨ht,hv⟩ hp hnn];rfl
theorem CanFind_eq{t:Tree}(ht:wL t){path:List Int}(hp:path.length<=1048576){n:Str}(hn:sho n):q5 t path n=some (cmpI .neq (QA t path n).kind 0):=by
 unfold q5;rw[Jk ht hp hn,obS]
theorem zbj(c:UInt8):∀ (a l:List UInt8),cutF c (a++c::l)=cutF c a++cutF c l
 | [],l=>by simp[cutF]
 |
  b::a,l=>by
  rw[List.cons_append,Yy,zbj c a l,Yy];cases b == c with
  | true=>rfl
  |
   false=>
   rw[if_neg (by decide),if_neg (by decide)];cases hc:cutF c a with
   | nil=>exact absurd hc (ZL c a)
   | cons h t=>rfl
theorem split_append(p s:Str):zg ⟨(p.l++[46])++s.l⟩ dot=zg p dot++zg s dot:=by
 rw[wU,wU,wU,← List.map_append];show(cutF 46 ((p.l++[46])++s.l)).map Str.mk=(cutF 46 p.l++cutF 46 s.l).map Str.mk;rw[List.append_assoc,List.singleton_append,zbj]
theorem QB(s:Str):s∈yK s:=by
 unfold yK jU;have hne:=Xt s dot;refine List.mem_map.2 ⟨(zg s dot).length - 1,List.mem_range.2 (by omega),?_⟩;rw[show(zg s dot).length - 1+1=(zg s dot).length by omega,List.take_length,qq]
theorem J7{t:List File}{list:List Str}:∀ (xs:List Str) (k:Nat) (out:Spec) (x:Str),xq t list k out (xs++[x])=ZP\/∃ r,xq t list k out (xs++[x])=wx t r (join (list.take (k+xs.length))) x
 |
  [],k,out,x=>by
  rw[List.nil_append];unfold xq xq;split
  ·
   exact .inl rfl
  ·
   exact .inr ⟨_,rfl⟩
 |
  y::xs,k,out,x=>by
  rw[List.cons_append];unfold xq;split
  ·
   exact .inl rfl
  ·
   have:=J7 (t:=t) (list:=list) xs (k+1) (wx t out.roots (join (list.take k)) y) x;rwa[show k+1+xs.length=k+(y::xs).length by simp;omega] at this
theorem find_last{t:List File}{path:List Int}{n:Str}(hn:zd n=true):find t path n=ZP\/∃ r p s,find t path n=wx t r p s/\child p s=n:=by
 obtain⟨hparts,_⟩:=yj hn;have hne:=Xt n dot;obtain⟨xs,x,hxs⟩:∃ xs x,zg n dot=xs++[x]:=by
  have h0:zg n dot≠[]:=by intro e;rw[e] at hne;simp at hne
  exact⟨_,_,(List.dropLast_concat_getLast h0).symm⟩
 unfold find;have hg:(zg n dot)[xs.length]?=some x:=by rw[hxs];simp
 have hj:=zb2 hg hparts;rw[show xs.length+1=(zg n dot).length by rw[hxs];simp,List.take_length,qq] at hj;have:=J7 (t:=t) (list:=zg n dot) xs 0 ⟨3,-1,path⟩ x;rw[← hxs,Nat.zero_add] at this;rcases this with h | ⟨r,h⟩
 ·
  exact .inl h
 ·
  exact .inr ⟨r,_,_,h,hj.symm⟩
def Asc(l:List Str):Prop:=l.Pairwise λ x y=>x.l<y.l
theorem zbk{a b:List UInt8}(h:a<=b)(hne:a≠b):a<b:=by
 rcases Decidable.em (a<b) with h' | h'
 ·
  exact h'
 ·
  exact absurd (List.le_antisymm h (List.not_lt.1 h')) hne
theorem zah(d:Array (List UInt8))(hd:∀ i j,i<=j->j<d.size->d[i]! <= d[j]!):∀ m,m<=d.size->
  (Lib.compactUpTo d m).Pairwise (·<·)/\(∀ x,x∈Lib.compactUpTo d m ↔ ∃ j,j<m/\d[j]! = x)
 | 0,_=>⟨by simp[Lib.compactUpTo],λ x=>by simp[Lib.compactUpTo]⟩
 |
  m+1,hm=>by
  obtain⟨h1,h2⟩:=zah d hd m (by omega);rw[Lib.compactUpTo_succ];cases hk:Lib.keeps d m with
  |
   true=>
   rw[if_pos rfl];refine⟨List.pairwise_append.2 ⟨h1,by simp,λ a ha b hb=>?_⟩,λ x=>?_⟩
   ·
    rw[List.mem_singleton] at hb;subst hb;obtain⟨j,hj,rfl⟩:=(h2 a).1 ha;have hk':m=0\/d[m]! ≠ d[m - 1]! := oD hk;rcases hk' with e | e
    ·
     omega
    ·
     have hlt:=zbk (hd (m - 1) m (by omega) (by omega)) (Ne.symm e);rcases Decidable.em (d[j]! = d[m - 1]!) with e2 | e2
     ·
      rw[e2];exact hlt
     ·
      exact List.lt_trans (zbk (hd j (m - 1) (by omega) (by omega)) e2) hlt
   ·
    rw[List.mem_append,h2,List.mem_singleton];constructor
    ·
     rintro (⟨j,hj,h⟩ | h)
     ·
      exact⟨j,by omega,h⟩
     ·
      exact⟨m,by omega,h.symm⟩
    ·
     rintro ⟨j,hj,h⟩
     by_cases hjm:j=m
     ·
      subst hjm;exact .inr h.symm
     ·
      exact .inl ⟨j,by omega,h⟩
  |
   false=>
   rw[if_neg (by decide),List.append_nil];refine⟨h1,λ x=>?_⟩;rw[h2];have hk':¬ (m=0\/d[m]! ≠ d[m - 1]!):=of_decide_eq_false hk;constructor
   ·
    rintro ⟨j,hj,h⟩;exact⟨j,by omega,h⟩
   ·
    rintro ⟨j,hj,h⟩
    by_cases hjm:j=m
    ·
     subst hjm;refine⟨j - 1,by omega,?_⟩;rw[← h];exact(Decidable.byContradiction λ e=>hk' (.inr (Ne.symm e)))
    ·
     exact⟨j,by omega,h⟩
def XW(xs:List Str):List Str:=qU (Wc xs)
theorem le_dec_trans(a b c:List UInt8)(h1:decide (a<=b)=true)(h2:decide (b<=c)=true):decide (a<=c)=true:=
 decide_eq_true (List.le_trans (oD h1) (oD h2))
theorem le_dec_total(a b:List UInt8):(decide (a<=b)||decide (b<=a))=true:=by
 rcases List.le_total a b with h | h <;> simp[h]
theorem zai(xs:List Str):Asc (XW xs)/\∀ x,x∈XW xs ↔ x∈xs:=by
 have hs:=List.pairwise_mergeSort (le:=λ x y:List UInt8=>decide (x<=y)) le_dec_trans le_dec_total (xs.map (·.l));have hm:∀ y,y∈(xs.map (·.l)).mergeSort (λ x y=>decide (x<=y)) ↔ y∈xs.map (·.l):=λ y=>List.mem_mergeSort
 unfold XW qU;rw[sortS_l];generalize (xs.map (·.l)).mergeSort (λ x y=>decide (x<=y))=zs at hs hm;have hd:∀ i j,i<=j->j<zs.toArray.size->zs.toArray[i]! <= zs.toArray[j]! := by
  intro i j hij hj;have hj':j<zs.length:=by simpa using hj
  by_cases e:i=j
  ·
   subst e;exact List.le_refl _
  ·
   have:=List.pairwise_iff_getElem.1 hs i j (by omega) hj' (by omega);simpa[getElem!_pos,hj',show i<zs.length by omega] using this
 obtain⟨h1,h2⟩:=zah zs.toArray hd zs.length (by simp);refine⟨?_,λ x=>?_⟩
 ·
  unfold Asc Lib.compact;rw[List.pairwise_map];exact h1
 ·
  have hmem:∀ y,y∈Lib.compact zs ↔ y∈xs.map (·.l):=by
   intro y;rw[← hm];unfold Lib.compact;rw[h2];constructor
   ·
    rintro ⟨j,hj,rfl⟩
    rw[show zs.toArray[j]! = zs[j] from by simp[getElem!_pos,hj]];exact List.getElem_mem hj
   ·
    intro hy;obtain⟨j,hj,rfl⟩:=List.mem_iff_getElem.1 hy;exact⟨j,hj,by simp[getElem!_pos,hj]⟩
  rw[List.mem_map];constructor
  ·
   rintro ⟨y,hy,rfl⟩
   obtain⟨z,hz,rfl⟩:=List.mem_map.1 ((hmem y).1 hy);exact hz
  ·
   intro hx;exact⟨x.l,(hmem _).2 (List.mem_map.2 ⟨x,hx,rfl⟩),rfl⟩
theorem zbl(xs:List Str):(XW xs).length<=xs.length:=by
 unfold XW qU;rw[List.length_map,sortS_l];refine Nat.le_trans (Lib.compact_length_le _) ?_;simp
theorem sorted_eq{xs:List Str}(h:xs.length<=1099511627776):Zy xs=some (XW xs):=by
 have h2:=zbl xs;unfold Zy xJ;rw[if_pos (by omega),obS];unfold y7;rw[if_pos (by rw[zaJ];omega),obS];show(appO 16 [] (XW xs)).bind (λ v11=>some v11)=_;rw[yF (by simp;omega) (by simp;omega)];rfl
section
variable{S β:Type}
theorem zaX{step:S->Option (S⊕β)}(n:Nat)(mk:Nat->S){b:β}(h:∀ k,k<n->step (mk k)=some (.inl (mk (k+1))))(hend:step (mk n)=some (.inr b))(hn:n<576460752303423488){s:S}(hs:s=mk 0):zM step s=some b:=by
 subst hs;have key:∀ m k,k+m=n->jL step (m+1) (mk k)=some b:=by
  intro m
  induction m with
  | zero=>intro k hk;rw[show k=n by omega];exact xo hend
  | succ m ih=>intro k hk;rw[qK (h k (by omega))];exact ih (k+1) (by omega)
 exact qF (key n 0 (by omega)) (by omega)
end
theorem get_some{α:Type}{l:List α}{k:Nat}(h:k<l.length):∃ x,l[k]?=some x/\x∈l:=⟨l[k],List.getElem?_eq_getElem h,List.getElem_mem h⟩
theorem libJoin(l:List (List UInt8)):Lib.join l [46]=Wk l:=by
 cases l with
 | nil=>rfl
 |
  cons a l=>
  rw[Qx];rw[Lib.join_cons];rfl
theorem NamesAbove_eq{s:Str}(hs:sho s):xS s=some (if zd s=true then yK s else[]):=by
 unfold xS;rw[Qw hs,obS];cases hv:zd s with
 |
  false=>
  rw[if_neg (by decide),if_neg (by decide),show zM (λ s7=>yA s [] s7) ([],(0:Int))=some [] from zaX (b:=[]) 0 (λ k=>(([]:List Str),(k:Int))) (λ k hk=>absurd hk (by omega)) (by unfold yA;simp only;rw[if_neg (by decide)]) (by omega) rfl];rfl
 |
  true=>
  obtain⟨hparts,hlen⟩:=yj hv;have hnl:=yX hv;have hl:zM (λ s7=>yA s (zg s dot) s7) ([],(0:Int))=some (yK s):=by
   refine zaX (b:=yK s) (zg s dot).length (λ k=>(jU (zg s dot) k,(k:Int))) (λ k hk=>?_) (by unfold yA;simp only;rw[zF,if_neg (by simp)];rfl) (by omega) rfl;unfold yA;simp only;have hj:qV ((zg s dot).take (k+1)) (⟨[46]⟩:Str)=some (join ((zg s dot).take (k+1))):=by
    have hb:=join_le (zg s dot) (k+1);rw[ZO] at hb;have e:(⟨Lib.join (((zg s dot).take (k+1)).map (·.l)) [46]⟩:Str)=join ((zg s dot).take (k+1)):=by rw[libJoin,Qy]
    unfold qV;rw[if_pos ⟨by simp;omega,by
     have:=congrArg (λ x:Str=>x.l.length) e;simp only at this;rw[this];omega⟩]
    exact congrArg some e
   rw[zF,if_pos (decide_eq_true hk),Qw hs,hv,if_pos rfl,obS,zU (by omega),obS,JG (by omega),obS,hj,obS,yF (by simp[Y6];omega) (by simp[Y6];omega),obS,obS,YD]
  rw[if_pos rfl,if_pos rfl,hl];rfl
theorem J8{t:Tree}(h:zw t=true):t.files.length<=12:=by
 unfold zw at h;rw[Bool.and_eq_true] at h;have:=h.2;simp[cmpI] at this;omega
theorem above_len(s:Str):(yK s).length=(zg s dot).length:=Y6 _ _
theorem zbm{s x:Str}(h:zd s=true)(hx:x∈yK s):zd x=true:=by
 unfold yK jU at hx;obtain⟨i,_,rfl⟩:=List.mem_map.1 hx;exact zb1 h i
theorem xt{x:Str}(h:zd x=true):sho x:=by have:=yX h;unfold sho;omega
theorem atI_file{l:List File}{n:Int}(h0:0<=n)(h:n<l.length):atI l n=some ((l[n.toNat]?).getD default):=by
 unfold atI;rw[if_pos h0];exact get_def h0 h
open Go.RowKit
def Okd{α:Type}[Rep α](x:α):Prop:=∃ M w cs,Rep.rdc M w cs x
section
variable{α β:Type}[Rep α][Rep β]
theorem Okd.fld{get:α->β}{off:Nat}(f:Fld get off){x:α}(h:Okd x):Okd (get x):=by
 obtain⟨M,w,cs,hr⟩:=h;obtain⟨c,_,h2⟩:=f.sub hr;exact⟨M,w,c,h2⟩
theorem Okd.len{xs:List α}(h:Okd xs):xs.length<=9223372036854775807:=by
 obtain⟨M,w,cs,A,c,_,h1,h2,_⟩:=h;exact Nat.le_trans h1 h2
theorem rowR_okd{M:Nat->Prop}{w:World}:∀ {cells:List Value} {xs:List α},rowR M w cells xs->∀ x∈xs,Okd x
 | _,_::_,⟨c,_r,_,h1,h2⟩,x,hx=>(List.mem_cons.1 hx).elim (λ e=>e ▸ ⟨M,w,c,h1⟩) (rowR_okd h2 x)
theorem Okd.mem{xs:List α}(h:Okd xs){x:α}(hx:x∈xs):Okd x:=by
 obtain⟨M,w,cs,A,c,_,_,_,h3⟩:=h;rcases h3 with h3 | ⟨b,o,cells,_,_,_,hr⟩
 ·
  rw[h3] at hx;cases hx
 ·
  exact rowR_okd hr x hx
end
section
variable{α β σ S:Type}
end
open Go.RowKit
section
variable{α:Type}
variable{q:Prop}[Decidable q]{K:Option Bool}
end
theorem i64_in{n:Int}(h1:0<=n)(h2:n<=4611686018427387904):i64 n=some n:=wC (by omega) (by omega)
theorem modO_of{m n:Int}(h:n≠0):modO m n=some (m.tmod n):=if_neg h
theorem divO_of{m n:Int}(h:n≠0)(h2:0<=m.tdiv n)(h3:m.tdiv n<=9223372036854775807):divO m n=some (m.tdiv n):=if_neg (by omega)
end Go.Proofs.YtpmkkijamfgaeaaGreatDoor
