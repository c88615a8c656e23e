import Derived.Test.YtifgdhfcoaognaaGreatDoorTFb
import Derived.Test.YtifgdhfcoaognaaGreatDoorTB
import Derived.Test.YtifgdhfcoaognaaGreatDoorTG
namespace Go.Proofs.YtifgdhfcoaognaaGreatDoor
variable{r:Int}{path roots xs:List Int}{b:List Stmt}{l m:List Str}{a:List UInt8}{k off:Nat}{K:Option Bool}{q:Prop}{p s x:Str}{t:Tree}{c:UInt8}
section
variable{α β σ S:Type}
theorem zL(xs:List α)(k:Nat):atI xs (k:Int)=xs[k]?:=by simp[atI]
theorem xx{n:Int}(h1:-9223372036854775808<=n)(h2:n<=9223372036854775807):i64 n=some n:=Ke ⟨h1,h2⟩
theorem zS(h:k<4611686018427387904):i64 ((k:Int)+1)=some ((k+1:Nat):Int):=by rw[xx (by omega) (by omega)];rfl
theorem xA[Inhabited α](g:Bool)(x:α):gO g (some x)=some (if g=true then x else default):=by unfold gO;split <;> rfl
theorem q6[Inhabited α](e:Option α):gO true e=e:=rfl
theorem X9[Inhabited α](e:Option α):gO false e=some default:=rfl
theorem zI(k n:Nat):cmpI .lss (k:Int) (n:Int)=decide (k<n):=by simp[cmpI]
theorem xb{b:Nat}{xs ys:List α}(h:(xs.length+ys.length)*b<=140737488355328)(h2:xs.length+ys.length<=9223372036854775807):appO b xs ys=some (xs++ys):=Ke ⟨h,h2⟩
theorem Xd(h:k<=s.l.length):JI s (k:Int)=some ⟨s.l.take k⟩:=by unfold JI;rw[Ke ⟨by omega,by omega⟩];rfl
theorem WC(h:k<=s.l.length):za0 s (k:Int)=some ⟨s.l.drop k⟩:=by unfold za0;rw[Ke ⟨by omega,by omega⟩];rfl
theorem WD{xs:List α}(h:k<=xs.length):JJ xs (k:Int)=some (xs.take k):=by unfold JJ;rw[Ke ⟨by omega,by omega⟩];rfl
theorem setO_nat{xs:List α}{y:α}(h:k<xs.length):setO xs (k:Int) y=some (xs.set k y):=by unfold setO;rw[Ke ⟨by omega,by omega⟩];rfl
theorem zR{m n:Str}(h:m.l.length+n.l.length<=9223372036854775807):catO m n=some ⟨m.l++n.l⟩:=Ke h
theorem ZR{step:S->Option (S⊕β)}{s s':S}{n:Nat}(h:step s=some (.inl s')):qb step (n+1) s=qb step n s':=by rw[qb,h]
theorem xS{step:S->Option (S⊕β)}{s:S}{b:β}{n:Nat}(h:step s=some (.inr b)):qb step (n+1) s=some b:=by rw[qb,h]
theorem iterM_mono{step:S->Option (S⊕β)}{r:β}:∀ (m j:Nat) (s:S),qb step m s=some r->qb step (m+j) s=some r:=by
 intro m
 induction m with
 | zero=>intro j s h;simp[qb] at h
 |succ m ih=>
  intro j s h;rw[show m+1+j=(m+j)+1 by omega];unfold qb at h ⊢;split at h
  ·cases h
  ·exact ih j _ h
  ·exact h
theorem Yg{step:S->Option (S⊕β)}{r:β}{m:Nat}{s:S}(h:qb step m s=some r)(hm:m<=1152921504606846976):zP step s=some r:=by
 unfold zP;have:=iterM_mono m (1152921504606846976 - m) s h;rwa[show m+(1152921504606846976 - m)=1152921504606846976 by omega] at this
def runL(R:Nat->σ->α->σ⊕β)(fin:σ->β):Nat->σ->List α->β
 | _,s,[]=>fin s
 |k,s,x::xs=>match R k s x with
  | .inl s'=>runL R fin (k+1) s' xs
  | .inr b=>b
theorem JZ{step:S->Option (S⊕β)}(xs:List α)(mk:σ->Nat->S)(R:Nat->σ->α->σ⊕β)(fin:σ->β)(Inv:Nat->σ->Prop)
  (h:∀ k s x,xs[k]?=some x->k<xs.length->Inv k s->match R k s x with
   | .inl s'=>step (mk s k)=some (.inl (mk s' (k+1)))/\Inv (k+1) s'
   | .inr b=>step (mk s k)=some (.inr b))
  (hend:∀ s,Inv xs.length s->step (mk s xs.length)=some (.inr (fin s))) {s0:σ} (h0:Inv 0 s0) (hlen:xs.length<576460752303423488):zP step (mk s0 0)=some (runL R fin 0 s0 xs):=by
 have key:∀ m k s,k+m=xs.length->Inv k s->qb step (m+1) (mk s k)=some (runL R fin k s (xs.drop k)):=by
  intro m
  induction m with
  |zero=>
   intro k s hk hi;have:k=xs.length:=by omega
   subst this;rw[List.drop_length,runL,qb,hend s hi]
  |succ m ih=>
   intro k s hk hi;have hlt:k<xs.length:=by omega
   have hx:xs[k]?=some xs[k]:=List.getElem?_eq_getElem hlt;rw[List.drop_eq_getElem_cons hlt,runL,qb];have hr:=h k s xs[k] hx hlt hi;cases e:R k s xs[k] with
   |inl s'=>rw[e] at hr;simp only at hr;rw[hr.1];exact ih (k+1) s' (by omega) hr.2
   |inr b=>rw[e] at hr;simp only at hr;rw[hr]
 exact Yg (key xs.length 0 s0 (by omega) h0) (by omega)
theorem loop_find{step:Int->Option (Int⊕β)}(xs:List α)(R:Nat->α->Option β)(e:β)
  (h:∀ k x,xs[k]?=some x->k<xs.length->step (k:Int)=some (match R k x with | none=>.inl ((k+1:Nat):Int) | some b=>.inr b))
  (hend:step (xs.length:Int)=some (.inr e)) (hlen:xs.length<576460752303423488) {s:Int} (hs:s=0):
  zP step s=some (runL (λ k (_:Unit) x=>match R k x with | none=>.inl () | some b=>.inr b) (λ _=>e) 0 () xs):=by
 subst hs;refine JZ (σ:=Unit) xs (λ _ k=>(k:Int)) _ _ (λ _ _=>True) (λ k s x hx hlt _=>?_) (λ _ _=>hend) trivial hlen;have:=h k x hx hlt;cases hR:R k x with
 | none=>rw[hR] at this;exact⟨this,trivial⟩
 | some b=>rw[hR] at this;exact this
theorem runL_any(p:α->Bool)(b e:β):∀ (k:Nat) (xs:List α),runL (λ _ (_:Unit) x=>match (if p x=true then some b else none) with | none=>.inl () | some b=>.inr b) (λ _=>e) k () xs=if xs.any p=true then b else e
 | _,[]=>rfl
 |k,x::xs=>by
  cases h:p x with
  | true=>simp[runL,h]
  | false=>simp only[runL,h];rw[List.any_cons,h,Bool.false_or];exact runL_any p b e (k+1) xs
theorem W5{step:Int->Option (Int⊕β)}(xs:List α)(p:α->Bool)(b e:β)
  (h:∀ k x,xs[k]?=some x->k<xs.length->step (k:Int)=some (if p x=true then .inr b else .inl ((k+1:Nat):Int)))
  (hend:step (xs.length:Int)=some (.inr e)) (hlen:xs.length<576460752303423488) {s:Int} (hs:s=0):
  zP step s=some (if xs.any p=true then b else e):=by
 rw[loop_find xs (λ _ x=>if p x=true then some b else none) e (λ k x hx hlt=>?_) hend hlen hs,runL_any];rw[h k x hx hlt];cases p x <;> rfl
theorem runL_idx(p:α->Bool)(f:Int->β)(e:β):∀ (k:Nat) (xs:List α),runL (λ k (_:Unit) x=>match (if p x=true then some (f k) else none) with | none=>.inl () | some b=>.inr b) (λ _=>e) k () xs=(match xs.findIdx? p with | some i=>f ((k+i:Nat):Int) | none=>e)
 | _,[]=>rfl
 |k,x::xs=>by
  cases h:p x with
  | true=>simp[runL,h,List.findIdx?_cons]
  |false=>
   simp only[runL,h,List.findIdx?_cons,Bool.false_eq_true,if_false];rw[runL_idx p f e (k+1) xs];cases xs.findIdx? p with
   | none=>rfl
   | some i=>simp only[Option.map_some];congr 1;omega
theorem J0{step:Int->Option (Int⊕β)}(xs:List α)(p:α->Bool)(f:Int->β)(e:β)
  (h:∀ k x,xs[k]?=some x->k<xs.length->step (k:Int)=some (if p x=true then .inr (f k) else .inl ((k+1:Nat):Int)))
  (hend:step (xs.length:Int)=some (.inr e)) (hlen:xs.length<576460752303423488) {s:Int} (hs:s=0):
  zP step s=some (match xs.findIdx? p with | some i=>f (i:Int) | none=>e):=by
 rw[loop_find xs (λ k x=>if p x=true then some (f k) else none) e (λ k x hx hlt=>?_) hend hlen hs,runL_idx]
 ·cases xs.findIdx? p <;> simp
 ·rw[h k x hx hlt];cases p x <;> rfl
theorem runL_fold(g:σ->α->σ)(fin:σ->β):∀ (k:Nat) (s:σ) (xs:List α),runL (λ _ s x=>(.inl (g s x):σ⊕β)) fin k s xs=fin (xs.foldl g s)
 | _,_,[]=>rfl
 | k,s,x::xs=>runL_fold g fin (k+1) (g s x) xs
theorem ju{step:S->Option (S⊕β)}(xs:List α)(mk:σ->Nat->S)(g:σ->α->σ)(fin:σ->β)(Inv:Nat->σ->Prop)
  (h:∀ k s x,xs[k]?=some x->k<xs.length->Inv k s->step (mk s k)=some (.inl (mk (g s x) (k+1)))/\Inv (k+1) (g s x))
  (hend:∀ s,Inv xs.length s->step (mk s xs.length)=some (.inr (fin s))) {s0:σ} (h0:Inv 0 s0) (hlen:xs.length<576460752303423488):zP step (mk s0 0)=some (fin (xs.foldl g s0)):=by
 rw[JZ xs mk (λ _ s x=>.inl (g s x)) fin Inv h hend h0 hlen,runL_fold]
end
variable{α:Type}
theorem Wx(hs:mid s):xf s=some (zD s):=by
 unfold mid at hs;have hl:zP (λ s4=>qS s s4) 0=some (if s.l.any (λ b=>!low b)=true then .inr false else .inl ()):=by
  refine W5 s.l _ _ _ (λ k x hx hlt=>?_) ?_ (by omega) Z
  ·unfold qS;rw[zI,Ke (decide_eq_true hlt),zL,hx,Kd,xA,Kd,zS (by omega)];unfold low;generalize cmpB .lss x (UInt8.ofNat 97)=c1;cases c1 with
   | true=>rfl
   |false=>rw[Ke (show(false == false)=true from Z)];generalize cmpB .gtr x (UInt8.ofNat 122)=c2;cases c2 <;> rfl
  ·unfold qS;rw[zI,Kf (by simp)]
 unfold xf;rw[hl,Kd];unfold zD;cases h:s.l.any (λ b=>!low b) with
 |true=>
  have:s.l.all low=false:=by
   rw[Bool.eq_false_iff];intro h2;rw[List.any_eq_true] at h;obtain⟨b,hb,hb2⟩:=h;rw[List.all_eq_true.1 h2 b hb] at hb2;cases hb2
  simp[this]
 |false=>
  have:s.l.all low=true:=by
   rw[List.all_eq_true];intro b hb;have:=List.any_eq_false.1 h b hb;simpa using this
  simp only[Bool.false_eq_true,if_false,Sum.elim_inl,xe,Kd,this,Bool.and_true,inR];simp[cmpI]
def cutF(c:UInt8):List UInt8->List (List UInt8)
 | []=>[[]]
 |b::l=>if b == c then[]::cutF c l else match cutF c l with
  | h::t=>(b::h)::t
  | []=>[[b]]
theorem qn(c b:UInt8)(l:List UInt8):cutF c (b::l)=if b == c then[]::cutF c l else match cutF c l with
  | h::t=>(b::h)::t
  | []=>[[b]]:=rfl
theorem Zv(c:UInt8):∀ l,cutF c l≠[]
 | []=>by simp[cutF]
 |b::l=>by
  unfold cutF;split
  ·simp
  ·split <;> simp
theorem zal(c:UInt8):∀ l,(cutF c l).length=l.count c+1
 | []=>by simp[cutF]
 |b::l=>by
  unfold cutF;cases h:b == c with
  |true=>simp only[if_true,List.length_cons,zal c l];rw[List.count_cons,h];simp
  |false=>
   simp only[Bool.false_eq_true,if_false];rw[List.count_cons,h];simp only[Bool.false_eq_true,if_false,Nat.add_zero];rw[← zal c l];cases hc:cutF c l with
   | nil=>exact absurd hc (Zv c l)
   | cons h t=>rfl
theorem zbh(c:UInt8):∀ (l:List UInt8) (st:List Str×Str),(let r:=l.foldl (qf c) st;r.1++[r.2])=st.1++(match cutF c l with | h::t=>(⟨st.2.l++h⟩:Str)::t.map Str.mk | []=>[])
 | [],st=>by simp[cutF]
 |b::l,st=>by
  rw[List.foldl_cons];have ih:=zbh c l (qf c st b);simp only at ih ⊢;rw[ih];unfold qf;rw[qn];cases h:b == c with
  |true=>
   simp only[if_true,List.append_assoc];cases hc:cutF c l with
   | nil=>exact absurd hc (Zv c l)
   | cons h t=>simp
  |false=>
   simp only[Bool.false_eq_true,if_false];cases hc:cutF c l with
   | nil=>exact absurd hc (Zv c l)
   | cons h t=>simp
theorem yI(s:Str)(c:UInt8):zi s c=(cutF c s.l).map Str.mk:=by
 have:=zbh c s.l ([],⟨[]⟩);simp only at this;unfold zi xV;rw[this];cases hc:cutF c s.l with
 | nil=>exact absurd hc (Zv c s.l)
 | cons h t=>simp
theorem YJ(c:UInt8):∀ l,Lib.indexByte l c<0->cutF c l=[l]
 | [],_=>rfl
 |b::l,h=>by
  unfold Lib.indexByte at h;unfold cutF;cases hb:b == c with
  | true=>rw[hb] at h;simp at h
  |false=>
   rw[hb] at h;simp only[Bool.false_eq_true,if_false] at h ⊢;have hge:=Lib.indexByte_ge l c;have:Lib.indexByte l c<0:=by
    split at h
    ·rename_i e;have:=eq_of_beq e;omega
    ·omega
   rw[YJ c l this]
theorem YK(c:UInt8):∀ l,0<=Lib.indexByte l c->Lib.indexByte l c<l.length/\cutF c l=l.take (Lib.indexByte l c).toNat::cutF c (l.drop ((Lib.indexByte l c).toNat+1))
 | [],h=>by simp[Lib.indexByte] at h
 |b::l,h=>by
  unfold Lib.indexByte at h ⊢;cases hb:b == c with
  | true=>simp[cutF,hb]
  |false=>
   rw[hb] at h;simp only[Bool.false_eq_true,if_false] at h ⊢;cases he:Lib.indexByte l c == -1 with
   | true=>rw[he] at h;simp at h
   |false=>
    rw[he] at h;simp only[Bool.false_eq_true,if_false] at h ⊢;have hge:=Lib.indexByte_ge l c;have hne:Lib.indexByte l c≠-1:=by simpa using he
    obtain⟨h1,h2⟩:=YK c l (by omega);refine⟨by simp;omega,?_⟩;have e1:(Lib.indexByte l c+1).toNat=(Lib.indexByte l c).toNat+1:=by omega
    rw[e1];rw[qn,hb,h2];simp only[Bool.false_eq_true,if_false,List.take_succ_cons,List.drop_succ_cons]
theorem genSplit_loop(c:UInt8)(n:Nat)(hn:n<1099511627777):∀ (l:List UInt8) (done:List Str),l.length<=1099511627776->done.length+(cutF c l).length=n->
  ∀
   m,(cutF c l).length<=m->qb (λ s35=>wT ⟨[c]⟩ 0 ((n:Int) - 1) s35) m ((⟨l⟩:Str),done++List.replicate (n - done.length) zStr,(done.length:Int))=
   some (⟨(cutF c l).getLast (Zv c l)⟩,done++((cutF c l).dropLast.map Str.mk++[zStr]),(n:Int) - 1):=by
 intro l
 induction hlen:l.length using Nat.strongRecOn generalizing l with
 |_ k ih=>
  intro done hl hd m hm;have hne:=Zv c l;have hpos:0<(cutF c l).length:=List.length_pos_iff.2 hne;obtain⟨m,rfl⟩:∃ m',m=m'+1:=⟨m - 1,by omega⟩;by_cases hlast:(cutF c l).length=1
  ·rw[xS (b:=((⟨l⟩:Str),done++List.replicate (n - done.length) zStr,(done.length:Int))) (by unfold wT;exact Kf (by simp[cmpI];omega))];obtain⟨x,hx⟩:=List.length_eq_one_iff.1 hlast;have e1:n - done.length=1:=by omega
   simp only[hx,List.getLast_singleton,List.dropLast_singleton,List.map_nil,List.nil_append,e1,List.replicate_one];have hxl:x=l:=by
    rcases Int.lt_or_le (Lib.indexByte l c) 0 with h | h
    ·rw[YJ c l h] at hx;injection hx with hx;exact hx.symm
    ·obtain⟨_,h2⟩:=YK c l h;rw[h2] at hx;have:=congrArg List.length hx;simp at this;exact absurd this (Zv _ _)
   rw[hxl]
   congr 2
   congr 1
   omega
  ·have hidx:0<=Lib.indexByte l c:=by
    rcases Int.lt_or_le (Lib.indexByte l c) 0 with h | h
    ·rw[YJ c l h] at hlast;simp at hlast
    ·exact h
   obtain⟨h1,h2⟩:=YK c l hidx;obtain⟨j,hi⟩:=Int.eq_ofNat_of_zero_le hidx;rw[hi] at h1 h2;rw[Int.toNat_natCast] at h2;have hj:j<l.length:=by omega
   have e2:wK ⟨l⟩ ⟨[c]⟩=some (j:Int):=by simp[wK,hi]
   have hrep:done.length<(done++List.replicate (n - done.length) zStr).length:=by simp;omega
   have e4:atI (done++List.replicate (n - done.length) zStr) (done.length:Int)=some zStr:=by
    rw[zL,List.getElem?_append_right (Nat.le_refl _),Nat.sub_self,List.getElem?_replicate,Ke (by omega)]
   have e5:setO (done++List.replicate (n - done.length) zStr) (done.length:Int) (⟨l.take j⟩:Str)=some ((done++[⟨l.take j⟩])++List.replicate (n - (done.length+1)) zStr):=by
    rw[setO_nat hrep]
    congr 1
    rw[List.set_append_right _ _ (Nat.le_refl _),Nat.sub_self];obtain⟨q,hq⟩:∃ q,n - done.length=q+1:=⟨n - done.length - 1,by omega⟩;rw[hq,List.replicate_succ,List.set_cons_zero,List.append_assoc,show n - (done.length+1)=q by omega];rfl
   have hstep:wT ⟨[c]⟩ 0 ((n:Int) - 1) ((⟨l⟩:Str),done++List.replicate (n - done.length) zStr,(done.length:Int))=some (.inl ((⟨l.drop (j+1)⟩:Str),(done++[⟨l.take j⟩])++List.replicate (n - (done.length+1)) zStr,((done.length+1:Nat):Int))):=by
    unfold wT;rw[Ke (by simp[cmpI];omega)];simp only;rw[e2,Kd,Kf (by simp[cmpI]),show((j:Int)+0)=(j:Int) by omega,xx (by omega) (by omega),Kd,Xd (show j<=(⟨l⟩:Str).l.length by show j<=l.length;omega),Kd,e4,Kd,e5,Kd];rw[show((j:Int)+(([c]:List UInt8).length:Int))=((j+1:Nat):Int) from Z,xx (by omega) (by omega),Kd,WC (show j+1<=(⟨l⟩:Str).l.length by show j+1<=l.length;omega),Kd,zS (by omega),Kd]
   rw[ZR hstep];have hlen2:(cutF c (l.drop (j+1))).length+1=(cutF c l).length:=by rw[h2];rfl
   have hrec:=ih (l.drop (j+1)).length (by simp;omega) (l.drop (j+1)) Z (done++[⟨l.take j⟩]) (by simp;omega) (by simp;omega) m (by omega);rw[List.length_append,List.length_singleton] at hrec;rw[hrec];have hne2:=Zv c (l.drop (j+1));have e7:(cutF c l).getLast hne=(cutF c (l.drop (j+1))).getLast hne2:=by
    have:∀ (L:List (List UInt8)) (hL:L≠[]),L=l.take j::cutF c (l.drop (j+1))->L.getLast hL=(cutF c (l.drop (j+1))).getLast hne2:=by
     intro L hL e;subst e;exact List.getLast_cons hne2
    exact this _ hne h2
   have e8:(cutF c l).dropLast=l.take j::(cutF c (l.drop (j+1))).dropLast:=by
    have:∀ (L:List (List UInt8)),L=l.take j::cutF c (l.drop (j+1))->L.dropLast=l.take j::(cutF c (l.drop (j+1))).dropLast:=by
     intro L e;subst e;rw[List.dropLast_cons_of_ne_nil hne2]
    exact this _ h2
   rw[e7,e8];simp
theorem zcs(hs:s.l.length<=8388608)(c:UInt8):yY s ⟨[c]⟩=some (zi s c):=by
 unfold yY Zr;have hcount:s.l.count c<=s.l.length:=List.count_le_length;rw[Kf (by simp[cmpI]),Kf (by simp)];have e1:ZB s ⟨[c]⟩=some (s.l.count c:Int):=rfl;rw[Ke (by simp[cmpI]),e1,Kd,zS (by omega),Kd,Kd,zS (by omega),Kd];have hmin:(if((s.l.length+1:Nat):Int)<((s.l.count c+1:Nat):Int) then((s.l.length+1:Nat):Int) else((s.l.count c+1:Nat):Int))=((s.l.count c+1:Nat):Int):=Kf (by omega);rw[hmin];have hbig:s.l.count c+1<=16777216:=by omega
 have e2:makeO 1 16 ((s.l.count c+1:Nat):Int) zStr=some (List.replicate (s.l.count c+1) zStr):=by
  unfold makeO;rw[Ke ⟨by omega,by simp;omega,by simp;omega,by omega⟩];rfl
 rw[e2,Kd,xx (by omega) (by omega),Kd];have hl:=Yg (genSplit_loop c (s.l.count c+1) (by omega) s.l [] (by omega) (by simp[zal]) (s.l.count c+1) (by rw[zal];omega)) (by omega);simp only[List.nil_append,List.length_nil,Nat.sub_zero] at hl;rw[show((0:Nat):Int)=0 from Z] at hl;rw[hl,Kd];have hne:=Zv c s.l;have hlen:=zal c s.l;have hz:((cutF c s.l).dropLast.map Str.mk).length=s.l.count c:=by simp[hlen]
 have e3:(((s.l.count c+1:Nat):Int) - 1)=(s.l.count c:Int):=by omega
 simp only[e3];have e4:atI ((cutF c s.l).dropLast.map Str.mk++[zStr]) (s.l.count c:Int)=some zStr:=by
  rw[zL,List.getElem?_append_right (by omega),hz,Nat.sub_self];rfl
 have e5:setO ((cutF c s.l).dropLast.map Str.mk++[zStr]) (s.l.count c:Int) (⟨(cutF c s.l).getLast hne⟩:Str)=some ((cutF c s.l).map Str.mk):=by
  unfold setO;rw[Ke ⟨by omega,by simp[hlen]⟩]
  congr 1
  rw[Int.toNat_natCast,List.set_append_right _ _ (by omega),hz,Nat.sub_self,List.set_cons_zero];have:=List.dropLast_concat_getLast hne
  conv=>rhs;rw[← this]
  simp
 rw[e4,Kd,e5,Kd,zS (by omega),Kd];have e6:JJ ((cutF c s.l).map Str.mk) ((s.l.count c+1:Nat):Int)=some ((cutF c s.l).map Str.mk):=by
  unfold JJ;rw[Ke ⟨by omega,by simp[hlen]⟩]
  congr 1
  rw[Int.toNat_natCast];exact List.take_of_length_le (by simp[hlen])
 rw[e6,yI];rfl
def sho(s:Str):Prop:=s.l.length<=8388608
theorem sho.mid{s:Str}(h:sho s):mid s:=by unfold sho at h;unfold Go.Proofs.YtifgdhfcoaognaaGreatDoor.mid;omega
theorem split_len(s:Str)(c:UInt8):(zi s c).length<=s.l.length+1:=by have:=JL (zi s c);rwa[qI] at this
theorem split_part(h:x∈zi s c):x.l.length<=s.l.length+1:=by
 obtain⟨k,hk⟩:=List.getElem?_of_mem h;have:=part_le hk;rwa[qI] at this
theorem any_not(p:α->Bool)(l:List α):l.any (λ x=>!p x)=!l.all p:=by
 induction l with
 | nil=>rfl
 | cons x l ih=>simp[ih]
theorem xu(hs:sho s):z7 s=some (zf s):=by
 unfold sho at hs;have hlen:=split_len s dot;unfold z7;rw[show yY s (⟨[46]⟩:Str)=some (zi s dot) from zcs hs dot,Kd];have hl:zP (λ s7=>qT (zi s dot) s7) 0=some (if(zi s dot).any (λ x=>!zD x)=true then .inr false else .inl ()):=by
  refine W5 _ _ _ _ (λ k x hx hlt=>?_) ?_ (by omega) Z
  ·unfold qT;have hm:mid x:=by have:=split_part (List.mem_of_getElem? hx);unfold mid;omega
   rw[zI,Ke (decide_eq_true hlt),zL,hx,Kd,Wx hm,Kd,zS (by omega)];cases zD x <;> rfl
  ·unfold qT;rw[zI,Kf (by simp)]
 rw[hl,Kd,any_not];unfold zf;cases(zi s dot).all zD <;> rfl
theorem XB(hs:sho s):xO s=some (zx s):=by
 unfold xO;rw[xu hs,xA,Kd];unfold zx emptyS;cases decide (s=(⟨[]⟩:Str)) <;> rfl
theorem zbE(hs:sho s):jT s=some (if zf s=true then zi s dot else[]):=by
 unfold jT;rw[xu hs,Kd,show yY s (⟨[46]⟩:Str)=some (zi s dot) from zcs hs dot];cases zf s <;> rfl
def XC(p s:Str):Str:=if(zx p&&zD s&&zf (child p s))=true then child p s else emptyS
theorem W6(h:p.l.length+s.l.length+1<=8388608):wj p s=some (XC p s):=by
 have hp:sho p:=by unfold sho;omega
 have hs:mid s:=by unfold mid;omega
 unfold wj XC;rw[XB hp,Kd,Wx hs,xA,Kd];cases zx p with
 | false=>simp only[Bool.not_false,Bool.true_or,if_true,Bool.false_and,Bool.false_eq_true,if_false,emptyS]
 |true=>
  cases zD s with
  | false=>simp only[Bool.not_false,Bool.or_true,if_true,Bool.false_and,Bool.and_false,Bool.false_eq_true,if_false,emptyS,Bool.not_true,beq_self_eq_true]
  |true=>
   have hc:(if(decide (p≠(⟨[]⟩:Str)))=true then((catO p (⟨[46]⟩:Str)).bind λ v14=>(catO v14 s).bind λ v15=>some v15) else(some s))=some (child p s):=by
    unfold child emptyS;by_cases he:p=⟨[]⟩
    ·rw[Kf (by simp[he]),Ke he]
    ·rw[Ke (by simp[he]),Kf he,zR (by show p.l.length+1<=_;omega),Kd,zR (by rw[List.length_append];show p.l.length+1+s.l.length<=_;omega),Kd]
   have hsc:sho (child p s):=by
    unfold sho child;split
    ·omega
    ·rw[List.length_append,List.length_append];show p.l.length+1+s.l.length<=_;omega
   rw[hc,Kf (by decide),Kd,xu hsc,Kd];generalize child p s=q;cases zf q <;> rfl
theorem HasPrefix_eq:jB s p=some (decide (p.l.length<=s.l.length)&&decide ((⟨s.l.take p.l.length⟩:Str)=p)):=by
 unfold jB xn;by_cases h:p.l.length<=s.l.length
 ·have e:cmpI .geq (s.l.length:Int) (p.l.length:Int)=true:=by simp[cmpI,h]
  rw[e,Xd h];simp[gO,h]
 ·have e:cmpI .geq (s.l.length:Int) (p.l.length:Int)=false:=by simp[cmpI];omega
  rw[e];simp[gO,h]
theorem IsUnder_eq(hs:sho s)(hp:p.l.length+1<=8388608):Z9 s p=some (zf s&&zx p&&under s p):=by
 have hp':sho p:=by unfold sho;omega
 unfold Z9;rw[xu hs,Kd,XB hp',xA,Kd,zR (by show p.l.length+1<=_;omega),xA];unfold under emptyS;cases zf s with
 | false=>rfl
 |true=>
  cases zx p with
  | false=>rfl
  |true=>
   cases he:decide (p=(⟨[]⟩:Str)) with
   | true=>rfl
   |false=>
    cases hq:decide (s=p) with
    | true=>rfl
    |false=>
     simp only[HasPrefix_eq,xA,Bool.not_true,Bool.or_self,Bool.false_eq_true,if_false,beq_self_eq_true,if_true,Bool.true_and,Bool.false_or,Kd,List.length_append,List.length_singleton]
     congr 2
     simp[cmpI];omega
theorem zaK(a b c:Int):xe a b c=some (inR a b c):=rfl
theorem qq:zf emptyS=false:=rfl
theorem idx_join(p:α->Bool)(xs:List α):Option.bind (some (match xs.findIdx? p with | some i=>(Sum.inr (i:Int):Unit⊕Int) | none=>Sum.inl ())) (Sum.elim (λ _=>some (-1)) some)=some (xU p xs):=by
 unfold xU;cases xs.findIdx? p <;> rfl
theorem J1(p:α->Bool)(xs:List α):cmpI .geq (xU p xs) 0=xs.any p:=by
 unfold xU;cases h:xs.findIdx? p with
 |none=>
  rw[List.findIdx?_eq_none_iff] at h;have:xs.any p=false:=by rw[List.any_eq_false];intro x hx;simp[h x hx]
  rw[this];rfl
 |some i=>
  obtain⟨hi,hp,_⟩:=List.findIdx?_eq_some_iff_getElem.1 h;have:xs.any p=true:=by rw[List.any_eq_true];exact⟨_,List.getElem_mem hi,hp⟩
  rw[this];simp[cmpI]
theorem idxOf_lss{p:α->Bool}{xs:List α}{x:α}(hx:xs[k]?=some x)(hp:p x=true):cmpI .lss (xU p xs) k=(xs.take k).any p:=by
 have hk:=zG hx;have hxk:xs[k]=x:=by rw[List.getElem?_eq_getElem hk] at hx;injection hx
 unfold xU;cases h:xs.findIdx? p with
 |none=>rw[List.findIdx?_eq_none_iff] at h;have:=h x (List.mem_of_getElem? hx);rw[hp] at this;cases this
 |some i=>
  obtain⟨hi,hpi,hmin⟩:=List.findIdx?_eq_some_iff_getElem.1 h;by_cases hik:i<k
  ·have:(xs.take k).any p=true:=by
    rw[List.any_eq_true];exact⟨xs[i],List.mem_take_iff_getElem.2 ⟨i,by omega,Z⟩,hpi⟩
   rw[this];simp[cmpI,hik]
  ·have:(xs.take k).any p=false:=by
    rw[List.any_eq_false];intro y hy;obtain⟨j,hj,rfl⟩:=List.mem_take_iff_getElem.1 hy;exact hmin j (by omega)
   rw[this];simp[cmpI];omega
theorem IndexI_eq{n:Int}(h:xs.length<=1152921504606846):wE xs n=some (xU (λ x=>n == x) xs):=by
 unfold wE;have hl:zP (λ s4=>wS xs n s4) 0=some (match xs.findIdx? (λ x=>n == x) with | some i=>(Sum.inr (i:Int):Unit⊕Int) | none=>Sum.inl ()):=by
  refine J0 xs (λ x=>n == x) (λ i=>Sum.inr i) _ (λ k x hx hlt=>?_) ?_ (by omega) Z
  ·unfold wS;rw[zI,Ke (decide_eq_true hlt),zL,hx,Kd,zS (by omega),show cmpI .eql n x=(n == x) from Z];cases n == x <;> rfl
  ·unfold wS;rw[zI,Kf (by simp)]
 rw[hl];exact idx_join _ _
theorem ContainsI_eq{n:Int}(h:xs.length<=1152921504606846):xW xs n=some (xs.any (λ x=>n == x)):=by
 unfold xW;rw[IndexI_eq h,Kd,J1]
theorem stmt_mod(s:Stmt):decide (s={ (⟨s.kind,⟨[]⟩,0,⟨[]⟩,0⟩:Stmt) with module:=s.module })=(cmpI .eql s.level 0&&decide (s.name=⟨[]⟩)&&cmpI .eql s.value 0):=by
 cases s;rw[Bool.eq_iff_iff];simp[cmpI,and_assoc]
theorem stmt_nv(s:Stmt):decide (s={ { (⟨s.kind,⟨[]⟩,0,⟨[]⟩,0⟩:Stmt) with name:=s.name } with value:=s.value })=(decide (s.module=⟨[]⟩)&&cmpI .eql s.level 0):=by
 cases s;rw[Bool.eq_iff_iff];simp[cmpI]
theorem stmt_n(s:Stmt):decide (s={ (⟨s.kind,⟨[]⟩,0,⟨[]⟩,0⟩:Stmt) with name:=s.name })=(decide (s.module=⟨[]⟩)&&cmpI .eql s.level 0&&cmpI .eql s.value 0):=by
 cases s;rw[Bool.eq_iff_iff];simp[cmpI,and_assoc]
theorem smStmt.sho{s:Stmt}(h:smStmt s):sho s.module:=by have:=h.1;unfold Go.Proofs.YtifgdhfcoaognaaGreatDoor.sho;omega
theorem smStmt.midn{s:Stmt}(h:smStmt s):mid s.name:=by have:=h.2;unfold mid;omega
theorem stmtOk_eq{s:Stmt}(h:smStmt s):YD s=some (zX s):=by
 have hm:=xu h.sho;have hn:=Wx h.midn;unfold YD;rw[hm,hn,stmt_mod,stmt_nv,stmt_n];simp only[zaK,xA,Kd];unfold zX;rcases s with⟨kind,m,level,name,value⟩;simp only[show ∀ x y:Int,cmpI .eql x y=(x == y) from λ _ _=>Z];by_cases h0:kind=0
 ·subst h0;simp only[beq_self_eq_true,if_true,Kd];generalize zf m=a;generalize (level == 0)=b;generalize decide (name=⟨[]⟩)=c;generalize (value == 0)=d;cases a <;> cases b <;> cases c <;> cases d <;> rfl
 ·by_cases h2:kind=2
  ·subst h2;simp only[beq_self_eq_true,if_true,Kd,show((2:Int) == 0)=false from Z,show((2:Int) == 1)=false from Z,Bool.false_eq_true,if_false];generalize zf m=a;generalize (level == 0)=b;generalize decide (name=⟨[]⟩)=c;generalize (value == 0)=d;cases a <;> cases b <;> cases c <;> cases d <;> rfl
  ·have e0:(kind == 0)=false:=by simpa using h0
   have e2:(kind == 2)=false:=by simpa using h2
   simp only[e0,e2,Bool.false_eq_true,if_false,Kd];by_cases h1:kind=1
   ·subst h1;simp only[beq_self_eq_true,if_true];have hl:cmpI .geq level 1=cmpI .gtr level 0:=by simp[cmpI];omega
    rw[hl];unfold zx;by_cases hme:m=emptyS
    ·subst hme;rw[qq];simp only[emptyS,decide_true,ne_eq,not_true_eq_false,decide_false];generalize (value == 0)=a;generalize inR level 0 3=b;generalize cmpI .gtr level 0=c;generalize zD name=d;cases a <;> cases b <;> cases c <;> cases d <;> rfl
    ·have e1:decide (m=emptyS)=false:=decide_eq_false hme;have e3:decide (m=⟨[]⟩)=false:=decide_eq_false hme;have e4:decide (m≠⟨[]⟩)=true:=decide_eq_true hme;rw[e1,e3,e4];generalize (value == 0)=a;generalize inR level 0 3=b;generalize cmpI .gtr level 0=c;generalize zD name=d;generalize zf m=e;cases a <;> cases b <;> cases c <;> cases d <;> cases e <;> rfl
   ·have e1:(kind == 1)=false:=by simpa using h1
    simp only[e1,Bool.false_eq_true,if_false];by_cases h3:kind=3
    ·subst h3;simp only[beq_self_eq_true,if_true];generalize decide (m=⟨[]⟩)=a;generalize (level == 0)=b;generalize inR value 0 99=c;generalize zD name=d;cases a <;> cases b <;> cases c <;> cases d <;> rfl
    ·have e3:(kind == 3)=false:=by simpa using h3
     simp only[e3,Bool.false_eq_true,if_false];by_cases h4:kind=4
     ·subst h4;simp only[beq_self_eq_true,if_true];generalize decide (m=⟨[]⟩)=a;generalize (level == 0)=b;generalize (value == 0)=c;generalize zD name=d;cases a <;> cases b <;> cases c <;> cases d <;> rfl
     ·have e4:(kind == 4)=false:=by simpa using h4
      simp only[e4,Bool.false_eq_true,if_false];by_cases h5:kind=5
      ·subst h5;rfl
      ·have e5:(kind == 5)=false:=by simpa using h5
       simp only[e5,Bool.false_eq_true,if_false]
theorem ValidBody_eq(hlen:b.length<=1048576)(h:∀ s∈b,smStmt s):Zg b=some (jr b):=by
 unfold Zg;have hl:zP (λ s4=>qU b s4) 0=some (if b.any (λ x=>!zX x)=true then .inr false else .inl ()):=by
  refine W5 _ _ _ _ (λ k x hx hlt=>?_) ?_ (by omega) Z
  ·unfold qU;rw[zI,Ke (decide_eq_true hlt),zL,hx,Kd,stmtOk_eq (h x (List.mem_of_getElem? hx)),Kd,zS (by omega)];cases zX x <;> rfl
  ·unfold qU;rw[zI,Kf (by simp)]
 rw[hl,Kd,any_not];unfold jr;cases b.all zX <;> rfl
theorem child_ne(h:zf (child p s)=true):child p s≠emptyS:=by
 intro e;rw[e,qq] at h;cases h
theorem smFile.shop{f:File}(h:smFile f):sho f.pkg:=by have:=h.1;unfold sho;omega
theorem smFile.midn{f:File}(h:smFile f):mid f.name:=by have:=h.2.1;unfold mid;omega
theorem smFile.child{f:File}(h:smFile f):f.pkg.l.length+f.name.l.length+1<=8388608:=by have:=h.1;have:=h.2.1;omega
theorem fileOk_eq{f:File}(h:smFile f):ZL f=some (yC f):=by
 unfold ZL;rw[zaK,Kd,XB h.shop,xA,Kd,zaK,xA,Kd,ValidBody_eq h.2.2.1 h.2.2.2,xA,Kd,Wx h.midn,Kd,W6 h.child,xA,Kd];unfold yC;cases inR f.root 0 2 with
 | false=>rfl
 |true=>
  cases hp:zx f.pkg with
  | false=>cases inR f.stamp 0 99 <;> rfl
  |true=>
   cases inR f.stamp 0 99 with
   | false=>rfl
   |true=>
    cases jr f.body with
    | false=>rfl
    |true=>
     cases f.init with
     | true=>rfl
     |false=>
      show some (zD f.name&&decide ((if(zD f.name == true)=true then XC f.pkg f.name else default)≠(⟨[]⟩:Str)))=some (zD f.name&&zf (Go.Proofs.YtifgdhfcoaognaaGreatDoor.child f.pkg f.name));cases hn:zD f.name with
      | false=>rfl
      |true=>
       unfold XC;rw[hp,hn];cases hc:zf (Go.Proofs.YtifgdhfcoaognaaGreatDoor.child f.pkg f.name) with
       | false=>simp[emptyS]
       |true=>have:=child_ne hc;simp only[Bool.and_self,if_true,beq_self_eq_true,Bool.true_and];rw[decide_eq_true (show Go.Proofs.YtifgdhfcoaognaaGreatDoor.child f.pkg f.name≠⟨[]⟩ from this)]
theorem zct(f g:File):Zf f g=some (wC f g):=rfl
theorem zbi(f g:File):wC f g=wC g f:=by
 unfold wC;rw[BEq.comm (a:=f.root),BEq.comm (a:=f.init),decide_eq_decide.2 (eq_comm (a:=f.pkg) (b:=g.pkg)),decide_eq_decide.2 (eq_comm (a:=f.name) (b:=g.name))]
theorem sameFile_refl(f:File):wC f f=true:=by simp[wC]
theorem Yq(h:xw t):xg t=some (zB t):=by
 have hlen:=h.1;unfold xg;have hl:zP (λ s4=>qW t s4) 0=some (if(List.range t.files.length).any (λ k=>!QV t.files k)=true then .inr false else .inl ()):=by
  refine W5 (List.range t.files.length) _ _ _ (λ k x hx hlt=>?_) ?_ (by rw[List.length_range];omega) Z
  ·rw[List.length_range] at hlt;rw[List.getElem?_range hlt] at hx;injection hx with hx;subst hx;unfold qW;obtain⟨f,hf⟩:∃ f,t.files[k]?=some f:=⟨_,List.getElem?_eq_getElem hlt⟩;have ht:QV t.files k=!(!yC f||cmpI .lss (xB t.files f) k):=by unfold QV;rw[hf]
   rw[zI,Ke (decide_eq_true hlt),zL,hf,Kd,fileOk_eq (h.2 _ (List.mem_of_getElem? hf)),Kd,WD (by omega),Kd,ht];cases yC f with
   | false=>rfl
   |true=>
    rw[Kf (by decide)];have hin:zP (λ s28=>qV f (t.files.take k) s28) 0=some (if(t.files.take k).any (λ x=>wC f x)=true then .inr (.inr (.inr false)) else .inl ()):=by
     have htl:(t.files.take k).length<=k:=by simp;omega
     refine W5 _ _ _ _ (λ j y hy hjt=>?_) ?_ (by omega) Z
     ·unfold qV;rw[zI,Ke (decide_eq_true hjt),zL,hy,Kd,zct,Kd,zS (by omega)];cases wC f y <;> rfl
     ·unfold qV;rw[zI,Kf (by simp)]
    rw[hin];have hfa:cmpI .lss (xB t.files f) k=(t.files.take k).any (λ x=>wC f x):=by
     unfold xB;rw[idxOf_lss (p:=λ x=>wC x f) hf (sameFile_refl _)]
     congr 1
     funext x
     exact zbi _ _
    rw[hfa];cases(t.files.take k).any (λ x=>wC f x) with
    | true=>rfl
    |false=>rw[Kf (by decide),Kd,Sum.elim_inl,zS (by omega)];rfl
  ·unfold qW;rw[List.length_range,zI,Kf (by simp)]
 rw[hl,Kd,any_not];unfold zB Js;cases(List.range t.files.length).all (QV t.files) <;> rfl
theorem fileAt_eq{f:File}(h:t.files.length<=1048576):ZM t f=some (xB t.files f):=by
 unfold ZM;have hl:zP (λ s4=>Ym t f s4) 0=some (match t.files.findIdx? (λ x=>wC x f) with | some i=>(Sum.inr (i:Int):Unit⊕Int) | none=>Sum.inl ()):=by
  refine J0 t.files (λ x=>wC x f) (λ i=>Sum.inr i) _ (λ k x hx hlt=>?_) ?_ (by omega) Z
  ·unfold Ym;rw[zI,Ke (decide_eq_true hlt),zL,hx,Kd,zct,Kd,zS (by omega),zbi];cases wC x f <;> rfl
  ·unfold Ym;rw[zI,Kf (by simp)]
 rw[hl];exact idx_join _ _
theorem j6(h:zB t=true){f:File}(hf:f∈t.files):yC f=true:=by
 obtain⟨k,hk⟩:=List.getElem?_of_mem hf;unfold zB Js at h;rw[Bool.and_eq_true] at h;have:=List.all_eq_true.1 h.1 k (List.mem_range.2 (zG hk));unfold QV at this;rw[hk] at this;simp only at this;cases hv:yC f with
 | true=>rfl
 | false=>rw[hv] at this;cases this
theorem XY{f:File}(h:yC f=true):zx f.pkg=true:=by
 unfold yC at h;cases hv:zx f.pkg with
 | true=>rfl
 |false=>rw[hv,Ke (by simp)] at h;cases h
theorem zbj{f:File}(h:yC f=true):zf (zN f)=true:=by
 have hp:=XY h;unfold yC at h;unfold zN;split at h
 ·cases h
 ·cases hi:f.init with
  |true=>rw[hi] at h;simp only[if_true,Bool.and_eq_true,decide_eq_true_eq] at h ⊢;unfold zx at hp;simpa[h.1] using hp
  |false=>rw[hi] at h;simp only[Bool.false_eq_true,if_false,Bool.and_eq_true] at h ⊢;exact h.2
theorem ModuleOf_eq{f:File}(h:smFile f):ZC f=some (if yC f=true then zN f else emptyS):=by
 unfold ZC;rw[fileOk_eq h,Kd,W6 h.child,Kd];cases hv:yC f with
 | false=>rfl
 |true=>
  rw[Kf (by decide),Ke Z];have hp:=XY hv;have hm:=zbj hv;unfold zN at hm ⊢;unfold yC at hv;split at hv
  ·cases hv
  ·cases hi:f.init with
   | true=>rfl
   |false=>rw[hi] at hv hm;simp only[Bool.false_eq_true,if_false,Bool.and_eq_true] at hv hm ⊢;unfold XC;rw[hp,hv.1,hm];rfl
theorem hasDir_eq(h:xw t)(hv:∀ f∈t.files,zx f.pkg=true)(hp:zx p=true)(hpl:p.l.length+1<=8388608):YE t r p=some (Xl t.files r p):=by
 have hlen:=h.1;unfold YE;have hl:zP (λ s4=>Yl t r p s4) 0=some (if t.files.any (QW r p)=true then .inr true else .inl ()):=by
  refine W5 _ _ _ _ (λ k x hx hlt=>?_) ?_ (by omega) Z
  ·unfold Yl;have hm:=List.mem_of_getElem? hx;rw[zI,Ke (decide_eq_true hlt),zL,hx,Kd,IsUnder_eq (h.2 x hm).shop hpl,xA,Kd,zS (by omega),hp];unfold QW;have hvx:=hv x hm;unfold zx at hvx;rw[show cmpI .eql x.root r=(x.root == r) from Z];by_cases he:x.pkg=emptyS
   ·rw[he,qq];simp
   ·have e1:zf x.pkg=true:=by simpa[he] using hvx
    rw[e1,decide_eq_true (show x.pkg≠emptyS from he)];cases x.root == r <;> cases under x.pkg p <;> rfl
  ·unfold Yl;rw[zI,Kf (by simp)]
 rw[hl,Kd];unfold Xl emptyS;cases t.files.any (QW r p) <;> rfl
theorem Zw{l:List Int}(h:l.length<=1048576):wo l=some (yk l):=by
 unfold wo;have hl:zP (λ s4=>qX l s4) 0=some (if(List.range l.length).any (λ k=>!zbt l k)=true then .inr false else .inl ()):=by
  refine W5 (List.range l.length) _ _ _ (λ k x hx hlt=>?_) ?_ (by rw[List.length_range];omega) Z
  ·rw[List.length_range] at hlt;rw[List.getElem?_range hlt] at hx;injection hx with hx;subst hx;unfold qX;obtain⟨n,hf⟩:∃ n,l[k]?=some n:=⟨_,List.getElem?_eq_getElem hlt⟩;have htl:(l.take k).length<=1152921504606846:=by simp;omega
   have ht:zbt l k=!(!inR n 0 2||(l.take k).any (λ x=>n == x)):=by
    unfold zbt;rw[hf];simp only;unfold intAt;rw[J1,show(λ x=>x == n)=(λ x=>n == x) from by funext x;exact BEq.comm]
   rw[zI,Ke (decide_eq_true hlt),zL,hf,Kd,zaK,Kd,WD (by omega),xA,Kd,ht,zS (by omega)];cases inR n 0 2 with
   | false=>rfl
   |true=>simp only[Bool.not_true,beq_self_eq_true,if_true];rw[ContainsI_eq htl,xA,Kd];cases(l.take k).any (λ x=>n == x) <;> rfl
  ·unfold qX;rw[List.length_range,zI,Kf (by simp)]
 rw[hl,Kd,any_not];unfold yk QX;cases(List.range l.length).all (zbt l) <;> rfl
structure Good(t:Tree):Prop where
 sm:xw t
 ok:zB t=true
theorem Good.pkg{t:Tree}(h:Good t):∀ f∈t.files,zx f.pkg=true:=λ _ hf=>XY (j6 h.ok hf)
theorem Good.len(h:Good t):t.files.length<=1048576:=h.sm.1
theorem XZ(h:zD s=true):1<=s.l.length/\s.l.length<=3:=by
 unfold zD inR at h;simp[cmpI] at h;omega
theorem lenSum_le(l:List Str)(h:∀ x∈l,x.l.length<=3):jh l<=4*l.length:=by
 induction l with
 | nil=>exact Nat.le_refl _
 |cons x l ih=>
  have h1:=h x (by simp);have h2:=ih λ y hy=>h y (by simp[hy])
  unfold jh at h2 ⊢;simp only[List.map_cons,List.sum_cons,List.length_cons];omega
theorem yu(h:zf s=true):s.l.length<=11:=by
 unfold zf at h;rw[Bool.and_eq_true] at h;have h1:=lenSum_le (zi s dot) λ x hx=>(XZ (List.all_eq_true.1 h.1 x hx)).2
 rw[qI] at h1;have h2:=h.2;simp[cmpI] at h2;omega
theorem xT(h:zx s=true):s.l.length<=11:=by
 unfold zx at h;rw[Bool.or_eq_true] at h;rcases h with h | h
 ·rw[oD h];exact Nat.zero_le _
 ·exact yu h
def J2:List (List UInt8)->List UInt8
 | []=>[]
 | [a]=>a
 | a::b::l=>a++46::J2 (b::l)
theorem zbk:∀ (l:List Str) (acc:List UInt8),(l.foldl X6 (⟨acc⟩,true)).1=⟨acc++(l.map λ x=>46::x.l).flatten⟩
 | [],acc=>by simp
 |x::l,acc=>by
  rw[List.foldl_cons];show(l.foldl X6 (⟨(acc++[46])++x.l⟩,true)).1=_;rw[zbk l];simp
theorem zbF(a:List UInt8)(l:List (List UInt8)):J2 (a::l)=a++(l.map λ x=>46::x).flatten:=by
 induction l generalizing a with
 | nil=>simp[J2]
 | cons b l ih=>rw[J2,ih];simp
theorem Qn(l:List Str):join l=⟨J2 (l.map (·.l))⟩:=by
 cases l with
 | nil=>rfl
 |cons x l=>unfold join Yk;rw[List.foldl_cons];show(l.foldl X6 (⟨[]++x.l⟩,true)).1=_;rw[zbk,List.map_cons,zbF];simp[List.map_map,Function.comp_def]
theorem cutF_pre(c:UInt8):∀ (a l:List UInt8),c ∉ a->cutF c (a++c::l)=a::cutF c l
 | [],l,_=>by simp[cutF]
 |b::a,l,h=>by
  have hb:(b == c)=false:=by
   have:b≠c:=λ e=>h (by simp[e])
   simpa using this
  rw[List.cons_append,qn,hb,cutF_pre c a l (λ e=>h (by simp[e]))];rfl
theorem zam(c:UInt8):∀ (a:List UInt8),c ∉ a->cutF c a=[a]
 | [],_=>rfl
 |b::a,h=>by
  have hb:(b == c)=false:=by
   have:b≠c:=λ e=>h (by simp[e])
   simpa using this
  rw[qn,hb,zam c a (λ e=>h (by simp[e]))];rfl
theorem zev:∀ (l:List (List UInt8)),l≠[]->(∀ x∈l,(46:UInt8) ∉ x)->cutF 46 (J2 l)=l
 | [],h,_=>absurd Z h
 | [a],_,h=>zam 46 a (h a (by simp))
 |a::b::l,_,h=>by
  rw[J2,cutF_pre 46 a _ (h a (by simp)),zev (b::l) (by simp) λ x hx=>h x (by simp[hx])]
theorem zbG:∀ (l:List UInt8),J2 (cutF 46 l)=l
 | []=>rfl
 |b::l=>by
  rw[qn];cases hb:b == 46 with
  |true=>
   have ih:=zbG l;have hb:=eq_of_beq hb;rw[Ke Z];cases hc:cutF 46 l with
   | nil=>exact absurd hc (Zv 46 l)
   | cons h t=>rw[J2,← hc,ih,hb];rfl
  |false=>
   have ih:=zbG l;rw[Kf (by decide)];cases hc:cutF 46 l with
   | nil=>exact absurd hc (Zv 46 l)
   |cons h t=>rw[hc] at ih;show J2 ((b::h)::t)=b::l;rw[zbF] at ih ⊢;rw[← ih];rfl
theorem Qo(s:Str):join (zi s dot)=s:=by
 rw[Qn,yI,List.map_map];show(⟨J2 ((cutF 46 s.l).map λ x=>x)⟩:Str)=s;rw[List.map_id',zbG]
theorem low_ne{b:UInt8}(h:low b=true):b≠46:=by
 intro e;subst e;revert h;decide
theorem zbl(h:zD s=true):(46:UInt8) ∉ s.l:=by
 unfold zD at h;rw[Bool.and_eq_true] at h;intro hm;exact low_ne (List.all_eq_true.1 h.2 _ hm) Z
theorem zbH(hne:l≠[])(h:∀ x∈l,zD x=true):zi (join l) dot=l:=by
 rw[Qn,yI];show(cutF 46 (J2 (l.map (·.l)))).map Str.mk=l;rw[zev _ (by simpa using hne) (by
  intro x hx;obtain⟨y,hy,rfl⟩:=List.mem_map.1 hx;exact zbl (h y hy)),List.map_map]
 show l.map (λ x=>x)=l;exact List.map_id' l
theorem zbI(hne:l≠[])(hlen:l.length<=3)(h:∀ x∈l,zD x=true):zf (join l)=true:=by
 unfold zf;rw[zbH hne h,Bool.and_eq_true];exact⟨List.all_eq_true.2 h,by simp[cmpI];omega⟩
theorem xd(h:zf s=true):(∀ x∈zi s dot,zD x=true)/\(zi s dot).length<=3:=by
 unfold zf at h;rw[Bool.and_eq_true] at h;have:=h.2;simp[cmpI] at this;exact⟨List.all_eq_true.1 h.1,by omega⟩
theorem pre_valid(h:zf s=true)(k:Nat):zx (join ((zi s dot).take k))=true:=by
 obtain⟨h1,h2⟩:=xd h;unfold zx;cases k with
 | zero=>rfl
 |succ k=>have hne:=X7 s dot;rw[zbI (by intro e;have:=congrArg List.length e;simp at this;rw[this] at hne;simp at hne) (by simp;omega) λ x hx=>h1 x (List.mem_of_mem_take hx),Bool.or_true]
theorem zew(h:zf s=true)(k:Nat):zf (join ((zi s dot).take (k+1)))=true:=by
 obtain⟨h1,h2⟩:=xd h;have hne:=X7 s dot;exact zbI (by intro e;have:=congrArg List.length e;simp at this;rw[this] at hne;simp at hne) (by simp;omega) λ x hx=>h1 x (List.mem_of_mem_take hx)
theorem zex(hx:l[k]?=some x)(h:∀ x∈l,zD x=true):join (l.take (k+1))=child (join (l.take k)) x:=by
 have hk:=zG hx;unfold join;cases k with
 |zero=>rw[zaG hx Z];rfl
 |succ k=>
  rw[zbZ hx (by simp[cmpI])];unfold child;rw[Kf];intro e;have hne:l.take (k+1)≠[]:=by intro e;have:=congrArg List.length e;simp at this;subst this;simp at hk
  have hs:=zbH hne λ y hy=>h y (List.mem_of_mem_take hy)
  unfold join at hs;rw[e] at hs;have h0:zD emptyS=true:=h _ (List.mem_of_mem_take (by rw[← hs];simp[zi,xV,emptyS]));exact absurd h0 (by decide)
def okKind(s:Spec):Prop:=s.kind=0\/s.kind=1\/s.kind=2\/s.kind=3
theorem Qp(t:List File)(p s:Str):∀ (rs acc:List Int),okKind (wR t p s acc rs)
 |[],acc=>by
  unfold wR;split
  ·exact .inr (.inr (.inr Z))
  ·exact .inl Z
 |r::rs,acc=>by
  unfold wR;split
  ·exact .inr (.inr (.inl Z))
  ·split
   ·exact .inr (.inl Z)
   ·exact Qp t p s rs _
theorem dir_of_init{t:List File}{c:Str}(hc:c≠emptyS)(h:cmpI .geq (xB t ⟨r,c,⟨[]⟩,true,0,[]⟩) 0=true):Xl t r c=true:=by
 unfold xB at h;rw[J1,List.any_eq_true] at h;obtain⟨f,hf,hs⟩:=h;unfold wC at hs;simp only[Bool.and_eq_true,beq_iff_eq,decide_eq_true_eq] at hs;obtain⟨⟨⟨h1,h2⟩,_⟩,_⟩:=hs;unfold Xl;rw[Bool.or_eq_true,List.any_eq_true];refine .inl ⟨f,hf,?_⟩;unfold QW under;simp[h1,h2,hc]
theorem find_eq(ht:Good t)(hr:roots.length<=1048576)(hp:zx p=true)(hs:zD s=true)(hc:zf (child p s)=true):Yb t roots p s=some (jE t.files roots p s):=by
 have hpl:=xT hp;have hsl:=(XZ hs).2;have hcl:=yu hc;have hne:=child_ne hc;have hcp:zx (child p s)=true:=by unfold zx;rw[hc,Bool.or_true]
 have he:XC p s=child p s:=by unfold XC;rw[hp,hs,hc];rfl
 unfold Yb;rw[W6 (by omega),he,Kd,Kf (by simp only[decide_eq_true_eq];exact hne)];have hl:zP (λ s16=>jU t roots p s (child p s) s16) (Wn,[],(0:Int))=some (runL (λ _ (acc:List Int) r=>
   if cmpI .geq (xB t.files ⟨r,child p s,⟨[]⟩,true,0,[]⟩) 0=true then .inr (Sum.inr (⟨2,xB t.files ⟨r,child p s,⟨[]⟩,true,0,[]⟩,[r]⟩:Spec))
   else if cmpI .geq (xB t.files ⟨r,p,s,false,0,[]⟩) 0=true then .inr (Sum.inr (⟨1,xB t.files ⟨r,p,s,false,0,[]⟩,[]⟩:Spec))
   else .inl (if Xl t.files r (child p s)=true then acc++[r] else acc)) (λ acc=>Sum.inl (Wn,acc)) 0 [] roots):=by
  refine JZ (σ:=List Int) roots (λ acc k=>(Wn,acc,(k:Int))) _ _ (λ k acc=>acc.length<=k) (λ k acc r hx hlt hi=>?_) (λ acc _=>?_) (Nat.le_refl 0) (by omega)
  ·have hst:jU t roots p s (child p s) (Wn,acc,(k:Int))=(if cmpI .geq (xB t.files ⟨r,child p s,⟨[]⟩,true,0,[]⟩) 0=true then some (.inr (.inr (⟨2,xB t.files ⟨r,child p s,⟨[]⟩,true,0,[]⟩,[r]⟩:Spec)))
     else if cmpI .geq (xB t.files ⟨r,p,s,false,0,[]⟩) 0=true then some (.inr (.inr (⟨1,xB t.files ⟨r,p,s,false,0,[]⟩,[]⟩:Spec)))
     else some (.inl (Wn,(if Xl t.files r (child p s)=true then acc++[r] else acc),((k+1:Nat):Int)))):=by
    unfold jU;simp only;rw[zI,Ke (decide_eq_true hlt),zL,hx,Kd,Kd,fileAt_eq ht.len,Kd,Bool.true_and,fileAt_eq ht.len,Kd,Bool.true_and,hasDir_eq ht.sm ht.pkg hcp (by omega),zS (by omega)];rw[xA,Kd,xb (by simp;omega) (by simp;omega)];generalize cmpI .geq (xB t.files ⟨r,child p s,⟨[]⟩,true,0,[]⟩) 0=b1;generalize cmpI .geq (xB t.files ⟨r,p,s,false,0,[]⟩) 0=b2;generalize Xl t.files r (child p s)=b3;cases b1 <;> cases b2 <;> cases b3 <;> rfl
   cases h1:cmpI .geq (xB t.files ⟨r,child p s,⟨[]⟩,true,0,[]⟩) 0 with
   | true=>rw[h1] at hst;exact hst
   |false=>
    rw[h1] at hst;rw[Kf (by decide)] at hst ⊢;cases h2:cmpI .geq (xB t.files ⟨r,p,s,false,0,[]⟩) 0 with
    | true=>rw[h2] at hst;exact hst
    |false=>
     rw[h2] at hst;rw[Kf (by decide)] at hst ⊢;refine⟨hst,?_⟩;split
     ·simp;omega
     ·omega
  ·unfold jU;simp only;rw[zI,Kf (by simp)]
 rw[hl,Kd];unfold jE;have key:∀ (rs:List Int) (k:Nat) (acc:List Int),Sum.elim (λ b14:Spec×List Int=>if(cmpI .gtr (b14.2.length:Int) (0:Int))=true then(some (⟨(3:Int),(-1:Int),b14.2⟩:Spec)) else((jj).bind λ v75=>some v75)) some (runL (λ _ (acc:List Int) r=>
   if cmpI .geq (xB t.files ⟨r,child p s,⟨[]⟩,true,0,[]⟩) 0=true then .inr (Sum.inr (⟨2,xB t.files ⟨r,child p s,⟨[]⟩,true,0,[]⟩,[r]⟩:Spec))
   else if cmpI .geq (xB t.files ⟨r,p,s,false,0,[]⟩) 0=true then .inr (Sum.inr (⟨1,xB t.files ⟨r,p,s,false,0,[]⟩,[]⟩:Spec))
   else .inl (if Xl t.files r (child p s)=true then acc++[r] else acc)) (λ acc=>Sum.inl (Wn,acc)) k acc rs)=some (wR t.files p s acc rs):=by
  intro rs
  induction rs with
  |nil=>intro k acc;unfold wR;simp only[runL,Sum.elim_inl];split <;> rfl
  |cons r rs ih=>
   intro k acc;unfold wR;rw[runL];cases h1:cmpI .geq (xB t.files ⟨r,child p s,⟨[]⟩,true,0,[]⟩) 0 with
   | true=>rw[dir_of_init hne h1];rfl
   |false=>
    rw[Bool.and_false];cases h2:cmpI .geq (xB t.files ⟨r,p,s,false,0,[]⟩) 0 with
    | true=>rfl
    | false=>exact ih _ _
 exact key roots 0 []
theorem kind_two{s:Spec}(h:okKind s):(cmpI .eql s.kind 0||cmpI .eql s.kind 1)=(cmpI .neq s.kind 2&&cmpI .neq s.kind 3):=by
 rcases h with h | h | h | h <;> rw[h] <;> rfl
theorem findName_eq(ht:Good t)(hp:path.length<=1048576){n:Str}(hn:zf n=true):YN t path n=some (find t.files path n):=by
 have hnl:=yu hn;obtain⟨hparts,hlen⟩:=xd hn;unfold YN;rw[zbE (by unfold sho;omega),hn,Ke Z,Kd];have hl:zP (λ s11=>jV t (zi n dot) s11) (Wn,(⟨(3:Int),(-1:Int),path⟩:Spec),(⟨[]⟩:Str),(0:Int))=some (runL (λ k (out:Spec) x=>
   if(cmpI .neq out.kind 2&&cmpI .neq out.kind 3)=true then .inr (Sum.inr Wg) else .inl (jE t.files out.roots (join ((zi n dot).take k)) x)) (λ out=>Sum.inl (Wn,out)) 0 ⟨3,-1,path⟩ (zi n dot)):=by
  refine JZ (σ:=Spec) (zi n dot) (λ out k=>(Wn,out,join ((zi n dot).take k),(k:Int))) _ _ (λ k out=>out.roots.length<=path.length/\okKind out) (λ k out x hx hlt hi=>?_) (λ out _=>?_) ⟨Nat.le_refl _,.inr (.inr (.inr Z))⟩ (by omega)
  ·have hpre:=pre_valid hn k;have hxv:=hparts x (List.mem_of_getElem? hx);have hch:=zex hx hparts;have hcv:=zew hn k;rw[hch] at hcv;have hst:jV t (zi n dot) (Wn,out,join ((zi n dot).take k),(k:Int))=(if(cmpI .neq out.kind 2&&cmpI .neq out.kind 3)=true then some (.inr (.inr Wg)) else some (.inl (Wn,jE t.files out.roots (join ((zi n dot).take k)) x,join ((zi n dot).take (k+1)),((k+1:Nat):Int)))):=by
    unfold jV;simp only;have hlp:=xT hpre;have hlx:=(XZ hxv).2;have he:XC (join ((zi n dot).take k)) x=child (join ((zi n dot).take k)) x:=by unfold XC;rw[hpre,hxv,hcv];rfl
    rw[zI,Ke (decide_eq_true hlt),zL,hx,Kd,kind_two hi.2,find_eq ht (by omega) hpre hxv hcv,Kd,W6 (by omega),Kd,he,zS (by omega),Kd,hch];rfl
   rw[hst];cases hk:(cmpI .neq out.kind 2&&cmpI .neq out.kind 3) with
   | true=>rfl
   |false=>refine⟨Z,?_,Qp _ _ _ _ _⟩;have:=Je t.files (join ((zi n dot).take k)) x out.roots [];unfold jE;simp only[List.length_nil] at this;omega
  ·unfold jV;simp only;rw[zI,Kf (by simp)]
 rw[hl,Kd];unfold find;have key:∀ (xs:List Str) (k:Nat) (out:Spec),Sum.elim (λ b7:Spec×Spec=>some b7.2) some (runL (λ k (out:Spec) x=>
   if(cmpI .neq out.kind 2&&cmpI .neq out.kind 3)=true then .inr (Sum.inr Wg) else .inl (jE t.files out.roots (join ((zi n dot).take k)) x)) (λ out=>Sum.inl (Wn,out)) k out xs)=some (Ze t.files (zi n dot) k out xs):=by
  intro xs
  induction xs with
  | nil=>intro k out;rfl
  |cons x xs ih=>
   intro k out;rw[runL];unfold Ze;cases(cmpI .neq out.kind 2&&cmpI .neq out.kind 3) with
   | true=>rfl
   | false=>exact ih _ _
 exact key _ 0 _
def Wl(t:Tree)(path:List Int)(n:Str):Spec:=if(zB t&&yk path&&zf n)=true then find t.files path n else Wg
theorem zdG(ht:xw t)(hp:path.length<=1048576){n:Str}(hn:sho n):jA t path n=some (Wl t path n):=by
 unfold jA;rw[Yq ht,Kd,Zw hp,xA,Kd,xu hn,xA,Kd];unfold Wl;cases hv:zB t with
 | false=>rfl
 |true=>
  cases yk path with
  | false=>rfl
  |true=>
   cases hnn:zf n with
   | false=>rfl
   |true=>rw[findName_eq ⟨ht,hv⟩ hp hnn];rfl
theorem CanFind_eq(ht:xw t)(hp:path.length<=1048576){n:Str}(hn:sho n):Yc t path n=some (cmpI .neq (Wl t path n).kind 0):=by
 unfold Yc;rw[zdG ht hp hn,Kd]
theorem zdH(c:UInt8):∀ (a l:List UInt8),cutF c (a++c::l)=cutF c a++cutF c l
 | [],l=>by simp[cutF]
 |b::a,l=>by
  rw[List.cons_append,qn,zdH c a l,qn];cases b == c with
  | true=>rfl
  |false=>
   rw[Kf (by decide),Kf (by decide)];cases hc:cutF c a with
   | nil=>exact absurd hc (Zv c a)
   | cons h t=>rfl
theorem Qq(p s:Str):zi ⟨(p.l++[46])++s.l⟩ dot=zi p dot++zi s dot:=by
 rw[yI,yI,yI,← List.map_append];show(cutF 46 ((p.l++[46])++s.l)).map Str.mk=(cutF 46 p.l++cutF 46 s.l).map Str.mk;rw[List.append_assoc,List.singleton_append,zdH]
theorem aboveRun_app(l m:List Str)(hk:k<=l.length):jR (l++m) k=jR l k:=by
 unfold jR;refine List.map_congr_left λ i hi=>?_
 have:=List.mem_range.1 hi;rw[List.take_append_of_le_length (by omega)]
theorem above_app(h:x∈wi p):x∈wi ⟨(p.l++[46])++s.l⟩:=by
 unfold wi at h ⊢;rw[Qq,List.length_append];unfold jR at h ⊢;obtain⟨i,hi,rfl⟩:=List.mem_map.1 h;have:=List.mem_range.1 hi;exact List.mem_map.2 ⟨i,List.mem_range.2 (by omega),by rw[List.take_append_of_le_length (by omega)]⟩
theorem above_self(s:Str):s∈wi s:=by
 unfold wi jR;have hne:=X7 s dot;refine List.mem_map.2 ⟨(zi s dot).length - 1,List.mem_range.2 (by omega),?_⟩;rw[show(zi s dot).length - 1+1=(zi s dot).length by omega,List.take_length,Qo]
theorem above_module{f:File}(hp:f.pkg≠emptyS)(h:x∈wi f.pkg):x∈wi (zN f):=by
 unfold zN;split
 ·exact h
 ·unfold child;rw[Kf hp];exact above_app h
theorem zdI:zb0 l s=true ↔ s∈l:=by
 unfold zb0 textAt;rw[J1,List.any_eq_true];constructor
 ·rintro ⟨x,hx,h⟩;rw[← oD h];exact hx
 ·intro h;exact⟨s,h,by simp⟩
theorem insertT_iff:x∈x8 l s ↔ x∈l\/x=s:=by
 refine⟨zdB,λ h=>?_⟩;unfold x8;split
 ·rename_i hc;rcases h with h | h
  ·exact h
  ·rw[h];exact zdI.1 hc
 ·rcases h with h | h
  ·simp only[List.mem_append,List.mem_singleton];have:=List.take_append_drop (jS l s l.length) l;rw[← this,List.mem_append] at h;rcases h with h | h
   ·exact .inl (.inl h)
   ·exact .inr h
  ·simp[h]
theorem insertAll_iff:x∈m.foldl x8 l ↔ x∈l\/x∈m:=by
 induction m generalizing l with
 | nil=>simp
 | cons y m ih=>rw[List.foldl_cons,ih,insertT_iff,List.mem_cons,or_assoc]
theorem names_iff:x∈names t ↔ ∃ f∈t.files,x∈wi (zN f):=by
 have key:∀ (l:List File) (out:List Str),x∈l.foldl (λ out f=>(wi (zN f)).foldl x8 out) out ↔ x∈out\/∃ f∈l,x∈wi (zN f):=by
  intro l
  induction l with
  | nil=>intro out;simp
  | cons f l ih=>intro out;rw[List.foldl_cons,ih,insertAll_iff];simp[or_assoc]
 unfold names Zd;rw[key];simp
theorem zbm{t:List File}{list:List Str}:∀ (xs:List Str) (k:Nat) (out:Spec) (x:Str),Ze t list k out (xs++[x])=Wg\/∃ r,Ze t list k out (xs++[x])=jE t r (join (list.take (k+xs.length))) x
 |[],k,out,x=>by
  rw[List.nil_append];unfold Ze Ze;split
  ·exact .inl Z
  ·exact .inr ⟨_,Z⟩
 |y::xs,k,out,x=>by
  rw[List.cons_append];unfold Ze;split
  ·exact .inl Z
  ·have:=zbm (t:=t) (list:=list) xs (k+1) (jE t out.roots (join (list.take k)) y) x;rwa[show k+1+xs.length=k+(y::xs).length by simp;omega] at this
theorem find_last{t:List File}{n:Str}(hn:zf n=true):find t path n=Wg\/∃ r p s,find t path n=jE t r p s/\child p s=n:=by
 obtain⟨hparts,_⟩:=xd hn;have hne:=X7 n dot;obtain⟨xs,x,hxs⟩:∃ xs x,zi n dot=xs++[x]:=by
  have h0:zi n dot≠[]:=by intro e;rw[e] at hne;simp at hne
  exact⟨_,_,(List.dropLast_concat_getLast h0).symm⟩
 unfold find;have hg:(zi n dot)[xs.length]?=some x:=by rw[hxs];simp
 have hj:=zex hg hparts;rw[show xs.length+1=(zi n dot).length by rw[hxs];simp,List.take_length,Qo] at hj;have:=zbm (t:=t) (list:=zi n dot) xs 0 ⟨3,-1,path⟩ x;rw[← hxs,Nat.zero_add] at this;rcases this with h | ⟨r,h⟩
 ·exact .inl h
 ·exact .inr ⟨r,_,_,h,hj.symm⟩
theorem bytesLt:∀ (x y:List UInt8),Op.bytesLess x y=decide (x<y)
 | [],[]=>by simp[Op.bytesLess]
 | _::_,[]=>by simp[Op.bytesLess]
 | [],_::_=>by simp[Op.bytesLess]
 |a::x,b::y=>by
  rw[Op.bytesLess,bytesLt x y];simp only[List.cons_lt_cons_iff];by_cases h1:a<b <;> by_cases h2:a=b <;> by_cases h3:x<y <;> simp[h1,h2,h3]
def Asc(l:List Str):Prop:=l.Pairwise λ x y=>x.l<y.l
theorem asc_ext:∀ {l m:List Str},Asc l->Asc m->(∀ x,x∈l ↔ x∈m)->l=m
 | [],[],_,_,_=>rfl
 | [],b::m,_,_,h=>absurd ((h b).2 (by simp)) (by simp)
 | a::l,[],_,_,h=>absurd ((h a).1 (by simp)) (by simp)
 |a::l,b::m,hl,hm,h=>by
  rw[Asc,List.pairwise_cons] at hl hm;have hab:a=b:=by
   rcases List.mem_cons.1 ((h a).1 (by simp)) with e | e
   ·exact e
   ·rcases List.mem_cons.1 ((h b).2 (by simp)) with e2 | e2
    ·exact e2.symm
    ·exact absurd (List.lt_trans (hm.1 a e) (hl.1 b e2)) (List.lt_irrefl _)
  subst hab;rw[asc_ext hl.2 hm.2 λ x=>?_];constructor
  ·intro hx;rcases List.mem_cons.1 ((h x).1 (by simp[hx])) with e | e
   ·rw[e] at hx;exact absurd (hl.1 a hx) (List.lt_irrefl _)
   ·exact e
  ·intro hx;rcases List.mem_cons.1 ((h x).2 (by simp[hx])) with e | e
   ·rw[e] at hx;exact absurd (hm.1 a hx) (List.lt_irrefl _)
   ·exact e
theorem Jk{b:List UInt8}(h:a<=b)(hne:a≠b):a<b:=by
 rcases Decidable.em (a<b) with h' | h'
 ·exact h'
 ·exact absurd (List.le_antisymm h (List.not_lt.1 h')) hne
theorem zcu(d:Array (List UInt8))(hd:∀ i j,i<=j->j<d.size->d[i]! <= d[j]!):∀ m,m<=d.size->
  (Lib.compactUpTo d m).Pairwise (·<·)/\(∀ x,x∈Lib.compactUpTo d m ↔ ∃ j,j<m/\d[j]! = x)
 | 0,_=>⟨by simp[Lib.compactUpTo],λ x=>by simp[Lib.compactUpTo]⟩
 |m+1,hm=>by
  obtain⟨h1,h2⟩:=zcu d hd m (by omega);rw[Lib.compactUpTo_succ];cases hk:Lib.keeps d m with
  |true=>
   rw[Ke Z];refine⟨List.pairwise_append.2 ⟨h1,by simp,λ a ha b hb=>?_⟩,λ x=>?_⟩
   ·rw[List.mem_singleton] at hb;subst hb;obtain⟨j,hj,rfl⟩:=(h2 a).1 ha;have hk':m=0\/d[m]! ≠ d[m - 1]! := oD hk;rcases hk' with e | e
    ·omega
    ·have hlt:=Jk (hd (m - 1) m (by omega) (by omega)) (Ne.symm e);rcases Decidable.em (d[j]! = d[m - 1]!) with e2 | e2
     ·rw[e2];exact hlt
     ·exact List.lt_trans (Jk (hd j (m - 1) (by omega) (by omega)) e2) hlt
   ·rw[List.mem_append,h2,List.mem_singleton];constructor
    ·rintro (⟨j,hj,h⟩ | h)
     ·exact⟨j,by omega,h⟩
     ·exact⟨m,by omega,h.symm⟩
    ·rintro ⟨j,hj,h⟩
     by_cases hjm:j=m
     ·subst hjm;exact .inr h.symm
     ·exact .inl ⟨j,by omega,h⟩
  |false=>
   rw[Kf (by decide),List.append_nil];refine⟨h1,λ x=>?_⟩;rw[h2];have hk':¬ (m=0\/d[m]! ≠ d[m - 1]!):=of_decide_eq_false hk;constructor
   ·rintro ⟨j,hj,h⟩;exact⟨j,by omega,h⟩
   ·rintro ⟨j,hj,h⟩
    by_cases hjm:j=m
    ·subst hjm;refine⟨j - 1,by omega,?_⟩;rw[← h];exact(Decidable.byContradiction λ e=>hk' (.inr (Ne.symm e)))
    ·exact⟨j,by omega,h⟩
def Yr(xs:List Str):List Str:=ZA (JM xs)
theorem le_dec_trans(a b c:List UInt8)(h1:decide (a<=b)=true)(h2:decide (b<=c)=true):decide (a<=c)=true:=
 decide_eq_true (List.le_trans (oD h1) (oD h2))
theorem le_dec_total(a b:List UInt8):(decide (a<=b)||decide (b<=a))=true:=by
 rcases List.le_total a b with h | h <;> simp[h]
theorem Qr(xs:List Str):Asc (Yr xs)/\∀ x,x∈Yr xs ↔ x∈xs:=by
 have hs:=List.pairwise_mergeSort (le:=λ x y:List UInt8=>decide (x<=y)) le_dec_trans le_dec_total (xs.map (·.l));have hm:∀ y,y∈(xs.map (·.l)).mergeSort (λ x y=>decide (x<=y)) ↔ y∈xs.map (·.l):=λ y=>List.mem_mergeSort
 unfold Yr ZA;rw[sortS_l];generalize (xs.map (·.l)).mergeSort (λ x y=>decide (x<=y))=zs at hs hm;have hd:∀ i j,i<=j->j<zs.toArray.size->zs.toArray[i]! <= zs.toArray[j]! := by
  intro i j hij hj;have hj':j<zs.length:=by simpa using hj
  by_cases e:i=j
  ·subst e;exact List.le_refl _
  ·have:=List.pairwise_iff_getElem.1 hs i j (by omega) hj' (by omega);simpa[getElem!_pos,hj',show i<zs.length by omega] using this
 obtain⟨h1,h2⟩:=zcu zs.toArray hd zs.length (by simp);refine⟨?_,λ x=>?_⟩
 ·unfold Asc Lib.compact;rw[List.pairwise_map];exact h1
 ·have hmem:∀ y,y∈Lib.compact zs ↔ y∈xs.map (·.l):=by
   intro y;rw[← hm];unfold Lib.compact;rw[h2];constructor
   ·rintro ⟨j,hj,rfl⟩
    rw[show zs.toArray[j]! = zs[j] from by simp[getElem!_pos,hj]];exact List.getElem_mem hj
   ·intro hy;obtain⟨j,hj,rfl⟩:=List.mem_iff_getElem.1 hy;exact⟨j,hj,by simp[getElem!_pos,hj]⟩
  rw[List.mem_map];constructor
  ·rintro ⟨y,hy,rfl⟩
   obtain⟨z,hz,rfl⟩:=List.mem_map.1 ((hmem y).1 hy);exact hz
  ·intro hx;exact⟨x.l,(hmem _).2 (List.mem_map.2 ⟨x,hx,Z⟩),Z⟩
theorem zan(xs:List Str):(Yr xs).length<=xs.length:=by
 unfold Yr ZA;rw[List.length_map,sortS_l];refine Nat.le_trans (Lib.compact_length_le _) ?_;simp
theorem WE{xs:List Str}(h:xs.length<=1099511627776:=by simp):ZN xs=some (Yr xs):=by
 have h2:=zan xs;unfold ZN wx;rw[Ke (by omega),Kd];unfold xM;rw[Ke (by rw[zcW];omega),Kd];show(appO 16 [] (Yr xs)).bind (λ v11=>some v11)=_;rw[xb (by simp;omega) (by simp;omega)];rfl
theorem gtr_lt{y:Str}:cmpS .gtr x y=decide (y.l<x.l):=by
 show(!(Op.bytesLess x.l y.l||decide (x=y)))=_;rw[bytesLt];by_cases h:x=y
 ·subst h;simp[List.lt_irrefl]
 ·have hne:x.l≠y.l:=λ e=>h (by cases x;cases y;simp_all)
  by_cases h2:x.l<y.l
  ·have:¬ y.l<x.l:=λ h3=>List.lt_irrefl _ (List.lt_trans h2 h3)
   simp[h2,this]
  ·have:y.l<x.l:=Jk (List.not_lt.1 h2) (Ne.symm hne);simp[h,h2,this]
theorem insPos_le(l:List Str)(s:Str):∀ k,jS l s k<=k
 | 0=>Nat.le_refl _
 |k+1=>by
  unfold jS;split
  ·split
   ·have:=insPos_le l s k;omega
   ·exact Nat.le_refl _
  ·exact Nat.le_refl _
theorem zdJ{l:List Str}{s:Str}:∀ k,k<=l.length->(∀ j y,l[j]?=some y->jS l s k<=j->j<k->s.l<y.l)/\(∀ y,0<jS l s k->l[jS l s k - 1]?=some y->¬ s.l<y.l)
 | 0,_=>⟨λ j _ _ _ h=>absurd h (by omega),λ _ h=>absurd h (by simp[jS])⟩
 |k+1,hk=>by
  have hx:l[k]?=some l[k]:=List.getElem?_eq_getElem (by omega);by_cases h:s.l<l[k].l
  ·have e:jS l s (k+1)=jS l s k:=by
    conv=>lhs;unfold jS
    rw[hx];simp only;rw[gtr_lt,Ke (decide_eq_true h)]
   rw[e];obtain⟨h1,h2⟩:=zdJ (l:=l) (s:=s) k (by omega);refine⟨λ j y hj hj1 hj2=>?_,h2⟩;by_cases e:j=k
   ·subst e;rw[hx] at hj;injection hj with hj;rw[← hj];exact h
   ·exact h1 j y hj hj1 (by omega)
  ·have e:jS l s (k+1)=k+1:=by
    unfold jS;rw[hx];simp only;rw[gtr_lt,Kf (by simpa using h)]
   rw[e];refine⟨λ j _ _ h1 h2=>by omega,λ y _ hy=>?_⟩;rw[Nat.add_sub_cancel,hx] at hy;injection hy with hy;rw[← hy];exact h
theorem insertT_asc(hl:Asc l):Asc (x8 l s):=by
 unfold x8;cases hc:zb0 l s with
 | true=>exact hl
 |false=>
  rw[Kf (by decide)];have hns:s ∉ l:=λ h=>by rw[zdI.2 h] at hc;cases hc
  obtain⟨h1,h2⟩:=zdJ (l:=l) (s:=s) l.length (Nat.le_refl _);have hle:=insPos_le l s l.length;generalize jS l s l.length=p at*;have hpw:=List.pairwise_iff_getElem.1 hl;have hlow:∀ a∈l.take p,a.l<s.l:=by
   intro a ha;obtain⟨i,hi,rfl⟩:=List.mem_take_iff_getElem.1 ha;have hp:=h2 l[p - 1] (by omega) (List.getElem?_eq_getElem (by omega));have hlt:l[p - 1].l<s.l:=Jk (List.not_lt.1 hp) λ e=>hns (by
    have:l[p - 1]=s:=by
     cases hq:l[p - 1] with
     | mk q=>rw[hq] at e;cases s;simp_all
    rw[← this];exact List.getElem_mem _)
   by_cases e:i=p - 1
   ·subst e;exact hlt
   ·exact List.lt_trans (hpw i (p - 1) (by omega) (by omega) (by omega)) hlt
  have hhigh:∀ b∈l.drop p,s.l<b.l:=by
   intro b hb;obtain⟨i,hi,rfl⟩:=List.mem_drop_iff_getElem.1 hb;exact h1 _ _ (List.getElem?_eq_getElem _) (by omega) (by omega)
  unfold Asc;rw[List.append_assoc,List.pairwise_append];refine⟨hl.sublist (List.take_sublist _ _),?_,λ a ha b hb=>?_⟩
  ·rw[List.singleton_append,List.pairwise_cons];exact⟨hhigh,hl.sublist (List.drop_sublist _ _)⟩
  ·rw[List.singleton_append,List.mem_cons] at hb;rcases hb with rfl | hb
   ·exact hlow a ha
   ·exact List.lt_trans (hlow a ha) (hhigh b hb)
theorem insertAll_asc(hl:Asc l):Asc (m.foldl x8 l):=by
 induction m generalizing l with
 | nil=>exact hl
 | cons x m ih=>rw[List.foldl_cons];exact ih (insertT_asc hl)
theorem names_asc(t:Tree):Asc (names t):=by
 have key:∀ (l:List File) (out:List Str),Asc out->Asc (l.foldl (λ out f=>(wi (zN f)).foldl x8 out) out):=by
  intro l
  induction l with
  | nil=>intro out h;exact h
  | cons f l ih=>intro out h;rw[List.foldl_cons];exact ih _ (insertAll_asc h)
 exact key _ _ List.Pairwise.nil
section
variable{S β:Type}
theorem Xe{step:S->Option (S⊕β)}(n:Nat)(mk:Nat->S){b:β}(h:∀ k,k<n->step (mk k)=some (.inl (mk (k+1))))(hend:step (mk n)=some (.inr b))(hn:n<576460752303423488){s:S}(hs:s=mk 0):zP step s=some b:=by
 subst hs;have key:∀ m k,k+m=n->qb step (m+1) (mk k)=some b:=by
  intro m
  induction m with
  | zero=>intro k hk;rw[show k=n by omega];exact xS hend
  | succ m ih=>intro k hk;rw[ZR (h k (by omega))];exact ih (k+1) (by omega)
 exact Yg (key n 0 (by omega)) (by omega)
end
theorem zcv{l:List α}(h:k<l.length):∃ x,l[k]?=some x/\x∈l:=⟨l[k],List.getElem?_eq_getElem h,List.getElem_mem h⟩
theorem libJoin(l:List (List UInt8)):Lib.join l [46]=J2 l:=by
 cases l with
 | nil=>rfl
 |cons a l=>rw[zbF];rw[Lib.join_cons];rfl
theorem NamesAbove_eq(hs:sho s):ZW s=some (if zf s=true then wi s else[]):=by
 unfold ZW;rw[zbE hs,Kd];cases hv:zf s with
 |false=>rw[Kf (by decide),Kf (by decide),show zP (λ s7=>wr s [] s7) ([],(0:Int))=some [] from Xe (b:=[]) 0 (λ k=>(([]:List Str),(k:Int))) (λ k hk=>absurd hk (by omega)) (by unfold wr;simp only;rw[Kf (by decide)]) (by omega) Z];rfl
 |true=>
  obtain⟨hparts,hlen⟩:=xd hv;have hnl:=yu hv;have hl:zP (λ s7=>wr s (zi s dot) s7) ([],(0:Int))=some (wi s):=by
   refine Xe (b:=wi s) (zi s dot).length (λ k=>(jR (zi s dot) k,(k:Int))) (λ k hk=>?_) (by unfold wr;simp only;rw[zI,Kf (by simp)];rfl) (by omega) Z;unfold wr;simp only;have hj:y7 ((zi s dot).take (k+1)) (⟨[46]⟩:Str)=some (join ((zi s dot).take (k+1))):=by
    have hb:=join_le (zi s dot) (k+1);rw[qI] at hb;have e:(⟨Lib.join (((zi s dot).take (k+1)).map (·.l)) [46]⟩:Str)=join ((zi s dot).take (k+1)):=by rw[libJoin,Qn]
    unfold y7;rw[Ke ⟨by simp;omega,by
     have:=congrArg (λ x:Str=>x.l.length) e;simp only at this;rw[this];omega⟩]
    exact congrArg some e
   rw[zI,Ke (decide_eq_true hk),zbE hs,hv,Ke Z,Kd,zS (by omega),Kd,WD (by omega),Kd,hj,Kd,xb (by simp[Xk];omega) (by simp[Xk];omega),Kd,Kd,Jr]
  rw[Ke Z,Ke Z,hl];rfl
theorem YL(h:zB t=true):t.files.length<=12:=by
 unfold zB at h;rw[Bool.and_eq_true] at h;have:=h.2;simp[cmpI] at this;omega
theorem above_len(s:Str):(wi s).length=(zi s dot).length:=Xk _ _
theorem above_valid(h:zf s=true)(hx:x∈wi s):zf x=true:=by
 unfold wi jR at hx;obtain⟨i,_,rfl⟩:=List.mem_map.1 hx;exact zew h i
def modOf(f:File):Str:=if yC f=true then zN f else emptyS
def Yx(f:File):List Str:=if zf f.pkg=true then wi f.pkg else[]
theorem zey(f:File):(Yx f).length<=3:=by
 unfold Yx;split
 ·rename_i h;rw[above_len];exact(xd h).2
 ·exact Nat.zero_le _
theorem flat_len(l:List File):(l.flatMap Yx).length<=3*l.length:=by
 induction l with
 | nil=>exact Nat.le_refl _
 | cons f l ih=>have:=zey f;rw[List.flatMap_cons,List.length_append,List.length_cons];omega
theorem zao:Yr []=[]:=by unfold Yr;rw[zcX,compactS_nil]
theorem ModulesOf_eq(ht:xw t):Yn t=some (if zB t=true then Yr (t.files.map modOf) else[]):=by
 unfold Yn;rw[Yq ht,Kd];cases hv:zB t with
 |false=>rw[Kf (by decide),Kf (by decide),Kd,WE,Kd,zao]
 |true=>
  have hlen:=YL hv;have hl:zP (λ s10=>qY t s10) ([],(0:Int))=some (t.files.map modOf):=by
   refine Xe (b:=t.files.map modOf) t.files.length (λ k=>((t.files.take k).map modOf,(k:Int))) (λ k hk=>?_) (by unfold qY;simp only;rw[zI,Kf (by simp),List.take_length]) (by omega) Z;obtain⟨f,hf,hm⟩:=zcv hk;unfold qY;simp only;rw[zI,Ke (decide_eq_true hk),zL,hf,Kd,ModuleOf_eq (ht.2 f hm),Kd,xb (by simp;omega) (by simp;omega),Kd,zS (by omega),Kd,map_next hf];rfl
  rw[Ke Z,Ke Z,hl];rw[Kd,WE (h:=(by simp;omega)),Kd]
theorem PackagesOf_eq(ht:xw t):ZX t=some (if zB t=true then Yr (t.files.flatMap Yx) else[]):=by
 unfold ZX;rw[Yq ht,Kd];cases hv:zB t with
 |false=>rw[Kf (by decide),Kf (by decide),Kd,WE,Kd,zao]
 |true=>
  have hlen:=YL hv;have hl:zP (λ s10=>qz t s10) ([],(0:Int))=some (t.files.flatMap Yx):=by
   refine Xe (b:=t.files.flatMap Yx) t.files.length (λ k=>((t.files.take k).flatMap Yx,(k:Int))) (λ k hk=>?_) (by unfold qz;simp only;rw[zI,Kf (by simp),List.take_length]) (by omega) Z;obtain⟨f,hf,hm⟩:=zcv hk;have h1:=flat_len (t.files.take k);have h2:=zey f;rw[List.length_take] at h1;unfold qz;simp only;rw[zI,Ke (decide_eq_true hk),zL,hf,Kd,NamesAbove_eq (ht.2 f hm).shop,Kd];show(appO 16 ((t.files.take k).flatMap Yx) (Yx f)).bind _=_;rw[xb (by omega) (by omega),Kd,zS (by omega),Kd,List.take_add_one,hf,List.flatMap_append];simp
  rw[Ke Z,Ke Z,hl];have:=flat_len t.files;rw[Kd,WE (h:=(by omega)),Kd]
theorem zap(h:zD s=true):zi s dot=[s]:=by
 rw[yI];show(cutF 46 s.l).map Str.mk=[s];rw[zam 46 s.l (zbl h)];rfl
theorem JE{f:File}(h:yC f=true)(x:Str):x∈wi (zN f) ↔ x=modOf f\/x∈Yx f:=by
 have hp:=XY h;have hm:modOf f=zN f:=Ke h;rw[hm];unfold zx at hp;by_cases he:f.pkg=emptyS
 ·have h0:Yx f=[]:=by unfold Yx;rw[he,qq];rfl
  rw[h0];have hone:wi (zN f)=[zN f]:=by
   have hpart:zD (zN f)=true:=by
    unfold yC at h;split at h
    ·cases h
    ·cases hi:f.init with
     | true=>rw[hi,Ke Z] at h;simp[he] at h
     |false=>rw[hi,Kf (by decide),Bool.and_eq_true] at h;unfold zN child;rw[hi,Kf (by decide),Ke he];exact h.1
   unfold wi;rw[zap hpart];show[join [zN f]]=[zN f];rw[Qn];rfl
  rw[hone];simp
 ·have hn:zf f.pkg=true:=by simpa[he] using hp
  have h0:Yx f=wi f.pkg:=by unfold Yx;rw[Ke hn]
  rw[h0];constructor
  ·intro hx;unfold yC at h;split at h
   ·cases h
   ·cases hi:f.init with
    |true=>unfold zN at hx;rw[hi,Ke Z] at hx;exact .inr hx
    |false=>
     rw[hi,Kf (by decide),Bool.and_eq_true] at h;have hmod:zN f=⟨(f.pkg.l++[46])++f.name.l⟩:=by unfold zN child;rw[hi,Kf (by decide),Kf he]
     have hsp:zi (zN f) dot=zi f.pkg dot++[f.name]:=by rw[hmod,Qq,zap h.1]
     unfold wi at hx;rw[hsp,List.length_append,List.length_singleton,Jr,List.mem_append,List.mem_singleton,aboveRun_app _ _ (Nat.le_refl _)] at hx;rcases hx with hx | hx
     ·exact .inr hx
     ·left
      rw[hx,List.take_of_length_le (by simp),← hsp,Qo]
  ·rintro (hx | hx)
   ·rw[hx];exact above_self _
   ·exact above_module he hx
theorem allNames_eq(ht:xw t):YO t=some (if zB t=true then names t else[]):=by
 unfold YO;rw[ModulesOf_eq ht,Kd,PackagesOf_eq ht,Kd];cases hv:zB t with
 |false=>rw[Kf (by decide),Kf (by decide),Kf (by decide),xb (by simp) (by simp),Kd,WE,Kd,List.append_nil,zao]
 |true=>
  have hlen:=YL hv;have h1:=zan (t.files.map modOf);have h2:=zan (t.files.flatMap Yx);have h3:=flat_len t.files;rw[List.length_map] at h1;rw[Ke Z,Ke Z,Ke Z,xb (by omega) (by omega),Kd,WE (h:=(by rw[List.length_append];omega)),Kd]
  congr 1
  obtain⟨ha,hm⟩:=Qr (Yr (t.files.map modOf)++Yr (t.files.flatMap Yx));refine asc_ext ha (names_asc t) λ x=>?_
  rw[hm,names_iff,List.mem_append,(Qr _).2,(Qr _).2,List.mem_map,List.mem_flatMap];constructor
  ·rintro (⟨f,hf,rfl⟩ | ⟨f,hf,hx⟩)
   ·exact⟨f,hf,(JE (j6 hv hf) _).2 (.inl Z)⟩
   ·exact⟨f,hf,(JE (j6 hv hf) _).2 (.inr hx)⟩
  ·rintro ⟨f,hf,hx⟩
   rcases(JE (j6 hv hf) _).1 hx with h | h
   ·exact .inl ⟨f,hf,h.symm⟩
   ·exact .inr ⟨f,hf,h⟩
theorem zaq(hv:zB t=true)(hx:x∈names t):zf x=true:=by
 obtain⟨f,hf,h⟩:=names_iff.1 hx;exact above_valid (zbj (j6 hv hf)) h
theorem wk(h:zf x=true):sho x:=by have:=yu h;unfold sho;omega
theorem FoundNames_eq(ht:xw t)(hp:path.length<=1048576):ZY t path=some (qJ t path):=by
 unfold ZY qJ;rw[allNames_eq ht,Kd];cases hv:zB t with
 |false=>rw[Kf (by decide),Ke (by rfl),show zP (λ s7=>wt t path [] s7) ([],(0:Int))=some [] from Xe (b:=[]) 0 (λ k=>(([]:List Str),(k:Int))) (λ k hk=>absurd hk (by omega)) (by unfold wt;simp only;rw[Kf (by decide)]) (by omega) Z,Kd]
 |true=>
  have hlen:=zcT ht;have hl:zP (λ s7=>wt t path (names t) s7) ([],(0:Int))=some ((names t).filter λ n=>cmpI .neq (Wl t path n).kind 0):=by
   refine Xe (b:=(names t).filter λ n=>cmpI .neq (Wl t path n).kind 0) (names t).length (λ k=>(((names t).take k).filter λ n=>cmpI .neq (Wl t path n).kind 0,(k:Int))) (λ k hk=>?_) (by unfold wt;simp only;rw[zI,Kf (by simp),List.take_length]) (by omega) Z;obtain⟨n,hn,hm⟩:=zcv hk;unfold wt;simp only;have hfl:(((names t).take k).filter λ n=>cmpI .neq (Wl t path n).kind 0).length<=(names t).length:=Nat.le_trans (List.length_filter_le _ _) (by rw[List.length_take];omega);rw[zI,Ke (decide_eq_true hk),zL,hn,Kd,CanFind_eq ht hp (wk (zaq hv hm)),Kd,xb (by rw[List.length_singleton];omega) (by rw[List.length_singleton];omega),zS (by omega),QS hn];cases cmpI .neq (Wl t path n).kind 0 with
   | true=>rfl
   |false=>show some _=_;simp
  rw[Ke Z,hl];rw[Kd]
  congr 1
  cases hpv:yk path with
  |false=>
   rw[Ke (by rfl),List.filter_eq_nil_iff];intro x _;unfold Wl;rw[hv,hpv];simp only[Bool.and_false,Bool.false_and,Bool.false_eq_true,if_false]
   decide
  |true=>
   rw[Kf (by decide)];refine List.filter_congr λ x hx=>?_
   unfold Wl Xm;rw[hv,hpv,zaq hv hx];rfl
theorem atI_file{l:List File}{n:Int}(h0:0<=n)(h:n<l.length):atI l n=some ((l[n.toNat]?).getD default):=by
 unfold atI;rw[Ke h0];exact get_def h0 h
open Go.RowKit
def Okd{α:Type}[Rep α](x:α):Prop:=∃ M w cs,Rep.rdc M w cs x
section
variable{α β:Type}[Rep α][Rep β]
theorem Okd.fld{get:α->β}(f:Fld get off){x:α}(h:Okd x):Okd (get x):=by
 obtain⟨M,w,cs,hr⟩:=h;obtain⟨c,_,h2⟩:=f.sub hr;exact⟨M,w,c,h2⟩
theorem Okd.len{xs:List α}(h:Okd xs):xs.length<=9223372036854775807:=by
 obtain⟨M,w,cs,A,c,_,h1,h2,_⟩:=h;exact Nat.le_trans h1 h2
theorem rowR_okd{M:Nat->Prop}{w:World}:∀ {cells:List Value} {xs:List α},rowR M w cells xs->∀ x∈xs,Okd x
 | _,_::_,⟨c,_r,_,h1,h2⟩,x,hx=>(List.mem_cons.1 hx).elim (λ e=>e ▸ ⟨M,w,c,h1⟩) (rowR_okd h2 x)
theorem Okd.mem{xs:List α}(h:Okd xs){x:α}(hx:x∈xs):Okd x:=by
 obtain⟨M,w,cs,A,c,_,_,_,h3⟩:=h;rcases h3 with h3 | ⟨b,o,cells,_,_,_,hr⟩
 ·rw[h3] at hx;cases hx
 ·exact rowR_okd hr x hx
end
section
variable{α β σ S:Type}
end
section
variable{α:Type}
variable[Decidable q]
end
theorem i64_in{n:Int}(h1:0<=n)(h2:n<=4611686018427387904):i64 n=some n:=xx (by omega) (by omega)
theorem modO_of{m n:Int}(h:n≠0):modO m n=some (m.tmod n):=Kf h
theorem divO_of{m n:Int}(h:n≠0)(h2:0<=m.tdiv n)(h3:m.tdiv n<=9223372036854775807):divO m n=some (m.tdiv n):=Kf (by omega)
end Go.Proofs.YtifgdhfcoaognaaGreatDoor
