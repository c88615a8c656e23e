import Derived.Test.YtandbaloaenciaaGreatDoorRFb
import Derived.Test.YtandbaloaenciaaGreatDoorRB
import Derived.Test.YtandbaloaenciaaGreatDoorRG
import Derived.Test.YtandbaloaenciaaGreatDoorRKc
namespace Go.Proofs.YtandbaloaenciaaGreatDoor
variable{f:File}{r:Int}{roots xs:List Int}{b:List Stmt}{l:List Str}{k m off:Nat}{K:Option Bool}{q:Prop}{p s x:Str}{t:Tree}{c:UInt8}
section
variable{α β σ S:Type}
theorem zG(xs:List α)(k:Nat):atI xs (k:Int)=xs[k]?:=by simp[atI]
theorem xb{n:Int}(h1:-9223372036854775808<=n)(h2:n<=9223372036854775807):i64 n=some n:=Ke ⟨h1,h2⟩
theorem zQ(h:k<4611686018427387904):i64 ((k:Int)+1)=some ((k+1:Nat):Int):=by rw[xb (by omega) (by omega)];rfl
theorem zV[Inhabited α](g:Bool)(x:α):gO g (some x)=some (if g=true then x else default):=by unfold gO;split <;> rfl
theorem jD[Inhabited α](e:Option α):gO true e=e:=rfl
theorem Xs[Inhabited α](e:Option α):gO false e=some default:=rfl
theorem zD(k n:Nat):cmpI .lss (k:Int) (n:Int)=decide (k<n):=by simp[cmpI]
theorem yg{b:Nat}{xs ys:List α}(h:(xs.length+ys.length)*b<=140737488355328)(h2:xs.length+ys.length<=9223372036854775807):appO b xs ys=some (xs++ys):=Ke ⟨h,h2⟩
theorem zah(h:k<=s.l.length):cutHO s (k:Int)=some ⟨s.l.take k⟩:=by unfold cutHO;rw[Ke ⟨by omega,by omega⟩];rfl
theorem zai(h:k<=s.l.length):cutLO s (k:Int)=some ⟨s.l.drop k⟩:=by unfold cutLO;rw[Ke ⟨by omega,by omega⟩];rfl
theorem XM{xs:List α}(h:k<=xs.length):ZX xs (k:Int)=some (xs.take k):=by unfold ZX;rw[Ke ⟨by omega,by omega⟩];rfl
theorem setO_nat{xs:List α}{y:α}(h:k<xs.length):setO xs (k:Int) y=some (xs.set k y):=by unfold setO;rw[Ke ⟨by omega,by omega⟩];rfl
theorem Ww{m n:Str}(h:m.l.length+n.l.length<=9223372036854775807):catO m n=some ⟨m.l++n.l⟩:=Ke h
theorem wX{step:S->Option (S⊕β)}{s s':S}{n:Nat}(h:step s=some (.inl s')):jt step (n+1) s=jt step n s':=by rw[jt,h]
theorem yD{step:S->Option (S⊕β)}{s:S}{b:β}{n:Nat}(h:step s=some (.inr b)):jt step (n+1) s=some b:=by rw[jt,h]
theorem iterM_mono{step:S->Option (S⊕β)}{r:β}:∀ (m j:Nat) (s:S),jt step m s=some r->jt step (m+j) s=some r:=by
 intro m
 induction m with
 | zero=>intro j s h;simp[jt] at h
 |succ m ih=>
  intro j s h;rw[show m+1+j=(m+j)+1 by omega];unfold jt at h ⊢;split at h
  ·cases h
  ·exact ih j _ h
  ·exact h
theorem qt{step:S->Option (S⊕β)}{r:β}{s:S}(h:jt step m s=some r)(hm:m<=1152921504606846976):zI step s=some r:=by
 unfold zI;have:=iterM_mono m (1152921504606846976 - m) s h;rwa[show m+(1152921504606846976 - m)=1152921504606846976 by omega] at this
def runL(R:Nat->σ->α->σ⊕β)(fin:σ->β):Nat->σ->List α->β
 | _,s,[]=>fin s
 |k,s,x::xs=>match R k s x with
  | .inl s'=>runL R fin (k+1) s' xs
  | .inr b=>b
theorem zbH{step:S->Option (S⊕β)}(xs:List α)(mk:σ->Nat->S)(R:Nat->σ->α->σ⊕β)(fin:σ->β)(Inv:Nat->σ->Prop)
  (h:∀ k s x,xs[k]?=some x->k<xs.length->Inv k s->match R k s x with
   | .inl s'=>step (mk s k)=some (.inl (mk s' (k+1)))/\Inv (k+1) s'
   | .inr b=>step (mk s k)=some (.inr b))
  (hend:∀ s,Inv xs.length s->step (mk s xs.length)=some (.inr (fin s))) {s0:σ} (h0:Inv 0 s0) (hlen:xs.length<576460752303423488):zI step (mk s0 0)=some (runL R fin 0 s0 xs):=by
 have key:∀ m k s,k+m=xs.length->Inv k s->jt step (m+1) (mk s k)=some (runL R fin k s (xs.drop k)):=by
  intro m
  induction m with
  |zero=>
   intro k s hk hi;have:k=xs.length:=by omega
   subst this;rw[List.drop_length,runL,jt,hend s hi]
  |succ m ih=>
   intro k s hk hi;have hlt:k<xs.length:=by omega
   have hx:xs[k]?=some xs[k]:=List.getElem?_eq_getElem hlt;rw[List.drop_eq_getElem_cons hlt,runL,jt];have hr:=h k s xs[k] hx hlt hi;cases e:R k s xs[k] with
   |inl s'=>rw[e] at hr;simp only at hr;rw[hr.1];exact ih (k+1) s' (by omega) hr.2
   |inr b=>rw[e] at hr;simp only at hr;rw[hr]
 exact qt (key xs.length 0 s0 (by omega) h0) (by omega)
theorem loop_find{step:Int->Option (Int⊕β)}(xs:List α)(R:Nat->α->Option β)(e:β)
  (h:∀ k x,xs[k]?=some x->k<xs.length->step (k:Int)=some (match R k x with | none=>.inl ((k+1:Nat):Int) | some b=>.inr b))
  (hend:step (xs.length:Int)=some (.inr e)) (hlen:xs.length<576460752303423488) {s:Int} (hs:s=0):
  zI step s=some (runL (λ k (_:Unit) x=>match R k x with | none=>.inl () | some b=>.inr b) (λ _=>e) 0 () xs):=by
 subst hs;refine zbH (σ:=Unit) xs (λ _ k=>(k:Int)) _ _ (λ _ _=>True) (λ k s x hx hlt _=>?_) (λ _ _=>hend) trivial hlen;have:=h k x hx hlt;cases hR:R k x with
 | none=>rw[hR] at this;exact⟨this,trivial⟩
 | some b=>rw[hR] at this;exact this
theorem runL_any(p:α->Bool)(b e:β):∀ (k:Nat) (xs:List α),runL (λ _ (_:Unit) x=>match (if p x=true then some b else none) with | none=>.inl () | some b=>.inr b) (λ _=>e) k () xs=if xs.any p=true then b else e
 | _,[]=>rfl
 |k,x::xs=>by
  cases h:p x with
  | true=>simp[runL,h]
  | false=>simp only[runL,h];rw[List.any_cons,h,Bool.false_or];exact runL_any p b e (k+1) xs
theorem qu{step:Int->Option (Int⊕β)}(xs:List α)(p:α->Bool)(b e:β)
  (h:∀ k x,xs[k]?=some x->k<xs.length->step (k:Int)=some (if p x=true then .inr b else .inl ((k+1:Nat):Int)))
  (hend:step (xs.length:Int)=some (.inr e)) (hlen:xs.length<576460752303423488) {s:Int} (hs:s=0):
  zI step s=some (if xs.any p=true then b else e):=by
 rw[loop_find xs (λ _ x=>if p x=true then some b else none) e (λ k x hx hlt=>?_) hend hlen hs,runL_any];rw[h k x hx hlt];cases p x <;> rfl
theorem runL_idx(p:α->Bool)(f:Int->β)(e:β):∀ (k:Nat) (xs:List α),runL (λ k (_:Unit) x=>match (if p x=true then some (f k) else none) with | none=>.inl () | some b=>.inr b) (λ _=>e) k () xs=(match xs.findIdx? p with | some i=>f ((k+i:Nat):Int) | none=>e)
 | _,[]=>rfl
 |k,x::xs=>by
  cases h:p x with
  | true=>simp[runL,h,List.findIdx?_cons]
  |false=>
   simp only[runL,h,List.findIdx?_cons,Bool.false_eq_true,if_false];rw[runL_idx p f e (k+1) xs];cases xs.findIdx? p with
   | none=>rfl
   | some i=>simp only[Option.map_some];congr 1;omega
theorem Wc{step:Int->Option (Int⊕β)}(xs:List α)(p:α->Bool)(f:Int->β)(e:β)
  (h:∀ k x,xs[k]?=some x->k<xs.length->step (k:Int)=some (if p x=true then .inr (f k) else .inl ((k+1:Nat):Int)))
  (hend:step (xs.length:Int)=some (.inr e)) (hlen:xs.length<576460752303423488) {s:Int} (hs:s=0):
  zI step s=some (match xs.findIdx? p with | some i=>f (i:Int) | none=>e):=by
 rw[loop_find xs (λ k x=>if p x=true then some (f k) else none) e (λ k x hx hlt=>?_) hend hlen hs,runL_idx]
 ·cases xs.findIdx? p <;> simp
 ·rw[h k x hx hlt];cases p x <;> rfl
theorem runL_fold(g:σ->α->σ)(fin:σ->β):∀ (k:Nat) (s:σ) (xs:List α),runL (λ _ s x=>(.inl (g s x):σ⊕β)) fin k s xs=fin (xs.foldl g s)
 | _,_,[]=>rfl
 | k,s,x::xs=>runL_fold g fin (k+1) (g s x) xs
theorem JQ{step:S->Option (S⊕β)}(xs:List α)(mk:σ->Nat->S)(g:σ->α->σ)(fin:σ->β)(Inv:Nat->σ->Prop)
  (h:∀ k s x,xs[k]?=some x->k<xs.length->Inv k s->step (mk s k)=some (.inl (mk (g s x) (k+1)))/\Inv (k+1) (g s x))
  (hend:∀ s,Inv xs.length s->step (mk s xs.length)=some (.inr (fin s))) {s0:σ} (h0:Inv 0 s0) (hlen:xs.length<576460752303423488):zI step (mk s0 0)=some (fin (xs.foldl g s0)):=by
 rw[zbH xs mk (λ _ s x=>.inl (g s x)) fin Inv h hend h0 hlen,runL_fold]
end
variable{α:Type}
theorem Wx(hs:mid s):xd s=some (zC s):=by
 unfold mid at hs;have hl:zI (λ s4=>qF s s4) 0=some (if s.l.any (λ b=>!low b)=true then .inr false else .inl ()):=by
  refine qu s.l _ _ _ (λ k x hx hlt=>?_) ?_ (by omega) Z
  ·unfold qF;rw[zD,Ke (decide_eq_true hlt),zG,hx,obS,zV,obS,zQ (by omega)];unfold low;generalize cmpB .lss x (UInt8.ofNat 97)=c1;cases c1 with
   | true=>rfl
   |false=>rw[Ke (show(false == false)=true from Z)];generalize cmpB .gtr x (UInt8.ofNat 122)=c2;cases c2 <;> rfl
  ·unfold qF;rw[zD,Kf (by simp)]
 unfold xd;rw[hl,obS];unfold zC;cases h:s.l.any (λ b=>!low b) with
 |true=>
  have:s.l.all low=false:=by
   rw[Bool.eq_false_iff];intro h2;rw[List.any_eq_true] at h;obtain⟨b,hb,hb2⟩:=h;rw[List.all_eq_true.1 h2 b hb] at hb2;cases hb2
  simp[this]
 |false=>
  have:s.l.all low=true:=by
   rw[List.all_eq_true];intro b hb;have:=List.any_eq_false.1 h b hb;simpa using this
  simp only[Bool.false_eq_true,if_false,Sum.elim_inl,zY,obS,this,Bool.and_true,inR];simp[cmpI]
def cutF(c:UInt8):List UInt8->List (List UInt8)
 | []=>[[]]
 |b::l=>if b == c then[]::cutF c l else match cutF c l with
  | h::t=>(b::h)::t
  | []=>[[b]]
theorem XN(c b:UInt8)(l:List UInt8):cutF c (b::l)=if b == c then[]::cutF c l else match cutF c l with
  | h::t=>(b::h)::t
  | []=>[[b]]:=rfl
theorem YW(c:UInt8):∀ l,cutF c l≠[]
 | []=>by simp[cutF]
 |b::l=>by
  unfold cutF;split
  ·simp
  ·split <;> simp
theorem Q6(c:UInt8):∀ l,(cutF c l).length=l.count c+1
 | []=>by simp[cutF]
 |b::l=>by
  unfold cutF;cases h:b == c with
  |true=>simp only[if_true,List.length_cons,Q6 c l];rw[List.count_cons,h];simp
  |false=>
   simp only[Bool.false_eq_true,if_false];rw[List.count_cons,h];simp only[Bool.false_eq_true,if_false,Nat.add_zero];rw[← Q6 c l];cases hc:cutF c l with
   | nil=>exact absurd hc (YW c l)
   | cons h t=>rfl
theorem zaC(c:UInt8):∀ (l:List UInt8) (st:List Str×Str),(let r:=l.foldl (j7 c) st;r.1++[r.2])=st.1++(match cutF c l with | h::t=>(⟨st.2.l++h⟩:Str)::t.map Str.mk | []=>[])
 | [],st=>by simp[cutF]
 |b::l,st=>by
  rw[List.foldl_cons];have ih:=zaC c l (j7 c st b);simp only at ih ⊢;rw[ih];unfold j7;rw[XN];cases h:b == c with
  |true=>
   simp only[if_true,List.append_assoc];cases hc:cutF c l with
   | nil=>exact absurd hc (YW c l)
   | cons h t=>simp
  |false=>
   simp only[Bool.false_eq_true,if_false];cases hc:cutF c l with
   | nil=>exact absurd hc (YW c l)
   | cons h t=>simp
theorem jE(s:Str)(c:UInt8):zx s c=(cutF c s.l).map Str.mk:=by
 have:=zaC c s.l ([],⟨[]⟩);simp only at this;unfold zx xL;rw[this];cases hc:cutF c s.l with
 | nil=>exact absurd hc (YW c s.l)
 | cons h t=>simp
theorem XW(c:UInt8):∀ l,Lib.indexByte l c<0->cutF c l=[l]
 | [],_=>rfl
 |b::l,h=>by
  unfold Lib.indexByte at h;unfold cutF;cases hb:b == c with
  | true=>rw[hb] at h;simp at h
  |false=>
   rw[hb] at h;simp only[Bool.false_eq_true,if_false] at h ⊢;have hge:=Lib.indexByte_ge l c;have:Lib.indexByte l c<0:=by
    split at h
    ·rename_i e;have:=eq_of_beq e;omega
    ·omega
   rw[XW c l this]
theorem XX(c:UInt8):∀ l,0<=Lib.indexByte l c->Lib.indexByte l c<l.length/\cutF c l=l.take (Lib.indexByte l c).toNat::cutF c (l.drop ((Lib.indexByte l c).toNat+1))
 | [],h=>by simp[Lib.indexByte] at h
 |b::l,h=>by
  unfold Lib.indexByte at h ⊢;cases hb:b == c with
  | true=>simp[cutF,hb]
  |false=>
   rw[hb] at h;simp only[Bool.false_eq_true,if_false] at h ⊢;cases he:Lib.indexByte l c == -1 with
   | true=>rw[he] at h;simp at h
   |false=>
    rw[he] at h;simp only[Bool.false_eq_true,if_false] at h ⊢;have hge:=Lib.indexByte_ge l c;have hne:Lib.indexByte l c≠-1:=by simpa using he
    obtain⟨h1,h2⟩:=XX c l (by omega);refine⟨by simp;omega,?_⟩;have e1:(Lib.indexByte l c+1).toNat=(Lib.indexByte l c).toNat+1:=by omega
    rw[e1];rw[XN,hb,h2];simp only[Bool.false_eq_true,if_false,List.take_succ_cons,List.drop_succ_cons]
theorem genSplit_loop(c:UInt8)(n:Nat)(hn:n<1099511627777):∀ (l:List UInt8) (done:List Str),l.length<=1099511627776->done.length+(cutF c l).length=n->
  ∀
   m,(cutF c l).length<=m->jt (λ s35=>wI ⟨[c]⟩ 0 ((n:Int) - 1) s35) m ((⟨l⟩:Str),done++List.replicate (n - done.length) zStr,(done.length:Int))=
   some (⟨(cutF c l).getLast (YW c l)⟩,done++((cutF c l).dropLast.map Str.mk++[zStr]),(n:Int) - 1):=by
 intro l
 induction hlen:l.length using Nat.strongRecOn generalizing l with
 |_ k ih=>
  intro done hl hd m hm;have hne:=YW c l;have hpos:0<(cutF c l).length:=List.length_pos_iff.2 hne;obtain⟨m,rfl⟩:∃ m',m=m'+1:=⟨m - 1,by omega⟩;by_cases hlast:(cutF c l).length=1
  ·rw[yD (b:=((⟨l⟩:Str),done++List.replicate (n - done.length) zStr,(done.length:Int))) (by unfold wI;exact Kf (by simp[cmpI];omega))];obtain⟨x,hx⟩:=List.length_eq_one_iff.1 hlast;have e1:n - done.length=1:=by omega
   simp only[hx,List.getLast_singleton,List.dropLast_singleton,List.map_nil,List.nil_append,e1,List.replicate_one];have hxl:x=l:=by
    rcases Int.lt_or_le (Lib.indexByte l c) 0 with h | h
    ·rw[XW c l h] at hx;injection hx with hx;exact hx.symm
    ·obtain⟨_,h2⟩:=XX c l h;rw[h2] at hx;have:=congrArg List.length hx;simp at this;exact absurd this (YW _ _)
   rw[hxl]
   congr 2
   congr 1
   omega
  ·have hidx:0<=Lib.indexByte l c:=by
    rcases Int.lt_or_le (Lib.indexByte l c) 0 with h | h
    ·rw[XW c l h] at hlast;simp at hlast
    ·exact h
   obtain⟨h1,h2⟩:=XX c l hidx;obtain⟨j,hi⟩:=Int.eq_ofNat_of_zero_le hidx;rw[hi] at h1 h2;rw[Int.toNat_natCast] at h2;have hj:j<l.length:=by omega
   have e2:wD ⟨l⟩ ⟨[c]⟩=some (j:Int):=by simp[wD,hi]
   have hrep:done.length<(done++List.replicate (n - done.length) zStr).length:=by simp;omega
   have e4:atI (done++List.replicate (n - done.length) zStr) (done.length:Int)=some zStr:=by
    rw[zG,List.getElem?_append_right (Nat.le_refl _),Nat.sub_self,List.getElem?_replicate,Ke (by omega)]
   have e5:setO (done++List.replicate (n - done.length) zStr) (done.length:Int) (⟨l.take j⟩:Str)=some ((done++[⟨l.take j⟩])++List.replicate (n - (done.length+1)) zStr):=by
    rw[setO_nat hrep]
    congr 1
    rw[List.set_append_right _ _ (Nat.le_refl _),Nat.sub_self];obtain⟨q,hq⟩:∃ q,n - done.length=q+1:=⟨n - done.length - 1,by omega⟩;rw[hq,List.replicate_succ,List.set_cons_zero,List.append_assoc,show n - (done.length+1)=q by omega];rfl
   have hstep:wI ⟨[c]⟩ 0 ((n:Int) - 1) ((⟨l⟩:Str),done++List.replicate (n - done.length) zStr,(done.length:Int))=some (.inl ((⟨l.drop (j+1)⟩:Str),(done++[⟨l.take j⟩])++List.replicate (n - (done.length+1)) zStr,((done.length+1:Nat):Int))):=by
    unfold wI;rw[Ke (by simp[cmpI];omega)];simp only;rw[e2,obS,Kf (by simp[cmpI]),show((j:Int)+0)=(j:Int) by omega,xb (by omega) (by omega),obS,zah (show j<=(⟨l⟩:Str).l.length by show j<=l.length;omega),obS,e4,obS,e5,obS];rw[show((j:Int)+(([c]:List UInt8).length:Int))=((j+1:Nat):Int) from Z,xb (by omega) (by omega),obS,zai (show j+1<=(⟨l⟩:Str).l.length by show j+1<=l.length;omega),obS,zQ (by omega),obS]
   rw[wX hstep];have hlen2:(cutF c (l.drop (j+1))).length+1=(cutF c l).length:=by rw[h2];rfl
   have hrec:=ih (l.drop (j+1)).length (by simp;omega) (l.drop (j+1)) Z (done++[⟨l.take j⟩]) (by simp;omega) (by simp;omega) m (by omega);rw[List.length_append,List.length_singleton] at hrec;rw[hrec];have hne2:=YW c (l.drop (j+1));have e7:(cutF c l).getLast hne=(cutF c (l.drop (j+1))).getLast hne2:=by
    have:∀ (L:List (List UInt8)) (hL:L≠[]),L=l.take j::cutF c (l.drop (j+1))->L.getLast hL=(cutF c (l.drop (j+1))).getLast hne2:=by
     intro L hL e;subst e;exact List.getLast_cons hne2
    exact this _ hne h2
   have e8:(cutF c l).dropLast=l.take j::(cutF c (l.drop (j+1))).dropLast:=by
    have:∀ (L:List (List UInt8)),L=l.take j::cutF c (l.drop (j+1))->L.dropLast=l.take j::(cutF c (l.drop (j+1))).dropLast:=by
     intro L e;subst e;rw[List.dropLast_cons_of_ne_nil hne2]
    exact this _ h2
   rw[e7,e8];simp
theorem Split_eq(hs:s.l.length<=8388608)(c:UInt8):wE s ⟨[c]⟩=some (zx s c):=by
 unfold wE Zr;have hcount:s.l.count c<=s.l.length:=List.count_le_length;rw[Kf (by simp[cmpI]),Kf (by simp)];have e1:ZD s ⟨[c]⟩=some (s.l.count c:Int):=rfl;rw[Ke (by simp[cmpI]),e1,obS,zQ (by omega),obS,obS,zQ (by omega),obS];have hmin:(if((s.l.length+1:Nat):Int)<((s.l.count c+1:Nat):Int) then((s.l.length+1:Nat):Int) else((s.l.count c+1:Nat):Int))=((s.l.count c+1:Nat):Int):=Kf (by omega);rw[hmin];have hbig:s.l.count c+1<=16777216:=by omega
 have e2:makeO 1 16 ((s.l.count c+1:Nat):Int) zStr=some (List.replicate (s.l.count c+1) zStr):=by
  unfold makeO;rw[Ke ⟨by omega,by simp;omega,by simp;omega,by omega⟩];rfl
 rw[e2,obS,xb (by omega) (by omega),obS];have hl:=qt (genSplit_loop c (s.l.count c+1) (by omega) s.l [] (by omega) (by simp[Q6]) (s.l.count c+1) (by rw[Q6];omega)) (by omega);simp only[List.nil_append,List.length_nil,Nat.sub_zero] at hl;rw[show((0:Nat):Int)=0 from Z] at hl;rw[hl,obS];have hne:=YW c s.l;have hlen:=Q6 c s.l;have hz:((cutF c s.l).dropLast.map Str.mk).length=s.l.count c:=by simp[hlen]
 have e3:(((s.l.count c+1:Nat):Int) - 1)=(s.l.count c:Int):=by omega
 simp only[e3];have e4:atI ((cutF c s.l).dropLast.map Str.mk++[zStr]) (s.l.count c:Int)=some zStr:=by
  rw[zG,List.getElem?_append_right (by omega),hz,Nat.sub_self];rfl
 have e5:setO ((cutF c s.l).dropLast.map Str.mk++[zStr]) (s.l.count c:Int) (⟨(cutF c s.l).getLast hne⟩:Str)=some ((cutF c s.l).map Str.mk):=by
  unfold setO;rw[Ke ⟨by omega,by simp[hlen]⟩]
  congr 1
  rw[Int.toNat_natCast,List.set_append_right _ _ (by omega),hz,Nat.sub_self,List.set_cons_zero];have:=List.dropLast_concat_getLast hne
  conv=>rhs;rw[← this]
  simp
 rw[e4,obS,e5,obS,zQ (by omega),obS];have e6:ZX ((cutF c s.l).map Str.mk) ((s.l.count c+1:Nat):Int)=some ((cutF c s.l).map Str.mk):=by
  unfold ZX;rw[Ke ⟨by omega,by simp[hlen]⟩]
  congr 1
  rw[Int.toNat_natCast];exact List.take_of_length_le (by simp[hlen])
 rw[e6,jE];rfl
def sho(s:Str):Prop:=s.l.length<=8388608
theorem sho.mid{s:Str}(h:sho s):mid s:=by unfold sho at h;unfold Go.Proofs.YtandbaloaenciaaGreatDoor.mid;omega
theorem zco(s:Str)(c:UInt8):(zx s c).length<=s.l.length+1:=by have:=zbe (zx s c);rwa[Z5] at this
theorem split_part(h:x∈zx s c):x.l.length<=s.l.length+1:=by
 obtain⟨k,hk⟩:=List.getElem?_of_mem h;have:=part_le hk;rwa[Z5] at this
theorem XY(p:α->Bool)(l:List α):l.any (λ x=>!p x)=!l.all p:=by
 induction l with
 | nil=>rfl
 | cons x l ih=>simp[ih]
theorem xR(hs:sho s):yh s=some (zi s):=by
 unfold sho at hs;have hlen:=zco s dot;unfold yh;rw[show wE s (⟨[46]⟩:Str)=some (zx s dot) from Split_eq hs dot,obS];have hl:zI (λ s7=>qG (zx s dot) s7) 0=some (if(zx s dot).any (λ x=>!zC x)=true then .inr false else .inl ()):=by
  refine qu _ _ _ _ (λ k x hx hlt=>?_) ?_ (by omega) Z
  ·unfold qG;have hm:mid x:=by have:=split_part (List.mem_of_getElem? hx);unfold mid;omega
   rw[zD,Ke (decide_eq_true hlt),zG,hx,obS,Wx hm,obS,zQ (by omega)];cases zC x <;> rfl
  ·unfold qG;rw[zD,Kf (by simp)]
 rw[hl,obS,XY];unfold zi;cases(zx s dot).all zC <;> rfl
theorem Yw(hs:sho s):xe s=some (zj s):=by
 unfold xe;rw[xR hs,zV,obS];unfold zj emptyS;cases decide (s=(⟨[]⟩:Str)) <;> rfl
theorem zdr(hs:sho s):qW s=some (if zi s=true then zx s dot else[]):=by
 unfold qW;rw[xR hs,obS,show wE s (⟨[46]⟩:Str)=some (zx s dot) from Split_eq hs dot];cases zi s <;> rfl
def Ja(p s:Str):Str:=if(zj p&&zC s&&zi (child p s))=true then child p s else emptyS
theorem zaW(h:p.l.length+s.l.length+1<=8388608):jc p s=some (Ja p s):=by
 have hp:sho p:=by unfold sho;omega
 have hs:mid s:=by unfold mid;omega
 unfold jc Ja;rw[Yw hp,obS,Wx hs,zV,obS];cases zj p with
 | false=>simp only[Bool.not_false,Bool.true_or,if_true,Bool.false_and,Bool.false_eq_true,if_false,emptyS]
 |true=>
  cases zC s with
  | false=>simp only[Bool.not_false,Bool.or_true,if_true,Bool.false_and,Bool.and_false,Bool.false_eq_true,if_false,emptyS,Bool.not_true,beq_self_eq_true]
  |true=>
   have hc:(if(decide (p≠(⟨[]⟩:Str)))=true then((catO p (⟨[46]⟩:Str)).bind λ v14=>(catO v14 s).bind λ v15=>some v15) else(some s))=some (child p s):=by
    unfold child emptyS;by_cases he:p=⟨[]⟩
    ·rw[Kf (by simp[he]),Ke he]
    ·rw[Ke (by simp[he]),Kf he,Ww (by show p.l.length+1<=_;omega),obS,Ww (by rw[List.length_append];show p.l.length+1+s.l.length<=_;omega),obS]
   have hsc:sho (child p s):=by
    unfold sho child;split
    ·omega
    ·rw[List.length_append,List.length_append];show p.l.length+1+s.l.length<=_;omega
   rw[hc,Kf (by decide),obS,xR hsc,obS];generalize child p s=q;cases zi q <;> rfl
theorem HasPrefix_eq:jv s p=some (decide (p.l.length<=s.l.length)&&decide ((⟨s.l.take p.l.length⟩:Str)=p)):=by
 unfold jv xj;by_cases h:p.l.length<=s.l.length
 ·have e:cmpI .geq (s.l.length:Int) (p.l.length:Int)=true:=by simp[cmpI,h]
  rw[e,zah h];simp[gO,h]
 ·have e:cmpI .geq (s.l.length:Int) (p.l.length:Int)=false:=by simp[cmpI];omega
  rw[e];simp[gO,h]
theorem IsUnder_eq(hs:sho s)(hp:p.l.length+1<=8388608):Z8 s p=some (zi s&&zj p&&under s p):=by
 have hp':sho p:=by unfold sho;omega
 unfold Z8;rw[xR hs,obS,Yw hp',zV,obS,Ww (by show p.l.length+1<=_;omega),zV];unfold under emptyS;cases zi s with
 | false=>rfl
 |true=>
  cases zj p with
  | false=>rfl
  |true=>
   cases he:decide (p=(⟨[]⟩:Str)) with
   | true=>rfl
   |false=>
    cases hq:decide (s=p) with
    | true=>rfl
    |false=>
     simp only[HasPrefix_eq,zV,Bool.not_true,Bool.or_self,Bool.false_eq_true,if_false,beq_self_eq_true,if_true,Bool.true_and,Bool.false_or,obS,List.length_append,List.length_singleton]
     congr 2
     simp[cmpI];omega
theorem Zk(a b c:Int):zY a b c=some (inR a b c):=rfl
theorem ZO:zi emptyS=false:=rfl
theorem idx_join(p:α->Bool)(xs:List α):Option.bind (some (match xs.findIdx? p with | some i=>(Sum.inr (i:Int):Unit⊕Int) | none=>Sum.inl ())) (Sum.elim (λ _=>some (-1)) some)=some (xu p xs):=by
 unfold xu;cases xs.findIdx? p <;> rfl
theorem JR(p:α->Bool)(xs:List α):cmpI .geq (xu p xs) 0=xs.any p:=by
 unfold xu;cases h:xs.findIdx? p with
 |none=>
  rw[List.findIdx?_eq_none_iff] at h;have:xs.any p=false:=by rw[List.any_eq_false];intro x hx;simp[h x hx]
  rw[this];rfl
 |some i=>
  obtain⟨hi,hp,_⟩:=List.findIdx?_eq_some_iff_getElem.1 h;have:xs.any p=true:=by rw[List.any_eq_true];exact⟨_,List.getElem_mem hi,hp⟩
  rw[this];simp[cmpI]
theorem idxOf_lss{p:α->Bool}{xs:List α}{x:α}(hx:xs[k]?=some x)(hp:p x=true):cmpI .lss (xu p xs) k=(xs.take k).any p:=by
 have hk:=zM hx;have hxk:xs[k]=x:=by rw[List.getElem?_eq_getElem hk] at hx;injection hx
 unfold xu;cases h:xs.findIdx? p with
 |none=>rw[List.findIdx?_eq_none_iff] at h;have:=h x (List.mem_of_getElem? hx);rw[hp] at this;cases this
 |some i=>
  obtain⟨hi,hpi,hmin⟩:=List.findIdx?_eq_some_iff_getElem.1 h;by_cases hik:i<k
  ·have:(xs.take k).any p=true:=by
    rw[List.any_eq_true];exact⟨xs[i],List.mem_take_iff_getElem.2 ⟨i,by omega,Z⟩,hpi⟩
   rw[this];simp[cmpI,hik]
  ·have:(xs.take k).any p=false:=by
    rw[List.any_eq_false];intro y hy;obtain⟨j,hj,rfl⟩:=List.mem_take_iff_getElem.1 hy;exact hmin j (by omega)
   rw[this];simp[cmpI];omega
theorem IndexI_eq{n:Int}(h:xs.length<=1152921504606846):wk xs n=some (xu (λ x=>n == x) xs):=by
 unfold wk;have hl:zI (λ s4=>wH xs n s4) 0=some (match xs.findIdx? (λ x=>n == x) with | some i=>(Sum.inr (i:Int):Unit⊕Int) | none=>Sum.inl ()):=by
  refine Wc xs (λ x=>n == x) (λ i=>Sum.inr i) _ (λ k x hx hlt=>?_) ?_ (by omega) Z
  ·unfold wH;rw[zD,Ke (decide_eq_true hlt),zG,hx,obS,zQ (by omega),show cmpI .eql n x=(n == x) from Z];cases n == x <;> rfl
  ·unfold wH;rw[zD,Kf (by simp)]
 rw[hl];exact idx_join _ _
theorem ContainsI_eq{n:Int}(h:xs.length<=1152921504606846):xx xs n=some (xs.any (λ x=>n == x)):=by
 unfold xx;rw[IndexI_eq h,obS,JR]
theorem stmt_mod(s:Stmt):decide (s={ (⟨s.kind,⟨[]⟩,0,⟨[]⟩,0⟩:Stmt) with module:=s.module })=(cmpI .eql s.level 0&&decide (s.name=⟨[]⟩)&&cmpI .eql s.value 0):=by
 cases s;rw[Bool.eq_iff_iff];simp[cmpI,and_assoc]
theorem stmt_nv(s:Stmt):decide (s={ { (⟨s.kind,⟨[]⟩,0,⟨[]⟩,0⟩:Stmt) with name:=s.name } with value:=s.value })=(decide (s.module=⟨[]⟩)&&cmpI .eql s.level 0):=by
 cases s;rw[Bool.eq_iff_iff];simp[cmpI]
theorem stmt_n(s:Stmt):decide (s={ (⟨s.kind,⟨[]⟩,0,⟨[]⟩,0⟩:Stmt) with name:=s.name })=(decide (s.module=⟨[]⟩)&&cmpI .eql s.level 0&&cmpI .eql s.value 0):=by
 cases s;rw[Bool.eq_iff_iff];simp[cmpI,and_assoc]
theorem smStmt.sho{s:Stmt}(h:smStmt s):sho s.module:=by have:=h.1;unfold Go.Proofs.YtandbaloaenciaaGreatDoor.sho;omega
theorem smStmt.midn{s:Stmt}(h:smStmt s):mid s.name:=by have:=h.2;unfold mid;omega
theorem stmtOk_eq{s:Stmt}(h:smStmt s):YI s=some (zS s):=by
 have hm:=xR h.sho;have hn:=Wx h.midn;unfold YI;rw[hm,hn,stmt_mod,stmt_nv,stmt_n];simp only[Zk,zV,obS];unfold zS;rcases s with⟨kind,m,level,name,value⟩;simp only[show ∀ x y:Int,cmpI .eql x y=(x == y) from λ _ _=>Z];by_cases h0:kind=0
 ·subst h0;simp only[beq_self_eq_true,if_true,obS];generalize zi m=a;generalize (level == 0)=b;generalize decide (name=⟨[]⟩)=c;generalize (value == 0)=d;cases a <;> cases b <;> cases c <;> cases d <;> rfl
 ·by_cases h2:kind=2
  ·subst h2;simp only[beq_self_eq_true,if_true,obS,show((2:Int) == 0)=false from Z,show((2:Int) == 1)=false from Z,Bool.false_eq_true,if_false];generalize zi m=a;generalize (level == 0)=b;generalize decide (name=⟨[]⟩)=c;generalize (value == 0)=d;cases a <;> cases b <;> cases c <;> cases d <;> rfl
  ·have e0:(kind == 0)=false:=by simpa using h0
   have e2:(kind == 2)=false:=by simpa using h2
   simp only[e0,e2,Bool.false_eq_true,if_false,obS];by_cases h1:kind=1
   ·subst h1;simp only[beq_self_eq_true,if_true];have hl:cmpI .geq level 1=cmpI .gtr level 0:=by simp[cmpI];omega
    rw[hl];unfold zj;by_cases hme:m=emptyS
    ·subst hme;rw[ZO];simp only[emptyS,decide_true,ne_eq,not_true_eq_false,decide_false];generalize (value == 0)=a;generalize inR level 0 3=b;generalize cmpI .gtr level 0=c;generalize zC name=d;cases a <;> cases b <;> cases c <;> cases d <;> rfl
    ·have e1:decide (m=emptyS)=false:=decide_eq_false hme;have e3:decide (m=⟨[]⟩)=false:=decide_eq_false hme;have e4:decide (m≠⟨[]⟩)=true:=decide_eq_true hme;rw[e1,e3,e4];generalize (value == 0)=a;generalize inR level 0 3=b;generalize cmpI .gtr level 0=c;generalize zC name=d;generalize zi m=e;cases a <;> cases b <;> cases c <;> cases d <;> cases e <;> rfl
   ·have e1:(kind == 1)=false:=by simpa using h1
    simp only[e1,Bool.false_eq_true,if_false];by_cases h3:kind=3
    ·subst h3;simp only[beq_self_eq_true,if_true];generalize decide (m=⟨[]⟩)=a;generalize (level == 0)=b;generalize inR value 0 99=c;generalize zC name=d;cases a <;> cases b <;> cases c <;> cases d <;> rfl
    ·have e3:(kind == 3)=false:=by simpa using h3
     simp only[e3,Bool.false_eq_true,if_false];by_cases h4:kind=4
     ·subst h4;simp only[beq_self_eq_true,if_true];generalize decide (m=⟨[]⟩)=a;generalize (level == 0)=b;generalize (value == 0)=c;generalize zC name=d;cases a <;> cases b <;> cases c <;> cases d <;> rfl
     ·have e4:(kind == 4)=false:=by simpa using h4
      simp only[e4,Bool.false_eq_true,if_false];by_cases h5:kind=5
      ·subst h5;rfl
      ·have e5:(kind == 5)=false:=by simpa using h5
       simp only[e5,Bool.false_eq_true,if_false]
theorem zbI(hlen:b.length<=1048576)(h:∀ s∈b,smStmt s):jK b=some (yk b):=by
 unfold jK;have hl:zI (λ s4=>qH b s4) 0=some (if b.any (λ x=>!zS x)=true then .inr false else .inl ()):=by
  refine qu _ _ _ _ (λ k x hx hlt=>?_) ?_ (by omega) Z
  ·unfold qH;rw[zD,Ke (decide_eq_true hlt),zG,hx,obS,stmtOk_eq (h x (List.mem_of_getElem? hx)),obS,zQ (by omega)];cases zS x <;> rfl
  ·unfold qH;rw[zD,Kf (by simp)]
 rw[hl,obS,XY];unfold yk;cases b.all zS <;> rfl
theorem child_ne(h:zi (child p s)=true):child p s≠emptyS:=by
 intro e;rw[e,ZO] at h;cases h
theorem smFile.shop(h:smFile f):sho f.pkg:=by have:=h.1;unfold sho;omega
theorem smFile.midn(h:smFile f):mid f.name:=by have:=h.2.1;unfold mid;omega
theorem smFile.child(h:smFile f):f.pkg.l.length+f.name.l.length+1<=8388608:=by have:=h.1;have:=h.2.1;omega
theorem fileOk_eq(h:smFile f):ZQ f=some (yC f):=by
 unfold ZQ;rw[Zk,obS,Yw h.shop,zV,obS,Zk,zV,obS,zbI h.2.2.1 h.2.2.2,zV,obS,Wx h.midn,obS,zaW h.child,zV,obS];unfold yC;cases inR f.root 0 2 with
 | false=>rfl
 |true=>
  cases hp:zj f.pkg with
  | false=>cases inR f.stamp 0 99 <;> rfl
  |true=>
   cases inR f.stamp 0 99 with
   | false=>rfl
   |true=>
    cases yk f.body with
    | false=>rfl
    |true=>
     cases f.init with
     | true=>rfl
     |false=>
      show some (zC f.name&&decide ((if(zC f.name == true)=true then Ja f.pkg f.name else default)≠(⟨[]⟩:Str)))=some (zC f.name&&zi (Go.Proofs.YtandbaloaenciaaGreatDoor.child f.pkg f.name));cases hn:zC f.name with
      | false=>rfl
      |true=>
       unfold Ja;rw[hp,hn];cases hc:zi (Go.Proofs.YtandbaloaenciaaGreatDoor.child f.pkg f.name) with
       | false=>simp[emptyS]
       |true=>have:=child_ne hc;simp only[Bool.and_self,if_true,beq_self_eq_true,Bool.true_and];rw[decide_eq_true (show Go.Proofs.YtandbaloaenciaaGreatDoor.child f.pkg f.name≠⟨[]⟩ from this)]
theorem zbJ(f g:File):qU f g=some (wj f g):=rfl
theorem zaD(f g:File):wj f g=wj g f:=by
 unfold wj;rw[BEq.comm (a:=f.root),BEq.comm (a:=f.init),decide_eq_decide.2 (eq_comm (a:=f.pkg) (b:=g.pkg)),decide_eq_decide.2 (eq_comm (a:=f.name) (b:=g.name))]
theorem sameFile_refl(f:File):wj f f=true:=by simp[wj]
theorem Zy(h:jl t):yS t=some (zF t):=by
 have hlen:=h.1;unfold yS;have hl:zI (λ s4=>qJ t s4) 0=some (if(List.range t.files.length).any (λ k=>!J0 t.files k)=true then .inr false else .inl ()):=by
  refine qu (List.range t.files.length) _ _ _ (λ k x hx hlt=>?_) ?_ (by rw[List.length_range];omega) Z
  ·rw[List.length_range] at hlt;rw[List.getElem?_range hlt] at hx;injection hx with hx;subst hx;unfold qJ;obtain⟨f,hf⟩:∃ f,t.files[k]?=some f:=⟨_,List.getElem?_eq_getElem hlt⟩;have ht:J0 t.files k=!(!yC f||cmpI .lss (yR t.files f) k):=by unfold J0;rw[hf]
   rw[zD,Ke (decide_eq_true hlt),zG,hf,obS,fileOk_eq (h.2 _ (List.mem_of_getElem? hf)),obS,XM (by omega),obS,ht];cases yC f with
   | false=>rfl
   |true=>
    rw[Kf (by decide)];have hin:zI (λ s28=>qI f (t.files.take k) s28) 0=some (if(t.files.take k).any (λ x=>wj f x)=true then .inr (.inr (.inr false)) else .inl ()):=by
     have htl:(t.files.take k).length<=k:=by simp;omega
     refine qu _ _ _ _ (λ j y hy hjt=>?_) ?_ (by omega) Z
     ·unfold qI;rw[zD,Ke (decide_eq_true hjt),zG,hy,obS,zbJ,obS,zQ (by omega)];cases wj f y <;> rfl
     ·unfold qI;rw[zD,Kf (by simp)]
    rw[hin];have hfa:cmpI .lss (yR t.files f) k=(t.files.take k).any (λ x=>wj f x):=by
     unfold yR;rw[idxOf_lss (p:=λ x=>wj x f) hf (sameFile_refl _)]
     congr 1
     funext x
     exact zaD _ _
    rw[hfa];cases(t.files.take k).any (λ x=>wj f x) with
    | true=>rfl
    |false=>rw[Kf (by decide),obS,Sum.elim_inl,zQ (by omega)];rfl
  ·unfold qJ;rw[List.length_range,zD,Kf (by simp)]
 rw[hl,obS,XY];unfold zF WL;cases(List.range t.files.length).all (J0 t.files) <;> rfl
theorem fileAt_eq(h:t.files.length<=1048576):ZR t f=some (yR t.files f):=by
 unfold ZR;have hl:zI (λ s4=>Yr t f s4) 0=some (match t.files.findIdx? (λ x=>wj x f) with | some i=>(Sum.inr (i:Int):Unit⊕Int) | none=>Sum.inl ()):=by
  refine Wc t.files (λ x=>wj x f) (λ i=>Sum.inr i) _ (λ k x hx hlt=>?_) ?_ (by omega) Z
  ·unfold Yr;rw[zD,Ke (decide_eq_true hlt),zG,hx,obS,zbJ,obS,zQ (by omega),zaD];cases wj x f <;> rfl
  ·unfold Yr;rw[zD,Kf (by simp)]
 rw[hl];exact idx_join _ _
theorem Yi(h:zF t=true)(hf:f∈t.files):yC f=true:=by
 obtain⟨k,hk⟩:=List.getElem?_of_mem hf;unfold zF WL at h;rw[Bool.and_eq_true] at h;have:=List.all_eq_true.1 h.1 k (List.mem_range.2 (zM hk));unfold J0 at this;rw[hk] at this;simp only at this;cases hv:yC f with
 | true=>rfl
 | false=>rw[hv] at this;cases this
theorem YN(h:yC f=true):zj f.pkg=true:=by
 unfold yC at h;cases hv:zj f.pkg with
 | true=>rfl
 |false=>rw[hv,Ke (by simp)] at h;cases h
theorem hasDir_eq(h:jl t)(hv:∀ f∈t.files,zj f.pkg=true)(hp:zj p=true)(hpl:p.l.length+1<=8388608):YJ t r p=some (Xf t.files r p):=by
 have hlen:=h.1;unfold YJ;have hl:zI (λ s4=>Yq t r p s4) 0=some (if t.files.any (QG r p)=true then .inr true else .inl ()):=by
  refine qu _ _ _ _ (λ k x hx hlt=>?_) ?_ (by omega) Z
  ·unfold Yq;have hm:=List.mem_of_getElem? hx;rw[zD,Ke (decide_eq_true hlt),zG,hx,obS,IsUnder_eq (h.2 x hm).shop hpl,zV,obS,zQ (by omega),hp];unfold QG;have hvx:=hv x hm;unfold zj at hvx;rw[show cmpI .eql x.root r=(x.root == r) from Z];by_cases he:x.pkg=emptyS
   ·rw[he,ZO];simp
   ·have e1:zi x.pkg=true:=by simpa[he] using hvx
    rw[e1,decide_eq_true (show x.pkg≠emptyS from he)];cases x.root == r <;> cases under x.pkg p <;> rfl
  ·unfold Yq;rw[zD,Kf (by simp)]
 rw[hl,obS];unfold Xf emptyS;cases t.files.any (QG r p) <;> rfl
theorem zbK{l:List Int}(h:l.length<=1048576):jL l=some (wM l):=by
 unfold jL;have hl:zI (λ s4=>qK l s4) 0=some (if(List.range l.length).any (λ k=>!zaO l k)=true then .inr false else .inl ()):=by
  refine qu (List.range l.length) _ _ _ (λ k x hx hlt=>?_) ?_ (by rw[List.length_range];omega) Z
  ·rw[List.length_range] at hlt;rw[List.getElem?_range hlt] at hx;injection hx with hx;subst hx;unfold qK;obtain⟨n,hf⟩:∃ n,l[k]?=some n:=⟨_,List.getElem?_eq_getElem hlt⟩;have htl:(l.take k).length<=1152921504606846:=by simp;omega
   have ht:zaO l k=!(!inR n 0 2||(l.take k).any (λ x=>n == x)):=by
    unfold zaO;rw[hf];simp only;unfold intAt;rw[JR,show(λ x=>x == n)=(λ x=>n == x) from by funext x;exact BEq.comm]
   rw[zD,Ke (decide_eq_true hlt),zG,hf,obS,Zk,obS,XM (by omega),zV,obS,ht,zQ (by omega)];cases inR n 0 2 with
   | false=>rfl
   |true=>simp only[Bool.not_true,beq_self_eq_true,if_true];rw[ContainsI_eq htl,zV,obS];cases(l.take k).any (λ x=>n == x) <;> rfl
  ·unfold qK;rw[List.length_range,zD,Kf (by simp)]
 rw[hl,obS,XY];unfold wM QI;cases(List.range l.length).all (zaO l) <;> rfl
structure Good(t:Tree):Prop where
 sm:jl t
 ok:zF t=true
theorem Good.pkg{t:Tree}(h:Good t):∀ f∈t.files,zj f.pkg=true:=λ _ hf=>YN (Yi h.ok hf)
theorem Good.len(h:Good t):t.files.length<=1048576:=h.sm.1
theorem qB(h:zC s=true):1<=s.l.length/\s.l.length<=3:=by
 unfold zC inR at h;simp[cmpI] at h;omega
theorem lenSum_le(l:List Str)(h:∀ x∈l,x.l.length<=3):ja l<=4*l.length:=by
 induction l with
 | nil=>exact Nat.le_refl _
 |cons x l ih=>
  have h1:=h x (by simp);have h2:=ih λ y hy=>h y (by simp[hy])
  unfold ja at h2 ⊢;simp only[List.map_cons,List.sum_cons,List.length_cons];omega
theorem yJ(h:zi s=true):s.l.length<=11:=by
 unfold zi at h;rw[Bool.and_eq_true] at h;have h1:=lenSum_le (zx s dot) λ x hx=>(qB (List.all_eq_true.1 h.1 x hx)).2
 rw[Z5] at h1;have h2:=h.2;simp[cmpI] at h2;omega
theorem ym(h:zj s=true):s.l.length<=11:=by
 unfold zj at h;rw[Bool.or_eq_true] at h;rcases h with h | h
 ·rw[oD h];exact Nat.zero_le _
 ·exact yJ h
def JS:List (List UInt8)->List UInt8
 | []=>[]
 | [a]=>a
 | a::b::l=>a++46::JS (b::l)
theorem zaE:∀ (l:List Str) (acc:List UInt8),(l.foldl X3 (⟨acc⟩,true)).1=⟨acc++(l.map λ x=>46::x.l).flatten⟩
 | [],acc=>by simp
 |x::l,acc=>by
  rw[List.foldl_cons];show(l.foldl X3 (⟨(acc++[46])++x.l⟩,true)).1=_;rw[zaE l];simp
theorem zaX(a:List UInt8)(l:List (List UInt8)):JS (a::l)=a++(l.map λ x=>46::x).flatten:=by
 induction l generalizing a with
 | nil=>simp[JS]
 | cons b l ih=>rw[JS,ih];simp
theorem zaY(l:List Str):join l=⟨JS (l.map (·.l))⟩:=by
 cases l with
 | nil=>rfl
 |cons x l=>unfold join Yp;rw[List.foldl_cons];show(l.foldl X3 (⟨[]++x.l⟩,true)).1=_;rw[zaE,List.map_cons,zaX];simp[List.map_map,Function.comp_def]
theorem cutF_pre(c:UInt8):∀ (a l:List UInt8),c ∉ a->cutF c (a++c::l)=a::cutF c l
 | [],l,_=>by simp[cutF]
 |b::a,l,h=>by
  have hb:(b == c)=false:=by
   have:b≠c:=λ e=>h (by simp[e])
   simpa using this
  rw[List.cons_append,XN,hb,cutF_pre c a l (λ e=>h (by simp[e]))];rfl
theorem zbL(c:UInt8):∀ (a:List UInt8),c ∉ a->cutF c a=[a]
 | [],_=>rfl
 |b::a,h=>by
  have hb:(b == c)=false:=by
   have:b≠c:=λ e=>h (by simp[e])
   simpa using this
  rw[XN,hb,zbL c a (λ e=>h (by simp[e]))];rfl
theorem zds:∀ (l:List (List UInt8)),l≠[]->(∀ x∈l,(46:UInt8) ∉ x)->cutF 46 (JS l)=l
 | [],h,_=>absurd Z h
 | [a],_,h=>zbL 46 a (h a (by simp))
 |a::b::l,_,h=>by
  rw[JS,cutF_pre 46 a _ (h a (by simp)),zds (b::l) (by simp) λ x hx=>h x (by simp[hx])]
theorem zaZ:∀ (l:List UInt8),JS (cutF 46 l)=l
 | []=>rfl
 |b::l=>by
  rw[XN];cases hb:b == 46 with
  |true=>
   have ih:=zaZ l;have hb:=eq_of_beq hb;rw[Ke Z];cases hc:cutF 46 l with
   | nil=>exact absurd hc (YW 46 l)
   | cons h t=>rw[JS,← hc,ih,hb];rfl
  |false=>
   have ih:=zaZ l;rw[Kf (by decide)];cases hc:cutF 46 l with
   | nil=>exact absurd hc (YW 46 l)
   |cons h t=>rw[hc] at ih;show JS ((b::h)::t)=b::l;rw[zaX] at ih ⊢;rw[← ih];rfl
theorem join_split(s:Str):join (zx s dot)=s:=by
 rw[zaY,jE,List.map_map];show(⟨JS ((cutF 46 s.l).map λ x=>x)⟩:Str)=s;rw[List.map_id',zaZ]
theorem low_ne{b:UInt8}(h:low b=true):b≠46:=by
 intro e;subst e;revert h;decide
theorem validPart_dot(h:zC s=true):(46:UInt8) ∉ s.l:=by
 unfold zC at h;rw[Bool.and_eq_true] at h;intro hm;exact low_ne (List.all_eq_true.1 h.2 _ hm) Z
theorem zdt(hne:l≠[])(h:∀ x∈l,zC x=true):zx (join l) dot=l:=by
 rw[zaY,jE];show(cutF 46 (JS (l.map (·.l)))).map Str.mk=l;rw[zds _ (by simpa using hne) (by
  intro x hx;obtain⟨y,hy,rfl⟩:=List.mem_map.1 hx;exact validPart_dot (h y hy)),List.map_map]
 show l.map (λ x=>x)=l;exact List.map_id' l
theorem zdu(hne:l≠[])(hlen:l.length<=3)(h:∀ x∈l,zC x=true):zi (join l)=true:=by
 unfold zi;rw[zdt hne h,Bool.and_eq_true];exact⟨List.all_eq_true.2 h,by simp[cmpI];omega⟩
theorem jq(h:zi s=true):(∀ x∈zx s dot,zC x=true)/\(zx s dot).length<=3:=by
 unfold zi at h;rw[Bool.and_eq_true] at h;have:=h.2;simp[cmpI] at this;exact⟨List.all_eq_true.1 h.1,by omega⟩
theorem pre_valid(h:zi s=true)(k:Nat):zj (join ((zx s dot).take k))=true:=by
 obtain⟨h1,h2⟩:=jq h;unfold zj;cases k with
 | zero=>rfl
 |succ k=>have hne:=QF s dot;rw[zdu (by intro e;have:=congrArg List.length e;simp at this;rw[this] at hne;simp at hne) (by simp;omega) λ x hx=>h1 x (List.mem_of_mem_take hx),Bool.or_true]
theorem dir_of_init{t:List File}{c:Str}(hc:c≠emptyS)(h:cmpI .geq (yR t ⟨r,c,⟨[]⟩,true,0,[]⟩) 0=true):Xf t r c=true:=by
 unfold yR at h;rw[JR,List.any_eq_true] at h;obtain⟨f,hf,hs⟩:=h;unfold wj at hs;simp only[Bool.and_eq_true,beq_iff_eq,decide_eq_true_eq] at hs;obtain⟨⟨⟨h1,h2⟩,_⟩,_⟩:=hs;unfold Xf;rw[Bool.or_eq_true,List.any_eq_true];refine .inl ⟨f,hf,?_⟩;unfold QG under;simp[h1,h2,hc]
theorem find_eq(ht:Good t)(hr:roots.length<=1048576)(hp:zj p=true)(hs:zC s=true)(hc:zi (child p s)=true):Y2 t roots p s=some (YZ t.files roots p s):=by
 have hpl:=ym hp;have hsl:=(qB hs).2;have hcl:=yJ hc;have hne:=child_ne hc;have hcp:zj (child p s)=true:=by unfold zj;rw[hc,Bool.or_true]
 have he:Ja p s=child p s:=by unfold Ja;rw[hp,hs,hc];rfl
 unfold Y2;rw[zaW (by omega),he,obS,Kf (by simp only[decide_eq_true_eq];exact hne)];have hl:zI (λ s16=>jV t roots p s (child p s) s16) (zSpec,[],(0:Int))=some (runL (λ _ (acc:List Int) r=>
   if cmpI .geq (yR t.files ⟨r,child p s,⟨[]⟩,true,0,[]⟩) 0=true then .inr (Sum.inr (⟨2,yR t.files ⟨r,child p s,⟨[]⟩,true,0,[]⟩,[r]⟩:Spec))
   else if cmpI .geq (yR t.files ⟨r,p,s,false,0,[]⟩) 0=true then .inr (Sum.inr (⟨1,yR t.files ⟨r,p,s,false,0,[]⟩,[]⟩:Spec))
   else .inl (if Xf t.files r (child p s)=true then acc++[r] else acc)) (λ acc=>Sum.inl (zSpec,acc)) 0 [] roots):=by
  refine zbH (σ:=List Int) roots (λ acc k=>(zSpec,acc,(k:Int))) _ _ (λ k acc=>acc.length<=k) (λ k acc r hx hlt hi=>?_) (λ acc _=>?_) (Nat.le_refl 0) (by omega)
  ·have hst:jV t roots p s (child p s) (zSpec,acc,(k:Int))=(if cmpI .geq (yR t.files ⟨r,child p s,⟨[]⟩,true,0,[]⟩) 0=true then some (.inr (.inr (⟨2,yR t.files ⟨r,child p s,⟨[]⟩,true,0,[]⟩,[r]⟩:Spec)))
     else if cmpI .geq (yR t.files ⟨r,p,s,false,0,[]⟩) 0=true then some (.inr (.inr (⟨1,yR t.files ⟨r,p,s,false,0,[]⟩,[]⟩:Spec)))
     else some (.inl (zSpec,(if Xf t.files r (child p s)=true then acc++[r] else acc),((k+1:Nat):Int)))):=by
    unfold jV;simp only;rw[zD,Ke (decide_eq_true hlt),zG,hx,obS,obS,fileAt_eq ht.len,obS,Bool.true_and,fileAt_eq ht.len,obS,Bool.true_and,hasDir_eq ht.sm ht.pkg hcp (by omega),zQ (by omega)];rw[zV,obS,yg (by simp;omega) (by simp;omega)];generalize cmpI .geq (yR t.files ⟨r,child p s,⟨[]⟩,true,0,[]⟩) 0=b1;generalize cmpI .geq (yR t.files ⟨r,p,s,false,0,[]⟩) 0=b2;generalize Xf t.files r (child p s)=b3;cases b1 <;> cases b2 <;> cases b3 <;> rfl
   cases h1:cmpI .geq (yR t.files ⟨r,child p s,⟨[]⟩,true,0,[]⟩) 0 with
   | true=>rw[h1] at hst;exact hst
   |false=>
    rw[h1] at hst;rw[Kf (by decide)] at hst ⊢;cases h2:cmpI .geq (yR t.files ⟨r,p,s,false,0,[]⟩) 0 with
    | true=>rw[h2] at hst;exact hst
    |false=>
     rw[h2] at hst;rw[Kf (by decide)] at hst ⊢;refine⟨hst,?_⟩;split
     ·simp;omega
     ·omega
  ·unfold jV;simp only;rw[zD,Kf (by simp)]
 rw[hl,obS];unfold YZ;have key:∀ (rs:List Int) (k:Nat) (acc:List Int),Sum.elim (λ b14:Spec×List Int=>if(cmpI .gtr (b14.2.length:Int) (0:Int))=true then(some (⟨(3:Int),(-1:Int),b14.2⟩:Spec)) else((qY).bind λ v75=>some v75)) some (runL (λ _ (acc:List Int) r=>
   if cmpI .geq (yR t.files ⟨r,child p s,⟨[]⟩,true,0,[]⟩) 0=true then .inr (Sum.inr (⟨2,yR t.files ⟨r,child p s,⟨[]⟩,true,0,[]⟩,[r]⟩:Spec))
   else if cmpI .geq (yR t.files ⟨r,p,s,false,0,[]⟩) 0=true then .inr (Sum.inr (⟨1,yR t.files ⟨r,p,s,false,0,[]⟩,[]⟩:Spec))
   else .inl (if Xf t.files r (child p s)=true then acc++[r] else acc)) (λ acc=>Sum.inl (zSpec,acc)) k acc rs)=some (jA t.files p s acc rs):=by
  intro rs
  induction rs with
  |nil=>intro k acc;unfold jA;simp only[runL,Sum.elim_inl];split <;> rfl
  |cons r rs ih=>
   intro k acc;unfold jA;rw[runL];cases h1:cmpI .geq (yR t.files ⟨r,child p s,⟨[]⟩,true,0,[]⟩) 0 with
   | true=>rw[dir_of_init hne h1];rfl
   |false=>
    rw[Bool.and_false];cases h2:cmpI .geq (yR t.files ⟨r,p,s,false,0,[]⟩) 0 with
    | true=>rfl
    | false=>exact ih _ _
 exact key roots 0 []
theorem zcI(c:UInt8):∀ (a l:List UInt8),cutF c (a++c::l)=cutF c a++cutF c l
 | [],l=>by simp[cutF]
 |b::a,l=>by
  rw[List.cons_append,XN,zcI c a l,XN];cases b == c with
  | true=>rfl
  |false=>
   rw[Kf (by decide),Kf (by decide)];cases hc:cutF c a with
   | nil=>exact absurd hc (YW c a)
   | cons h t=>rfl
theorem split_append(p s:Str):zx ⟨(p.l++[46])++s.l⟩ dot=zx p dot++zx s dot:=by
 rw[jE,jE,jE,← List.map_append];show(cutF 46 ((p.l++[46])++s.l)).map Str.mk=(cutF 46 p.l++cutF 46 s.l).map Str.mk;rw[List.append_assoc,List.singleton_append,zcI]
section
variable{S β:Type}
theorem XO{step:S->Option (S⊕β)}(n:Nat)(mk:Nat->S){b:β}(h:∀ k,k<n->step (mk k)=some (.inl (mk (k+1))))(hend:step (mk n)=some (.inr b))(hn:n<576460752303423488){s:S}(hs:s=mk 0):zI step s=some b:=by
 subst hs;have key:∀ m k,k+m=n->jt step (m+1) (mk k)=some b:=by
  intro m
  induction m with
  | zero=>intro k hk;rw[show k=n by omega];exact yD hend
  | succ m ih=>intro k hk;rw[wX (h k (by omega))];exact ih (k+1) (by omega)
 exact qt (key n 0 (by omega)) (by omega)
end
theorem Zl{l:List α}(h:k<l.length):∃ x,l[k]?=some x/\x∈l:=⟨l[k],List.getElem?_eq_getElem h,List.getElem_mem h⟩
theorem libJoin(l:List (List UInt8)):Lib.join l [46]=JS l:=by
 cases l with
 | nil=>rfl
 |cons a l=>rw[zaX];rw[Lib.join_cons];rfl
theorem NamesAbove_eq(hs:sho s):ji s=some (if zi s=true then W7 s else[]):=by
 unfold ji;rw[zdr hs,obS];cases hv:zi s with
 |false=>rw[Kf (by decide),Kf (by decide),show zI (λ s7=>x9 s [] s7) ([],(0:Int))=some [] from XO (b:=[]) 0 (λ k=>(([]:List Str),(k:Int))) (λ k hk=>absurd hk (by omega)) (by unfold x9;simp only;rw[Kf (by decide)]) (by omega) Z];rfl
 |true=>
  obtain⟨hparts,hlen⟩:=jq hv;have hnl:=yJ hv;have hl:zI (λ s7=>x9 s (zx s dot) s7) ([],(0:Int))=some (W7 s):=by
   refine XO (b:=W7 s) (zx s dot).length (λ k=>(Xe (zx s dot) k,(k:Int))) (λ k hk=>?_) (by unfold x9;simp only;rw[zD,Kf (by simp)];rfl) (by omega) Z;unfold x9;simp only;have hj:qT ((zx s dot).take (k+1)) (⟨[46]⟩:Str)=some (join ((zx s dot).take (k+1))):=by
    have hb:=join_le (zx s dot) (k+1);rw[Z5] at hb;have e:(⟨Lib.join (((zx s dot).take (k+1)).map (·.l)) [46]⟩:Str)=join ((zx s dot).take (k+1)):=by rw[libJoin,zaY]
    unfold qT;rw[Ke ⟨by simp;omega,by
     have:=congrArg (λ x:Str=>x.l.length) e;simp only at this;rw[this];omega⟩]
    exact congrArg some e
   rw[zD,Ke (decide_eq_true hk),zdr hs,hv,Ke Z,obS,zQ (by omega),obS,XM (by omega),obS,hj,obS,yg (by simp[Ws];omega) (by simp[Ws];omega),obS,obS,zap]
  rw[Ke Z,Ke Z,hl];rfl
theorem Jr(h:zF t=true):t.files.length<=12:=by
 unfold zF at h;rw[Bool.and_eq_true] at h;have:=h.2;simp[cmpI] at this;omega
theorem above_len(s:Str):(W7 s).length=(zx s dot).length:=Ws _ _
theorem w6(h:zi x=true):sho x:=by have:=yJ h;unfold sho;omega
theorem atI_file{l:List File}{n:Int}(h0:0<=n)(h:n<l.length):atI l n=some ((l[n.toNat]?).getD default):=by
 unfold atI;rw[Ke h0];exact get_def h0 h
open Go.RowKit
def Okd{α:Type}[Rep α](x:α):Prop:=∃ M w cs,Rep.rdc M w cs x
section
variable{α β:Type}[Rep α][Rep β]
theorem Okd.fld{get:α->β}(f:Fld get off){x:α}(h:Okd x):Okd (get x):=by
 obtain⟨M,w,cs,hr⟩:=h;obtain⟨c,_,h2⟩:=f.sub hr;exact⟨M,w,c,h2⟩
theorem Okd.len{xs:List α}(h:Okd xs):xs.length<=9223372036854775807:=by
 obtain⟨M,w,cs,A,c,_,h1,h2,_⟩:=h;exact Nat.le_trans h1 h2
end
section
variable{α β σ S:Type}
theorem neq_len{n:Nat}:cmpI .neq (m:Int) (n:Int)=!decide (m=n):=by
 by_cases h:m=n
 ·simp[cmpI,h]
 ·simp[cmpI,h];omega
theorem eq_loop[DecidableEq α]{step:Int->Option (Int⊕(Unit⊕Bool))}(xs ys:List α)(hxy:xs.length=ys.length)
  (h:∀ k (hk:k<xs.length) (hk2:k<ys.length),step (k:Int)=some (if xs[k]=ys[k] then .inl ((k+1:Nat):Int) else .inr (.inr false)))
  (hend:step (xs.length:Int)=some (.inr (.inl ()))) (hlen:xs.length<576460752303423488):Option.bind (α:=Unit⊕Bool) (zI step 0) (Sum.elim (λ _=>some true) some)=some (decide (xs=ys)):=by
 have key:∀ m k,k+m=xs.length->xs.take k=ys.take k->∃ r,jt step (m+1) (k:Int)=some r/\(Sum.elim (λ _=>some true) some r:Option Bool)=some (decide (xs=ys)):=by
  intro m
  induction m with
  |zero=>
   intro k hk he;have:k=xs.length:=by omega
   subst this;refine⟨_,yD hend,?_⟩;rw[List.take_length,hxy,List.take_length] at he;simp[he]
  |succ m ih=>
   intro k hk he;have hlt:k<xs.length:=by omega
   have hlt2:k<ys.length:=by omega
   have hs:=h k hlt hlt2;by_cases e:xs[k]=ys[k]
   ·rw[Ke e] at hs;rw[wX hs];refine ih (k+1) (by omega) ?_;rw[List.take_add_one,List.take_add_one,he,List.getElem?_eq_getElem hlt,List.getElem?_eq_getElem hlt2,e]
   ·rw[Kf e] at hs;refine⟨_,yD hs,?_⟩;have:xs≠ys:=λ h=>by subst h;exact e Z
    simp[this]
 obtain⟨r,h1,h2⟩:=key xs.length 0 (by omega) Z;have h1':jt step (xs.length+1) (0:Int)=some r:=h1;rw[qt h1' (by omega),obS];exact h2
end
section
variable{α:Type}
variable[Decidable q]
theorem eqS_list[DecidableEq α]{step:Int->Option (Int⊕(Unit⊕Bool))}{xs ys:List α}
  (h:∀ k (hk:k<xs.length) (hk2:k<ys.length),step (k:Int)=some (if xs[k]=ys[k] then .inl ((k+1:Nat):Int) else .inr (.inr false)))
  (hend:step (xs.length:Int)=some (.inr (.inl ()))) (hlen:xs.length<576460752303423488):
  (if cmpI .neq (xs.length:Int) (ys.length:Int)=true then some false else Option.bind (α:=Unit⊕Bool) (zI step 0) (Sum.elim (λ _=>some true) some))=some (decide (xs=ys)):=by
 rw[neq_len];by_cases e:xs.length=ys.length
 ·rw[Kf (by simp[e]),eq_loop xs ys e h hend hlen]
 ·rw[Ke (by simp[e])];have:xs≠ys:=λ h=>e (by rw[h])
  simp[this]
end
theorem i64_in{n:Int}(h1:0<=n)(h2:n<=4611686018427387904):i64 n=some n:=xb (by omega) (by omega)
theorem modO_of{m n:Int}(h:n≠0):modO m n=some (m.tmod n):=Kf h
theorem divO_of{m n:Int}(h:n≠0)(h2:0<=m.tdiv n)(h3:m.tdiv n<=9223372036854775807):divO m n=some (m.tdiv n):=Kf (by omega)
theorem lss_at{xs:List α}(hk:k<xs.length):cmpI .lss (k:Int) (xs.length:Int)=true:=by rw[zD];exact decide_eq_true hk
theorem lss_end{xs:List α}:cmpI .lss (xs.length:Int) (xs.length:Int)=false:=by rw[zD];simp
theorem atI_at{xs:List α}(hk:k<xs.length):atI xs (k:Int)=some xs[k]:=by rw[zG,List.getElem?_eq_getElem hk]
end Go.Proofs.YtandbaloaenciaaGreatDoor
