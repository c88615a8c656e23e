import Derived.Test.YtbbfcjifihknnaaGreatDoorRFb
import Derived.Test.YtbbfcjifihknnaaGreatDoorRB
import Derived.Test.YtbbfcjifihknnaaGreatDoorRG
import Derived.Test.YtbbfcjifihknnaaGreatDoorRKb
namespace Go.Proofs.YtbbfcjifihknnaaGreatDoor
variable{a:Bool}{f:File}{g:GResult}{k0 l l0 r:Int}{K:Int->Option Int}{y:List GEvent}{roots xs:List Int}{b x:List Stmt}{vs:List Value}{k off:Nat}{M:Nat->Prop}{m:Option Bool}{H:Option GResult}{q:Prop}{p s:Str}{t:Tree}{c:UInt8}{w:World}
section
variable{α β σ S:Type}
theorem zK(xs:List α)(k:Nat):atI xs (k:Int)=xs[k]?:=by simp[atI]
theorem YL{n:Int}(h1:-9223372036854775808<=n)(h2:n<=9223372036854775807):i64 n=some n:=Ke ⟨h1,h2⟩
theorem zJ(h:k<4611686018427387904):i64 ((k:Int)+1)=some ((k+1:Nat):Int):=by rw[YL (by omega) (by omega)];rfl
theorem xm[Inhabited α](g:Bool)(x:α):gO g (some x)=some (if g=true then x else default):=by unfold gO;split <;> rfl
theorem YC[Inhabited α](e:Option α):gO true e=e:=rfl
theorem Zm[Inhabited α](e:Option α):gO false e=some default:=rfl
theorem zS(k n:Nat):cmpI .lss (k:Int) (n:Int)=decide (k<n):=by simp[cmpI]
theorem xw{b:Nat}{xs ys:List α}(h:(xs.length+ys.length)*b<=140737488355328)(h2:xs.length+ys.length<=9223372036854775807):appO b xs ys=some (xs++ys):=Ke ⟨h,h2⟩
theorem Q3(h:k<=s.l.length):cutHO s (k:Int)=some ⟨s.l.take k⟩:=by unfold cutHO;rw[Ke ⟨by omega,by omega⟩];rfl
theorem Q4(h:k<=s.l.length):cutLO s (k:Int)=some ⟨s.l.drop k⟩:=by unfold cutLO;rw[Ke ⟨by omega,by omega⟩];rfl
theorem sliHO_nat{xs:List α}(h:k<=xs.length):sliHO xs (k:Int)=some (xs.take k):=by unfold sliHO;rw[Ke ⟨by omega,by omega⟩];rfl
theorem QJ{xs:List α}{y:α}(h:k<xs.length):setO xs (k:Int) y=some (xs.set k y):=by unfold setO;rw[Ke ⟨by omega,by omega⟩];rfl
theorem JS{m n:Str}(h:m.l.length+n.l.length<=9223372036854775807):catO m n=some ⟨m.l++n.l⟩:=Ke h
theorem w6{step:S->Option (S⊕β)}{s s':S}{n:Nat}(h:step s=some (.inl s')):wV step (n+1) s=wV step n s':=by rw[wV,h]
theorem yx{step:S->Option (S⊕β)}{s:S}{b:β}{n:Nat}(h:step s=some (.inr b)):wV step (n+1) s=some b:=by rw[wV,h]
theorem iterM_mono{step:S->Option (S⊕β)}{r:β}:∀ (m j:Nat) (s:S),wV step m s=some r->wV step (m+j) s=some r:=by
 intro m
 induction m with
 | zero=>intro j s h;simp[wV] at h
 |succ m ih=>
  intro j s h;rw[show m+1+j=(m+j)+1 by omega];unfold wV at h ⊢;split at h
  ·cases h
  ·exact ih j _ h
  ·exact h
theorem ji{step:S->Option (S⊕β)}{r:β}{m:Nat}{s:S}(h:wV step m s=some r)(hm:m<=1152921504606846976):zH step s=some r:=by
 unfold zH;have:=iterM_mono m (1152921504606846976 - m) s h;rwa[show m+(1152921504606846976 - m)=1152921504606846976 by omega] at this
def runL(R:Nat->σ->α->σ⊕β)(fin:σ->β):Nat->σ->List α->β
 | _,s,[]=>fin s
 |k,s,x::xs=>match R k s x with
  | .inl s'=>runL R fin (k+1) s' xs
  | .inr b=>b
theorem zbG{step:S->Option (S⊕β)}(xs:List α)(mk:σ->Nat->S)(R:Nat->σ->α->σ⊕β)(fin:σ->β)(Inv:Nat->σ->Prop)
  (h:∀ k s x,xs[k]?=some x->k<xs.length->Inv k s->match R k s x with
   | .inl s'=>step (mk s k)=some (.inl (mk s' (k+1)))/\Inv (k+1) s'
   | .inr b=>step (mk s k)=some (.inr b))
  (hend:∀ s,Inv xs.length s->step (mk s xs.length)=some (.inr (fin s))) {s0:σ} (h0:Inv 0 s0) (hlen:xs.length<576460752303423488):zH step (mk s0 0)=some (runL R fin 0 s0 xs):=by
 have key:∀ m k s,k+m=xs.length->Inv k s->wV step (m+1) (mk s k)=some (runL R fin k s (xs.drop k)):=by
  intro m
  induction m with
  |zero=>
   intro k s hk hi;have:k=xs.length:=by omega
   subst this;rw[List.drop_length,runL,wV,hend s hi]
  |succ m ih=>
   intro k s hk hi;have hlt:k<xs.length:=by omega
   have hx:xs[k]?=some xs[k]:=List.getElem?_eq_getElem hlt;rw[List.drop_eq_getElem_cons hlt,runL,wV];have hr:=h k s xs[k] hx hlt hi;cases e:R k s xs[k] with
   |inl s'=>rw[e] at hr;simp only at hr;rw[hr.1];exact ih (k+1) s' (by omega) hr.2
   |inr b=>rw[e] at hr;simp only at hr;rw[hr]
 exact ji (key xs.length 0 s0 (by omega) h0) (by omega)
theorem loop_find{step:Int->Option (Int⊕β)}(xs:List α)(R:Nat->α->Option β)(e:β)
  (h:∀ k x,xs[k]?=some x->k<xs.length->step (k:Int)=some (match R k x with | none=>.inl ((k+1:Nat):Int) | some b=>.inr b))
  (hend:step (xs.length:Int)=some (.inr e)) (hlen:xs.length<576460752303423488) {s:Int} (hs:s=0):
  zH step s=some (runL (λ k (_:Unit) x=>match R k x with | none=>.inl () | some b=>.inr b) (λ _=>e) 0 () xs):=by
 subst hs;refine zbG (σ:=Unit) xs (λ _ k=>(k:Int)) _ _ (λ _ _=>True) (λ k s x hx hlt _=>?_) (λ _ _=>hend) trivial hlen;have:=h k x hx hlt;cases hR:R k x with
 | none=>rw[hR] at this;exact⟨this,trivial⟩
 | some b=>rw[hR] at this;exact this
theorem runL_any(p:α->Bool)(b e:β):∀ (k:Nat) (xs:List α),runL (λ _ (_:Unit) x=>match (if p x=true then some b else none) with | none=>.inl () | some b=>.inr b) (λ _=>e) k () xs=if xs.any p=true then b else e
 | _,[]=>rfl
 |k,x::xs=>by
  cases h:p x with
  | true=>simp[runL,h]
  | false=>simp only[runL,h];rw[List.any_cons,h,Bool.false_or];exact runL_any p b e (k+1) xs
theorem Xe{step:Int->Option (Int⊕β)}(xs:List α)(p:α->Bool)(b e:β)
  (h:∀ k x,xs[k]?=some x->k<xs.length->step (k:Int)=some (if p x=true then .inr b else .inl ((k+1:Nat):Int)))
  (hend:step (xs.length:Int)=some (.inr e)) (hlen:xs.length<576460752303423488) {s:Int} (hs:s=0):
  zH step s=some (if xs.any p=true then b else e):=by
 rw[loop_find xs (λ _ x=>if p x=true then some b else none) e (λ k x hx hlt=>?_) hend hlen hs,runL_any];rw[h k x hx hlt];cases p x <;> rfl
theorem runL_idx(p:α->Bool)(f:Int->β)(e:β):∀ (k:Nat) (xs:List α),runL (λ k (_:Unit) x=>match (if p x=true then some (f k) else none) with | none=>.inl () | some b=>.inr b) (λ _=>e) k () xs=(match xs.findIdx? p with | some i=>f ((k+i:Nat):Int) | none=>e)
 | _,[]=>rfl
 |k,x::xs=>by
  cases h:p x with
  | true=>simp[runL,h,List.findIdx?_cons]
  |false=>
   simp only[runL,h,List.findIdx?_cons,Bool.false_eq_true,if_false];rw[runL_idx p f e (k+1) xs];cases xs.findIdx? p with
   | none=>rfl
   | some i=>simp only[Option.map_some];congr 1;omega
theorem Ju{step:Int->Option (Int⊕β)}(xs:List α)(p:α->Bool)(f:Int->β)(e:β)
  (h:∀ k x,xs[k]?=some x->k<xs.length->step (k:Int)=some (if p x=true then .inr (f k) else .inl ((k+1:Nat):Int)))
  (hend:step (xs.length:Int)=some (.inr e)) (hlen:xs.length<576460752303423488) {s:Int} (hs:s=0):
  zH step s=some (match xs.findIdx? p with | some i=>f (i:Int) | none=>e):=by
 rw[loop_find xs (λ k x=>if p x=true then some (f k) else none) e (λ k x hx hlt=>?_) hend hlen hs,runL_idx]
 ·cases xs.findIdx? p <;> simp
 ·rw[h k x hx hlt];cases p x <;> rfl
theorem runL_fold(g:σ->α->σ)(fin:σ->β):∀ (k:Nat) (s:σ) (xs:List α),runL (λ _ s x=>(.inl (g s x):σ⊕β)) fin k s xs=fin (xs.foldl g s)
 | _,_,[]=>rfl
 | k,s,x::xs=>runL_fold g fin (k+1) (g s x) xs
theorem Q5{step:S->Option (S⊕β)}(xs:List α)(mk:σ->Nat->S)(g:σ->α->σ)(fin:σ->β)(Inv:Nat->σ->Prop)
  (h:∀ k s x,xs[k]?=some x->k<xs.length->Inv k s->step (mk s k)=some (.inl (mk (g s x) (k+1)))/\Inv (k+1) (g s x))
  (hend:∀ s,Inv xs.length s->step (mk s xs.length)=some (.inr (fin s))) {s0:σ} (h0:Inv 0 s0) (hlen:xs.length<576460752303423488):zH step (mk s0 0)=some (fin (xs.foldl g s0)):=by
 rw[zbG xs mk (λ _ s x=>.inl (g s x)) fin Inv h hend h0 hlen,runL_fold]
end
variable{α:Type}
theorem X5(hs:mid s):yT s=some (zB s):=by
 unfold mid at hs;have hl:zH (λ s4=>ql s s4) 0=some (if s.l.any (λ b=>!low b)=true then .inr false else .inl ()):=by
  refine Xe s.l _ _ _ (λ k x hx hlt=>?_) ?_ (by omega) Z
  ·unfold ql;rw[zS,Ke (decide_eq_true hlt),zK,hx,obS,xm,obS,zJ (by omega)];unfold low;generalize cmpB .lss x (UInt8.ofNat 97)=c1;cases c1 with
   | true=>rfl
   |false=>rw[Ke (show(false == false)=true from Z)];generalize cmpB .gtr x (UInt8.ofNat 122)=c2;cases c2 <;> rfl
  ·unfold ql;rw[zS,Kf (by simp)]
 unfold yT;rw[hl,obS];unfold zB;cases h:s.l.any (λ b=>!low b) with
 |true=>
  have:s.l.all low=false:=by
   rw[Bool.eq_false_iff];intro h2;rw[List.any_eq_true] at h;obtain⟨b,hb,hb2⟩:=h;rw[List.all_eq_true.1 h2 b hb] at hb2;cases hb2
  simp[this]
 |false=>
  have:s.l.all low=true:=by
   rw[List.all_eq_true];intro b hb;have:=List.any_eq_false.1 h b hb;simpa using this
  simp only[Bool.false_eq_true,if_false,Sum.elim_inl,yg,obS,this,Bool.and_true,inR];simp[cmpI]
def cutF(c:UInt8):List UInt8->List (List UInt8)
 | []=>[[]]
 |b::l=>if b == c then[]::cutF c l else match cutF c l with
  | h::t=>(b::h)::t
  | []=>[[b]]
theorem Xp(c b:UInt8)(l:List UInt8):cutF c (b::l)=if b == c then[]::cutF c l else match cutF c l with
  | h::t=>(b::h)::t
  | []=>[[b]]:=rfl
theorem YD(c:UInt8):∀ l,cutF c l≠[]
 | []=>by simp[cutF]
 |b::l=>by
  unfold cutF;split
  ·simp
  ·split <;> simp
theorem QK(c:UInt8):∀ l,(cutF c l).length=l.count c+1
 | []=>by simp[cutF]
 |b::l=>by
  unfold cutF;cases h:b == c with
  |true=>simp only[if_true,List.length_cons,QK c l];rw[List.count_cons,h];simp
  |false=>
   simp only[Bool.false_eq_true,if_false];rw[List.count_cons,h];simp only[Bool.false_eq_true,if_false,Nat.add_zero];rw[← QK c l];cases hc:cutF c l with
   | nil=>exact absurd hc (YD c l)
   | cons h t=>rfl
theorem zaC(c:UInt8):∀ (l:List UInt8) (st:List Str×Str),(let r:=l.foldl (jQ c) st;r.1++[r.2])=st.1++(match cutF c l with | h::t=>(⟨st.2.l++h⟩:Str)::t.map Str.mk | []=>[])
 | [],st=>by simp[cutF]
 |b::l,st=>by
  rw[List.foldl_cons];have ih:=zaC c l (jQ c st b);simp only at ih ⊢;rw[ih];unfold jQ;rw[Xp];cases h:b == c with
  |true=>
   simp only[if_true,List.append_assoc];cases hc:cutF c l with
   | nil=>exact absurd hc (YD c l)
   | cons h t=>simp
  |false=>
   simp only[Bool.false_eq_true,if_false];cases hc:cutF c l with
   | nil=>exact absurd hc (YD c l)
   | cons h t=>simp
theorem jq(s:Str)(c:UInt8):zx s c=(cutF c s.l).map Str.mk:=by
 have:=zaC c s.l ([],⟨[]⟩);simp only at this;unfold zx xG;rw[this];cases hc:cutF c s.l with
 | nil=>exact absurd hc (YD c s.l)
 | cons h t=>simp
theorem XB(c:UInt8):∀ l,Lib.indexByte l c<0->cutF c l=[l]
 | [],_=>rfl
 |b::l,h=>by
  unfold Lib.indexByte at h;unfold cutF;cases hb:b == c with
  | true=>rw[hb] at h;simp at h
  |false=>
   rw[hb] at h;simp only[Bool.false_eq_true,if_false] at h ⊢;have hge:=Lib.indexByte_ge l c;have:Lib.indexByte l c<0:=by
    split at h
    ·rename_i e;have:=eq_of_beq e;omega
    ·omega
   rw[XB c l this]
theorem XC(c:UInt8):∀ l,0<=Lib.indexByte l c->Lib.indexByte l c<l.length/\cutF c l=l.take (Lib.indexByte l c).toNat::cutF c (l.drop ((Lib.indexByte l c).toNat+1))
 | [],h=>by simp[Lib.indexByte] at h
 |b::l,h=>by
  unfold Lib.indexByte at h ⊢;cases hb:b == c with
  | true=>simp[cutF,hb]
  |false=>
   rw[hb] at h;simp only[Bool.false_eq_true,if_false] at h ⊢;cases he:Lib.indexByte l c == -1 with
   | true=>rw[he] at h;simp at h
   |false=>
    rw[he] at h;simp only[Bool.false_eq_true,if_false] at h ⊢;have hge:=Lib.indexByte_ge l c;have hne:Lib.indexByte l c≠-1:=by simpa using he
    obtain⟨h1,h2⟩:=XC c l (by omega);refine⟨by simp;omega,?_⟩;have e1:(Lib.indexByte l c+1).toNat=(Lib.indexByte l c).toNat+1:=by omega
    rw[e1];rw[Xp,hb,h2];simp only[Bool.false_eq_true,if_false,List.take_succ_cons,List.drop_succ_cons]
theorem genSplit_loop(c:UInt8)(n:Nat)(hn:n<1099511627777):∀ (l:List UInt8) (done:List Str),l.length<=1099511627776->done.length+(cutF c l).length=n->
  ∀
   m,(cutF c l).length<=m->wV (λ s35=>wv ⟨[c]⟩ 0 ((n:Int) - 1) s35) m ((⟨l⟩:Str),done++List.replicate (n - done.length) zStr,(done.length:Int))=
   some (⟨(cutF c l).getLast (YD c l)⟩,done++((cutF c l).dropLast.map Str.mk++[zStr]),(n:Int) - 1):=by
 intro l
 induction hlen:l.length using Nat.strongRecOn generalizing l with
 |_ k ih=>
  intro done hl hd m hm;have hne:=YD c l;have hpos:0<(cutF c l).length:=List.length_pos_iff.2 hne;obtain⟨m,rfl⟩:∃ m',m=m'+1:=⟨m - 1,by omega⟩;by_cases hlast:(cutF c l).length=1
  ·rw[yx (b:=((⟨l⟩:Str),done++List.replicate (n - done.length) zStr,(done.length:Int))) (by unfold wv;exact Kf (by simp[cmpI];omega))];obtain⟨x,hx⟩:=List.length_eq_one_iff.1 hlast;have e1:n - done.length=1:=by omega
   simp only[hx,List.getLast_singleton,List.dropLast_singleton,List.map_nil,List.nil_append,e1,List.replicate_one];have hxl:x=l:=by
    rcases Int.lt_or_le (Lib.indexByte l c) 0 with h | h
    ·rw[XB c l h] at hx;injection hx with hx;exact hx.symm
    ·obtain⟨_,h2⟩:=XC c l h;rw[h2] at hx;have:=congrArg List.length hx;simp at this;exact absurd this (YD _ _)
   rw[hxl]
   congr 2
   congr 1
   omega
  ·have hidx:0<=Lib.indexByte l c:=by
    rcases Int.lt_or_le (Lib.indexByte l c) 0 with h | h
    ·rw[XB c l h] at hlast;simp at hlast
    ·exact h
   obtain⟨h1,h2⟩:=XC c l hidx;obtain⟨j,hi⟩:=Int.eq_ofNat_of_zero_le hidx;rw[hi] at h1 h2;rw[Int.toNat_natCast] at h2;have hj:j<l.length:=by omega
   have e2:wn ⟨l⟩ ⟨[c]⟩=some (j:Int):=by simp[wn,hi]
   have hrep:done.length<(done++List.replicate (n - done.length) zStr).length:=by simp;omega
   have e4:atI (done++List.replicate (n - done.length) zStr) (done.length:Int)=some zStr:=by
    rw[zK,List.getElem?_append_right (Nat.le_refl _),Nat.sub_self,List.getElem?_replicate,Ke (by omega)]
   have e5:setO (done++List.replicate (n - done.length) zStr) (done.length:Int) (⟨l.take j⟩:Str)=some ((done++[⟨l.take j⟩])++List.replicate (n - (done.length+1)) zStr):=by
    rw[QJ hrep]
    congr 1
    rw[List.set_append_right _ _ (Nat.le_refl _),Nat.sub_self];obtain⟨q,hq⟩:∃ q,n - done.length=q+1:=⟨n - done.length - 1,by omega⟩;rw[hq,List.replicate_succ,List.set_cons_zero,List.append_assoc,show n - (done.length+1)=q by omega];rfl
   have hstep:wv ⟨[c]⟩ 0 ((n:Int) - 1) ((⟨l⟩:Str),done++List.replicate (n - done.length) zStr,(done.length:Int))=some (.inl ((⟨l.drop (j+1)⟩:Str),(done++[⟨l.take j⟩])++List.replicate (n - (done.length+1)) zStr,((done.length+1:Nat):Int))):=by
    unfold wv;rw[Ke (by simp[cmpI];omega)];simp only;rw[e2,obS,Kf (by simp[cmpI]),show((j:Int)+0)=(j:Int) by omega,YL (by omega) (by omega),obS,Q3 (show j<=(⟨l⟩:Str).l.length by show j<=l.length;omega),obS,e4,obS,e5,obS];rw[show((j:Int)+(([c]:List UInt8).length:Int))=((j+1:Nat):Int) from Z,YL (by omega) (by omega),obS,Q4 (show j+1<=(⟨l⟩:Str).l.length by show j+1<=l.length;omega),obS,zJ (by omega),obS]
   rw[w6 hstep];have hlen2:(cutF c (l.drop (j+1))).length+1=(cutF c l).length:=by rw[h2];rfl
   have hrec:=ih (l.drop (j+1)).length (by simp;omega) (l.drop (j+1)) Z (done++[⟨l.take j⟩]) (by simp;omega) (by simp;omega) m (by omega);rw[List.length_append,List.length_singleton] at hrec;rw[hrec];have hne2:=YD c (l.drop (j+1));have e7:(cutF c l).getLast hne=(cutF c (l.drop (j+1))).getLast hne2:=by
    have:∀ (L:List (List UInt8)) (hL:L≠[]),L=l.take j::cutF c (l.drop (j+1))->L.getLast hL=(cutF c (l.drop (j+1))).getLast hne2:=by
     intro L hL e;subst e;exact List.getLast_cons hne2
    exact this _ hne h2
   have e8:(cutF c l).dropLast=l.take j::(cutF c (l.drop (j+1))).dropLast:=by
    have:∀ (L:List (List UInt8)),L=l.take j::cutF c (l.drop (j+1))->L.dropLast=l.take j::(cutF c (l.drop (j+1))).dropLast:=by
     intro L e;subst e;rw[List.dropLast_cons_of_ne_nil hne2]
    exact this _ h2
   rw[e7,e8];simp
theorem Split_eq(hs:s.l.length<=8388608)(c:UInt8):ja s ⟨[c]⟩=some (zx s c):=by
 unfold ja qV;have hcount:s.l.count c<=s.l.length:=List.count_le_length;rw[Kf (by simp[cmpI]),Kf (by simp)];have e1:Zf s ⟨[c]⟩=some (s.l.count c:Int):=rfl;rw[Ke (by simp[cmpI]),e1,obS,zJ (by omega),obS,obS,zJ (by omega),obS];have hmin:(if((s.l.length+1:Nat):Int)<((s.l.count c+1:Nat):Int) then((s.l.length+1:Nat):Int) else((s.l.count c+1:Nat):Int))=((s.l.count c+1:Nat):Int):=Kf (by omega);rw[hmin];have hbig:s.l.count c+1<=16777216:=by omega
 have e2:Jd 1 16 ((s.l.count c+1:Nat):Int) zStr=some (List.replicate (s.l.count c+1) zStr):=by
  unfold Jd;rw[Ke ⟨by omega,by simp;omega,by simp;omega,by omega⟩];rfl
 rw[e2,obS,YL (by omega) (by omega),obS];have hl:=ji (genSplit_loop c (s.l.count c+1) (by omega) s.l [] (by omega) (by simp[QK]) (s.l.count c+1) (by rw[QK];omega)) (by omega);simp only[List.nil_append,List.length_nil,Nat.sub_zero] at hl;rw[show((0:Nat):Int)=0 from Z] at hl;rw[hl,obS];have hne:=YD c s.l;have hlen:=QK c s.l;have hz:((cutF c s.l).dropLast.map Str.mk).length=s.l.count c:=by simp[hlen]
 have e3:(((s.l.count c+1:Nat):Int) - 1)=(s.l.count c:Int):=by omega
 simp only[e3];have e4:atI ((cutF c s.l).dropLast.map Str.mk++[zStr]) (s.l.count c:Int)=some zStr:=by
  rw[zK,List.getElem?_append_right (by omega),hz,Nat.sub_self];rfl
 have e5:setO ((cutF c s.l).dropLast.map Str.mk++[zStr]) (s.l.count c:Int) (⟨(cutF c s.l).getLast hne⟩:Str)=some ((cutF c s.l).map Str.mk):=by
  unfold setO;rw[Ke ⟨by omega,by simp[hlen]⟩]
  congr 1
  rw[Int.toNat_natCast,List.set_append_right _ _ (by omega),hz,Nat.sub_self,List.set_cons_zero];have:=List.dropLast_concat_getLast hne
  conv=>rhs;rw[← this]
  simp
 rw[e4,obS,e5,obS,zJ (by omega),obS];have e6:sliHO ((cutF c s.l).map Str.mk) ((s.l.count c+1:Nat):Int)=some ((cutF c s.l).map Str.mk):=by
  unfold sliHO;rw[Ke ⟨by omega,by simp[hlen]⟩]
  congr 1
  rw[Int.toNat_natCast];exact List.take_of_length_le (by simp[hlen])
 rw[e6,jq];rfl
def sho(s:Str):Prop:=s.l.length<=8388608
theorem sho.mid{s:Str}(h:sho s):mid s:=by unfold sho at h;unfold Go.Proofs.YtbbfcjifihknnaaGreatDoor.mid;omega
theorem split_len(s:Str)(c:UInt8):(zx s c).length<=s.l.length+1:=by have:=Jf (zx s c);rwa[qU] at this
theorem split_part{x:Str}(h:x∈zx s c):x.l.length<=s.l.length+1:=by
 obtain⟨k,hk⟩:=List.getElem?_of_mem h;have:=part_le hk;rwa[qU] at this
theorem any_not(p:α->Bool)(l:List α):l.any (λ x=>!p x)=!l.all p:=by
 induction l with
 | nil=>rfl
 | cons x l ih=>simp[ih]
theorem wL(hs:sho s):zZ s=some (zm s):=by
 unfold sho at hs;have hlen:=split_len s dot;unfold zZ;rw[show ja s (⟨[46]⟩:Str)=some (zx s dot) from Split_eq hs dot,obS];have hl:zH (λ s7=>qm (zx s dot) s7) 0=some (if(zx s dot).any (λ x=>!zB x)=true then .inr false else .inl ()):=by
  refine Xe _ _ _ _ (λ k x hx hlt=>?_) ?_ (by omega) Z
  ·unfold qm;have hm:mid x:=by have:=split_part (List.mem_of_getElem? hx);unfold mid;omega
   rw[zS,Ke (decide_eq_true hlt),zK,hx,obS,X5 hm,obS,zJ (by omega)];cases zB x <;> rfl
  ·unfold qm;rw[zS,Kf (by simp)]
 rw[hl,obS,any_not];unfold zm;cases(zx s dot).all zB <;> rfl
theorem Xf(hs:sho s):xi s=some (zv s):=by
 unfold xi;rw[wL hs,xm,obS];unfold zv emptyS;cases decide (s=(⟨[]⟩:Str)) <;> rfl
def WQ(p s:Str):Str:=if(zv p&&zB s&&zm (child p s))=true then child p s else emptyS
theorem za0(h:p.l.length+s.l.length+1<=8388608):xH p s=some (WQ p s):=by
 have hp:sho p:=by unfold sho;omega
 have hs:mid s:=by unfold mid;omega
 unfold xH WQ;rw[Xf hp,obS,X5 hs,xm,obS];cases zv p with
 | false=>simp only[Bool.not_false,Bool.true_or,if_true,Bool.false_and,Bool.false_eq_true,if_false,emptyS]
 |true=>
  cases zB s with
  | false=>simp only[Bool.not_false,Bool.or_true,if_true,Bool.false_and,Bool.and_false,Bool.false_eq_true,if_false,emptyS,Bool.not_true,beq_self_eq_true]
  |true=>
   have hc:(if(decide (p≠(⟨[]⟩:Str)))=true then((catO p (⟨[46]⟩:Str)).bind λ v14=>(catO v14 s).bind λ v15=>some v15) else(some s))=some (child p s):=by
    unfold child emptyS;by_cases he:p=⟨[]⟩
    ·rw[Kf (by simp[he]),Ke he]
    ·rw[Ke (by simp[he]),Kf he,JS (by show p.l.length+1<=_;omega),obS,JS (by rw[List.length_append];show p.l.length+1+s.l.length<=_;omega),obS]
   have hsc:sho (child p s):=by
    unfold sho child;split
    ·omega
    ·rw[List.length_append,List.length_append];show p.l.length+1+s.l.length<=_;omega
   rw[hc,Kf (by decide),obS,wL hsc,obS];generalize child p s=q;cases zm q <;> rfl
theorem HasPrefix_eq:jg s p=some (decide (p.l.length<=s.l.length)&&decide ((⟨s.l.take p.l.length⟩:Str)=p)):=by
 unfold jg yX;by_cases h:p.l.length<=s.l.length
 ·have e:cmpI .geq (s.l.length:Int) (p.l.length:Int)=true:=by simp[cmpI,h]
  rw[e,Q3 h];simp[gO,h]
 ·have e:cmpI .geq (s.l.length:Int) (p.l.length:Int)=false:=by simp[cmpI];omega
  rw[e];simp[gO,h]
theorem IsUnder_eq(hs:sho s)(hp:p.l.length+1<=8388608):ZK s p=some (zm s&&zv p&&under s p):=by
 have hp':sho p:=by unfold sho;omega
 unfold ZK;rw[wL hs,obS,Xf hp',xm,obS,JS (by show p.l.length+1<=_;omega),xm];unfold under emptyS;cases zm s with
 | false=>rfl
 |true=>
  cases zv p with
  | false=>rfl
  |true=>
   cases he:decide (p=(⟨[]⟩:Str)) with
   | true=>rfl
   |false=>
    cases hq:decide (s=p) with
    | true=>rfl
    |false=>
     simp only[HasPrefix_eq,xm,Bool.not_true,Bool.or_self,Bool.false_eq_true,if_false,beq_self_eq_true,if_true,Bool.true_and,Bool.false_or,obS,List.length_append,List.length_singleton]
     congr 2
     simp[cmpI];omega
theorem Q6(a b c:Int):yg a b c=some (inR a b c):=rfl
theorem Zn:zm emptyS=false:=rfl
theorem idx_join(p:α->Bool)(xs:List α):Option.bind (some (match xs.findIdx? p with | some i=>(Sum.inr (i:Int):Unit⊕Int) | none=>Sum.inl ())) (Sum.elim (λ _=>some (-1)) some)=some (xP p xs):=by
 unfold xP;cases xs.findIdx? p <;> rfl
theorem QL(p:α->Bool)(xs:List α):cmpI .geq (xP p xs) 0=xs.any p:=by
 unfold xP;cases h:xs.findIdx? p with
 |none=>
  rw[List.findIdx?_eq_none_iff] at h;have:xs.any p=false:=by rw[List.any_eq_false];intro x hx;simp[h x hx]
  rw[this];rfl
 |some i=>
  obtain⟨hi,hp,_⟩:=List.findIdx?_eq_some_iff_getElem.1 h;have:xs.any p=true:=by rw[List.any_eq_true];exact⟨_,List.getElem_mem hi,hp⟩
  rw[this];simp[cmpI]
theorem idxOf_lss{p:α->Bool}{xs:List α}{x:α}(hx:xs[k]?=some x)(hp:p x=true):cmpI .lss (xP p xs) k=(xs.take k).any p:=by
 have hk:=zG hx;have hxk:xs[k]=x:=by rw[List.getElem?_eq_getElem hk] at hx;injection hx
 unfold xP;cases h:xs.findIdx? p with
 |none=>rw[List.findIdx?_eq_none_iff] at h;have:=h x (List.mem_of_getElem? hx);rw[hp] at this;cases this
 |some i=>
  obtain⟨hi,hpi,hmin⟩:=List.findIdx?_eq_some_iff_getElem.1 h;by_cases hik:i<k
  ·have:(xs.take k).any p=true:=by
    rw[List.any_eq_true];exact⟨xs[i],List.mem_take_iff_getElem.2 ⟨i,by omega,Z⟩,hpi⟩
   rw[this];simp[cmpI,hik]
  ·have:(xs.take k).any p=false:=by
    rw[List.any_eq_false];intro y hy;obtain⟨j,hj,rfl⟩:=List.mem_take_iff_getElem.1 hy;exact hmin j (by omega)
   rw[this];simp[cmpI];omega
theorem IndexI_eq{n:Int}(h:xs.length<=1152921504606846):x9 xs n=some (xP (λ x=>n == x) xs):=by
 unfold x9;have hl:zH (λ s4=>wt xs n s4) 0=some (match xs.findIdx? (λ x=>n == x) with | some i=>(Sum.inr (i:Int):Unit⊕Int) | none=>Sum.inl ()):=by
  refine Ju xs (λ x=>n == x) (λ i=>Sum.inr i) _ (λ k x hx hlt=>?_) ?_ (by omega) Z
  ·unfold wt;rw[zS,Ke (decide_eq_true hlt),zK,hx,obS,zJ (by omega),show cmpI .eql n x=(n == x) from Z];cases n == x <;> rfl
  ·unfold wt;rw[zS,Kf (by simp)]
 rw[hl];exact idx_join _ _
theorem ContainsI_eq{n:Int}(h:xs.length<=1152921504606846):xn xs n=some (xs.any (λ x=>n == x)):=by
 unfold xn;rw[IndexI_eq h,obS,QL]
theorem stmt_mod(s:Stmt):decide (s={ (⟨s.kind,⟨[]⟩,0,⟨[]⟩,0⟩:Stmt) with module:=s.module })=(cmpI .eql s.level 0&&decide (s.name=⟨[]⟩)&&cmpI .eql s.value 0):=by
 cases s;rw[Bool.eq_iff_iff];simp[cmpI,and_assoc]
theorem stmt_nv(s:Stmt):decide (s={ { (⟨s.kind,⟨[]⟩,0,⟨[]⟩,0⟩:Stmt) with name:=s.name } with value:=s.value })=(decide (s.module=⟨[]⟩)&&cmpI .eql s.level 0):=by
 cases s;rw[Bool.eq_iff_iff];simp[cmpI]
theorem stmt_n(s:Stmt):decide (s={ (⟨s.kind,⟨[]⟩,0,⟨[]⟩,0⟩:Stmt) with name:=s.name })=(decide (s.module=⟨[]⟩)&&cmpI .eql s.level 0&&cmpI .eql s.value 0):=by
 cases s;rw[Bool.eq_iff_iff];simp[cmpI,and_assoc]
theorem smStmt.sho{s:Stmt}(h:smStmt s):sho s.module:=by have:=h.1;unfold Go.Proofs.YtbbfcjifihknnaaGreatDoor.sho;omega
theorem smStmt.midn{s:Stmt}(h:smStmt s):mid s.name:=by have:=h.2;unfold mid;omega
theorem stmtOk_eq{s:Stmt}(h:smStmt s):Yk s=some (zW s):=by
 have hm:=wL h.sho;have hn:=X5 h.midn;unfold Yk;rw[hm,hn,stmt_mod,stmt_nv,stmt_n];simp only[Q6,xm,obS];unfold zW;rcases s with⟨kind,m,level,name,value⟩;simp only[show ∀ x y:Int,cmpI .eql x y=(x == y) from λ _ _=>Z];by_cases h0:kind=0
 ·subst h0;simp only[beq_self_eq_true,if_true,obS];generalize zm m=a;generalize (level == 0)=b;generalize decide (name=⟨[]⟩)=c;generalize (value == 0)=d;cases a <;> cases b <;> cases c <;> cases d <;> rfl
 ·by_cases h2:kind=2
  ·subst h2;simp only[beq_self_eq_true,if_true,obS,show((2:Int) == 0)=false from Z,show((2:Int) == 1)=false from Z,Bool.false_eq_true,if_false];generalize zm m=a;generalize (level == 0)=b;generalize decide (name=⟨[]⟩)=c;generalize (value == 0)=d;cases a <;> cases b <;> cases c <;> cases d <;> rfl
  ·have e0:(kind == 0)=false:=by simpa using h0
   have e2:(kind == 2)=false:=by simpa using h2
   simp only[e0,e2,Bool.false_eq_true,if_false,obS];by_cases h1:kind=1
   ·subst h1;simp only[beq_self_eq_true,if_true];have hl:cmpI .geq level 1=cmpI .gtr level 0:=by simp[cmpI];omega
    rw[hl];unfold zv;by_cases hme:m=emptyS
    ·subst hme;rw[Zn];simp only[emptyS,decide_true,ne_eq,not_true_eq_false,decide_false];generalize (value == 0)=a;generalize inR level 0 3=b;generalize cmpI .gtr level 0=c;generalize zB name=d;cases a <;> cases b <;> cases c <;> cases d <;> rfl
    ·have e1:decide (m=emptyS)=false:=decide_eq_false hme;have e3:decide (m=⟨[]⟩)=false:=decide_eq_false hme;have e4:decide (m≠⟨[]⟩)=true:=decide_eq_true hme;rw[e1,e3,e4];generalize (value == 0)=a;generalize inR level 0 3=b;generalize cmpI .gtr level 0=c;generalize zB name=d;generalize zm m=e;cases a <;> cases b <;> cases c <;> cases d <;> cases e <;> rfl
   ·have e1:(kind == 1)=false:=by simpa using h1
    simp only[e1,Bool.false_eq_true,if_false];by_cases h3:kind=3
    ·subst h3;simp only[beq_self_eq_true,if_true];generalize decide (m=⟨[]⟩)=a;generalize (level == 0)=b;generalize inR value 0 99=c;generalize zB name=d;cases a <;> cases b <;> cases c <;> cases d <;> rfl
    ·have e3:(kind == 3)=false:=by simpa using h3
     simp only[e3,Bool.false_eq_true,if_false];by_cases h4:kind=4
     ·subst h4;simp only[beq_self_eq_true,if_true];generalize decide (m=⟨[]⟩)=a;generalize (level == 0)=b;generalize (value == 0)=c;generalize zB name=d;cases a <;> cases b <;> cases c <;> cases d <;> rfl
     ·have e4:(kind == 4)=false:=by simpa using h4
      simp only[e4,Bool.false_eq_true,if_false];by_cases h5:kind=5
      ·subst h5;rfl
      ·have e5:(kind == 5)=false:=by simpa using h5
       simp only[e5,Bool.false_eq_true,if_false]
theorem ValidBody_eq(hlen:b.length<=1048576)(h:∀ s∈b,smStmt s):qE b=some (jR b):=by
 unfold qE;have hl:zH (λ s4=>qn b s4) 0=some (if b.any (λ x=>!zW x)=true then .inr false else .inl ()):=by
  refine Xe _ _ _ _ (λ k x hx hlt=>?_) ?_ (by omega) Z
  ·unfold qn;rw[zS,Ke (decide_eq_true hlt),zK,hx,obS,stmtOk_eq (h x (List.mem_of_getElem? hx)),obS,zJ (by omega)];cases zW x <;> rfl
  ·unfold qn;rw[zS,Kf (by simp)]
 rw[hl,obS,any_not];unfold jR;cases b.all zW <;> rfl
theorem child_ne(h:zm (child p s)=true):child p s≠emptyS:=by
 intro e;rw[e,Zn] at h;cases h
theorem smFile.shop(h:smFile f):sho f.pkg:=by have:=h.1;unfold sho;omega
theorem smFile.midn(h:smFile f):mid f.name:=by have:=h.2.1;unfold mid;omega
theorem smFile.child(h:smFile f):f.pkg.l.length+f.name.l.length+1<=8388608:=by have:=h.1;have:=h.2.1;omega
theorem fileOk_eq(h:smFile f):Zq f=some (wh f):=by
 unfold Zq;rw[Q6,obS,Xf h.shop,xm,obS,Q6,xm,obS,ValidBody_eq h.2.2.1 h.2.2.2,xm,obS,X5 h.midn,obS,za0 h.child,xm,obS];unfold wh;cases inR f.root 0 2 with
 | false=>rfl
 |true=>
  cases hp:zv f.pkg with
  | false=>cases inR f.stamp 0 99 <;> rfl
  |true=>
   cases inR f.stamp 0 99 with
   | false=>rfl
   |true=>
    cases jR f.body with
    | false=>rfl
    |true=>
     cases f.init with
     | true=>rfl
     |false=>
      show some (zB f.name&&decide ((if(zB f.name == true)=true then WQ f.pkg f.name else default)≠(⟨[]⟩:Str)))=some (zB f.name&&zm (Go.Proofs.YtbbfcjifihknnaaGreatDoor.child f.pkg f.name));cases hn:zB f.name with
      | false=>rfl
      |true=>
       unfold WQ;rw[hp,hn];cases hc:zm (Go.Proofs.YtbbfcjifihknnaaGreatDoor.child f.pkg f.name) with
       | false=>simp[emptyS]
       |true=>have:=child_ne hc;simp only[Bool.and_self,if_true,beq_self_eq_true,Bool.true_and];rw[decide_eq_true (show Go.Proofs.YtbbfcjifihknnaaGreatDoor.child f.pkg f.name≠⟨[]⟩ from this)]
theorem zbH(f g:File):qC f g=some (x8 f g):=rfl
theorem zaD(f g:File):x8 f g=x8 g f:=by
 unfold x8;rw[BEq.comm (a:=f.root),BEq.comm (a:=f.init),decide_eq_decide.2 (eq_comm (a:=f.pkg) (b:=g.pkg)),decide_eq_decide.2 (eq_comm (a:=f.name) (b:=g.name))]
theorem sameFile_refl(f:File):x8 f f=true:=by simp[x8]
theorem ValidTree_eq(h:YI t):wx t=some (ya t):=by
 have hlen:=h.1;unfold wx;have hl:zH (λ s4=>qr t s4) 0=some (if(List.range t.files.length).any (λ k=>!Qi t.files k)=true then .inr false else .inl ()):=by
  refine Xe (List.range t.files.length) _ _ _ (λ k x hx hlt=>?_) ?_ (by rw[List.length_range];omega) Z
  ·rw[List.length_range] at hlt;rw[List.getElem?_range hlt] at hx;injection hx with hx;subst hx;unfold qr;obtain⟨f,hf⟩:∃ f,t.files[k]?=some f:=⟨_,List.getElem?_eq_getElem hlt⟩;have ht:Qi t.files k=!(!wh f||cmpI .lss (xc t.files f) k):=by unfold Qi;rw[hf]
   rw[zS,Ke (decide_eq_true hlt),zK,hf,obS,fileOk_eq (h.2 _ (List.mem_of_getElem? hf)),obS,sliHO_nat (by omega),obS,ht];cases wh f with
   | false=>rfl
   |true=>
    rw[Kf (by decide)];have hin:zH (λ s28=>qq f (t.files.take k) s28) 0=some (if(t.files.take k).any (λ x=>x8 f x)=true then .inr (.inr (.inr false)) else .inl ()):=by
     have htl:(t.files.take k).length<=k:=by simp;omega
     refine Xe _ _ _ _ (λ j y hy hjt=>?_) ?_ (by omega) Z
     ·unfold qq;rw[zS,Ke (decide_eq_true hjt),zK,hy,obS,zbH,obS,zJ (by omega)];cases x8 f y <;> rfl
     ·unfold qq;rw[zS,Kf (by simp)]
    rw[hin];have hfa:cmpI .lss (xc t.files f) k=(t.files.take k).any (λ x=>x8 f x):=by
     unfold xc;rw[idxOf_lss (p:=λ x=>x8 x f) hf (sameFile_refl _)]
     congr 1
     funext x
     exact zaD _ _
    rw[hfa];cases(t.files.take k).any (λ x=>x8 f x) with
    | true=>rfl
    |false=>rw[Kf (by decide),obS,Sum.elim_inl,zJ (by omega)];rfl
  ·unfold qr;rw[List.length_range,zS,Kf (by simp)]
 rw[hl,obS,any_not];unfold ya WX;cases(List.range t.files.length).all (Qi t.files) <;> rfl
theorem fileAt_eq(h:t.files.length<=1048576):Zr t f=some (xc t.files f):=by
 unfold Zr;have hl:zH (λ s4=>Z7 t f s4) 0=some (match t.files.findIdx? (λ x=>x8 x f) with | some i=>(Sum.inr (i:Int):Unit⊕Int) | none=>Sum.inl ()):=by
  refine Ju t.files (λ x=>x8 x f) (λ i=>Sum.inr i) _ (λ k x hx hlt=>?_) ?_ (by omega) Z
  ·unfold Z7;rw[zS,Ke (decide_eq_true hlt),zK,hx,obS,zbH,obS,zJ (by omega),zaD];cases x8 x f <;> rfl
  ·unfold Z7;rw[zS,Kf (by simp)]
 rw[hl];exact idx_join _ _
theorem QM(h:ya t=true)(hf:f∈t.files):wh f=true:=by
 obtain⟨k,hk⟩:=List.getElem?_of_mem hf;unfold ya WX at h;rw[Bool.and_eq_true] at h;have:=List.all_eq_true.1 h.1 k (List.mem_range.2 (zG hk));unfold Qi at this;rw[hk] at this;simp only at this;cases hv:wh f with
 | true=>rfl
 | false=>rw[hv] at this;cases this
theorem validFile_pkg(h:wh f=true):zv f.pkg=true:=by
 unfold wh at h;cases hv:zv f.pkg with
 | true=>rfl
 |false=>rw[hv,Ke (by simp)] at h;cases h
theorem hasDir_eq(h:YI t)(hv:∀ f∈t.files,zv f.pkg=true)(hp:zv p=true)(hpl:p.l.length+1<=8388608):Yl t r p=some (Y0 t.files r p):=by
 have hlen:=h.1;unfold Yl;have hl:zH (λ s4=>Z6 t r p s4) 0=some (if t.files.any (Qj r p)=true then .inr true else .inl ()):=by
  refine Xe _ _ _ _ (λ k x hx hlt=>?_) ?_ (by omega) Z
  ·unfold Z6;have hm:=List.mem_of_getElem? hx;rw[zS,Ke (decide_eq_true hlt),zK,hx,obS,IsUnder_eq (h.2 x hm).shop hpl,xm,obS,zJ (by omega),hp];unfold Qj;have hvx:=hv x hm;unfold zv at hvx;rw[show cmpI .eql x.root r=(x.root == r) from Z];by_cases he:x.pkg=emptyS
   ·rw[he,Zn];simp
   ·have e1:zm x.pkg=true:=by simpa[he] using hvx
    rw[e1,decide_eq_true (show x.pkg≠emptyS from he)];cases x.root == r <;> cases under x.pkg p <;> rfl
  ·unfold Z6;rw[zS,Kf (by simp)]
 rw[hl,obS];unfold Y0 emptyS;cases t.files.any (Qj r p) <;> rfl
theorem ValidPath_eq{l:List Int}(h:l.length<=1048576):wy l=some (wW l):=by
 unfold wy;have hl:zH (λ s4=>qt l s4) 0=some (if(List.range l.length).any (λ k=>!zaM l k)=true then .inr false else .inl ()):=by
  refine Xe (List.range l.length) _ _ _ (λ k x hx hlt=>?_) ?_ (by rw[List.length_range];omega) Z
  ·rw[List.length_range] at hlt;rw[List.getElem?_range hlt] at hx;injection hx with hx;subst hx;unfold qt;obtain⟨n,hf⟩:∃ n,l[k]?=some n:=⟨_,List.getElem?_eq_getElem hlt⟩;have htl:(l.take k).length<=1152921504606846:=by simp;omega
   have ht:zaM l k=!(!inR n 0 2||(l.take k).any (λ x=>n == x)):=by
    unfold zaM;rw[hf];simp only;unfold intAt;rw[QL,show(λ x=>x == n)=(λ x=>n == x) from by funext x;exact BEq.comm]
   rw[zS,Ke (decide_eq_true hlt),zK,hf,obS,Q6,obS,sliHO_nat (by omega),xm,obS,ht,zJ (by omega)];cases inR n 0 2 with
   | false=>rfl
   |true=>simp only[Bool.not_true,beq_self_eq_true,if_true];rw[ContainsI_eq htl,xm,obS];cases(l.take k).any (λ x=>n == x) <;> rfl
  ·unfold qt;rw[List.length_range,zS,Kf (by simp)]
 rw[hl,obS,any_not];unfold wW Qk;cases(List.range l.length).all (zaM l) <;> rfl
structure Good(t:Tree):Prop where
 sm:YI t
 ok:ya t=true
theorem Good.pkg{t:Tree}(h:Good t):∀ f∈t.files,zv f.pkg=true:=λ _ hf=>validFile_pkg (QM h.ok hf)
theorem Good.len(h:Good t):t.files.length<=1048576:=h.sm.1
theorem W7(h:zB s=true):1<=s.l.length/\s.l.length<=3:=by
 unfold zB inR at h;simp[cmpI] at h;omega
theorem lenSum_le(l:List Str)(h:∀ x∈l,x.l.length<=3):wM l<=4*l.length:=by
 induction l with
 | nil=>exact Nat.le_refl _
 |cons x l ih=>
  have h1:=h x (by simp);have h2:=ih λ y hy=>h y (by simp[hy])
  unfold wM at h2 ⊢;simp only[List.map_cons,List.sum_cons,List.length_cons];omega
theorem xf(h:zm s=true):s.l.length<=11:=by
 unfold zm at h;rw[Bool.and_eq_true] at h;have h1:=lenSum_le (zx s dot) λ x hx=>(W7 (List.all_eq_true.1 h.1 x hx)).2
 rw[qU] at h1;have h2:=h.2;simp[cmpI] at h2;omega
theorem xX(h:zv s=true):s.l.length<=11:=by
 unfold zv at h;rw[Bool.or_eq_true] at h;rcases h with h | h
 ·rw[oD h];exact Nat.zero_le _
 ·exact xf h
def J7:List (List UInt8)->List UInt8
 | []=>[]
 | [a]=>a
 | a::b::l=>a++46::J7 (b::l)
theorem zaE:∀ (l:List Str) (acc:List UInt8),(l.foldl XH (⟨acc⟩,true)).1=⟨acc++(l.map λ x=>46::x.l).flatten⟩
 | [],acc=>by simp
 |x::l,acc=>by
  rw[List.foldl_cons];show(l.foldl XH (⟨(acc++[46])++x.l⟩,true)).1=_;rw[zaE l];simp
theorem zdk(a:List UInt8)(l:List (List UInt8)):J7 (a::l)=a++(l.map λ x=>46::x).flatten:=by
 induction l generalizing a with
 | nil=>simp[J7]
 | cons b l ih=>rw[J7,ih];simp
theorem zdl(l:List Str):join l=⟨J7 (l.map (·.l))⟩:=by
 cases l with
 | nil=>rfl
 |cons x l=>unfold join Z5;rw[List.foldl_cons];show(l.foldl XH (⟨[]++x.l⟩,true)).1=_;rw[zaE,List.map_cons,zdk];simp[List.map_map,Function.comp_def]
theorem cutF_pre(c:UInt8):∀ (a l:List UInt8),c ∉ a->cutF c (a++c::l)=a::cutF c l
 | [],l,_=>by simp[cutF]
 |b::a,l,h=>by
  have hb:(b == c)=false:=by
   have:b≠c:=λ e=>h (by simp[e])
   simpa using this
  rw[List.cons_append,Xp,hb,cutF_pre c a l (λ e=>h (by simp[e]))];rfl
theorem zbI(c:UInt8):∀ (a:List UInt8),c ∉ a->cutF c a=[a]
 | [],_=>rfl
 |b::a,h=>by
  have hb:(b == c)=false:=by
   have:b≠c:=λ e=>h (by simp[e])
   simpa using this
  rw[Xp,hb,zbI c a (λ e=>h (by simp[e]))];rfl
theorem zdm:∀ (l:List (List UInt8)),l≠[]->(∀ x∈l,(46:UInt8) ∉ x)->cutF 46 (J7 l)=l
 | [],h,_=>absurd Z h
 | [a],_,h=>zbI 46 a (h a (by simp))
 |a::b::l,_,h=>by
  rw[J7,cutF_pre 46 a _ (h a (by simp)),zdm (b::l) (by simp) λ x hx=>h x (by simp[hx])]
theorem za1:∀ (l:List UInt8),J7 (cutF 46 l)=l
 | []=>rfl
 |b::l=>by
  rw[Xp];cases hb:b == 46 with
  |true=>
   have ih:=za1 l;have hb:=eq_of_beq hb;rw[Ke Z];cases hc:cutF 46 l with
   | nil=>exact absurd hc (YD 46 l)
   | cons h t=>rw[J7,← hc,ih,hb];rfl
  |false=>
   have ih:=za1 l;rw[Kf (by decide)];cases hc:cutF 46 l with
   | nil=>exact absurd hc (YD 46 l)
   |cons h t=>rw[hc] at ih;show J7 ((b::h)::t)=b::l;rw[zdk] at ih ⊢;rw[← ih];rfl
theorem join_split(s:Str):join (zx s dot)=s:=by
 rw[zdl,jq,List.map_map];show(⟨J7 ((cutF 46 s.l).map λ x=>x)⟩:Str)=s;rw[List.map_id',za1]
theorem low_ne{b:UInt8}(h:low b=true):b≠46:=by
 intro e;subst e;revert h;decide
theorem validPart_dot(h:zB s=true):(46:UInt8) ∉ s.l:=by
 unfold zB at h;rw[Bool.and_eq_true] at h;intro hm;exact low_ne (List.all_eq_true.1 h.2 _ hm) Z
theorem zdn{l:List Str}(hne:l≠[])(h:∀ x∈l,zB x=true):zx (join l) dot=l:=by
 rw[zdl,jq];show(cutF 46 (J7 (l.map (·.l)))).map Str.mk=l;rw[zdm _ (by simpa using hne) (by
  intro x hx;obtain⟨y,hy,rfl⟩:=List.mem_map.1 hx;exact validPart_dot (h y hy)),List.map_map]
 show l.map (λ x=>x)=l;exact List.map_id' l
theorem zdo{l:List Str}(hne:l≠[])(hlen:l.length<=3)(h:∀ x∈l,zB x=true):zm (join l)=true:=by
 unfold zm;rw[zdn hne h,Bool.and_eq_true];exact⟨List.all_eq_true.2 h,by simp[cmpI];omega⟩
theorem jV(h:zm s=true):(∀ x∈zx s dot,zB x=true)/\(zx s dot).length<=3:=by
 unfold zm at h;rw[Bool.and_eq_true] at h;have:=h.2;simp[cmpI] at this;exact⟨List.all_eq_true.1 h.1,by omega⟩
theorem pre_valid(h:zm s=true)(k:Nat):zv (join ((zx s dot).take k))=true:=by
 obtain⟨h1,h2⟩:=jV h;unfold zv;cases k with
 | zero=>rfl
 |succ k=>have hne:=Qh s dot;rw[zdo (by intro e;have:=congrArg List.length e;simp at this;rw[this] at hne;simp at hne) (by simp;omega) λ x hx=>h1 x (List.mem_of_mem_take hx),Bool.or_true]
theorem dir_of_init{t:List File}{c:Str}(hc:c≠emptyS)(h:cmpI .geq (xc t ⟨r,c,⟨[]⟩,true,0,[]⟩) 0=true):Y0 t r c=true:=by
 unfold xc at h;rw[QL,List.any_eq_true] at h;obtain⟨f,hf,hs⟩:=h;unfold x8 at hs;simp only[Bool.and_eq_true,beq_iff_eq,decide_eq_true_eq] at hs;obtain⟨⟨⟨h1,h2⟩,_⟩,_⟩:=hs;unfold Y0;rw[Bool.or_eq_true,List.any_eq_true];refine .inl ⟨f,hf,?_⟩;unfold Qj under;simp[h1,h2,hc]
theorem find_eq(ht:Good t)(hr:roots.length<=1048576)(hp:zv p=true)(hs:zB s=true)(hc:zm (child p s)=true):ZL t roots p s=some (ZH t.files roots p s):=by
 have hpl:=xX hp;have hsl:=(W7 hs).2;have hcl:=xf hc;have hne:=child_ne hc;have hcp:zv (child p s)=true:=by unfold zv;rw[hc,Bool.or_true]
 have he:WQ p s=child p s:=by unfold WQ;rw[hp,hs,hc];rfl
 unfold ZL;rw[za0 (by omega),he,obS,Kf (by simp only[decide_eq_true_eq];exact hne)];have hl:zH (λ s16=>jG t roots p s (child p s) s16) (zSpec,[],(0:Int))=some (runL (λ _ (acc:List Int) r=>
   if cmpI .geq (xc t.files ⟨r,child p s,⟨[]⟩,true,0,[]⟩) 0=true then .inr (Sum.inr (⟨2,xc t.files ⟨r,child p s,⟨[]⟩,true,0,[]⟩,[r]⟩:Spec))
   else if cmpI .geq (xc t.files ⟨r,p,s,false,0,[]⟩) 0=true then .inr (Sum.inr (⟨1,xc t.files ⟨r,p,s,false,0,[]⟩,[]⟩:Spec))
   else .inl (if Y0 t.files r (child p s)=true then acc++[r] else acc)) (λ acc=>Sum.inl (zSpec,acc)) 0 [] roots):=by
  refine zbG (σ:=List Int) roots (λ acc k=>(zSpec,acc,(k:Int))) _ _ (λ k acc=>acc.length<=k) (λ k acc r hx hlt hi=>?_) (λ acc _=>?_) (Nat.le_refl 0) (by omega)
  ·have hst:jG t roots p s (child p s) (zSpec,acc,(k:Int))=(if cmpI .geq (xc t.files ⟨r,child p s,⟨[]⟩,true,0,[]⟩) 0=true then some (.inr (.inr (⟨2,xc t.files ⟨r,child p s,⟨[]⟩,true,0,[]⟩,[r]⟩:Spec)))
     else if cmpI .geq (xc t.files ⟨r,p,s,false,0,[]⟩) 0=true then some (.inr (.inr (⟨1,xc t.files ⟨r,p,s,false,0,[]⟩,[]⟩:Spec)))
     else some (.inl (zSpec,(if Y0 t.files r (child p s)=true then acc++[r] else acc),((k+1:Nat):Int)))):=by
    unfold jG;simp only;rw[zS,Ke (decide_eq_true hlt),zK,hx,obS,obS,fileAt_eq ht.len,obS,Bool.true_and,fileAt_eq ht.len,obS,Bool.true_and,hasDir_eq ht.sm ht.pkg hcp (by omega),zJ (by omega)];rw[xm,obS,xw (by simp;omega) (by simp;omega)];generalize cmpI .geq (xc t.files ⟨r,child p s,⟨[]⟩,true,0,[]⟩) 0=b1;generalize cmpI .geq (xc t.files ⟨r,p,s,false,0,[]⟩) 0=b2;generalize Y0 t.files r (child p s)=b3;cases b1 <;> cases b2 <;> cases b3 <;> rfl
   cases h1:cmpI .geq (xc t.files ⟨r,child p s,⟨[]⟩,true,0,[]⟩) 0 with
   | true=>rw[h1] at hst;exact hst
   |false=>
    rw[h1] at hst;rw[Kf (by decide)] at hst ⊢;cases h2:cmpI .geq (xc t.files ⟨r,p,s,false,0,[]⟩) 0 with
    | true=>rw[h2] at hst;exact hst
    |false=>
     rw[h2] at hst;rw[Kf (by decide)] at hst ⊢;refine⟨hst,?_⟩;split
     ·simp;omega
     ·omega
  ·unfold jG;simp only;rw[zS,Kf (by simp)]
 rw[hl,obS];unfold ZH;have key:∀ (rs:List Int) (k:Nat) (acc:List Int),Sum.elim (λ b14:Spec×List Int=>if(cmpI .gtr (b14.2.length:Int) (0:Int))=true then(some (⟨(3:Int),(-1:Int),b14.2⟩:Spec)) else((wN).bind λ v75=>some v75)) some (runL (λ _ (acc:List Int) r=>
   if cmpI .geq (xc t.files ⟨r,child p s,⟨[]⟩,true,0,[]⟩) 0=true then .inr (Sum.inr (⟨2,xc t.files ⟨r,child p s,⟨[]⟩,true,0,[]⟩,[r]⟩:Spec))
   else if cmpI .geq (xc t.files ⟨r,p,s,false,0,[]⟩) 0=true then .inr (Sum.inr (⟨1,xc t.files ⟨r,p,s,false,0,[]⟩,[]⟩:Spec))
   else .inl (if Y0 t.files r (child p s)=true then acc++[r] else acc)) (λ acc=>Sum.inl (zSpec,acc)) k acc rs)=some (jp t.files p s acc rs):=by
  intro rs
  induction rs with
  |nil=>intro k acc;unfold jp;simp only[runL,Sum.elim_inl];split <;> rfl
  |cons r rs ih=>
   intro k acc;unfold jp;rw[runL];cases h1:cmpI .geq (xc t.files ⟨r,child p s,⟨[]⟩,true,0,[]⟩) 0 with
   | true=>rw[dir_of_init hne h1];rfl
   |false=>
    rw[Bool.and_false];cases h2:cmpI .geq (xc t.files ⟨r,p,s,false,0,[]⟩) 0 with
    | true=>rfl
    | false=>exact ih _ _
 exact key roots 0 []
theorem zcC(c:UInt8):∀ (a l:List UInt8),cutF c (a++c::l)=cutF c a++cutF c l
 | [],l=>by simp[cutF]
 |b::a,l=>by
  rw[List.cons_append,Xp,zcC c a l,Xp];cases b == c with
  | true=>rfl
  |false=>
   rw[Kf (by decide),Kf (by decide)];cases hc:cutF c a with
   | nil=>exact absurd hc (YD c a)
   | cons h t=>rfl
theorem split_append(p s:Str):zx ⟨(p.l++[46])++s.l⟩ dot=zx p dot++zx s dot:=by
 rw[jq,jq,jq,← List.map_append];show(cutF 46 ((p.l++[46])++s.l)).map Str.mk=(cutF 46 p.l++cutF 46 s.l).map Str.mk;rw[List.append_assoc,List.singleton_append,zcC]
section
variable{S β:Type}
end
theorem xZ{x:Str}(h:zm x=true):sho x:=by have:=xf h;unfold sho;omega
theorem atI_file{l:List File}{n:Int}(h0:0<=n)(h:n<l.length):atI l n=some ((l[n.toNat]?).getD default):=by
 unfold atI;rw[Ke h0];exact get_def h0 h
open Go.RowKit
def Okd{α:Type}[Rep α](x:α):Prop:=∃ M w cs,Rep.rdc M w cs x
section
variable{α β:Type}[Rep α][Rep β]
theorem Okd.fld{get:α->β}(f:Fld get off){x:α}(h:Okd x):Okd (get x):=by
 obtain⟨M,w,cs,hr⟩:=h;obtain⟨c,_,h2⟩:=f.sub hr;exact⟨M,w,c,h2⟩
theorem Okd.str(h:Okd s):s.l.length<=9223372036854775807:=by
 obtain⟨M,w,cs,hr⟩:=h;exact hr.2
theorem Okd.len{xs:List α}(h:Okd xs):xs.length<=9223372036854775807:=by
 obtain⟨M,w,cs,A,c,_,h1,h2,_⟩:=h;exact Nat.le_trans h1 h2
theorem rowR_okd{M:Nat->Prop}{w:World}:∀ {cells:List Value} {xs:List α},rowR M w cells xs->∀ x∈xs,Okd x
 | _,_::_,⟨c,_r,_,h1,h2⟩,x,hx=>(List.mem_cons.1 hx).elim (λ e=>e ▸ ⟨M,w,c,h1⟩) (rowR_okd h2 x)
theorem Okd.mem{xs:List α}(h:Okd xs){x:α}(hx:x∈xs):Okd x:=by
 obtain⟨M,w,cs,A,c,_,_,_,h3⟩:=h;rcases h3 with h3 | ⟨b,o,cells,_,_,_,hr⟩
 ·rw[h3] at hx;cases hx
 ·exact rowR_okd hr x hx
theorem RdAll.okd{xs:List Dt}(hr:RdAll M w vs xs){x:α}(hx:dt x∈xs):Okd x:=by
 induction hr with
 | nil=>cases hx
 |cons h r ih=>
  rcases List.mem_cons.1 hx with e | hx
  ·rw[← e] at h;obtain⟨cs,h1,_⟩:=h;exact⟨M,w,cs,h1⟩
  ·exact ih hx
theorem Fn.okd{P:Program}{f:FuncId}{xs:List Dt}{y:Dt}{x:α}(hx:dt x∈xs)(h:Okd x->Fn P f xs y):Fn P f xs y:=λ M w vs hm hr=>h (hr.okd hx) M w vs hm hr
end
section
variable{α β σ S:Type}
theorem neq_len{m n:Nat}:cmpI .neq (m:Int) (n:Int)=!decide (m=n):=by
 by_cases h:m=n
 ·simp[cmpI,h]
 ·simp[cmpI,h];omega
theorem set_at{xs:List α}{z:α}(hk:k<xs.length):(xs.take k++List.replicate (xs.length - k) z).set k xs[k]=xs.take (k+1)++List.replicate (xs.length - (k+1)) z:=by
 rw[List.set_append_right _ _ (by rw[List.length_take];omega),List.length_take,Nat.min_eq_left (by omega),Nat.sub_self,show xs.length - k=(xs.length - (k+1))+1 by omega,List.replicate_succ,List.set_cons_zero,List.take_add_one,List.getElem?_eq_getElem hk];simp only[Option.toList_some,List.append_assoc,List.singleton_append]
theorem at_at{xs:List α}{z:α}(hk:k<xs.length):(xs.take k++List.replicate (xs.length - k) z)[k]?=some z:=by
 rw[List.getElem?_append_right (by rw[List.length_take];omega),List.length_take,Nat.min_eq_left (by omega),Nat.sub_self,List.getElem?_replicate,Ke (by omega)]
theorem len_at{xs:List α}{z:α}(hk:k<xs.length):k<(xs.take k++List.replicate (xs.length - k) z).length:=by
 rw[List.length_append,List.length_take,List.length_replicate];omega
theorem Q7{step:List α×Int->Option ((List α×Int)⊕List α)}(xs:List α)(z:α)
  (h:∀ k (hk:k<xs.length),step (xs.take k++List.replicate (xs.length - k) z,(k:Int))=some (.inl ((xs.take k++List.replicate (xs.length - k) z).set k xs[k],((k+1:Nat):Int))))
  (hend:∀ ys,step (ys,(xs.length:Int))=some (.inr ys)) (hlen:xs.length<576460752303423488) {s0:List α×Int} (h0:s0=(List.replicate xs.length z,0)):zH step s0=some xs:=by
 have key:∀ m k,k+m=xs.length->wV step (m+1) (xs.take k++List.replicate (xs.length - k) z,(k:Int))=some xs:=by
  intro m
  induction m with
  |zero=>
   intro k hk;have:k=xs.length:=by omega
   subst this;rw[yx (hend _)];simp
  |succ m ih=>
   intro k hk;have hlt:k<xs.length:=by omega
   rw[w6 (h k hlt),set_at hlt];exact ih (k+1) (by omega)
 have h1:=key xs.length 0 (by omega);subst h0;exact ji (by simpa using h1) (by omega)
theorem zbJ{size bytes n:Nat}{z:α}(h1:n*size<=16777216)(h2:bytes*n<=281474976710656)(h3:n<=9223372036854775807):Jd size bytes (n:Int) z=some (List.replicate n z):=by
 unfold Jd;rw[Ke ⟨by omega,by simpa using h1,by simpa using h2,by omega⟩];simp
theorem eq_loop[DecidableEq α]{step:Int->Option (Int⊕(Unit⊕Bool))}(xs ys:List α)(hxy:xs.length=ys.length)
  (h:∀ k (hk:k<xs.length) (hk2:k<ys.length),step (k:Int)=some (if xs[k]=ys[k] then .inl ((k+1:Nat):Int) else .inr (.inr false)))
  (hend:step (xs.length:Int)=some (.inr (.inl ()))) (hlen:xs.length<576460752303423488):Option.bind (α:=Unit⊕Bool) (zH step 0) (Sum.elim (λ _=>some true) some)=some (decide (xs=ys)):=by
 have key:∀ m k,k+m=xs.length->xs.take k=ys.take k->∃ r,wV step (m+1) (k:Int)=some r/\(Sum.elim (λ _=>some true) some r:Option Bool)=some (decide (xs=ys)):=by
  intro m
  induction m with
  |zero=>
   intro k hk he;have:k=xs.length:=by omega
   subst this;refine⟨_,yx hend,?_⟩;rw[List.take_length,hxy,List.take_length] at he;simp[he]
  |succ m ih=>
   intro k hk he;have hlt:k<xs.length:=by omega
   have hlt2:k<ys.length:=by omega
   have hs:=h k hlt hlt2;by_cases e:xs[k]=ys[k]
   ·rw[Ke e] at hs;rw[w6 hs];refine ih (k+1) (by omega) ?_;rw[List.take_add_one,List.take_add_one,he,List.getElem?_eq_getElem hlt,List.getElem?_eq_getElem hlt2,e]
   ·rw[Kf e] at hs;refine⟨_,yx hs,?_⟩;have:xs≠ys:=λ h=>by subst h;exact e Z
    simp[this]
 obtain⟨r,h1,h2⟩:=key xs.length 0 (by omega) Z;have h1':wV step (xs.length+1) (0:Int)=some r:=h1;rw[ji h1' (by omega),obS];exact h2
def szR(t:Nat)(left:Int):Int:=if(t:Int)<=left then left - t else -1
theorem szR_neg{t:Nat}{left:Int}:szR t left<0 ↔ left<t:=by unfold szR;split <;> omega
theorem szR_nn{t:Nat}{left:Int}(h:0<=szR t left):(t:Int)<=left/\szR t left=left - t:=by
 unfold szR at h ⊢;split at h
 ·rename_i h1;rw[Ke h1];exact⟨h1,Z⟩
 ·omega
def sumL(f:α->Nat):List α->Nat
 | []=>0
 | x::xs=>f x+sumL f xs
theorem Wz{f:α->Nat}:∀ {xs:List α} {x:α},x∈xs->f x<=sumL f xs
 |y::ys,x,hx=>by
  unfold sumL;rcases List.mem_cons.1 hx with rfl | hx
  ·omega
  ·have:=Wz (f:=f) hx;omega
theorem sumL_drop{f:α->Nat}{xs:List α}(hk:k<xs.length):sumL f (xs.drop k)=f xs[k]+sumL f (xs.drop (k+1)):=by
 rw[List.drop_eq_getElem_cons hk];rfl
theorem sz_loop{step:Int×Int->Option ((Int×Int)⊕(Int⊕Int))}(xs:List α)(f:α->Nat)
  (h:∀ k (hk:k<xs.length) (l:Int),0<=l->l<=1048576->step (l,(k:Int))=some (if szR (f xs[k]) l<0 then .inr (.inr (-1)) else .inl (szR (f xs[k]) l,((k+1:Nat):Int))))
  (hend:∀ l,step (l,(xs.length:Int))=some (.inr (.inl l))) (hlen:xs.length<576460752303423488)  (h0:0<=l0) (h1:l0<=1048576):
  Option.bind (α:=Int⊕Int) (zH step (l0,0)) (Sum.elim (λ l=>some l) some)=some (szR (sumL f xs) l0):=by
 have key:∀ m k l,k+m=xs.length->0<=l->l<=1048576->∃ r,wV step (m+1) (l,(k:Int))=some r/\(Sum.elim (λ l=>some l) some r:Option Int)=some (szR (sumL f (xs.drop k)) l):=by
  intro m
  induction m with
  |zero=>
   intro k l hk hl hl2;have:k=xs.length:=by omega
   subst this;refine⟨_,yx (hend l),?_⟩;rw[List.drop_length];show some l=some (szR 0 l)
   congr 1
   unfold szR;rw[Ke (by omega)];simp
  |succ m ih=>
   intro k l hk hl hl2;have hlt:k<xs.length:=by omega
   have hs:=h k hlt l hl hl2;rw[sumL_drop hlt];by_cases e:szR (f xs[k]) l<0
   ·rw[Ke e] at hs;refine⟨_,yx hs,?_⟩;show some (-1:Int)=_
    congr 1
    rw[szR_neg] at e;unfold szR;rw[Kf (by omega)]
   ·rw[Kf e] at hs;obtain⟨e1,e2⟩:=szR_nn (t:=f xs[k]) (left:=l) (by omega);obtain⟨r,r1,r2⟩:=ih (k+1) (szR (f xs[k]) l) (by omega) (by omega) (by omega);refine⟨r,by rw[w6 hs];exact r1,?_⟩;rw[r2]
    congr 1
    rw[e2];unfold szR;by_cases e3:(sumL f (xs.drop (k+1)):Int)<=l - f xs[k]
    ·rw[Ke e3,Ke (by omega)];omega
    ·rw[Kf e3,Kf (by omega)]
 obtain⟨r,r1,r2⟩:=key xs.length 0 l0 (by omega) h0 h1;have r1':wV step (xs.length+1) (l0,(0:Int))=some r:=r1;rw[ji r1' (by omega),obS];simpa using r2
theorem Q8{T:Type}{step:List α×Int×Int->Option ((List α×Int×Int)⊕T)}(fin:List α->Int->T){held:List α->Int×Int->Option ((Int×Int)⊕(Int⊕Int))}(xs:List α)(B:Nat)(C:Int)
  (h:∀ (ys:List α) (k:Int) (i:Nat) (hi:i<ys.length),ys.length=xs.length->ys[i]∈xs->0<=k->k<=C->∃ y k',step (ys,k,(i:Int))=some (.inl (ys.set i y,k',((i+1:Nat):Int)))/\k<=k'/\k'<=k+B/\
   ∀ zs:List α,zs.length=xs.length->zs[i]?=some y->held zs (k,(i:Int))=some (.inl (k',((i+1:Nat):Int))))
  (hend:∀ (ys:List α) (k:Int),ys.length=xs.length->step (ys,k,(xs.length:Int))=some (.inr (fin ys k)))
  (hend2:∀ (ys:List α) (k:Int),ys.length=xs.length->held ys (k,(xs.length:Int))=some (.inr (.inl k)))
  (hlen:xs.length<576460752303423488)  (h0:0<=k0) (hB:k0+B*xs.length<=C):
  ∃ ys k',zH step (xs,k0,0)=some (fin ys k')/\ys.length=xs.length/\k0<=k'/\k'<=k0+B*xs.length/\zH (held ys) (k0,0)=some (.inl k'):=by
 have key:∀ m i (ys:List α) (k:Int),i+m=xs.length->ys.length=xs.length->(∀ j,i<=j->ys[j]?=xs[j]?)->0<=k->k+B*m<=C->
   ∃ ys' k',wV step (m+1) (ys,k,(i:Int))=some (fin ys' k')/\ys'.length=xs.length/\ys'.take i=ys.take i/\k<=k'/\k'<=k+B*m/\wV (held ys') (m+1) (k,(i:Int))=some (.inl k'):=by
  intro m
  induction m with
  |zero=>
   intro i ys k hi hl hd hk hB;have:i=xs.length:=by omega
   subst this;exact⟨ys,k,yx (hend ys k hl),hl,Z,by omega,by omega,yx (hend2 ys k hl)⟩
  |succ m ih=>
   intro i ys k hi hl hd hk hB;have hlt:i<ys.length:=by omega
   have hlt2:i<xs.length:=by omega
   have hm:ys[i]∈xs:=by
    have h1:=hd i (Nat.le_refl _);rw[List.getElem?_eq_getElem hlt,List.getElem?_eq_getElem hlt2] at h1;injection h1 with h1;rw[h1];exact List.getElem_mem hlt2
   have hBm:(B:Int)*((m+1:Nat):Int)=B*m+B:=by
    rw[Int.natCast_add,Int.mul_add];simp
   have hBm0:(0:Int)<=B*m:=Int.mul_nonneg (by omega) (by omega);obtain⟨y,k',h1,h2,h3,h4⟩:=h ys k i hlt hl hm hk (by omega);obtain⟨ys',k2,r1,r2,r3,r4,r5,r6⟩:=ih (i+1) (ys.set i y) k' (by omega) (by rw[List.length_set];exact hl) (λ j hj=>by rw[List.getElem?_set_ne (by omega)];exact hd j (by omega)) (by omega) (by omega);have hy:ys'[i]?=some y:=by
    have e1:=congrArg (λ l=>l[i]?) r3;simp only[List.getElem?_take,Ke (Nat.lt_succ_self i)] at e1;rw[e1,List.getElem?_set_self hlt]
   refine⟨ys',k2,by rw[w6 h1];exact r1,r2,?_,by omega,by omega,by rw[w6 (h4 ys' r2 hy)];exact r6⟩;apply List.ext_getElem?;intro j;rw[List.getElem?_take,List.getElem?_take];by_cases hj:j<i
   ·rw[Ke hj,Ke hj];have e1:=congrArg (λ l=>l[j]?) r3;simp only[List.getElem?_take,Ke (show j<i+1 by omega)] at e1;rw[e1,List.getElem?_set_ne (by omega)]
   ·rw[Kf hj,Kf hj]
 obtain⟨ys',k',r1,r2,_,r4,r5,r6⟩:=key xs.length 0 xs k0 (by omega) Z (λ _ _=>Z) h0 hB;exact⟨ys',k',ji r1 (by omega),r2,r4,r5,ji r6 (by omega)⟩
theorem zch{T:Type}{step:List α×Int×Int->Option ((List α×Int×Int)⊕T)}(fin:List α->Int->T)(xs:List α)(B:Nat)(C:Int)
  (h:∀ (ys:List α) (k:Int) (i:Nat) (hi:i<ys.length),ys.length=xs.length->ys[i]∈xs->0<=k->k<=C->∃ y k',step (ys,k,(i:Int))=some (.inl (ys.set i y,k',((i+1:Nat):Int)))/\k<=k'/\k'<=k+B)
  (hend:∀ (ys:List α) (k:Int),ys.length=xs.length->step (ys,k,(xs.length:Int))=some (.inr (fin ys k)))
  (hlen:xs.length<576460752303423488)  (h0:0<=k0) (hB:k0+B*xs.length<=C):
  ∃ ys k',zH step (xs,k0,0)=some (fin ys k')/\ys.length=xs.length/\k0<=k'/\k'<=k0+B*xs.length:=by
 have key:∀ m i (ys:List α) (k:Int),i+m=xs.length->ys.length=xs.length->(∀ j,i<=j->ys[j]?=xs[j]?)->0<=k->k+B*m<=C->
   ∃ ys' k',wV step (m+1) (ys,k,(i:Int))=some (fin ys' k')/\ys'.length=xs.length/\k<=k'/\k'<=k+B*m:=by
  intro m
  induction m with
  |zero=>
   intro i ys k hi hl hd hk hB;have:i=xs.length:=by omega
   subst this;exact⟨ys,k,yx (hend ys k hl),hl,by omega,by omega⟩
  |succ m ih=>
   intro i ys k hi hl hd hk hB;have hlt:i<ys.length:=by omega
   have hlt2:i<xs.length:=by omega
   have hm:ys[i]∈xs:=by
    have h1:=hd i (Nat.le_refl _);rw[List.getElem?_eq_getElem hlt,List.getElem?_eq_getElem hlt2] at h1;injection h1 with h1;rw[h1];exact List.getElem_mem hlt2
   have hBm:(B:Int)*((m+1:Nat):Int)=B*m+B:=by
    rw[Int.natCast_add,Int.mul_add];simp
   have hBm0:(0:Int)<=B*m:=Int.mul_nonneg (by omega) (by omega);obtain⟨y,k',h1,h2,h3⟩:=h ys k i hlt hl hm hk (by omega);obtain⟨ys',k2,r1,r2,r4,r5⟩:=ih (i+1) (ys.set i y) k' (by omega) (by rw[List.length_set];exact hl) (λ j hj=>by rw[List.getElem?_set_ne (by omega)];exact hd j (by omega)) (by omega) (by omega);exact⟨ys',k2,by rw[w6 h1];exact r1,r2,by omega,by omega⟩
 obtain⟨ys',k',r1,r2,r4,r5⟩:=key xs.length 0 xs k0 (by omega) Z (λ _ _=>Z) h0 hB;exact⟨ys',k',ji r1 (by omega),r2,r4,r5⟩
end
section
variable{α:Type}
theorem zbK{len:Nat}(hl:0<=l)(h2:l<=1048576)(hlen:len<=9223372036854775807){K:Int->Option Int}{t:Nat}(hK:∀ l',0<=l'->l'<=1048576->K l'=some (szR t l')):
  ((i64 (l - (len:Int))).bind λ v=>if cmpI .lss v (0:Int)=true then some (-1:Int) else K v)=some (szR (len+t) l):=by
 rw[YL (by omega) (by omega),obS];cases h:cmpI .lss (l - (len:Int)) 0 with
 |true=>have h':l - (len:Int)<0:=oD h;rw[Ke Z];unfold szR;rw[Kf (by omega)]
 |false=>
  have h':¬ l - (len:Int)<0:=of_decide_eq_false h;rw[Kf (by decide),hK _ (by omega) (by omega)]
  congr 1
  unfold szR;by_cases e:(t:Int)<=l - len
  ·rw[Ke e,Ke (by omega)];omega
  ·rw[Kf e,Kf (by omega)]
theorem szS_sub{t1 t:Nat}{m:Option Int}(hl:0<=l)(h2:l<=1048576)(hm:m=some (szR t1 l)){K:Int->Option Int}(hK:∀ l',0<=l'->l'<=1048576->K l'=some (szR t l')):
  (m.bind λ v=>if cmpI .lss v (0:Int)=true then some (-1:Int) else K v)=some (szR (t1+t) l):=by
 rw[hm,obS];cases h:cmpI .lss (szR t1 l) 0 with
 |true=>have h':szR t1 l<0:=oD h;rw[szR_neg] at h';rw[Ke Z];unfold szR;rw[Kf (by omega)]
 |false=>
  have h':¬ szR t1 l<0:=of_decide_eq_false h;obtain⟨e1,e2⟩:=szR_nn (t:=t1) (left:=l) (by omega);rw[Kf (by decide),hK _ (by omega) (by omega),e2]
  congr 1
  unfold szR;by_cases e:(t:Int)<=l - t1
  ·rw[Ke e,Ke (by omega)];omega
  ·rw[Kf e,Kf (by omega)]
theorem szS_end(h:0<=l):some l=some (szR 0 l):=by
 congr 1
 unfold szR;rw[Ke (by omega)];simp
theorem szS_list{step:Int×Int->Option ((Int×Int)⊕(Int⊕Int))}{xs:List α}{f:α->Nat}(hlen:xs.length<=9223372036854775807)
  (h:∀ k (hk:k<xs.length) (l:Int),xs.length<=1048576->0<=l->l<=1048576->step (l,(k:Int))=some (if szR (f xs[k]) l<0 then .inr (.inr (-1)) else .inl (szR (f xs[k]) l,((k+1:Nat):Int))))
  (hend:∀ l,step (l,(xs.length:Int))=some (.inr (.inl l))) (hl:0<=l) (h2:l<=1048576):
  ((i64 (l - (xs.length:Int))).bind λ v=>if cmpI .lss v (0:Int)=true then some (-1:Int) else Option.bind (α:=Int⊕Int) (zH step (v,(0:Int))) (Sum.elim (λ b=>some b) some))=some (szR (xs.length+sumL f xs) l):=by
 rw[YL (by omega) (by omega),obS];cases hc:cmpI .lss (l - (xs.length:Int)) 0 with
 |true=>have h':l - (xs.length:Int)<0:=oD hc;rw[Ke Z];unfold szR;rw[Kf (by omega)]
 |false=>
  have h':¬ l - (xs.length:Int)<0:=of_decide_eq_false hc;rw[Kf (by decide),sz_loop xs f (λ k hk l h3 h4=>h k hk l (by omega) h3 h4) hend (by omega) (by omega) (by omega)]
  congr 1
  unfold szR;by_cases e:(sumL f xs:Int)<=l - xs.length
  ·rw[Ke e,Ke (by omega)];omega
  ·rw[Kf e,Kf (by omega)]
variable[Decidable q]{K:Option Bool}
theorem X6{a b:Int}(hK:K=some (decide q)):(if cmpI .neq a b=true then some false else K)=some (decide (a=b/\q)):=by
 rw[hK];by_cases h:a=b
 ·simp[cmpI,h]
 ·simp[cmpI,h]
theorem JT{a b:Str}(hK:K=some (decide q)):(if decide (a≠b)=true then some false else K)=some (decide (a=b/\q)):=by
 rw[hK];by_cases h:a=b
 ·simp[h]
 ·simp[h]
theorem eqS_bool{b:Bool}(hK:K=some (decide q)):(if(a != b)=true then some false else K)=some (decide (a=b/\q)):=by
 rw[hK];by_cases h:a=b
 ·simp[h]
 ·simp[h]
theorem eqS_sub[DecidableEq α]{a b:α}(hm:m=some (decide (a=b)))(hK:K=some (decide q)):(m.bind λ v=>if(!v)=true then some false else K)=some (decide (a=b/\q)):=by
 rw[hm,hK,obS];by_cases h:a=b
 ·simp[h]
 ·simp[h]
theorem JU:some true=some (decide True):=by simp
theorem WA[DecidableEq α]{step:Int->Option (Int⊕(Unit⊕Bool))}{xs ys:List α}
  (h:∀ k (hk:k<xs.length) (hk2:k<ys.length),step (k:Int)=some (if xs[k]=ys[k] then .inl ((k+1:Nat):Int) else .inr (.inr false)))
  (hend:step (xs.length:Int)=some (.inr (.inl ()))) (hlen:xs.length<576460752303423488):
  (if cmpI .neq (xs.length:Int) (ys.length:Int)=true then some false else Option.bind (α:=Unit⊕Bool) (zH step 0) (Sum.elim (λ _=>some true) some))=some (decide (xs=ys)):=by
 rw[neq_len];by_cases e:xs.length=ys.length
 ·rw[Kf (by simp[e]),eq_loop xs ys e h hend hlen]
 ·rw[Ke (by simp[e])];have:xs≠ys:=λ h=>e (by rw[h])
  simp[this]
end
theorem i64_in{n:Int}(h1:0<=n)(h2:n<=4611686018427387904):i64 n=some n:=YL (by omega) (by omega)
theorem Q9{m n:Int}(h:n≠0:=by decide):modO m n=some (m.tmod n):=Kf h
theorem divO_of{m n:Int}(h2:0<=m.tdiv n)(h3:m.tdiv n<=9223372036854775807)(h:n≠0:=by decide):divO m n=some (m.tdiv n):=Kf (by omega)
theorem qj{xs:List α}(hk:k<xs.length):cmpI .lss (k:Int) (xs.length:Int)=true:=by rw[zS];exact decide_eq_true hk
theorem ZA{xs:List α}:cmpI .lss (xs.length:Int) (xs.length:Int)=false:=by rw[zS];simp
theorem lss_at'{xs:List α}{n:Nat}(h:xs.length=n)(hk:k<n):cmpI .lss (k:Int) (xs.length:Int)=true:=by rw[zS];exact decide_eq_true (by omega)
theorem ZZ{xs:List α}{n:Nat}(h:xs.length=n):cmpI .lss (n:Int) (xs.length:Int)=false:=by rw[zS,h];simp
theorem wE{xs:List α}(hk:k<xs.length):atI xs (k:Int)=some xs[k]:=by rw[zK,List.getElem?_eq_getElem hk]
theorem qP(k:Nat):(k:Int).toNat=k:=rfl
def txt(k:Int):Str:=(z7 k).getD ⟨[]⟩
theorem WB(n:Int):cmpI .neq n n=false:=by simp[cmpI]
theorem markText_ex{k:Int}(h1:0<=k)(h2:k<=4611686018427387904):∃ s,z7 k=some s:=by
 unfold z7;by_cases hk:k<=0
 ·rw[Ke (by simp[cmpI,hk])];exact⟨_,Z⟩
 ·rw[Kf (by simp[cmpI];omega)];have key:∀ (m:Nat) (n:Int) (s:Str),0<=n->n<10 ^ m->n<=4611686018427387904->m<=20->(s.l.length:Int)<=40 - m->∃ o,wV (λ s8=>xe s8) (m+1) (n,s)=some o/\o.l.length<=40:=by
   intro m
   induction m with
   |zero=>
    intro n s h1 h2 _ _ h4;have hn:n=0:=by simp at h2;omega
    subst hn;refine⟨s,yx ?_,by omega⟩;unfold xe;rfl
   |succ m ih=>
    intro n s h1 h2 hb h3 h4;have h5:n.tdiv 10=n / 10:=Int.tdiv_eq_ediv_of_nonneg h1;have h6:n.tmod 10=n % 10:=Int.tmod_eq_emod_of_nonneg h1;by_cases hn:n<=0
    ·refine⟨s,yx ?_,by omega⟩;unfold xe;rw[Kf (by simp[cmpI];omega)]
    ·have hs:xe (n,s)=some (.inl (n / 10,⟨[toB (48+n % 10)]++s.l⟩)):=by
      unfold xe;simp only;rw[Ke (by simp[cmpI];omega),Q9,obS,h6,YL (by omega) (by omega),obS,JS (by simp;omega),obS,divO_of (by omega) (by omega),h5];rfl
     rw[w6 hs];refine ih (n / 10) _ (by omega) ?_ (by omega) (by omega) (by simp;omega);have:(10:Int) ^ (m+1)=10*10 ^ m:=by rw[Int.pow_succ];omega
     omega
  have e:(10:Int) ^ 19=10000000000000000000:=by decide
  obtain⟨o,ho,hl⟩:=key 19 k ⟨[]⟩ h1 (by omega) h2 (by omega) (by simp);rw[ji ho (by decide),obS,JS (by simp;omega)];exact⟨_,Z⟩
theorem wT{k:Int}(h1:0<=k)(h2:k<=4611686018427387904):z7 k=some (txt k):=by
 obtain⟨s,hs⟩:=markText_ex h1 h2;rw[txt,hs];rfl
def JV(x:Stmt):Nat:=x.module.l.length+(x.name.l.length+(0))
theorem szStmt_eq{x:Stmt}(h0:Okd x)(hl:0<=l)(h2:l<=1048576):Yo x l=some (szR (JV x) l):=by
 unfold Yo JV;exact zbK hl h2 ((h0.fld Stmt.fld1)).str (λ v1 l1 u1=>zbK l1 u1 ((h0.fld Stmt.fld3)).str (λ v2 l2 u2=>szS_end l2))
def Yv(xs:List Stmt):Nat:=xs.length+sumL JV xs
theorem QN{n:Nat}(h:Yv x<=n):x.length<=n:=by unfold Yv at h;omega
theorem szStmtS_eq(h0:Okd x)(hl:0<=l)(h2:l<=1048576):ZS x l=some (szR (Yv x) l):=by
 unfold ZS Yv;refine szS_list h0.len (λ k hk l hn h3 h4=>?_) (λ l=>?_) hl h2
 ·unfold j2;simp only[qj hk,if_true,wE hk,obS,szStmt_eq (h0.mem (List.getElem_mem hk)) h3 h4];by_cases e:szR (JV x[k]) l<0
  ·rw[Ke (by simp[cmpI,e]),Ke e]
  ·rw[Kf (by simp[cmpI];omega),Kf e,zJ (by omega)];rfl
 ·unfold j2;rw[ZA];rfl
def q5(x:File):Nat:=x.pkg.l.length+(x.name.l.length+(Yv x.body+(0)))
theorem szFile_eq{x:File}(h0:Okd x)(hl:0<=l)(h2:l<=1048576):Yp x l=some (szR (q5 x) l):=by
 unfold Yp q5;exact zbK hl h2 ((h0.fld File.fld1)).str (λ v1 l1 u1=>zbK l1 u1 ((h0.fld File.fld2)).str (λ v2 l2 u2=>szS_sub l2 u2 (szStmtS_eq (h0.fld File.fld5) l2 u2) (λ v3 l3 u3=>szS_end l3)))
def Z0(xs:List File):Nat:=xs.length+sumL q5 xs
theorem szFileS_eq{x:List File}(h0:Okd x)(hl:0<=l)(h2:l<=1048576):ZT x l=some (szR (Z0 x) l):=by
 unfold ZT Z0;refine szS_list h0.len (λ k hk l hn h3 h4=>?_) (λ l=>?_) hl h2
 ·unfold j3;simp only[qj hk,if_true,wE hk,obS,szFile_eq (h0.mem (List.getElem_mem hk)) h3 h4];by_cases e:szR (q5 x[k]) l<0
  ·rw[Ke (by simp[cmpI,e]),Ke e]
  ·rw[Kf (by simp[cmpI];omega),Kf e,zJ (by omega)];rfl
 ·unfold j3;rw[ZA];rfl
def qa(x:Tree):Nat:=Z0 x.files+(0)
theorem szTree_eq{x:Tree}(h0:Okd x)(hl:0<=l)(h2:l<=1048576):Yq x l=some (szR (qa x) l):=by
 unfold Yq qa;exact szS_sub hl h2 (szFileS_eq (h0.fld Tree.fld0) hl h2) (λ v1 l1 u1=>szS_end l1)
def Xq(x:GCmd):Nat:=x.name.l.length+(0)
theorem szCommand_eq{x:GCmd}(h0:Okd x)(hl:0<=l)(h2:l<=1048576):qK x l=some (szR (Xq x) l):=by
 unfold qK Xq;exact zbK hl h2 ((h0.fld GCmd.fld1)).str (λ v1 l1 u1=>szS_end l1)
def wo(xs:List GCmd):Nat:=xs.length+sumL Xq xs
theorem zdp{x:List GCmd}{n:Nat}(h:wo x<=n):x.length<=n:=by unfold wo at h;omega
theorem szCommandS_eq{x:List GCmd}(h0:Okd x)(hl:0<=l)(h2:l<=1048576):j4 x l=some (szR (wo x) l):=by
 unfold j4 wo;refine szS_list h0.len (λ k hk l hn h3 h4=>?_) (λ l=>?_) hl h2
 ·unfold wR;simp only[qj hk,if_true,wE hk,obS,szCommand_eq (h0.mem (List.getElem_mem hk)) h3 h4];by_cases e:szR (Xq x[k]) l<0
  ·rw[Ke (by simp[cmpI,e]),Ke e]
  ·rw[Kf (by simp[cmpI];omega),Kf e,zJ (by omega)];rfl
 ·unfold wR;rw[ZA];rfl
theorem eqStmt_eq{x y:Stmt}:Ys x y=some (decide (x=y)):=by
 have e:(x=y)=(x.kind=y.kind/\x.module=y.module/\x.level=y.level/\x.name=y.name/\x.value=y.value/\True):=by cases x;cases y;simp
 unfold Ys;simp only[e];exact X6 (JT (X6 (JT (X6 (JU)))))
theorem eqStmtS_eq{y:List Stmt}(h:x.length<=288230376151711744):ZU x y=some (decide (x=y)):=by
 unfold ZU;refine WA (λ k hk hk2=>?_) ?_ (by omega)
 ·unfold j5;simp only[qj hk,if_true,wE hk,wE hk2,obS,eqStmt_eq,zJ (show k<4611686018427387904 by omega)];by_cases e:x[k]=y[k] <;> simp[e]
 ·unfold j5;rw[ZA];rfl
theorem eqFile_eq{x y:File}(h:q5 x<=288230376151711744):Yt x y=some (decide (x=y)):=by
 have e:(x=y)=(x.root=y.root/\x.pkg=y.pkg/\x.name=y.name/\x.init=y.init/\x.stamp=y.stamp/\x.body=y.body/\True):=by cases x;cases y;simp
 unfold q5 at h;unfold Yt;simp only[e];exact X6 (JT (JT (eqS_bool (X6 (eqS_sub (eqStmtS_eq (QN (by omega))) (JU))))))
theorem eqFileS_eq{x y:List File}(h:Z0 x<=288230376151711744):ZV x y=some (decide (x=y)):=by
 unfold Z0 at h;unfold ZV;refine WA (λ k hk hk2=>?_) ?_ (by omega)
 ·unfold j6;simp only[qj hk,if_true,wE hk,wE hk2,obS,eqFile_eq (x:=x[k]) (y:=y[k]) (by have:=Wz (f:=q5) (List.getElem_mem hk);omega),zJ (show k<4611686018427387904 by omega)];by_cases e:x[k]=y[k] <;> simp[e]
 ·unfold j6;rw[ZA];rfl
theorem eqTree_eq{x y:Tree}(h:qa x<=288230376151711744):Zs x y=some (decide (x=y)):=by
 have e:(x=y)=(x.files=y.files/\True):=by cases x;cases y;simp
 unfold qa at h;unfold Zs;simp only[e];exact eqS_sub (eqFileS_eq (by omega)) (JU)
theorem eqValue_eq{x y:GVal}:ZX x y=some (decide (x=y)):=by
 have e:(x=y)=(x.kind=y.kind/\x.num=y.num/\True):=by cases x;cases y;simp
 unfold ZX;simp only[e];exact X6 (X6 (JU))
theorem eqAttr_eq{x y:GAttr}:Yu x y=some (decide (x=y)):=by
 have e:(x=y)=(x.name=y.name/\x.value=y.value/\True):=by cases x;cases y;simp
 unfold Yu;simp only[e];exact JT (eqS_sub (eqValue_eq) (JU))
theorem eqAttrS_eq{x y:List GAttr}(h:x.length<=288230376151711744):ZY x y=some (decide (x=y)):=by
 unfold ZY;refine WA (λ k hk hk2=>?_) ?_ (by omega)
 ·unfold j7;simp only[qj hk,if_true,wE hk,wE hk2,obS,eqAttr_eq,zJ (show k<4611686018427387904 by omega)];by_cases e:x[k]=y[k] <;> simp[e]
 ·unfold j7;rw[ZA];rfl
def totIntS(xs:List Int):Nat:=xs.length
theorem zaa{x y:List Int}(h:x.length<=288230376151711744):wK x y=some (decide (x=y)):=by
 unfold wK;refine WA (λ k hk hk2=>?_) ?_ (by omega)
 ·unfold qM;simp only[qj hk,if_true,wE hk,wE hk2,obS,zJ (show k<4611686018427387904 by omega)];by_cases e:x[k]=y[k] <;> simp[e,cmpI]
 ·unfold qM;rw[ZA];rfl
theorem eqEvent_eq{x y:GEvent}:ZW x y=some (decide (x=y)):=by
 have e:(x=y)=(x.kind=y.kind/\x.name=y.name/\True):=by cases x;cases y;simp
 unfold ZW;simp only[e];exact X6 (JT (JU))
theorem eqEventS_eq{x:List GEvent}(h:x.length<=288230376151711744):Zk x y=some (decide (x=y)):=by
 unfold Zk;refine WA (λ k hk hk2=>?_) ?_ (by omega)
 ·unfold jL;simp only[qj hk,if_true,wE hk,wE hk2,obS,eqEvent_eq,zJ (show k<4611686018427387904 by omega)];by_cases e:x[k]=y[k] <;> simp[e]
 ·unfold jL;rw[ZA];rfl
theorem eqCommand_eq{x y:GCmd}:qN x y=some (decide (x=y)):=by
 have e:(x=y)=(x.kind=y.kind/\x.name=y.name/\True):=by cases x;cases y;simp
 unfold qN;simp only[e];exact X6 (JT (JU))
theorem eqCommandS_eq{x y:List GCmd}(h:x.length<=288230376151711744):wZ x y=some (decide (x=y)):=by
 unfold wZ;refine WA (λ k hk hk2=>?_) ?_ (by omega)
 ·unfold wS;simp only[qj hk,if_true,wE hk,wE hk2,obS,eqCommand_eq,zJ (show k<4611686018427387904 by omega)];by_cases e:x[k]=y[k] <;> simp[e]
 ·unfold wS;rw[ZA];rfl
theorem toStmt_eq{x:Stmt}:Yr x=some x:=by
 unfold Yr;cases x;rfl
theorem toStmtS_eq(h:Yv x<=1048576):Xb x=some x:=by
 unfold Yv at h;unfold Xb;rw[zbJ (by omega) (by omega) (by omega),obS];have hl:zH (λ s=>wX x s) (List.replicate x.length zStmt,0)=some x:=by
  refine Q7 x zStmt (λ k hk=>?_) (λ ys=>?_) (by omega) Z
  ·unfold wX;simp only[qj hk,if_true,wE hk,obS,toStmt_eq,zK,at_at hk,QJ (len_at hk),zJ (show k<4611686018427387904 by omega)]
  ·unfold wX;rw[ZA];rfl
 rw[hl];rfl
theorem toFile_eq{x:File}(h:q5 x<=1048576):Xz x=some x:=by
 unfold q5 at h;unfold Xz;rw[toStmtS_eq (x:=x.body) (by omega),obS]
theorem toFileS_eq{x:List File}(h:Z0 x<=1048576):Xc x=some x:=by
 unfold Z0 at h;unfold Xc;rw[zbJ (by omega) (by omega) (by omega),obS];have hl:zH (λ s=>wY x s) (List.replicate x.length zFile,0)=some x:=by
  refine Q7 x zFile (λ k hk=>?_) (λ ys=>?_) (by omega) Z
  ·unfold wY;simp only[qj hk,if_true,wE hk,obS,toFile_eq (x:=x[k]) (by have:=Wz (f:=q5) (List.getElem_mem hk);omega),zK,at_at hk,zJ (show k<4611686018427387904 by omega),qP]
  ·unfold wY;rw[ZA];rfl
 rw[hl];rfl
theorem toTree_eq{x:Tree}(h:qa x<=1048576):qh x=some x:=by
 unfold qa at h;unfold qh;rw[toFileS_eq (x:=x.files) (by omega),obS]
theorem toCommand_eq{x:GCmd}:qL x=some x:=by
 unfold qL;cases x;rfl
theorem toCommandS_eq{x:List GCmd}(h:wo x<=1048576):we x=some x:=by
 unfold wo at h;unfold we;rw[zbJ (by omega) (by omega) (by omega),obS];have hl:zH (λ s=>xU x s) (List.replicate x.length zGCmd,0)=some x:=by
  refine Q7 x zGCmd (λ k hk=>?_) (λ ys=>?_) (by omega) Z
  ·unfold xU;simp only[qj hk,if_true,wE hk,obS,toCommand_eq,zK,at_at hk,QJ (len_at hk),zJ (show k<4611686018427387904 by omega)]
  ·unfold xU;rw[ZA];rfl
 rw[hl];rfl
theorem toIntS_eq{x:List Int}(h:totIntS x<=1048576):jt x=some x:=by
 unfold totIntS at h;unfold jt;rw[zbJ (by omega) (by omega) (by omega),obS];have hl:zH (λ s=>jz x s) (List.replicate x.length zInt,0)=some x:=by
  refine Q7 x zInt (λ k hk=>?_) (λ ys=>?_) (by omega) Z
  ·unfold jz;simp only[qj hk,if_true,wE hk,obS,zK,at_at hk,QJ (len_at hk),zJ (show k<4611686018427387904 by omega)]
  ·unfold jz;rw[ZA];rfl
 rw[hl];rfl
theorem markStmtS_ok{k:Int}(h:x.length<=1125899906842624)(h0:0<=k)(hB:k<=1152921504606846976):∃ y k',Z8 x k=some (y,k')/\k<=k'/\k'<=k+5*(x.length:Int):=by
 have hl:=zch (step:=λ s=>wi s) (λ ys k=>(ys,k)) x 5 1170935903116328960 (λ ys k i hi hn hm h1 h2=>?_) (λ ys k hn=>?_) (by omega) h0 (by omega)
 ·obtain⟨ys,k',r1,r2,r3,r4⟩:=hl;refine⟨ys,k',?_,r3,by omega⟩
  ·unfold Z8;rw[r1];rfl
 ·unfold wi;refine⟨_,_,by simp only[qj hi,if_true,wE hi,obS,qP,i64_in (n:=k+1) (by omega) (by omega),wT (k:=k+1) (by omega) (by omega),i64_in (n:=k+1+1) (by omega) (by omega),i64_in (n:=k+1+1+1) (by omega) (by omega),wT (k:=k+1+1+1) (by omega) (by omega),i64_in (n:=k+1+1+1+1) (by omega) (by omega),i64_in (n:=k+1+1+1+1+1) (by omega) (by omega),zJ (show i<4611686018427387904 by omega)];rfl,by omega,by omega⟩
 ·unfold wi;simp only[ZZ hn];rfl
theorem markFileS_ok{x:List File}{k:Int}(h:Z0 x<=1048576)(h0:0<=k)(hB:k<=576460752303423488):∃ y k',Z9 x k=some (y,k')/\k<=k'/\k'<=k+5497563381760:=by
 unfold Z0 at h;have hl:=zch (step:=λ s=>wj s) (λ ys k=>(ys,k)) x 5242885 594475150812905472 (λ ys k i hi hn hm h1 h2=>?_) (λ ys k hn=>?_) (by omega) h0 (by omega)
 ·obtain⟨ys,k',r1,r2,r3,r4⟩:=hl;refine⟨ys,k',?_,r3,by omega⟩
  ·unfold Z9;rw[r1];rfl
 ·unfold wj;have hm5:=Wz (f:=q5) hm;have hu5:q5 ys[i]=ys[i].pkg.l.length+(ys[i].name.l.length+(Yv ys[i].body+(0))):=rfl;have hl5:ys[i].body.length<=1048576:=QN (by omega);obtain⟨y5,k5,e5,a5,b5⟩:=markStmtS_ok (x:=ys[i].body) (k:=k+1+1+1+1+1) (QN (n:=1125899906842624) (by omega)) (by omega) (by omega);refine⟨_,_,by simp only[qj hi,if_true,wE hi,obS,qP,i64_in (n:=k+1) (by omega) (by omega),wT (k:=k+1) (by omega) (by omega),i64_in (n:=k+1+1) (by omega) (by omega),wT (k:=k+1+1) (by omega) (by omega),i64_in (n:=k+1+1+1) (by omega) (by omega),Q9 (m:=k+1+1+1) (n:=3),i64_in (n:=k+1+1+1+1) (by omega) (by omega),i64_in (n:=k+1+1+1+1+1) (by omega) (by omega),e5,zJ (show i<4611686018427387904 by omega)];rfl,by omega,by omega⟩
 ·unfold wj;simp only[ZZ hn];rfl
theorem markTree_ok{x:Tree}{k:Int}(h:qa x<=1048576)(h0:0<=k)(hB:k<=576425567931334656):∃ y k',YA x k=some (y,k')/\k<=k'/\k'<=k+5497563381760:=by
 unfold qa at h;unfold YA;obtain⟨y0,k0,e0,a0,b0⟩:=markFileS_ok (x:=x.files) (k:=k) (by omega) (by omega) (by omega);exact⟨_,k0,by simp only[e0,obS];rfl,by omega,by omega⟩
theorem markAttrS_ok{x:List GAttr}{k:Int}(h:x.length<=1125899906842624)(h0:0<=k)(hB:k<=1152921504606846976):∃ y k',Ya x k=some (y,k')/\k<=k'/\k'<=k+3*(x.length:Int)/\qO y k=some k':=by
 have hl:=Q8 (held:=λ y s=>wl y s) (step:=λ s=>wk s) (λ ys k=>(ys,k)) x 3 1170935903116328960 (λ ys k i hi hn hm h1 h2=>?_) (λ ys k hn=>?_) (λ ys k hn=>?_) (by omega) h0 (by omega)
 ·obtain⟨ys,k',r1,r2,r3,r4,r5⟩:=hl;refine⟨ys,k',?_,r3,by omega,?_⟩
  ·unfold Ya;rw[r1];rfl
  ·unfold qO;rw[r5];rfl
 ·unfold wk;refine⟨_,_,by simp only[qj hi,if_true,wE hi,obS,qP,wT (k:=k) (by omega) (by omega),i64_in (n:=k+1) (by omega) (by omega),i64_in (n:=k+1+1) (by omega) (by omega),i64_in (n:=k+1+1+1) (by omega) (by omega),zJ (show i<4611686018427387904 by omega)];rfl,by omega,by omega,λ zs hz hzi=>?_⟩;unfold wl;simp only[lss_at' hz (show i<x.length by omega),if_true,zK,hzi,obS,WB,ne_eq,if_false,Bool.false_eq_true,decide_not,wT (k:=k) (by omega) (by omega),i64_in (n:=k+1) (by omega) (by omega),i64_in (n:=k+1+1) (by omega) (by omega),i64_in (n:=k+1+1+1) (by omega) (by omega),zJ (show i<4611686018427387904 by omega)]
  first | done | rfl | (simp[cmpI];omega) | simp
 ·unfold wk;simp only[ZZ hn];rfl
 ·unfold wl;simp only[ZZ hn];rfl
theorem markEventS_ok{x:List GEvent}{k:Int}(h:x.length<=1125899906842624)(h0:0<=k)(hB:k<=1152921504606846976):∃ y k',Zz x k=some (y,k')/\k<=k'/\k'<=k+2*(x.length:Int)/\j9 y k=some k':=by
 have hl:=Q8 (held:=λ y s=>xW y s) (step:=λ s=>xV s) (λ ys k=>(ys,k)) x 2 1170935903116328960 (λ ys k i hi hn hm h1 h2=>?_) (λ ys k hn=>?_) (λ ys k hn=>?_) (by omega) h0 (by omega)
 ·obtain⟨ys,k',r1,r2,r3,r4,r5⟩:=hl;refine⟨ys,k',?_,r3,by omega,?_⟩
  ·unfold Zz;rw[r1];rfl
  ·unfold j9;rw[r5];rfl
 ·unfold xV;refine⟨_,_,by simp only[qj hi,if_true,wE hi,obS,qP,i64_in (n:=k+1) (by omega) (by omega),wT (k:=k+1) (by omega) (by omega),i64_in (n:=k+1+1) (by omega) (by omega),zJ (show i<4611686018427387904 by omega)];rfl,by omega,by omega,λ zs hz hzi=>?_⟩;unfold xW;simp only[lss_at' hz (show i<x.length by omega),if_true,zK,hzi,obS,WB,ne_eq,if_false,Bool.false_eq_true,decide_not,i64_in (n:=k+1) (by omega) (by omega),wT (k:=k+1) (by omega) (by omega),i64_in (n:=k+1+1) (by omega) (by omega),zJ (show i<4611686018427387904 by omega)]
  first | done | rfl | (simp[cmpI];omega) | simp
 ·unfold xV;simp only[ZZ hn];rfl
 ·unfold xW;simp only[ZZ hn];rfl
theorem zcS{x:List GCmd}{k:Int}(h:x.length<=1125899906842624)(h0:0<=k)(hB:k<=1152921504606846976):∃ y k',qv x k=some (y,k')/\k<=k'/\k'<=k+2*(x.length:Int):=by
 have hl:=zch (step:=λ s=>xl s) (λ ys k=>(ys,k)) x 2 1170935903116328960 (λ ys k i hi hn hm h1 h2=>?_) (λ ys k hn=>?_) (by omega) h0 (by omega)
 ·obtain⟨ys,k',r1,r2,r3,r4⟩:=hl;refine⟨ys,k',?_,r3,by omega⟩
  ·unfold qv;rw[r1];rfl
 ·unfold xl;refine⟨_,_,by simp only[qj hi,if_true,wE hi,obS,qP,i64_in (n:=k+1) (by omega) (by omega),wT (k:=k+1) (by omega) (by omega),i64_in (n:=k+1+1) (by omega) (by omega),zJ (show i<4611686018427387904 by omega)];rfl,by omega,by omega⟩
 ·unfold xl;simp only[ZZ hn];rfl
theorem WR{x:List Int}{k:Int}(h:x.length<=1125899906842624)(h0:0<=k)(hB:k<=1152921504606846976):∃ y k',jc x k=some (y,k')/\k<=k'/\k'<=k+1*(x.length:Int)/\jd y k=some k':=by
 have hl:=Q8 (held:=λ y s=>wD y s) (step:=λ s=>wC s) (λ ys k=>(ys,k)) x 1 1170935903116328960 (λ ys k i hi hn hm h1 h2=>?_) (λ ys k hn=>?_) (λ ys k hn=>?_) (by omega) h0 (by omega)
 ·obtain⟨ys,k',r1,r2,r3,r4,r5⟩:=hl;refine⟨ys,k',?_,r3,by omega,?_⟩
  ·unfold jc;rw[r1];rfl
  ·unfold jd;rw[r5];rfl
 ·unfold wC;refine⟨_,_,by simp only[qj hi,if_true,wE hi,obS,qP,i64_in (n:=k+1) (by omega) (by omega),zJ (show i<4611686018427387904 by omega)];rfl,by omega,by omega,λ zs hz hzi=>?_⟩;unfold wD;simp only[lss_at' hz (show i<x.length by omega),if_true,zK,hzi,obS,WB,if_false,Bool.false_eq_true,i64_in (n:=k+1) (by omega) (by omega),zJ (show i<4611686018427387904 by omega)]
  first | done | rfl | (simp[cmpI];omega) | simp
 ·unfold wC;simp only[ZZ hn];rfl
 ·unfold wD;simp only[ZZ hn];rfl
def modsSm(x:List GMod):Prop:=x.length<=1048576/\∀ m∈x,m.roots.length<=1048576/\m.attrs.length<=16777216
theorem zdq{x:List GMod}(h:modsSm x):jA x x=some true:=by
 have:jA x x=some (decide (x=x)):=by
  unfold jA;refine WA (λ k hk hk2=>?_) ?_ (by have:=h.1;omega)
  ·unfold jh;obtain⟨h1,h2⟩:=h.2 x[k] (List.getElem_mem hk);have hl:=h.1;have e:Zl x[k] x[k]=some true:=by
    unfold Zl;simp[WB,zaa (x:=x[k].roots) (y:=x[k].roots) (by omega),eqAttrS_eq (x:=x[k].attrs) (y:=x[k].attrs) (by omega)]
   simp only[qj hk,if_true,wE hk,obS,e,zJ (show k<4611686018427387904 by omega)];simp
  ·unfold jh;rw[ZA];rfl
 rw[this];simp
structure ResSm(g:GResult):Prop where
 ends:g.ends.length<=1048576
 out:g.out.length<=1048576
 log:g.log.length<=1048576
 mods:modsSm g.modules
theorem zaF(h:ResSm g):xK g g=some true:=by
 obtain⟨h1,h2,h3,h4⟩:=h;unfold xK;simp[WB,zaa (x:=g.ends) (y:=g.ends) (by omega),zaa (x:=g.out) (y:=g.out) (by omega),eqEventS_eq (x:=g.log) (y:=g.log) (by omega),zdq h4]
theorem zdr{x:List GMod}{k:Int}(h:modsSm x)(h0:0<=k)(hB:k<=576460752303423488):∃ y k',qZ x k=some (y,k')/\k<=k'/\jM y k=some k':=by
 obtain⟨h,he⟩:=h;have hl:=Q8 (held:=λ y s=>xE y s) (step:=λ s=>xB s) (λ ys k=>(ys,k)) x 67108864 594475150812905472 (λ ys k i hi hn hm h1 h2=>?_) (λ ys k hn=>?_) (λ ys k hn=>?_) (by omega) h0 (by omega)
 ·obtain⟨ys,k',r1,r2,r3,r4,r5⟩:=hl;refine⟨ys,k',?_,r3,?_⟩
  ·unfold qZ;rw[r1];rfl
  ·unfold jM;rw[r5];rfl
 ·unfold xB;obtain⟨hr,ha⟩:=he _ hm;obtain⟨y0,k0,e0,a0,b0,c0⟩:=WR (x:=ys[i].roots) (k:=k+1+1) (by omega) (by omega) (by omega);obtain⟨y1,k1,e1,a1,b1,c1⟩:=markAttrS_ok (x:=ys[i].attrs) (k:=k0+1+1) (by omega) (by omega) (by omega);refine⟨_,_,by simp only[qj hi,if_true,wE hi,obS,qP,wT (k:=k) (by omega) (by omega),i64_in (n:=k+1) (by omega) (by omega),i64_in (n:=k+1+1) (by omega) (by omega),e0,Q9 (m:=k0) (n:=3),i64_in (n:=k0+1) (by omega) (by omega),Q9 (m:=k0+1) (n:=3),i64_in (n:=k0+1+1) (by omega) (by omega),e1,zJ (show i<4611686018427387904 by omega)];rfl,by omega,by omega,λ zs hz hzi=>?_⟩;unfold xE;have n0:cmpI .lss k0 (0:Int)=false:=by simp only[cmpI,decide_eq_false_iff_not];omega
  have n1:cmpI .lss k1 (0:Int)=false:=by simp only[cmpI,decide_eq_false_iff_not];omega
  simp only[lss_at' hz (show i<x.length by omega),if_true,zK,hzi,obS,WB,ne_eq,if_false,Bool.false_eq_true,bne_self_eq_false,decide_not,wT (k:=k) (by omega) (by omega),i64_in (n:=k+1) (by omega) (by omega),i64_in (n:=k+1+1) (by omega) (by omega),c0,n0,Q9 (m:=k0) (n:=3),i64_in (n:=k0+1) (by omega) (by omega),Q9 (m:=k0+1) (n:=3),i64_in (n:=k0+1+1) (by omega) (by omega),c1,n1,zJ (show i<4611686018427387904 by omega)]
  first | done | rfl | (simp[cmpI];omega) | simp
 ·unfold xB;simp only[ZZ hn];rfl
 ·unfold xE;simp only[ZZ hn];rfl
theorem markResult_ok(h:ResSm g):∃ y k',j8 g 1=some (y,k')/\1<=k'/\xv y 1=some k':=by
 obtain⟨h1,h2,h3,h4⟩:=h;obtain⟨y1,k1,e1,a1,b1,c1⟩:=WR (x:=g.ends) (k:=1) (by omega) (by omega) (by omega);obtain⟨y2,k2,e2,a2,b2,c2⟩:=WR (x:=g.out) (k:=k1) (by omega) (by omega) (by omega);obtain⟨y3,k3,e3,a3,b3,c3⟩:=markEventS_ok (x:=g.log) (k:=k2) (by omega) (by omega) (by omega);obtain⟨y4,k4,e4,a4,c4⟩:=zdr (k:=k3) h4 (by omega) (by omega);have n1:cmpI .lss k1 (0:Int)=false:=by simp only[cmpI,decide_eq_false_iff_not];omega
 have n2:cmpI .lss k2 (0:Int)=false:=by simp only[cmpI,decide_eq_false_iff_not];omega
 have n3:cmpI .lss k3 (0:Int)=false:=by simp only[cmpI,decide_eq_false_iff_not];omega
 have n4:cmpI .lss k4 (0:Int)=false:=by simp only[cmpI,decide_eq_false_iff_not];omega
 refine⟨{ g with ends:=y1,out:=y2,log:=y3,modules:=y4 },k4,?_,by omega,?_⟩
 ·unfold j8;simp only[e1,e2,e3,e4,obS]
 ·unfold xv;simp only[c1,c2,c3,c4,n1,n2,n3,n4,obS,Bool.false_eq_true,if_false]
theorem tail_res(hg:ResSm g)(hH:H=some g):
  ((
   j8 g (1:Int)).bind λ v86=>
   (xv v86.1 (1:Int)).bind λ v90=>
   if(cmpI .lss v90 (0:Int))=true then(some false)
   else(if(cmpI .neq v90 v86.2)=true then(some false)
   else(H.bind λ v103=>
   (xK v103 g).bind λ v108=>
   if(!v108)=true then(some false)
   else((xv v86.1 (1:Int)).bind λ v115=>
   if(cmpI .lss v115 (0:Int))=true then(some false)
   else(if(cmpI .neq v115 v86.2)=true then(some false)
   else(some true))))))=some true:=by
 obtain⟨y,k',h1,h2,h4⟩:=markResult_ok hg;have h5:cmpI .lss k' 0=false:=by simp[cmpI];omega
 simp only[h1,obS,h4,h5,WB,hH,zaF hg,Bool.false_eq_true,if_false,Bool.not_true]
end Go.Proofs.YtbbfcjifihknnaaGreatDoor
