import Derived.Test.YtbbfcjifihknnaaGreatDoorTFb
import Derived.Test.YtbbfcjifihknnaaGreatDoorTB
import Derived.Test.YtbbfcjifihknnaaGreatDoorTG
namespace Go.Proofs.YtbbfcjifihknnaaGreatDoor
variable{l0 r:Int}{path roots xs:List Int}{b:List Stmt}{l m:List Str}{a:List UInt8}{vs:List Value}{k off:Nat}{M:Nat->Prop}{K:Option Bool}{q:Prop}{p s x:Str}{t:Tree}{c:UInt8}{w:World}
section
variable{α β σ S:Type}
theorem zO(xs:List α)(k:Nat):atI xs (k:Int)=xs[k]?:=by simp[atI]
theorem qz{n:Int}(h1:-9223372036854775808<=n)(h2:n<=9223372036854775807):i64 n=some n:=Ke ⟨h1,h2⟩
theorem zT(h:k<4611686018427387904):i64 ((k:Int)+1)=some ((k+1:Nat):Int):=by rw[qz (by omega) (by omega)];rfl
theorem xW[Inhabited α](g:Bool)(x:α):gO g (some x)=some (if g=true then x else default):=by unfold gO;split <;> rfl
theorem Yn[Inhabited α](e:Option α):gO true e=e:=rfl
theorem X1[Inhabited α](e:Option α):gO false e=some default:=rfl
theorem zM(k n:Nat):cmpI .lss (k:Int) (n:Int)=decide (k<n):=by simp[cmpI]
theorem xp{b:Nat}{xs ys:List α}(h:(xs.length+ys.length)*b<=140737488355328)(h2:xs.length+ys.length<=9223372036854775807):appO b xs ys=some (xs++ys):=Ke ⟨h,h2⟩
theorem JN(h:k<=s.l.length):cutHO s (k:Int)=some ⟨s.l.take k⟩:=by unfold cutHO;rw[Ke ⟨by omega,by omega⟩];rfl
theorem JO(h:k<=s.l.length):cutLO s (k:Int)=some ⟨s.l.drop k⟩:=by unfold cutLO;rw[Ke ⟨by omega,by omega⟩];rfl
theorem zaD{xs:List α}(h:k<=xs.length):QI xs (k:Int)=some (xs.take k):=by unfold QI;rw[Ke ⟨by omega,by omega⟩];rfl
theorem setO_nat{xs:List α}{y:α}(h:k<xs.length):setO xs (k:Int) y=some (xs.set k y):=by unfold setO;rw[Ke ⟨by omega,by omega⟩];rfl
theorem yz{m n:Str}(h:m.l.length+n.l.length<=9223372036854775807):catO m n=some ⟨m.l++n.l⟩:=Ke h
theorem Za{step:S->Option (S⊕β)}{s s':S}{n:Nat}(h:step s=some (.inl s')):jp step (n+1) s=jp step n s':=by rw[jp,h]
theorem xn{step:S->Option (S⊕β)}{s:S}{b:β}{n:Nat}(h:step s=some (.inr b)):jp step (n+1) s=some b:=by rw[jp,h]
theorem iterM_mono{step:S->Option (S⊕β)}{r:β}:∀ (m j:Nat) (s:S),jp step m s=some r->jp step (m+j) s=some r:=by
 intro m
 induction m with
 | zero=>intro j s h;simp[jp] at h
 |succ m ih=>
  intro j s h;rw[show m+1+j=(m+j)+1 by omega];unfold jp at h ⊢;split at h
  ·cases h
  ·exact ih j _ h
  ·exact h
theorem Zz{step:S->Option (S⊕β)}{r:β}{m:Nat}{s:S}(h:jp step m s=some r)(hm:m<=1152921504606846976):zR step s=some r:=by
 unfold zR;have:=iterM_mono m (1152921504606846976 - m) s h;rwa[show m+(1152921504606846976 - m)=1152921504606846976 by omega] at this
def runL(R:Nat->σ->α->σ⊕β)(fin:σ->β):Nat->σ->List α->β
 | _,s,[]=>fin s
 |k,s,x::xs=>match R k s x with
  | .inl s'=>runL R fin (k+1) s' xs
  | .inr b=>b
theorem JP{step:S->Option (S⊕β)}(xs:List α)(mk:σ->Nat->S)(R:Nat->σ->α->σ⊕β)(fin:σ->β)(Inv:Nat->σ->Prop)
  (h:∀ k s x,xs[k]?=some x->k<xs.length->Inv k s->match R k s x with
   | .inl s'=>step (mk s k)=some (.inl (mk s' (k+1)))/\Inv (k+1) s'
   | .inr b=>step (mk s k)=some (.inr b))
  (hend:∀ s,Inv xs.length s->step (mk s xs.length)=some (.inr (fin s))) {s0:σ} (h0:Inv 0 s0) (hlen:xs.length<576460752303423488):zR step (mk s0 0)=some (runL R fin 0 s0 xs):=by
 have key:∀ m k s,k+m=xs.length->Inv k s->jp step (m+1) (mk s k)=some (runL R fin k s (xs.drop k)):=by
  intro m
  induction m with
  |zero=>
   intro k s hk hi;have:k=xs.length:=by omega
   subst this;rw[List.drop_length,runL,jp,hend s hi]
  |succ m ih=>
   intro k s hk hi;have hlt:k<xs.length:=by omega
   have hx:xs[k]?=some xs[k]:=List.getElem?_eq_getElem hlt;rw[List.drop_eq_getElem_cons hlt,runL,jp];have hr:=h k s xs[k] hx hlt hi;cases e:R k s xs[k] with
   |inl s'=>rw[e] at hr;simp only at hr;rw[hr.1];exact ih (k+1) s' (by omega) hr.2
   |inr b=>rw[e] at hr;simp only at hr;rw[hr]
 exact Zz (key xs.length 0 s0 (by omega) h0) (by omega)
theorem loop_find{step:Int->Option (Int⊕β)}(xs:List α)(R:Nat->α->Option β)(e:β)
  (h:∀ k x,xs[k]?=some x->k<xs.length->step (k:Int)=some (match R k x with | none=>.inl ((k+1:Nat):Int) | some b=>.inr b))
  (hend:step (xs.length:Int)=some (.inr e)) (hlen:xs.length<576460752303423488) {s:Int} (hs:s=0):
  zR step s=some (runL (λ k (_:Unit) x=>match R k x with | none=>.inl () | some b=>.inr b) (λ _=>e) 0 () xs):=by
 subst hs;refine JP (σ:=Unit) xs (λ _ k=>(k:Int)) _ _ (λ _ _=>True) (λ k s x hx hlt _=>?_) (λ _ _=>hend) trivial hlen;have:=h k x hx hlt;cases hR:R k x with
 | none=>rw[hR] at this;exact⟨this,trivial⟩
 | some b=>rw[hR] at this;exact this
theorem runL_any(p:α->Bool)(b e:β):∀ (k:Nat) (xs:List α),runL (λ _ (_:Unit) x=>match (if p x=true then some b else none) with | none=>.inl () | some b=>.inr b) (λ _=>e) k () xs=if xs.any p=true then b else e
 | _,[]=>rfl
 |k,x::xs=>by
  cases h:p x with
  | true=>simp[runL,h]
  | false=>simp only[runL,h];rw[List.any_cons,h,Bool.false_or];exact runL_any p b e (k+1) xs
theorem WV{step:Int->Option (Int⊕β)}(xs:List α)(p:α->Bool)(b e:β)
  (h:∀ k x,xs[k]?=some x->k<xs.length->step (k:Int)=some (if p x=true then .inr b else .inl ((k+1:Nat):Int)))
  (hend:step (xs.length:Int)=some (.inr e)) (hlen:xs.length<576460752303423488) {s:Int} (hs:s=0):
  zR step s=some (if xs.any p=true then b else e):=by
 rw[loop_find xs (λ _ x=>if p x=true then some b else none) e (λ k x hx hlt=>?_) hend hlen hs,runL_any];rw[h k x hx hlt];cases p x <;> rfl
theorem runL_idx(p:α->Bool)(f:Int->β)(e:β):∀ (k:Nat) (xs:List α),runL (λ k (_:Unit) x=>match (if p x=true then some (f k) else none) with | none=>.inl () | some b=>.inr b) (λ _=>e) k () xs=(match xs.findIdx? p with | some i=>f ((k+i:Nat):Int) | none=>e)
 | _,[]=>rfl
 |k,x::xs=>by
  cases h:p x with
  | true=>simp[runL,h,List.findIdx?_cons]
  |false=>
   simp only[runL,h,List.findIdx?_cons,Bool.false_eq_true,if_false];rw[runL_idx p f e (k+1) xs];cases xs.findIdx? p with
   | none=>rfl
   | some i=>simp only[Option.map_some];congr 1;omega
theorem JQ{step:Int->Option (Int⊕β)}(xs:List α)(p:α->Bool)(f:Int->β)(e:β)
  (h:∀ k x,xs[k]?=some x->k<xs.length->step (k:Int)=some (if p x=true then .inr (f k) else .inl ((k+1:Nat):Int)))
  (hend:step (xs.length:Int)=some (.inr e)) (hlen:xs.length<576460752303423488) {s:Int} (hs:s=0):
  zR step s=some (match xs.findIdx? p with | some i=>f (i:Int) | none=>e):=by
 rw[loop_find xs (λ k x=>if p x=true then some (f k) else none) e (λ k x hx hlt=>?_) hend hlen hs,runL_idx]
 ·cases xs.findIdx? p <;> simp
 ·rw[h k x hx hlt];cases p x <;> rfl
theorem runL_fold(g:σ->α->σ)(fin:σ->β):∀ (k:Nat) (s:σ) (xs:List α),runL (λ _ s x=>(.inl (g s x):σ⊕β)) fin k s xs=fin (xs.foldl g s)
 | _,_,[]=>rfl
 | k,s,x::xs=>runL_fold g fin (k+1) (g s x) xs
theorem Zb{step:S->Option (S⊕β)}(xs:List α)(mk:σ->Nat->S)(g:σ->α->σ)(fin:σ->β)(Inv:Nat->σ->Prop)
  (h:∀ k s x,xs[k]?=some x->k<xs.length->Inv k s->step (mk s k)=some (.inl (mk (g s x) (k+1)))/\Inv (k+1) (g s x))
  (hend:∀ s,Inv xs.length s->step (mk s xs.length)=some (.inr (fin s))) {s0:σ} (h0:Inv 0 s0) (hlen:xs.length<576460752303423488):zR step (mk s0 0)=some (fin (xs.foldl g s0)):=by
 rw[JP xs mk (λ _ s x=>.inl (g s x)) fin Inv h hend h0 hlen,runL_fold]
end
variable{α:Type}
theorem Wn(hs:mid s):y9 s=some (zC s):=by
 unfold mid at hs;have hl:zR (λ s4=>qG s s4) 0=some (if s.l.any (λ b=>!low b)=true then .inr false else .inl ()):=by
  refine WV s.l _ _ _ (λ k x hx hlt=>?_) ?_ (by omega) Z
  ·unfold qG;rw[zM,Ke (decide_eq_true hlt),zO,hx,Kd,xW,Kd,zT (by omega)];unfold low;generalize cmpB .lss x (UInt8.ofNat 97)=c1;cases c1 with
   | true=>rfl
   |false=>rw[Ke (show(false == false)=true from Z)];generalize cmpB .gtr x (UInt8.ofNat 122)=c2;cases c2 <;> rfl
  ·unfold qG;rw[zM,Kf (by simp)]
 unfold y9;rw[hl,Kd];unfold zC;cases h:s.l.any (λ b=>!low b) with
 |true=>
  have:s.l.all low=false:=by
   rw[Bool.eq_false_iff];intro h2;rw[List.any_eq_true] at h;obtain⟨b,hb,hb2⟩:=h;rw[List.all_eq_true.1 h2 b hb] at hb2;cases hb2
  simp[this]
 |false=>
  have:s.l.all low=true:=by
   rw[List.all_eq_true];intro b hb;have:=List.any_eq_false.1 h b hb;simpa using this
  simp only[Bool.false_eq_true,if_false,Sum.elim_inl,yZ,Kd,this,Bool.and_true,inR];simp[cmpI]
def cutF(c:UInt8):List UInt8->List (List UInt8)
 | []=>[[]]
 |b::l=>if b == c then[]::cutF c l else match cutF c l with
  | h::t=>(b::h)::t
  | []=>[[b]]
theorem qa(c b:UInt8)(l:List UInt8):cutF c (b::l)=if b == c then[]::cutF c l else match cutF c l with
  | h::t=>(b::h)::t
  | []=>[[b]]:=rfl
theorem Zm(c:UInt8):∀ l,cutF c l≠[]
 | []=>by simp[cutF]
 |b::l=>by
  unfold cutF;split
  ·simp
  ·split <;> simp
theorem zac(c:UInt8):∀ l,(cutF c l).length=l.count c+1
 | []=>by simp[cutF]
 |b::l=>by
  unfold cutF;cases h:b == c with
  |true=>simp only[if_true,List.length_cons,zac c l];rw[List.count_cons,h];simp
  |false=>
   simp only[Bool.false_eq_true,if_false];rw[List.count_cons,h];simp only[Bool.false_eq_true,if_false,Nat.add_zero];rw[← zac c l];cases hc:cutF c l with
   | nil=>exact absurd hc (Zm c l)
   | cons h t=>rfl
theorem za9(c:UInt8):∀ (l:List UInt8) (st:List Str×Str),(let r:=l.foldl (jZ c) st;r.1++[r.2])=st.1++(match cutF c l with | h::t=>(⟨st.2.l++h⟩:Str)::t.map Str.mk | []=>[])
 | [],st=>by simp[cutF]
 |b::l,st=>by
  rw[List.foldl_cons];have ih:=za9 c l (jZ c st b);simp only at ih ⊢;rw[ih];unfold jZ;rw[qa];cases h:b == c with
  |true=>
   simp only[if_true,List.append_assoc];cases hc:cutF c l with
   | nil=>exact absurd hc (Zm c l)
   | cons h t=>simp
  |false=>
   simp only[Bool.false_eq_true,if_false];cases hc:cutF c l with
   | nil=>exact absurd hc (Zm c l)
   | cons h t=>simp
theorem yE(s:Str)(c:UInt8):zi s c=(cutF c s.l).map Str.mk:=by
 have:=za9 c s.l ([],⟨[]⟩);simp only at this;unfold zi xM;rw[this];cases hc:cutF c s.l with
 | nil=>exact absurd hc (Zm c s.l)
 | cons h t=>simp
theorem YI(c:UInt8):∀ l,Lib.indexByte l c<0->cutF c l=[l]
 | [],_=>rfl
 |b::l,h=>by
  unfold Lib.indexByte at h;unfold cutF;cases hb:b == c with
  | true=>rw[hb] at h;simp at h
  |false=>
   rw[hb] at h;simp only[Bool.false_eq_true,if_false] at h ⊢;have hge:=Lib.indexByte_ge l c;have:Lib.indexByte l c<0:=by
    split at h
    ·rename_i e;have:=eq_of_beq e;omega
    ·omega
   rw[YI c l this]
theorem YJ(c:UInt8):∀ l,0<=Lib.indexByte l c->Lib.indexByte l c<l.length/\cutF c l=l.take (Lib.indexByte l c).toNat::cutF c (l.drop ((Lib.indexByte l c).toNat+1))
 | [],h=>by simp[Lib.indexByte] at h
 |b::l,h=>by
  unfold Lib.indexByte at h ⊢;cases hb:b == c with
  | true=>simp[cutF,hb]
  |false=>
   rw[hb] at h;simp only[Bool.false_eq_true,if_false] at h ⊢;cases he:Lib.indexByte l c == -1 with
   | true=>rw[he] at h;simp at h
   |false=>
    rw[he] at h;simp only[Bool.false_eq_true,if_false] at h ⊢;have hge:=Lib.indexByte_ge l c;have hne:Lib.indexByte l c≠-1:=by simpa using he
    obtain⟨h1,h2⟩:=YJ c l (by omega);refine⟨by simp;omega,?_⟩;have e1:(Lib.indexByte l c+1).toNat=(Lib.indexByte l c).toNat+1:=by omega
    rw[e1];rw[qa,hb,h2];simp only[Bool.false_eq_true,if_false,List.take_succ_cons,List.drop_succ_cons]
theorem genSplit_loop(c:UInt8)(n:Nat)(hn:n<1099511627777):∀ (l:List UInt8) (done:List Str),l.length<=1099511627776->done.length+(cutF c l).length=n->
  ∀
   m,(cutF c l).length<=m->jp (λ s35=>wL ⟨[c]⟩ 0 ((n:Int) - 1) s35) m ((⟨l⟩:Str),done++List.replicate (n - done.length) zStr,(done.length:Int))=
   some (⟨(cutF c l).getLast (Zm c l)⟩,done++((cutF c l).dropLast.map Str.mk++[zStr]),(n:Int) - 1):=by
 intro l
 induction hlen:l.length using Nat.strongRecOn generalizing l with
 |_ k ih=>
  intro done hl hd m hm;have hne:=Zm c l;have hpos:0<(cutF c l).length:=List.length_pos_iff.2 hne;obtain⟨m,rfl⟩:∃ m',m=m'+1:=⟨m - 1,by omega⟩;by_cases hlast:(cutF c l).length=1
  ·rw[xn (b:=((⟨l⟩:Str),done++List.replicate (n - done.length) zStr,(done.length:Int))) (by unfold wL;exact Kf (by simp[cmpI];omega))];obtain⟨x,hx⟩:=List.length_eq_one_iff.1 hlast;have e1:n - done.length=1:=by omega
   simp only[hx,List.getLast_singleton,List.dropLast_singleton,List.map_nil,List.nil_append,e1,List.replicate_one];have hxl:x=l:=by
    rcases Int.lt_or_le (Lib.indexByte l c) 0 with h | h
    ·rw[YI c l h] at hx;injection hx with hx;exact hx.symm
    ·obtain⟨_,h2⟩:=YJ c l h;rw[h2] at hx;have:=congrArg List.length hx;simp at this;exact absurd this (Zm _ _)
   rw[hxl]
   congr 2
   congr 1
   omega
  ·have hidx:0<=Lib.indexByte l c:=by
    rcases Int.lt_or_le (Lib.indexByte l c) 0 with h | h
    ·rw[YI c l h] at hlast;simp at hlast
    ·exact h
   obtain⟨h1,h2⟩:=YJ c l hidx;obtain⟨j,hi⟩:=Int.eq_ofNat_of_zero_le hidx;rw[hi] at h1 h2;rw[Int.toNat_natCast] at h2;have hj:j<l.length:=by omega
   have e2:wD ⟨l⟩ ⟨[c]⟩=some (j:Int):=by simp[wD,hi]
   have hrep:done.length<(done++List.replicate (n - done.length) zStr).length:=by simp;omega
   have e4:atI (done++List.replicate (n - done.length) zStr) (done.length:Int)=some zStr:=by
    rw[zO,List.getElem?_append_right (Nat.le_refl _),Nat.sub_self,List.getElem?_replicate,Ke (by omega)]
   have e5:setO (done++List.replicate (n - done.length) zStr) (done.length:Int) (⟨l.take j⟩:Str)=some ((done++[⟨l.take j⟩])++List.replicate (n - (done.length+1)) zStr):=by
    rw[setO_nat hrep]
    congr 1
    rw[List.set_append_right _ _ (Nat.le_refl _),Nat.sub_self];obtain⟨q,hq⟩:∃ q,n - done.length=q+1:=⟨n - done.length - 1,by omega⟩;rw[hq,List.replicate_succ,List.set_cons_zero,List.append_assoc,show n - (done.length+1)=q by omega];rfl
   have hstep:wL ⟨[c]⟩ 0 ((n:Int) - 1) ((⟨l⟩:Str),done++List.replicate (n - done.length) zStr,(done.length:Int))=some (.inl ((⟨l.drop (j+1)⟩:Str),(done++[⟨l.take j⟩])++List.replicate (n - (done.length+1)) zStr,((done.length+1:Nat):Int))):=by
    unfold wL;rw[Ke (by simp[cmpI];omega)];simp only;rw[e2,Kd,Kf (by simp[cmpI]),show((j:Int)+0)=(j:Int) by omega,qz (by omega) (by omega),Kd,JN (show j<=(⟨l⟩:Str).l.length by show j<=l.length;omega),Kd,e4,Kd,e5,Kd];rw[show((j:Int)+(([c]:List UInt8).length:Int))=((j+1:Nat):Int) from Z,qz (by omega) (by omega),Kd,JO (show j+1<=(⟨l⟩:Str).l.length by show j+1<=l.length;omega),Kd,zT (by omega),Kd]
   rw[Za hstep];have hlen2:(cutF c (l.drop (j+1))).length+1=(cutF c l).length:=by rw[h2];rfl
   have hrec:=ih (l.drop (j+1)).length (by simp;omega) (l.drop (j+1)) Z (done++[⟨l.take j⟩]) (by simp;omega) (by simp;omega) m (by omega);rw[List.length_append,List.length_singleton] at hrec;rw[hrec];have hne2:=Zm c (l.drop (j+1));have e7:(cutF c l).getLast hne=(cutF c (l.drop (j+1))).getLast hne2:=by
    have:∀ (L:List (List UInt8)) (hL:L≠[]),L=l.take j::cutF c (l.drop (j+1))->L.getLast hL=(cutF c (l.drop (j+1))).getLast hne2:=by
     intro L hL e;subst e;exact List.getLast_cons hne2
    exact this _ hne h2
   have e8:(cutF c l).dropLast=l.take j::(cutF c (l.drop (j+1))).dropLast:=by
    have:∀ (L:List (List UInt8)),L=l.take j::cutF c (l.drop (j+1))->L.dropLast=l.take j::(cutF c (l.drop (j+1))).dropLast:=by
     intro L e;subst e;rw[List.dropLast_cons_of_ne_nil hne2]
    exact this _ h2
   rw[e7,e8];simp
theorem zcn(hs:s.l.length<=8388608)(c:UInt8):yU s ⟨[c]⟩=some (zi s c):=by
 unfold yU Zi;have hcount:s.l.count c<=s.l.length:=List.count_le_length;rw[Kf (by simp[cmpI]),Kf (by simp)];have e1:Zs s ⟨[c]⟩=some (s.l.count c:Int):=rfl;rw[Ke (by simp[cmpI]),e1,Kd,zT (by omega),Kd,Kd,zT (by omega),Kd];have hmin:(if((s.l.length+1:Nat):Int)<((s.l.count c+1:Nat):Int) then((s.l.length+1:Nat):Int) else((s.l.count c+1:Nat):Int))=((s.l.count c+1:Nat):Int):=Kf (by omega);rw[hmin];have hbig:s.l.count c+1<=16777216:=by omega
 have e2:makeO 1 16 ((s.l.count c+1:Nat):Int) zStr=some (List.replicate (s.l.count c+1) zStr):=by
  unfold makeO;rw[Ke ⟨by omega,by simp;omega,by simp;omega,by omega⟩];rfl
 rw[e2,Kd,qz (by omega) (by omega),Kd];have hl:=Zz (genSplit_loop c (s.l.count c+1) (by omega) s.l [] (by omega) (by simp[zac]) (s.l.count c+1) (by rw[zac];omega)) (by omega);simp only[List.nil_append,List.length_nil,Nat.sub_zero] at hl;rw[show((0:Nat):Int)=0 from Z] at hl;rw[hl,Kd];have hne:=Zm c s.l;have hlen:=zac c s.l;have hz:((cutF c s.l).dropLast.map Str.mk).length=s.l.count c:=by simp[hlen]
 have e3:(((s.l.count c+1:Nat):Int) - 1)=(s.l.count c:Int):=by omega
 simp only[e3];have e4:atI ((cutF c s.l).dropLast.map Str.mk++[zStr]) (s.l.count c:Int)=some zStr:=by
  rw[zO,List.getElem?_append_right (by omega),hz,Nat.sub_self];rfl
 have e5:setO ((cutF c s.l).dropLast.map Str.mk++[zStr]) (s.l.count c:Int) (⟨(cutF c s.l).getLast hne⟩:Str)=some ((cutF c s.l).map Str.mk):=by
  unfold setO;rw[Ke ⟨by omega,by simp[hlen]⟩]
  congr 1
  rw[Int.toNat_natCast,List.set_append_right _ _ (by omega),hz,Nat.sub_self,List.set_cons_zero];have:=List.dropLast_concat_getLast hne
  conv=>rhs;rw[← this]
  simp
 rw[e4,Kd,e5,Kd,zT (by omega),Kd];have e6:QI ((cutF c s.l).map Str.mk) ((s.l.count c+1:Nat):Int)=some ((cutF c s.l).map Str.mk):=by
  unfold QI;rw[Ke ⟨by omega,by simp[hlen]⟩]
  congr 1
  rw[Int.toNat_natCast];exact List.take_of_length_le (by simp[hlen])
 rw[e6,yE];rfl
def sho(s:Str):Prop:=s.l.length<=8388608
theorem sho.mid{s:Str}(h:sho s):mid s:=by unfold sho at h;unfold Go.Proofs.YtbbfcjifihknnaaGreatDoor.mid;omega
theorem split_len(s:Str)(c:UInt8):(zi s c).length<=s.l.length+1:=by have:=JA (zi s c);rwa[qr] at this
theorem split_part(h:x∈zi s c):x.l.length<=s.l.length+1:=by
 obtain⟨k,hk⟩:=List.getElem?_of_mem h;have:=part_le hk;rwa[qr] at this
theorem any_not(p:α->Bool)(l:List α):l.any (λ x=>!p x)=!l.all p:=by
 induction l with
 | nil=>rfl
 | cons x l ih=>simp[ih]
theorem xm(hs:sho s):zZ s=some (zf s):=by
 unfold sho at hs;have hlen:=split_len s dot;unfold zZ;rw[show yU s (⟨[46]⟩:Str)=some (zi s dot) from zcn hs dot,Kd];have hl:zR (λ s7=>qH (zi s dot) s7) 0=some (if(zi s dot).any (λ x=>!zC x)=true then .inr false else .inl ()):=by
  refine WV _ _ _ _ (λ k x hx hlt=>?_) ?_ (by omega) Z
  ·unfold qH;have hm:mid x:=by have:=split_part (List.mem_of_getElem? hx);unfold mid;omega
   rw[zM,Ke (decide_eq_true hlt),zO,hx,Kd,Wn hm,Kd,zT (by omega)];cases zC x <;> rfl
  ·unfold qH;rw[zM,Kf (by simp)]
 rw[hl,Kd,any_not];unfold zf;cases(zi s dot).all zC <;> rfl
theorem Xs(hs:sho s):xG s=some (zx s):=by
 unfold xG;rw[xm hs,xW,Kd];unfold zx emptyS;cases decide (s=(⟨[]⟩:Str)) <;> rfl
theorem zbu(hs:sho s):jL s=some (if zf s=true then zi s dot else[]):=by
 unfold jL;rw[xm hs,Kd,show yU s (⟨[46]⟩:Str)=some (zi s dot) from zcn hs dot];cases zf s <;> rfl
def Xt(p s:Str):Str:=if(zx p&&zC s&&zf (child p s))=true then child p s else emptyS
theorem WW(h:p.l.length+s.l.length+1<=8388608):x9 p s=some (Xt p s):=by
 have hp:sho p:=by unfold sho;omega
 have hs:mid s:=by unfold mid;omega
 unfold x9 Xt;rw[Xs hp,Kd,Wn hs,xW,Kd];cases zx p with
 | false=>simp only[Bool.not_false,Bool.true_or,if_true,Bool.false_and,Bool.false_eq_true,if_false,emptyS]
 |true=>
  cases zC s with
  | false=>simp only[Bool.not_false,Bool.or_true,if_true,Bool.false_and,Bool.and_false,Bool.false_eq_true,if_false,emptyS,Bool.not_true,beq_self_eq_true]
  |true=>
   have hc:(if(decide (p≠(⟨[]⟩:Str)))=true then((catO p (⟨[46]⟩:Str)).bind λ v14=>(catO v14 s).bind λ v15=>some v15) else(some s))=some (child p s):=by
    unfold child emptyS;by_cases he:p=⟨[]⟩
    ·rw[Kf (by simp[he]),Ke he]
    ·rw[Ke (by simp[he]),Kf he,yz (by show p.l.length+1<=_;omega),Kd,yz (by rw[List.length_append];show p.l.length+1+s.l.length<=_;omega),Kd]
   have hsc:sho (child p s):=by
    unfold sho child;split
    ·omega
    ·rw[List.length_append,List.length_append];show p.l.length+1+s.l.length<=_;omega
   rw[hc,Kf (by decide),Kd,xm hsc,Kd];generalize child p s=q;cases zf q <;> rfl
theorem HasPrefix_eq:jq s p=some (decide (p.l.length<=s.l.length)&&decide ((⟨s.l.take p.l.length⟩:Str)=p)):=by
 unfold jq xi;by_cases h:p.l.length<=s.l.length
 ·have e:cmpI .geq (s.l.length:Int) (p.l.length:Int)=true:=by simp[cmpI,h]
  rw[e,JN h];simp[gO,h]
 ·have e:cmpI .geq (s.l.length:Int) (p.l.length:Int)=false:=by simp[cmpI];omega
  rw[e];simp[gO,h]
theorem IsUnder_eq(hs:sho s)(hp:p.l.length+1<=8388608):Z3 s p=some (zf s&&zx p&&under s p):=by
 have hp':sho p:=by unfold sho;omega
 unfold Z3;rw[xm hs,Kd,Xs hp',xW,Kd,yz (by show p.l.length+1<=_;omega),xW];unfold under emptyS;cases zf s with
 | false=>rfl
 |true=>
  cases zx p with
  | false=>rfl
  |true=>
   cases he:decide (p=(⟨[]⟩:Str)) with
   | true=>rfl
   |false=>
    cases hq:decide (s=p) with
    | true=>rfl
    |false=>
     simp only[HasPrefix_eq,xW,Bool.not_true,Bool.or_self,Bool.false_eq_true,if_false,beq_self_eq_true,if_true,Bool.true_and,Bool.false_or,Kd,List.length_append,List.length_singleton]
     congr 2
     simp[cmpI];omega
theorem zaE(a b c:Int):yZ a b c=some (inR a b c):=rfl
theorem qb:zf emptyS=false:=rfl
theorem idx_join(p:α->Bool)(xs:List α):Option.bind (some (match xs.findIdx? p with | some i=>(Sum.inr (i:Int):Unit⊕Int) | none=>Sum.inl ())) (Sum.elim (λ _=>some (-1)) some)=some (xL p xs):=by
 unfold xL;cases xs.findIdx? p <;> rfl
theorem JR(p:α->Bool)(xs:List α):cmpI .geq (xL p xs) 0=xs.any p:=by
 unfold xL;cases h:xs.findIdx? p with
 |none=>
  rw[List.findIdx?_eq_none_iff] at h;have:xs.any p=false:=by rw[List.any_eq_false];intro x hx;simp[h x hx]
  rw[this];rfl
 |some i=>
  obtain⟨hi,hp,_⟩:=List.findIdx?_eq_some_iff_getElem.1 h;have:xs.any p=true:=by rw[List.any_eq_true];exact⟨_,List.getElem_mem hi,hp⟩
  rw[this];simp[cmpI]
theorem idxOf_lss{p:α->Bool}{xs:List α}{x:α}(hx:xs[k]?=some x)(hp:p x=true):cmpI .lss (xL p xs) k=(xs.take k).any p:=by
 have hk:=zH hx;have hxk:xs[k]=x:=by rw[List.getElem?_eq_getElem hk] at hx;injection hx
 unfold xL;cases h:xs.findIdx? p with
 |none=>rw[List.findIdx?_eq_none_iff] at h;have:=h x (List.mem_of_getElem? hx);rw[hp] at this;cases this
 |some i=>
  obtain⟨hi,hpi,hmin⟩:=List.findIdx?_eq_some_iff_getElem.1 h;by_cases hik:i<k
  ·have:(xs.take k).any p=true:=by
    rw[List.any_eq_true];exact⟨xs[i],List.mem_take_iff_getElem.2 ⟨i,by omega,Z⟩,hpi⟩
   rw[this];simp[cmpI,hik]
  ·have:(xs.take k).any p=false:=by
    rw[List.any_eq_false];intro y hy;obtain⟨j,hj,rfl⟩:=List.mem_take_iff_getElem.1 hy;exact hmin j (by omega)
   rw[this];simp[cmpI];omega
theorem IndexI_eq{n:Int}(h:xs.length<=1152921504606846):wx xs n=some (xL (λ x=>n == x) xs):=by
 unfold wx;have hl:zR (λ s4=>wJ xs n s4) 0=some (match xs.findIdx? (λ x=>n == x) with | some i=>(Sum.inr (i:Int):Unit⊕Int) | none=>Sum.inl ()):=by
  refine JQ xs (λ x=>n == x) (λ i=>Sum.inr i) _ (λ k x hx hlt=>?_) ?_ (by omega) Z
  ·unfold wJ;rw[zM,Ke (decide_eq_true hlt),zO,hx,Kd,zT (by omega),show cmpI .eql n x=(n == x) from Z];cases n == x <;> rfl
  ·unfold wJ;rw[zM,Kf (by simp)]
 rw[hl];exact idx_join _ _
theorem ContainsI_eq{n:Int}(h:xs.length<=1152921504606846):xN xs n=some (xs.any (λ x=>n == x)):=by
 unfold xN;rw[IndexI_eq h,Kd,JR]
theorem stmt_mod(s:Stmt):decide (s={ (⟨s.kind,⟨[]⟩,0,⟨[]⟩,0⟩:Stmt) with module:=s.module })=(cmpI .eql s.level 0&&decide (s.name=⟨[]⟩)&&cmpI .eql s.value 0):=by
 cases s;rw[Bool.eq_iff_iff];simp[cmpI,and_assoc]
theorem stmt_nv(s:Stmt):decide (s={ { (⟨s.kind,⟨[]⟩,0,⟨[]⟩,0⟩:Stmt) with name:=s.name } with value:=s.value })=(decide (s.module=⟨[]⟩)&&cmpI .eql s.level 0):=by
 cases s;rw[Bool.eq_iff_iff];simp[cmpI]
theorem stmt_n(s:Stmt):decide (s={ (⟨s.kind,⟨[]⟩,0,⟨[]⟩,0⟩:Stmt) with name:=s.name })=(decide (s.module=⟨[]⟩)&&cmpI .eql s.level 0&&cmpI .eql s.value 0):=by
 cases s;rw[Bool.eq_iff_iff];simp[cmpI,and_assoc]
theorem smStmt.sho{s:Stmt}(h:smStmt s):sho s.module:=by have:=h.1;unfold Go.Proofs.YtbbfcjifihknnaaGreatDoor.sho;omega
theorem smStmt.midn{s:Stmt}(h:smStmt s):mid s.name:=by have:=h.2;unfold mid;omega
theorem stmtOk_eq{s:Stmt}(h:smStmt s):YD s=some (zX s):=by
 have hm:=xm h.sho;have hn:=Wn h.midn;unfold YD;rw[hm,hn,stmt_mod,stmt_nv,stmt_n];simp only[zaE,xW,Kd];unfold zX;rcases s with⟨kind,m,level,name,value⟩;simp only[show ∀ x y:Int,cmpI .eql x y=(x == y) from λ _ _=>Z];by_cases h0:kind=0
 ·subst h0;simp only[beq_self_eq_true,if_true,Kd];generalize zf m=a;generalize (level == 0)=b;generalize decide (name=⟨[]⟩)=c;generalize (value == 0)=d;cases a <;> cases b <;> cases c <;> cases d <;> rfl
 ·by_cases h2:kind=2
  ·subst h2;simp only[beq_self_eq_true,if_true,Kd,show((2:Int) == 0)=false from Z,show((2:Int) == 1)=false from Z,Bool.false_eq_true,if_false];generalize zf m=a;generalize (level == 0)=b;generalize decide (name=⟨[]⟩)=c;generalize (value == 0)=d;cases a <;> cases b <;> cases c <;> cases d <;> rfl
  ·have e0:(kind == 0)=false:=by simpa using h0
   have e2:(kind == 2)=false:=by simpa using h2
   simp only[e0,e2,Bool.false_eq_true,if_false,Kd];by_cases h1:kind=1
   ·subst h1;simp only[beq_self_eq_true,if_true];have hl:cmpI .geq level 1=cmpI .gtr level 0:=by simp[cmpI];omega
    rw[hl];unfold zx;by_cases hme:m=emptyS
    ·subst hme;rw[qb];simp only[emptyS,decide_true,ne_eq,not_true_eq_false,decide_false];generalize (value == 0)=a;generalize inR level 0 3=b;generalize cmpI .gtr level 0=c;generalize zC name=d;cases a <;> cases b <;> cases c <;> cases d <;> rfl
    ·have e1:decide (m=emptyS)=false:=decide_eq_false hme;have e3:decide (m=⟨[]⟩)=false:=decide_eq_false hme;have e4:decide (m≠⟨[]⟩)=true:=decide_eq_true hme;rw[e1,e3,e4];generalize (value == 0)=a;generalize inR level 0 3=b;generalize cmpI .gtr level 0=c;generalize zC name=d;generalize zf m=e;cases a <;> cases b <;> cases c <;> cases d <;> cases e <;> rfl
   ·have e1:(kind == 1)=false:=by simpa using h1
    simp only[e1,Bool.false_eq_true,if_false];by_cases h3:kind=3
    ·subst h3;simp only[beq_self_eq_true,if_true];generalize decide (m=⟨[]⟩)=a;generalize (level == 0)=b;generalize inR value 0 99=c;generalize zC name=d;cases a <;> cases b <;> cases c <;> cases d <;> rfl
    ·have e3:(kind == 3)=false:=by simpa using h3
     simp only[e3,Bool.false_eq_true,if_false];by_cases h4:kind=4
     ·subst h4;simp only[beq_self_eq_true,if_true];generalize decide (m=⟨[]⟩)=a;generalize (level == 0)=b;generalize (value == 0)=c;generalize zC name=d;cases a <;> cases b <;> cases c <;> cases d <;> rfl
     ·have e4:(kind == 4)=false:=by simpa using h4
      simp only[e4,Bool.false_eq_true,if_false];by_cases h5:kind=5
      ·subst h5;rfl
      ·have e5:(kind == 5)=false:=by simpa using h5
       simp only[e5,Bool.false_eq_true,if_false]
theorem ValidBody_eq(hlen:b.length<=1048576)(h:∀ s∈b,smStmt s):qU b=some (jf b):=by
 unfold qU;have hl:zR (λ s4=>qI b s4) 0=some (if b.any (λ x=>!zX x)=true then .inr false else .inl ()):=by
  refine WV _ _ _ _ (λ k x hx hlt=>?_) ?_ (by omega) Z
  ·unfold qI;rw[zM,Ke (decide_eq_true hlt),zO,hx,Kd,stmtOk_eq (h x (List.mem_of_getElem? hx)),Kd,zT (by omega)];cases zX x <;> rfl
  ·unfold qI;rw[zM,Kf (by simp)]
 rw[hl,Kd,any_not];unfold jf;cases b.all zX <;> rfl
theorem child_ne(h:zf (child p s)=true):child p s≠emptyS:=by
 intro e;rw[e,qb] at h;cases h
theorem smFile.shop{f:File}(h:smFile f):sho f.pkg:=by have:=h.1;unfold sho;omega
theorem smFile.midn{f:File}(h:smFile f):mid f.name:=by have:=h.2.1;unfold mid;omega
theorem smFile.child{f:File}(h:smFile f):f.pkg.l.length+f.name.l.length+1<=8388608:=by have:=h.1;have:=h.2.1;omega
theorem fileOk_eq{f:File}(h:smFile f):ZD f=some (yw f):=by
 unfold ZD;rw[zaE,Kd,Xs h.shop,xW,Kd,zaE,xW,Kd,ValidBody_eq h.2.2.1 h.2.2.2,xW,Kd,Wn h.midn,Kd,WW h.child,xW,Kd];unfold yw;cases inR f.root 0 2 with
 | false=>rfl
 |true=>
  cases hp:zx f.pkg with
  | false=>cases inR f.stamp 0 99 <;> rfl
  |true=>
   cases inR f.stamp 0 99 with
   | false=>rfl
   |true=>
    cases jf f.body with
    | false=>rfl
    |true=>
     cases f.init with
     | true=>rfl
     |false=>
      show some (zC f.name&&decide ((if(zC f.name == true)=true then Xt f.pkg f.name else default)≠(⟨[]⟩:Str)))=some (zC f.name&&zf (Go.Proofs.YtbbfcjifihknnaaGreatDoor.child f.pkg f.name));cases hn:zC f.name with
      | false=>rfl
      |true=>
       unfold Xt;rw[hp,hn];cases hc:zf (Go.Proofs.YtbbfcjifihknnaaGreatDoor.child f.pkg f.name) with
       | false=>simp[emptyS]
       |true=>have:=child_ne hc;simp only[Bool.and_self,if_true,beq_self_eq_true,Bool.true_and];rw[decide_eq_true (show Go.Proofs.YtbbfcjifihknnaaGreatDoor.child f.pkg f.name≠⟨[]⟩ from this)]
theorem zco(f g:File):qT f g=some (ww f g):=rfl
theorem zba(f g:File):ww f g=ww g f:=by
 unfold ww;rw[BEq.comm (a:=f.root),BEq.comm (a:=f.init),decide_eq_decide.2 (eq_comm (a:=f.pkg) (b:=g.pkg)),decide_eq_decide.2 (eq_comm (a:=f.name) (b:=g.name))]
theorem sameFile_refl(f:File):ww f f=true:=by simp[ww]
theorem Yo(h:wi t):xb t=some (zD t):=by
 have hlen:=h.1;unfold xb;have hl:zR (λ s4=>qK t s4) 0=some (if(List.range t.files.length).any (λ k=>!QO t.files k)=true then .inr false else .inl ()):=by
  refine WV (List.range t.files.length) _ _ _ (λ k x hx hlt=>?_) ?_ (by rw[List.length_range];omega) Z
  ·rw[List.length_range] at hlt;rw[List.getElem?_range hlt] at hx;injection hx with hx;subst hx;unfold qK;obtain⟨f,hf⟩:∃ f,t.files[k]?=some f:=⟨_,List.getElem?_eq_getElem hlt⟩;have ht:QO t.files k=!(!yw f||cmpI .lss (xt t.files f) k):=by unfold QO;rw[hf]
   rw[zM,Ke (decide_eq_true hlt),zO,hf,Kd,fileOk_eq (h.2 _ (List.mem_of_getElem? hf)),Kd,zaD (by omega),Kd,ht];cases yw f with
   | false=>rfl
   |true=>
    rw[Kf (by decide)];have hin:zR (λ s28=>qJ f (t.files.take k) s28) 0=some (if(t.files.take k).any (λ x=>ww f x)=true then .inr (.inr (.inr false)) else .inl ()):=by
     have htl:(t.files.take k).length<=k:=by simp;omega
     refine WV _ _ _ _ (λ j y hy hjt=>?_) ?_ (by omega) Z
     ·unfold qJ;rw[zM,Ke (decide_eq_true hjt),zO,hy,Kd,zco,Kd,zT (by omega)];cases ww f y <;> rfl
     ·unfold qJ;rw[zM,Kf (by simp)]
    rw[hin];have hfa:cmpI .lss (xt t.files f) k=(t.files.take k).any (λ x=>ww f x):=by
     unfold xt;rw[idxOf_lss (p:=λ x=>ww x f) hf (sameFile_refl _)]
     congr 1
     funext x
     exact zba _ _
    rw[hfa];cases(t.files.take k).any (λ x=>ww f x) with
    | true=>rfl
    |false=>rw[Kf (by decide),Kd,Sum.elim_inl,zT (by omega)];rfl
  ·unfold qK;rw[List.length_range,zM,Kf (by simp)]
 rw[hl,Kd,any_not];unfold zD Ji;cases(List.range t.files.length).all (QO t.files) <;> rfl
theorem fileAt_eq{f:File}(h:t.files.length<=1048576):ZE t f=some (xt t.files f):=by
 unfold ZE;have hl:zR (λ s4=>Yj t f s4) 0=some (match t.files.findIdx? (λ x=>ww x f) with | some i=>(Sum.inr (i:Int):Unit⊕Int) | none=>Sum.inl ()):=by
  refine JQ t.files (λ x=>ww x f) (λ i=>Sum.inr i) _ (λ k x hx hlt=>?_) ?_ (by omega) Z
  ·unfold Yj;rw[zM,Ke (decide_eq_true hlt),zO,hx,Kd,zco,Kd,zT (by omega),zba];cases ww x f <;> rfl
  ·unfold Yj;rw[zM,Kf (by simp)]
 rw[hl];exact idx_join _ _
theorem jS(h:zD t=true){f:File}(hf:f∈t.files):yw f=true:=by
 obtain⟨k,hk⟩:=List.getElem?_of_mem hf;unfold zD Ji at h;rw[Bool.and_eq_true] at h;have:=List.all_eq_true.1 h.1 k (List.mem_range.2 (zH hk));unfold QO at this;rw[hk] at this;simp only at this;cases hv:yw f with
 | true=>rfl
 | false=>rw[hv] at this;cases this
theorem XO{f:File}(h:yw f=true):zx f.pkg=true:=by
 unfold yw at h;cases hv:zx f.pkg with
 | true=>rfl
 |false=>rw[hv,Ke (by simp)] at h;cases h
theorem zbb{f:File}(h:yw f=true):zf (zQ f)=true:=by
 have hp:=XO h;unfold yw at h;unfold zQ;split at h
 ·cases h
 ·cases hi:f.init with
  |true=>rw[hi] at h;simp only[if_true,Bool.and_eq_true,decide_eq_true_eq] at h ⊢;unfold zx at hp;simpa[h.1] using hp
  |false=>rw[hi] at h;simp only[Bool.false_eq_true,if_false,Bool.and_eq_true] at h ⊢;exact h.2
theorem ModuleOf_eq{f:File}(h:smFile f):Zt f=some (if yw f=true then zQ f else emptyS):=by
 unfold Zt;rw[fileOk_eq h,Kd,WW h.child,Kd];cases hv:yw f with
 | false=>rfl
 |true=>
  rw[Kf (by decide),Ke Z];have hp:=XO hv;have hm:=zbb hv;unfold zQ at hm ⊢;unfold yw at hv;split at hv
  ·cases hv
  ·cases hi:f.init with
   | true=>rfl
   |false=>rw[hi] at hv hm;simp only[Bool.false_eq_true,if_false,Bool.and_eq_true] at hv hm ⊢;unfold Xt;rw[hp,hv.1,hm];rfl
theorem hasDir_eq(h:wi t)(hv:∀ f∈t.files,zx f.pkg=true)(hp:zx p=true)(hpl:p.l.length+1<=8388608):YE t r p=some (Xe t.files r p):=by
 have hlen:=h.1;unfold YE;have hl:zR (λ s4=>Yh t r p s4) 0=some (if t.files.any (QP r p)=true then .inr true else .inl ()):=by
  refine WV _ _ _ _ (λ k x hx hlt=>?_) ?_ (by omega) Z
  ·unfold Yh;have hm:=List.mem_of_getElem? hx;rw[zM,Ke (decide_eq_true hlt),zO,hx,Kd,IsUnder_eq (h.2 x hm).shop hpl,xW,Kd,zT (by omega),hp];unfold QP;have hvx:=hv x hm;unfold zx at hvx;rw[show cmpI .eql x.root r=(x.root == r) from Z];by_cases he:x.pkg=emptyS
   ·rw[he,qb];simp
   ·have e1:zf x.pkg=true:=by simpa[he] using hvx
    rw[e1,decide_eq_true (show x.pkg≠emptyS from he)];cases x.root == r <;> cases under x.pkg p <;> rfl
  ·unfold Yh;rw[zM,Kf (by simp)]
 rw[hl,Kd];unfold Xe emptyS;cases t.files.any (QP r p) <;> rfl
theorem Qe{l:List Int}(h:l.length<=1048576):wP l=some (yW l):=by
 unfold wP;have hl:zR (λ s4=>qL l s4) 0=some (if(List.range l.length).any (λ k=>!zbl l k)=true then .inr false else .inl ()):=by
  refine WV (List.range l.length) _ _ _ (λ k x hx hlt=>?_) ?_ (by rw[List.length_range];omega) Z
  ·rw[List.length_range] at hlt;rw[List.getElem?_range hlt] at hx;injection hx with hx;subst hx;unfold qL;obtain⟨n,hf⟩:∃ n,l[k]?=some n:=⟨_,List.getElem?_eq_getElem hlt⟩;have htl:(l.take k).length<=1152921504606846:=by simp;omega
   have ht:zbl l k=!(!inR n 0 2||(l.take k).any (λ x=>n == x)):=by
    unfold zbl;rw[hf];simp only;unfold intAt;rw[JR,show(λ x=>x == n)=(λ x=>n == x) from by funext x;exact BEq.comm]
   rw[zM,Ke (decide_eq_true hlt),zO,hf,Kd,zaE,Kd,zaD (by omega),xW,Kd,ht,zT (by omega)];cases inR n 0 2 with
   | false=>rfl
   |true=>simp only[Bool.not_true,beq_self_eq_true,if_true];rw[ContainsI_eq htl,xW,Kd];cases(l.take k).any (λ x=>n == x) <;> rfl
  ·unfold qL;rw[List.length_range,zM,Kf (by simp)]
 rw[hl,Kd,any_not];unfold yW QQ;cases(List.range l.length).all (zbl l) <;> rfl
structure Good(t:Tree):Prop where
 sm:wi t
 ok:zD t=true
theorem Good.pkg{t:Tree}(h:Good t):∀ f∈t.files,zx f.pkg=true:=λ _ hf=>XO (jS h.ok hf)
theorem Good.len(h:Good t):t.files.length<=1048576:=h.sm.1
theorem XP(h:zC s=true):1<=s.l.length/\s.l.length<=3:=by
 unfold zC inR at h;simp[cmpI] at h;omega
theorem lenSum_le(l:List Str)(h:∀ x∈l,x.l.length<=3):wX l<=4*l.length:=by
 induction l with
 | nil=>exact Nat.le_refl _
 |cons x l ih=>
  have h1:=h x (by simp);have h2:=ih λ y hy=>h y (by simp[hy])
  unfold wX at h2 ⊢;simp only[List.map_cons,List.sum_cons,List.length_cons];omega
theorem yh(h:zf s=true):s.l.length<=11:=by
 unfold zf at h;rw[Bool.and_eq_true] at h;have h1:=lenSum_le (zi s dot) λ x hx=>(XP (List.all_eq_true.1 h.1 x hx)).2
 rw[qr] at h1;have h2:=h.2;simp[cmpI] at h2;omega
theorem xK(h:zx s=true):s.l.length<=11:=by
 unfold zx at h;rw[Bool.or_eq_true] at h;rcases h with h | h
 ·rw[oD h];exact Nat.zero_le _
 ·exact yh h
def JS:List (List UInt8)->List UInt8
 | []=>[]
 | [a]=>a
 | a::b::l=>a++46::JS (b::l)
theorem zbc:∀ (l:List Str) (acc:List UInt8),(l.foldl XV (⟨acc⟩,true)).1=⟨acc++(l.map λ x=>46::x.l).flatten⟩
 | [],acc=>by simp
 |x::l,acc=>by
  rw[List.foldl_cons];show(l.foldl XV (⟨(acc++[46])++x.l⟩,true)).1=_;rw[zbc l];simp
theorem zbv(a:List UInt8)(l:List (List UInt8)):JS (a::l)=a++(l.map λ x=>46::x).flatten:=by
 induction l generalizing a with
 | nil=>simp[JS]
 | cons b l ih=>rw[JS,ih];simp
theorem Qf(l:List Str):join l=⟨JS (l.map (·.l))⟩:=by
 cases l with
 | nil=>rfl
 |cons x l=>unfold join Yg;rw[List.foldl_cons];show(l.foldl XV (⟨[]++x.l⟩,true)).1=_;rw[zbc,List.map_cons,zbv];simp[List.map_map,Function.comp_def]
theorem cutF_pre(c:UInt8):∀ (a l:List UInt8),c ∉ a->cutF c (a++c::l)=a::cutF c l
 | [],l,_=>by simp[cutF]
 |b::a,l,h=>by
  have hb:(b == c)=false:=by
   have:b≠c:=λ e=>h (by simp[e])
   simpa using this
  rw[List.cons_append,qa,hb,cutF_pre c a l (λ e=>h (by simp[e]))];rfl
theorem zad(c:UInt8):∀ (a:List UInt8),c ∉ a->cutF c a=[a]
 | [],_=>rfl
 |b::a,h=>by
  have hb:(b == c)=false:=by
   have:b≠c:=λ e=>h (by simp[e])
   simpa using this
  rw[qa,hb,zad c a (λ e=>h (by simp[e]))];rfl
theorem zed:∀ (l:List (List UInt8)),l≠[]->(∀ x∈l,(46:UInt8) ∉ x)->cutF 46 (JS l)=l
 | [],h,_=>absurd Z h
 | [a],_,h=>zad 46 a (h a (by simp))
 |a::b::l,_,h=>by
  rw[JS,cutF_pre 46 a _ (h a (by simp)),zed (b::l) (by simp) λ x hx=>h x (by simp[hx])]
theorem zbw:∀ (l:List UInt8),JS (cutF 46 l)=l
 | []=>rfl
 |b::l=>by
  rw[qa];cases hb:b == 46 with
  |true=>
   have ih:=zbw l;have hb:=eq_of_beq hb;rw[Ke Z];cases hc:cutF 46 l with
   | nil=>exact absurd hc (Zm 46 l)
   | cons h t=>rw[JS,← hc,ih,hb];rfl
  |false=>
   have ih:=zbw l;rw[Kf (by decide)];cases hc:cutF 46 l with
   | nil=>exact absurd hc (Zm 46 l)
   |cons h t=>rw[hc] at ih;show JS ((b::h)::t)=b::l;rw[zbv] at ih ⊢;rw[← ih];rfl
theorem Qg(s:Str):join (zi s dot)=s:=by
 rw[Qf,yE,List.map_map];show(⟨JS ((cutF 46 s.l).map λ x=>x)⟩:Str)=s;rw[List.map_id',zbw]
theorem low_ne{b:UInt8}(h:low b=true):b≠46:=by
 intro e;subst e;revert h;decide
theorem zbd(h:zC s=true):(46:UInt8) ∉ s.l:=by
 unfold zC at h;rw[Bool.and_eq_true] at h;intro hm;exact low_ne (List.all_eq_true.1 h.2 _ hm) Z
theorem zbx(hne:l≠[])(h:∀ x∈l,zC x=true):zi (join l) dot=l:=by
 rw[Qf,yE];show(cutF 46 (JS (l.map (·.l)))).map Str.mk=l;rw[zed _ (by simpa using hne) (by
  intro x hx;obtain⟨y,hy,rfl⟩:=List.mem_map.1 hx;exact zbd (h y hy)),List.map_map]
 show l.map (λ x=>x)=l;exact List.map_id' l
theorem zby(hne:l≠[])(hlen:l.length<=3)(h:∀ x∈l,zC x=true):zf (join l)=true:=by
 unfold zf;rw[zbx hne h,Bool.and_eq_true];exact⟨List.all_eq_true.2 h,by simp[cmpI];omega⟩
theorem y8(h:zf s=true):(∀ x∈zi s dot,zC x=true)/\(zi s dot).length<=3:=by
 unfold zf at h;rw[Bool.and_eq_true] at h;have:=h.2;simp[cmpI] at this;exact⟨List.all_eq_true.1 h.1,by omega⟩
theorem pre_valid(h:zf s=true)(k:Nat):zx (join ((zi s dot).take k))=true:=by
 obtain⟨h1,h2⟩:=y8 h;unfold zx;cases k with
 | zero=>rfl
 |succ k=>have hne:=XW s dot;rw[zby (by intro e;have:=congrArg List.length e;simp at this;rw[this] at hne;simp at hne) (by simp;omega) λ x hx=>h1 x (List.mem_of_mem_take hx),Bool.or_true]
theorem zee(h:zf s=true)(k:Nat):zf (join ((zi s dot).take (k+1)))=true:=by
 obtain⟨h1,h2⟩:=y8 h;have hne:=XW s dot;exact zby (by intro e;have:=congrArg List.length e;simp at this;rw[this] at hne;simp at hne) (by simp;omega) λ x hx=>h1 x (List.mem_of_mem_take hx)
theorem zef(hx:l[k]?=some x)(h:∀ x∈l,zC x=true):join (l.take (k+1))=child (join (l.take k)) x:=by
 have hk:=zH hx;unfold join;cases k with
 |zero=>rw[zay hx Z];rfl
 |succ k=>
  rw[zbO hx (by simp[cmpI])];unfold child;rw[Kf];intro e;have hne:l.take (k+1)≠[]:=by intro e;have:=congrArg List.length e;simp at this;subst this;simp at hk
  have hs:=zbx hne λ y hy=>h y (List.mem_of_mem_take hy)
  unfold join at hs;rw[e] at hs;have h0:zC emptyS=true:=h _ (List.mem_of_mem_take (by rw[← hs];simp[zi,xM,emptyS]));exact absurd h0 (by decide)
def okKind(s:Spec):Prop:=s.kind=0\/s.kind=1\/s.kind=2\/s.kind=3
theorem Qh(t:List File)(p s:Str):∀ (rs acc:List Int),okKind (wI t p s acc rs)
 |[],acc=>by
  unfold wI;split
  ·exact .inr (.inr (.inr Z))
  ·exact .inl Z
 |r::rs,acc=>by
  unfold wI;split
  ·exact .inr (.inr (.inl Z))
  ·split
   ·exact .inr (.inl Z)
   ·exact Qh t p s rs _
theorem dir_of_init{t:List File}{c:Str}(hc:c≠emptyS)(h:cmpI .geq (xt t ⟨r,c,⟨[]⟩,true,0,[]⟩) 0=true):Xe t r c=true:=by
 unfold xt at h;rw[JR,List.any_eq_true] at h;obtain⟨f,hf,hs⟩:=h;unfold ww at hs;simp only[Bool.and_eq_true,beq_iff_eq,decide_eq_true_eq] at hs;obtain⟨⟨⟨h1,h2⟩,_⟩,_⟩:=hs;unfold Xe;rw[Bool.or_eq_true,List.any_eq_true];refine .inl ⟨f,hf,?_⟩;unfold QP under;simp[h1,h2,hc]
theorem find_eq(ht:Good t)(hr:roots.length<=1048576)(hp:zx p=true)(hs:zC s=true)(hc:zf (child p s)=true):Z5 t roots p s=some (ju t.files roots p s):=by
 have hpl:=xK hp;have hsl:=(XP hs).2;have hcl:=yh hc;have hne:=child_ne hc;have hcp:zx (child p s)=true:=by unfold zx;rw[hc,Bool.or_true]
 have he:Xt p s=child p s:=by unfold Xt;rw[hp,hs,hc];rfl
 unfold Z5;rw[WW (by omega),he,Kd,Kf (by simp only[decide_eq_true_eq];exact hne)];have hl:zR (λ s16=>jM t roots p s (child p s) s16) (Wb,[],(0:Int))=some (runL (λ _ (acc:List Int) r=>
   if cmpI .geq (xt t.files ⟨r,child p s,⟨[]⟩,true,0,[]⟩) 0=true then .inr (Sum.inr (⟨2,xt t.files ⟨r,child p s,⟨[]⟩,true,0,[]⟩,[r]⟩:Spec))
   else if cmpI .geq (xt t.files ⟨r,p,s,false,0,[]⟩) 0=true then .inr (Sum.inr (⟨1,xt t.files ⟨r,p,s,false,0,[]⟩,[]⟩:Spec))
   else .inl (if Xe t.files r (child p s)=true then acc++[r] else acc)) (λ acc=>Sum.inl (Wb,acc)) 0 [] roots):=by
  refine JP (σ:=List Int) roots (λ acc k=>(Wb,acc,(k:Int))) _ _ (λ k acc=>acc.length<=k) (λ k acc r hx hlt hi=>?_) (λ acc _=>?_) (Nat.le_refl 0) (by omega)
  ·have hst:jM t roots p s (child p s) (Wb,acc,(k:Int))=(if cmpI .geq (xt t.files ⟨r,child p s,⟨[]⟩,true,0,[]⟩) 0=true then some (.inr (.inr (⟨2,xt t.files ⟨r,child p s,⟨[]⟩,true,0,[]⟩,[r]⟩:Spec)))
     else if cmpI .geq (xt t.files ⟨r,p,s,false,0,[]⟩) 0=true then some (.inr (.inr (⟨1,xt t.files ⟨r,p,s,false,0,[]⟩,[]⟩:Spec)))
     else some (.inl (Wb,(if Xe t.files r (child p s)=true then acc++[r] else acc),((k+1:Nat):Int)))):=by
    unfold jM;simp only;rw[zM,Ke (decide_eq_true hlt),zO,hx,Kd,Kd,fileAt_eq ht.len,Kd,Bool.true_and,fileAt_eq ht.len,Kd,Bool.true_and,hasDir_eq ht.sm ht.pkg hcp (by omega),zT (by omega)];rw[xW,Kd,xp (by simp;omega) (by simp;omega)];generalize cmpI .geq (xt t.files ⟨r,child p s,⟨[]⟩,true,0,[]⟩) 0=b1;generalize cmpI .geq (xt t.files ⟨r,p,s,false,0,[]⟩) 0=b2;generalize Xe t.files r (child p s)=b3;cases b1 <;> cases b2 <;> cases b3 <;> rfl
   cases h1:cmpI .geq (xt t.files ⟨r,child p s,⟨[]⟩,true,0,[]⟩) 0 with
   | true=>rw[h1] at hst;exact hst
   |false=>
    rw[h1] at hst;rw[Kf (by decide)] at hst ⊢;cases h2:cmpI .geq (xt t.files ⟨r,p,s,false,0,[]⟩) 0 with
    | true=>rw[h2] at hst;exact hst
    |false=>
     rw[h2] at hst;rw[Kf (by decide)] at hst ⊢;refine⟨hst,?_⟩;split
     ·simp;omega
     ·omega
  ·unfold jM;simp only;rw[zM,Kf (by simp)]
 rw[hl,Kd];unfold ju;have key:∀ (rs:List Int) (k:Nat) (acc:List Int),Sum.elim (λ b14:Spec×List Int=>if(cmpI .gtr (b14.2.length:Int) (0:Int))=true then(some (⟨(3:Int),(-1:Int),b14.2⟩:Spec)) else((ja).bind λ v75=>some v75)) some (runL (λ _ (acc:List Int) r=>
   if cmpI .geq (xt t.files ⟨r,child p s,⟨[]⟩,true,0,[]⟩) 0=true then .inr (Sum.inr (⟨2,xt t.files ⟨r,child p s,⟨[]⟩,true,0,[]⟩,[r]⟩:Spec))
   else if cmpI .geq (xt t.files ⟨r,p,s,false,0,[]⟩) 0=true then .inr (Sum.inr (⟨1,xt t.files ⟨r,p,s,false,0,[]⟩,[]⟩:Spec))
   else .inl (if Xe t.files r (child p s)=true then acc++[r] else acc)) (λ acc=>Sum.inl (Wb,acc)) k acc rs)=some (wI t.files p s acc rs):=by
  intro rs
  induction rs with
  |nil=>intro k acc;unfold wI;simp only[runL,Sum.elim_inl];split <;> rfl
  |cons r rs ih=>
   intro k acc;unfold wI;rw[runL];cases h1:cmpI .geq (xt t.files ⟨r,child p s,⟨[]⟩,true,0,[]⟩) 0 with
   | true=>rw[dir_of_init hne h1];rfl
   |false=>
    rw[Bool.and_false];cases h2:cmpI .geq (xt t.files ⟨r,p,s,false,0,[]⟩) 0 with
    | true=>rfl
    | false=>exact ih _ _
 exact key roots 0 []
theorem kind_two{s:Spec}(h:okKind s):(cmpI .eql s.kind 0||cmpI .eql s.kind 1)=(cmpI .neq s.kind 2&&cmpI .neq s.kind 3):=by
 rcases h with h | h | h | h <;> rw[h] <;> rfl
theorem findName_eq(ht:Good t)(hp:path.length<=1048576){n:Str}(hn:zf n=true):YM t path n=some (find t.files path n):=by
 have hnl:=yh hn;obtain⟨hparts,hlen⟩:=y8 hn;unfold YM;rw[zbu (by unfold sho;omega),hn,Ke Z,Kd];have hl:zR (λ s11=>jN t (zi n dot) s11) (Wb,(⟨(3:Int),(-1:Int),path⟩:Spec),(⟨[]⟩:Str),(0:Int))=some (runL (λ k (out:Spec) x=>
   if(cmpI .neq out.kind 2&&cmpI .neq out.kind 3)=true then .inr (Sum.inr X5) else .inl (ju t.files out.roots (join ((zi n dot).take k)) x)) (λ out=>Sum.inl (Wb,out)) 0 ⟨3,-1,path⟩ (zi n dot)):=by
  refine JP (σ:=Spec) (zi n dot) (λ out k=>(Wb,out,join ((zi n dot).take k),(k:Int))) _ _ (λ k out=>out.roots.length<=path.length/\okKind out) (λ k out x hx hlt hi=>?_) (λ out _=>?_) ⟨Nat.le_refl _,.inr (.inr (.inr Z))⟩ (by omega)
  ·have hpre:=pre_valid hn k;have hxv:=hparts x (List.mem_of_getElem? hx);have hch:=zef hx hparts;have hcv:=zee hn k;rw[hch] at hcv;have hst:jN t (zi n dot) (Wb,out,join ((zi n dot).take k),(k:Int))=(if(cmpI .neq out.kind 2&&cmpI .neq out.kind 3)=true then some (.inr (.inr X5)) else some (.inl (Wb,ju t.files out.roots (join ((zi n dot).take k)) x,join ((zi n dot).take (k+1)),((k+1:Nat):Int)))):=by
    unfold jN;simp only;have hlp:=xK hpre;have hlx:=(XP hxv).2;have he:Xt (join ((zi n dot).take k)) x=child (join ((zi n dot).take k)) x:=by unfold Xt;rw[hpre,hxv,hcv];rfl
    rw[zM,Ke (decide_eq_true hlt),zO,hx,Kd,kind_two hi.2,find_eq ht (by omega) hpre hxv hcv,Kd,WW (by omega),Kd,he,zT (by omega),Kd,hch];rfl
   rw[hst];cases hk:(cmpI .neq out.kind 2&&cmpI .neq out.kind 3) with
   | true=>rfl
   |false=>refine⟨Z,?_,Qh _ _ _ _ _⟩;have:=W4 t.files (join ((zi n dot).take k)) x out.roots [];unfold ju;simp only[List.length_nil] at this;omega
  ·unfold jN;simp only;rw[zM,Kf (by simp)]
 rw[hl,Kd];unfold find;have key:∀ (xs:List Str) (k:Nat) (out:Spec),Sum.elim (λ b7:Spec×Spec=>some b7.2) some (runL (λ k (out:Spec) x=>
   if(cmpI .neq out.kind 2&&cmpI .neq out.kind 3)=true then .inr (Sum.inr X5) else .inl (ju t.files out.roots (join ((zi n dot).take k)) x)) (λ out=>Sum.inl (Wb,out)) k out xs)=some (qS t.files (zi n dot) k out xs):=by
  intro xs
  induction xs with
  | nil=>intro k out;rfl
  |cons x xs ih=>
   intro k out;rw[runL];unfold qS;cases(cmpI .neq out.kind 2&&cmpI .neq out.kind 3) with
   | true=>rfl
   | false=>exact ih _ _
 exact key _ 0 _
def Wa(t:Tree)(path:List Int)(n:Str):Spec:=if(zD t&&yW path&&zf n)=true then find t.files path n else X5
theorem zdt(ht:wi t)(hp:path.length<=1048576){n:Str}(hn:sho n):jl t path n=some (Wa t path n):=by
 unfold jl;rw[Yo ht,Kd,Qe hp,xW,Kd,xm hn,xW,Kd];unfold Wa;cases hv:zD t with
 | false=>rfl
 |true=>
  cases yW path with
  | false=>rfl
  |true=>
   cases hnn:zf n with
   | false=>rfl
   |true=>rw[findName_eq ⟨ht,hv⟩ hp hnn];rfl
theorem CanFind_eq(ht:wi t)(hp:path.length<=1048576){n:Str}(hn:sho n):Z6 t path n=some (cmpI .neq (Wa t path n).kind 0):=by
 unfold Z6;rw[zdt ht hp hn,Kd]
theorem zdu(c:UInt8):∀ (a l:List UInt8),cutF c (a++c::l)=cutF c a++cutF c l
 | [],l=>by simp[cutF]
 |b::a,l=>by
  rw[List.cons_append,qa,zdu c a l,qa];cases b == c with
  | true=>rfl
  |false=>
   rw[Kf (by decide),Kf (by decide)];cases hc:cutF c a with
   | nil=>exact absurd hc (Zm c a)
   | cons h t=>rfl
theorem Qi(p s:Str):zi ⟨(p.l++[46])++s.l⟩ dot=zi p dot++zi s dot:=by
 rw[yE,yE,yE,← List.map_append];show(cutF 46 ((p.l++[46])++s.l)).map Str.mk=(cutF 46 p.l++cutF 46 s.l).map Str.mk;rw[List.append_assoc,List.singleton_append,zdu]
theorem aboveRun_app(l m:List Str)(hk:k<=l.length):jJ (l++m) k=jJ l k:=by
 unfold jJ;refine List.map_congr_left λ i hi=>?_
 have:=List.mem_range.1 hi;rw[List.take_append_of_le_length (by omega)]
theorem above_app(h:x∈x8 p):x∈x8 ⟨(p.l++[46])++s.l⟩:=by
 unfold x8 at h ⊢;rw[Qi,List.length_append];unfold jJ at h ⊢;obtain⟨i,hi,rfl⟩:=List.mem_map.1 h;have:=List.mem_range.1 hi;exact List.mem_map.2 ⟨i,List.mem_range.2 (by omega),by rw[List.take_append_of_le_length (by omega)]⟩
theorem above_self(s:Str):s∈x8 s:=by
 unfold x8 jJ;have hne:=XW s dot;refine List.mem_map.2 ⟨(zi s dot).length - 1,List.mem_range.2 (by omega),?_⟩;rw[show(zi s dot).length - 1+1=(zi s dot).length by omega,List.take_length,Qg]
theorem above_module{f:File}(hp:f.pkg≠emptyS)(h:x∈x8 f.pkg):x∈x8 (zQ f):=by
 unfold zQ;split
 ·exact h
 ·unfold child;rw[Kf hp];exact above_app h
theorem zdv:zbP l s=true ↔ s∈l:=by
 unfold zbP textAt;rw[JR,List.any_eq_true];constructor
 ·rintro ⟨x,hx,h⟩;rw[← oD h];exact hx
 ·intro h;exact⟨s,h,by simp⟩
theorem insertT_iff:x∈xS l s ↔ x∈l\/x=s:=by
 refine⟨zdn,λ h=>?_⟩;unfold xS;split
 ·rename_i hc;rcases h with h | h
  ·exact h
  ·rw[h];exact zdv.1 hc
 ·rcases h with h | h
  ·simp only[List.mem_append,List.mem_singleton];have:=List.take_append_drop (jK l s l.length) l;rw[← this,List.mem_append] at h;rcases h with h | h
   ·exact .inl (.inl h)
   ·exact .inr h
  ·simp[h]
theorem insertAll_iff:x∈m.foldl xS l ↔ x∈l\/x∈m:=by
 induction m generalizing l with
 | nil=>simp
 | cons y m ih=>rw[List.foldl_cons,ih,insertT_iff,List.mem_cons,or_assoc]
theorem names_iff:x∈names t ↔ ∃ f∈t.files,x∈x8 (zQ f):=by
 have key:∀ (l:List File) (out:List Str),x∈l.foldl (λ out f=>(x8 (zQ f)).foldl xS out) out ↔ x∈out\/∃ f∈l,x∈x8 (zQ f):=by
  intro l
  induction l with
  | nil=>intro out;simp
  | cons f l ih=>intro out;rw[List.foldl_cons,ih,insertAll_iff];simp[or_assoc]
 unfold names qR;rw[key];simp
theorem zbe{t:List File}{list:List Str}:∀ (xs:List Str) (k:Nat) (out:Spec) (x:Str),qS t list k out (xs++[x])=X5\/∃ r,qS t list k out (xs++[x])=ju t r (join (list.take (k+xs.length))) x
 |[],k,out,x=>by
  rw[List.nil_append];unfold qS qS;split
  ·exact .inl Z
  ·exact .inr ⟨_,Z⟩
 |y::xs,k,out,x=>by
  rw[List.cons_append];unfold qS;split
  ·exact .inl Z
  ·have:=zbe (t:=t) (list:=list) xs (k+1) (ju t out.roots (join (list.take k)) y) x;rwa[show k+1+xs.length=k+(y::xs).length by simp;omega] at this
theorem find_last{t:List File}{n:Str}(hn:zf n=true):find t path n=X5\/∃ r p s,find t path n=ju t r p s/\child p s=n:=by
 obtain⟨hparts,_⟩:=y8 hn;have hne:=XW n dot;obtain⟨xs,x,hxs⟩:∃ xs x,zi n dot=xs++[x]:=by
  have h0:zi n dot≠[]:=by intro e;rw[e] at hne;simp at hne
  exact⟨_,_,(List.dropLast_concat_getLast h0).symm⟩
 unfold find;have hg:(zi n dot)[xs.length]?=some x:=by rw[hxs];simp
 have hj:=zef hg hparts;rw[show xs.length+1=(zi n dot).length by rw[hxs];simp,List.take_length,Qg] at hj;have:=zbe (t:=t) (list:=zi n dot) xs 0 ⟨3,-1,path⟩ x;rw[← hxs,Nat.zero_add] at this;rcases this with h | ⟨r,h⟩
 ·exact .inl h
 ·exact .inr ⟨r,_,_,h,hj.symm⟩
theorem bytesLt:∀ (x y:List UInt8),Op.bytesLess x y=decide (x<y)
 | [],[]=>by simp[Op.bytesLess]
 | _::_,[]=>by simp[Op.bytesLess]
 | [],_::_=>by simp[Op.bytesLess]
 |a::x,b::y=>by
  rw[Op.bytesLess,bytesLt x y];simp only[List.cons_lt_cons_iff];by_cases h1:a<b <;> by_cases h2:a=b <;> by_cases h3:x<y <;> simp[h1,h2,h3]
def Asc(l:List Str):Prop:=l.Pairwise λ x y=>x.l<y.l
theorem asc_ext:∀ {l m:List Str},Asc l->Asc m->(∀ x,x∈l ↔ x∈m)->l=m
 | [],[],_,_,_=>rfl
 | [],b::m,_,_,h=>absurd ((h b).2 (by simp)) (by simp)
 | a::l,[],_,_,h=>absurd ((h a).1 (by simp)) (by simp)
 |a::l,b::m,hl,hm,h=>by
  rw[Asc,List.pairwise_cons] at hl hm;have hab:a=b:=by
   rcases List.mem_cons.1 ((h a).1 (by simp)) with e | e
   ·exact e
   ·rcases List.mem_cons.1 ((h b).2 (by simp)) with e2 | e2
    ·exact e2.symm
    ·exact absurd (List.lt_trans (hm.1 a e) (hl.1 b e2)) (List.lt_irrefl _)
  subst hab;rw[asc_ext hl.2 hm.2 λ x=>?_];constructor
  ·intro hx;rcases List.mem_cons.1 ((h x).1 (by simp[hx])) with e | e
   ·rw[e] at hx;exact absurd (hl.1 a hx) (List.lt_irrefl _)
   ·exact e
  ·intro hx;rcases List.mem_cons.1 ((h x).2 (by simp[hx])) with e | e
   ·rw[e] at hx;exact absurd (hm.1 a hx) (List.lt_irrefl _)
   ·exact e
theorem Ja{b:List UInt8}(h:a<=b)(hne:a≠b):a<b:=by
 rcases Decidable.em (a<b) with h' | h'
 ·exact h'
 ·exact absurd (List.le_antisymm h (List.not_lt.1 h')) hne
theorem zcp(d:Array (List UInt8))(hd:∀ i j,i<=j->j<d.size->d[i]! <= d[j]!):∀ m,m<=d.size->
  (Lib.compactUpTo d m).Pairwise (·<·)/\(∀ x,x∈Lib.compactUpTo d m ↔ ∃ j,j<m/\d[j]! = x)
 | 0,_=>⟨by simp[Lib.compactUpTo],λ x=>by simp[Lib.compactUpTo]⟩
 |m+1,hm=>by
  obtain⟨h1,h2⟩:=zcp d hd m (by omega);rw[Lib.compactUpTo_succ];cases hk:Lib.keeps d m with
  |true=>
   rw[Ke Z];refine⟨List.pairwise_append.2 ⟨h1,by simp,λ a ha b hb=>?_⟩,λ x=>?_⟩
   ·rw[List.mem_singleton] at hb;subst hb;obtain⟨j,hj,rfl⟩:=(h2 a).1 ha;have hk':m=0\/d[m]! ≠ d[m - 1]! := oD hk;rcases hk' with e | e
    ·omega
    ·have hlt:=Ja (hd (m - 1) m (by omega) (by omega)) (Ne.symm e);rcases Decidable.em (d[j]! = d[m - 1]!) with e2 | e2
     ·rw[e2];exact hlt
     ·exact List.lt_trans (Ja (hd j (m - 1) (by omega) (by omega)) e2) hlt
   ·rw[List.mem_append,h2,List.mem_singleton];constructor
    ·rintro (⟨j,hj,h⟩ | h)
     ·exact⟨j,by omega,h⟩
     ·exact⟨m,by omega,h.symm⟩
    ·rintro ⟨j,hj,h⟩
     by_cases hjm:j=m
     ·subst hjm;exact .inr h.symm
     ·exact .inl ⟨j,by omega,h⟩
  |false=>
   rw[Kf (by decide),List.append_nil];refine⟨h1,λ x=>?_⟩;rw[h2];have hk':¬ (m=0\/d[m]! ≠ d[m - 1]!):=of_decide_eq_false hk;constructor
   ·rintro ⟨j,hj,h⟩;exact⟨j,by omega,h⟩
   ·rintro ⟨j,hj,h⟩
    by_cases hjm:j=m
    ·subst hjm;refine⟨j - 1,by omega,?_⟩;rw[← h];exact(Decidable.byContradiction λ e=>hk' (.inr (Ne.symm e)))
    ·exact⟨j,by omega,h⟩
def Yp(xs:List Str):List Str:=Zr (JD xs)
theorem le_dec_trans(a b c:List UInt8)(h1:decide (a<=b)=true)(h2:decide (b<=c)=true):decide (a<=c)=true:=
 decide_eq_true (List.le_trans (oD h1) (oD h2))
theorem le_dec_total(a b:List UInt8):(decide (a<=b)||decide (b<=a))=true:=by
 rcases List.le_total a b with h | h <;> simp[h]
theorem Qj(xs:List Str):Asc (Yp xs)/\∀ x,x∈Yp xs ↔ x∈xs:=by
 have hs:=List.pairwise_mergeSort (le:=λ x y:List UInt8=>decide (x<=y)) le_dec_trans le_dec_total (xs.map (·.l));have hm:∀ y,y∈(xs.map (·.l)).mergeSort (λ x y=>decide (x<=y)) ↔ y∈xs.map (·.l):=λ y=>List.mem_mergeSort
 unfold Yp Zr;rw[sortS_l];generalize (xs.map (·.l)).mergeSort (λ x y=>decide (x<=y))=zs at hs hm;have hd:∀ i j,i<=j->j<zs.toArray.size->zs.toArray[i]! <= zs.toArray[j]! := by
  intro i j hij hj;have hj':j<zs.length:=by simpa using hj
  by_cases e:i=j
  ·subst e;exact List.le_refl _
  ·have:=List.pairwise_iff_getElem.1 hs i j (by omega) hj' (by omega);simpa[getElem!_pos,hj',show i<zs.length by omega] using this
 obtain⟨h1,h2⟩:=zcp zs.toArray hd zs.length (by simp);refine⟨?_,λ x=>?_⟩
 ·unfold Asc Lib.compact;rw[List.pairwise_map];exact h1
 ·have hmem:∀ y,y∈Lib.compact zs ↔ y∈xs.map (·.l):=by
   intro y;rw[← hm];unfold Lib.compact;rw[h2];constructor
   ·rintro ⟨j,hj,rfl⟩
    rw[show zs.toArray[j]! = zs[j] from by simp[getElem!_pos,hj]];exact List.getElem_mem hj
   ·intro hy;obtain⟨j,hj,rfl⟩:=List.mem_iff_getElem.1 hy;exact⟨j,hj,by simp[getElem!_pos,hj]⟩
  rw[List.mem_map];constructor
  ·rintro ⟨y,hy,rfl⟩
   obtain⟨z,hz,rfl⟩:=List.mem_map.1 ((hmem y).1 hy);exact hz
  ·intro hx;exact⟨x.l,(hmem _).2 (List.mem_map.2 ⟨x,hx,Z⟩),Z⟩
theorem zae(xs:List Str):(Yp xs).length<=xs.length:=by
 unfold Yp Zr;rw[List.length_map,sortS_l];refine Nat.le_trans (Lib.compact_length_le _) ?_;simp
theorem Wt{xs:List Str}(h:xs.length<=1099511627776:=by simp):ZF xs=some (Yp xs):=by
 have h2:=zae xs;unfold ZF wt;rw[Ke (by omega),Kd];unfold xE;rw[Ke (by rw[zcP];omega),Kd];show(appO 16 [] (Yp xs)).bind (λ v11=>some v11)=_;rw[xp (by simp;omega) (by simp;omega)];rfl
theorem gtr_lt{y:Str}:cmpS .gtr x y=decide (y.l<x.l):=by
 show(!(Op.bytesLess x.l y.l||decide (x=y)))=_;rw[bytesLt];by_cases h:x=y
 ·subst h;simp[List.lt_irrefl]
 ·have hne:x.l≠y.l:=λ e=>h (by cases x;cases y;simp_all)
  by_cases h2:x.l<y.l
  ·have:¬ y.l<x.l:=λ h3=>List.lt_irrefl _ (List.lt_trans h2 h3)
   simp[h2,this]
  ·have:y.l<x.l:=Ja (List.not_lt.1 h2) (Ne.symm hne);simp[h,h2,this]
theorem insPos_le(l:List Str)(s:Str):∀ k,jK l s k<=k
 | 0=>Nat.le_refl _
 |k+1=>by
  unfold jK;split
  ·split
   ·have:=insPos_le l s k;omega
   ·exact Nat.le_refl _
  ·exact Nat.le_refl _
theorem zdw{l:List Str}{s:Str}:∀ k,k<=l.length->(∀ j y,l[j]?=some y->jK l s k<=j->j<k->s.l<y.l)/\(∀ y,0<jK l s k->l[jK l s k - 1]?=some y->¬ s.l<y.l)
 | 0,_=>⟨λ j _ _ _ h=>absurd h (by omega),λ _ h=>absurd h (by simp[jK])⟩
 |k+1,hk=>by
  have hx:l[k]?=some l[k]:=List.getElem?_eq_getElem (by omega);by_cases h:s.l<l[k].l
  ·have e:jK l s (k+1)=jK l s k:=by
    conv=>lhs;unfold jK
    rw[hx];simp only;rw[gtr_lt,Ke (decide_eq_true h)]
   rw[e];obtain⟨h1,h2⟩:=zdw (l:=l) (s:=s) k (by omega);refine⟨λ j y hj hj1 hj2=>?_,h2⟩;by_cases e:j=k
   ·subst e;rw[hx] at hj;injection hj with hj;rw[← hj];exact h
   ·exact h1 j y hj hj1 (by omega)
  ·have e:jK l s (k+1)=k+1:=by
    unfold jK;rw[hx];simp only;rw[gtr_lt,Kf (by simpa using h)]
   rw[e];refine⟨λ j _ _ h1 h2=>by omega,λ y _ hy=>?_⟩;rw[Nat.add_sub_cancel,hx] at hy;injection hy with hy;rw[← hy];exact h
theorem insertT_asc(hl:Asc l):Asc (xS l s):=by
 unfold xS;cases hc:zbP l s with
 | true=>exact hl
 |false=>
  rw[Kf (by decide)];have hns:s ∉ l:=λ h=>by rw[zdv.2 h] at hc;cases hc
  obtain⟨h1,h2⟩:=zdw (l:=l) (s:=s) l.length (Nat.le_refl _);have hle:=insPos_le l s l.length;generalize jK l s l.length=p at*;have hpw:=List.pairwise_iff_getElem.1 hl;have hlow:∀ a∈l.take p,a.l<s.l:=by
   intro a ha;obtain⟨i,hi,rfl⟩:=List.mem_take_iff_getElem.1 ha;have hp:=h2 l[p - 1] (by omega) (List.getElem?_eq_getElem (by omega));have hlt:l[p - 1].l<s.l:=Ja (List.not_lt.1 hp) λ e=>hns (by
    have:l[p - 1]=s:=by
     cases hq:l[p - 1] with
     | mk q=>rw[hq] at e;cases s;simp_all
    rw[← this];exact List.getElem_mem _)
   by_cases e:i=p - 1
   ·subst e;exact hlt
   ·exact List.lt_trans (hpw i (p - 1) (by omega) (by omega) (by omega)) hlt
  have hhigh:∀ b∈l.drop p,s.l<b.l:=by
   intro b hb;obtain⟨i,hi,rfl⟩:=List.mem_drop_iff_getElem.1 hb;exact h1 _ _ (List.getElem?_eq_getElem _) (by omega) (by omega)
  unfold Asc;rw[List.append_assoc,List.pairwise_append];refine⟨hl.sublist (List.take_sublist _ _),?_,λ a ha b hb=>?_⟩
  ·rw[List.singleton_append,List.pairwise_cons];exact⟨hhigh,hl.sublist (List.drop_sublist _ _)⟩
  ·rw[List.singleton_append,List.mem_cons] at hb;rcases hb with rfl | hb
   ·exact hlow a ha
   ·exact List.lt_trans (hlow a ha) (hhigh b hb)
theorem insertAll_asc(hl:Asc l):Asc (m.foldl xS l):=by
 induction m generalizing l with
 | nil=>exact hl
 | cons x m ih=>rw[List.foldl_cons];exact ih (insertT_asc hl)
theorem names_asc(t:Tree):Asc (names t):=by
 have key:∀ (l:List File) (out:List Str),Asc out->Asc (l.foldl (λ out f=>(x8 (zQ f)).foldl xS out) out):=by
  intro l
  induction l with
  | nil=>intro out h;exact h
  | cons f l ih=>intro out h;rw[List.foldl_cons];exact ih _ (insertAll_asc h)
 exact key _ _ List.Pairwise.nil
section
variable{S β:Type}
theorem XE{step:S->Option (S⊕β)}(n:Nat)(mk:Nat->S){b:β}(h:∀ k,k<n->step (mk k)=some (.inl (mk (k+1))))(hend:step (mk n)=some (.inr b))(hn:n<576460752303423488){s:S}(hs:s=mk 0):zR step s=some b:=by
 subst hs;have key:∀ m k,k+m=n->jp step (m+1) (mk k)=some b:=by
  intro m
  induction m with
  | zero=>intro k hk;rw[show k=n by omega];exact xn hend
  | succ m ih=>intro k hk;rw[Za (h k (by omega))];exact ih (k+1) (by omega)
 exact Zz (key n 0 (by omega)) (by omega)
end
theorem get_some{l:List α}(h:k<l.length):∃ x,l[k]?=some x/\x∈l:=⟨l[k],List.getElem?_eq_getElem h,List.getElem_mem h⟩
theorem libJoin(l:List (List UInt8)):Lib.join l [46]=JS l:=by
 cases l with
 | nil=>rfl
 |cons a l=>rw[zbv];rw[Lib.join_cons];rfl
theorem NamesAbove_eq(hs:sho s):ZP s=some (if zf s=true then x8 s else[]):=by
 unfold ZP;rw[zbu hs,Kd];cases hv:zf s with
 |false=>rw[Kf (by decide),Kf (by decide),show zR (λ s7=>wl s [] s7) ([],(0:Int))=some [] from XE (b:=[]) 0 (λ k=>(([]:List Str),(k:Int))) (λ k hk=>absurd hk (by omega)) (by unfold wl;simp only;rw[Kf (by decide)]) (by omega) Z];rfl
 |true=>
  obtain⟨hparts,hlen⟩:=y8 hv;have hnl:=yh hv;have hl:zR (λ s7=>wl s (zi s dot) s7) ([],(0:Int))=some (x8 s):=by
   refine XE (b:=x8 s) (zi s dot).length (λ k=>(jJ (zi s dot) k,(k:Int))) (λ k hk=>?_) (by unfold wl;simp only;rw[zM,Kf (by simp)];rfl) (by omega) Z;unfold wl;simp only;have hj:yX ((zi s dot).take (k+1)) (⟨[46]⟩:Str)=some (join ((zi s dot).take (k+1))):=by
    have hb:=join_le (zi s dot) (k+1);rw[qr] at hb;have e:(⟨Lib.join (((zi s dot).take (k+1)).map (·.l)) [46]⟩:Str)=join ((zi s dot).take (k+1)):=by rw[libJoin,Qf]
    unfold yX;rw[Ke ⟨by simp;omega,by
     have:=congrArg (λ x:Str=>x.l.length) e;simp only at this;rw[this];omega⟩]
    exact congrArg some e
   rw[zM,Ke (decide_eq_true hk),zbu hs,hv,Ke Z,Kd,zT (by omega),Kd,zaD (by omega),Kd,hj,Kd,xp (by simp[Xd];omega) (by simp[Xd];omega),Kd,Kd,Jh]
  rw[Ke Z,Ke Z,hl];rfl
theorem YK(h:zD t=true):t.files.length<=12:=by
 unfold zD at h;rw[Bool.and_eq_true] at h;have:=h.2;simp[cmpI] at this;omega
theorem above_len(s:Str):(x8 s).length=(zi s dot).length:=Xd _ _
theorem above_valid(h:zf s=true)(hx:x∈x8 s):zf x=true:=by
 unfold x8 jJ at hx;obtain⟨i,_,rfl⟩:=List.mem_map.1 hx;exact zee h i
def modOf(f:File):Str:=if yw f=true then zQ f else emptyS
def Yw(f:File):List Str:=if zf f.pkg=true then x8 f.pkg else[]
theorem zeg(f:File):(Yw f).length<=3:=by
 unfold Yw;split
 ·rename_i h;rw[above_len];exact(y8 h).2
 ·exact Nat.zero_le _
theorem flat_len(l:List File):(l.flatMap Yw).length<=3*l.length:=by
 induction l with
 | nil=>exact Nat.le_refl _
 | cons f l ih=>have:=zeg f;rw[List.flatMap_cons,List.length_append,List.length_cons];omega
theorem zaf:Yp []=[]:=by unfold Yp;rw[zcQ,compactS_nil]
theorem ModulesOf_eq(ht:wi t):Yk t=some (if zD t=true then Yp (t.files.map modOf) else[]):=by
 unfold Yk;rw[Yo ht,Kd];cases hv:zD t with
 |false=>rw[Kf (by decide),Kf (by decide),Kd,Wt,Kd,zaf]
 |true=>
  have hlen:=YK hv;have hl:zR (λ s10=>qM t s10) ([],(0:Int))=some (t.files.map modOf):=by
   refine XE (b:=t.files.map modOf) t.files.length (λ k=>((t.files.take k).map modOf,(k:Int))) (λ k hk=>?_) (by unfold qM;simp only;rw[zM,Kf (by simp),List.take_length]) (by omega) Z;obtain⟨f,hf,hm⟩:=get_some hk;unfold qM;simp only;rw[zM,Ke (decide_eq_true hk),zO,hf,Kd,ModuleOf_eq (ht.2 f hm),Kd,xp (by simp;omega) (by simp;omega),Kd,zT (by omega),Kd,map_next hf];rfl
  rw[Ke Z,Ke Z,hl];rw[Kd,Wt (h:=(by simp;omega)),Kd]
theorem PackagesOf_eq(ht:wi t):ZQ t=some (if zD t=true then Yp (t.files.flatMap Yw) else[]):=by
 unfold ZQ;rw[Yo ht,Kd];cases hv:zD t with
 |false=>rw[Kf (by decide),Kf (by decide),Kd,Wt,Kd,zaf]
 |true=>
  have hlen:=YK hv;have hl:zR (λ s10=>qh t s10) ([],(0:Int))=some (t.files.flatMap Yw):=by
   refine XE (b:=t.files.flatMap Yw) t.files.length (λ k=>((t.files.take k).flatMap Yw,(k:Int))) (λ k hk=>?_) (by unfold qh;simp only;rw[zM,Kf (by simp),List.take_length]) (by omega) Z;obtain⟨f,hf,hm⟩:=get_some hk;have h1:=flat_len (t.files.take k);have h2:=zeg f;rw[List.length_take] at h1;unfold qh;simp only;rw[zM,Ke (decide_eq_true hk),zO,hf,Kd,NamesAbove_eq (ht.2 f hm).shop,Kd];show(appO 16 ((t.files.take k).flatMap Yw) (Yw f)).bind _=_;rw[xp (by omega) (by omega),Kd,zT (by omega),Kd,List.take_add_one,hf,List.flatMap_append];simp
  rw[Ke Z,Ke Z,hl];have:=flat_len t.files;rw[Kd,Wt (h:=(by omega)),Kd]
theorem zag(h:zC s=true):zi s dot=[s]:=by
 rw[yE];show(cutF 46 s.l).map Str.mk=[s];rw[zad 46 s.l (zbd h)];rfl
theorem Jt{f:File}(h:yw f=true)(x:Str):x∈x8 (zQ f) ↔ x=modOf f\/x∈Yw f:=by
 have hp:=XO h;have hm:modOf f=zQ f:=Ke h;rw[hm];unfold zx at hp;by_cases he:f.pkg=emptyS
 ·have h0:Yw f=[]:=by unfold Yw;rw[he,qb];rfl
  rw[h0];have hone:x8 (zQ f)=[zQ f]:=by
   have hpart:zC (zQ f)=true:=by
    unfold yw at h;split at h
    ·cases h
    ·cases hi:f.init with
     | true=>rw[hi,Ke Z] at h;simp[he] at h
     |false=>rw[hi,Kf (by decide),Bool.and_eq_true] at h;unfold zQ child;rw[hi,Kf (by decide),Ke he];exact h.1
   unfold x8;rw[zag hpart];show[join [zQ f]]=[zQ f];rw[Qf];rfl
  rw[hone];simp
 ·have hn:zf f.pkg=true:=by simpa[he] using hp
  have h0:Yw f=x8 f.pkg:=by unfold Yw;rw[Ke hn]
  rw[h0];constructor
  ·intro hx;unfold yw at h;split at h
   ·cases h
   ·cases hi:f.init with
    |true=>unfold zQ at hx;rw[hi,Ke Z] at hx;exact .inr hx
    |false=>
     rw[hi,Kf (by decide),Bool.and_eq_true] at h;have hmod:zQ f=⟨(f.pkg.l++[46])++f.name.l⟩:=by unfold zQ child;rw[hi,Kf (by decide),Kf he]
     have hsp:zi (zQ f) dot=zi f.pkg dot++[f.name]:=by rw[hmod,Qi,zag h.1]
     unfold x8 at hx;rw[hsp,List.length_append,List.length_singleton,Jh,List.mem_append,List.mem_singleton,aboveRun_app _ _ (Nat.le_refl _)] at hx;rcases hx with hx | hx
     ·exact .inr hx
     ·left
      rw[hx,List.take_of_length_le (by simp),← hsp,Qg]
  ·rintro (hx | hx)
   ·rw[hx];exact above_self _
   ·exact above_module he hx
theorem allNames_eq(ht:wi t):YN t=some (if zD t=true then names t else[]):=by
 unfold YN;rw[ModulesOf_eq ht,Kd,PackagesOf_eq ht,Kd];cases hv:zD t with
 |false=>rw[Kf (by decide),Kf (by decide),Kf (by decide),xp (by simp) (by simp),Kd,Wt,Kd,List.append_nil,zaf]
 |true=>
  have hlen:=YK hv;have h1:=zae (t.files.map modOf);have h2:=zae (t.files.flatMap Yw);have h3:=flat_len t.files;rw[List.length_map] at h1;rw[Ke Z,Ke Z,Ke Z,xp (by omega) (by omega),Kd,Wt (h:=(by rw[List.length_append];omega)),Kd]
  congr 1
  obtain⟨ha,hm⟩:=Qj (Yp (t.files.map modOf)++Yp (t.files.flatMap Yw));refine asc_ext ha (names_asc t) λ x=>?_
  rw[hm,names_iff,List.mem_append,(Qj _).2,(Qj _).2,List.mem_map,List.mem_flatMap];constructor
  ·rintro (⟨f,hf,rfl⟩ | ⟨f,hf,hx⟩)
   ·exact⟨f,hf,(Jt (jS hv hf) _).2 (.inl Z)⟩
   ·exact⟨f,hf,(Jt (jS hv hf) _).2 (.inr hx)⟩
  ·rintro ⟨f,hf,hx⟩
   rcases(Jt (jS hv hf) _).1 hx with h | h
   ·exact .inl ⟨f,hf,h.symm⟩
   ·exact .inr ⟨f,hf,h⟩
theorem zah(hv:zD t=true)(hx:x∈names t):zf x=true:=by
 obtain⟨f,hf,h⟩:=names_iff.1 hx;exact above_valid (zbb (jS hv hf)) h
theorem wa(h:zf x=true):sho x:=by have:=yh h;unfold sho;omega
theorem FoundNames_eq(ht:wi t)(hp:path.length<=1048576):ZR t path=some (qt t path):=by
 unfold ZR qt;rw[allNames_eq ht,Kd];cases hv:zD t with
 |false=>rw[Kf (by decide),Ke (by rfl),show zR (λ s7=>wm t path [] s7) ([],(0:Int))=some [] from XE (b:=[]) 0 (λ k=>(([]:List Str),(k:Int))) (λ k hk=>absurd hk (by omega)) (by unfold wm;simp only;rw[Kf (by decide)]) (by omega) Z,Kd]
 |true=>
  have hlen:=zcL ht;have hl:zR (λ s7=>wm t path (names t) s7) ([],(0:Int))=some ((names t).filter λ n=>cmpI .neq (Wa t path n).kind 0):=by
   refine XE (b:=(names t).filter λ n=>cmpI .neq (Wa t path n).kind 0) (names t).length (λ k=>(((names t).take k).filter λ n=>cmpI .neq (Wa t path n).kind 0,(k:Int))) (λ k hk=>?_) (by unfold wm;simp only;rw[zM,Kf (by simp),List.take_length]) (by omega) Z;obtain⟨n,hn,hm⟩:=get_some hk;unfold wm;simp only;have hfl:(((names t).take k).filter λ n=>cmpI .neq (Wa t path n).kind 0).length<=(names t).length:=Nat.le_trans (List.length_filter_le _ _) (by rw[List.length_take];omega);rw[zM,Ke (decide_eq_true hk),zO,hn,Kd,CanFind_eq ht hp (wa (zah hv hm)),Kd,xp (by rw[List.length_singleton];omega) (by rw[List.length_singleton];omega),zT (by omega),QK hn];cases cmpI .neq (Wa t path n).kind 0 with
   | true=>rfl
   |false=>show some _=_;simp
  rw[Ke Z,hl];rw[Kd]
  congr 1
  cases hpv:yW path with
  |false=>
   rw[Ke (by rfl),List.filter_eq_nil_iff];intro x _;unfold Wa;rw[hv,hpv];simp only[Bool.and_false,Bool.false_and,Bool.false_eq_true,if_false]
   decide
  |true=>
   rw[Kf (by decide)];refine List.filter_congr λ x hx=>?_
   unfold Wa Xf;rw[hv,hpv,zah hv hx];rfl
theorem atI_file{l:List File}{n:Int}(h0:0<=n)(h:n<l.length):atI l n=some ((l[n.toNat]?).getD default):=by
 unfold atI;rw[Ke h0];exact get_def h0 h
open Go.RowKit
def Okd{α:Type}[Rep α](x:α):Prop:=∃ M w cs,Rep.rdc M w cs x
section
variable{α β:Type}[Rep α][Rep β]
theorem Okd.fld{get:α->β}(f:Fld get off){x:α}(h:Okd x):Okd (get x):=by
 obtain⟨M,w,cs,hr⟩:=h;obtain⟨c,_,h2⟩:=f.sub hr;exact⟨M,w,c,h2⟩
theorem Okd.str(h:Okd s):s.l.length<=9223372036854775807:=by
 obtain⟨M,w,cs,hr⟩:=h;exact hr.2
theorem Okd.len{xs:List α}(h:Okd xs):xs.length<=9223372036854775807:=by
 obtain⟨M,w,cs,A,c,_,h1,h2,_⟩:=h;exact Nat.le_trans h1 h2
theorem rowR_okd{M:Nat->Prop}{w:World}:∀ {cells:List Value} {xs:List α},rowR M w cells xs->∀ x∈xs,Okd x
 | _,_::_,⟨c,_r,_,h1,h2⟩,x,hx=>(List.mem_cons.1 hx).elim (λ e=>e ▸ ⟨M,w,c,h1⟩) (rowR_okd h2 x)
theorem Okd.mem{xs:List α}(h:Okd xs){x:α}(hx:x∈xs):Okd x:=by
 obtain⟨M,w,cs,A,c,_,_,_,h3⟩:=h;rcases h3 with h3 | ⟨b,o,cells,_,_,_,hr⟩
 ·rw[h3] at hx;cases hx
 ·exact rowR_okd hr x hx
theorem RdAll.okd{xs:List Dt}(hr:RdAll M w vs xs){x:α}(hx:dt x∈xs):Okd x:=by
 induction hr with
 | nil=>cases hx
 |cons h r ih=>
  rcases List.mem_cons.1 hx with e | hx
  ·rw[← e] at h;obtain⟨cs,h1,_⟩:=h;exact⟨M,w,cs,h1⟩
  ·exact ih hx
theorem Fn.okd{P:Program}{f:FuncId}{xs:List Dt}{y:Dt}{x:α}(hx:dt x∈xs)(h:Okd x->Fn P f xs y):Fn P f xs y:=λ M w vs hm hr=>h (hr.okd hx) M w vs hm hr
end
section
variable{α β σ S:Type}
theorem neq_len{m n:Nat}:cmpI .neq (m:Int) (n:Int)=!decide (m=n):=by
 by_cases h:m=n
 ·simp[cmpI,h]
 ·simp[cmpI,h];omega
theorem set_at{xs:List α}{z:α}(hk:k<xs.length):(xs.take k++List.replicate (xs.length - k) z).set k xs[k]=xs.take (k+1)++List.replicate (xs.length - (k+1)) z:=by
 rw[List.set_append_right _ _ (by rw[List.length_take];omega),List.length_take,Nat.min_eq_left (by omega),Nat.sub_self,show xs.length - k=(xs.length - (k+1))+1 by omega,List.replicate_succ,List.set_cons_zero,List.take_add_one,List.getElem?_eq_getElem hk];simp only[Option.toList_some,List.append_assoc,List.singleton_append]
theorem at_at{xs:List α}{z:α}(hk:k<xs.length):(xs.take k++List.replicate (xs.length - k) z)[k]?=some z:=by
 rw[List.getElem?_append_right (by rw[List.length_take];omega),List.length_take,Nat.min_eq_left (by omega),Nat.sub_self,List.getElem?_replicate,Ke (by omega)]
theorem len_at{xs:List α}{z:α}(hk:k<xs.length):k<(xs.take k++List.replicate (xs.length - k) z).length:=by
 rw[List.length_append,List.length_take,List.length_replicate];omega
theorem copy_loop{step:List α×Int->Option ((List α×Int)⊕List α)}(xs:List α)(z:α)
  (h:∀ k (hk:k<xs.length),step (xs.take k++List.replicate (xs.length - k) z,(k:Int))=some (.inl ((xs.take k++List.replicate (xs.length - k) z).set k xs[k],((k+1:Nat):Int))))
  (hend:∀ ys,step (ys,(xs.length:Int))=some (.inr ys)) (hlen:xs.length<576460752303423488) {s0:List α×Int} (h0:s0=(List.replicate xs.length z,0)):zR step s0=some xs:=by
 have key:∀ m k,k+m=xs.length->jp step (m+1) (xs.take k++List.replicate (xs.length - k) z,(k:Int))=some xs:=by
  intro m
  induction m with
  |zero=>
   intro k hk;have:k=xs.length:=by omega
   subst this;rw[xn (hend _)];simp
  |succ m ih=>
   intro k hk;have hlt:k<xs.length:=by omega
   rw[Za (h k hlt),set_at hlt];exact ih (k+1) (by omega)
 have h1:=key xs.length 0 (by omega);subst h0;exact Zz (by simpa using h1) (by omega)
theorem makeO_of{size bytes n:Nat}{z:α}(h1:n*size<=16777216)(h2:bytes*n<=281474976710656)(h3:n<=9223372036854775807):makeO size bytes (n:Int) z=some (List.replicate n z):=by
 unfold makeO;rw[Ke ⟨by omega,by simpa using h1,by simpa using h2,by omega⟩];simp
theorem eq_loop[DecidableEq α]{step:Int->Option (Int⊕(Unit⊕Bool))}(xs ys:List α)(hxy:xs.length=ys.length)
  (h:∀ k (hk:k<xs.length) (hk2:k<ys.length),step (k:Int)=some (if xs[k]=ys[k] then .inl ((k+1:Nat):Int) else .inr (.inr false)))
  (hend:step (xs.length:Int)=some (.inr (.inl ()))) (hlen:xs.length<576460752303423488):Option.bind (α:=Unit⊕Bool) (zR step 0) (Sum.elim (λ _=>some true) some)=some (decide (xs=ys)):=by
 have key:∀ m k,k+m=xs.length->xs.take k=ys.take k->∃ r,jp step (m+1) (k:Int)=some r/\(Sum.elim (λ _=>some true) some r:Option Bool)=some (decide (xs=ys)):=by
  intro m
  induction m with
  |zero=>
   intro k hk he;have:k=xs.length:=by omega
   subst this;refine⟨_,xn hend,?_⟩;rw[List.take_length,hxy,List.take_length] at he;simp[he]
  |succ m ih=>
   intro k hk he;have hlt:k<xs.length:=by omega
   have hlt2:k<ys.length:=by omega
   have hs:=h k hlt hlt2;by_cases e:xs[k]=ys[k]
   ·rw[Ke e] at hs;rw[Za hs];refine ih (k+1) (by omega) ?_;rw[List.take_add_one,List.take_add_one,he,List.getElem?_eq_getElem hlt,List.getElem?_eq_getElem hlt2,e]
   ·rw[Kf e] at hs;refine⟨_,xn hs,?_⟩;have:xs≠ys:=λ h=>by subst h;exact e Z
    simp[this]
 obtain⟨r,h1,h2⟩:=key xs.length 0 (by omega) Z;have h1':jp step (xs.length+1) (0:Int)=some r:=h1;rw[Zz h1' (by omega),Kd];exact h2
def szR(t:Nat)(left:Int):Int:=if(t:Int)<=left then left - t else -1
theorem szR_neg{t:Nat}{left:Int}:szR t left<0 ↔ left<t:=by unfold szR;split <;> omega
theorem szR_nn{t:Nat}{left:Int}(h:0<=szR t left):(t:Int)<=left/\szR t left=left - t:=by
 unfold szR at h ⊢;split at h
 ·rename_i h1;rw[Ke h1];exact⟨h1,Z⟩
 ·omega
def sumL(f:α->Nat):List α->Nat
 | []=>0
 | x::xs=>f x+sumL f xs
theorem sumL_mem{f:α->Nat}:∀ {xs:List α} {x:α},x∈xs->f x<=sumL f xs
 |y::ys,x,hx=>by
  unfold sumL;rcases List.mem_cons.1 hx with rfl | hx
  ·omega
  ·have:=sumL_mem (f:=f) hx;omega
theorem sumL_drop{f:α->Nat}{xs:List α}(hk:k<xs.length):sumL f (xs.drop k)=f xs[k]+sumL f (xs.drop (k+1)):=by
 rw[List.drop_eq_getElem_cons hk];rfl
theorem sz_loop{step:Int×Int->Option ((Int×Int)⊕(Int⊕Int))}(xs:List α)(f:α->Nat)
  (h:∀ k (hk:k<xs.length) (l:Int),0<=l->l<=1048576->step (l,(k:Int))=some (if szR (f xs[k]) l<0 then .inr (.inr (-1)) else .inl (szR (f xs[k]) l,((k+1:Nat):Int))))
  (hend:∀ l,step (l,(xs.length:Int))=some (.inr (.inl l))) (hlen:xs.length<576460752303423488)  (h0:0<=l0) (h1:l0<=1048576):
  Option.bind (α:=Int⊕Int) (zR step (l0,0)) (Sum.elim (λ l=>some l) some)=some (szR (sumL f xs) l0):=by
 have key:∀ m k l,k+m=xs.length->0<=l->l<=1048576->∃ r,jp step (m+1) (l,(k:Int))=some r/\(Sum.elim (λ l=>some l) some r:Option Int)=some (szR (sumL f (xs.drop k)) l):=by
  intro m
  induction m with
  |zero=>
   intro k l hk hl hl2;have:k=xs.length:=by omega
   subst this;refine⟨_,xn (hend l),?_⟩;rw[List.drop_length];show some l=some (szR 0 l)
   congr 1
   unfold szR;rw[Ke (by omega)];simp
  |succ m ih=>
   intro k l hk hl hl2;have hlt:k<xs.length:=by omega
   have hs:=h k hlt l hl hl2;rw[sumL_drop hlt];by_cases e:szR (f xs[k]) l<0
   ·rw[Ke e] at hs;refine⟨_,xn hs,?_⟩;show some (-1:Int)=_
    congr 1
    rw[szR_neg] at e;unfold szR;rw[Kf (by omega)]
   ·rw[Kf e] at hs;obtain⟨e1,e2⟩:=szR_nn (t:=f xs[k]) (left:=l) (by omega);obtain⟨r,r1,r2⟩:=ih (k+1) (szR (f xs[k]) l) (by omega) (by omega) (by omega);refine⟨r,by rw[Za hs];exact r1,?_⟩;rw[r2]
    congr 1
    rw[e2];unfold szR;by_cases e3:(sumL f (xs.drop (k+1)):Int)<=l - f xs[k]
    ·rw[Ke e3,Ke (by omega)];omega
    ·rw[Kf e3,Kf (by omega)]
 obtain⟨r,r1,r2⟩:=key xs.length 0 l0 (by omega) h0 h1;have r1':jp step (xs.length+1) (l0,(0:Int))=some r:=r1;rw[Zz r1' (by omega),Kd];simpa using r2
end
section
variable{α:Type}
theorem szS_list{step:Int×Int->Option ((Int×Int)⊕(Int⊕Int))}{xs:List α}{f:α->Nat}{l:Int}(hlen:xs.length<=9223372036854775807)
  (h:∀ k (hk:k<xs.length) (l:Int),xs.length<=1048576->0<=l->l<=1048576->step (l,(k:Int))=some (if szR (f xs[k]) l<0 then .inr (.inr (-1)) else .inl (szR (f xs[k]) l,((k+1:Nat):Int))))
  (hend:∀ l,step (l,(xs.length:Int))=some (.inr (.inl l))) (hl:0<=l) (h2:l<=1048576):
  ((i64 (l - (xs.length:Int))).bind λ v=>if cmpI .lss v (0:Int)=true then some (-1:Int) else Option.bind (α:=Int⊕Int) (zR step (v,(0:Int))) (Sum.elim (λ b=>some b) some))=some (szR (xs.length+sumL f xs) l):=by
 rw[qz (by omega) (by omega),Kd];cases hc:cmpI .lss (l - (xs.length:Int)) 0 with
 |true=>have h':l - (xs.length:Int)<0:=oD hc;rw[Ke Z];unfold szR;rw[Kf (by omega)]
 |false=>
  have h':¬ l - (xs.length:Int)<0:=of_decide_eq_false hc;rw[Kf (by decide),sz_loop xs f (λ k hk l h3 h4=>h k hk l (by omega) h3 h4) hend (by omega) (by omega) (by omega)]
  congr 1
  unfold szR;by_cases e:(sumL f xs:Int)<=l - xs.length
  ·rw[Ke e,Ke (by omega)];omega
  ·rw[Kf e,Kf (by omega)]
variable[Decidable q]
theorem eqS_list[DecidableEq α]{step:Int->Option (Int⊕(Unit⊕Bool))}{xs ys:List α}
  (h:∀ k (hk:k<xs.length) (hk2:k<ys.length),step (k:Int)=some (if xs[k]=ys[k] then .inl ((k+1:Nat):Int) else .inr (.inr false)))
  (hend:step (xs.length:Int)=some (.inr (.inl ()))) (hlen:xs.length<576460752303423488):
  (if cmpI .neq (xs.length:Int) (ys.length:Int)=true then some false else Option.bind (α:=Unit⊕Bool) (zR step 0) (Sum.elim (λ _=>some true) some))=some (decide (xs=ys)):=by
 rw[neq_len];by_cases e:xs.length=ys.length
 ·rw[Kf (by simp[e]),eq_loop xs ys e h hend hlen]
 ·rw[Ke (by simp[e])];have:xs≠ys:=λ h=>e (by rw[h])
  simp[this]
end
theorem i64_in{n:Int}(h1:0<=n)(h2:n<=4611686018427387904):i64 n=some n:=qz (by omega) (by omega)
theorem lss_at{xs:List α}(hk:k<xs.length):cmpI .lss (k:Int) (xs.length:Int)=true:=by rw[zM];exact decide_eq_true hk
theorem zcq{xs:List α}:cmpI .lss (xs.length:Int) (xs.length:Int)=false:=by rw[zM];simp
theorem zbz{xs:List α}(hk:k<xs.length):atI xs (k:Int)=some xs[k]:=by rw[zO,List.getElem?_eq_getElem hk]
theorem toNat_nat(k:Nat):(k:Int).toNat=k:=rfl
end Go.Proofs.YtbbfcjifihknnaaGreatDoor
