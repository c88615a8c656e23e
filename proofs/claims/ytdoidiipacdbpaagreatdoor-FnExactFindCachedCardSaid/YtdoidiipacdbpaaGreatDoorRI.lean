import Derived.Test.YtdoidiipacdbpaaGreatDoorRFb
import Derived.Test.YtdoidiipacdbpaaGreatDoorRB
import Derived.Test.YtdoidiipacdbpaaGreatDoorRG
import Derived.Test.YtdoidiipacdbpaaGreatDoorRKb
namespace Go.Proofs.YtdoidiipacdbpaaGreatDoor
section
variable{α β σ S:Type}
theorem zY(xs:List α)(k:Nat):atI xs (k:Int)=xs[k]?:=by simp[atI]
theorem ZT{n:Int}(h1:-9223372036854775808<=n)(h2:n<=9223372036854775807):i64 n=some n:=if_pos ⟨h1,h2⟩
theorem zH{k:Nat}(h:k<4611686018427387904):i64 ((k:Int)+1)=some ((k+1:Nat):Int):=by rw[ZT (by omega) (by omega)];rfl
theorem ya[Inhabited α](g:Bool)(x:α):gO g (some x)=some (if g=true then x else default):=by unfold gO;split <;> rfl
theorem Zw[Inhabited α](e:Option α):gO true e=e:=rfl
theorem gO_false[Inhabited α](e:Option α):gO false e=some default:=rfl
theorem zL(k n:Nat):cmpI .lss (k:Int) (n:Int)=decide (k<n):=by simp[cmpI]
theorem Zx{b:Nat}{xs ys:List α}(h:(xs.length+ys.length)*b<=140737488355328)(h2:xs.length+ys.length<=9223372036854775807):appO b xs ys=some (xs++ys):=if_pos ⟨h,h2⟩
theorem QC{s:Str}{k:Nat}(h:k<=s.l.length):cutHO s (k:Int)=some ⟨s.l.take k⟩:=by unfold cutHO;rw[if_pos ⟨by omega,by omega⟩];rfl
theorem QD{s:Str}{k:Nat}(h:k<=s.l.length):cutLO s (k:Int)=some ⟨s.l.drop k⟩:=by unfold cutLO;rw[if_pos ⟨by omega,by omega⟩];rfl
theorem WE{xs:List α}{k:Nat}(h:k<=xs.length):Xq xs (k:Int)=some (xs.take k):=by unfold Xq;rw[if_pos ⟨by omega,by omega⟩];rfl
theorem Xy{xs:List α}{k:Nat}{y:α}(h:k<xs.length):setO xs (k:Int) y=some (xs.set k y):=by unfold setO;rw[if_pos ⟨by omega,by omega⟩];rfl
theorem Yx{m n:Str}(h:m.l.length+n.l.length<=9223372036854775807):catO m n=some ⟨m.l++n.l⟩:=if_pos h
theorem qR{step:S->Option (S⊕β)}{s s':S}{n:Nat}(h:step s=some (.inl s')):wS step (n+1) s=wS step n s':=by rw[wS,h]
theorem wM{step:S->Option (S⊕β)}{s:S}{b:β}{n:Nat}(h:step s=some (.inr b)):wS step (n+1) s=some b:=by rw[wS,h]
theorem iterM_mono{step:S->Option (S⊕β)}{r:β}:∀ (m j:Nat) (s:S),wS step m s=some r->wS step (m+j) s=some r:=by
 intro m
 induction m with
 | zero=>intro j s h;simp[wS] at h
 |
  succ m ih=>
  intro j s h;rw[show m+1+j=(m+j)+1 by omega];unfold wS at h ⊢;split at h
  ·
   cases h
  ·
   exact ih j _ h
  ·
   exact h
theorem Zo{step:S->Option (S⊕β)}{r:β}{m:Nat}{s:S}(h:wS step m s=some r)(hm:m<=1152921504606846976):zJ step s=some r:=by
 unfold zJ;have:=iterM_mono m (1152921504606846976 - m) s h;rwa[show m+(1152921504606846976 - m)=1152921504606846976 by omega] at this
def runL(R:Nat->σ->α->σ⊕β)(fin:σ->β):Nat->σ->List α->β
 | _,s,[]=>fin s
 |
  k,s,x::xs=>match R k s x with
  | .inl s'=>runL R fin (k+1) s' xs
  | .inr b=>b
theorem Wq{step:S->Option (S⊕β)}(xs:List α)(mk:σ->Nat->S)(R:Nat->σ->α->σ⊕β)(fin:σ->β)(Inv:Nat->σ->Prop)
  (h:∀ k s x,xs[k]?=some x->k<xs.length->Inv k s->match R k s x with
   | .inl s'=>step (mk s k)=some (.inl (mk s' (k+1)))/\Inv (k+1) s'
   | .inr b=>step (mk s k)=some (.inr b))
  (hend:∀ s,Inv xs.length s->step (mk s xs.length)=some (.inr (fin s))) {s0:σ} (h0:Inv 0 s0) (hlen:xs.length<576460752303423488):zJ step (mk s0 0)=some (runL R fin 0 s0 xs):=by
 have key:∀ m k s,k+m=xs.length->Inv k s->wS step (m+1) (mk s k)=some (runL R fin k s (xs.drop k)):=by
  intro m
  induction m with
  |
   zero=>
   intro k s hk hi;have:k=xs.length:=by omega
   subst this;rw[List.drop_length,runL,wS,hend s hi]
  |
   succ m ih=>
   intro k s hk hi;have hlt:k<xs.length:=by omega
   have hx:xs[k]?=some xs[k]:=List.getElem?_eq_getElem hlt;rw[List.drop_eq_getElem_cons hlt,runL,wS];have hr:=h k s xs[k] hx hlt hi;cases e:R k s xs[k] with
   |
    inl s'=>
    rw[e] at hr;simp only at hr;rw[hr.1];exact ih (k+1) s' (by omega) hr.2
   |
    inr b=>
    rw[e] at hr;simp only at hr;rw[hr]
 exact Zo (key xs.length 0 s0 (by omega) h0) (by omega)
theorem loop_find{step:Int->Option (Int⊕β)}(xs:List α)(R:Nat->α->Option β)(e:β)
  (h:∀ k x,xs[k]?=some x->k<xs.length->step (k:Int)=some (match R k x with | none=>.inl ((k+1:Nat):Int) | some b=>.inr b))
  (hend:step (xs.length:Int)=some (.inr e)) (hlen:xs.length<576460752303423488) {s:Int} (hs:s=0):
  zJ step s=some (runL (λ k (_:Unit) x=>match R k x with | none=>.inl () | some b=>.inr b) (λ _=>e) 0 () xs):=by
 subst hs;refine Wq (σ:=Unit) xs (λ _ k=>(k:Int)) _ _ (λ _ _=>True) (λ k s x hx hlt _=>?_) (λ _ _=>hend) trivial hlen;have:=h k x hx hlt;cases hR:R k x with
 | none=>rw[hR] at this;exact⟨this,trivial⟩
 | some b=>rw[hR] at this;exact this
theorem runL_any(p:α->Bool)(b e:β):∀ (k:Nat) (xs:List α),runL (λ _ (_:Unit) x=>match (if p x=true then some b else none) with | none=>.inl () | some b=>.inr b) (λ _=>e) k () xs=if xs.any p=true then b else e
 | _,[]=>rfl
 |
  k,x::xs=>by
  cases h:p x with
  | true=>simp[runL,h]
  | false=>simp only[runL,h];rw[List.any_cons,h,Bool.false_or];exact runL_any p b e (k+1) xs
theorem Zp{step:Int->Option (Int⊕β)}(xs:List α)(p:α->Bool)(b e:β)
  (h:∀ k x,xs[k]?=some x->k<xs.length->step (k:Int)=some (if p x=true then .inr b else .inl ((k+1:Nat):Int)))
  (hend:step (xs.length:Int)=some (.inr e)) (hlen:xs.length<576460752303423488) {s:Int} (hs:s=0):
  zJ step s=some (if xs.any p=true then b else e):=by
 rw[loop_find xs (λ _ x=>if p x=true then some b else none) e (λ k x hx hlt=>?_) hend hlen hs,runL_any];rw[h k x hx hlt];cases p x <;> rfl
theorem runL_idx(p:α->Bool)(f:Int->β)(e:β):∀ (k:Nat) (xs:List α),runL (λ k (_:Unit) x=>match (if p x=true then some (f k) else none) with | none=>.inl () | some b=>.inr b) (λ _=>e) k () xs=(match xs.findIdx? p with | some i=>f ((k+i:Nat):Int) | none=>e)
 | _,[]=>rfl
 |
  k,x::xs=>by
  cases h:p x with
  | true=>simp[runL,h,List.findIdx?_cons]
  |
   false=>
   simp only[runL,h,List.findIdx?_cons,Bool.false_eq_true,if_false];rw[runL_idx p f e (k+1) xs];cases xs.findIdx? p with
   | none=>rfl
   | some i=>simp only[Option.map_some];congr 1;omega
theorem Xz{step:Int->Option (Int⊕β)}(xs:List α)(p:α->Bool)(f:Int->β)(e:β)
  (h:∀ k x,xs[k]?=some x->k<xs.length->step (k:Int)=some (if p x=true then .inr (f k) else .inl ((k+1:Nat):Int)))
  (hend:step (xs.length:Int)=some (.inr e)) (hlen:xs.length<576460752303423488) {s:Int} (hs:s=0):
  zJ step s=some (match xs.findIdx? p with | some i=>f (i:Int) | none=>e):=by
 rw[loop_find xs (λ k x=>if p x=true then some (f k) else none) e (λ k x hx hlt=>?_) hend hlen hs,runL_idx]
 ·
  cases xs.findIdx? p <;> simp
 ·
  rw[h k x hx hlt];cases p x <;> rfl
end
theorem Yy{s:Str}(hs:mid s):yt s=some (zN s):=by
 unfold mid at hs;have hl:zJ (λ s4=>xj s s4) 0=some (if s.l.any (λ b=>!low b)=true then .inr false else .inl ()):=by
  refine Zp s.l _ _ _ (λ k x hx hlt=>?_) ?_ (by omega) rfl
  ·
   unfold xj;rw[zL,if_pos (decide_eq_true hlt),zY,hx,obS,ya,obS,zH (by omega)];unfold low;generalize cmpB .lss x (UInt8.ofNat 97)=c1;cases c1 with
   | true=>rfl
   |
    false=>
    rw[if_pos (show(false == false)=true from rfl)];generalize cmpB .gtr x (UInt8.ofNat 122)=c2;cases c2 <;> rfl
  ·
   unfold xj;rw[zL,if_neg (by simp)]
 unfold yt;rw[hl,obS];unfold zN;cases h:s.l.any (λ b=>!low b) with
 |
  true=>
  have:s.l.all low=false:=by
   rw[Bool.eq_false_iff];intro h2;rw[List.any_eq_true] at h;obtain⟨b,hb,hb2⟩:=h;rw[List.all_eq_true.1 h2 b hb] at hb2;cases hb2
  simp[this]
 |
  false=>
  have:s.l.all low=true:=by
   rw[List.all_eq_true];intro b hb;have:=List.any_eq_false.1 h b hb;simpa using this
  simp only[Bool.false_eq_true,if_false,Sum.elim_inl,yc,obS,this,Bool.and_true,inR];simp[cmpI]
def cutF(c:UInt8):List UInt8->List (List UInt8)
 | []=>[[]]
 |
  b::l=>if b == c then[]::cutF c l else match cutF c l with
  | h::t=>(b::h)::t
  | []=>[[b]]
theorem WF(c b:UInt8)(l:List UInt8):cutF c (b::l)=if b == c then[]::cutF c l else match cutF c l with
  | h::t=>(b::h)::t
  | []=>[[b]]:=rfl
theorem Yz(c:UInt8):∀ l,cutF c l≠[]
 | []=>by simp[cutF]
 |
  b::l=>by
  unfold cutF;split
  ·
   simp
  ·
   split <;> simp
theorem Wr(c:UInt8):∀ l,(cutF c l).length=l.count c+1
 | []=>by simp[cutF]
 |
  b::l=>by
  unfold cutF;cases h:b == c with
  |
   true=>
   simp only[if_true,List.length_cons,Wr c l];rw[List.count_cons,h];simp
  |
   false=>
   simp only[Bool.false_eq_true,if_false];rw[List.count_cons,h];simp only[Bool.false_eq_true,if_false,Nat.add_zero];rw[← Wr c l];cases hc:cutF c l with
   | nil=>exact absurd hc (Yz c l)
   | cons h t=>rfl
theorem W8(c:UInt8):∀ (l:List UInt8) (st:List Str×Str),(let r:=l.foldl (wG c) st;r.1++[r.2])=st.1++(match cutF c l with | h::t=>(⟨st.2.l++h⟩:Str)::t.map Str.mk | []=>[])
 | [],st=>by simp[cutF]
 |
  b::l,st=>by
  rw[List.foldl_cons];have ih:=W8 c l (wG c st b);simp only at ih ⊢;rw[ih];unfold wG;rw[WF];cases h:b == c with
  |
   true=>
   simp only[if_true,List.append_assoc];cases hc:cutF c l with
   | nil=>exact absurd hc (Yz c l)
   | cons h t=>simp
  |
   false=>
   simp only[Bool.false_eq_true,if_false];cases hc:cutF c l with
   | nil=>exact absurd hc (Yz c l)
   | cons h t=>simp
theorem XP(s:Str)(c:UInt8):zD s c=(cutF c s.l).map Str.mk:=by
 have:=W8 c s.l ([],⟨[]⟩);simp only at this;unfold zD yE;rw[this];cases hc:cutF c s.l with
 | nil=>exact absurd hc (Yz c s.l)
 | cons h t=>simp
theorem Ya(c:UInt8):∀ l,Lib.indexByte l c<0->cutF c l=[l]
 | [],_=>rfl
 |
  b::l,h=>by
  unfold Lib.indexByte at h;unfold cutF;cases hb:b == c with
  | true=>rw[hb] at h;simp at h
  |
   false=>
   rw[hb] at h;simp only[Bool.false_eq_true,if_false] at h ⊢;have hge:=Lib.indexByte_ge l c;have:Lib.indexByte l c<0:=by
    split at h
    ·
     rename_i e;have:=eq_of_beq e;omega
    ·
     omega
   rw[Ya c l this]
theorem Yb(c:UInt8):∀ l,0<=Lib.indexByte l c->Lib.indexByte l c<l.length/\cutF c l=l.take (Lib.indexByte l c).toNat::cutF c (l.drop ((Lib.indexByte l c).toNat+1))
 | [],h=>by simp[Lib.indexByte] at h
 |
  b::l,h=>by
  unfold Lib.indexByte at h ⊢;cases hb:b == c with
  | true=>simp[cutF,hb]
  |
   false=>
   rw[hb] at h;simp only[Bool.false_eq_true,if_false] at h ⊢;cases he:Lib.indexByte l c == -1 with
   | true=>rw[he] at h;simp at h
   |
    false=>
    rw[he] at h;simp only[Bool.false_eq_true,if_false] at h ⊢;have hge:=Lib.indexByte_ge l c;have hne:Lib.indexByte l c≠-1:=by simpa using he
    obtain⟨h1,h2⟩:=Yb c l (by omega);refine⟨by simp;omega,?_⟩;have e1:(Lib.indexByte l c+1).toNat=(Lib.indexByte l c).toNat+1:=by omega
    rw[e1];rw[WF,hb,h2];simp only[Bool.false_eq_true,if_false,List.take_succ_cons,List.drop_succ_cons]
theorem genSplit_loop(c:UInt8)(n:Nat)(hn:n<1099511627777):∀ (l:List UInt8) (done:List Str),l.length<=1099511627776->done.length+(cutF c l).length=n->
  ∀
   m,(cutF c l).length<=m->wS (λ s35=>yu ⟨[c]⟩ 0 ((n:Int) - 1) s35) m ((⟨l⟩:Str),done++List.replicate (n - done.length) zStr,(done.length:Int))=
   some (⟨(cutF c l).getLast (Yz c l)⟩,done++((cutF c l).dropLast.map Str.mk++[zStr]),(n:Int) - 1):=by
 intro l
 induction hlen:l.length using Nat.strongRecOn generalizing l with
 |
  _ k ih=>
  intro done hl hd m hm;have hne:=Yz c l;have hpos:0<(cutF c l).length:=List.length_pos_iff.2 hne;obtain⟨m,rfl⟩:∃ m',m=m'+1:=⟨m - 1,by omega⟩;by_cases hlast:(cutF c l).length=1
  ·
   rw[wM (b:=((⟨l⟩:Str),done++List.replicate (n - done.length) zStr,(done.length:Int))) (by unfold yu;exact if_neg (by simp[cmpI];omega))];obtain⟨x,hx⟩:=List.length_eq_one_iff.1 hlast;have e1:n - done.length=1:=by omega
   simp only[hx,List.getLast_singleton,List.dropLast_singleton,List.map_nil,List.nil_append,e1,List.replicate_one];have hxl:x=l:=by
    rcases Int.lt_or_le (Lib.indexByte l c) 0 with h | h
    ·
     rw[Ya c l h] at hx;injection hx with hx;exact hx.symm
    ·
     obtain⟨_,h2⟩:=Yb c l h;rw[h2] at hx;have:=congrArg List.length hx;simp at this;exact absurd this (Yz _ _)
   rw[hxl]
   congr 2
   congr 1
   omega
  ·
   have hidx:0<=Lib.indexByte l c:=by
    rcases Int.lt_or_le (Lib.indexByte l c) 0 with h | h
    ·
     rw[Ya c l h] at hlast;simp at hlast
    ·
     exact h
   obtain⟨h1,h2⟩:=Yb c l hidx;obtain⟨j,hi⟩:=Int.eq_ofNat_of_zero_le hidx;rw[hi] at h1 h2;rw[Int.toNat_natCast] at h2;have hj:j<l.length:=by omega
   have e2:wa ⟨l⟩ ⟨[c]⟩=some (j:Int):=by simp[wa,hi]
   have hrep:done.length<(done++List.replicate (n - done.length) zStr).length:=by simp;omega
   have e4:atI (done++List.replicate (n - done.length) zStr) (done.length:Int)=some zStr:=by
    rw[zY,List.getElem?_append_right (Nat.le_refl _),Nat.sub_self,List.getElem?_replicate,if_pos (by omega)]
   have e5:setO (done++List.replicate (n - done.length) zStr) (done.length:Int) (⟨l.take j⟩:Str)=some ((done++[⟨l.take j⟩])++List.replicate (n - (done.length+1)) zStr):=by
    rw[Xy hrep]
    congr 1
    rw[List.set_append_right _ _ (Nat.le_refl _),Nat.sub_self];obtain⟨q,hq⟩:∃ q,n - done.length=q+1:=⟨n - done.length - 1,by omega⟩;rw[hq,List.replicate_succ,List.set_cons_zero,List.append_assoc,show n - (done.length+1)=q by omega];rfl
   have hstep:yu ⟨[c]⟩ 0 ((n:Int) - 1) ((⟨l⟩:Str),done++List.replicate (n - done.length) zStr,(done.length:Int))=some (.inl ((⟨l.drop (j+1)⟩:Str),(done++[⟨l.take j⟩])++List.replicate (n - (done.length+1)) zStr,((done.length+1:Nat):Int))):=by
    unfold yu;rw[if_pos (by simp[cmpI];omega)];simp only;rw[e2,obS,if_neg (by simp[cmpI]),show((j:Int)+0)=(j:Int) by omega,ZT (by omega) (by omega),obS,QC (show j<=(⟨l⟩:Str).l.length by show j<=l.length;omega),obS,e4,obS,e5,obS];rw[show((j:Int)+(([c]:List UInt8).length:Int))=((j+1:Nat):Int) from rfl,ZT (by omega) (by omega),obS,QD (show j+1<=(⟨l⟩:Str).l.length by show j+1<=l.length;omega),obS,zH (by omega),obS]
   rw[qR hstep];have hlen2:(cutF c (l.drop (j+1))).length+1=(cutF c l).length:=by rw[h2];rfl
   have hrec:=ih (l.drop (j+1)).length (by simp;omega) (l.drop (j+1)) rfl (done++[⟨l.take j⟩]) (by simp;omega) (by simp;omega) m (by omega);rw[List.length_append,List.length_singleton] at hrec;rw[hrec];have hne2:=Yz c (l.drop (j+1));have e7:(cutF c l).getLast hne=(cutF c (l.drop (j+1))).getLast hne2:=by
    have:∀ (L:List (List UInt8)) (hL:L≠[]),L=l.take j::cutF c (l.drop (j+1))->L.getLast hL=(cutF c (l.drop (j+1))).getLast hne2:=by
     intro L hL e;subst e;exact List.getLast_cons hne2
    exact this _ hne h2
   have e8:(cutF c l).dropLast=l.take j::(cutF c (l.drop (j+1))).dropLast:=by
    have:∀ (L:List (List UInt8)),L=l.take j::cutF c (l.drop (j+1))->L.dropLast=l.take j::(cutF c (l.drop (j+1))).dropLast:=by
     intro L e;subst e;rw[List.dropLast_cons_of_ne_nil hne2]
    exact this _ h2
   rw[e7,e8];simp
theorem Split_eq{s:Str}(hs:s.l.length<=8388608)(c:UInt8):xx s ⟨[c]⟩=some (zD s c):=by
 unfold xx jK;have hcount:s.l.count c<=s.l.length:=List.count_le_length;rw[if_neg (by simp[cmpI]),if_neg (by simp)];have e1:Zu s ⟨[c]⟩=some (s.l.count c:Int):=rfl;rw[if_pos (by simp[cmpI]),e1,obS,zH (by omega),obS,obS,zH (by omega),obS];have hmin:(if((s.l.length+1:Nat):Int)<((s.l.count c+1:Nat):Int) then((s.l.length+1:Nat):Int) else((s.l.count c+1:Nat):Int))=((s.l.count c+1:Nat):Int):=if_neg (by omega);rw[hmin];have hbig:s.l.count c+1<=16777216:=by omega
 have e2:YX 1 16 ((s.l.count c+1:Nat):Int) zStr=some (List.replicate (s.l.count c+1) zStr):=by
  unfold YX;rw[if_pos ⟨by omega,by simp;omega,by simp;omega,by omega⟩];rfl
 rw[e2,obS,ZT (by omega) (by omega),obS];have hl:=Zo (genSplit_loop c (s.l.count c+1) (by omega) s.l [] (by omega) (by simp[Wr]) (s.l.count c+1) (by rw[Wr];omega)) (by omega);simp only[List.nil_append,List.length_nil,Nat.sub_zero] at hl;rw[show((0:Nat):Int)=0 from rfl] at hl;rw[hl,obS];have hne:=Yz c s.l;have hlen:=Wr c s.l;have hz:((cutF c s.l).dropLast.map Str.mk).length=s.l.count c:=by simp[hlen]
 have e3:(((s.l.count c+1:Nat):Int) - 1)=(s.l.count c:Int):=by omega
 simp only[e3];have e4:atI ((cutF c s.l).dropLast.map Str.mk++[zStr]) (s.l.count c:Int)=some zStr:=by
  rw[zY,List.getElem?_append_right (by omega),hz,Nat.sub_self];rfl
 have e5:setO ((cutF c s.l).dropLast.map Str.mk++[zStr]) (s.l.count c:Int) (⟨(cutF c s.l).getLast hne⟩:Str)=some ((cutF c s.l).map Str.mk):=by
  unfold setO;rw[if_pos ⟨by omega,by simp[hlen]⟩]
  congr 1
  rw[Int.toNat_natCast,List.set_append_right _ _ (by omega),hz,Nat.sub_self,List.set_cons_zero];have:=List.dropLast_concat_getLast hne
  conv=>rhs;rw[← this]
  simp
 rw[e4,obS,e5,obS,zH (by omega),obS];have e6:Xq ((cutF c s.l).map Str.mk) ((s.l.count c+1:Nat):Int)=some ((cutF c s.l).map Str.mk):=by
  unfold Xq;rw[if_pos ⟨by omega,by simp[hlen]⟩]
  congr 1
  rw[Int.toNat_natCast];exact List.take_of_length_le (by simp[hlen])
 rw[e6,XP];rfl
def sho(s:Str):Prop:=s.l.length<=8388608
theorem sho.mid{s:Str}(h:sho s):mid s:=by unfold sho at h;unfold Go.Proofs.YtdoidiipacdbpaaGreatDoor.mid;omega
theorem split_len(s:Str)(c:UInt8):(zD s c).length<=s.l.length+1:=by have:=len_room (zD s c);rwa[XH] at this
theorem zav{s x:Str}{c:UInt8}(h:x∈zD s c):x.l.length<=s.l.length+1:=by
 obtain⟨k,hk⟩:=List.getElem?_of_mem h;have:=part_le hk;rwa[XH] at this
theorem WG{α:Type}(p:α->Bool)(l:List α):l.any (λ x=>!p x)=!l.all p:=by
 induction l with
 | nil=>rfl
 | cons x l ih=>simp[ih]
theorem qS{s:Str}(hs:sho s):yi s=some (zF s):=by
 unfold sho at hs;have hlen:=split_len s dot;unfold yi;rw[show xx s (⟨[46]⟩:Str)=some (zD s dot) from Split_eq hs dot,obS];have hl:zJ (λ s7=>xk (zD s dot) s7) 0=some (if(zD s dot).any (λ x=>!zN x)=true then .inr false else .inl ()):=by
  refine Zp _ _ _ _ (λ k x hx hlt=>?_) ?_ (by omega) rfl
  ·
   unfold xk;have hm:mid x:=by have:=zav (List.mem_of_getElem? hx);unfold mid;omega
   rw[zL,if_pos (decide_eq_true hlt),zY,hx,obS,Yy hm,obS,zH (by omega)];cases zN x <;> rfl
  ·
   unfold xk;rw[zL,if_neg (by simp)]
 rw[hl,obS,WG];unfold zF;cases(zD s dot).all zN <;> rfl
theorem YA{s:Str}(hs:sho s):yX s=some (zr s):=by
 unfold yX;rw[qS hs,ya,obS];unfold zr yG;cases decide (s=(⟨[]⟩:Str)) <;> rfl
theorem PartsOf_eq{s:Str}(hs:sho s):qw s=some (if zF s=true then zD s dot else[]):=by
 unfold qw;rw[qS hs,obS,show xx s (⟨[46]⟩:Str)=some (zD s dot) from Split_eq hs dot];cases zF s <;> rfl
def Y4(p s:Str):Str:=if(zr p&&zN s&&zF (child p s))=true then child p s else yG
theorem Jx{p s:Str}(h:p.l.length+s.l.length+1<=8388608):wy p s=some (Y4 p s):=by
 have hp:sho p:=by unfold sho;omega
 have hs:mid s:=by unfold mid;omega
 unfold wy Y4;rw[YA hp,obS,Yy hs,ya,obS];cases zr p with
 | false=>simp only[Bool.not_false,Bool.true_or,if_true,Bool.false_and,Bool.false_eq_true,if_false,yG]
 |
  true=>
  cases zN s with
  | false=>simp only[Bool.not_false,Bool.or_true,if_true,Bool.false_and,Bool.and_false,Bool.false_eq_true,if_false,yG,Bool.not_true,beq_self_eq_true]
  |
   true=>
   have hc:(if(decide (p≠(⟨[]⟩:Str)))=true then((catO p (⟨[46]⟩:Str)).bind λ v14=>(catO v14 s).bind λ v15=>some v15) else(some s))=some (child p s):=by
    unfold child yG;by_cases he:p=⟨[]⟩
    ·
     rw[if_neg (by simp[he]),if_pos he]
    ·
     rw[if_pos (by simp[he]),if_neg he,Yx (by show p.l.length+1<=_;omega),obS,Yx (by rw[List.length_append];show p.l.length+1+s.l.length<=_;omega),obS]
   have hsc:sho (child p s):=by
    unfold sho child;split
    ·
     omega
    ·
     rw[List.length_append,List.length_append];show p.l.length+1+s.l.length<=_;omega
   rw[hc,if_neg (by decide),obS,qS hsc,obS];generalize child p s=q;cases zF q <;> rfl
theorem HasPrefix_eq{s p:Str}:wd s p=some (decide (p.l.length<=s.l.length)&&decide ((⟨s.l.take p.l.length⟩:Str)=p)):=by
 unfold wd yv;by_cases h:p.l.length<=s.l.length
 ·
  have e:cmpI .geq (s.l.length:Int) (p.l.length:Int)=true:=by simp[cmpI,h]
  rw[e,QC h];simp[gO,h]
 ·
  have e:cmpI .geq (s.l.length:Int) (p.l.length:Int)=false:=by simp[cmpI];omega
  rw[e];simp[gO,h]
theorem zaw{s p:Str}(hs:sho s)(hp:p.l.length+1<=8388608):jq s p=some (zF s&&zr p&&under s p):=by
 have hp':sho p:=by unfold sho;omega
 unfold jq;rw[qS hs,obS,YA hp',ya,obS,Yx (by show p.l.length+1<=_;omega),ya];unfold under yG;cases zF s with
 | false=>rfl
 |
  true=>
  cases zr p with
  | false=>rfl
  |
   true=>
   cases he:decide (p=(⟨[]⟩:Str)) with
   | true=>rfl
   |
    false=>
    cases hq:decide (s=p) with
    | true=>rfl
    |
     false=>
     simp only[HasPrefix_eq,ya,Bool.not_true,Bool.or_self,Bool.false_eq_true,if_false,beq_self_eq_true,if_true,Bool.true_and,Bool.false_or,obS,List.length_append,List.length_singleton]
     congr 2
     simp[cmpI];omega
theorem qT(a b c:Int):yc a b c=some (inR a b c):=rfl
theorem Zy:zF yG=false:=rfl
theorem idx_join{α:Type}(p:α->Bool)(xs:List α):Option.bind (some (match xs.findIdx? p with | some i=>(Sum.inr (i:Int):Unit⊕Int) | none=>Sum.inl ())) (Sum.elim (λ _=>some (-1)) some)=some (qV p xs):=by
 unfold qV;cases xs.findIdx? p <;> rfl
theorem YS{α:Type}(p:α->Bool)(xs:List α):cmpI .geq (qV p xs) 0=xs.any p:=by
 unfold qV;cases h:xs.findIdx? p with
 |
  none=>
  rw[List.findIdx?_eq_none_iff] at h;have:xs.any p=false:=by rw[List.any_eq_false];intro x hx;simp[h x hx]
  rw[this];rfl
 |
  some i=>
  obtain⟨hi,hp,_⟩:=List.findIdx?_eq_some_iff_getElem.1 h;have:xs.any p=true:=by rw[List.any_eq_true];exact⟨_,List.getElem_mem hi,hp⟩
  rw[this];simp[cmpI]
theorem idxOf_lss{α:Type}{p:α->Bool}{xs:List α}{k:Nat}{x:α}(hx:xs[k]?=some x)(hp:p x=true):cmpI .lss (qV p xs) k=(xs.take k).any p:=by
 have hk:=zW hx;have hxk:xs[k]=x:=by rw[List.getElem?_eq_getElem hk] at hx;injection hx
 unfold qV;cases h:xs.findIdx? p with
 |
  none=>
  rw[List.findIdx?_eq_none_iff] at h;have:=h x (List.mem_of_getElem? hx);rw[hp] at this;cases this
 |
  some i=>
  obtain⟨hi,hpi,hmin⟩:=List.findIdx?_eq_some_iff_getElem.1 h;by_cases hik:i<k
  ·
   have:(xs.take k).any p=true:=by
    rw[List.any_eq_true];exact⟨xs[i],List.mem_take_iff_getElem.2 ⟨i,by omega,rfl⟩,hpi⟩
   rw[this];simp[cmpI,hik]
  ·
   have:(xs.take k).any p=false:=by
    rw[List.any_eq_false];intro y hy;obtain⟨j,hj,rfl⟩:=List.mem_take_iff_getElem.1 hy;exact hmin j (by omega)
   rw[this];simp[cmpI];omega
theorem IndexI_eq{xs:List Int}{n:Int}(h:xs.length<=1152921504606846):xf xs n=some (qV (λ x=>n == x) xs):=by
 unfold xf;have hl:zJ (λ s4=>yn xs n s4) 0=some (match xs.findIdx? (λ x=>n == x) with | some i=>(Sum.inr (i:Int):Unit⊕Int) | none=>Sum.inl ()):=by
  refine Xz xs (λ x=>n == x) (λ i=>Sum.inr i) _ (λ k x hx hlt=>?_) ?_ (by omega) rfl
  ·
   unfold yn;rw[zL,if_pos (decide_eq_true hlt),zY,hx,obS,zH (by omega),show cmpI .eql n x=(n == x) from rfl];cases n == x <;> rfl
  ·
   unfold yn;rw[zL,if_neg (by simp)]
 rw[hl];exact idx_join _ _
theorem ContainsI_eq{xs:List Int}{n:Int}(h:xs.length<=1152921504606846):yF xs n=some (xs.any (λ x=>n == x)):=by
 unfold yF;rw[IndexI_eq h,obS,YS]
theorem stmt_mod(s:Stmt):decide (s={ (⟨s.kind,⟨[]⟩,0,⟨[]⟩,0⟩:Stmt) with module:=s.module })=(cmpI .eql s.level 0&&decide (s.name=⟨[]⟩)&&cmpI .eql s.value 0):=by
 cases s;rw[Bool.eq_iff_iff];simp[cmpI,and_assoc]
theorem stmt_nv(s:Stmt):decide (s={ { (⟨s.kind,⟨[]⟩,0,⟨[]⟩,0⟩:Stmt) with name:=s.name } with value:=s.value })=(decide (s.module=⟨[]⟩)&&cmpI .eql s.level 0):=by
 cases s;rw[Bool.eq_iff_iff];simp[cmpI]
theorem stmt_n(s:Stmt):decide (s={ (⟨s.kind,⟨[]⟩,0,⟨[]⟩,0⟩:Stmt) with name:=s.name })=(decide (s.module=⟨[]⟩)&&cmpI .eql s.level 0&&cmpI .eql s.value 0):=by
 cases s;rw[Bool.eq_iff_iff];simp[cmpI,and_assoc]
theorem smStmt.sho{s:Stmt}(h:smStmt s):sho s.module:=by have:=h.1;unfold Go.Proofs.YtdoidiipacdbpaaGreatDoor.sho;omega
theorem smStmt.midn{s:Stmt}(h:smStmt s):mid s.name:=by have:=h.2;unfold mid;omega
theorem stmtOk_eq{s:Stmt}(h:smStmt s):q5 s=some (xF s):=by
 have hm:=qS h.sho;have hn:=Yy h.midn;unfold q5;rw[hm,hn,stmt_mod,stmt_nv,stmt_n];simp only[qT,ya,obS];unfold xF;rcases s with⟨kind,m,level,name,value⟩;simp only[show ∀ x y:Int,cmpI .eql x y=(x == y) from λ _ _=>rfl];by_cases h0:kind=0
 ·
  subst h0;simp only[beq_self_eq_true,if_true,obS];generalize zF m=a;generalize (level == 0)=b;generalize decide (name=⟨[]⟩)=c;generalize (value == 0)=d;cases a <;> cases b <;> cases c <;> cases d <;> rfl
 ·
  by_cases h2:kind=2
  ·
   subst h2;simp only[beq_self_eq_true,if_true,obS,show((2:Int) == 0)=false from rfl,show((2:Int) == 1)=false from rfl,Bool.false_eq_true,if_false];generalize zF m=a;generalize (level == 0)=b;generalize decide (name=⟨[]⟩)=c;generalize (value == 0)=d;cases a <;> cases b <;> cases c <;> cases d <;> rfl
  ·
   have e0:(kind == 0)=false:=by simpa using h0
   have e2:(kind == 2)=false:=by simpa using h2
   simp only[e0,e2,Bool.false_eq_true,if_false,obS];by_cases h1:kind=1
   ·
    subst h1;simp only[beq_self_eq_true,if_true];have hl:cmpI .geq level 1=cmpI .gtr level 0:=by simp[cmpI];omega
    rw[hl];unfold zr;by_cases hme:m=yG
    ·
     subst hme;rw[Zy];simp only[yG,decide_true,ne_eq,not_true_eq_false,decide_false];generalize (value == 0)=a;generalize inR level 0 3=b;generalize cmpI .gtr level 0=c;generalize zN name=d;cases a <;> cases b <;> cases c <;> cases d <;> rfl
    ·
     have e1:decide (m=yG)=false:=decide_eq_false hme;have e3:decide (m=⟨[]⟩)=false:=decide_eq_false hme;have e4:decide (m≠⟨[]⟩)=true:=decide_eq_true hme;rw[e1,e3,e4];generalize (value == 0)=a;generalize inR level 0 3=b;generalize cmpI .gtr level 0=c;generalize zN name=d;generalize zF m=e;cases a <;> cases b <;> cases c <;> cases d <;> cases e <;> rfl
   ·
    have e1:(kind == 1)=false:=by simpa using h1
    simp only[e1,Bool.false_eq_true,if_false];by_cases h3:kind=3
    ·
     subst h3;simp only[beq_self_eq_true,if_true];generalize decide (m=⟨[]⟩)=a;generalize (level == 0)=b;generalize inR value 0 99=c;generalize zN name=d;cases a <;> cases b <;> cases c <;> cases d <;> rfl
    ·
     have e3:(kind == 3)=false:=by simpa using h3
     simp only[e3,Bool.false_eq_true,if_false];by_cases h4:kind=4
     ·
      subst h4;simp only[beq_self_eq_true,if_true];generalize decide (m=⟨[]⟩)=a;generalize (level == 0)=b;generalize (value == 0)=c;generalize zN name=d;cases a <;> cases b <;> cases c <;> cases d <;> rfl
     ·
      have e4:(kind == 4)=false:=by simpa using h4
      simp only[e4,Bool.false_eq_true,if_false];by_cases h5:kind=5
      ·
       subst h5;rfl
      ·
       have e5:(kind == 5)=false:=by simpa using h5
       simp only[e5,Bool.false_eq_true,if_false]
theorem ValidBody_eq{b:List Stmt}(hlen:b.length<=1048576)(h:∀ s∈b,smStmt s):jr b=some (ZZ b):=by
 unfold jr;have hl:zJ (λ s4=>xl b s4) 0=some (if b.any (λ x=>!xF x)=true then .inr false else .inl ()):=by
  refine Zp _ _ _ _ (λ k x hx hlt=>?_) ?_ (by omega) rfl
  ·
   unfold xl;rw[zL,if_pos (decide_eq_true hlt),zY,hx,obS,stmtOk_eq (h x (List.mem_of_getElem? hx)),obS,zH (by omega)];cases xF x <;> rfl
  ·
   unfold xl;rw[zL,if_neg (by simp)]
 rw[hl,obS,WG];unfold ZZ;cases b.all xF <;> rfl
theorem child_ne{p s:Str}(h:zF (child p s)=true):child p s≠yG:=by
 intro e;rw[e,Zy] at h;cases h
theorem smFile.shop{f:File}(h:smFile f):sho f.pkg:=by have:=h.1;unfold sho;omega
theorem smFile.midn{f:File}(h:smFile f):mid f.name:=by have:=h.2.1;unfold mid;omega
theorem smFile.child{f:File}(h:smFile f):f.pkg.l.length+f.name.l.length+1<=8388608:=by have:=h.1;have:=h.2.1;omega
theorem fileOk_eq{f:File}(h:smFile f):q6 f=some (yA f):=by
 unfold q6;rw[qT,obS,YA h.shop,ya,obS,qT,ya,obS,ValidBody_eq h.2.2.1 h.2.2.2,ya,obS,Yy h.midn,obS,Jx h.child,ya,obS];unfold yA;cases inR f.root 0 2 with
 | false=>rfl
 |
  true=>
  cases hp:zr f.pkg with
  | false=>cases inR f.stamp 0 99 <;> rfl
  |
   true=>
   cases inR f.stamp 0 99 with
   | false=>rfl
   |
    true=>
    cases ZZ f.body with
    | false=>rfl
    |
     true=>
     cases f.init with
     | true=>rfl
     |
      false=>
      show some (zN f.name&&decide ((if(zN f.name == true)=true then Y4 f.pkg f.name else default)≠(⟨[]⟩:Str)))=some (zN f.name&&zF (Go.Proofs.YtdoidiipacdbpaaGreatDoor.child f.pkg f.name));cases hn:zN f.name with
      | false=>rfl
      |
       true=>
       unfold Y4;rw[hp,hn];cases hc:zF (Go.Proofs.YtdoidiipacdbpaaGreatDoor.child f.pkg f.name) with
       | false=>simp[yG]
       |
        true=>
        have:=child_ne hc;simp only[Bool.and_self,if_true,beq_self_eq_true,Bool.true_and];rw[decide_eq_true (show Go.Proofs.YtdoidiipacdbpaaGreatDoor.child f.pkg f.name≠⟨[]⟩ from this)]
theorem J6(f g:File):jm f g=some (xD f g):=rfl
theorem W9(f g:File):xD f g=xD g f:=by
 unfold xD;rw[BEq.comm (a:=f.root),BEq.comm (a:=f.init),decide_eq_decide.2 (eq_comm (a:=f.pkg) (b:=g.pkg)),decide_eq_decide.2 (eq_comm (a:=f.name) (b:=g.name))]
theorem sameFile_refl(f:File):xD f f=true:=by simp[xD]
theorem ValidTree_eq{t:Tree}(h:jf t):js t=some (yf t):=by
 have hlen:=h.1;unfold js;have hl:zJ (λ s4=>xn t s4) 0=some (if(List.range t.files.length).any (λ k=>!Wf t.files k)=true then .inr false else .inl ()):=by
  refine Zp (List.range t.files.length) _ _ _ (λ k x hx hlt=>?_) ?_ (by rw[List.length_range];omega) rfl
  ·
   rw[List.length_range] at hlt;rw[List.getElem?_range hlt] at hx;injection hx with hx;subst hx;unfold xn;obtain⟨f,hf⟩:∃ f,t.files[k]?=some f:=⟨_,List.getElem?_eq_getElem hlt⟩;have ht:Wf t.files k=!(!yA f||cmpI .lss (wh t.files f) k):=by unfold Wf;rw[hf]
   rw[zL,if_pos (decide_eq_true hlt),zY,hf,obS,fileOk_eq (h.2 _ (List.mem_of_getElem? hf)),obS,WE (by omega),obS,ht];cases yA f with
   | false=>rfl
   |
    true=>
    rw[if_neg (by decide)];have hin:zJ (λ s28=>xm f (t.files.take k) s28) 0=some (if(t.files.take k).any (λ x=>xD f x)=true then .inr (.inr (.inr false)) else .inl ()):=by
     have htl:(t.files.take k).length<=k:=by simp;omega
     refine Zp _ _ _ _ (λ j y hy hjt=>?_) ?_ (by omega) rfl
     ·
      unfold xm;rw[zL,if_pos (decide_eq_true hjt),zY,hy,obS,J6,obS,zH (by omega)];cases xD f y <;> rfl
     ·
      unfold xm;rw[zL,if_neg (by simp)]
    rw[hin];have hfa:cmpI .lss (wh t.files f) k=(t.files.take k).any (λ x=>xD f x):=by
     unfold wh;rw[idxOf_lss (p:=λ x=>xD x f) hf (sameFile_refl _)]
     congr 1
     funext x
     exact W9 _ _
    rw[hfa];cases(t.files.take k).any (λ x=>xD f x) with
    | true=>rfl
    |
     false=>
     rw[if_neg (by decide),obS,Sum.elim_inl,zH (by omega)];rfl
  ·
   unfold xn;rw[List.length_range,zL,if_neg (by simp)]
 rw[hl,obS,WG];unfold yf Xc;cases(List.range t.files.length).all (Wf t.files) <;> rfl
theorem fileAt_eq{t:Tree}{f:File}(h:t.files.length<=1048576):jZ t f=some (wh t.files f):=by
 unfold jZ;have hl:zJ (λ s4=>wr t f s4) 0=some (match t.files.findIdx? (λ x=>xD x f) with | some i=>(Sum.inr (i:Int):Unit⊕Int) | none=>Sum.inl ()):=by
  refine Xz t.files (λ x=>xD x f) (λ i=>Sum.inr i) _ (λ k x hx hlt=>?_) ?_ (by omega) rfl
  ·
   unfold wr;rw[zL,if_pos (decide_eq_true hlt),zY,hx,obS,J6,obS,zH (by omega),W9];cases xD x f <;> rfl
  ·
   unfold wr;rw[zL,if_neg (by simp)]
 rw[hl];exact idx_join _ _
theorem YT{t:Tree}(h:yf t=true){f:File}(hf:f∈t.files):yA f=true:=by
 obtain⟨k,hk⟩:=List.getElem?_of_mem hf;unfold yf Xc at h;rw[Bool.and_eq_true] at h;have:=List.all_eq_true.1 h.1 k (List.mem_range.2 (zW hk));unfold Wf at this;rw[hk] at this;simp only at this;cases hv:yA f with
 | true=>rfl
 | false=>rw[hv] at this;cases this
theorem Xh{f:File}(h:yA f=true):zr f.pkg=true:=by
 unfold yA at h;cases hv:zr f.pkg with
 | true=>rfl
 |
  false=>
  rw[hv,if_pos (by simp)] at h;cases h
theorem hasDir_eq{t:Tree}{r:Int}{p:Str}(h:jf t)(hv:∀ f∈t.files,zr f.pkg=true)(hp:zr p=true)(hpl:p.l.length+1<=8388608):q7 t r p=some (Yp t.files r p):=by
 have hlen:=h.1;unfold q7;have hl:zJ (λ s4=>wq t r p s4) 0=some (if t.files.any (Jj r p)=true then .inr true else .inl ()):=by
  refine Zp _ _ _ _ (λ k x hx hlt=>?_) ?_ (by omega) rfl
  ·
   unfold wq;have hm:=List.mem_of_getElem? hx;rw[zL,if_pos (decide_eq_true hlt),zY,hx,obS,zaw (h.2 x hm).shop hpl,ya,obS,zH (by omega),hp];unfold Jj;have hvx:=hv x hm;unfold zr at hvx;rw[show cmpI .eql x.root r=(x.root == r) from rfl];by_cases he:x.pkg=yG
   ·
    rw[he,Zy];simp
   ·
    have e1:zF x.pkg=true:=by simpa[he] using hvx
    rw[e1,decide_eq_true (show x.pkg≠yG from he)];cases x.root == r <;> cases under x.pkg p <;> rfl
  ·
   unfold wq;rw[zL,if_neg (by simp)]
 rw[hl,obS];unfold Yp yG;cases t.files.any (Jj r p) <;> rfl
theorem ValidPath_eq{l:List Int}(h:l.length<=1048576):ju l=some (yq l):=by
 unfold ju;have hl:zJ (λ s4=>xo l s4) 0=some (if(List.range l.length).any (λ k=>!XI l k)=true then .inr false else .inl ()):=by
  refine Zp (List.range l.length) _ _ _ (λ k x hx hlt=>?_) ?_ (by rw[List.length_range];omega) rfl
  ·
   rw[List.length_range] at hlt;rw[List.getElem?_range hlt] at hx;injection hx with hx;subst hx;unfold xo;obtain⟨n,hf⟩:∃ n,l[k]?=some n:=⟨_,List.getElem?_eq_getElem hlt⟩;have htl:(l.take k).length<=1152921504606846:=by simp;omega
   have ht:XI l k=!(!inR n 0 2||(l.take k).any (λ x=>n == x)):=by
    unfold XI;rw[hf];simp only;unfold intAt;rw[YS,show(λ x=>x == n)=(λ x=>n == x) from by funext x;exact BEq.comm]
   rw[zL,if_pos (decide_eq_true hlt),zY,hf,obS,qT,obS,WE (by omega),ya,obS,ht,zH (by omega)];cases inR n 0 2 with
   | false=>rfl
   |
    true=>
    simp only[Bool.not_true,beq_self_eq_true,if_true];rw[ContainsI_eq htl,ya,obS];cases(l.take k).any (λ x=>n == x) <;> rfl
  ·
   unfold xo;rw[List.length_range,zL,if_neg (by simp)]
 rw[hl,obS,WG];unfold yq Xd;cases(List.range l.length).all (XI l) <;> rfl
structure Good(t:Tree):Prop where
 sm:jf t
 ok:yf t=true
theorem Good.pkg{t:Tree}(h:Good t):∀ f∈t.files,zr f.pkg=true:=λ _ hf=>Xh (YT h.ok hf)
theorem Good.len{t:Tree}(h:Good t):t.files.length<=1048576:=h.sm.1
theorem qa{s:Str}(h:zN s=true):1<=s.l.length/\s.l.length<=3:=by
 unfold zN inR at h;simp[cmpI] at h;omega
theorem lenSum_le(l:List Str)(h:∀ x∈l,x.l.length<=3):xT l<=4*l.length:=by
 induction l with
 | nil=>exact Nat.le_refl _
 |
  cons x l ih=>
  have h1:=h x (by simp);have h2:=ih λ y hy=>h y (by simp[hy])
  unfold xT at h2 ⊢;simp only[List.map_cons,List.sum_cons,List.length_cons];omega
theorem qb{s:Str}(h:zF s=true):s.l.length<=11:=by
 unfold zF at h;rw[Bool.and_eq_true] at h;have h1:=lenSum_le (zD s dot) λ x hx=>(qa (List.all_eq_true.1 h.1 x hx)).2
 rw[XH] at h1;have h2:=h.2;simp[cmpI] at h2;omega
theorem yC{s:Str}(h:zr s=true):s.l.length<=11:=by
 unfold zr at h;rw[Bool.or_eq_true] at h;rcases h with h | h
 ·
  rw[oD h];exact Nat.zero_le _
 ·
  exact qb h
def joinF:List (List UInt8)->List UInt8
 | []=>[]
 | [a]=>a
 | a::b::l=>a++46::joinF (b::l)
theorem Ja:∀ (l:List Str) (acc:List UInt8),(l.foldl Yi (⟨acc⟩,true)).1=⟨acc++(l.map λ x=>46::x.l).flatten⟩
 | [],acc=>by simp
 |
  x::l,acc=>by
  rw[List.foldl_cons];show(l.foldl Yi (⟨(acc++[46])++x.l⟩,true)).1=_;rw[Ja l];simp
theorem joinF_cons(a:List UInt8)(l:List (List UInt8)):joinF (a::l)=a++(l.map λ x=>46::x).flatten:=by
 induction l generalizing a with
 | nil=>simp[joinF]
 | cons b l ih=>rw[joinF,ih];simp
theorem join_joinF(l:List Str):join l=⟨joinF (l.map (·.l))⟩:=by
 cases l with
 | nil=>rfl
 |
  cons x l=>
  unfold join qM;rw[List.foldl_cons];show(l.foldl Yi (⟨[]++x.l⟩,true)).1=_;rw[Ja,List.map_cons,joinF_cons];simp[List.map_map,Function.comp_def]
theorem cutF_pre(c:UInt8):∀ (a l:List UInt8),c ∉ a->cutF c (a++c::l)=a::cutF c l
 | [],l,_=>by simp[cutF]
 |
  b::a,l,h=>by
  have hb:(b == c)=false:=by
   have:b≠c:=λ e=>h (by simp[e])
   simpa using this
  rw[List.cons_append,WF,hb,cutF_pre c a l (λ e=>h (by simp[e]))];rfl
theorem cutF_one(c:UInt8):∀ (a:List UInt8),c ∉ a->cutF c a=[a]
 | [],_=>rfl
 |
  b::a,h=>by
  have hb:(b == c)=false:=by
   have:b≠c:=λ e=>h (by simp[e])
   simpa using this
  rw[WF,hb,cutF_one c a (λ e=>h (by simp[e]))];rfl
theorem zax:∀ (l:List (List UInt8)),l≠[]->(∀ x∈l,(46:UInt8) ∉ x)->cutF 46 (joinF l)=l
 | [],h,_=>absurd rfl h
 | [a],_,h=>cutF_one 46 a (h a (by simp))
 |
  a::b::l,_,h=>by
  rw[joinF,cutF_pre 46 a _ (h a (by simp)),zax (b::l) (by simp) λ x hx=>h x (by simp[hx])]
theorem low_ne{b:UInt8}(h:low b=true):b≠46:=by
 intro e;subst e;revert h;decide
theorem validPart_dot{s:Str}(h:zN s=true):(46:UInt8) ∉ s.l:=by
 unfold zN at h;rw[Bool.and_eq_true] at h;intro hm;exact low_ne (List.all_eq_true.1 h.2 _ hm) rfl
theorem zay{l:List Str}(hne:l≠[])(h:∀ x∈l,zN x=true):zD (join l) dot=l:=by
 rw[join_joinF,XP];show(cutF 46 (joinF (l.map (·.l)))).map Str.mk=l;rw[zax _ (by simpa using hne) (by
  intro x hx;obtain⟨y,hy,rfl⟩:=List.mem_map.1 hx;exact validPart_dot (h y hy)),List.map_map]
 show l.map (λ x=>x)=l;exact List.map_id' l
theorem zaz{l:List Str}(hne:l≠[])(hlen:l.length<=3)(h:∀ x∈l,zN x=true):zF (join l)=true:=by
 unfold zF;rw[zay hne h,Bool.and_eq_true];exact⟨List.all_eq_true.2 h,by simp[cmpI];omega⟩
theorem jY{s:Str}(h:zF s=true):(∀ x∈zD s dot,zN x=true)/\(zD s dot).length<=3:=by
 unfold zF at h;rw[Bool.and_eq_true] at h;have:=h.2;simp[cmpI] at this;exact⟨List.all_eq_true.1 h.1,by omega⟩
theorem WH{s:Str}(h:zF s=true)(k:Nat):zr (join ((zD s dot).take k))=true:=by
 obtain⟨h1,h2⟩:=jY h;unfold zr;cases k with
 | zero=>rfl
 |
  succ k=>
  have hne:=split_ne s dot;rw[zaz (by intro e;have:=congrArg List.length e;simp at this;rw[this] at hne;simp at hne) (by simp;omega) λ x hx=>h1 x (List.mem_of_mem_take hx),Bool.or_true]
theorem zaA{s:Str}(h:zF s=true)(k:Nat):zF (join ((zD s dot).take (k+1)))=true:=by
 obtain⟨h1,h2⟩:=jY h;have hne:=split_ne s dot;exact zaz (by intro e;have:=congrArg List.length e;simp at this;rw[this] at hne;simp at hne) (by simp;omega) λ x hx=>h1 x (List.mem_of_mem_take hx)
theorem zaB{l:List Str}{k:Nat}{x:Str}(hx:l[k]?=some x)(h:∀ x∈l,zN x=true):join (l.take (k+1))=child (join (l.take k)) x:=by
 have hk:=zW hx;unfold join;cases k with
 |
  zero=>
  rw[WD hx rfl];rfl
 |
  succ k=>
  rw[JM hx (by simp[cmpI])];unfold child;rw[if_neg];intro e;have hne:l.take (k+1)≠[]:=by intro e;have:=congrArg List.length e;simp at this;subst this;simp at hk
  have hs:=zay hne λ y hy=>h y (List.mem_of_mem_take hy)
  unfold join at hs;rw[e] at hs;have h0:zN yG=true:=h _ (List.mem_of_mem_take (by rw[← hs];simp[zD,yE,yG]));exact absurd h0 (by decide)
def okKind(s:Spec):Prop:=s.kind=0\/s.kind=1\/s.kind=2\/s.kind=3
theorem kind_two{s:Spec}(h:okKind s):(cmpI .eql s.kind 0||cmpI .eql s.kind 1)=(cmpI .neq s.kind 2&&cmpI .neq s.kind 3):=by
 rcases h with h | h | h | h <;> rw[h] <;> rfl
theorem QQ{l:List Str}{s:Str}:xB l s=true ↔ s∈l:=by
 unfold xB textAt;rw[YS,List.any_eq_true];constructor
 ·
  rintro ⟨x,hx,h⟩;rw[← oD h];exact hx
 ·
  intro h;exact⟨s,h,by simp⟩
theorem insertT_iff{l:List Str}{s x:Str}:x∈xC l s ↔ x∈l\/x=s:=by
 refine⟨insertT_mem,λ h=>?_⟩;unfold xC;split
 ·
  rename_i hc;rcases h with h | h
  ·
   exact h
  ·
   rw[h];exact QQ.1 hc
 ·
  rcases h with h | h
  ·
   simp only[List.mem_append,List.mem_singleton];have:=List.take_append_drop (wx l s l.length) l;rw[← this,List.mem_append] at h;rcases h with h | h
   ·
    exact .inl (.inl h)
   ·
    exact .inr h
  ·
   simp[h]
theorem insertAll_iff{m l:List Str}{x:Str}:x∈m.foldl xC l ↔ x∈l\/x∈m:=by
 induction m generalizing l with
 | nil=>simp
 | cons y m ih=>rw[List.foldl_cons,ih,insertT_iff,List.mem_cons,or_assoc]
theorem bytesLt:∀ (x y:List UInt8),Op.bytesLess x y=decide (x<y)
 | [],[]=>by simp[Op.bytesLess]
 | _::_,[]=>by simp[Op.bytesLess]
 | [],_::_=>by simp[Op.bytesLess]
 |
  a::x,b::y=>by
  rw[Op.bytesLess,bytesLt x y];simp only[List.cons_lt_cons_iff];by_cases h1:a<b <;> by_cases h2:a=b <;> by_cases h3:x<y <;> simp[h1,h2,h3]
def Asc(l:List Str):Prop:=l.Pairwise λ x y=>x.l<y.l
theorem asc_ext:∀ {l m:List Str},Asc l->Asc m->(∀ x,x∈l ↔ x∈m)->l=m
 | [],[],_,_,_=>rfl
 | [],b::m,_,_,h=>absurd ((h b).2 (by simp)) (by simp)
 | a::l,[],_,_,h=>absurd ((h a).1 (by simp)) (by simp)
 |
  a::l,b::m,hl,hm,h=>by
  rw[Asc,List.pairwise_cons] at hl hm;have hab:a=b:=by
   rcases List.mem_cons.1 ((h a).1 (by simp)) with e | e
   ·
    exact e
   ·
    rcases List.mem_cons.1 ((h b).2 (by simp)) with e2 | e2
    ·
     exact e2.symm
    ·
     exact absurd (List.lt_trans (hm.1 a e) (hl.1 b e2)) (List.lt_irrefl _)
  subst hab;rw[asc_ext hl.2 hm.2 λ x=>?_];constructor
  ·
   intro hx;rcases List.mem_cons.1 ((h x).1 (by simp[hx])) with e | e
   ·
    rw[e] at hx;exact absurd (hl.1 a hx) (List.lt_irrefl _)
   ·
    exact e
  ·
   intro hx;rcases List.mem_cons.1 ((h x).2 (by simp[hx])) with e | e
   ·
    rw[e] at hx;exact absurd (hm.1 a hx) (List.lt_irrefl _)
   ·
    exact e
theorem Y5{a b:List UInt8}(h:a<=b)(hne:a≠b):a<b:=by
 rcases Decidable.em (a<b) with h' | h'
 ·
  exact h'
 ·
  exact absurd (List.le_antisymm h (List.not_lt.1 h')) hne
theorem J7(d:Array (List UInt8))(hd:∀ i j,i<=j->j<d.size->d[i]! <= d[j]!):∀ m,m<=d.size->
  (Lib.compactUpTo d m).Pairwise (·<·)/\(∀ x,x∈Lib.compactUpTo d m ↔ ∃ j,j<m/\d[j]! = x)
 | 0,_=>⟨by simp[Lib.compactUpTo],λ x=>by simp[Lib.compactUpTo]⟩
 |
  m+1,hm=>by
  obtain⟨h1,h2⟩:=J7 d hd m (by omega);rw[Lib.compactUpTo_succ];cases hk:Lib.keeps d m with
  |
   true=>
   rw[if_pos rfl];refine⟨List.pairwise_append.2 ⟨h1,by simp,λ a ha b hb=>?_⟩,λ x=>?_⟩
   ·
    rw[List.mem_singleton] at hb;subst hb;obtain⟨j,hj,rfl⟩:=(h2 a).1 ha;have hk':m=0\/d[m]! ≠ d[m - 1]! := oD hk;rcases hk' with e | e
    ·
     omega
    ·
     have hlt:=Y5 (hd (m - 1) m (by omega) (by omega)) (Ne.symm e);rcases Decidable.em (d[j]! = d[m - 1]!) with e2 | e2
     ·
      rw[e2];exact hlt
     ·
      exact List.lt_trans (Y5 (hd j (m - 1) (by omega) (by omega)) e2) hlt
   ·
    rw[List.mem_append,h2,List.mem_singleton];constructor
    ·
     rintro (⟨j,hj,h⟩ | h)
     ·
      exact⟨j,by omega,h⟩
     ·
      exact⟨m,by omega,h.symm⟩
    ·
     rintro ⟨j,hj,h⟩
     by_cases hjm:j=m
     ·
      subst hjm;exact .inr h.symm
     ·
      exact .inl ⟨j,by omega,h⟩
  |
   false=>
   rw[if_neg (by decide),List.append_nil];refine⟨h1,λ x=>?_⟩;rw[h2];have hk':¬ (m=0\/d[m]! ≠ d[m - 1]!):=of_decide_eq_false hk;constructor
   ·
    rintro ⟨j,hj,h⟩;exact⟨j,by omega,h⟩
   ·
    rintro ⟨j,hj,h⟩
    by_cases hjm:j=m
    ·
     subst hjm;refine⟨j - 1,by omega,?_⟩;rw[← h];exact(Decidable.byContradiction λ e=>hk' (.inr (Ne.symm e)))
    ·
     exact⟨j,by omega,h⟩
def Yc(xs:List Str):List Str:=qt (Xt xs)
theorem le_dec_trans(a b c:List UInt8)(h1:decide (a<=b)=true)(h2:decide (b<=c)=true):decide (a<=c)=true:=
 decide_eq_true (List.le_trans (oD h1) (oD h2))
theorem le_dec_total(a b:List UInt8):(decide (a<=b)||decide (b<=a))=true:=by
 rcases List.le_total a b with h | h <;> simp[h]
theorem XQ(xs:List Str):Asc (Yc xs)/\∀ x,x∈Yc xs ↔ x∈xs:=by
 have hs:=List.pairwise_mergeSort (le:=λ x y:List UInt8=>decide (x<=y)) le_dec_trans le_dec_total (xs.map (·.l));have hm:∀ y,y∈(xs.map (·.l)).mergeSort (λ x y=>decide (x<=y)) ↔ y∈xs.map (·.l):=λ y=>List.mem_mergeSort
 unfold Yc qt;rw[sortS_l];generalize (xs.map (·.l)).mergeSort (λ x y=>decide (x<=y))=zs at hs hm;have hd:∀ i j,i<=j->j<zs.toArray.size->zs.toArray[i]! <= zs.toArray[j]! := by
  intro i j hij hj;have hj':j<zs.length:=by simpa using hj
  by_cases e:i=j
  ·
   subst e;exact List.le_refl _
  ·
   have:=List.pairwise_iff_getElem.1 hs i j (by omega) hj' (by omega);simpa[getElem!_pos,hj',show i<zs.length by omega] using this
 obtain⟨h1,h2⟩:=J7 zs.toArray hd zs.length (by simp);refine⟨?_,λ x=>?_⟩
 ·
  unfold Asc Lib.compact;rw[List.pairwise_map];exact h1
 ·
  have hmem:∀ y,y∈Lib.compact zs ↔ y∈xs.map (·.l):=by
   intro y;rw[← hm];unfold Lib.compact;rw[h2];constructor
   ·
    rintro ⟨j,hj,rfl⟩
    rw[show zs.toArray[j]! = zs[j] from by simp[getElem!_pos,hj]];exact List.getElem_mem hj
   ·
    intro hy;obtain⟨j,hj,rfl⟩:=List.mem_iff_getElem.1 hy;exact⟨j,hj,by simp[getElem!_pos,hj]⟩
  rw[List.mem_map];constructor
  ·
   rintro ⟨y,hy,rfl⟩
   obtain⟨z,hz,rfl⟩:=List.mem_map.1 ((hmem y).1 hy);exact hz
  ·
   intro hx;exact⟨x.l,(hmem _).2 (List.mem_map.2 ⟨x,hx,rfl⟩),rfl⟩
theorem QR(xs:List Str):(Yc xs).length<=xs.length:=by
 unfold Yc qt;rw[List.length_map,sortS_l];refine Nat.le_trans (Lib.compact_length_le _) ?_;simp
theorem sorted_eq{xs:List Str}(h:xs.length<=1099511627776):q8 xs=some (Yc xs):=by
 have h2:=QR xs;unfold q8 yY;rw[if_pos (by omega),obS];unfold yB;rw[if_pos (by rw[Qi];omega),obS];show(appO 16 [] (Yc xs)).bind (λ v11=>some v11)=_;rw[Zx (by simp;omega) (by simp;omega)];rfl
theorem gtr_lt{x y:Str}:cmpS .gtr x y=decide (y.l<x.l):=by
 show(!(Op.bytesLess x.l y.l||decide (x=y)))=_;rw[bytesLt];by_cases h:x=y
 ·
  subst h;simp[List.lt_irrefl]
 ·
  have hne:x.l≠y.l:=λ e=>h (by cases x;cases y;simp_all)
  by_cases h2:x.l<y.l
  ·
   have:¬ y.l<x.l:=λ h3=>List.lt_irrefl _ (List.lt_trans h2 h3)
   simp[h2,this]
  ·
   have:y.l<x.l:=Y5 (List.not_lt.1 h2) (Ne.symm hne);simp[h,h2,this]
theorem insPos_le(l:List Str)(s:Str):∀ k,wx l s k<=k
 | 0=>Nat.le_refl _
 |
  k+1=>by
  unfold wx;split
  ·
   split
   ·
    have:=insPos_le l s k;omega
   ·
    exact Nat.le_refl _
  ·
   exact Nat.le_refl _
theorem QS{l:List Str}{s:Str}:∀ k,k<=l.length->(∀ j y,l[j]?=some y->wx l s k<=j->j<k->s.l<y.l)/\(∀ y,0<wx l s k->l[wx l s k - 1]?=some y->¬ s.l<y.l)
 | 0,_=>⟨λ j _ _ _ h=>absurd h (by omega),λ _ h=>absurd h (by simp[wx])⟩
 |
  k+1,hk=>by
  have hx:l[k]?=some l[k]:=List.getElem?_eq_getElem (by omega);by_cases h:s.l<l[k].l
  ·
   have e:wx l s (k+1)=wx l s k:=by
    conv=>lhs;unfold wx
    rw[hx];simp only;rw[gtr_lt,if_pos (decide_eq_true h)]
   rw[e];obtain⟨h1,h2⟩:=QS (l:=l) (s:=s) k (by omega);refine⟨λ j y hj hj1 hj2=>?_,h2⟩;by_cases e:j=k
   ·
    subst e;rw[hx] at hj;injection hj with hj;rw[← hj];exact h
   ·
    exact h1 j y hj hj1 (by omega)
  ·
   have e:wx l s (k+1)=k+1:=by
    unfold wx;rw[hx];simp only;rw[gtr_lt,if_neg (by simpa using h)]
   rw[e];refine⟨λ j _ _ h1 h2=>by omega,λ y _ hy=>?_⟩;rw[Nat.add_sub_cancel,hx] at hy;injection hy with hy;rw[← hy];exact h
theorem insertT_asc{l:List Str}{s:Str}(hl:Asc l):Asc (xC l s):=by
 unfold xC;cases hc:xB l s with
 | true=>exact hl
 |
  false=>
  rw[if_neg (by decide)];have hns:s ∉ l:=λ h=>by rw[QQ.2 h] at hc;cases hc
  obtain⟨h1,h2⟩:=QS (l:=l) (s:=s) l.length (Nat.le_refl _);have hle:=insPos_le l s l.length;generalize wx l s l.length=p at*;have hpw:=List.pairwise_iff_getElem.1 hl;have hlow:∀ a∈l.take p,a.l<s.l:=by
   intro a ha;obtain⟨i,hi,rfl⟩:=List.mem_take_iff_getElem.1 ha;have hp:=h2 l[p - 1] (by omega) (List.getElem?_eq_getElem (by omega));have hlt:l[p - 1].l<s.l:=Y5 (List.not_lt.1 hp) λ e=>hns (by
    have:l[p - 1]=s:=by
     cases hq:l[p - 1] with
     | mk q=>rw[hq] at e;cases s;simp_all
    rw[← this];exact List.getElem_mem _)
   by_cases e:i=p - 1
   ·
    subst e;exact hlt
   ·
    exact List.lt_trans (hpw i (p - 1) (by omega) (by omega) (by omega)) hlt
  have hhigh:∀ b∈l.drop p,s.l<b.l:=by
   intro b hb;obtain⟨i,hi,rfl⟩:=List.mem_drop_iff_getElem.1 hb;exact h1 _ _ (List.getElem?_eq_getElem _) (by omega) (by omega)
  unfold Asc;rw[List.append_assoc,List.pairwise_append];refine⟨hl.sublist (List.take_sublist _ _),?_,λ a ha b hb=>?_⟩
  ·
   rw[List.singleton_append,List.pairwise_cons];exact⟨hhigh,hl.sublist (List.drop_sublist _ _)⟩
  ·
   rw[List.singleton_append,List.mem_cons] at hb;rcases hb with rfl | hb
   ·
    exact hlow a ha
   ·
    exact List.lt_trans (hlow a ha) (hhigh b hb)
theorem insertAll_asc{m l:List Str}(hl:Asc l):Asc (m.foldl xC l):=by
 induction m generalizing l with
 | nil=>exact hl
 | cons x m ih=>rw[List.foldl_cons];exact ih (insertT_asc hl)
section
variable{S β:Type}
theorem WI{step:S->Option (S⊕β)}(n:Nat)(mk:Nat->S){b:β}(h:∀ k,k<n->step (mk k)=some (.inl (mk (k+1))))(hend:step (mk n)=some (.inr b))(hn:n<576460752303423488){s:S}(hs:s=mk 0):zJ step s=some b:=by
 subst hs;have key:∀ m k,k+m=n->wS step (m+1) (mk k)=some b:=by
  intro m
  induction m with
  | zero=>intro k hk;rw[show k=n by omega];exact wM hend
  | succ m ih=>intro k hk;rw[qR (h k (by omega))];exact ih (k+1) (by omega)
 exact Zo (key n 0 (by omega)) (by omega)
end
theorem Zq{α:Type}{l:List α}{k:Nat}(h:k<l.length):∃ x,l[k]?=some x/\x∈l:=⟨l[k],List.getElem?_eq_getElem h,List.getElem_mem h⟩
theorem Xi{t:Tree}(h:yf t=true):t.files.length<=12:=by
 unfold yf at h;rw[Bool.and_eq_true] at h;have:=h.2;simp[cmpI] at this;omega
open Go.RowKit
def Okd{α:Type}[Rep α](x:α):Prop:=∃ M w cs,Rep.rdc M w cs x
section
variable{α β:Type}[Rep α][Rep β]
theorem Okd.fld{get:α->β}{off:Nat}(f:Fld get off){x:α}(h:Okd x):Okd (get x):=by
 obtain⟨M,w,cs,hr⟩:=h;obtain⟨c,_,h2⟩:=f.sub hr;exact⟨M,w,c,h2⟩
theorem Okd.str{s:Str}(h:Okd s):s.l.length<=9223372036854775807:=by
 obtain⟨M,w,cs,hr⟩:=h;exact hr.2
theorem Okd.len{xs:List α}(h:Okd xs):xs.length<=9223372036854775807:=by
 obtain⟨M,w,cs,A,c,_,h1,h2,_⟩:=h;exact Nat.le_trans h1 h2
theorem rowR_okd{M:Nat->Prop}{w:World}:∀ {cells:List Value} {xs:List α},rowR M w cells xs->∀ x∈xs,Okd x
 | _,_::_,⟨c,_r,_,h1,h2⟩,x,hx=>(List.mem_cons.1 hx).elim (λ e=>e ▸ ⟨M,w,c,h1⟩) (rowR_okd h2 x)
theorem Okd.mem{xs:List α}(h:Okd xs){x:α}(hx:x∈xs):Okd x:=by
 obtain⟨M,w,cs,A,c,_,_,_,h3⟩:=h;rcases h3 with h3 | ⟨b,o,cells,_,_,_,hr⟩
 ·
  rw[h3] at hx;cases hx
 ·
  exact rowR_okd hr x hx
theorem RdAll.okd{M:Nat->Prop}{w:World}{vs:List Value}{xs:List Dt}(hr:RdAll M w vs xs){x:α}(hx:dt x∈xs):Okd x:=by
 induction hr with
 | nil=>cases hx
 |
  cons h r ih=>
  rcases List.mem_cons.1 hx with e | hx
  ·
   rw[← e] at h;obtain⟨cs,h1,_⟩:=h;exact⟨M,w,cs,h1⟩
  ·
   exact ih hx
theorem Fn.okd{P:Program}{f:FuncId}{xs:List Dt}{y:Dt}{x:α}(hx:dt x∈xs)(h:Okd x->Fn P f xs y):Fn P f xs y:=λ M w vs hm hr=>h (hr.okd hx) M w vs hm hr
end
section
variable{α β σ S:Type}
theorem neq_len{m n:Nat}:cmpI .neq (m:Int) (n:Int)=!decide (m=n):=by
 by_cases h:m=n
 ·
  simp[cmpI,h]
 ·
  simp[cmpI,h];omega
theorem set_at{xs:List α}{z:α}{k:Nat}(hk:k<xs.length):(xs.take k++List.replicate (xs.length - k) z).set k xs[k]=xs.take (k+1)++List.replicate (xs.length - (k+1)) z:=by
 rw[List.set_append_right _ _ (by rw[List.length_take];omega),List.length_take,Nat.min_eq_left (by omega),Nat.sub_self,show xs.length - k=(xs.length - (k+1))+1 by omega,List.replicate_succ,List.set_cons_zero,List.take_add_one,List.getElem?_eq_getElem hk];simp only[Option.toList_some,List.append_assoc,List.singleton_append]
theorem at_at{xs:List α}{z:α}{k:Nat}(hk:k<xs.length):(xs.take k++List.replicate (xs.length - k) z)[k]?=some z:=by
 rw[List.getElem?_append_right (by rw[List.length_take];omega),List.length_take,Nat.min_eq_left (by omega),Nat.sub_self,List.getElem?_replicate,if_pos (by omega)]
theorem len_at{xs:List α}{z:α}{k:Nat}(hk:k<xs.length):k<(xs.take k++List.replicate (xs.length - k) z).length:=by
 rw[List.length_append,List.length_take,List.length_replicate];omega
theorem XA{step:List α×Int->Option ((List α×Int)⊕List α)}(xs:List α)(z:α)
  (h:∀ k (hk:k<xs.length),step (xs.take k++List.replicate (xs.length - k) z,(k:Int))=some (.inl ((xs.take k++List.replicate (xs.length - k) z).set k xs[k],((k+1:Nat):Int))))
  (hend:∀ ys,step (ys,(xs.length:Int))=some (.inr ys)) (hlen:xs.length<576460752303423488) {s0:List α×Int} (h0:s0=(List.replicate xs.length z,0)):zJ step s0=some xs:=by
 have key:∀ m k,k+m=xs.length->wS step (m+1) (xs.take k++List.replicate (xs.length - k) z,(k:Int))=some xs:=by
  intro m
  induction m with
  |
   zero=>
   intro k hk;have:k=xs.length:=by omega
   subst this;rw[wM (hend _)];simp
  |
   succ m ih=>
   intro k hk;have hlt:k<xs.length:=by omega
   rw[qR (h k hlt),set_at hlt];exact ih (k+1) (by omega)
 have h1:=key xs.length 0 (by omega);subst h0;exact Zo (by simpa using h1) (by omega)
theorem Ws{size bytes n:Nat}{z:α}(h1:n*size<=16777216)(h2:bytes*n<=281474976710656)(h3:n<=9223372036854775807):YX size bytes (n:Int) z=some (List.replicate n z):=by
 unfold YX;rw[if_pos ⟨by omega,by simpa using h1,by simpa using h2,by omega⟩];simp
theorem eq_loop[DecidableEq α]{step:Int->Option (Int⊕(Unit⊕Bool))}(xs ys:List α)(hxy:xs.length=ys.length)
  (h:∀ k (hk:k<xs.length) (hk2:k<ys.length),step (k:Int)=some (if xs[k]=ys[k] then .inl ((k+1:Nat):Int) else .inr (.inr false)))
  (hend:step (xs.length:Int)=some (.inr (.inl ()))) (hlen:xs.length<576460752303423488):Option.bind (α:=Unit⊕Bool) (zJ step 0) (Sum.elim (λ _=>some true) some)=some (decide (xs=ys)):=by
 have key:∀ m k,k+m=xs.length->xs.take k=ys.take k->∃ r,wS step (m+1) (k:Int)=some r/\(Sum.elim (λ _=>some true) some r:Option Bool)=some (decide (xs=ys)):=by
  intro m
  induction m with
  |
   zero=>
   intro k hk he;have:k=xs.length:=by omega
   subst this;refine⟨_,wM hend,?_⟩;rw[List.take_length,hxy,List.take_length] at he;simp[he]
  |
   succ m ih=>
   intro k hk he;have hlt:k<xs.length:=by omega
   have hlt2:k<ys.length:=by omega
   have hs:=h k hlt hlt2;by_cases e:xs[k]=ys[k]
   ·
    rw[if_pos e] at hs;rw[qR hs];refine ih (k+1) (by omega) ?_;rw[List.take_add_one,List.take_add_one,he,List.getElem?_eq_getElem hlt,List.getElem?_eq_getElem hlt2,e]
   ·
    rw[if_neg e] at hs;refine⟨_,wM hs,?_⟩;have:xs≠ys:=λ h=>by subst h;exact e rfl
    simp[this]
 obtain⟨r,h1,h2⟩:=key xs.length 0 (by omega) rfl;have h1':wS step (xs.length+1) (0:Int)=some r:=h1;rw[Zo h1' (by omega),obS];exact h2
def szR(t:Nat)(left:Int):Int:=if(t:Int)<=left then left - t else -1
theorem szR_neg{t:Nat}{left:Int}:szR t left<0 ↔ left<t:=by unfold szR;split <;> omega
theorem szR_nn{t:Nat}{left:Int}(h:0<=szR t left):(t:Int)<=left/\szR t left=left - t:=by
 unfold szR at h ⊢;split at h
 ·
  rename_i h1;rw[if_pos h1];exact⟨h1,rfl⟩
 ·
  omega
def sumL(f:α->Nat):List α->Nat
 | []=>0
 | x::xs=>f x+sumL f xs
theorem Zr{f:α->Nat}:∀ {xs:List α} {x:α},x∈xs->f x<=sumL f xs
 |
  y::ys,x,hx=>by
  unfold sumL;rcases List.mem_cons.1 hx with rfl | hx
  ·
   omega
  ·
   have:=Zr (f:=f) hx;omega
theorem sumL_drop{f:α->Nat}{xs:List α}{k:Nat}(hk:k<xs.length):sumL f (xs.drop k)=f xs[k]+sumL f (xs.drop (k+1)):=by
 rw[List.drop_eq_getElem_cons hk];rfl
theorem sz_loop{step:Int×Int->Option ((Int×Int)⊕(Int⊕Int))}(xs:List α)(f:α->Nat)
  (h:∀ k (hk:k<xs.length) (l:Int),0<=l->l<=1048576->step (l,(k:Int))=some (if szR (f xs[k]) l<0 then .inr (.inr (-1)) else .inl (szR (f xs[k]) l,((k+1:Nat):Int))))
  (hend:∀ l,step (l,(xs.length:Int))=some (.inr (.inl l))) (hlen:xs.length<576460752303423488) {l0:Int} (h0:0<=l0) (h1:l0<=1048576):
  Option.bind (α:=Int⊕Int) (zJ step (l0,0)) (Sum.elim (λ l=>some l) some)=some (szR (sumL f xs) l0):=by
 have key:∀ m k l,k+m=xs.length->0<=l->l<=1048576->∃ r,wS step (m+1) (l,(k:Int))=some r/\(Sum.elim (λ l=>some l) some r:Option Int)=some (szR (sumL f (xs.drop k)) l):=by
  intro m
  induction m with
  |
   zero=>
   intro k l hk hl hl2;have:k=xs.length:=by omega
   subst this;refine⟨_,wM (hend l),?_⟩;rw[List.drop_length];show some l=some (szR 0 l)
   congr 1
   unfold szR;rw[if_pos (by omega)];simp
  |
   succ m ih=>
   intro k l hk hl hl2;have hlt:k<xs.length:=by omega
   have hs:=h k hlt l hl hl2;rw[sumL_drop hlt];by_cases e:szR (f xs[k]) l<0
   ·
    rw[if_pos e] at hs;refine⟨_,wM hs,?_⟩;show some (-1:Int)=_
    congr 1
    rw[szR_neg] at e;unfold szR;rw[if_neg (by omega)]
   ·
    rw[if_neg e] at hs;obtain⟨e1,e2⟩:=szR_nn (t:=f xs[k]) (left:=l) (by omega);obtain⟨r,r1,r2⟩:=ih (k+1) (szR (f xs[k]) l) (by omega) (by omega) (by omega);refine⟨r,by rw[qR hs];exact r1,?_⟩;rw[r2]
    congr 1
    rw[e2];unfold szR;by_cases e3:(sumL f (xs.drop (k+1)):Int)<=l - f xs[k]
    ·
     rw[if_pos e3,if_pos (by omega)];omega
    ·
     rw[if_neg e3,if_neg (by omega)]
 obtain⟨r,r1,r2⟩:=key xs.length 0 l0 (by omega) h0 h1;have r1':wS step (xs.length+1) (l0,(0:Int))=some r:=r1;rw[Zo r1' (by omega),obS];simpa using r2
theorem QE{T:Type}{step:List α×Int×Int->Option ((List α×Int×Int)⊕T)}(fin:List α->Int->T){held:List α->Int×Int->Option ((Int×Int)⊕(Int⊕Int))}(xs:List α)(B:Nat)(C:Int)
  (h:∀ (ys:List α) (k:Int) (i:Nat) (hi:i<ys.length),ys.length=xs.length->ys[i]∈xs->0<=k->k<=C->∃ y k',step (ys,k,(i:Int))=some (.inl (ys.set i y,k',((i+1:Nat):Int)))/\k<=k'/\k'<=k+B/\
   ∀ zs:List α,zs.length=xs.length->zs[i]?=some y->held zs (k,(i:Int))=some (.inl (k',((i+1:Nat):Int))))
  (hend:∀ (ys:List α) (k:Int),ys.length=xs.length->step (ys,k,(xs.length:Int))=some (.inr (fin ys k)))
  (hend2:∀ (ys:List α) (k:Int),ys.length=xs.length->held ys (k,(xs.length:Int))=some (.inr (.inl k)))
  (hlen:xs.length<576460752303423488) {k0:Int} (h0:0<=k0) (hB:k0+B*xs.length<=C):
  ∃ ys k',zJ step (xs,k0,0)=some (fin ys k')/\ys.length=xs.length/\k0<=k'/\k'<=k0+B*xs.length/\zJ (held ys) (k0,0)=some (.inl k'):=by
 have key:∀ m i (ys:List α) (k:Int),i+m=xs.length->ys.length=xs.length->(∀ j,i<=j->ys[j]?=xs[j]?)->0<=k->k+B*m<=C->
   ∃ ys' k',wS step (m+1) (ys,k,(i:Int))=some (fin ys' k')/\ys'.length=xs.length/\ys'.take i=ys.take i/\k<=k'/\k'<=k+B*m/\wS (held ys') (m+1) (k,(i:Int))=some (.inl k'):=by
  intro m
  induction m with
  |
   zero=>
   intro i ys k hi hl hd hk hB;have:i=xs.length:=by omega
   subst this;exact⟨ys,k,wM (hend ys k hl),hl,rfl,by omega,by omega,wM (hend2 ys k hl)⟩
  |
   succ m ih=>
   intro i ys k hi hl hd hk hB;have hlt:i<ys.length:=by omega
   have hlt2:i<xs.length:=by omega
   have hm:ys[i]∈xs:=by
    have h1:=hd i (Nat.le_refl _);rw[List.getElem?_eq_getElem hlt,List.getElem?_eq_getElem hlt2] at h1;injection h1 with h1;rw[h1];exact List.getElem_mem hlt2
   have hBm:(B:Int)*((m+1:Nat):Int)=B*m+B:=by
    rw[Int.natCast_add,Int.mul_add];simp
   have hBm0:(0:Int)<=B*m:=Int.mul_nonneg (by omega) (by omega);obtain⟨y,k',h1,h2,h3,h4⟩:=h ys k i hlt hl hm hk (by omega);obtain⟨ys',k2,r1,r2,r3,r4,r5,r6⟩:=ih (i+1) (ys.set i y) k' (by omega) (by rw[List.length_set];exact hl) (λ j hj=>by rw[List.getElem?_set_ne (by omega)];exact hd j (by omega)) (by omega) (by omega);have hy:ys'[i]?=some y:=by
    have e1:=congrArg (λ l=>l[i]?) r3;simp only[List.getElem?_take,if_pos (Nat.lt_succ_self i)] at e1;rw[e1,List.getElem?_set_self hlt]
   refine⟨ys',k2,by rw[qR h1];exact r1,r2,?_,by omega,by omega,by rw[qR (h4 ys' r2 hy)];exact r6⟩;apply List.ext_getElem?;intro j;rw[List.getElem?_take,List.getElem?_take];by_cases hj:j<i
   ·
    rw[if_pos hj,if_pos hj];have e1:=congrArg (λ l=>l[j]?) r3;simp only[List.getElem?_take,if_pos (show j<i+1 by omega)] at e1;rw[e1,List.getElem?_set_ne (by omega)]
   ·
    rw[if_neg hj,if_neg hj]
 obtain⟨ys',k',r1,r2,_,r4,r5,r6⟩:=key xs.length 0 xs k0 (by omega) rfl (λ _ _=>rfl) h0 hB;exact⟨ys',k',Zo r1 (by omega),r2,r4,r5,Zo r6 (by omega)⟩
theorem mark_only{T:Type}{step:List α×Int×Int->Option ((List α×Int×Int)⊕T)}(fin:List α->Int->T)(xs:List α)(B:Nat)(C:Int)
  (h:∀ (ys:List α) (k:Int) (i:Nat) (hi:i<ys.length),ys.length=xs.length->ys[i]∈xs->0<=k->k<=C->∃ y k',step (ys,k,(i:Int))=some (.inl (ys.set i y,k',((i+1:Nat):Int)))/\k<=k'/\k'<=k+B)
  (hend:∀ (ys:List α) (k:Int),ys.length=xs.length->step (ys,k,(xs.length:Int))=some (.inr (fin ys k)))
  (hlen:xs.length<576460752303423488) {k0:Int} (h0:0<=k0) (hB:k0+B*xs.length<=C):
  ∃ ys k',zJ step (xs,k0,0)=some (fin ys k')/\ys.length=xs.length/\k0<=k'/\k'<=k0+B*xs.length:=by
 have key:∀ m i (ys:List α) (k:Int),i+m=xs.length->ys.length=xs.length->(∀ j,i<=j->ys[j]?=xs[j]?)->0<=k->k+B*m<=C->
   ∃ ys' k',wS step (m+1) (ys,k,(i:Int))=some (fin ys' k')/\ys'.length=xs.length/\k<=k'/\k'<=k+B*m:=by
  intro m
  induction m with
  |
   zero=>
   intro i ys k hi hl hd hk hB;have:i=xs.length:=by omega
   subst this;exact⟨ys,k,wM (hend ys k hl),hl,by omega,by omega⟩
  |
   succ m ih=>
   intro i ys k hi hl hd hk hB;have hlt:i<ys.length:=by omega
   have hlt2:i<xs.length:=by omega
   have hm:ys[i]∈xs:=by
    have h1:=hd i (Nat.le_refl _);rw[List.getElem?_eq_getElem hlt,List.getElem?_eq_getElem hlt2] at h1;injection h1 with h1;rw[h1];exact List.getElem_mem hlt2
   have hBm:(B:Int)*((m+1:Nat):Int)=B*m+B:=by
    rw[Int.natCast_add,Int.mul_add];simp
   have hBm0:(0:Int)<=B*m:=Int.mul_nonneg (by omega) (by omega);obtain⟨y,k',h1,h2,h3⟩:=h ys k i hlt hl hm hk (by omega);obtain⟨ys',k2,r1,r2,r4,r5⟩:=ih (i+1) (ys.set i y) k' (by omega) (by rw[List.length_set];exact hl) (λ j hj=>by rw[List.getElem?_set_ne (by omega)];exact hd j (by omega)) (by omega) (by omega);exact⟨ys',k2,by rw[qR h1];exact r1,r2,by omega,by omega⟩
 obtain⟨ys',k',r1,r2,r4,r5⟩:=key xs.length 0 xs k0 (by omega) rfl (λ _ _=>rfl) h0 hB;exact⟨ys',k',Zo r1 (by omega),r2,r4,r5⟩
end
open Go.RowKit
section
variable{α:Type}
theorem J8{len:Nat}{l:Int}(hl:0<=l)(h2:l<=1048576)(hlen:len<=9223372036854775807){K:Int->Option Int}{t:Nat}(hK:∀ l',0<=l'->l'<=1048576->K l'=some (szR t l')):
  ((i64 (l - (len:Int))).bind λ v=>if cmpI .lss v (0:Int)=true then some (-1:Int) else K v)=some (szR (len+t) l):=by
 rw[ZT (by omega) (by omega),obS];cases h:cmpI .lss (l - (len:Int)) 0 with
 |
  true=>
  have h':l - (len:Int)<0:=oD h;rw[if_pos rfl];unfold szR;rw[if_neg (by omega)]
 |
  false=>
  have h':¬ l - (len:Int)<0:=of_decide_eq_false h;rw[if_neg (by decide),hK _ (by omega) (by omega)]
  congr 1
  unfold szR;by_cases e:(t:Int)<=l - len
  ·
   rw[if_pos e,if_pos (by omega)];omega
  ·
   rw[if_neg e,if_neg (by omega)]
theorem WJ{t1 t:Nat}{l:Int}{m:Option Int}(hl:0<=l)(h2:l<=1048576)(hm:m=some (szR t1 l)){K:Int->Option Int}(hK:∀ l',0<=l'->l'<=1048576->K l'=some (szR t l')):
  (m.bind λ v=>if cmpI .lss v (0:Int)=true then some (-1:Int) else K v)=some (szR (t1+t) l):=by
 rw[hm,obS];cases h:cmpI .lss (szR t1 l) 0 with
 |
  true=>
  have h':szR t1 l<0:=oD h;rw[szR_neg] at h';rw[if_pos rfl];unfold szR;rw[if_neg (by omega)]
 |
  false=>
  have h':¬ szR t1 l<0:=of_decide_eq_false h;obtain⟨e1,e2⟩:=szR_nn (t:=t1) (left:=l) (by omega);rw[if_neg (by decide),hK _ (by omega) (by omega),e2]
  congr 1
  unfold szR;by_cases e:(t:Int)<=l - t1
  ·
   rw[if_pos e,if_pos (by omega)];omega
  ·
   rw[if_neg e,if_neg (by omega)]
theorem WK{l:Int}(h:0<=l):some l=some (szR 0 l):=by
 congr 1
 unfold szR;rw[if_pos (by omega)];simp
theorem J9{step:Int×Int->Option ((Int×Int)⊕(Int⊕Int))}{xs:List α}{f:α->Nat}{l:Int}(hlen:xs.length<=9223372036854775807)
  (h:∀ k (hk:k<xs.length) (l:Int),xs.length<=1048576->0<=l->l<=1048576->step (l,(k:Int))=some (if szR (f xs[k]) l<0 then .inr (.inr (-1)) else .inl (szR (f xs[k]) l,((k+1:Nat):Int))))
  (hend:∀ l,step (l,(xs.length:Int))=some (.inr (.inl l))) (hl:0<=l) (h2:l<=1048576):
  ((i64 (l - (xs.length:Int))).bind λ v=>if cmpI .lss v (0:Int)=true then some (-1:Int) else Option.bind (α:=Int⊕Int) (zJ step (v,(0:Int))) (Sum.elim (λ b=>some b) some))=some (szR (xs.length+sumL f xs) l):=by
 rw[ZT (by omega) (by omega),obS];cases hc:cmpI .lss (l - (xs.length:Int)) 0 with
 |
  true=>
  have h':l - (xs.length:Int)<0:=oD hc;rw[if_pos rfl];unfold szR;rw[if_neg (by omega)]
 |
  false=>
  have h':¬ l - (xs.length:Int)<0:=of_decide_eq_false hc;rw[if_neg (by decide),sz_loop xs f (λ k hk l h3 h4=>h k hk l (by omega) h3 h4) hend (by omega) (by omega) (by omega)]
  congr 1
  unfold szR;by_cases e:(sumL f xs:Int)<=l - xs.length
  ·
   rw[if_pos e,if_pos (by omega)];omega
  ·
   rw[if_neg e,if_neg (by omega)]
variable{q:Prop}[Decidable q]{K:Option Bool}
theorem Zz{a b:Int}(hK:K=some (decide q)):(if cmpI .neq a b=true then some false else K)=some (decide (a=b/\q)):=by
 rw[hK];by_cases h:a=b
 ·
  simp[cmpI,h]
 ·
  simp[cmpI,h]
theorem Qa{a b:Str}(hK:K=some (decide q)):(if decide (a≠b)=true then some false else K)=some (decide (a=b/\q)):=by
 rw[hK];by_cases h:a=b
 ·
  simp[h]
 ·
  simp[h]
theorem eqS_bool{a b:Bool}(hK:K=some (decide q)):(if(a != b)=true then some false else K)=some (decide (a=b/\q)):=by
 rw[hK];by_cases h:a=b
 ·
  simp[h]
 ·
  simp[h]
theorem XR[DecidableEq α]{a b:α}{m:Option Bool}(hm:m=some (decide (a=b)))(hK:K=some (decide q)):(m.bind λ v=>if(!v)=true then some false else K)=some (decide (a=b/\q)):=by
 rw[hm,hK,obS];by_cases h:a=b
 ·
  simp[h]
 ·
  simp[h]
theorem XS:some true=some (decide True):=by simp
theorem Wt[DecidableEq α]{step:Int->Option (Int⊕(Unit⊕Bool))}{xs ys:List α}
  (h:∀ k (hk:k<xs.length) (hk2:k<ys.length),step (k:Int)=some (if xs[k]=ys[k] then .inl ((k+1:Nat):Int) else .inr (.inr false)))
  (hend:step (xs.length:Int)=some (.inr (.inl ()))) (hlen:xs.length<576460752303423488):
  (if cmpI .neq (xs.length:Int) (ys.length:Int)=true then some false else Option.bind (α:=Unit⊕Bool) (zJ step 0) (Sum.elim (λ _=>some true) some))=some (decide (xs=ys)):=by
 rw[neq_len];by_cases e:xs.length=ys.length
 ·
  rw[if_neg (by simp[e]),eq_loop xs ys e h hend hlen]
 ·
  rw[if_pos (by simp[e])];have:xs≠ys:=λ h=>e (by rw[h])
  simp[this]
end
theorem i64_in{n:Int}(h1:0<=n)(h2:n<=4611686018427387904):i64 n=some n:=ZT (by omega) (by omega)
theorem modO_of{m n:Int}(h:n≠0):modO m n=some (m.tmod n):=if_neg h
theorem divO_of{m n:Int}(h:n≠0)(h2:0<=m.tdiv n)(h3:m.tdiv n<=9223372036854775807):divO m n=some (m.tdiv n):=if_neg (by omega)
theorem jO{α:Type}{xs:List α}{k:Nat}(hk:k<xs.length):cmpI .lss (k:Int) (xs.length:Int)=true:=by rw[zL];exact decide_eq_true hk
theorem qm{α:Type}{xs:List α}:cmpI .lss (xs.length:Int) (xs.length:Int)=false:=by rw[zL];simp
theorem lss_at'{α:Type}{xs:List α}{n k:Nat}(h:xs.length=n)(hk:k<n):cmpI .lss (k:Int) (xs.length:Int)=true:=by rw[zL];exact decide_eq_true (by omega)
theorem Ym{α:Type}{xs:List α}{n:Nat}(h:xs.length=n):cmpI .lss (n:Int) (xs.length:Int)=false:=by rw[zL,h];simp
theorem wi{α:Type}{xs:List α}{k:Nat}(hk:k<xs.length):atI xs (k:Int)=some xs[k]:=by rw[zY,List.getElem?_eq_getElem hk]
theorem qc(k:Nat):(k:Int).toNat=k:=rfl
open Go.RowKit
def txt(k:Int):Str:=(zZ k).getD ⟨[]⟩
theorem Wu(n:Int):cmpI .neq n n=false:=by simp[cmpI]
theorem markText_ex{k:Int}(h1:0<=k)(h2:k<=4611686018427387904):∃ s,zZ k=some s:=by
 unfold zZ;by_cases hk:k<=0
 ·
  rw[if_pos (by simp[cmpI,hk])];exact⟨_,rfl⟩
 ·
  rw[if_neg (by simp[cmpI];omega)];have key:∀ (m:Nat) (n:Int) (s:Str),0<=n->n<10 ^ m->n<=4611686018427387904->m<=20->(s.l.length:Int)<=40 - m->∃ o,wS (λ s8=>yw s8) (m+1) (n,s)=some o/\o.l.length<=40:=by
   intro m
   induction m with
   |
    zero=>
    intro n s h1 h2 _ _ h4;have hn:n=0:=by simp at h2;omega
    subst hn;refine⟨s,wM ?_,by omega⟩;unfold yw;rfl
   |
    succ m ih=>
    intro n s h1 h2 hb h3 h4;have h5:n.tdiv 10=n / 10:=Int.tdiv_eq_ediv_of_nonneg h1;have h6:n.tmod 10=n % 10:=Int.tmod_eq_emod_of_nonneg h1;by_cases hn:n<=0
    ·
     refine⟨s,wM ?_,by omega⟩;unfold yw;rw[if_neg (by simp[cmpI];omega)]
    ·
     have hs:yw (n,s)=some (.inl (n / 10,⟨[toB (48+n % 10)]++s.l⟩)):=by
      unfold yw;simp only;rw[if_pos (by simp[cmpI];omega),modO_of (by decide),obS,h6,ZT (by omega) (by omega),obS,Yx (by simp;omega),obS,divO_of (by decide) (by omega) (by omega),h5];rfl
     rw[qR hs];refine ih (n / 10) _ (by omega) ?_ (by omega) (by omega) (by simp;omega);have:(10:Int) ^ (m+1)=10*10 ^ m:=by rw[Int.pow_succ];omega
     omega
  have e:(10:Int) ^ 19=10000000000000000000:=by decide
  obtain⟨o,ho,hl⟩:=key 19 k ⟨[]⟩ h1 (by omega) h2 (by omega) (by simp);rw[Zo ho (by decide),obS,Yx (by simp;omega)];exact⟨_,rfl⟩
theorem jI{k:Int}(h1:0<=k)(h2:k<=4611686018427387904):zZ k=some (txt k):=by
 obtain⟨s,hs⟩:=markText_ex h1 h2;rw[txt,hs];rfl
def XT(x:Stmt):Nat:=x.module.l.length+(x.name.l.length+(0))
theorem szStmt_eq{x:Stmt}{l:Int}(h0:Okd x)(hl:0<=l)(h2:l<=1048576):Za x l=some (szR (XT x) l):=by
 unfold Za XT;exact J8 hl h2 ((h0.fld Stmt.fld1)).str (λ v1 l1 u1=>J8 l1 u1 ((h0.fld Stmt.fld3)).str (λ v2 l2 u2=>WK l2))
def Zs(xs:List Stmt):Nat:=xs.length+sumL XT xs
theorem Wv{x:List Stmt}{n:Nat}(h:Zs x<=n):x.length<=n:=by unfold Zs at h;omega
theorem szStmtS_eq{x:List Stmt}{l:Int}(h0:Okd x)(hl:0<=l)(h2:l<=1048576):qy x l=some (szR (Zs x) l):=by
 unfold qy Zs;refine J9 h0.len (λ k hk l hn h3 h4=>?_) (λ l=>?_) hl h2
 ·
  unfold wW;simp only[jO hk,if_true,wi hk,obS,szStmt_eq (h0.mem (List.getElem_mem hk)) h3 h4];by_cases e:szR (XT x[k]) l<0
  ·
   rw[if_pos (by simp[cmpI,e]),if_pos e]
  ·
   rw[if_neg (by simp[cmpI];omega),if_neg e,zH (by omega)];rfl
 ·
  unfold wW;rw[qm];rfl
def jP(x:File):Nat:=x.pkg.l.length+(x.name.l.length+(Zs x.body+(0)))
theorem szFile_eq{x:File}{l:Int}(h0:Okd x)(hl:0<=l)(h2:l<=1048576):Zb x l=some (szR (jP x) l):=by
 unfold Zb jP;exact J8 hl h2 ((h0.fld File.fld1)).str (λ v1 l1 u1=>J8 l1 u1 ((h0.fld File.fld2)).str (λ v2 l2 u2=>WJ l2 u2 (szStmtS_eq (h0.fld File.fld5) l2 u2) (λ v3 l3 u3=>WK l3)))
def qJ(xs:List File):Nat:=xs.length+sumL jP xs
theorem szFileS_eq{x:List File}{l:Int}(h0:Okd x)(hl:0<=l)(h2:l<=1048576):qz x l=some (szR (qJ x) l):=by
 unfold qz qJ;refine J9 h0.len (λ k hk l hn h3 h4=>?_) (λ l=>?_) hl h2
 ·
  unfold wX;simp only[jO hk,if_true,wi hk,obS,szFile_eq (h0.mem (List.getElem_mem hk)) h3 h4];by_cases e:szR (jP x[k]) l<0
  ·
   rw[if_pos (by simp[cmpI,e]),if_pos e]
  ·
   rw[if_neg (by simp[cmpI];omega),if_neg e,zH (by omega)];rfl
 ·
  unfold wX;rw[qm];rfl
def ZA(x:Tree):Nat:=qJ x.files+(0)
theorem szTree_eq{x:Tree}{l:Int}(h0:Okd x)(hl:0<=l)(h2:l<=1048576):Zc x l=some (szR (ZA x) l):=by
 unfold Zc ZA;exact WJ hl h2 (szFileS_eq (h0.fld Tree.fld0) hl h2) (λ v1 l1 u1=>WK l1)
def wc(xs:List Str):Nat:=xs.length+sumL (λ s:Str=>s.l.length) xs
theorem Xj{x:List Str}{n:Nat}(h:wc x<=n):x.length<=n:=by unfold wc at h;omega
def jQ(x:Dir):Nat:=x.pkg.l.length+(wc x.names+(0))
theorem szStringS_eq{x:List Str}{l:Int}(h0:Okd x)(hl:0<=l)(h2:l<=1048576):jw x l=some (szR (wc x) l):=by
 unfold jw wc;refine J9 h0.len (λ k hk l hn h3 h4=>?_) (λ l=>?_) hl h2
 ·
  have h5:=(h0.mem (List.getElem_mem hk)).str;unfold we;simp only[jO hk,if_true,wi hk,obS];rw[ZT (by omega) (by omega),obS];unfold szR;by_cases e:((x[k].l.length:Nat):Int)<=l
  ·
   rw[if_pos e,if_neg (by simp[cmpI];omega),zH (by omega),if_neg (by omega)];rfl
  ·
   rw[if_neg e,if_pos (by simp[cmpI];omega),if_pos (by omega)]
 ·
  unfold we;rw[qm];rfl
theorem szDir_eq{x:Dir}{l:Int}(h0:Okd x)(hl:0<=l)(h2:l<=1048576):ZQ x l=some (szR (jQ x) l):=by
 unfold ZQ jQ;exact J8 hl h2 ((h0.fld Dir.fld1)).str (λ v1 l1 u1=>WJ l1 u1 (szStringS_eq (h0.fld Dir.fld3) l1 u1) (λ v2 l2 u2=>WK l2))
def yK(xs:List Dir):Nat:=xs.length+sumL jQ xs
theorem szDirS_eq{x:List Dir}{l:Int}(h0:Okd x)(hl:0<=l)(h2:l<=1048576):j5 x l=some (szR (yK x) l):=by
 unfold j5 yK;refine J9 h0.len (λ k hk l hn h3 h4=>?_) (λ l=>?_) hl h2
 ·
  unfold jx;simp only[jO hk,if_true,wi hk,obS,szDir_eq (h0.mem (List.getElem_mem hk)) h3 h4];by_cases e:szR (jQ x[k]) l<0
  ·
   rw[if_pos (by simp[cmpI,e]),if_pos e]
  ·
   rw[if_neg (by simp[cmpI];omega),if_neg e,zH (by omega)];rfl
 ·
  unfold jx;rw[qm];rfl
def qU(x:Disk):Nat:=ZA x.tree+(yK x.dirs+(0))
theorem szDisk_eq{x:Disk}{l:Int}(h0:Okd x)(hl:0<=l)(h2:l<=1048576):Zd x l=some (szR (qU x) l):=by
 unfold Zd qU;exact WJ hl h2 (szTree_eq (h0.fld Disk.fld0) hl h2) (λ v1 l1 u1=>WJ l1 u1 (szDirS_eq (h0.fld Disk.fld2) l1 u1) (λ v2 l2 u2=>WK l2))
def yD(x:Finder):Nat:=yK x.dirs+(0)
theorem szFinder_eq{x:Finder}{l:Int}(h0:Okd x)(hl:0<=l)(h2:l<=1048576):jS x l=some (szR (yD x) l):=by
 unfold jS yD;exact WJ hl h2 (szDirS_eq (h0.fld Finder.fld0) hl h2) (λ v1 l1 u1=>WK l1)
theorem eqStmt_eq{x y:Stmt}:Zh x y=some (decide (x=y)):=by
 have e:(x=y)=(x.kind=y.kind/\x.module=y.module/\x.level=y.level/\x.name=y.name/\x.value=y.value/\True):=by cases x;cases y;simp
 unfold Zh;simp only[e];exact Zz (Qa (Zz (Qa (Zz (XS)))))
theorem eqStmtS_eq{x y:List Stmt}(h:x.length<=288230376151711744):qC x y=some (decide (x=y)):=by
 unfold qC;refine Wt (λ k hk hk2=>?_) ?_ (by omega)
 ·
  unfold wY;simp only[jO hk,if_true,wi hk,wi hk2,obS,eqStmt_eq,zH (show k<4611686018427387904 by omega)];by_cases e:x[k]=y[k] <;> simp[e]
 ·
  unfold wY;rw[qm];rfl
theorem eqFile_eq{x y:File}(h:jP x<=288230376151711744):Zi x y=some (decide (x=y)):=by
 have e:(x=y)=(x.root=y.root/\x.pkg=y.pkg/\x.name=y.name/\x.init=y.init/\x.stamp=y.stamp/\x.body=y.body/\True):=by cases x;cases y;simp
 unfold jP at h;unfold Zi;simp only[e];exact Zz (Qa (Qa (eqS_bool (Zz (XR (eqStmtS_eq (Wv (by omega))) (XS))))))
theorem eqFileS_eq{x y:List File}(h:qJ x<=288230376151711744):qD x y=some (decide (x=y)):=by
 unfold qJ at h;unfold qD;refine Wt (λ k hk hk2=>?_) ?_ (by omega)
 ·
  unfold wZ;simp only[jO hk,if_true,wi hk,wi hk2,obS,eqFile_eq (x:=x[k]) (y:=y[k]) (by have:=Zr (f:=jP) (List.getElem_mem hk);omega),zH (show k<4611686018427387904 by omega)];by_cases e:x[k]=y[k] <;> simp[e]
 ·
  unfold wZ;rw[qm];rfl
theorem eqTree_eq{x y:Tree}(h:ZA x<=288230376151711744):Zj x y=some (decide (x=y)):=by
 have e:(x=y)=(x.files=y.files/\True):=by cases x;cases y;simp
 unfold ZA at h;unfold Zj;simp only[e];exact XR (eqFileS_eq (by omega)) (XS)
def Y6(xs:List Int):Nat:=xs.length
theorem Jy{x:List Int}{n:Nat}(h:Y6 x<=n):x.length<=n:=by unfold Y6 at h;omega
def WL(x:Spec):Nat:=Y6 x.roots+(0)
theorem eqIntS_eq{x y:List Int}(h:x.length<=288230376151711744):jg x y=some (decide (x=y)):=by
 unfold jg;refine Wt (λ k hk hk2=>?_) ?_ (by omega)
 ·
  unfold jz;simp only[jO hk,if_true,wi hk,wi hk2,obS,zH (show k<4611686018427387904 by omega)];by_cases e:x[k]=y[k] <;> simp[e,cmpI]
 ·
  unfold jz;rw[qm];rfl
theorem eqSpec_eq{x y:Spec}(h:WL x<=288230376151711744):y9 x y=some (decide (x=y)):=by
 have e:(x=y)=(x.kind=y.kind/\x.file=y.file/\x.roots=y.roots/\True):=by cases x;cases y;simp
 unfold WL at h;unfold y9;simp only[e];exact Zz (Zz (XR (eqIntS_eq (Jy (by omega))) (XS)))
theorem eqStringS_eq{x y:List Str}(h:x.length<=288230376151711744):jA x y=some (decide (x=y)):=by
 unfold jA;refine Wt (λ k hk hk2=>?_) ?_ (by omega)
 ·
  unfold wg;simp only[jO hk,if_true,wi hk,wi hk2,obS,zH (show k<4611686018427387904 by omega)];by_cases e:x[k]=y[k] <;> simp[e]
 ·
  unfold wg;rw[qm];rfl
theorem eqDir_eq{x y:Dir}(h:jQ x<=288230376151711744):ZS x y=some (decide (x=y)):=by
 have e:(x=y)=(x.root=y.root/\x.pkg=y.pkg/\x.stamp=y.stamp/\x.names=y.names/\True):=by cases x;cases y;simp
 unfold jQ at h;unfold ZS;simp only[e];exact Zz (Qa (Zz (XR (eqStringS_eq (Xj (by omega))) (XS))))
theorem eqDirS_eq{x y:List Dir}(h:yK x<=288230376151711744):j7 x y=some (decide (x=y)):=by
 unfold yK at h;unfold j7;refine Wt (λ k hk hk2=>?_) ?_ (by omega)
 ·
  unfold jB;simp only[jO hk,if_true,wi hk,wi hk2,obS,eqDir_eq (x:=x[k]) (y:=y[k]) (by have:=Zr (f:=jQ) (List.getElem_mem hk);omega),zH (show k<4611686018427387904 by omega)];by_cases e:x[k]=y[k] <;> simp[e]
 ·
  unfold jB;rw[qm];rfl
theorem eqDisk_eq{x y:Disk}(h:qU x<=288230376151711744):j8 x y=some (decide (x=y)):=by
 have e:(x=y)=(x.tree=y.tree/\x.clock=y.clock/\x.dirs=y.dirs/\True):=by cases x;cases y;simp
 unfold qU at h;unfold j8;simp only[e];exact XR (eqTree_eq (by omega)) (Zz (XR (eqDirS_eq (by omega)) (XS)))
theorem Ww{x y:Finder}(h:yD x<=288230376151711744):yh x y=some (decide (x=y)):=by
 have e:(x=y)=(x.dirs=y.dirs/\x.fills=y.fills/\x.hits=y.hits/\True):=by cases x;cases y;simp
 unfold yD at h;unfold yh;simp only[e];exact XR (eqDirS_eq (by omega)) (Zz (Zz (XS)))
theorem toStmt_eq{x:Stmt}:Ze x=some x:=by
 unfold Ze;cases x;rfl
theorem toStmtS_eq{x:List Stmt}(h:Zs x<=1048576):qA x=some x:=by
 unfold Zs at h;unfold qA;rw[Ws (by omega) (by omega) (by omega),obS];have hl:zJ (λ s=>xY x s) (List.replicate x.length zStmt,0)=some x:=by
  refine XA x zStmt (λ k hk=>?_) (λ ys=>?_) (by omega) rfl
  ·
   unfold xY;simp only[jO hk,if_true,wi hk,obS,toStmt_eq,zY,at_at hk,Xy (len_at hk),zH (show k<4611686018427387904 by omega)]
  ·
   unfold xY;rw[qm];rfl
 rw[hl];rfl
theorem toFile_eq{x:File}(h:jP x<=1048576):Zf x=some x:=by
 unfold jP at h;unfold Zf;rw[toStmtS_eq (x:=x.body) (by omega),obS]
theorem toFileS_eq{x:List File}(h:qJ x<=1048576):qB x=some x:=by
 unfold qJ at h;unfold qB;rw[Ws (by omega) (by omega) (by omega),obS];have hl:zJ (λ s=>xZ x s) (List.replicate x.length zFile,0)=some x:=by
  refine XA x zFile (λ k hk=>?_) (λ ys=>?_) (by omega) rfl
  ·
   unfold xZ;simp only[jO hk,if_true,wi hk,obS,toFile_eq (x:=x[k]) (by have:=Zr (f:=jP) (List.getElem_mem hk);omega),zY,at_at hk,zH (show k<4611686018427387904 by omega),qc]
  ·
   unfold xZ;rw[qm];rfl
 rw[hl];rfl
theorem toTree_eq{x:Tree}(h:ZA x<=1048576):Zg x=some x:=by
 unfold ZA at h;unfold Zg;rw[toFileS_eq (x:=x.files) (by omega),obS]
theorem toStringS_eq{x:List Str}(h:wc x<=1048576):jy x=some x:=by
 unfold wc at h;unfold jy;rw[Ws (by omega) (by omega) (by omega),obS];have hl:zJ (λ s=>xp x s) (List.replicate x.length zStr,0)=some x:=by
  refine XA x zStr (λ k hk=>?_) (λ ys=>?_) (by omega) rfl
  ·
   unfold xp;simp only[jO hk,if_true,wi hk,obS,zY,at_at hk,Xy (len_at hk),zH (show k<4611686018427387904 by omega)]
  ·
   unfold xp;rw[qm];rfl
 rw[hl];rfl
theorem toDir_eq{x:Dir}(h:jQ x<=1048576):ZR x=some x:=by
 unfold jQ at h;unfold ZR;rw[toStringS_eq (x:=x.names) (by omega),obS]
theorem toDirS_eq{x:List Dir}(h:yK x<=1048576):j6 x=some x:=by
 unfold yK at h;unfold j6;rw[Ws (by omega) (by omega) (by omega),obS];have hl:zJ (λ s=>wt x s) (List.replicate x.length zDir,0)=some x:=by
  refine XA x zDir (λ k hk=>?_) (λ ys=>?_) (by omega) rfl
  ·
   unfold wt;simp only[jO hk,if_true,wi hk,obS,toDir_eq (x:=x[k]) (by have:=Zr (f:=jQ) (List.getElem_mem hk);omega),zY,at_at hk,zH (show k<4611686018427387904 by omega),qc]
  ·
   unfold wt;rw[qm];rfl
 rw[hl];rfl
theorem toDisk_eq{x:Disk}(h:qU x<=1048576):wk x=some x:=by
 unfold qU at h;unfold wk;rw[toTree_eq (x:=x.tree) (by omega),obS];rw[toDirS_eq (x:=x.dirs) (by omega),obS]
theorem toFinder_eq{x:Finder}(h:yD x<=1048576):xy x=some x:=by
 unfold yD at h;unfold xy;rw[toDirS_eq (x:=x.dirs) (by omega),obS]
theorem toIntS_eq{x:List Int}(h:Y6 x<=1048576):xR x=some x:=by
 unfold Y6 at h;unfold xR;rw[Ws (by omega) (by omega) (by omega),obS];have hl:zJ (λ s=>ws x s) (List.replicate x.length zInt,0)=some x:=by
  refine XA x zInt (λ k hk=>?_) (λ ys=>?_) (by omega) rfl
  ·
   unfold ws;simp only[jO hk,if_true,wi hk,obS,zY,at_at hk,Xy (len_at hk),zH (show k<4611686018427387904 by omega)]
  ·
   unfold ws;rw[qm];rfl
 rw[hl];rfl
theorem markStmtS_ok{x:List Stmt}{k:Int}(h:x.length<=1125899906842624)(h0:0<=k)(hB:k<=1152921504606846976):∃ y k',jC x k=some (y,k')/\k<=k'/\k'<=k+5*(x.length:Int):=by
 have hl:=mark_only (step:=λ s=>xq s) (λ ys k=>(ys,k)) x 5 1170935903116328960 (λ ys k i hi hn hm h1 h2=>?_) (λ ys k hn=>?_) (by omega) h0 (by omega)
 ·
  obtain⟨ys,k',r1,r2,r3,r4⟩:=hl;refine⟨ys,k',?_,r3,by omega⟩
  ·
   unfold jC;rw[r1];rfl
 ·
  unfold xq;refine⟨_,_,by simp only[jO hi,if_true,wi hi,obS,qc,i64_in (n:=k+1) (by omega) (by omega),jI (k:=k+1) (by omega) (by omega),i64_in (n:=k+1+1) (by omega) (by omega),i64_in (n:=k+1+1+1) (by omega) (by omega),jI (k:=k+1+1+1) (by omega) (by omega),i64_in (n:=k+1+1+1+1) (by omega) (by omega),i64_in (n:=k+1+1+1+1+1) (by omega) (by omega),zH (show i<4611686018427387904 by omega)];rfl,by omega,by omega⟩
 ·
  unfold xq;simp only[Ym hn];rfl
theorem markFileS_ok{x:List File}{k:Int}(h:qJ x<=2097152)(h0:0<=k)(hB:k<=576460752303423488):∃ y k',jD x k=some (y,k')/\k<=k'/\k'<=k+21990243041280:=by
 unfold qJ at h;have hl:=mark_only (step:=λ s=>xt s) (λ ys k=>(ys,k)) x 10485765 594475150812905472 (λ ys k i hi hn hm h1 h2=>?_) (λ ys k hn=>?_) (by omega) h0 (by omega)
 ·
  obtain⟨ys,k',r1,r2,r3,r4⟩:=hl;refine⟨ys,k',?_,r3,by omega⟩
  ·
   unfold jD;rw[r1];rfl
 ·
  unfold xt;have hm5:=Zr (f:=jP) hm;have hu5:jP ys[i]=ys[i].pkg.l.length+(ys[i].name.l.length+(Zs ys[i].body+(0))):=rfl;have hl5:ys[i].body.length<=2097152:=Wv (by omega);obtain⟨y5,k5,e5,a5,b5⟩:=markStmtS_ok (x:=ys[i].body) (k:=k+1+1+1+1+1) (Wv (n:=1125899906842624) (by omega)) (by omega) (by omega);refine⟨_,_,by simp only[jO hi,if_true,wi hi,obS,qc,i64_in (n:=k+1) (by omega) (by omega),jI (k:=k+1) (by omega) (by omega),i64_in (n:=k+1+1) (by omega) (by omega),jI (k:=k+1+1) (by omega) (by omega),i64_in (n:=k+1+1+1) (by omega) (by omega),modO_of (m:=k+1+1+1) (n:=3) (by decide),i64_in (n:=k+1+1+1+1) (by omega) (by omega),i64_in (n:=k+1+1+1+1+1) (by omega) (by omega),e5,zH (show i<4611686018427387904 by omega)];rfl,by omega,by omega⟩
 ·
  unfold xt;simp only[Ym hn];rfl
theorem markTree_ok{x:Tree}{k:Int}(h:ZA x<=2097152)(h0:0<=k)(hB:k<=576425567931334656):∃ y k',jT x k=some (y,k')/\k<=k'/\k'<=k+21990243041280:=by
 unfold ZA at h;unfold jT;obtain⟨y0,k0,e0,a0,b0⟩:=markFileS_ok (x:=x.files) (k:=k) (by omega) (by omega) (by omega);exact⟨_,k0,by simp only[e0,obS];rfl,by omega,by omega⟩
theorem QT{x:List Int}{k:Int}(h:x.length<=1125899906842624)(h0:0<=k)(hB:k<=1152921504606846976):∃ y k',wJ x k=some (y,k')/\k<=k'/\k'<=k+1*(x.length:Int)/\jW y k=some k':=by
 have hl:=QE (held:=λ y s=>xL y s) (step:=λ s=>xJ s) (λ ys k=>(ys,k)) x 1 1170935903116328960 (λ ys k i hi hn hm h1 h2=>?_) (λ ys k hn=>?_) (λ ys k hn=>?_) (by omega) h0 (by omega)
 ·
  obtain⟨ys,k',r1,r2,r3,r4,r5⟩:=hl;refine⟨ys,k',?_,r3,by omega,?_⟩
  ·
   unfold wJ;rw[r1];rfl
  ·
   unfold jW;rw[r5];rfl
 ·
  unfold xJ;refine⟨_,_,by simp only[jO hi,if_true,wi hi,obS,qc,i64_in (n:=k+1) (by omega) (by omega),zH (show i<4611686018427387904 by omega)];rfl,by omega,by omega,λ zs hz hzi=>?_⟩;unfold xL;simp only[lss_at' hz (show i<x.length by omega),if_true,zY,hzi,obS,Wu,if_false,Bool.false_eq_true,i64_in (n:=k+1) (by omega) (by omega),zH (show i<4611686018427387904 by omega)]
  first | done | rfl | (simp[cmpI];omega) | simp
 ·
  unfold xJ;simp only[Ym hn];rfl
 ·
  unfold xL;simp only[Ym hn];rfl
theorem markSpec_ok{x:Spec}{k:Int}(h:WL x<=2097152)(h0:0<=k)(hB:k<=1152886320234758144):∃ y k',wK x k=some (y,k')/\k<=k'/\k'<=k+2097154/\xA y k=some k':=by
 unfold WL at h;unfold wK xA;have hl2:x.roots.length<=2097152:=Jy (by omega);obtain⟨y2,k2,e2,a2,b2,c2⟩:=QT (x:=x.roots) (k:=k) (Jy (n:=1125899906842624) (by omega)) (by omega) (by omega);exact⟨_,k2,by simp only[e2,obS];rfl,by omega,by omega,by simp[c2,cmpI] <;> omega⟩
theorem zaC{x:List Str}{k:Int}(h:x.length<=1125899906842624)(h0:0<=k)(hB:k<=1152921504606846976):∃ y k',wz x k=some (y,k')/\k<=k'/\k'<=k+1*(x.length:Int)/\wA y k=some k':=by
 have hl:=QE (held:=λ y s=>yN y s) (step:=λ s=>yM s) (λ ys k=>(ys,k)) x 1 1170935903116328960 (λ ys k i hi hn hm h1 h2=>?_) (λ ys k hn=>?_) (λ ys k hn=>?_) (by omega) h0 (by omega)
 ·
  obtain⟨ys,k',r1,r2,r3,r4,r5⟩:=hl;refine⟨ys,k',?_,r3,by omega,?_⟩
  ·
   unfold wz;rw[r1];rfl
  ·
   unfold wA;rw[r5];rfl
 ·
  unfold yM;refine⟨_,_,by simp only[jO hi,if_true,wi hi,obS,qc,jI (k:=k) (by omega) (by omega),i64_in (n:=k+1) (by omega) (by omega),zH (show i<4611686018427387904 by omega)];rfl,by omega,by omega,λ zs hz hzi=>?_⟩;unfold yN;simp only[lss_at' hz (show i<x.length by omega),if_true,zY,hzi,obS,ne_eq,decide_not,jI (k:=k) (by omega) (by omega),i64_in (n:=k+1) (by omega) (by omega),zH (show i<4611686018427387904 by omega)]
  first | done | rfl | (simp[cmpI];omega) | simp
 ·
  unfold yM;simp only[Ym hn];rfl
 ·
  unfold yN;simp only[Ym hn];rfl
theorem QU{x:List Dir}{k:Int}(h:yK x<=2097152)(h0:0<=k)(hB:k<=576460752303423488):∃ y k',wI x k=some (y,k')/\k<=k'/\k'<=k+4398052802560/\jV y k=some k':=by
 unfold yK at h;have hl:=QE (held:=λ y s=>xK y s) (step:=λ s=>xI s) (λ ys k=>(ys,k)) x 2097155 594475150812905472 (λ ys k i hi hn hm h1 h2=>?_) (λ ys k hn=>?_) (λ ys k hn=>?_) (by omega) h0 (by omega)
 ·
  obtain⟨ys,k',r1,r2,r3,r4,r5⟩:=hl;refine⟨ys,k',?_,r3,by omega,?_⟩
  ·
   unfold wI;rw[r1];rfl
  ·
   unfold jV;rw[r5];rfl
 ·
  unfold xI;have hm3:=Zr (f:=jQ) hm;have hu3:jQ ys[i]=ys[i].pkg.l.length+(wc ys[i].names+(0)):=rfl;have hl3:ys[i].names.length<=2097152:=Xj (by omega);obtain⟨y3,k3,e3,a3,b3,c3⟩:=zaC (x:=ys[i].names) (k:=k+1+1+1) (Xj (n:=1125899906842624) (by omega)) (by omega) (by omega);refine⟨_,_,by simp only[jO hi,if_true,wi hi,obS,qc,i64_in (n:=k+1) (by omega) (by omega),jI (k:=k+1) (by omega) (by omega),i64_in (n:=k+1+1) (by omega) (by omega),i64_in (n:=k+1+1+1) (by omega) (by omega),e3,zH (show i<4611686018427387904 by omega)];rfl,by omega,by omega,λ zs hz hzi=>?_⟩;unfold xK;simp only[lss_at' hz (show i<x.length by omega),if_true,zY,hzi,obS,Wu,ne_eq,if_false,Bool.false_eq_true,decide_not,i64_in (n:=k+1) (by omega) (by omega),jI (k:=k+1) (by omega) (by omega),i64_in (n:=k+1+1) (by omega) (by omega),i64_in (n:=k+1+1+1) (by omega) (by omega),c3,zH (show i<4611686018427387904 by omega)]
  first | done | rfl | (simp[cmpI];omega) | simp
 ·
  unfold xI;simp only[Ym hn];rfl
 ·
  unfold xK;simp only[Ym hn];rfl
theorem markDisk_ok{x:Disk}{k:Int}(h:qU x<=2097152)(h0:0<=k)(hB:k<=576425567931334656):∃ y k',jU x k=some (y,k')/\k<=k'/\k'<=k+26388295843841:=by
 unfold qU at h;unfold jU;obtain⟨y0,k0,e0,a0,b0⟩:=markTree_ok (x:=x.tree) (k:=k) (by omega) (by omega) (by omega);obtain⟨y2,k2,e2,a2,b2,c2⟩:=QU (x:=x.dirs) (k:=k0) (by omega) (by omega) (by omega);exact⟨_,k2,by simp only[e0,e2,obS];rfl,by omega,by omega⟩
theorem Jb{x:Finder}{k:Int}(h:yD x<=2097152)(h0:0<=k)(hB:k<=576425567931334656):∃ y k',xh x k=some (y,k')/\k<=k'/\k'<=k+4398052802562/\yI y k=some k':=by
 unfold yD at h;unfold xh yI;obtain⟨y0,k0,e0,a0,b0,c0⟩:=QU (x:=x.dirs) (k:=k) (by omega) (by omega) (by omega);exact⟨_,k0,by simp only[e0,obS];rfl,by omega,by omega,by simp[c0,cmpI] <;> omega⟩
end Go.Proofs.YtdoidiipacdbpaaGreatDoor
