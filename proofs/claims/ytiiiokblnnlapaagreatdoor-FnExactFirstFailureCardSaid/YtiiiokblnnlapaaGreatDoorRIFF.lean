/-
  Plain laws: what the models of the program's own functions come to. Names.
  Plain laws: cuts of texts.
  Plain laws: names.
  Plain laws: trees and paths.
-/
import Derived.Test.YtiiiokblnnlapaaGreatDoorRFFF
import Derived.Test.YtiiiokblnnlapaaGreatDoorRBFF
import Derived.Test.YtiiiokblnnlapaaGreatDoorRGFF
import Derived.Test.YtiiiokblnnlapaaGreatDoorRKFF
namespace Go.Proofs.YtiiiokblnnlapaaGreatDoor
section
variable{α β σ S:Type}
theorem zN(xs:List α)(k:Nat):atI xs (k:Int)=xs[k]?:=by simp[atI]
theorem Zd{n:Int}(h1:-9223372036854775808<=n)(h2:n<=9223372036854775807):i64 n=some n:=if_pos ⟨h1,h2⟩
theorem zW{k:Nat}(h:k<4611686018427387904):i64 ((k:Int)+1)=some ((k+1:Nat):Int):=by rw[Zd (by omega) (by omega)];rfl
theorem xM[Inhabited α](g:Bool)(x:α):gO g (some x)=some (if g=true then x else default):=by unfold gO;split <;> rfl
theorem Ys[Inhabited α](e:Option α):gO true e=e:=rfl
theorem ZG[Inhabited α](e:Option α):gO false e=some default:=rfl
theorem zQ(k n:Nat):cmpI .lss (k:Int) (n:Int)=decide (k<n):=by simp[cmpI]
theorem jF{b:Nat}{xs ys:List α}(h:(xs.length+ys.length)*b<=140737488355328)(h2:xs.length+ys.length<=9223372036854775807):appO b xs ys=some (xs++ys):=if_pos ⟨h,h2⟩
theorem X3{s:Str}{k:Nat}(h:k<=s.l.length):cutHO s (k:Int)=some ⟨s.l.take k⟩:=by unfold cutHO;rw[if_pos ⟨by omega,by omega⟩];rfl
theorem X4{s:Str}{k:Nat}(h:k<=s.l.length):cutLO s (k:Int)=some ⟨s.l.drop k⟩:=by unfold cutLO;rw[if_pos ⟨by omega,by omega⟩];rfl
theorem sliHO_nat{xs:List α}{k:Nat}(h:k<=xs.length):sliHO xs (k:Int)=some (xs.take k):=by unfold sliHO;rw[if_pos ⟨by omega,by omega⟩];rfl
theorem Jb{xs:List α}{k:Nat}{y:α}(h:k<xs.length):setO xs (k:Int) y=some (xs.set k y):=by unfold setO;rw[if_pos ⟨by omega,by omega⟩];rfl
theorem Jc{m n:Str}(h:m.l.length+n.l.length<=9223372036854775807):catO m n=some ⟨m.l++n.l⟩:=if_pos h
theorem jO{step:S->Option (S⊕β)}{s s':S}{n:Nat}(h:step s=some (.inl s')):wT step (n+1) s=wT step n s':=by rw[wT,h]
theorem yV{step:S->Option (S⊕β)}{s:S}{b:β}{n:Nat}(h:step s=some (.inr b)):wT step (n+1) s=some b:=by rw[wT,h]
theorem iterM_mono{step:S->Option (S⊕β)}{r:β}:∀ (m j:Nat) (s:S),wT step m s=some r->wT step (m+j) s=some r:=by
 intro m
 induction m with
 | zero=>intro j s h;simp[wT] at h
 |
  succ m ih=>
  intro j s h
  rw[show m+1+j=(m+j)+1 by omega]
  unfold wT at h ⊢
  split at h
  ·
   cases h
  ·
   exact ih j _ h
  ·
   exact h
theorem qc{step:S->Option (S⊕β)}{r:β}{m:Nat}{s:S}(h:wT step m s=some r)(hm:m<=1152921504606846976):zT step s=some r:=by
 unfold zT
 have:=iterM_mono m (1152921504606846976 - m) s h
 rwa[show m+(1152921504606846976 - m)=1152921504606846976 by omega] at this
def runL(R:Nat->σ->α->σ⊕β)(fin:σ->β):Nat->σ->List α->β
 | _,s,[]=>fin s
 |
  k,s,x::xs=>match R k s x with
  | .inl s'=>runL R fin (k+1) s' xs
  | .inr b=>b
theorem Jd{step:S->Option (S⊕β)}(xs:List α)(mk:σ->Nat->S)(R:Nat->σ->α->σ⊕β)(fin:σ->β)(Inv:Nat->σ->Prop)
  (h:∀ k s x,xs[k]?=some x->k<xs.length->Inv k s->match R k s x with
   | .inl s'=>step (mk s k)=some (.inl (mk s' (k+1)))/\Inv (k+1) s'
   | .inr b=>step (mk s k)=some (.inr b))
  (hend:∀ s,Inv xs.length s->step (mk s xs.length)=some (.inr (fin s))) {s0:σ} (h0:Inv 0 s0) (hlen:xs.length<576460752303423488):zT step (mk s0 0)=some (runL R fin 0 s0 xs):=by
 have key:∀ m k s,k+m=xs.length->Inv k s->wT step (m+1) (mk s k)=some (runL R fin k s (xs.drop k)):=by
  intro m
  induction m with
  |
   zero=>
   intro k s hk hi
   have:k=xs.length:=by omega
   subst this
   rw[List.drop_length,runL,wT,hend s hi]
  |
   succ m ih=>
   intro k s hk hi
   have hlt:k<xs.length:=by omega
   have hx:xs[k]?=some xs[k]:=List.getElem?_eq_getElem hlt
   rw[List.drop_eq_getElem_cons hlt,runL,wT]
   have hr:=h k s xs[k] hx hlt hi
   cases e:R k s xs[k] with
   |
    inl s'=>
    rw[e] at hr
    simp only at hr
    rw[hr.1]
    exact ih (k+1) s' (by omega) hr.2
   |
    inr b=>
    rw[e] at hr
    simp only at hr
    rw[hr]
 exact qc (key xs.length 0 s0 (by omega) h0) (by omega)
theorem JJ{step:Int->Option (Int⊕β)}(xs:List α)(R:Nat->α->Option β)(e:β)
  (h:∀ k x,xs[k]?=some x->k<xs.length->step (k:Int)=some (match R k x with | none=>.inl ((k+1:Nat):Int) | some b=>.inr b))
  (hend:step (xs.length:Int)=some (.inr e)) (hlen:xs.length<576460752303423488) {s:Int} (hs:s=0):
  zT step s=some (runL (λ k (_:Unit) x=>match R k x with | none=>.inl () | some b=>.inr b) (λ _=>e) 0 () xs):=by
 subst hs
 refine Jd (σ:=Unit) xs (λ _ k=>(k:Int)) _ _ (λ _ _=>True) (λ k s x hx hlt _=>?_) (λ _ _=>hend) trivial hlen
 have:=h k x hx hlt
 cases hR:R k x with
 | none=>rw[hR] at this;exact⟨this,trivial⟩
 | some b=>rw[hR] at this;exact this
theorem runL_any(p:α->Bool)(b e:β):∀ (k:Nat) (xs:List α),runL (λ _ (_:Unit) x=>match (if p x=true then some b else none) with | none=>.inl () | some b=>.inr b) (λ _=>e) k () xs=if xs.any p=true then b else e
 | _,[]=>rfl
 |
  k,x::xs=>by
  cases h:p x with
  | true=>simp[runL,h]
  | false=>simp only[runL,h];rw[List.any_cons,h,Bool.false_or];exact runL_any p b e (k+1) xs
theorem Yd{step:Int->Option (Int⊕β)}(xs:List α)(p:α->Bool)(b e:β)
  (h:∀ k x,xs[k]?=some x->k<xs.length->step (k:Int)=some (if p x=true then .inr b else .inl ((k+1:Nat):Int)))
  (hend:step (xs.length:Int)=some (.inr e)) (hlen:xs.length<576460752303423488) {s:Int} (hs:s=0):
  zT step s=some (if xs.any p=true then b else e):=by
 rw[JJ xs (λ _ x=>if p x=true then some b else none) e (λ k x hx hlt=>?_) hend hlen hs,runL_any]
 rw[h k x hx hlt]
 cases p x <;> rfl
theorem runL_idx(p:α->Bool)(f:Int->β)(e:β):∀ (k:Nat) (xs:List α),runL (λ k (_:Unit) x=>match (if p x=true then some (f k) else none) with | none=>.inl () | some b=>.inr b) (λ _=>e) k () xs=(match xs.findIdx? p with | some i=>f ((k+i:Nat):Int) | none=>e)
 | _,[]=>rfl
 |
  k,x::xs=>by
  cases h:p x with
  | true=>simp[runL,h,List.findIdx?_cons]
  |
   false=>
   simp only[runL,h,List.findIdx?_cons,Bool.false_eq_true,if_false]
   rw[runL_idx p f e (k+1) xs]
   cases xs.findIdx? p with
   | none=>rfl
   | some i=>simp only[Option.map_some];congr 1;omega
theorem YV{step:Int->Option (Int⊕β)}(xs:List α)(p:α->Bool)(f:Int->β)(e:β)
  (h:∀ k x,xs[k]?=some x->k<xs.length->step (k:Int)=some (if p x=true then .inr (f k) else .inl ((k+1:Nat):Int)))
  (hend:step (xs.length:Int)=some (.inr e)) (hlen:xs.length<576460752303423488) {s:Int} (hs:s=0):
  zT step s=some (match xs.findIdx? p with | some i=>f (i:Int) | none=>e):=by
 rw[JJ xs (λ k x=>if p x=true then some (f k) else none) e (λ k x hx hlt=>?_) hend hlen hs,runL_idx]
 ·
  cases xs.findIdx? p <;> simp
 ·
  rw[h k x hx hlt]
  cases p x <;> rfl
theorem runL_fold(g:σ->α->σ)(fin:σ->β):∀ (k:Nat) (s:σ) (xs:List α),runL (λ _ s x=>(.inl (g s x):σ⊕β)) fin k s xs=fin (xs.foldl g s)
 | _,_,[]=>rfl
 | k,s,x::xs=>runL_fold g fin (k+1) (g s x) xs
theorem JK{step:S->Option (S⊕β)}(xs:List α)(mk:σ->Nat->S)(g:σ->α->σ)(fin:σ->β)(Inv:Nat->σ->Prop)
  (h:∀ k s x,xs[k]?=some x->k<xs.length->Inv k s->step (mk s k)=some (.inl (mk (g s x) (k+1)))/\Inv (k+1) (g s x))
  (hend:∀ s,Inv xs.length s->step (mk s xs.length)=some (.inr (fin s))) {s0:σ} (h0:Inv 0 s0) (hlen:xs.length<576460752303423488):zT step (mk s0 0)=some (fin (xs.foldl g s0)):=by
 rw[Jd xs mk (λ _ s x=>.inl (g s x)) fin Inv h hend h0 hlen,runL_fold]
end
theorem ZS{s:Str}(hs:mid s):yB s=some (zy s):=by
 unfold mid at hs
 have hl:zT (λ s4=>xy s s4) 0=some (if s.l.any (λ b=>!low b)=true then .inr false else .inl ()):=by
  refine Yd s.l _ _ _ (λ k x hx hlt=>?_) ?_ (by omega) rfl
  ·
   unfold xy
   rw[zQ,if_pos (decide_eq_true hlt),zN,hx,Option.bind_some,xM,Option.bind_some,zW (by omega)]
   unfold low
   generalize cmpB .lss x (UInt8.ofNat 97)=c1
   cases c1 with
   | true=>rfl
   |
    false=>
    rw[if_pos (show(false == false)=true from rfl)]
    generalize cmpB .gtr x (UInt8.ofNat 122)=c2
    cases c2 <;> rfl
  ·
   unfold xy
   rw[zQ,if_neg (by simp)]
 unfold yB
 rw[hl,Option.bind_some]
 unfold zy
 cases h:s.l.any (λ b=>!low b) with
 |
  true=>
  have:s.l.all low=false:=by
   rw[Bool.eq_false_iff]
   intro h2
   rw[List.any_eq_true] at h
   obtain⟨b,hb,hb2⟩:=h
   rw[List.all_eq_true.1 h2 b hb] at hb2
   cases hb2
  simp[this]
 |
  false=>
  have:s.l.all low=true:=by
   rw[List.all_eq_true]
   intro b hb
   have:=List.any_eq_false.1 h b hb
   simpa using this
  simp only[Bool.false_eq_true,if_false,Sum.elim_inl,yA,Option.bind_some,this,Bool.and_true,inR]
  simp[cmpI]
def cutF(c:UInt8):List UInt8->List (List UInt8)
 | []=>[[]]
 |
  b::l=>if b == c then[]::cutF c l else match cutF c l with
  | h::t=>(b::h)::t
  | []=>[[b]]
theorem Zq(c b:UInt8)(l:List UInt8):cutF c (b::l)=if b == c then[]::cutF c l else match cutF c l with
  | h::t=>(b::h)::t
  | []=>[[b]]:=rfl
theorem qM(c:UInt8):∀ l,cutF c l≠[]
 | []=>by simp[cutF]
 |
  b::l=>by
  unfold cutF
  split
  ·
   simp
  ·
   split <;> simp
theorem XR(c:UInt8):∀ l,(cutF c l).length=l.count c+1
 | []=>by simp[cutF]
 |
  b::l=>by
  unfold cutF
  cases h:b == c with
  |
   true=>
   simp only[if_true,List.length_cons,XR c l]
   rw[List.count_cons,h];simp
  |
   false=>
   simp only[Bool.false_eq_true,if_false]
   rw[List.count_cons,h]
   simp only[Bool.false_eq_true,if_false,Nat.add_zero]
   rw[← XR c l]
   cases hc:cutF c l with
   | nil=>exact absurd hc (qM c l)
   | cons h t=>rfl
theorem Wm(c:UInt8):∀ (l:List UInt8) (st:List Str×Str),(let r:=l.foldl (wL c) st;r.1++[r.2])=st.1++(match cutF c l with | h::t=>(⟨st.2.l++h⟩:Str)::t.map Str.mk | []=>[])
 | [],st=>by simp[cutF]
 |
  b::l,st=>by
  rw[List.foldl_cons]
  have ih:=Wm c l (wL c st b)
  simp only at ih ⊢
  rw[ih]
  unfold wL
  rw[Zq]
  cases h:b == c with
  |
   true=>
   simp only[if_true,List.append_assoc]
   cases hc:cutF c l with
   | nil=>exact absurd hc (qM c l)
   | cons h t=>simp
  |
   false=>
   simp only[Bool.false_eq_true,if_false]
   cases hc:cutF c l with
   | nil=>exact absurd hc (qM c l)
   | cons h t=>simp
theorem wj(s:Str)(c:UInt8):zB s c=(cutF c s.l).map Str.mk:=by
 have:=Wm c s.l ([],⟨[]⟩)
 simp only at this
 unfold zB xb
 rw[this]
 cases hc:cutF c s.l with
 | nil=>exact absurd hc (qM c s.l)
 | cons h t=>simp
theorem Zw(c:UInt8):∀ l,Lib.indexByte l c<0->cutF c l=[l]
 | [],_=>rfl
 |
  b::l,h=>by
  unfold Lib.indexByte at h
  unfold cutF
  cases hb:b == c with
  | true=>rw[hb] at h;simp at h
  |
   false=>
   rw[hb] at h
   simp only[Bool.false_eq_true,if_false] at h ⊢
   have hge:=Lib.indexByte_ge l c
   have:Lib.indexByte l c<0:=by
    split at h
    ·
     rename_i e;have:=eq_of_beq e;omega
    ·
     omega
   rw[Zw c l this]
theorem Zx(c:UInt8):∀ l,0<=Lib.indexByte l c->Lib.indexByte l c<l.length/\cutF c l=l.take (Lib.indexByte l c).toNat::cutF c (l.drop ((Lib.indexByte l c).toNat+1))
 | [],h=>by simp[Lib.indexByte] at h
 |
  b::l,h=>by
  unfold Lib.indexByte at h ⊢
  cases hb:b == c with
  | true=>simp[cutF,hb]
  |
   false=>
   rw[hb] at h
   simp only[Bool.false_eq_true,if_false] at h ⊢
   cases he:Lib.indexByte l c == -1 with
   | true=>rw[he] at h;simp at h
   |
    false=>
    rw[he] at h
    simp only[Bool.false_eq_true,if_false] at h ⊢
    have hge:=Lib.indexByte_ge l c
    have hne:Lib.indexByte l c≠-1:=by simpa using he
    obtain⟨h1,h2⟩:=Zx c l (by omega)
    refine⟨by simp;omega,?_⟩
    have e1:(Lib.indexByte l c+1).toNat=(Lib.indexByte l c).toNat+1:=by omega
    rw[e1]
    rw[Zq,hb,h2]
    simp only[Bool.false_eq_true,if_false,List.take_succ_cons,List.drop_succ_cons]
theorem genSplit_loop(c:UInt8)(n:Nat)(hn:n<1099511627777):∀ (l:List UInt8) (done:List Str),l.length<=1099511627776->done.length+(cutF c l).length=n->
  ∀
   m,(cutF c l).length<=m->wT (λ s35=>yE ⟨[c]⟩ 0 ((n:Int) - 1) s35) m ((⟨l⟩:Str),done++List.replicate (n - done.length) zStr,(done.length:Int))=
   some (⟨(cutF c l).getLast (qM c l)⟩,done++((cutF c l).dropLast.map Str.mk++[zStr]),(n:Int) - 1):=by
 intro l
 induction hlen:l.length using Nat.strongRecOn generalizing l with
 |
  _ k ih=>
  intro done hl hd m hm
  have hne:=qM c l
  have hpos:0<(cutF c l).length:=List.length_pos_iff.2 hne
  obtain⟨m,rfl⟩:∃ m',m=m'+1:=⟨m - 1,by omega⟩
  by_cases hlast:(cutF c l).length=1
  ·
   rw[yV (b:=((⟨l⟩:Str),done++List.replicate (n - done.length) zStr,(done.length:Int))) (by unfold yE;exact if_neg (by simp[cmpI];omega))]
   obtain⟨x,hx⟩:=List.length_eq_one_iff.1 hlast
   have e1:n - done.length=1:=by omega
   simp only[hx,List.getLast_singleton,List.dropLast_singleton,List.map_nil,List.nil_append,e1,List.replicate_one]
   have hxl:x=l:=by
    rcases Int.lt_or_le (Lib.indexByte l c) 0 with h | h
    ·
     rw[Zw c l h] at hx;injection hx with hx;exact hx.symm
    ·
     obtain⟨_,h2⟩:=Zx c l h
     rw[h2] at hx
     have:=congrArg List.length hx
     simp at this
     exact absurd this (qM _ _)
   rw[hxl]
   congr 2
   congr 1
   omega
  ·
   have hidx:0<=Lib.indexByte l c:=by
    rcases Int.lt_or_le (Lib.indexByte l c) 0 with h | h
    ·
     rw[Zw c l h] at hlast;simp at hlast
    ·
     exact h
   obtain⟨h1,h2⟩:=Zx c l hidx
   obtain⟨j,hi⟩:=Int.eq_ofNat_of_zero_le hidx
   rw[hi] at h1 h2
   rw[Int.toNat_natCast] at h2
   have hj:j<l.length:=by omega
   have e2:x8 ⟨l⟩ ⟨[c]⟩=some (j:Int):=by simp[x8,hi]
   have hrep:done.length<(done++List.replicate (n - done.length) zStr).length:=by simp;omega
   have e4:atI (done++List.replicate (n - done.length) zStr) (done.length:Int)=some zStr:=by
    rw[zN,List.getElem?_append_right (Nat.le_refl _),Nat.sub_self,List.getElem?_replicate,if_pos (by omega)]
   have e5:setO (done++List.replicate (n - done.length) zStr) (done.length:Int) (⟨l.take j⟩:Str)=some ((done++[⟨l.take j⟩])++List.replicate (n - (done.length+1)) zStr):=by
    rw[Jb hrep]
    congr 1
    rw[List.set_append_right _ _ (Nat.le_refl _),Nat.sub_self]
    obtain⟨q,hq⟩:∃ q,n - done.length=q+1:=⟨n - done.length - 1,by omega⟩
    rw[hq,List.replicate_succ,List.set_cons_zero,List.append_assoc,show n - (done.length+1)=q by omega]
    rfl
   have hstep:yE ⟨[c]⟩ 0 ((n:Int) - 1) ((⟨l⟩:Str),done++List.replicate (n - done.length) zStr,(done.length:Int))=some (.inl ((⟨l.drop (j+1)⟩:Str),(done++[⟨l.take j⟩])++List.replicate (n - (done.length+1)) zStr,((done.length+1:Nat):Int))):=by
    unfold yE
    rw[if_pos (by simp[cmpI];omega)]
    simp only
    rw[e2,Option.bind_some,if_neg (by simp[cmpI]),show((j:Int)+0)=(j:Int) by omega,Zd (by omega) (by omega),Option.bind_some,X3 (show j<=(⟨l⟩:Str).l.length by show j<=l.length;omega),Option.bind_some,e4,Option.bind_some,e5,Option.bind_some]
    rw[show((j:Int)+(([c]:List UInt8).length:Int))=((j+1:Nat):Int) from rfl,Zd (by omega) (by omega),Option.bind_some,X4 (show j+1<=(⟨l⟩:Str).l.length by show j+1<=l.length;omega),Option.bind_some,zW (by omega),Option.bind_some]
   rw[jO hstep]
   have hlen2:(cutF c (l.drop (j+1))).length+1=(cutF c l).length:=by rw[h2];rfl
   have hrec:=ih (l.drop (j+1)).length (by simp;omega) (l.drop (j+1)) rfl (done++[⟨l.take j⟩]) (by simp;omega) (by simp;omega) m (by omega)
   rw[List.length_append,List.length_singleton] at hrec
   rw[hrec]
   have hne2:=qM c (l.drop (j+1))
   have e7:(cutF c l).getLast hne=(cutF c (l.drop (j+1))).getLast hne2:=by
    have:∀ (L:List (List UInt8)) (hL:L≠[]),L=l.take j::cutF c (l.drop (j+1))->L.getLast hL=(cutF c (l.drop (j+1))).getLast hne2:=by
     intro L hL e;subst e;exact List.getLast_cons hne2
    exact this _ hne h2
   have e8:(cutF c l).dropLast=l.take j::(cutF c (l.drop (j+1))).dropLast:=by
    have:∀ (L:List (List UInt8)),L=l.take j::cutF c (l.drop (j+1))->L.dropLast=l.take j::(cutF c (l.drop (j+1))).dropLast:=by
     intro L e;subst e;rw[List.dropLast_cons_of_ne_nil hne2]
    exact this _ h2
   rw[e7,e8]
   simp
theorem Split_eq{s:Str}(hs:s.l.length<=8388608)(c:UInt8):wO s ⟨[c]⟩=some (zB s c):=by
 unfold wO jD
 have hcount:s.l.count c<=s.l.length:=List.count_le_length
 rw[if_neg (by simp[cmpI]),if_neg (by simp)]
 have e1:qJ s ⟨[c]⟩=some (s.l.count c:Int):=rfl
 rw[if_pos (by simp[cmpI]),e1,Option.bind_some,zW (by omega),Option.bind_some,Option.bind_some,zW (by omega),Option.bind_some]
 have hmin:(if((s.l.length+1:Nat):Int)<((s.l.count c+1:Nat):Int) then((s.l.length+1:Nat):Int) else((s.l.count c+1:Nat):Int))=((s.l.count c+1:Nat):Int):=if_neg (by omega)
 rw[hmin]
 have hbig:s.l.count c+1<=16777216:=by omega
 have e2:Xp 1 16 ((s.l.count c+1:Nat):Int) zStr=some (List.replicate (s.l.count c+1) zStr):=by
  unfold Xp
  rw[if_pos ⟨by omega,by simp;omega,by simp;omega,by omega⟩]
  rfl
 rw[e2,Option.bind_some,Zd (by omega) (by omega),Option.bind_some]
 have hl:=qc (genSplit_loop c (s.l.count c+1) (by omega) s.l [] (by omega) (by simp[XR]) (s.l.count c+1) (by rw[XR];omega)) (by omega)
 simp only[List.nil_append,List.length_nil,Nat.sub_zero] at hl
 rw[show((0:Nat):Int)=0 from rfl] at hl
 rw[hl,Option.bind_some]
 have hne:=qM c s.l
 have hlen:=XR c s.l
 have hz:((cutF c s.l).dropLast.map Str.mk).length=s.l.count c:=by simp[hlen]
 have e3:(((s.l.count c+1:Nat):Int) - 1)=(s.l.count c:Int):=by omega
 simp only[e3]
 have e4:atI ((cutF c s.l).dropLast.map Str.mk++[zStr]) (s.l.count c:Int)=some zStr:=by
  rw[zN,List.getElem?_append_right (by omega),hz,Nat.sub_self];rfl
 have e5:setO ((cutF c s.l).dropLast.map Str.mk++[zStr]) (s.l.count c:Int) (⟨(cutF c s.l).getLast hne⟩:Str)=some ((cutF c s.l).map Str.mk):=by
  unfold setO
  rw[if_pos ⟨by omega,by simp[hlen]⟩]
  congr 1
  rw[Int.toNat_natCast,List.set_append_right _ _ (by omega),hz,Nat.sub_self,List.set_cons_zero]
  have:=List.dropLast_concat_getLast hne
  conv=>rhs;rw[← this]
  simp
 rw[e4,Option.bind_some,e5,Option.bind_some,zW (by omega),Option.bind_some]
 have e6:sliHO ((cutF c s.l).map Str.mk) ((s.l.count c+1:Nat):Int)=some ((cutF c s.l).map Str.mk):=by
  unfold sliHO
  rw[if_pos ⟨by omega,by simp[hlen]⟩]
  congr 1
  rw[Int.toNat_natCast]
  exact List.take_of_length_le (by simp[hlen])
 rw[e6,wj]
 rfl
def sho(s:Str):Prop:=s.l.length<=8388608
theorem sho.mid{s:Str}(h:sho s):mid s:=by unfold sho at h;unfold Go.Proofs.YtiiiokblnnlapaaGreatDoor.mid;omega
theorem split_len(s:Str)(c:UInt8):(zB s c).length<=s.l.length+1:=by have:=len_room (zB s c);rwa[Z4] at this
theorem split_part{s x:Str}{c:UInt8}(h:x∈zB s c):x.l.length<=s.l.length+1:=by
 obtain⟨k,hk⟩:=List.getElem?_of_mem h
 have:=part_le hk
 rwa[Z4] at this
theorem any_not{α:Type}(p:α->Bool)(l:List α):l.any (λ x=>!p x)=!l.all p:=by
 induction l with
 | nil=>rfl
 | cons x l ih=>simp[ih]
theorem xN{s:Str}(hs:sho s):z6 s=some (zm s):=by
 unfold sho at hs
 have hlen:=split_len s dot
 unfold z6
 rw[show wO s (⟨[46]⟩:Str)=some (zB s dot) from Split_eq hs dot,Option.bind_some]
 have hl:zT (λ s7=>xz (zB s dot) s7) 0=some (if(zB s dot).any (λ x=>!zy x)=true then .inr false else .inl ()):=by
  refine Yd _ _ _ _ (λ k x hx hlt=>?_) ?_ (by omega) rfl
  ·
   unfold xz
   have hm:mid x:=by have:=split_part (List.mem_of_getElem? hx);unfold mid;omega
   rw[zQ,if_pos (decide_eq_true hlt),zN,hx,Option.bind_some,ZS hm,Option.bind_some,zW (by omega)]
   cases zy x <;> rfl
  ·
   unfold xz
   rw[zQ,if_neg (by simp)]
 rw[hl,Option.bind_some,any_not]
 unfold zm
 cases(zB s dot).all zy <;> rfl
theorem Ze{s:Str}(hs:sho s):yS s=some (zu s):=by
 unfold yS
 rw[xN hs,xM,Option.bind_some]
 unfold zu emptyS
 cases decide (s=(⟨[]⟩:Str)) <;> rfl
def Yt(p s:Str):Str:=if(zu p&&zy s&&zm (child p s))=true then child p s else emptyS
theorem WG{p s:Str}(h:p.l.length+s.l.length+1<=8388608):xQ p s=some (Yt p s):=by
 have hp:sho p:=by unfold sho;omega
 have hs:mid s:=by unfold mid;omega
 unfold xQ Yt
 rw[Ze hp,Option.bind_some,ZS hs,xM,Option.bind_some]
 cases zu p with
 | false=>simp only[Bool.not_false,Bool.true_or,if_true,Bool.false_and,Bool.false_eq_true,if_false,emptyS]
 |
  true=>
  cases zy s with
  | false=>simp only[Bool.not_false,Bool.or_true,if_true,Bool.false_and,Bool.and_false,Bool.false_eq_true,if_false,emptyS,Bool.not_true,beq_self_eq_true]
  |
   true=>
   have hc:(if(decide (p≠(⟨[]⟩:Str)))=true then((catO p (⟨[46]⟩:Str)).bind λ v14=>(catO v14 s).bind λ v15=>some v15) else(some s))=some (child p s):=by
    unfold child emptyS
    by_cases he:p=⟨[]⟩
    ·
     rw[if_neg (by simp[he]),if_pos he]
    ·
     rw[if_pos (by simp[he]),if_neg he,Jc (by show p.l.length+1<=_;omega),Option.bind_some,Jc (by rw[List.length_append];show p.l.length+1+s.l.length<=_;omega),Option.bind_some]
   have hsc:sho (child p s):=by
    unfold sho child
    split
    ·
     omega
    ·
     rw[List.length_append,List.length_append];show p.l.length+1+s.l.length<=_;omega
   rw[hc,if_neg (by decide),Option.bind_some,xN hsc,Option.bind_some]
   generalize child p s=q
   cases zm q <;> rfl
theorem HasPrefix_eq{s p:Str}:wc s p=some (decide (p.l.length<=s.l.length)&&decide ((⟨s.l.take p.l.length⟩:Str)=p)):=by
 unfold wc yF
 by_cases h:p.l.length<=s.l.length
 ·
  have e:cmpI .geq (s.l.length:Int) (p.l.length:Int)=true:=by simp[cmpI,h]
  rw[e,X3 h]
  simp[gO,h]
 ·
  have e:cmpI .geq (s.l.length:Int) (p.l.length:Int)=false:=by simp[cmpI];omega
  rw[e]
  simp[gO,h]
theorem IsUnder_eq{s p:Str}(hs:sho s)(hp:p.l.length+1<=8388608):jX s p=some (zm s&&zu p&&under s p):=by
 have hp':sho p:=by unfold sho;omega
 unfold jX
 rw[xN hs,Option.bind_some,Ze hp',xM,Option.bind_some,Jc (by show p.l.length+1<=_;omega),xM]
 unfold under emptyS
 cases zm s with
 | false=>rfl
 |
  true=>
  cases zu p with
  | false=>rfl
  |
   true=>
   cases he:decide (p=(⟨[]⟩:Str)) with
   | true=>rfl
   |
    false=>
    cases hq:decide (s=p) with
    | true=>rfl
    |
     false=>
     simp only[HasPrefix_eq,xM,Bool.not_true,Bool.or_self,Bool.false_eq_true,if_false,beq_self_eq_true,if_true,Bool.true_and,Bool.false_or,Option.bind_some,List.length_append,List.length_singleton]
     congr 2
     simp[cmpI]
     omega
theorem X5(a b c:Int):yA a b c=some (inR a b c):=rfl
theorem jJ:zm emptyS=false:=rfl
theorem idx_join{α:Type}(p:α->Bool)(xs:List α):Option.bind (some (match xs.findIdx? p with | some i=>(Sum.inr (i:Int):Unit⊕Int) | none=>Sum.inl ())) (Sum.elim (λ _=>some (-1)) some)=some (xm p xs):=by
 unfold xm
 cases xs.findIdx? p <;> rfl
theorem XS{α:Type}(p:α->Bool)(xs:List α):cmpI .geq (xm p xs) 0=xs.any p:=by
 unfold xm
 cases h:xs.findIdx? p with
 |
  none=>
  rw[List.findIdx?_eq_none_iff] at h
  have:xs.any p=false:=by rw[List.any_eq_false];intro x hx;simp[h x hx]
  rw[this];rfl
 |
  some i=>
  obtain⟨hi,hp,_⟩:=List.findIdx?_eq_some_iff_getElem.1 h
  have:xs.any p=true:=by rw[List.any_eq_true];exact⟨_,List.getElem_mem hi,hp⟩
  rw[this];simp[cmpI]
theorem idxOf_lss{α:Type}{p:α->Bool}{xs:List α}{k:Nat}{x:α}(hx:xs[k]?=some x)(hp:p x=true):cmpI .lss (xm p xs) k=(xs.take k).any p:=by
 have hk:=zG hx
 have hxk:xs[k]=x:=by rw[List.getElem?_eq_getElem hk] at hx;injection hx
 unfold xm
 cases h:xs.findIdx? p with
 |
  none=>
  rw[List.findIdx?_eq_none_iff] at h
  have:=h x (List.mem_of_getElem? hx)
  rw[hp] at this;cases this
 |
  some i=>
  obtain⟨hi,hpi,hmin⟩:=List.findIdx?_eq_some_iff_getElem.1 h
  by_cases hik:i<k
  ·
   have:(xs.take k).any p=true:=by
    rw[List.any_eq_true]
    exact⟨xs[i],List.mem_take_iff_getElem.2 ⟨i,by omega,rfl⟩,hpi⟩
   rw[this];simp[cmpI,hik]
  ·
   have:(xs.take k).any p=false:=by
    rw[List.any_eq_false]
    intro y hy
    obtain⟨j,hj,rfl⟩:=List.mem_take_iff_getElem.1 hy
    exact hmin j (by omega)
   rw[this];simp[cmpI];omega
theorem IndexI_eq{xs:List Int}{n:Int}(h:xs.length<=1152921504606846):xu xs n=some (xm (λ x=>n == x) xs):=by
 unfold xu
 have hl:zT (λ s4=>yx xs n s4) 0=some (match xs.findIdx? (λ x=>n == x) with | some i=>(Sum.inr (i:Int):Unit⊕Int) | none=>Sum.inl ()):=by
  refine YV xs (λ x=>n == x) (λ i=>Sum.inr i) _ (λ k x hx hlt=>?_) ?_ (by omega) rfl
  ·
   unfold yx
   rw[zQ,if_pos (decide_eq_true hlt),zN,hx,Option.bind_some,zW (by omega),show cmpI .eql n x=(n == x) from rfl]
   cases n == x <;> rfl
  ·
   unfold yx
   rw[zQ,if_neg (by simp)]
 rw[hl]
 exact idx_join _ _
theorem ContainsI_eq{xs:List Int}{n:Int}(h:xs.length<=1152921504606846):yZ xs n=some (xs.any (λ x=>n == x)):=by
 unfold yZ
 rw[IndexI_eq h,Option.bind_some,XS]
theorem stmt_mod(s:Stmt):decide (s={ (⟨s.kind,⟨[]⟩,0,⟨[]⟩,0⟩:Stmt) with module:=s.module })=(cmpI .eql s.level 0&&decide (s.name=⟨[]⟩)&&cmpI .eql s.value 0):=by
 cases s;rw[Bool.eq_iff_iff];simp[cmpI,and_assoc]
theorem stmt_nv(s:Stmt):decide (s={ { (⟨s.kind,⟨[]⟩,0,⟨[]⟩,0⟩:Stmt) with name:=s.name } with value:=s.value })=(decide (s.module=⟨[]⟩)&&cmpI .eql s.level 0):=by
 cases s;rw[Bool.eq_iff_iff];simp[cmpI]
theorem stmt_n(s:Stmt):decide (s={ (⟨s.kind,⟨[]⟩,0,⟨[]⟩,0⟩:Stmt) with name:=s.name })=(decide (s.module=⟨[]⟩)&&cmpI .eql s.level 0&&cmpI .eql s.value 0):=by
 cases s;rw[Bool.eq_iff_iff];simp[cmpI,and_assoc]
theorem smStmt.sho{s:Stmt}(h:smStmt s):sho s.module:=by have:=h.1;unfold Go.Proofs.YtiiiokblnnlapaaGreatDoor.sho;omega
theorem smStmt.midn{s:Stmt}(h:smStmt s):mid s.name:=by have:=h.2;unfold mid;omega
theorem stmtOk_eq{s:Stmt}(h:smStmt s):qu s=some (zO s):=by
 have hm:=xN h.sho
 have hn:=ZS h.midn
 unfold qu
 rw[hm,hn,stmt_mod,stmt_nv,stmt_n]
 simp only[X5,xM,Option.bind_some]
 unfold zO
 rcases s with⟨kind,m,level,name,value⟩
 simp only[show ∀ x y:Int,cmpI .eql x y=(x == y) from λ _ _=>rfl]
 by_cases h0:kind=0
 ·
  subst h0
  simp only[beq_self_eq_true,if_true,Option.bind_some]
  generalize zm m=a;generalize (level == 0)=b;generalize decide (name=⟨[]⟩)=c;generalize (value == 0)=d
  cases a <;> cases b <;> cases c <;> cases d <;> rfl
 ·
  by_cases h2:kind=2
  ·
   subst h2
   simp only[beq_self_eq_true,if_true,Option.bind_some,show((2:Int) == 0)=false from rfl,show((2:Int) == 1)=false from rfl,Bool.false_eq_true,if_false]
   generalize zm m=a;generalize (level == 0)=b;generalize decide (name=⟨[]⟩)=c;generalize (value == 0)=d
   cases a <;> cases b <;> cases c <;> cases d <;> rfl
  ·
   have e0:(kind == 0)=false:=by simpa using h0
   have e2:(kind == 2)=false:=by simpa using h2
   simp only[e0,e2,Bool.false_eq_true,if_false,Option.bind_some]
   by_cases h1:kind=1
   ·
    subst h1
    simp only[beq_self_eq_true,if_true]
    have hl:cmpI .geq level 1=cmpI .gtr level 0:=by simp[cmpI];omega
    rw[hl]
    unfold zu
    by_cases hme:m=emptyS
    ·
     subst hme
     rw[jJ]
     simp only[emptyS,decide_true,ne_eq,not_true_eq_false,decide_false]
     generalize (value == 0)=a;generalize inR level 0 3=b;generalize cmpI .gtr level 0=c;generalize zy name=d
     cases a <;> cases b <;> cases c <;> cases d <;> rfl
    ·
     have e1:decide (m=emptyS)=false:=decide_eq_false hme
     have e3:decide (m=⟨[]⟩)=false:=decide_eq_false hme
     have e4:decide (m≠⟨[]⟩)=true:=decide_eq_true hme
     rw[e1,e3,e4]
     generalize (value == 0)=a;generalize inR level 0 3=b;generalize cmpI .gtr level 0=c;generalize zy name=d;generalize zm m=e
     cases a <;> cases b <;> cases c <;> cases d <;> cases e <;> rfl
   ·
    have e1:(kind == 1)=false:=by simpa using h1
    simp only[e1,Bool.false_eq_true,if_false]
    by_cases h3:kind=3
    ·
     subst h3
     simp only[beq_self_eq_true,if_true]
     generalize decide (m=⟨[]⟩)=a;generalize (level == 0)=b;generalize inR value 0 99=c;generalize zy name=d
     cases a <;> cases b <;> cases c <;> cases d <;> rfl
    ·
     have e3:(kind == 3)=false:=by simpa using h3
     simp only[e3,Bool.false_eq_true,if_false]
     by_cases h4:kind=4
     ·
      subst h4
      simp only[beq_self_eq_true,if_true]
      generalize decide (m=⟨[]⟩)=a;generalize (level == 0)=b;generalize (value == 0)=c;generalize zy name=d
      cases a <;> cases b <;> cases c <;> cases d <;> rfl
     ·
      have e4:(kind == 4)=false:=by simpa using h4
      simp only[e4,Bool.false_eq_true,if_false]
      by_cases h5:kind=5
      ·
       subst h5;rfl
      ·
       have e5:(kind == 5)=false:=by simpa using h5
       simp only[e5,Bool.false_eq_true,if_false]
theorem ValidBody_eq{b:List Stmt}(hlen:b.length<=1048576)(h:∀ s∈b,smStmt s):jm b=some (wM b):=by
 unfold jm
 have hl:zT (λ s4=>xA b s4) 0=some (if b.any (λ x=>!zO x)=true then .inr false else .inl ()):=by
  refine Yd _ _ _ _ (λ k x hx hlt=>?_) ?_ (by omega) rfl
  ·
   unfold xA
   rw[zQ,if_pos (decide_eq_true hlt),zN,hx,Option.bind_some,stmtOk_eq (h x (List.mem_of_getElem? hx)),Option.bind_some,zW (by omega)]
   cases zO x <;> rfl
  ·
   unfold xA
   rw[zQ,if_neg (by simp)]
 rw[hl,Option.bind_some,any_not]
 unfold wM
 cases b.all zO <;> rfl
theorem child_ne{p s:Str}(h:zm (child p s)=true):child p s≠emptyS:=by
 intro e;rw[e,jJ] at h;cases h
theorem smFile.shop{f:File}(h:smFile f):sho f.pkg:=by have:=h.1;unfold sho;omega
theorem smFile.midn{f:File}(h:smFile f):mid f.name:=by have:=h.2.1;unfold mid;omega
theorem smFile.child{f:File}(h:smFile f):f.pkg.l.length+f.name.l.length+1<=8388608:=by have:=h.1;have:=h.2.1;omega
theorem fileOk_eq{f:File}(h:smFile f):qv f=some (xx f):=by
 unfold qv
 rw[X5,Option.bind_some,Ze h.shop,xM,Option.bind_some,X5,xM,Option.bind_some,ValidBody_eq h.2.2.1 h.2.2.2,xM,Option.bind_some,ZS h.midn,Option.bind_some,WG h.child,xM,Option.bind_some]
 unfold xx
 cases inR f.root 0 2 with
 | false=>rfl
 |
  true=>
  cases hp:zu f.pkg with
  | false=>cases inR f.stamp 0 99 <;> rfl
  |
   true=>
   cases inR f.stamp 0 99 with
   | false=>rfl
   |
    true=>
    cases wM f.body with
    | false=>rfl
    |
     true=>
     cases f.init with
     | true=>rfl
     |
      false=>
      show some (zy f.name&&decide ((if(zy f.name == true)=true then Yt f.pkg f.name else default)≠(⟨[]⟩:Str)))=some (zy f.name&&zm (Go.Proofs.YtiiiokblnnlapaaGreatDoor.child f.pkg f.name))
      cases hn:zy f.name with
      | false=>rfl
      |
       true=>
       unfold Yt
       rw[hp,hn]
       cases hc:zm (Go.Proofs.YtiiiokblnnlapaaGreatDoor.child f.pkg f.name) with
       | false=>simp[emptyS]
       |
        true=>
        have:=child_ne hc
        simp only[Bool.and_self,if_true,beq_self_eq_true,Bool.true_and]
        rw[decide_eq_true (show Go.Proofs.YtiiiokblnnlapaaGreatDoor.child f.pkg f.name≠⟨[]⟩ from this)]
theorem Je(f g:File):jk f g=some (xt f g):=rfl
theorem Wn(f g:File):xt f g=xt g f:=by
 unfold xt
 rw[BEq.comm (a:=f.root),BEq.comm (a:=f.init),decide_eq_decide.2 (eq_comm (a:=f.pkg) (b:=g.pkg)),decide_eq_decide.2 (eq_comm (a:=f.name) (b:=g.name))]
theorem sameFile_refl(f:File):xt f f=true:=by simp[xt]
theorem ValidTree_eq{t:Tree}(h:Zn t):jp t=some (yb t):=by
 have hlen:=h.1
 unfold jp
 have hl:zT (λ s4=>xC t s4) 0=some (if(List.range t.files.length).any (λ k=>!XB t.files k)=true then .inr false else .inl ()):=by
  refine Yd (List.range t.files.length) _ _ _ (λ k x hx hlt=>?_) ?_ (by rw[List.length_range];omega) rfl
  ·
   rw[List.length_range] at hlt
   rw[List.getElem?_range hlt] at hx
   injection hx with hx
   subst hx
   unfold xC
   obtain⟨f,hf⟩:∃ f,t.files[k]?=some f:=⟨_,List.getElem?_eq_getElem hlt⟩
   have ht:XB t.files k=!(!xx f||cmpI .lss (yQ t.files f) k):=by unfold XB;rw[hf]
   rw[zQ,if_pos (decide_eq_true hlt),zN,hf,Option.bind_some,fileOk_eq (h.2 _ (List.mem_of_getElem? hf)),Option.bind_some,sliHO_nat (by omega),Option.bind_some,ht]
   cases xx f with
   | false=>rfl
   |
    true=>
    rw[if_neg (by decide)]
    have hin:zT (λ s28=>xB f (t.files.take k) s28) 0=some (if(t.files.take k).any (λ x=>xt f x)=true then .inr (.inr (.inr false)) else .inl ()):=by
     have htl:(t.files.take k).length<=k:=by simp;omega
     refine Yd _ _ _ _ (λ j y hy hjt=>?_) ?_ (by omega) rfl
     ·
      unfold xB
      rw[zQ,if_pos (decide_eq_true hjt),zN,hy,Option.bind_some,Je,Option.bind_some,zW (by omega)]
      cases xt f y <;> rfl
     ·
      unfold xB
      rw[zQ,if_neg (by simp)]
    rw[hin]
    have hfa:cmpI .lss (yQ t.files f) k=(t.files.take k).any (λ x=>xt f x):=by
     unfold yQ
     rw[idxOf_lss (p:=λ x=>xt x f) hf (sameFile_refl _)]
     congr 1
     funext x
     exact Wn _ _
    rw[hfa]
    cases(t.files.take k).any (λ x=>xt f x) with
    | true=>rfl
    |
     false=>
     rw[if_neg (by decide),Option.bind_some,Sum.elim_inl,zW (by omega)]
     rfl
  ·
   unfold xC
   rw[List.length_range,zQ,if_neg (by simp)]
 rw[hl,Option.bind_some,any_not]
 unfold yb Yz
 cases(List.range t.files.length).all (XB t.files) <;> rfl
theorem fileAt_eq{t:Tree}{f:File}(h:t.files.length<=1048576):jK t f=some (yQ t.files f):=by
 unfold jK
 have hl:zT (λ s4=>wv t f s4) 0=some (match t.files.findIdx? (λ x=>xt x f) with | some i=>(Sum.inr (i:Int):Unit⊕Int) | none=>Sum.inl ()):=by
  refine YV t.files (λ x=>xt x f) (λ i=>Sum.inr i) _ (λ k x hx hlt=>?_) ?_ (by omega) rfl
  ·
   unfold wv
   rw[zQ,if_pos (decide_eq_true hlt),zN,hx,Option.bind_some,Je,Option.bind_some,zW (by omega),Wn]
   cases xt x f <;> rfl
  ·
   unfold wv
   rw[zQ,if_neg (by simp)]
 rw[hl]
 exact idx_join _ _
theorem XT{t:Tree}(h:yb t=true){f:File}(hf:f∈t.files):xx f=true:=by
 obtain⟨k,hk⟩:=List.getElem?_of_mem hf
 unfold yb Yz at h
 rw[Bool.and_eq_true] at h
 have:=List.all_eq_true.1 h.1 k (List.mem_range.2 (zG hk))
 unfold XB at this
 rw[hk] at this
 simp only at this
 cases hv:xx f with
 | true=>rfl
 | false=>rw[hv] at this;cases this
theorem validFile_pkg{f:File}(h:xx f=true):zu f.pkg=true:=by
 unfold xx at h
 cases hv:zu f.pkg with
 | true=>rfl
 |
  false=>
  rw[hv,if_pos (by simp)] at h
  cases h
theorem hasDir_eq{t:Tree}{r:Int}{p:Str}(h:Zn t)(hv:∀ f∈t.files,zu f.pkg=true)(hp:zu p=true)(hpl:p.l.length+1<=8388608):qw t r p=some (Zo t.files r p):=by
 have hlen:=h.1
 unfold qw
 have hl:zT (λ s4=>wu t r p s4) 0=some (if t.files.any (XC r p)=true then .inr true else .inl ()):=by
  refine Yd _ _ _ _ (λ k x hx hlt=>?_) ?_ (by omega) rfl
  ·
   unfold wu
   have hm:=List.mem_of_getElem? hx
   rw[zQ,if_pos (decide_eq_true hlt),zN,hx,Option.bind_some,IsUnder_eq (h.2 x hm).shop hpl,xM,Option.bind_some,zW (by omega),hp]
   unfold XC
   have hvx:=hv x hm
   unfold zu at hvx
   rw[show cmpI .eql x.root r=(x.root == r) from rfl]
   by_cases he:x.pkg=emptyS
   ·
    rw[he,jJ]
    simp
   ·
    have e1:zm x.pkg=true:=by simpa[he] using hvx
    rw[e1,decide_eq_true (show x.pkg≠emptyS from he)]
    cases x.root == r <;> cases under x.pkg p <;> rfl
  ·
   unfold wu
   rw[zQ,if_neg (by simp)]
 rw[hl,Option.bind_some]
 unfold Zo emptyS
 cases t.files.any (XC r p) <;> rfl
theorem ValidPath_eq{l:List Int}(h:l.length<=1048576):jr l=some (ws l):=by
 unfold jr
 have hl:zT (λ s4=>xD l s4) 0=some (if(List.range l.length).any (λ k=>!Wy l k)=true then .inr false else .inl ()):=by
  refine Yd (List.range l.length) _ _ _ (λ k x hx hlt=>?_) ?_ (by rw[List.length_range];omega) rfl
  ·
   rw[List.length_range] at hlt
   rw[List.getElem?_range hlt] at hx
   injection hx with hx
   subst hx
   unfold xD
   obtain⟨n,hf⟩:∃ n,l[k]?=some n:=⟨_,List.getElem?_eq_getElem hlt⟩
   have htl:(l.take k).length<=1152921504606846:=by simp;omega
   have ht:Wy l k=!(!inR n 0 2||(l.take k).any (λ x=>n == x)):=by
    unfold Wy
    rw[hf]
    simp only
    unfold intAt
    rw[XS,show(λ x=>x == n)=(λ x=>n == x) from by funext x;exact BEq.comm]
   rw[zQ,if_pos (decide_eq_true hlt),zN,hf,Option.bind_some,X5,Option.bind_some,sliHO_nat (by omega),xM,Option.bind_some,ht,zW (by omega)]
   cases inR n 0 2 with
   | false=>rfl
   |
    true=>
    simp only[Bool.not_true,beq_self_eq_true,if_true]
    rw[ContainsI_eq htl,xM,Option.bind_some]
    cases(l.take k).any (λ x=>n == x) <;> rfl
  ·
   unfold xD
   rw[List.length_range,zQ,if_neg (by simp)]
 rw[hl,Option.bind_some,any_not]
 unfold ws XD
 cases(List.range l.length).all (Wy l) <;> rfl
structure Good(t:Tree):Prop where
 sm:Zn t
 ok:yb t=true
theorem Good.pkg{t:Tree}(h:Good t):∀ f∈t.files,zu f.pkg=true:=λ _ hf=>validFile_pkg (XT h.ok hf)
theorem Good.len{t:Tree}(h:Good t):t.files.length<=1048576:=h.sm.1
theorem YI{s:Str}(h:zy s=true):1<=s.l.length/\s.l.length<=3:=by
 unfold zy inR at h
 simp[cmpI] at h
 omega
theorem lenSum_le(l:List Str)(h:∀ x∈l,x.l.length<=3):wg l<=4*l.length:=by
 induction l with
 | nil=>exact Nat.le_refl _
 |
  cons x l ih=>
  have h1:=h x (by simp)
  have h2:=ih λ y hy=>h y (by simp[hy])
  unfold wg at h2 ⊢
  simp only[List.map_cons,List.sum_cons,List.length_cons]
  omega
theorem yN{s:Str}(h:zm s=true):s.l.length<=11:=by
 unfold zm at h
 rw[Bool.and_eq_true] at h
 have h1:=lenSum_le (zB s dot) λ x hx=>(YI (List.all_eq_true.1 h.1 x hx)).2
 rw[Z4] at h1
 have h2:=h.2
 simp[cmpI] at h2
 omega
theorem xp{s:Str}(h:zu s=true):s.l.length<=11:=by
 unfold zu at h
 rw[Bool.or_eq_true] at h
 rcases h with h | h
 ·
  rw[of_decide_eq_true h];exact Nat.zero_le _
 ·
  exact yN h
def Xs:List (List UInt8)->List UInt8
 | []=>[]
 | [a]=>a
 | a::b::l=>a++46::Xs (b::l)
theorem Wo:∀ (l:List Str) (acc:List UInt8),(l.foldl ZB (⟨acc⟩,true)).1=⟨acc++(l.map λ x=>46::x.l).flatten⟩
 | [],acc=>by simp
 |
  x::l,acc=>by
  rw[List.foldl_cons]
  show(l.foldl ZB (⟨(acc++[46])++x.l⟩,true)).1=_
  rw[Wo l]
  simp
theorem Qu(a:List UInt8)(l:List (List UInt8)):Xs (a::l)=a++(l.map λ x=>46::x).flatten:=by
 induction l generalizing a with
 | nil=>simp[Xs]
 | cons b l ih=>rw[Xs,ih];simp
theorem Qv(l:List Str):join l=⟨Xs (l.map (·.l))⟩:=by
 cases l with
 | nil=>rfl
 |
  cons x l=>
  unfold join qh
  rw[List.foldl_cons]
  show(l.foldl ZB (⟨[]++x.l⟩,true)).1=_
  rw[Wo,List.map_cons,Qu]
  simp[List.map_map,Function.comp_def]
theorem cutF_pre(c:UInt8):∀ (a l:List UInt8),c ∉ a->cutF c (a++c::l)=a::cutF c l
 | [],l,_=>by simp[cutF]
 |
  b::a,l,h=>by
  have hb:(b == c)=false:=by
   have:b≠c:=λ e=>h (by simp[e])
   simpa using this
  rw[List.cons_append,Zq,hb,cutF_pre c a l (λ e=>h (by simp[e]))]
  rfl
theorem Jf(c:UInt8):∀ (a:List UInt8),c ∉ a->cutF c a=[a]
 | [],_=>rfl
 |
  b::a,h=>by
  have hb:(b == c)=false:=by
   have:b≠c:=λ e=>h (by simp[e])
   simpa using this
  rw[Zq,hb,Jf c a (λ e=>h (by simp[e]))]
  rfl
theorem Qw:∀ (l:List (List UInt8)),l≠[]->(∀ x∈l,(46:UInt8) ∉ x)->cutF 46 (Xs l)=l
 | [],h,_=>absurd rfl h
 | [a],_,h=>Jf 46 a (h a (by simp))
 |
  a::b::l,_,h=>by
  rw[Xs,cutF_pre 46 a _ (h a (by simp)),Qw (b::l) (by simp) λ x hx=>h x (by simp[hx])]
theorem WH:∀ (l:List UInt8),Xs (cutF 46 l)=l
 | []=>rfl
 |
  b::l=>by
  rw[Zq]
  cases hb:b == 46 with
  |
   true=>
   have ih:=WH l
   have hb:=eq_of_beq hb
   rw[if_pos rfl]
   cases hc:cutF 46 l with
   | nil=>exact absurd hc (qM 46 l)
   | cons h t=>rw[Xs,← hc,ih,hb];rfl
  |
   false=>
   have ih:=WH l
   rw[if_neg (by decide)]
   cases hc:cutF 46 l with
   | nil=>exact absurd hc (qM 46 l)
   |
    cons h t=>
    rw[hc] at ih
    show Xs ((b::h)::t)=b::l
    rw[Qu] at ih ⊢
    rw[← ih];rfl
theorem join_split(s:Str):join (zB s dot)=s:=by
 rw[Qv,wj,List.map_map]
 show(⟨Xs ((cutF 46 s.l).map λ x=>x)⟩:Str)=s
 rw[List.map_id',WH]
theorem low_ne{b:UInt8}(h:low b=true):b≠46:=by
 intro e;subst e;revert h;decide
theorem validPart_dot{s:Str}(h:zy s=true):(46:UInt8) ∉ s.l:=by
 unfold zy at h
 rw[Bool.and_eq_true] at h
 intro hm
 exact low_ne (List.all_eq_true.1 h.2 _ hm) rfl
theorem Qx{l:List Str}(hne:l≠[])(h:∀ x∈l,zy x=true):zB (join l) dot=l:=by
 rw[Qv,wj]
 show(cutF 46 (Xs (l.map (·.l)))).map Str.mk=l
 rw[Qw _ (by simpa using hne) (by
  intro x hx
  obtain⟨y,hy,rfl⟩:=List.mem_map.1 hx
  exact validPart_dot (h y hy)),List.map_map]
 show l.map (λ x=>x)=l
 exact List.map_id' l
theorem Qy{l:List Str}(hne:l≠[])(hlen:l.length<=3)(h:∀ x∈l,zy x=true):zm (join l)=true:=by
 unfold zm
 rw[Qx hne h,Bool.and_eq_true]
 exact⟨List.all_eq_true.2 h,by simp[cmpI];omega⟩
theorem wR{s:Str}(h:zm s=true):(∀ x∈zB s dot,zy x=true)/\(zB s dot).length<=3:=by
 unfold zm at h
 rw[Bool.and_eq_true] at h
 have:=h.2
 simp[cmpI] at this
 exact⟨List.all_eq_true.1 h.1,by omega⟩
theorem pre_valid{s:Str}(h:zm s=true)(k:Nat):zu (join ((zB s dot).take k))=true:=by
 obtain⟨h1,h2⟩:=wR h
 unfold zu
 cases k with
 | zero=>rfl
 |
  succ k=>
  have hne:=XA s dot
  rw[Qy (by intro e;have:=congrArg List.length e;simp at this;rw[this] at hne;simp at hne) (by simp;omega) λ x hx=>h1 x (List.mem_of_mem_take hx),Bool.or_true]
theorem dir_of_init{t:List File}{r:Int}{c:Str}(hc:c≠emptyS)(h:cmpI .geq (yQ t ⟨r,c,⟨[]⟩,true,0,[]⟩) 0=true):Zo t r c=true:=by
 unfold yQ at h
 rw[XS,List.any_eq_true] at h
 obtain⟨f,hf,hs⟩:=h
 unfold xt at hs
 simp only[Bool.and_eq_true,beq_iff_eq,decide_eq_true_eq] at hs
 obtain⟨⟨⟨h1,h2⟩,_⟩,_⟩:=hs
 unfold Zo
 rw[Bool.or_eq_true,List.any_eq_true]
 refine .inl ⟨f,hf,?_⟩
 unfold XC under
 simp[h1,h2,hc]
theorem find_eq{t:Tree}(ht:Good t){roots:List Int}(hr:roots.length<=1048576){p s:Str}(hp:zu p=true)(hs:zy s=true)(hc:zm (child p s)=true):qV t roots p s=some (qP t.files roots p s):=by
 have hpl:=xp hp
 have hsl:=(YI hs).2
 have hcl:=yN hc
 have hne:=child_ne hc
 have hcp:zu (child p s)=true:=by unfold zu;rw[hc,Bool.or_true]
 have he:Yt p s=child p s:=by unfold Yt;rw[hp,hs,hc];rfl
 unfold qV
 rw[WG (by omega),he,Option.bind_some,if_neg (by simp only[decide_eq_true_eq];exact hne)]
 have hl:zT (λ s16=>wA t roots p s (child p s) s16) (zSpec,[],(0:Int))=some (runL (λ _ (acc:List Int) r=>
   if cmpI .geq (yQ t.files ⟨r,child p s,⟨[]⟩,true,0,[]⟩) 0=true then .inr (Sum.inr (⟨2,yQ t.files ⟨r,child p s,⟨[]⟩,true,0,[]⟩,[r]⟩:Spec))
   else if cmpI .geq (yQ t.files ⟨r,p,s,false,0,[]⟩) 0=true then .inr (Sum.inr (⟨1,yQ t.files ⟨r,p,s,false,0,[]⟩,[]⟩:Spec))
   else .inl (if Zo t.files r (child p s)=true then acc++[r] else acc)) (λ acc=>Sum.inl (zSpec,acc)) 0 [] roots):=by
  refine Jd (σ:=List Int) roots (λ acc k=>(zSpec,acc,(k:Int))) _ _ (λ k acc=>acc.length<=k) (λ k acc r hx hlt hi=>?_) (λ acc _=>?_) (Nat.le_refl 0) (by omega)
  ·
   have hst:wA t roots p s (child p s) (zSpec,acc,(k:Int))=(if cmpI .geq (yQ t.files ⟨r,child p s,⟨[]⟩,true,0,[]⟩) 0=true then some (.inr (.inr (⟨2,yQ t.files ⟨r,child p s,⟨[]⟩,true,0,[]⟩,[r]⟩:Spec)))
     else if cmpI .geq (yQ t.files ⟨r,p,s,false,0,[]⟩) 0=true then some (.inr (.inr (⟨1,yQ t.files ⟨r,p,s,false,0,[]⟩,[]⟩:Spec)))
     else some (.inl (zSpec,(if Zo t.files r (child p s)=true then acc++[r] else acc),((k+1:Nat):Int)))):=by
    unfold wA
    simp only
    rw[zQ,if_pos (decide_eq_true hlt),zN,hx,Option.bind_some,Option.bind_some,fileAt_eq ht.len,Option.bind_some,Bool.true_and,fileAt_eq ht.len,Option.bind_some,Bool.true_and,hasDir_eq ht.sm ht.pkg hcp (by omega),zW (by omega)]
    rw[xM,Option.bind_some,jF (by simp;omega) (by simp;omega)]
    generalize cmpI .geq (yQ t.files ⟨r,child p s,⟨[]⟩,true,0,[]⟩) 0=b1
    generalize cmpI .geq (yQ t.files ⟨r,p,s,false,0,[]⟩) 0=b2
    generalize Zo t.files r (child p s)=b3
    cases b1 <;> cases b2 <;> cases b3 <;> rfl
   cases h1:cmpI .geq (yQ t.files ⟨r,child p s,⟨[]⟩,true,0,[]⟩) 0 with
   | true=>rw[h1] at hst;exact hst
   |
    false=>
    rw[h1] at hst
    rw[if_neg (by decide)] at hst ⊢
    cases h2:cmpI .geq (yQ t.files ⟨r,p,s,false,0,[]⟩) 0 with
    | true=>rw[h2] at hst;exact hst
    |
     false=>
     rw[h2] at hst
     rw[if_neg (by decide)] at hst ⊢
     refine⟨hst,?_⟩
     split
     ·
      simp;omega
     ·
      omega
  ·
   unfold wA
   simp only
   rw[zQ,if_neg (by simp)]
 rw[hl,Option.bind_some]
 unfold qP
 have key:∀ (rs:List Int) (k:Nat) (acc:List Int),Sum.elim (λ b14:Spec×List Int=>if(cmpI .gtr (b14.2.length:Int) (0:Int))=true then(some (⟨(3:Int),(-1:Int),b14.2⟩:Spec)) else((jq).bind λ v75=>some v75)) some (runL (λ _ (acc:List Int) r=>
   if cmpI .geq (yQ t.files ⟨r,child p s,⟨[]⟩,true,0,[]⟩) 0=true then .inr (Sum.inr (⟨2,yQ t.files ⟨r,child p s,⟨[]⟩,true,0,[]⟩,[r]⟩:Spec))
   else if cmpI .geq (yQ t.files ⟨r,p,s,false,0,[]⟩) 0=true then .inr (Sum.inr (⟨1,yQ t.files ⟨r,p,s,false,0,[]⟩,[]⟩:Spec))
   else .inl (if Zo t.files r (child p s)=true then acc++[r] else acc)) (λ acc=>Sum.inl (zSpec,acc)) k acc rs)=some (wh t.files p s acc rs):=by
  intro rs
  induction rs with
  |
   nil=>
   intro k acc
   unfold wh
   simp only[runL,Sum.elim_inl]
   split <;> rfl
  |
   cons r rs ih=>
   intro k acc
   unfold wh
   rw[runL]
   cases h1:cmpI .geq (yQ t.files ⟨r,child p s,⟨[]⟩,true,0,[]⟩) 0 with
   | true=>rw[dir_of_init hne h1];rfl
   |
    false=>
    rw[Bool.and_false]
    cases h2:cmpI .geq (yQ t.files ⟨r,p,s,false,0,[]⟩) 0 with
    | true=>rfl
    | false=>exact ih _ _
 exact key roots 0 []
theorem J2(c:UInt8):∀ (a l:List UInt8),cutF c (a++c::l)=cutF c a++cutF c l
 | [],l=>by simp[cutF]
 |
  b::a,l=>by
  rw[List.cons_append,Zq,J2 c a l,Zq]
  cases b == c with
  | true=>rfl
  |
   false=>
   rw[if_neg (by decide),if_neg (by decide)]
   cases hc:cutF c a with
   | nil=>exact absurd hc (qM c a)
   | cons h t=>rfl
theorem split_append(p s:Str):zB ⟨(p.l++[46])++s.l⟩ dot=zB p dot++zB s dot:=by
 rw[wj,wj,wj,← List.map_append]
 show(cutF 46 ((p.l++[46])++s.l)).map Str.mk=(cutF 46 p.l++cutF 46 s.l).map Str.mk
 rw[List.append_assoc,List.singleton_append,J2]
section
variable{S β:Type}
end
theorem xO{x:Str}(h:zm x=true):sho x:=by have:=yN h;unfold sho;omega
theorem atI_file{l:List File}{n:Int}(h0:0<=n)(h:n<l.length):atI l n=some ((l[n.toNat]?).getD default):=by
 unfold atI
 rw[if_pos h0]
 exact get_def h0 h
open Go.RowKit
def Okd{α:Type}[Rep α](x:α):Prop:=∃ M w cs,Rep.rdc M w cs x
section
variable{α β:Type}[Rep α][Rep β]
theorem Okd.fld{get:α->β}{off:Nat}(f:Fld get off){x:α}(h:Okd x):Okd (get x):=by
 obtain⟨M,w,cs,hr⟩:=h
 obtain⟨c,_,h2⟩:=f.sub hr
 exact⟨M,w,c,h2⟩
theorem Okd.str{s:Str}(h:Okd s):s.l.length<=9223372036854775807:=by
 obtain⟨M,w,cs,hr⟩:=h
 exact hr.2
theorem Okd.len{xs:List α}(h:Okd xs):xs.length<=9223372036854775807:=by
 obtain⟨M,w,cs,A,c,_,h1,h2,_⟩:=h
 exact Nat.le_trans h1 h2
theorem rowR_okd{M:Nat->Prop}{w:World}:∀ {cells:List Value} {xs:List α},rowR M w cells xs->∀ x∈xs,Okd x
 | _,_::_,⟨c,_r,_,h1,h2⟩,x,hx=>(List.mem_cons.1 hx).elim (λ e=>e ▸ ⟨M,w,c,h1⟩) (rowR_okd h2 x)
theorem Okd.mem{xs:List α}(h:Okd xs){x:α}(hx:x∈xs):Okd x:=by
 obtain⟨M,w,cs,A,c,_,_,_,h3⟩:=h
 rcases h3 with h3 | ⟨b,o,cells,_,_,_,hr⟩
 ·
  rw[h3] at hx;cases hx
 ·
  exact rowR_okd hr x hx
theorem RdAll.okd{M:Nat->Prop}{w:World}{vs:List Value}{xs:List Dt}(hr:RdAll M w vs xs){x:α}(hx:dt x∈xs):Okd x:=by
 induction hr with
 | nil=>cases hx
 |
  cons h r ih=>
  rcases List.mem_cons.1 hx with e | hx
  ·
   rw[← e] at h
   obtain⟨cs,h1,_⟩:=h
   exact⟨M,w,cs,h1⟩
  ·
   exact ih hx
theorem Fn.okd{P:Program}{f:FuncId}{xs:List Dt}{y:Dt}{x:α}(hx:dt x∈xs)(h:Okd x->Fn P f xs y):Fn P f xs y:=λ M w vs hm hr=>h (hr.okd hx) M w vs hm hr
end
section
variable{α β σ S:Type}
theorem neq_len{m n:Nat}:cmpI .neq (m:Int) (n:Int)=!decide (m=n):=by
 by_cases h:m=n
 ·
  simp[cmpI,h]
 ·
  simp[cmpI,h];omega
theorem set_at{xs:List α}{z:α}{k:Nat}(hk:k<xs.length):(xs.take k++List.replicate (xs.length - k) z).set k xs[k]=xs.take (k+1)++List.replicate (xs.length - (k+1)) z:=by
 rw[List.set_append_right _ _ (by rw[List.length_take];omega),List.length_take,Nat.min_eq_left (by omega),Nat.sub_self,show xs.length - k=(xs.length - (k+1))+1 by omega,List.replicate_succ,List.set_cons_zero,List.take_add_one,List.getElem?_eq_getElem hk]
 simp only[Option.toList_some,List.append_assoc,List.singleton_append]
theorem at_at{xs:List α}{z:α}{k:Nat}(hk:k<xs.length):(xs.take k++List.replicate (xs.length - k) z)[k]?=some z:=by
 rw[List.getElem?_append_right (by rw[List.length_take];omega),List.length_take,Nat.min_eq_left (by omega),Nat.sub_self,List.getElem?_replicate,if_pos (by omega)]
theorem len_at{xs:List α}{z:α}{k:Nat}(hk:k<xs.length):k<(xs.take k++List.replicate (xs.length - k) z).length:=by
 rw[List.length_append,List.length_take,List.length_replicate]
 omega
theorem JL{step:List α×Int->Option ((List α×Int)⊕List α)}(xs:List α)(z:α)
  (h:∀ k (hk:k<xs.length),step (xs.take k++List.replicate (xs.length - k) z,(k:Int))=some (.inl ((xs.take k++List.replicate (xs.length - k) z).set k xs[k],((k+1:Nat):Int))))
  (hend:∀ ys,step (ys,(xs.length:Int))=some (.inr ys)) (hlen:xs.length<576460752303423488) {s0:List α×Int} (h0:s0=(List.replicate xs.length z,0)):zT step s0=some xs:=by
 have key:∀ m k,k+m=xs.length->wT step (m+1) (xs.take k++List.replicate (xs.length - k) z,(k:Int))=some xs:=by
  intro m
  induction m with
  |
   zero=>
   intro k hk
   have:k=xs.length:=by omega
   subst this
   rw[yV (hend _)]
   simp
  |
   succ m ih=>
   intro k hk
   have hlt:k<xs.length:=by omega
   rw[jO (h k hlt),set_at hlt]
   exact ih (k+1) (by omega)
 have h1:=key xs.length 0 (by omega)
 subst h0
 exact qc (by simpa using h1) (by omega)
theorem makeO_of{size bytes n:Nat}{z:α}(h1:n*size<=16777216)(h2:bytes*n<=281474976710656)(h3:n<=9223372036854775807):Xp size bytes (n:Int) z=some (List.replicate n z):=by
 unfold Xp
 rw[if_pos ⟨by omega,by simpa using h1,by simpa using h2,by omega⟩]
 simp
theorem eq_loop[DecidableEq α]{step:Int->Option (Int⊕(Unit⊕Bool))}(xs ys:List α)(hxy:xs.length=ys.length)
  (h:∀ k (hk:k<xs.length) (hk2:k<ys.length),step (k:Int)=some (if xs[k]=ys[k] then .inl ((k+1:Nat):Int) else .inr (.inr false)))
  (hend:step (xs.length:Int)=some (.inr (.inl ()))) (hlen:xs.length<576460752303423488):Option.bind (α:=Unit⊕Bool) (zT step 0) (Sum.elim (λ _=>some true) some)=some (decide (xs=ys)):=by
 have key:∀ m k,k+m=xs.length->xs.take k=ys.take k->∃ r,wT step (m+1) (k:Int)=some r/\(Sum.elim (λ _=>some true) some r:Option Bool)=some (decide (xs=ys)):=by
  intro m
  induction m with
  |
   zero=>
   intro k hk he
   have:k=xs.length:=by omega
   subst this
   refine⟨_,yV hend,?_⟩
   rw[List.take_length,hxy,List.take_length] at he
   simp[he]
  |
   succ m ih=>
   intro k hk he
   have hlt:k<xs.length:=by omega
   have hlt2:k<ys.length:=by omega
   have hs:=h k hlt hlt2
   by_cases e:xs[k]=ys[k]
   ·
    rw[if_pos e] at hs
    rw[jO hs]
    refine ih (k+1) (by omega) ?_
    rw[List.take_add_one,List.take_add_one,he,List.getElem?_eq_getElem hlt,List.getElem?_eq_getElem hlt2,e]
   ·
    rw[if_neg e] at hs
    refine⟨_,yV hs,?_⟩
    have:xs≠ys:=λ h=>by subst h;exact e rfl
    simp[this]
 obtain⟨r,h1,h2⟩:=key xs.length 0 (by omega) rfl
 have h1':wT step (xs.length+1) (0:Int)=some r:=h1
 rw[qc h1' (by omega),Option.bind_some]
 exact h2
def szR(t:Nat)(left:Int):Int:=if(t:Int)<=left then left - t else -1
theorem szR_neg{t:Nat}{left:Int}:szR t left<0 ↔ left<t:=by unfold szR;split <;> omega
theorem szR_nn{t:Nat}{left:Int}(h:0<=szR t left):(t:Int)<=left/\szR t left=left - t:=by
 unfold szR at h ⊢
 split at h
 ·
  rename_i h1;rw[if_pos h1];exact⟨h1,rfl⟩
 ·
  omega
def sumL(f:α->Nat):List α->Nat
 | []=>0
 | x::xs=>f x+sumL f xs
theorem XU{f:α->Nat}:∀ {xs:List α} {x:α},x∈xs->f x<=sumL f xs
 |
  y::ys,x,hx=>by
  unfold sumL
  rcases List.mem_cons.1 hx with rfl | hx
  ·
   omega
  ·
   have:=XU (f:=f) hx;omega
theorem sumL_drop{f:α->Nat}{xs:List α}{k:Nat}(hk:k<xs.length):sumL f (xs.drop k)=f xs[k]+sumL f (xs.drop (k+1)):=by
 rw[List.drop_eq_getElem_cons hk];rfl
theorem sz_loop{step:Int×Int->Option ((Int×Int)⊕(Int⊕Int))}(xs:List α)(f:α->Nat)
  (h:∀ k (hk:k<xs.length) (l:Int),0<=l->l<=1048576->step (l,(k:Int))=some (if szR (f xs[k]) l<0 then .inr (.inr (-1)) else .inl (szR (f xs[k]) l,((k+1:Nat):Int))))
  (hend:∀ l,step (l,(xs.length:Int))=some (.inr (.inl l))) (hlen:xs.length<576460752303423488) {l0:Int} (h0:0<=l0) (h1:l0<=1048576):
  Option.bind (α:=Int⊕Int) (zT step (l0,0)) (Sum.elim (λ l=>some l) some)=some (szR (sumL f xs) l0):=by
 have key:∀ m k l,k+m=xs.length->0<=l->l<=1048576->∃ r,wT step (m+1) (l,(k:Int))=some r/\(Sum.elim (λ l=>some l) some r:Option Int)=some (szR (sumL f (xs.drop k)) l):=by
  intro m
  induction m with
  |
   zero=>
   intro k l hk hl hl2
   have:k=xs.length:=by omega
   subst this
   refine⟨_,yV (hend l),?_⟩
   rw[List.drop_length]
   show some l=some (szR 0 l)
   congr 1
   unfold szR
   rw[if_pos (by omega)]
   simp
  |
   succ m ih=>
   intro k l hk hl hl2
   have hlt:k<xs.length:=by omega
   have hs:=h k hlt l hl hl2
   rw[sumL_drop hlt]
   by_cases e:szR (f xs[k]) l<0
   ·
    rw[if_pos e] at hs
    refine⟨_,yV hs,?_⟩
    show some (-1:Int)=_
    congr 1
    rw[szR_neg] at e
    unfold szR
    rw[if_neg (by omega)]
   ·
    rw[if_neg e] at hs
    obtain⟨e1,e2⟩:=szR_nn (t:=f xs[k]) (left:=l) (by omega)
    obtain⟨r,r1,r2⟩:=ih (k+1) (szR (f xs[k]) l) (by omega) (by omega) (by omega)
    refine⟨r,by rw[jO hs];exact r1,?_⟩
    rw[r2]
    congr 1
    rw[e2]
    unfold szR
    by_cases e3:(sumL f (xs.drop (k+1)):Int)<=l - f xs[k]
    ·
     rw[if_pos e3,if_pos (by omega)];omega
    ·
     rw[if_neg e3,if_neg (by omega)]
 obtain⟨r,r1,r2⟩:=key xs.length 0 l0 (by omega) h0 h1
 have r1':wT step (xs.length+1) (l0,(0:Int))=some r:=r1
 rw[qc r1' (by omega),Option.bind_some]
 simpa using r2
end
open Go.RowKit
section
variable{α:Type}
theorem szS_len{len:Nat}{l:Int}(hl:0<=l)(h2:l<=1048576)(hlen:len<=9223372036854775807){K:Int->Option Int}{t:Nat}(hK:∀ l',0<=l'->l'<=1048576->K l'=some (szR t l')):
  ((i64 (l - (len:Int))).bind λ v=>if cmpI .lss v (0:Int)=true then some (-1:Int) else K v)=some (szR (len+t) l):=by
 rw[Zd (by omega) (by omega),Option.bind_some]
 cases h:cmpI .lss (l - (len:Int)) 0 with
 |
  true=>
  have h':l - (len:Int)<0:=of_decide_eq_true h
  rw[if_pos rfl]
  unfold szR
  rw[if_neg (by omega)]
 |
  false=>
  have h':¬ l - (len:Int)<0:=of_decide_eq_false h
  rw[if_neg (by decide),hK _ (by omega) (by omega)]
  congr 1
  unfold szR
  by_cases e:(t:Int)<=l - len
  ·
   rw[if_pos e,if_pos (by omega)];omega
  ·
   rw[if_neg e,if_neg (by omega)]
theorem szS_sub{t1 t:Nat}{l:Int}{m:Option Int}(hl:0<=l)(h2:l<=1048576)(hm:m=some (szR t1 l)){K:Int->Option Int}(hK:∀ l',0<=l'->l'<=1048576->K l'=some (szR t l')):
  (m.bind λ v=>if cmpI .lss v (0:Int)=true then some (-1:Int) else K v)=some (szR (t1+t) l):=by
 rw[hm,Option.bind_some]
 cases h:cmpI .lss (szR t1 l) 0 with
 |
  true=>
  have h':szR t1 l<0:=of_decide_eq_true h
  rw[szR_neg] at h'
  rw[if_pos rfl]
  unfold szR
  rw[if_neg (by omega)]
 |
  false=>
  have h':¬ szR t1 l<0:=of_decide_eq_false h
  obtain⟨e1,e2⟩:=szR_nn (t:=t1) (left:=l) (by omega)
  rw[if_neg (by decide),hK _ (by omega) (by omega),e2]
  congr 1
  unfold szR
  by_cases e:(t:Int)<=l - t1
  ·
   rw[if_pos e,if_pos (by omega)];omega
  ·
   rw[if_neg e,if_neg (by omega)]
theorem szS_end{l:Int}(h:0<=l):some l=some (szR 0 l):=by
 congr 1
 unfold szR
 rw[if_pos (by omega)]
 simp
theorem szS_list{step:Int×Int->Option ((Int×Int)⊕(Int⊕Int))}{xs:List α}{f:α->Nat}{l:Int}(hlen:xs.length<=9223372036854775807)
  (h:∀ k (hk:k<xs.length) (l:Int),xs.length<=1048576->0<=l->l<=1048576->step (l,(k:Int))=some (if szR (f xs[k]) l<0 then .inr (.inr (-1)) else .inl (szR (f xs[k]) l,((k+1:Nat):Int))))
  (hend:∀ l,step (l,(xs.length:Int))=some (.inr (.inl l))) (hl:0<=l) (h2:l<=1048576):
  ((i64 (l - (xs.length:Int))).bind λ v=>if cmpI .lss v (0:Int)=true then some (-1:Int) else Option.bind (α:=Int⊕Int) (zT step (v,(0:Int))) (Sum.elim (λ b=>some b) some))=some (szR (xs.length+sumL f xs) l):=by
 rw[Zd (by omega) (by omega),Option.bind_some]
 cases hc:cmpI .lss (l - (xs.length:Int)) 0 with
 |
  true=>
  have h':l - (xs.length:Int)<0:=of_decide_eq_true hc
  rw[if_pos rfl]
  unfold szR
  rw[if_neg (by omega)]
 |
  false=>
  have h':¬ l - (xs.length:Int)<0:=of_decide_eq_false hc
  rw[if_neg (by decide),sz_loop xs f (λ k hk l h3 h4=>h k hk l (by omega) h3 h4) hend (by omega) (by omega) (by omega)]
  congr 1
  unfold szR
  by_cases e:(sumL f xs:Int)<=l - xs.length
  ·
   rw[if_pos e,if_pos (by omega)];omega
  ·
   rw[if_neg e,if_neg (by omega)]
variable{q:Prop}[Decidable q]{K:Option Bool}
theorem Jg{a b:Int}(hK:K=some (decide q)):(if cmpI .neq a b=true then some false else K)=some (decide (a=b/\q)):=by
 rw[hK]
 by_cases h:a=b
 ·
  simp[cmpI,h]
 ·
  simp[cmpI,h]
theorem eqS_str{a b:Str}(hK:K=some (decide q)):(if decide (a≠b)=true then some false else K)=some (decide (a=b/\q)):=by
 rw[hK]
 by_cases h:a=b
 ·
  simp[h]
 ·
  simp[h]
theorem eqS_bool{a b:Bool}(hK:K=some (decide q)):(if(a != b)=true then some false else K)=some (decide (a=b/\q)):=by
 rw[hK]
 by_cases h:a=b
 ·
  simp[h]
 ·
  simp[h]
theorem eqS_sub[DecidableEq α]{a b:α}{m:Option Bool}(hm:m=some (decide (a=b)))(hK:K=some (decide q)):(m.bind λ v=>if(!v)=true then some false else K)=some (decide (a=b/\q)):=by
 rw[hm,hK,Option.bind_some]
 by_cases h:a=b
 ·
  simp[h]
 ·
  simp[h]
theorem eqS_end:some true=some (decide True):=by simp
theorem eqS_list[DecidableEq α]{step:Int->Option (Int⊕(Unit⊕Bool))}{xs ys:List α}
  (h:∀ k (hk:k<xs.length) (hk2:k<ys.length),step (k:Int)=some (if xs[k]=ys[k] then .inl ((k+1:Nat):Int) else .inr (.inr false)))
  (hend:step (xs.length:Int)=some (.inr (.inl ()))) (hlen:xs.length<576460752303423488):
  (if cmpI .neq (xs.length:Int) (ys.length:Int)=true then some false else Option.bind (α:=Unit⊕Bool) (zT step 0) (Sum.elim (λ _=>some true) some))=some (decide (xs=ys)):=by
 rw[neq_len]
 by_cases e:xs.length=ys.length
 ·
  rw[if_neg (by simp[e]),eq_loop xs ys e h hend hlen]
 ·
  rw[if_pos (by simp[e])]
  have:xs≠ys:=λ h=>e (by rw[h])
  simp[this]
end
theorem i64_in{n:Int}(h1:0<=n)(h2:n<=4611686018427387904):i64 n=some n:=Zd (by omega) (by omega)
theorem XV{α:Type}{xs:List α}{k:Nat}(hk:k<xs.length):cmpI .lss (k:Int) (xs.length:Int)=true:=by rw[zQ];exact decide_eq_true hk
theorem Yu{α:Type}{xs:List α}:cmpI .lss (xs.length:Int) (xs.length:Int)=false:=by rw[zQ];simp
theorem Ye{α:Type}{xs:List α}{k:Nat}(hk:k<xs.length):atI xs (k:Int)=some xs[k]:=by rw[zN,List.getElem?_eq_getElem hk]
theorem JM(k:Nat):(k:Int).toNat=k:=rfl
open Go.RowKit
def Xg(x:Stmt):Nat:=x.module.l.length+(x.name.l.length+(0))
theorem szStmt_eq{x:Stmt}{l:Int}(h0:Okd x)(hl:0<=l)(h2:l<=1048576):qB x l=some (szR (Xg x) l):=by
 unfold qB Xg
 exact szS_len hl h2 ((h0.fld Stmt.fld1)).str (λ v1 l1 u1=>szS_len l1 u1 ((h0.fld Stmt.fld3)).str (λ v2 l2 u2=>szS_end l2))
def Zf(xs:List Stmt):Nat:=xs.length+sumL Xg xs
theorem lenStmtS_le{x:List Stmt}{n:Nat}(h:Zf x<=n):x.length<=n:=by unfold Zf at h;omega
theorem szStmtS_eq{x:List Stmt}{l:Int}(h0:Okd x)(hl:0<=l)(h2:l<=1048576):j6 x l=some (szR (Zf x) l):=by
 unfold j6 Zf
 refine szS_list h0.len (λ k hk l hn h3 h4=>?_) (λ l=>?_) hl h2
 ·
  unfold ja
  simp only[XV hk,if_true,Ye hk,Option.bind_some,szStmt_eq (h0.mem (List.getElem_mem hk)) h3 h4]
  by_cases e:szR (Xg x[k]) l<0
  ·
   rw[if_pos (by simp[cmpI,e]),if_pos e]
  ·
   rw[if_neg (by simp[cmpI];omega),if_neg e,zW (by omega)];rfl
 ·
  unfold ja
  rw[Yu];rfl
def qm(x:File):Nat:=x.pkg.l.length+(x.name.l.length+(Zf x.body+(0)))
theorem szFile_eq{x:File}{l:Int}(h0:Okd x)(hl:0<=l)(h2:l<=1048576):qC x l=some (szR (qm x) l):=by
 unfold qC qm
 exact szS_len hl h2 ((h0.fld File.fld1)).str (λ v1 l1 u1=>szS_len l1 u1 ((h0.fld File.fld2)).str (λ v2 l2 u2=>szS_sub l2 u2 (szStmtS_eq (h0.fld File.fld5) l2 u2) (λ v3 l3 u3=>szS_end l3)))
def Zg(xs:List File):Nat:=xs.length+sumL qm xs
theorem szFileS_eq{x:List File}{l:Int}(h0:Okd x)(hl:0<=l)(h2:l<=1048576):j7 x l=some (szR (Zg x) l):=by
 unfold j7 Zg
 refine szS_list h0.len (λ k hk l hn h3 h4=>?_) (λ l=>?_) hl h2
 ·
  unfold jb
  simp only[XV hk,if_true,Ye hk,Option.bind_some,szFile_eq (h0.mem (List.getElem_mem hk)) h3 h4]
  by_cases e:szR (qm x[k]) l<0
  ·
   rw[if_pos (by simp[cmpI,e]),if_pos e]
  ·
   rw[if_neg (by simp[cmpI];omega),if_neg e,zW (by omega)];rfl
 ·
  unfold jb
  rw[Yu];rfl
def qN(x:Tree):Nat:=Zg x.files+(0)
theorem szTree_eq{x:Tree}{l:Int}(h0:Okd x)(hl:0<=l)(h2:l<=1048576):qD x l=some (szR (qN x) l):=by
 unfold qD qN
 exact szS_sub hl h2 (szFileS_eq (h0.fld Tree.fld0) hl h2) (λ v1 l1 u1=>szS_end l1)
theorem eqStmt_eq{x y:Stmt}:qG x y=some (decide (x=y)):=by
 have e:(x=y)=(x.kind=y.kind/\x.module=y.module/\x.level=y.level/\x.name=y.name/\x.value=y.value/\True):=by cases x;cases y;simp
 unfold qG
 simp only[e]
 exact Jg (eqS_str (Jg (eqS_str (Jg (eqS_end)))))
theorem eqStmtS_eq{x y:List Stmt}(h:x.length<=288230376151711744):qa x y=some (decide (x=y)):=by
 unfold qa
 refine eqS_list (λ k hk hk2=>?_) ?_ (by omega)
 ·
  unfold jc
  simp only[XV hk,if_true,Ye hk,Ye hk2,Option.bind_some,eqStmt_eq,zW (show k<4611686018427387904 by omega)]
  by_cases e:x[k]=y[k] <;> simp[e]
 ·
  unfold jc
  rw[Yu];rfl
theorem eqFile_eq{x y:File}(h:qm x<=288230376151711744):qH x y=some (decide (x=y)):=by
 have e:(x=y)=(x.root=y.root/\x.pkg=y.pkg/\x.name=y.name/\x.init=y.init/\x.stamp=y.stamp/\x.body=y.body/\True):=by cases x;cases y;simp
 unfold qm at h
 unfold qH
 simp only[e]
 exact Jg (eqS_str (eqS_str (eqS_bool (Jg (eqS_sub (eqStmtS_eq (lenStmtS_le (by omega))) (eqS_end))))))
theorem eqFileS_eq{x y:List File}(h:Zg x<=288230376151711744):qb x y=some (decide (x=y)):=by
 unfold Zg at h
 unfold qb
 refine eqS_list (λ k hk hk2=>?_) ?_ (by omega)
 ·
  unfold jd
  simp only[XV hk,if_true,Ye hk,Ye hk2,Option.bind_some,eqFile_eq (x:=x[k]) (y:=y[k]) (by have:=XU (f:=qm) (List.getElem_mem hk);omega),zW (show k<4611686018427387904 by omega)]
  by_cases e:x[k]=y[k] <;> simp[e]
 ·
  unfold jd
  rw[Yu];rfl
theorem eqTree_eq{x y:Tree}(h:qN x<=288230376151711744):jM x y=some (decide (x=y)):=by
 have e:(x=y)=(x.files=y.files/\True):=by cases x;cases y;simp
 unfold qN at h
 unfold jM
 simp only[e]
 exact eqS_sub (eqFileS_eq (by omega)) (eqS_end)
def totIntS(xs:List Int):Nat:=xs.length
theorem eqIntS_eq{x y:List Int}(h:x.length<=288230376151711744):jN x y=some (decide (x=y)):=by
 unfold jN
 refine eqS_list (λ k hk hk2=>?_) ?_ (by omega)
 ·
  unfold jx
  simp only[XV hk,if_true,Ye hk,Ye hk2,Option.bind_some,zW (show k<4611686018427387904 by omega)]
  by_cases e:x[k]=y[k] <;> simp[e,cmpI]
 ·
  unfold jx
  rw[Yu];rfl
theorem toStmt_eq{x:Stmt}:qE x=some x:=by
 unfold qE
 cases x;rfl
theorem toStmtS_eq{x:List Stmt}(h:Zf x<=1048576):j8 x=some x:=by
 unfold Zf at h
 unfold j8
 rw[makeO_of (by omega) (by omega) (by omega),Option.bind_some]
 have hl:zT (λ s=>xW x s) (List.replicate x.length zStmt,0)=some x:=by
  refine JL x zStmt (λ k hk=>?_) (λ ys=>?_) (by omega) rfl
  ·
   unfold xW
   simp only[XV hk,if_true,Ye hk,Option.bind_some,toStmt_eq,zN,at_at hk,Jb (len_at hk),zW (show k<4611686018427387904 by omega)]
  ·
   unfold xW
   rw[Yu];rfl
 rw[hl];rfl
theorem toFile_eq{x:File}(h:qm x<=1048576):qF x=some x:=by
 unfold qm at h
 unfold qF
 rw[toStmtS_eq (x:=x.body) (by omega),Option.bind_some]
theorem toFileS_eq{x:List File}(h:Zg x<=1048576):j9 x=some x:=by
 unfold Zg at h
 unfold j9
 rw[makeO_of (by omega) (by omega) (by omega),Option.bind_some]
 have hl:zT (λ s=>xX x s) (List.replicate x.length zFile,0)=some x:=by
  refine JL x zFile (λ k hk=>?_) (λ ys=>?_) (by omega) rfl
  ·
   unfold xX
   simp only[XV hk,if_true,Ye hk,Option.bind_some,toFile_eq (x:=x[k]) (by have:=XU (f:=qm) (List.getElem_mem hk);omega),zN,at_at hk,zW (show k<4611686018427387904 by omega),JM]
  ·
   unfold xX
   rw[Yu];rfl
 rw[hl];rfl
theorem toTree_eq{x:Tree}(h:qN x<=1048576):jg x=some x:=by
 unfold qN at h
 unfold jg
 rw[toFileS_eq (x:=x.files) (by omega),Option.bind_some]
theorem toIntS_eq{x:List Int}(h:totIntS x<=1048576):wo x=some x:=by
 unfold totIntS at h
 unfold wo
 rw[makeO_of (by omega) (by omega) (by omega),Option.bind_some]
 have hl:zT (λ s=>wx x s) (List.replicate x.length zInt,0)=some x:=by
  refine JL x zInt (λ k hk=>?_) (λ ys=>?_) (by omega) rfl
  ·
   unfold wx
   simp only[XV hk,if_true,Ye hk,Option.bind_some,zN,at_at hk,Jb (len_at hk),zW (show k<4611686018427387904 by omega)]
  ·
   unfold wx
   rw[Yu];rfl
 rw[hl];rfl
end Go.Proofs.YtiiiokblnnlapaaGreatDoor
