import Derived.Test.YtiiiokblnnlapaaGreatDoorRI
import Derived.Test.YtiiiokblnnlapaaGreatDoorRJ
import Derived.Test.YtiiiokblnnlapaaGreatDoorRK
namespace Go.Proofs.YtiiiokblnnlapaaGreatDoor
open Go.RowKit
theorem zah(s:Str)(c:UInt8)(hs:s.l.length<=1000000):(∃ pre post,s.l=pre++c::post/\c ∉ post/\zO s c=some (pre.length:Int))\/(c ∉ s.l/\zO s c=some (-1)):=by
 have key:∀ k,k<=s.l.length->c ∉ s.l.drop k->∃ r,wQ (λ s6=>zF s c s6) (k+1) ((k:Int) - 1)=some r/\((∃ pre post,s.l=pre++c::post/\c ∉ post/\r=.inr (pre.length:Int))\/(c ∉ s.l/\r=.inl ())):=by
  intro k
  induction k with
  |
   zero=>
   intro _ hc;refine⟨.inl (),yD ?_,.inr ⟨by simpa using hc,rfl⟩⟩;unfold zF;rw[if_neg (by simp[cmpI])]
  |
   succ k ih=>
   intro hk hc;have hb:s.l[k]?=some s.l[k]:=List.getElem?_eq_getElem (by omega);have hd:s.l.drop k=s.l[k]::s.l.drop (k+1):=List.drop_eq_getElem_cons (by omega);have e1:((k+1:Nat):Int) - 1=(k:Int):=by omega
   rw[e1];by_cases h:s.l[k]=c
   ·
    refine⟨.inr (k:Int),yD ?_,.inl ⟨s.l.take k,s.l.drop (k+1),?_,hc,by simp;omega⟩⟩
    ·
     unfold zF;rw[if_pos (by simp[cmpI]),zJ,hb,obS,if_pos (by simp[cmpB,h])]
    ·
     rw[← h,← hd,List.take_append_drop]
   ·
    have hs1:zF s c (k:Int)=some (.inl ((k:Int) - 1)):=by
     unfold zF;rw[if_pos (by simp[cmpI]),zJ,hb,obS,if_neg (by simp[cmpB,h]),Z7 (by omega) (by omega),obS]
    rw[wH hs1];exact ih (by omega) (by rw[hd];simp only[List.mem_cons,not_or];exact⟨λ e=>h e.symm,hc⟩)
 obtain⟨r,h1,h2⟩:=key s.l.length (Nat.le_refl _) (by simp);have hl:zO s c=Option.bind (some r) (Sum.elim (λ _=>some (-1)) some):=by
  unfold zO yE;rw[Z7 (by omega) (by omega),obS,ji h1 (by omega)];cases r <;> rfl
 rcases h2 with⟨pre,post,e1,e2,rfl⟩ | ⟨e1,rfl⟩
 ·
  exact .inl ⟨pre,post,e1,e2,hl⟩
 ·
  exact .inr ⟨e1,hl⟩
theorem zbJ{s:Str}{pre post:List UInt8}(h:s.l=pre++46::post)(hp:(46:UInt8) ∉ post):zC s dot=zC ⟨pre⟩ dot++[⟨post⟩]:=by
 have e:s=⟨((⟨pre⟩:Str).l++[46])++(⟨post⟩:Str).l⟩:=by
  cases s;simp only at h ⊢;rw[h];simp
 have e2:zC ⟨post⟩ dot=[⟨post⟩]:=by
  rw[jm];show(cutF 46 post).map Str.mk=_;rw[zae 46 post hp];rfl
 rw[e,split_append,e2]
theorem split_none{s:Str}(h:(46:UInt8) ∉ s.l):zC s dot=[s]:=by
 rw[jm];show(cutF 46 s.l).map Str.mk=_;rw[zae 46 s.l h];rfl
theorem zaP{s:Str}{pre post:List UInt8}(h:s.l=pre++46::post)(hp:(46:UInt8) ∉ post):zI s=⟨pre⟩/\je s=⟨post⟩:=by
 unfold zI je;rw[zbJ h hp];constructor
 ·
  rw[List.length_append,List.length_singleton,Nat.add_sub_cancel,List.take_left];exact join_split ⟨pre⟩
 ·
  simp
theorem X0{s:Str}(h:(46:UInt8) ∉ s.l):zI s=emptyS/\je s=s:=by
 unfold zI je;rw[split_none h];exact⟨rfl,rfl⟩
theorem X1{s:Str}(hv:zl s=true):xe s=some (zI s):=by
 have hl:=xh hv;unfold xe;rcases zah s 46 (by omega) with⟨pre,post,e1,e2,e3⟩ | ⟨e1,e3⟩
 ·
  rw[show zO s (UInt8.ofNat 46)=some (pre.length:Int) from e3,obS,wI (wJ hv),obS,hv,if_neg (by simp[cmpI]),JI (by rw[e1,List.length_append];omega),obS,(zaP e1 e2).1,e1,List.take_left]
 ·
  rw[show zO s (UInt8.ofNat 46)=some (-1) from e3,obS,wI (wJ hv),obS,hv,if_pos (by simp[cmpI]),(X0 e1).1];rfl
theorem LastOf_eq{s:Str}(hv:zl s=true):jp s=some (je s):=by
 have hl:=xh hv;unfold jp;rw[wI (wJ hv),obS,hv,if_neg (by decide)];rcases zah s 46 (by omega) with⟨pre,post,e1,e2,e3⟩ | ⟨e1,e3⟩
 ·
  have hlen:pre.length+1<=s.l.length:=by rw[e1,List.length_append,List.length_cons];omega
  rw[show zO s (UInt8.ofNat 46)=some (pre.length:Int) from e3,obS,zH (by omega),obS,JJ hlen,obS,(zaP e1 e2).2,e1]
  congr 2
  rw[show pre++46::post=(pre++[46])++post by simp,List.drop_left' (by simp)]
 ·
  rw[show zO s (UInt8.ofNat 46)=some (-1) from e3,obS,show((-1:Int)+1)=((0:Nat):Int) from rfl,Z7 (by omega) (by omega),obS,JJ (by omega),obS,(X0 e1).2];rfl
open Go.RowKit
theorem name_of{s:Str}(hv:zl s=true):s=child (zI s) (je s):=by
 have hl:=xh hv;rcases zah s 46 (by omega) with⟨pre,post,e1,e2,_⟩ | ⟨e1,_⟩
 ·
  obtain⟨h1,h2⟩:=zaP e1 e2;rw[h1,h2];unfold child;by_cases he:(⟨pre⟩:Str)=emptyS
  ·
   have hpre:pre=[]:=by injection he
   subst hpre;have hs:=zbJ e1 e2;have h3:=(jV hv).1 ⟨[]⟩ (by rw[hs];exact List.mem_append_left _ (by decide));exact absurd (Wa h3).1 (by simp)
  ·
   rw[if_neg he];cases s;simp only at e1;rw[e1];simp
 ·
  obtain⟨h1,h2⟩:=X0 e1;rw[h1,h2];rfl
open Go.RowKit
section
variable{α:Type}[DecidableEq α]
def addU(out:List α)(x:α):List α:=if x∈out then out else out++[x]
def addAll(out l:List α):List α:=l.foldl addU out
def uniq(l:List α):List α:=addAll [] l
theorem nodupLen:∀ {l m:List α},l.Nodup->(∀ x∈l,x∈m)->l.length<=m.length
 | [],_,_,_=>Nat.zero_le _
 |
  x::l,m,hn,hs=>by
  rw[List.nodup_cons] at hn;have hx:=hs x (List.mem_cons_self ..);have h1:=nodupLen (l:=l) (m:=m.erase x) hn.2 λ y hy=>(List.mem_erase_of_ne (by intro e;subst e;exact hn.1 hy)).2 (hs y (List.mem_cons_of_mem _ hy))
  have h2:=List.length_erase_of_mem hx;have h3:=List.length_pos_of_mem hx;rw[List.length_cons];omega
inductive Way (E:α->List α) (l:List α):α->Prop
 | here {x}:x∈l->Way E l x
 | step {x y}:Way E l x->y∈E x->Way E l y
omit [DecidableEq α] in
theorem Way.mono{E:α->List α}{l m:List α}(h:∀ x∈l,Way E m x){x:α}(hw:Way E l x):Way E m x:=by
 induction hw with
 | here hx=>exact h _ hx
 | step _ hy ih=>exact .step ih hy
end
open Go.RowKit
def upN:Nat->Str->Str
 | 0,p=>p
 | n+1,p=>upN n (zI p)
def qS(p:Str)(lv:Int)(m:Str):Str:=if cmpI .eql lv 0=true then m else if upN (lv - 1).toNat p=emptyS then emptyS else if m=emptyS then upN (lv - 1).toNat p else child (upN (lv - 1).toNat p) m
def stName(p:Str)(s:Stmt):Str:=if(cmpI .eql s.kind 0||cmpI .eql s.kind 2)=true then s.module else if cmpI .eql s.kind 1=true then qS p s.level s.module else emptyS
def Wb(t:List File)(k:Int):File:=(t[k.toNat]?).getD default
theorem idxOf_some{α:Type}{p:α->Bool}{l:List α}(h:cmpI .lss (yY p l) 0=false):∃ x,l[(yY p l).toNat]?=some x/\p x=true:=by
 unfold yY at h ⊢;cases e:l.findIdx? p with
 | none=>rw[e] at h;exact absurd h (by decide)
 |
  some i=>
  rw[List.findIdx?_eq_some_iff_getElem] at e;obtain⟨hi,h1,_⟩:=e;exact⟨l[i],by simp only[Int.toNat_natCast];exact List.getElem?_eq_getElem hi,h1⟩
theorem lss_geq(n:Int):cmpI .geq n 0=!cmpI .lss n 0:=by
 unfold cmpI;by_cases h:n<0
 ·
  have:¬ n>=0:=by omega
  simp[h,this]
 ·
  have:n>=0:=by omega
  simp[h,this]
theorem XG{t:Tree}(hv:yk t=true){f:File}(hf:f∈t.files):jQ f.body=true:=by
 have h:=Jx hv hf;unfold wh at h;cases hb:jQ f.body with
 | true=>rfl
 | false=>rw[hb,if_pos (by simp)] at h;cases h
open Go.RowKit
def okG(t:Tree)(path:List Int)(s:Str):Bool:=yk t&&jt path&&zl s
theorem qT{t:Tree}{path:List Int}{s:Str}(h:okG t path s=true):yk t=true/\jt path=true/\zl s=true:=by
 unfold okG at h;simp only[Bool.and_eq_true] at h;exact⟨h.1.1,h.1.2,h.2⟩
section
variable{t:Tree}{path:List Int}{s:Str}
end
section
variable{t:Tree}{path:List Int}{s:Str}
end
open Go.RowKit
open Go.RowKit
theorem any_mem{l:List Str}{x:Str}:l.any (λ y=>decide (y=x))=decide (x∈l):=by
 rw[Bool.eq_iff_iff,List.any_eq_true];simp
theorem any_mem'{l:List Str}{x:Str}:l.any (λ y=>decide (x=y))=decide (x∈l):=by
 rw[Bool.eq_iff_iff,List.any_eq_true];simp
theorem W1{l:List Str}{x:Str}(h:l.length<=1048576):qn l x=some (decide (x∈l)):=by
 unfold qn qd;have hl:zL (λ s4=>yT l x s4) 0=some (match l.findIdx? (λ y=>decide (y=x)) with | some i=>(Sum.inr (i:Int):Unit⊕Int) | none=>Sum.inl ()):=by
  refine Y8 l (λ y=>decide (y=x)) (λ i=>Sum.inr i) _ (λ k y hx hlt=>?_) ?_ (by omega) rfl
  ·
   unfold yT;rw[zK,if_pos (decide_eq_true hlt),zJ,hx,obS,zH (by omega)];cases decide (y=x) <;> rfl
  ·
   unfold yT;rw[zK,if_neg (by simp)]
 have e:Option.bind (α:=Unit⊕Int) (zL (λ s4=>yT l x s4) 0) (Sum.elim (λ _=>some (-1)) some)=some (yY (λ y=>decide (y=x)) l):=by
  rw[hl];unfold yY;cases l.findIdx? (λ y=>decide (y=x)) <;> rfl
 rw[e,obS,Wr,any_mem]
theorem ContainsS_eq{l:List Str}{x:Str}(h:l.length<=1048576):yo l x=some (decide (x∈l)):=by
 unfold yo xG;have hl:zL (λ s4=>ya l x s4) 0=some (match l.findIdx? (λ y=>decide (x=y)) with | some i=>(Sum.inr (i:Int):Unit⊕Int) | none=>Sum.inl ()):=by
  refine Y8 l (λ y=>decide (x=y)) (λ i=>Sum.inr i) _ (λ k y hx hlt=>?_) ?_ (by omega) rfl
  ·
   unfold ya;rw[zK,if_pos (decide_eq_true hlt),zJ,hx,obS,zH (by omega)];cases decide (x=y) <;> rfl
  ·
   unfold ya;rw[zK,if_neg (by simp)]
 have e:Option.bind (α:=Unit⊕Int) (zL (λ s4=>ya l x s4) 0) (Sum.elim (λ _=>some (-1)) some)=some (yY (λ y=>decide (x=y)) l):=by
  rw[hl];unfold yY;cases l.findIdx? (λ y=>decide (x=y)) <;> rfl
 rw[e,obS,Wr,any_mem']
theorem zai{p:Str}(h:zv p=true):mid p:=by have:=xU h;unfold mid;omega
theorem WP:zI emptyS=emptyS:=by
 have:(46:UInt8) ∉ emptyS.l:=by decide
 exact(X0 this).1
theorem XH{p:Str}(h:zv p=true):zv (zI p)=true:=by
 unfold zv at h;rw[Bool.or_eq_true,decide_eq_true_eq] at h;rcases h with h | h
 ·
  rw[h,WP];rfl
 ·
  exact pre_valid h _
theorem zaQ:∀ n,upN n emptyS=emptyS
 | 0=>rfl
 |
  n+1=>by
  unfold upN;rw[WP];exact zaQ n
theorem upN_pkg:∀ n {p:Str},zv p=true->zv (upN n p)=true
 | 0,_,h=>h
 | n+1,_,h=>upN_pkg n (XH h)
theorem spec_base_eq{p:Str}(hp:zv p=true){n:Nat}(hn:n<=10):Y6 p ((n:Int)+1)=some (upN n p,decide (upN n p≠(⟨[]⟩:Str))):=by
 have key:∀ (k i:Nat) (q:Str),zv q=true->i+k=n->∃ r,wQ (λ s4=>wN ((n:Int)+1) s4) (k+1) (q,((i+1:Nat):Int))=some r/\(r=.inl (upN k q)\/(r=.inr ((⟨[]⟩:Str),false)/\upN k q=emptyS)):=by
  intro k
  induction k with
  |
   zero=>
   intro i q hq hi;refine⟨.inl q,yD ?_,.inl rfl⟩;unfold wN;simp only;rw[show((n:Int)+1)=((n+1:Nat):Int) by omega,zK,if_neg (by simp;omega)]
  |
   succ k ih=>
   intro i q hq hi;have hlt:cmpI .lss ((i+1:Nat):Int) ((n:Int)+1)=true:=by unfold cmpI;exact decide_eq_true (by omega)
   by_cases he:q=(⟨[]⟩:Str)
   ·
    refine⟨.inr ((⟨[]⟩:Str),false),yD ?_,.inr ⟨rfl,?_⟩⟩
    ·
     unfold wN;simp only;rw[if_pos hlt,if_pos (decide_eq_true he)]
    ·
     rw[he];exact zaQ _
   ·
    have hs:wN ((n:Int)+1) (q,((i+1:Nat):Int))=some (.inl (zI q,((i+1+1:Nat):Int))):=by
     unfold wN;simp only;rw[if_pos hlt,if_neg (by simpa using he),show xX q=some (zI q) from if_pos (zai hq),obS,zH (by omega)];rfl
    obtain⟨r,h1,h2⟩:=ih (i+1) (zI q) (XH hq) (by omega);exact⟨r,by rw[wH hs];exact h1,h2⟩
 obtain⟨r,h1,h2⟩:=key n 0 p hp (by omega);unfold Y6;rw[show(1:Int)=((0+1:Nat):Int) from rfl,ji (by simpa using h1) (by omega)];rcases h2 with rfl | ⟨rfl,h3⟩
 ·
  rfl
 ·
  rw[h3];rfl
theorem JC{p m:Str}{lv:Int}:qS p lv m=if lv=0 then m else if upN (lv - 1).toNat p=emptyS then emptyS else if m=emptyS then upN (lv - 1).toNat p else child (upN (lv - 1).toNat p) m:=by
 unfold qS;by_cases h:lv=0
 ·
  rw[if_pos h,if_pos (by simp[cmpI,h])]
 ·
  rw[if_neg h,if_neg (by simp[cmpI,h])]
theorem zbe{p m:Str}{lv:Int}(hp:zv p=true)(h0:0<=lv)(h1:lv<=4)(hm:sho m):Ze p lv m=some (qS p lv m):=by
 rw[JC];unfold Ze;by_cases h:lv=0
 ·
  rw[if_pos h,if_pos (by simp[cmpI,h])]
 ·
  rw[if_neg h,if_neg (by simp[cmpI,h])];obtain⟨n,hn⟩:∃ n:Nat,lv=(n:Int)+1:=⟨(lv - 1).toNat,by omega⟩;have hu:=upN_pkg n hp;rw[show(lv - 1).toNat=n by omega,hn,spec_base_eq hp (by omega),obS];by_cases he:upN n p=emptyS
  ·
   rw[if_pos he];simp only[he];rfl
  ·
   rw[if_neg he];have he':decide (upN n p≠(⟨[]⟩:Str))=true:=decide_eq_true he;simp only[he'];rw[if_neg (by decide)];by_cases hm0:m=emptyS
   ·
    rw[if_pos hm0,if_pos (decide_eq_true (show m=(⟨[]⟩:Str) from hm0))]
   ·
    have hlu:=xU hu;unfold sho at hm;rw[if_neg hm0,if_neg (by simpa using(show ¬ m=(⟨[]⟩:Str) from hm0)),show ZA (upN n p) m=some (child (upN n p) m) from if_pos (by omega),obS]
theorem Z3{st:Stmt}(h:zU st=true):((st.kind=0\/st.kind=2)/\zl st.module=true)\/(st.kind=1/\zv st.module=true/\0<=st.level/\st.level<=3)\/(st.kind≠0/\st.kind≠1/\st.kind≠2):=by
 unfold zU at h;by_cases h0:st.kind=0
 ·
  rw[if_pos (by simp[cmpI,h0])] at h;simp only[Bool.and_eq_true] at h;exact .inl ⟨.inl h0,h.1.1.1⟩
 ·
  rw[if_neg (by simp[cmpI,h0])] at h;by_cases h1:st.kind=1
  ·
   rw[if_pos (by simp[cmpI,h1])] at h;simp only[Bool.and_eq_true,inR] at h;have h2:=h.1.1.1.2;simp[cmpI] at h2;exact .inr (.inl ⟨h1,h.1.1.1.1,by omega,by omega⟩)
  ·
   rw[if_neg (by simp[cmpI,h1])] at h;by_cases h2:st.kind=2
   ·
    rw[if_pos (by simp[cmpI,h2])] at h;simp only[Bool.and_eq_true] at h;exact .inl ⟨.inr h2,h.1.1.1⟩
   ·
    exact .inr (.inr ⟨h0,h1,h2⟩)
theorem zaR(p s:Str):(child p s).l.length<=p.l.length+s.l.length+1:=by
 unfold child;split
 ·
  omega
 ·
  simp only[List.length_append,List.length_singleton];omega
theorem stName_sho{p:Str}{st:Stmt}(hp:zv p=true)(h:zU st=true):sho (stName p st):=by
 unfold stName sho;rcases Z3 h with⟨h1,h2⟩ | ⟨h1,h2,h3,h4⟩ | ⟨h1,h2,h3⟩
 ·
  have:=xh h2;rw[if_pos (by rcases h1 with h1 | h1 <;> simp[cmpI,h1])];omega
 ·
  rw[if_neg (by simp[cmpI,h1]),if_pos (by simp[cmpI,h1]),JC];have h5:=xU h2;have h6:=xU (upN_pkg (st.level - 1).toNat hp);have h7:=zaR (upN (st.level - 1).toNat p) st.module;split
  ·
   omega
  ·
   split
   ·
    exact Nat.zero_le _
   ·
    split <;> omega
 ·
  rw[if_neg (by simp[cmpI,h1,h3]),if_neg (by simp[cmpI,h2])];exact Nat.zero_le _
section
variable{t:Tree}{path:List Int}
end
open Go.RowKit
section
variable{t:Tree}{path:List Int}
theorem JS(t:Tree)(path:List Int)(s:Str){α:Type}[Inhabited α]{b:α}{K:Option α}(ht:qH t)(hn:sho s){r:α}(h0:okG t path s=false->r=b)(h1:okG t path s=true->K=some r):((xO t).bind λ v2=>(gO ((!v2) == false) (xP path)).bind λ v3=>(gO (((!v2)||(!v3)) == false) (yC s)).bind λ v4=>if(((!v2)||(!v3))||(!v4))=true then(some b) else K)=some r:=by
 rw[show xO t=some (yk t) from if_pos ht,obS,show xP path=some (jt path) from if_pos trivial,show yC s=some (zl s) from if_pos hn.mid];cases hv:yk t with
 | false=>rw[h0 (by unfold okG;rw[hv];rfl)];rfl
 |
  true=>
  cases hp:jt path with
  | false=>rw[h0 (by unfold okG;rw[hv,hp];rfl)];rfl
  |
   true=>
   cases hs:zl s with
   | false=>rw[h0 (by unfold okG;rw[hv,hp,hs];rfl)];rfl
   | true=>exact h1 (by unfold okG;rw[hv,hp,hs];rfl)
variable{s:Str}
end
open Go.RowKit
def orE(s:Str):Str:=if zl s=true then s else emptyS
theorem ParentOf_any{p:Str}(h:zv p=true):xe p=some (zI p):=by
 unfold zv at h;rw[Bool.or_eq_true,decide_eq_true_eq] at h;rcases h with h | h
 ·
  rw[h,WP];unfold xe;rcases zah emptyS 46 (by decide) with⟨pre,post,e1,_,_⟩ | ⟨_,e3⟩
  ·
   have:=congrArg List.length e1;simp[emptyS] at this
  ·
   rw[show zO emptyS (UInt8.ofNat 46)=some (-1) from e3,obS,wI (show sho emptyS from Nat.zero_le _),obS];rfl
 ·
  exact X1 h
theorem resolve_loop{p:Str}(hp:zv p=true){n:Nat}(hn:n<=10):zL (λ s17=>yv s17) (p,(n:Int)+1)=some (upN n p):=by
 have key:∀ (k:Nat) (q:Str),k<=10->zv q=true->wQ (λ s17=>yv s17) (k+1) (q,((k:Int)+1))=some (upN k q):=by
  intro k
  induction k with
  |
   zero=>
   intro q _ hq;refine yD ?_;unfold yv;rw[if_neg (by simp[cmpI])];rfl
  |
   succ k ih=>
   intro q hk hq;have hgt:cmpI .gtr (((k+1:Nat):Int)+1) 1=true:=by unfold cmpI;exact decide_eq_true (by omega)
   by_cases he:q=(⟨[]⟩:Str)
   ·
    refine yD ?_;unfold yv;simp only;rw[he,if_neg (by simp),show upN (k+1) (⟨[]⟩:Str)=emptyS from zaQ _];rfl
   ·
    have hs:yv (q,(((k+1:Nat):Int)+1))=some (.inl (zI q,((k:Int)+1))):=by
     unfold yv;simp only;rw[hgt,if_pos (by simpa using he),ParentOf_any hq,obS,show(((k+1:Nat):Int)+1 - 1)=((k:Int)+1) by omega,Z7 (by omega) (by omega)];rfl
    rw[wH hs];exact ih (zI q) (by omega) (XH hq)
 exact ji (key n p hn hp) (by omega)
theorem pkg_sho{p:Str}(h:zv p=true):sho p:=by have:=xU h;unfold sho;omega
theorem zbK{p m:Str}{lv:Int}(hp:zv p=true)(hm:zv m=true)(h0:0<=lv)(h1:lv<=3):jG p lv m=some (orE (qS p lv m)):=by
 rw[JC];unfold jG;have hw:yS lv 0 4=some true:=by
  unfold yS cmpI;simp only[ge_iff_le];rw[decide_eq_true h0,decide_eq_true (show lv<=4 by omega)];rfl
 rw[Yw (pkg_sho hp),obS,Yw (pkg_sho hm),hw,hp,hm];simp only[Bool.not_true,beq_self_eq_true,qj,obS,Bool.or_self,Bool.false_eq_true,if_false];unfold orE;by_cases h:lv=0
 ·
  rw[if_pos h,if_pos (by simp[cmpI,h])];unfold zv at hm;rw[Bool.or_eq_true,decide_eq_true_eq] at hm;rcases hm with hm | hm
  ·
   rw[hm,qR];rfl
  ·
   rw[if_pos hm]
 ·
  rw[if_neg h,if_neg (by simp[cmpI,h])];obtain⟨n,hn⟩:∃ n:Nat,lv=(n:Int)+1:=⟨(lv - 1).toNat,by omega⟩;have hu:=upN_pkg n hp;have hul:=xU hu;have hml:=xU hm;rw[show(lv - 1).toNat=n by omega,hn,resolve_loop hp (by omega),obS];by_cases he:upN n p=emptyS
  ·
   rw[if_pos he,if_pos (decide_eq_true (show upN n p=(⟨[]⟩:Str) from he)),qR];rfl
  ·
   rw[if_neg he,if_neg (by simpa using(show ¬ upN n p=(⟨[]⟩:Str) from he))];have hend:∀ q:Str,sho q->((yl q).bind λ v44=>if(!v44)=true then(some (⟨[]⟩:Str)) else(some q))=some (if zl q=true then q else emptyS):=λ q hq=>by
    rw[wI hq,obS];cases zl q <;> rfl
   by_cases hm0:m=emptyS
   ·
    rw[if_pos hm0,if_neg (by simpa using(show m=(⟨[]⟩:Str) from hm0)),obS];exact hend _ (pkg_sho hu)
   ·
    rw[if_neg hm0,if_pos (by simpa using(show ¬ m=(⟨[]⟩:Str) from hm0)),WM (by simp;omega),obS,WM (by simp;omega),obS,obS];have e:(⟨(upN n p).l++([46]++m.l)⟩:Str)=child (upN n p) m:=by
     unfold child;rw[if_neg he];simp
    simp only[e];refine hend _ ?_;have:=zaR (upN n p) m;unfold sho;omega
section
variable{t:Tree}{path:List Int}
variable{s:Str}
end
theorem sm_tree{t:Tree}(h:xx t<=1048576):qH t:=by
 have h1:xx t=Zs t.files+0:=rfl;have h2:Zs t.files=t.files.length+sumL qN t.files:=rfl;refine⟨by omega,λ f hf=>?_⟩;have h3:=Ws (f:=qN) hf;have h4:qN f=f.pkg.l.length+(f.name.l.length+(ZU f.body+(0))):=rfl;have h5:ZU f.body=f.body.length+sumL WO f.body:=rfl;refine⟨by omega,by omega,by omega,λ s hs=>?_⟩;have h6:=Ws (f:=WO) hs;have h7:WO s=s.module.l.length+(s.name.l.length+(0)):=rfl;exact⟨by omega,by omega⟩
theorem zbL{g:List Str}(hg:g.length<=1125899906842624){H:Option (List Str)}(hH:H=some g):
  ((
   yR g (1:Int)).bind λ v86=>
   (zZ v86.1 (1:Int)).bind λ v90=>
   if(cmpI .lss v90 (0:Int))=true then(some false)
   else(if(cmpI .neq v90 v86.2)=true then(some false)
   else(H.bind λ v103=>
   (zV v103 g).bind λ v108=>
   if(!v108)=true then(some false)
   else((zZ v86.1 (1:Int)).bind λ v115=>
   if(cmpI .lss v115 (0:Int))=true then(some false)
   else(if(cmpI .neq v115 v86.2)=true then(some false)
   else(some true))))))=some true:=by
 obtain⟨y,k',h1,h2,h3,h4⟩:=JB (x:=g) (k:=1) hg (by omega) (by omega);have h5:cmpI .lss k' 0=false:=by simp[cmpI];omega
 simp only[h1,obS,h4,h5,Jz,hH,Yx (x:=g) (y:=g) (by omega),Bool.false_eq_true,if_false,decide_true,Bool.not_true]
theorem tail_pair{n:Int}{g:List Str}(hg:g.length<=1125899906842624){H:Option (Int×List Str)}(hH:H=some (n,g)):
  ((
   yR g (1:Int)).bind λ v86=>
   (zZ v86.1 (1:Int)).bind λ v90=>
   if(cmpI .lss v90 (0:Int))=true then(some false)
   else(if(cmpI .neq v90 v86.2)=true then(some false)
   else(H.bind λ v103=>
   (gO (cmpI .neq v103.1 n == false) (zV v103.2 g)).bind λ v108=>
   if(cmpI .neq v103.1 n||(!v108))=true then(some false)
   else((zZ v86.1 (1:Int)).bind λ v115=>
   if(cmpI .lss v115 (0:Int))=true then(some false)
   else(if(cmpI .neq v115 v86.2)=true then(some false)
   else(some true))))))=some true:=by
 obtain⟨y,k',h1,h2,h3,h4⟩:=JB (x:=g) (k:=1) hg (by omega) (by omega);have h5:cmpI .lss k' 0=false:=by simp[cmpI];omega
 simp only[h1,obS,h4,h5,Jz,hH,show((false == false):Bool)=true from rfl,qj,Yx (x:=g) (y:=g) (by omega),Bool.false_eq_true,if_false,decide_true,Bool.not_true,Bool.or_self]
theorem tail_attrs{g:List GAttr}(hg:g.length<=1125899906842624){H:Option (List GAttr)}(hH:H=some g):
  ((
   jB g (1:Int)).bind λ v86=>
   (xT v86.1 (1:Int)).bind λ v90=>
   if(cmpI .lss v90 (0:Int))=true then(some false)
   else(if(cmpI .neq v90 v86.2)=true then(some false)
   else(H.bind λ v103=>
   (wg v103 g).bind λ v108=>
   if(!v108)=true then(some false)
   else((xT v86.1 (1:Int)).bind λ v115=>
   if(cmpI .lss v115 (0:Int))=true then(some false)
   else(if(cmpI .neq v115 v86.2)=true then(some false)
   else(some true))))))=some true:=by
 obtain⟨y,k',h1,h2,h3,h4⟩:=markAttrS_ok (x:=g) (k:=1) hg (by omega) (by omega);have h5:cmpI .lss k' 0=false:=by simp[cmpI];omega
 simp only[h1,obS,h4,h5,Jz,hH,zbI (x:=g) (y:=g) (by omega),Bool.false_eq_true,if_false,decide_true,Bool.not_true]
end Go.Proofs.YtiiiokblnnlapaaGreatDoor
