import Derived.Test.YtbbfcjifihknnaaGreatDoorRI
import Derived.Test.YtbbfcjifihknnaaGreatDoorRJ
import Derived.Test.YtbbfcjifihknnaaGreatDoorRN
namespace Go.Proofs.YtbbfcjifihknnaaGreatDoor
open Go.RowKit
variable{f:File}{lv:Int}{path:List Int}{l:List Str}{post pre:List UInt8}{st:Stmt}{m p s:Str}{t:Tree}
theorem zbL(s:Str)(c:UInt8)(hs:s.l.length<=1000000):(∃ pre post,s.l=pre++c::post/\c ∉ post/\zR s c=some (pre.length:Int))\/(c ∉ s.l/\zR s c=some (-1)):=by
 have key:∀ k,k<=s.l.length->c ∉ s.l.drop k->∃ r,wV (λ s6=>zU s c s6) (k+1) ((k:Int) - 1)=some r/\((∃ pre post,s.l=pre++c::post/\c ∉ post/\r=.inr (pre.length:Int))\/(c ∉ s.l/\r=.inl ())):=by
  intro k
  induction k with
  |zero=>intro _ hc;refine⟨.inl (),yx ?_,.inr ⟨by simpa using hc,Z⟩⟩;unfold zU;rw[Kf (by simp[cmpI])]
  |succ k ih=>
   intro hk hc;have hb:s.l[k]?=some s.l[k]:=List.getElem?_eq_getElem (by omega);have hd:s.l.drop k=s.l[k]::s.l.drop (k+1):=List.drop_eq_getElem_cons (by omega);have e1:((k+1:Nat):Int) - 1=(k:Int):=by omega
   rw[e1];by_cases h:s.l[k]=c
   ·refine⟨.inr (k:Int),yx ?_,.inl ⟨s.l.take k,s.l.drop (k+1),?_,hc,by simp;omega⟩⟩
    ·unfold zU;rw[Ke (by simp[cmpI]),zK,hb,obS,Ke (by simp[cmpB,h])]
    ·rw[← h,← hd,List.take_append_drop]
   ·have hs1:zU s c (k:Int)=some (.inl ((k:Int) - 1)):=by
     unfold zU;rw[Ke (by simp[cmpI]),zK,hb,obS,Kf (by simp[cmpB,h]),YL (by omega) (by omega),obS]
    rw[w6 hs1];exact ih (by omega) (by rw[hd];simp only[List.mem_cons,not_or];exact⟨λ e=>h e.symm,hc⟩)
 obtain⟨r,h1,h2⟩:=key s.l.length (Nat.le_refl _) (by simp);have hl:zR s c=Option.bind (some r) (Sum.elim (λ _=>some (-1)) some):=by
  unfold zR yq;rw[YL (by omega) (by omega),obS,ji h1 (by omega)];cases r <;> rfl
 rcases h2 with⟨pre,post,e1,e2,rfl⟩ | ⟨e1,rfl⟩
 ·exact .inl ⟨pre,post,e1,e2,hl⟩
 ·exact .inr ⟨e1,hl⟩
theorem zds(h:s.l=pre++46::post)(hp:(46:UInt8) ∉ post):zx s dot=zx ⟨pre⟩ dot++[⟨post⟩]:=by
 have e:s=⟨((⟨pre⟩:Str).l++[46])++(⟨post⟩:Str).l⟩:=by
  cases s;simp only at h ⊢;rw[h];simp
 have e2:zx ⟨post⟩ dot=[⟨post⟩]:=by
  rw[jq];show(cutF 46 post).map Str.mk=_;rw[zbI 46 post hp];rfl
 rw[e,split_append,e2]
theorem split_none(h:(46:UInt8) ∉ s.l):zx s dot=[s]:=by
 rw[jq];show(cutF 46 s.l).map Str.mk=_;rw[zbI 46 s.l h];rfl
theorem zci(h:s.l=pre++46::post)(hp:(46:UInt8) ∉ post):zF s=⟨pre⟩/\je s=⟨post⟩:=by
 unfold zF je;rw[zds h hp];constructor
 ·rw[List.length_append,List.length_singleton,Nat.add_sub_cancel,List.take_left];exact join_split ⟨pre⟩
 ·simp
theorem WS(h:(46:UInt8) ∉ s.l):zF s=emptyS/\je s=s:=by
 unfold zF je;rw[split_none h];exact⟨Z,Z⟩
theorem XP(hv:zm s=true):yQ s=some (zF s):=by
 have hl:=xf hv;unfold yQ;rcases zbL s 46 (by omega) with⟨pre,post,e1,e2,e3⟩ | ⟨e1,e3⟩
 ·rw[show zR s (UInt8.ofNat 46)=some (pre.length:Int) from e3,obS,wL (xZ hv),obS,hv,Kf (by simp[cmpI]),Q3 (by rw[e1,List.length_append];omega),obS,(zci e1 e2).1,e1,List.take_left]
 ·rw[show zR s (UInt8.ofNat 46)=some (-1) from e3,obS,wL (xZ hv),obS,hv,Ke (by simp[cmpI]),(WS e1).1];rfl
theorem LastOf_eq(hv:zm s=true):jr s=some (je s):=by
 have hl:=xf hv;unfold jr;rw[wL (xZ hv),obS,hv,Kf (by decide)];rcases zbL s 46 (by omega) with⟨pre,post,e1,e2,e3⟩ | ⟨e1,e3⟩
 ·have hlen:pre.length+1<=s.l.length:=by rw[e1,List.length_append,List.length_cons];omega
  rw[show zR s (UInt8.ofNat 46)=some (pre.length:Int) from e3,obS,zJ (by omega),obS,Q4 hlen,obS,(zci e1 e2).2,e1]
  congr 2
  rw[show pre++46::post=(pre++[46])++post by simp,List.drop_left' (by simp)]
 ·rw[show zR s (UInt8.ofNat 46)=some (-1) from e3,obS,show((-1:Int)+1)=((0:Nat):Int) from Z,YL (by omega) (by omega),obS,Q4 (by omega),obS,(WS e1).2];rfl
theorem name_of(hv:zm s=true):s=child (zF s) (je s):=by
 have hl:=xf hv;rcases zbL s 46 (by omega) with⟨pre,post,e1,e2,_⟩ | ⟨e1,_⟩
 ·obtain⟨h1,h2⟩:=zci e1 e2;rw[h1,h2];unfold child;by_cases he:(⟨pre⟩:Str)=emptyS
  ·have hpre:pre=[]:=by injection he
   subst hpre;have hs:=zds e1 e2;have h3:=(jV hv).1 ⟨[]⟩ (by rw[hs];exact List.mem_append_left _ (by decide));exact absurd (W7 h3).1 (by simp)
  ·rw[Kf he];cases s;simp only at e1;rw[e1];simp
 ·obtain⟨h1,h2⟩:=WS e1;rw[h1,h2];rfl
section
variable{α:Type}[DecidableEq α]
theorem nodupLen:∀ {l m:List α},l.Nodup->(∀ x∈l,x∈m)->l.length<=m.length
 | [],_,_,_=>Nat.zero_le _
 |x::l,m,hn,hs=>by
  rw[List.nodup_cons] at hn;have hx:=hs x (List.mem_cons_self ..);have h1:=nodupLen (l:=l) (m:=m.erase x) hn.2 λ y hy=>(List.mem_erase_of_ne (by intro e;subst e;exact hn.1 hy)).2 (hs y (List.mem_cons_of_mem _ hy))
  have h2:=List.length_erase_of_mem hx;have h3:=List.length_pos_of_mem hx;rw[List.length_cons];omega
inductive Way (E:α->List α) (l:List α):α->Prop
 | here {x}:x∈l->Way E l x
 | step {x y}:Way E l x->y∈E x->Way E l y
omit [DecidableEq α] in
theorem Way.mono{E:α->List α}{l m:List α}(h:∀ x∈l,Way E m x){x:α}(hw:Way E l x):Way E m x:=by
 induction hw with
 | here hx=>exact h _ hx
 | step _ hy ih=>exact .step ih hy
end
def upN:Nat->Str->Str
 | 0,p=>p
 | n+1,p=>upN n (zF p)
def Z1(p:Str)(lv:Int)(m:Str):Str:=if cmpI .eql lv 0=true then m else if upN (lv - 1).toNat p=emptyS then emptyS else if m=emptyS then upN (lv - 1).toNat p else child (upN (lv - 1).toNat p) m
def stName(p:Str)(s:Stmt):Str:=if(cmpI .eql s.kind 0||cmpI .eql s.kind 2)=true then s.module else if cmpI .eql s.kind 1=true then Z1 p s.level s.module else emptyS
def W8(t:List File)(k:Int):File:=(t[k.toNat]?).getD default
theorem idxOf_some{α:Type}{p:α->Bool}{l:List α}(h:cmpI .lss (xP p l) 0=false):∃ x,l[(xP p l).toNat]?=some x/\p x=true:=by
 unfold xP at h ⊢;cases e:l.findIdx? p with
 | none=>rw[e] at h;exact absurd h (by decide)
 |some i=>rw[List.findIdx?_eq_some_iff_getElem] at e;obtain⟨hi,h1,_⟩:=e;exact⟨l[i],by simp only[Int.toNat_natCast];exact List.getElem?_eq_getElem hi,h1⟩
theorem lss_geq(n:Int):cmpI .geq n 0=!cmpI .lss n 0:=by
 unfold cmpI;by_cases h:n<0
 ·have:¬ n>=0:=by omega
  simp[h,this]
 ·have:n>=0:=by omega
  simp[h,this]
theorem WC(hv:ya t=true)(hf:f∈t.files):jR f.body=true:=by
 have h:=QM hv hf;unfold wh at h;cases hb:jR f.body with
 | true=>rfl
 | false=>rw[hb,Ke (by simp)] at h;cases h
section
end
section
end
theorem any_mem'{x:Str}:l.any (λ y=>decide (x=y))=decide (x∈l):=by
 rw[Bool.eq_iff_iff,List.any_eq_true];simp
theorem ContainsS_eq{x:Str}(h:l.length<=1048576):yh l x=some (decide (x∈l)):=by
 unfold yh xJ;have hl:zH (λ s4=>yA l x s4) 0=some (match l.findIdx? (λ y=>decide (x=y)) with | some i=>(Sum.inr (i:Int):Unit⊕Int) | none=>Sum.inl ()):=by
  refine Ju l (λ y=>decide (x=y)) (λ i=>Sum.inr i) _ (λ k y hx hlt=>?_) ?_ (by omega) Z
  ·unfold yA;rw[zS,Ke (decide_eq_true hlt),zK,hx,obS,zJ (by omega)];cases decide (x=y) <;> rfl
  ·unfold yA;rw[zS,Kf (by simp)]
 have e:Option.bind (α:=Unit⊕Int) (zH (λ s4=>yA l x s4) 0) (Sum.elim (λ _=>some (-1)) some)=some (xP (λ y=>decide (x=y)) l):=by
  rw[hl];unfold xP;cases l.findIdx? (λ y=>decide (x=y)) <;> rfl
 rw[e,obS,QL,any_mem']
theorem zbM(h:zv p=true):mid p:=by have:=xX h;unfold mid;omega
theorem JW:zF emptyS=emptyS:=by
 have:(46:UInt8) ∉ emptyS.l:=by decide
 exact(WS this).1
theorem WD(h:zv p=true):zv (zF p)=true:=by
 unfold zv at h;rw[Bool.or_eq_true,decide_eq_true_eq] at h;rcases h with h | h
 ·rw[h,JW];rfl
 ·exact pre_valid h _
theorem zcj:∀ n,upN n emptyS=emptyS
 | 0=>rfl
 |n+1=>by
  unfold upN;rw[JW];exact zcj n
theorem upN_pkg:∀ n {p:Str},zv p=true->zv (upN n p)=true
 | 0,_,h=>h
 | n+1,_,h=>upN_pkg n (WD h)
theorem spec_base_eq(hp:zv p=true){n:Nat}(hn:n<=10):XN p ((n:Int)+1)=some (upN n p,decide (upN n p≠(⟨[]⟩:Str))):=by
 have key:∀ (k i:Nat) (q:Str),zv q=true->i+k=n->∃ r,wV (λ s4=>wP ((n:Int)+1) s4) (k+1) (q,((i+1:Nat):Int))=some r/\(r=.inl (upN k q)\/(r=.inr ((⟨[]⟩:Str),false)/\upN k q=emptyS)):=by
  intro k
  induction k with
  |zero=>intro i q hq hi;refine⟨.inl q,yx ?_,.inl Z⟩;unfold wP;simp only;rw[show((n:Int)+1)=((n+1:Nat):Int) by omega,zS,Kf (by simp;omega)]
  |succ k ih=>
   intro i q hq hi;have hlt:cmpI .lss ((i+1:Nat):Int) ((n:Int)+1)=true:=by unfold cmpI;exact decide_eq_true (by omega)
   by_cases he:q=(⟨[]⟩:Str)
   ·refine⟨.inr ((⟨[]⟩:Str),false),yx ?_,.inr ⟨Z,?_⟩⟩
    ·unfold wP;simp only;rw[Ke hlt,Ke (decide_eq_true he)]
    ·rw[he];exact zcj _
   ·have hs:wP ((n:Int)+1) (q,((i+1:Nat):Int))=some (.inl (zF q,((i+1+1:Nat):Int))):=by
     unfold wP;simp only;rw[Ke hlt,Kf (by simpa using he),show yI q=some (zF q) from Ke (zbM hq),obS,zJ (by omega)];rfl
    obtain⟨r,h1,h2⟩:=ih (i+1) (zF q) (WD hq) (by omega);exact⟨r,by rw[w6 hs];exact h1,h2⟩
 obtain⟨r,h1,h2⟩:=key n 0 p hp (by omega);unfold XN;rw[show(1:Int)=((0+1:Nat):Int) from Z,ji (by simpa using h1) (by omega)];rcases h2 with rfl | ⟨rfl,h3⟩
 ·rfl
 ·rw[h3];rfl
theorem QO:Z1 p lv m=if lv=0 then m else if upN (lv - 1).toNat p=emptyS then emptyS else if m=emptyS then upN (lv - 1).toNat p else child (upN (lv - 1).toNat p) m:=by
 unfold Z1;by_cases h:lv=0
 ·rw[Ke h,Ke (by simp[cmpI,h])]
 ·rw[Kf h,Kf (by simp[cmpI,h])]
theorem zcT(hp:zv p=true)(h0:0<=lv)(h1:lv<=4)(hm:sho m):ZP p lv m=some (Z1 p lv m):=by
 rw[QO];unfold ZP;by_cases h:lv=0
 ·rw[Ke h,Ke (by simp[cmpI,h])]
 ·rw[Kf h,Kf (by simp[cmpI,h])];obtain⟨n,hn⟩:∃ n:Nat,lv=(n:Int)+1:=⟨(lv - 1).toNat,by omega⟩;have hu:=upN_pkg n hp;rw[show(lv - 1).toNat=n by omega,hn,spec_base_eq hp (by omega),obS];by_cases he:upN n p=emptyS
  ·rw[Ke he];simp only[he];rfl
  ·rw[Kf he];have he':decide (upN n p≠(⟨[]⟩:Str))=true:=decide_eq_true he;simp only[he'];rw[Kf (by decide)];by_cases hm0:m=emptyS
   ·rw[Ke hm0,Ke (decide_eq_true (show m=(⟨[]⟩:Str) from hm0))]
   ·have hlu:=xX hu;unfold sho at hm;rw[Kf hm0,Kf (by simpa using(show ¬ m=(⟨[]⟩:Str) from hm0)),show qW (upN n p) m=some (child (upN n p) m) from Ke (by omega),obS]
theorem YE(h:zW st=true):((st.kind=0\/st.kind=2)/\zm st.module=true)\/(st.kind=1/\zv st.module=true/\0<=st.level/\st.level<=3)\/(st.kind≠0/\st.kind≠1/\st.kind≠2):=by
 unfold zW at h;by_cases h0:st.kind=0
 ·rw[Ke (by simp[cmpI,h0])] at h;simp only[Bool.and_eq_true] at h;exact .inl ⟨.inl h0,h.1.1.1⟩
 ·rw[Kf (by simp[cmpI,h0])] at h;by_cases h1:st.kind=1
  ·rw[Ke (by simp[cmpI,h1])] at h;simp only[Bool.and_eq_true,inR] at h;have h2:=h.1.1.1.2;simp[cmpI] at h2;exact .inr (.inl ⟨h1,h.1.1.1.1,by omega,by omega⟩)
  ·rw[Kf (by simp[cmpI,h1])] at h;by_cases h2:st.kind=2
   ·rw[Ke (by simp[cmpI,h2])] at h;simp only[Bool.and_eq_true] at h;exact .inl ⟨.inr h2,h.1.1.1⟩
   ·exact .inr (.inr ⟨h0,h1,h2⟩)
theorem zck(p s:Str):(child p s).l.length<=p.l.length+s.l.length+1:=by
 unfold child;split
 ·omega
 ·simp only[List.length_append,List.length_singleton];omega
theorem stName_sho(hp:zv p=true)(h:zW st=true):sho (stName p st):=by
 unfold stName sho;rcases YE h with⟨h1,h2⟩ | ⟨h1,h2,h3,h4⟩ | ⟨h1,h2,h3⟩
 ·have:=xf h2;rw[Ke (by rcases h1 with h1 | h1 <;> simp[cmpI,h1])];omega
 ·rw[Kf (by simp[cmpI,h1]),Ke (by simp[cmpI,h1]),QO];have h5:=xX h2;have h6:=xX (upN_pkg (st.level - 1).toNat hp);have h7:=zck (upN (st.level - 1).toNat p) st.module;split
  ·omega
  ·split
   ·exact Nat.zero_le _
   ·split <;> omega
 ·rw[Kf (by simp[cmpI,h1,h3]),Kf (by simp[cmpI,h2])];exact Nat.zero_le _
section
end
section
end
def orE(s:Str):Str:=if zm s=true then s else emptyS
theorem ParentOf_any(h:zv p=true):yQ p=some (zF p):=by
 unfold zv at h;rw[Bool.or_eq_true,decide_eq_true_eq] at h;rcases h with h | h
 ·rw[h,JW];unfold yQ;rcases zbL emptyS 46 (by decide) with⟨pre,post,e1,_,_⟩ | ⟨_,e3⟩
  ·have:=congrArg List.length e1;simp[emptyS] at this
  ·rw[show zR emptyS (UInt8.ofNat 46)=some (-1) from e3,obS,wL (show sho emptyS from Nat.zero_le _),obS];rfl
 ·exact XP h
theorem resolve_loop(hp:zv p=true){n:Nat}(hn:n<=10):zH (λ s17=>ym s17) (p,(n:Int)+1)=some (upN n p):=by
 have key:∀ (k:Nat) (q:Str),k<=10->zv q=true->wV (λ s17=>ym s17) (k+1) (q,((k:Int)+1))=some (upN k q):=by
  intro k
  induction k with
  |zero=>intro q _ hq;refine yx ?_;unfold ym;rw[Kf (by simp[cmpI])];rfl
  |succ k ih=>
   intro q hk hq;have hgt:cmpI .gtr (((k+1:Nat):Int)+1) 1=true:=by unfold cmpI;exact decide_eq_true (by omega)
   by_cases he:q=(⟨[]⟩:Str)
   ·refine yx ?_;unfold ym;simp only;rw[he,Kf (by simp),show upN (k+1) (⟨[]⟩:Str)=emptyS from zcj _];rfl
   ·have hs:ym (q,(((k+1:Nat):Int)+1))=some (.inl (zF q,((k:Int)+1))):=by
     unfold ym;simp only;rw[hgt,Ke (by simpa using he),ParentOf_any hq,obS,show(((k+1:Nat):Int)+1 - 1)=((k:Int)+1) by omega,YL (by omega) (by omega)];rfl
    rw[w6 hs];exact ih (zF q) (by omega) (WD hq)
 exact ji (key n p hn hp) (by omega)
theorem pkg_sho(h:zv p=true):sho p:=by have:=xX h;unfold sho;omega
theorem zdt(hp:zv p=true)(hm:zv m=true)(h0:0<=lv)(h1:lv<=3):jH p lv m=some (orE (Z1 p lv m)):=by
 rw[QO];unfold jH;have hw:yg lv 0 4=some true:=by
  unfold yg cmpI;simp only[ge_iff_le];rw[decide_eq_true h0,decide_eq_true (show lv<=4 by omega)];rfl
 rw[Xf (pkg_sho hp),obS,Xf (pkg_sho hm),hw,hp,hm];simp only[Bool.not_true,beq_self_eq_true,YC,obS,Bool.or_self,Bool.false_eq_true,if_false];unfold orE;by_cases h:lv=0
 ·rw[Ke h,Ke (by simp[cmpI,h])];unfold zv at hm;rw[Bool.or_eq_true,decide_eq_true_eq] at hm;rcases hm with hm | hm
  ·rw[hm,Zn];rfl
  ·rw[Ke hm]
 ·rw[Kf h,Kf (by simp[cmpI,h])];obtain⟨n,hn⟩:∃ n:Nat,lv=(n:Int)+1:=⟨(lv - 1).toNat,by omega⟩;have hu:=upN_pkg n hp;have hul:=xX hu;have hml:=xX hm;rw[show(lv - 1).toNat=n by omega,hn,resolve_loop hp (by omega),obS];by_cases he:upN n p=emptyS
  ·rw[Ke he,Ke (decide_eq_true (show upN n p=(⟨[]⟩:Str) from he)),Zn];rfl
  ·rw[Kf he,Kf (by simpa using(show ¬ upN n p=(⟨[]⟩:Str) from he))];have hend:∀ q:Str,sho q->((zZ q).bind λ v44=>if(!v44)=true then(some (⟨[]⟩:Str)) else(some q))=some (if zm q=true then q else emptyS):=λ q hq=>by
    rw[wL hq,obS];cases zm q <;> rfl
   by_cases hm0:m=emptyS
   ·rw[Ke hm0,Kf (by simpa using(show m=(⟨[]⟩:Str) from hm0)),obS];exact hend _ (pkg_sho hu)
   ·rw[Kf hm0,Ke (by simpa using(show ¬ m=(⟨[]⟩:Str) from hm0)),JS (by simp;omega),obS,JS (by simp;omega),obS,obS];have e:(⟨(upN n p).l++([46]++m.l)⟩:Str)=child (upN n p) m:=by
     unfold child;rw[Kf he];simp
    simp only[e];refine hend _ ?_;have:=zck (upN n p) m;unfold sho;omega
section
end
end Go.Proofs.YtbbfcjifihknnaaGreatDoor
