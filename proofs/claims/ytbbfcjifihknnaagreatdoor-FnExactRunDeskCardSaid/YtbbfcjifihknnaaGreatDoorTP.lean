import Derived.Test.YtbbfcjifihknnaaGreatDoorTI
import Derived.Test.YtbbfcjifihknnaaGreatDoorTJ
import Derived.Test.YtbbfcjifihknnaaGreatDoorTN
namespace Go.Proofs.YtbbfcjifihknnaaGreatDoor
open Go.RowKit
variable{lv:Int}{path:List Int}{l:List Str}{post pre:List UInt8}{st:Stmt}{m p s:Str}{t:Tree}
theorem zcr(s:Str)(c:UInt8)(hs:s.l.length<=1000000):(∃ pre post,s.l=pre++c::post/\c ∉ post/\zY s c=some (pre.length:Int))\/(c ∉ s.l/\zY s c=some (-1)):=by
 have key:∀ k,k<=s.l.length->c ∉ s.l.drop k->∃ r,jp (λ s6=>z9 s c s6) (k+1) ((k:Int) - 1)=some r/\((∃ pre post,s.l=pre++c::post/\c ∉ post/\r=.inr (pre.length:Int))\/(c ∉ s.l/\r=.inl ())):=by
  intro k
  induction k with
  |zero=>intro _ hc;refine⟨.inl (),xn ?_,.inr ⟨by simpa using hc,Z⟩⟩;unfold z9;rw[Kf (by simp[cmpI])]
  |succ k ih=>
   intro hk hc;have hb:s.l[k]?=some s.l[k]:=List.getElem?_eq_getElem (by omega);have hd:s.l.drop k=s.l[k]::s.l.drop (k+1):=List.drop_eq_getElem_cons (by omega);have e1:((k+1:Nat):Int) - 1=(k:Int):=by omega
   rw[e1];by_cases h:s.l[k]=c
   ·refine⟨.inr (k:Int),xn ?_,.inl ⟨s.l.take k,s.l.drop (k+1),?_,hc,by simp;omega⟩⟩
    ·unfold z9;rw[Ke (by simp[cmpI]),zO,hb,Kd,Ke (by simp[cmpB,h])]
    ·rw[← h,← hd,List.take_append_drop]
   ·have hs1:z9 s c (k:Int)=some (.inl ((k:Int) - 1)):=by
     unfold z9;rw[Ke (by simp[cmpI]),zO,hb,Kd,Kf (by simp[cmpB,h]),qz (by omega) (by omega),Kd]
    rw[Za hs1];exact ih (by omega) (by rw[hd];simp only[List.mem_cons,not_or];exact⟨λ e=>h e.symm,hc⟩)
 obtain⟨r,h1,h2⟩:=key s.l.length (Nat.le_refl _) (by simp);have hl:zY s c=Option.bind (some r) (Sum.elim (λ _=>some (-1)) some):=by
  unfold zY yI;rw[qz (by omega) (by omega),Kd,Zz h1 (by omega)];cases r <;> rfl
 rcases h2 with⟨pre,post,e1,e2,rfl⟩ | ⟨e1,rfl⟩
 ·exact .inl ⟨pre,post,e1,e2,hl⟩
 ·exact .inr ⟨e1,hl⟩
theorem zeh(h:s.l=pre++46::post)(hp:(46:UInt8) ∉ post):zi s dot=zi ⟨pre⟩ dot++[⟨post⟩]:=by
 have e:s=⟨((⟨pre⟩:Str).l++[46])++(⟨post⟩:Str).l⟩:=by
  cases s;simp only at h ⊢;rw[h];simp
 have e2:zi ⟨post⟩ dot=[⟨post⟩]:=by
  rw[yE];show(cutF 46 post).map Str.mk=_;rw[zad 46 post hp];rfl
 rw[e,Qi,e2]
theorem split_none(h:(46:UInt8) ∉ s.l):zi s dot=[s]:=by
 rw[yE];show(cutF 46 s.l).map Str.mk=_;rw[zad 46 s.l h];rfl
theorem zc4(h:s.l=pre++46::post)(hp:(46:UInt8) ∉ post):zP s=⟨pre⟩/\wY s=⟨post⟩:=by
 unfold zP wY;rw[zeh h hp];constructor
 ·rw[List.length_append,List.length_singleton,Nat.add_sub_cancel,List.take_left];exact Qg ⟨pre⟩
 ·simp
theorem Jb(h:(46:UInt8) ∉ s.l):zP s=emptyS/\wY s=s:=by
 unfold zP wY;rw[split_none h];exact⟨Z,Z⟩
theorem Jc(hv:zf s=true):xz s=some (zP s):=by
 have hl:=yh hv;unfold xz;rcases zcr s 46 (by omega) with⟨pre,post,e1,e2,e3⟩ | ⟨e1,e3⟩
 ·rw[show zY s (UInt8.ofNat 46)=some (pre.length:Int) from e3,Kd,xm (wa hv),Kd,hv,Kf (by simp[cmpI]),JN (by rw[e1,List.length_append];omega),Kd,(zc4 e1 e2).1,e1,List.take_left]
 ·rw[show zY s (UInt8.ofNat 46)=some (-1) from e3,Kd,xm (wa hv),Kd,hv,Ke (by simp[cmpI]),(Jb e1).1];rfl
theorem LastOf_eq(hv:zf s=true):jy s=some (wY s):=by
 have hl:=yh hv;unfold jy;rw[xm (wa hv),Kd,hv,Kf (by decide)];rcases zcr s 46 (by omega) with⟨pre,post,e1,e2,e3⟩ | ⟨e1,e3⟩
 ·have hlen:pre.length+1<=s.l.length:=by rw[e1,List.length_append,List.length_cons];omega
  rw[show zY s (UInt8.ofNat 46)=some (pre.length:Int) from e3,Kd,zT (by omega),Kd,JO hlen,Kd,(zc4 e1 e2).2,e1]
  congr 2
  rw[show pre++46::post=(pre++[46])++post by simp,List.drop_left' (by simp)]
 ·rw[show zY s (UInt8.ofNat 46)=some (-1) from e3,Kd,show((-1:Int)+1)=((0:Nat):Int) from Z,qz (by omega) (by omega),Kd,JO (by omega),Kd,(Jb e1).2];rfl
theorem name_of(hv:zf s=true):s=child (zP s) (wY s):=by
 have hl:=yh hv;rcases zcr s 46 (by omega) with⟨pre,post,e1,e2,_⟩ | ⟨e1,_⟩
 ·obtain⟨h1,h2⟩:=zc4 e1 e2;rw[h1,h2];unfold child;by_cases he:(⟨pre⟩:Str)=emptyS
  ·have hpre:pre=[]:=by injection he
   subst hpre;have hs:=zeh e1 e2;have h3:=(y8 hv).1 ⟨[]⟩ (by rw[hs];exact List.mem_append_left _ (by decide));exact absurd (XP h3).1 (by simp)
  ·rw[Kf he];cases s;simp only at e1;rw[e1];simp
 ·obtain⟨h1,h2⟩:=Jb e1;rw[h1,h2];rfl
section
variable{α:Type}[DecidableEq α]
def addU(out:List α)(x:α):List α:=if x∈out then out else out++[x]
def addAll(out l:List α):List α:=l.foldl addU out
def uniq(l:List α):List α:=addAll [] l
theorem nodupLen:∀ {l m:List α},l.Nodup->(∀ x∈l,x∈m)->l.length<=m.length
 | [],_,_,_=>Nat.zero_le _
 |x::l,m,hn,hs=>by
  rw[List.nodup_cons] at hn;have hx:=hs x (List.mem_cons_self ..);have h1:=nodupLen (l:=l) (m:=m.erase x) hn.2 λ y hy=>(List.mem_erase_of_ne (by intro e;subst e;exact hn.1 hy)).2 (hs y (List.mem_cons_of_mem _ hy))
  have h2:=List.length_erase_of_mem hx;have h3:=List.length_pos_of_mem hx;rw[List.length_cons];omega
inductive Way (E:α->List α) (l:List α):α->Prop
 | here {x}:x∈l->Way E l x
 | step {x y}:Way E l x->y∈E x->Way E l y
omit [DecidableEq α] in
theorem Way.mono{E:α->List α}{l m:List α}(h:∀ x∈l,Way E m x){x:α}(hw:Way E l x):Way E m x:=by
 induction hw with
 | here hx=>exact h _ hx
 | step _ hy ih=>exact .step ih hy
end
def upN:Nat->Str->Str
 | 0,p=>p
 | n+1,p=>upN n (zP p)
def Yd(p:Str)(lv:Int)(m:Str):Str:=if cmpI .eql lv 0=true then m else if upN (lv - 1).toNat p=emptyS then emptyS else if m=emptyS then upN (lv - 1).toNat p else child (upN (lv - 1).toNat p) m
def stName(p:Str)(s:Stmt):Str:=if(cmpI .eql s.kind 0||cmpI .eql s.kind 2)=true then s.module else if cmpI .eql s.kind 1=true then Yd p s.level s.module else emptyS
def Ju(t:List File)(k:Int):File:=(t[k.toNat]?).getD default
theorem idxOf_some{α:Type}{p:α->Bool}{l:List α}(h:cmpI .lss (xL p l) 0=false):∃ x,l[(xL p l).toNat]?=some x/\p x=true:=by
 unfold xL at h ⊢;cases e:l.findIdx? p with
 | none=>rw[e] at h;exact absurd h (by decide)
 |some i=>rw[List.findIdx?_eq_some_iff_getElem] at e;obtain⟨hi,h1,_⟩:=e;exact⟨l[i],by simp only[Int.toNat_natCast];exact List.getElem?_eq_getElem hi,h1⟩
theorem lss_geq(n:Int):cmpI .geq n 0=!cmpI .lss n 0:=by
 unfold cmpI;by_cases h:n<0
 ·have:¬ n>=0:=by omega
  simp[h,this]
 ·have:n>=0:=by omega
  simp[h,this]
theorem WX(hv:zD t=true){f:File}(hf:f∈t.files):jf f.body=true:=by
 have h:=jS hv hf;unfold yw at h;cases hb:jf f.body with
 | true=>rfl
 | false=>rw[hb,Ke (by simp)] at h;cases h
def okG(t:Tree)(path:List Int)(s:Str):Bool:=zD t&&yW path&&zf s
theorem zai(h:okG t path s=true):zD t=true/\yW path=true/\zf s=true:=by
 unfold okG at h;simp only[Bool.and_eq_true] at h;exact⟨h.1.1,h.1.2,h.2⟩
section
end
section
end
theorem any_mem'{x:Str}:l.any (λ y=>decide (x=y))=decide (x∈l):=by
 rw[Bool.eq_iff_iff,List.any_eq_true];simp
theorem ContainsS_eq{x:Str}(h:l.length<=1048576):yp l x=some (decide (x∈l)):=by
 unfold yp wc;have hl:zR (λ s4=>yR l x s4) 0=some (match l.findIdx? (λ y=>decide (x=y)) with | some i=>(Sum.inr (i:Int):Unit⊕Int) | none=>Sum.inl ()):=by
  refine JQ l (λ y=>decide (x=y)) (λ i=>Sum.inr i) _ (λ k y hx hlt=>?_) ?_ (by omega) Z
  ·unfold yR;rw[zM,Ke (decide_eq_true hlt),zO,hx,Kd,zT (by omega)];cases decide (x=y) <;> rfl
  ·unfold yR;rw[zM,Kf (by simp)]
 have e:Option.bind (α:=Unit⊕Int) (zR (λ s4=>yR l x s4) 0) (Sum.elim (λ _=>some (-1)) some)=some (xL (λ y=>decide (x=y)) l):=by
  rw[hl];unfold xL;cases l.findIdx? (λ y=>decide (x=y)) <;> rfl
 rw[e,Kd,JR,any_mem']
theorem zcs(h:zx p=true):mid p:=by have:=xK h;unfold mid;omega
theorem Qk:zP emptyS=emptyS:=by
 have:(46:UInt8) ∉ emptyS.l:=by decide
 exact(Jb this).1
theorem WY(h:zx p=true):zx (zP p)=true:=by
 unfold zx at h;rw[Bool.or_eq_true,decide_eq_true_eq] at h;rcases h with h | h
 ·rw[h,Qk];rfl
 ·exact pre_valid h _
theorem zc5:∀ n,upN n emptyS=emptyS
 | 0=>rfl
 |n+1=>by
  unfold upN;rw[Qk];exact zc5 n
theorem upN_pkg:∀ n {p:Str},zx p=true->zx (upN n p)=true
 | 0,_,h=>h
 | n+1,_,h=>upN_pkg n (WY h)
theorem spec_base_eq(hp:zx p=true){n:Nat}(hn:n<=10):X0 p ((n:Int)+1)=some (upN n p,decide (upN n p≠(⟨[]⟩:Str))):=by
 have key:∀ (k i:Nat) (q:Str),zx q=true->i+k=n->∃ r,jp (λ s4=>jc ((n:Int)+1) s4) (k+1) (q,((i+1:Nat):Int))=some r/\(r=.inl (upN k q)\/(r=.inr ((⟨[]⟩:Str),false)/\upN k q=emptyS)):=by
  intro k
  induction k with
  |zero=>intro i q hq hi;refine⟨.inl q,xn ?_,.inl Z⟩;unfold jc;simp only;rw[show((n:Int)+1)=((n+1:Nat):Int) by omega,zM,Kf (by simp;omega)]
  |succ k ih=>
   intro i q hq hi;have hlt:cmpI .lss ((i+1:Nat):Int) ((n:Int)+1)=true:=by unfold cmpI;exact decide_eq_true (by omega)
   by_cases he:q=(⟨[]⟩:Str)
   ·refine⟨.inr ((⟨[]⟩:Str),false),xn ?_,.inr ⟨Z,?_⟩⟩
    ·unfold jc;simp only;rw[Ke hlt,Ke (decide_eq_true he)]
    ·rw[he];exact zc5 _
   ·have hs:jc ((n:Int)+1) (q,((i+1:Nat):Int))=some (.inl (zP q,((i+1+1:Nat):Int))):=by
     unfold jc;simp only;rw[Ke hlt,Kf (by simpa using he),show xd q=some (zP q) from Ke (zcs hq),Kd,zT (by omega)];rfl
    obtain⟨r,h1,h2⟩:=ih (i+1) (zP q) (WY hq) (by omega);exact⟨r,by rw[Za hs];exact h1,h2⟩
 obtain⟨r,h1,h2⟩:=key n 0 p hp (by omega);unfold X0;rw[show(1:Int)=((0+1:Nat):Int) from Z,Zz (by simpa using h1) (by omega)];rcases h2 with rfl | ⟨rfl,h3⟩
 ·rfl
 ·rw[h3];rfl
theorem zaj:Yd p lv m=if lv=0 then m else if upN (lv - 1).toNat p=emptyS then emptyS else if m=emptyS then upN (lv - 1).toNat p else child (upN (lv - 1).toNat p) m:=by
 unfold Yd;by_cases h:lv=0
 ·rw[Ke h,Ke (by simp[cmpI,h])]
 ·rw[Kf h,Kf (by simp[cmpI,h])]
theorem zdQ(hp:zx p=true)(h0:0<=lv)(h1:lv<=4)(hm:sho m):Z9 p lv m=some (Yd p lv m):=by
 rw[zaj];unfold Z9;by_cases h:lv=0
 ·rw[Ke h,Ke (by simp[cmpI,h])]
 ·rw[Kf h,Kf (by simp[cmpI,h])];obtain⟨n,hn⟩:∃ n:Nat,lv=(n:Int)+1:=⟨(lv - 1).toNat,by omega⟩;have hu:=upN_pkg n hp;rw[show(lv - 1).toNat=n by omega,hn,spec_base_eq hp (by omega),Kd];by_cases he:upN n p=emptyS
  ·rw[Ke he];simp only[he];rfl
  ·rw[Kf he];have he':decide (upN n p≠(⟨[]⟩:Str))=true:=decide_eq_true he;simp only[he'];rw[Kf (by decide)];by_cases hm0:m=emptyS
   ·rw[Ke hm0,Ke (decide_eq_true (show m=(⟨[]⟩:Str) from hm0))]
   ·have hlu:=xK hu;unfold sho at hm;rw[Kf hm0,Kf (by simpa using(show ¬ m=(⟨[]⟩:Str) from hm0)),show Zj (upN n p) m=some (child (upN n p) m) from Ke (by omega),Kd]
theorem YP(h:zX st=true):((st.kind=0\/st.kind=2)/\zf st.module=true)\/(st.kind=1/\zx st.module=true/\0<=st.level/\st.level<=3)\/(st.kind≠0/\st.kind≠1/\st.kind≠2):=by
 unfold zX at h;by_cases h0:st.kind=0
 ·rw[Ke (by simp[cmpI,h0])] at h;simp only[Bool.and_eq_true] at h;exact .inl ⟨.inl h0,h.1.1.1⟩
 ·rw[Kf (by simp[cmpI,h0])] at h;by_cases h1:st.kind=1
  ·rw[Ke (by simp[cmpI,h1])] at h;simp only[Bool.and_eq_true,inR] at h;have h2:=h.1.1.1.2;simp[cmpI] at h2;exact .inr (.inl ⟨h1,h.1.1.1.1,by omega,by omega⟩)
  ·rw[Kf (by simp[cmpI,h1])] at h;by_cases h2:st.kind=2
   ·rw[Ke (by simp[cmpI,h2])] at h;simp only[Bool.and_eq_true] at h;exact .inl ⟨.inr h2,h.1.1.1⟩
   ·exact .inr (.inr ⟨h0,h1,h2⟩)
theorem zc6(p s:Str):(child p s).l.length<=p.l.length+s.l.length+1:=by
 unfold child;split
 ·omega
 ·simp only[List.length_append,List.length_singleton];omega
theorem stName_sho(hp:zx p=true)(h:zX st=true):sho (stName p st):=by
 unfold stName sho;rcases YP h with⟨h1,h2⟩ | ⟨h1,h2,h3,h4⟩ | ⟨h1,h2,h3⟩
 ·have:=yh h2;rw[Ke (by rcases h1 with h1 | h1 <;> simp[cmpI,h1])];omega
 ·rw[Kf (by simp[cmpI,h1]),Ke (by simp[cmpI,h1]),zaj];have h5:=xK h2;have h6:=xK (upN_pkg (st.level - 1).toNat hp);have h7:=zc6 (upN (st.level - 1).toNat p) st.module;split
  ·omega
  ·split
   ·exact Nat.zero_le _
   ·split <;> omega
 ·rw[Kf (by simp[cmpI,h1,h3]),Kf (by simp[cmpI,h2])];exact Nat.zero_le _
section
end
section
theorem okG_cases(t:Tree)(path:List Int)(s:Str){α:Type}[Inhabited α]{b:α}{K:Option α}(ht:wi t)(hn:sho s){r:α}(h0:okG t path s=false->r=b)(h1:okG t path s=true->K=some r):((xc t).bind λ v2=>(gO ((!v2) == false) (xH path)).bind λ v3=>(gO (((!v2)||(!v3)) == false) (yx s)).bind λ v4=>if(((!v2)||(!v3))||(!v4))=true then(some b) else K)=some r:=by
 rw[show xc t=some (zD t) from Ke ht,Kd,show xH path=some (yW path) from Ke trivial,show yx s=some (zf s) from Ke hn.mid];cases hv:zD t with
 | false=>rw[h0 (by unfold okG;rw[hv];rfl)];rfl
 |true=>
  cases hp:yW path with
  | false=>rw[h0 (by unfold okG;rw[hv,hp];rfl)];rfl
  |true=>
   cases hs:zf s with
   | false=>rw[h0 (by unfold okG;rw[hv,hp,hs];rfl)];rfl
   | true=>exact h1 (by unfold okG;rw[hv,hp,hs];rfl)
end
def orE(s:Str):Str:=if zf s=true then s else emptyS
theorem ParentOf_any(h:zx p=true):xz p=some (zP p):=by
 unfold zx at h;rw[Bool.or_eq_true,decide_eq_true_eq] at h;rcases h with h | h
 ·rw[h,Qk];unfold xz;rcases zcr emptyS 46 (by decide) with⟨pre,post,e1,_,_⟩ | ⟨_,e3⟩
  ·have:=congrArg List.length e1;simp[emptyS] at this
  ·rw[show zY emptyS (UInt8.ofNat 46)=some (-1) from e3,Kd,xm (show sho emptyS from Nat.zero_le _),Kd];rfl
 ·exact Jc h
theorem resolve_loop(hp:zx p=true){n:Nat}(hn:n<=10):zR (λ s17=>yD s17) (p,(n:Int)+1)=some (upN n p):=by
 have key:∀ (k:Nat) (q:Str),k<=10->zx q=true->jp (λ s17=>yD s17) (k+1) (q,((k:Int)+1))=some (upN k q):=by
  intro k
  induction k with
  |zero=>intro q _ hq;refine xn ?_;unfold yD;rw[Kf (by simp[cmpI])];rfl
  |succ k ih=>
   intro q hk hq;have hgt:cmpI .gtr (((k+1:Nat):Int)+1) 1=true:=by unfold cmpI;exact decide_eq_true (by omega)
   by_cases he:q=(⟨[]⟩:Str)
   ·refine xn ?_;unfold yD;simp only;rw[he,Kf (by simp),show upN (k+1) (⟨[]⟩:Str)=emptyS from zc5 _];rfl
   ·have hs:yD (q,(((k+1:Nat):Int)+1))=some (.inl (zP q,((k:Int)+1))):=by
     unfold yD;simp only;rw[hgt,Ke (by simpa using he),ParentOf_any hq,Kd,show(((k+1:Nat):Int)+1 - 1)=((k:Int)+1) by omega,qz (by omega) (by omega)];rfl
    rw[Za hs];exact ih (zP q) (by omega) (WY hq)
 exact Zz (key n p hn hp) (by omega)
theorem pkg_sho(h:zx p=true):sho p:=by have:=xK h;unfold sho;omega
theorem zei(hp:zx p=true)(hm:zx m=true)(h0:0<=lv)(h1:lv<=3):jO p lv m=some (orE (Yd p lv m)):=by
 rw[zaj];unfold jO;have hw:yZ lv 0 4=some true:=by
  unfold yZ cmpI;simp only[ge_iff_le];rw[decide_eq_true h0,decide_eq_true (show lv<=4 by omega)];rfl
 rw[Xs (pkg_sho hp),Kd,Xs (pkg_sho hm),hw,hp,hm];simp only[Bool.not_true,beq_self_eq_true,Yn,Kd,Bool.or_self,Bool.false_eq_true,if_false];unfold orE;by_cases h:lv=0
 ·rw[Ke h,Ke (by simp[cmpI,h])];unfold zx at hm;rw[Bool.or_eq_true,decide_eq_true_eq] at hm;rcases hm with hm | hm
  ·rw[hm,qb];rfl
  ·rw[Ke hm]
 ·rw[Kf h,Kf (by simp[cmpI,h])];obtain⟨n,hn⟩:∃ n:Nat,lv=(n:Int)+1:=⟨(lv - 1).toNat,by omega⟩;have hu:=upN_pkg n hp;have hul:=xK hu;have hml:=xK hm;rw[show(lv - 1).toNat=n by omega,hn,resolve_loop hp (by omega),Kd];by_cases he:upN n p=emptyS
  ·rw[Ke he,Ke (decide_eq_true (show upN n p=(⟨[]⟩:Str) from he)),qb];rfl
  ·rw[Kf he,Kf (by simpa using(show ¬ upN n p=(⟨[]⟩:Str) from he))];have hend:∀ q:Str,sho q->((zZ q).bind λ v44=>if(!v44)=true then(some (⟨[]⟩:Str)) else(some q))=some (if zf q=true then q else emptyS):=λ q hq=>by
    rw[xm hq,Kd];cases zf q <;> rfl
   by_cases hm0:m=emptyS
   ·rw[Ke hm0,Kf (by simpa using(show m=(⟨[]⟩:Str) from hm0)),Kd];exact hend _ (pkg_sho hu)
   ·rw[Kf hm0,Ke (by simpa using(show ¬ m=(⟨[]⟩:Str) from hm0)),yz (by simp;omega),Kd,yz (by simp;omega),Kd,Kd];have e:(⟨(upN n p).l++([46]++m.l)⟩:Str)=child (upN n p) m:=by
     unfold child;rw[Kf he];simp
    simp only[e];refine hend _ ?_;have:=zc6 (upN n p) m;unfold sho;omega
section
end
end Go.Proofs.YtbbfcjifihknnaaGreatDoor
