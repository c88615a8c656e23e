import Derived.Test.YtobplpdjkfbfoaaGreatDoorRI
import Derived.Test.YtobplpdjkfbfoaaGreatDoorRK
import Derived.Test.YtobplpdjkfbfoaaGreatDoorRKb
namespace Go.Proofs.YtobplpdjkfbfoaaGreatDoor
open Go.RowKit
theorem lastByte(s:Str)(c:UInt8)(hs:s.l.length<=1000000):(∃ pre post,s.l=pre++c::post/\c ∉ post/\zT s c=some (pre.length:Int))\/(c ∉ s.l/\zT s c=some (-1)):=by
 have key:∀ k,k<=s.l.length->c ∉ s.l.drop k->∃ r,js (λ s6=>zI s c s6) (k+1) ((k:Int) - 1)=some r/\((∃ pre post,s.l=pre++c::post/\c ∉ post/\r=.inr (pre.length:Int))\/(c ∉ s.l/\r=.inl ())):=by
  intro k
  induction k with
  |
   zero=>
   intro _ hc;refine⟨.inl (),yQ ?_,.inr ⟨by simpa using hc,rfl⟩⟩;unfold zI;rw[if_neg (by simp[cmpI])]
  |
   succ k ih=>
   intro hk hc;have hb:s.l[k]?=some s.l[k]:=List.getElem?_eq_getElem (by omega);have hd:s.l.drop k=s.l[k]::s.l.drop (k+1):=List.drop_eq_getElem_cons (by omega);have e1:((k+1:Nat):Int) - 1=(k:Int):=by omega
   rw[e1];by_cases h:s.l[k]=c
   ·
    refine⟨.inr (k:Int),yQ ?_,.inl ⟨s.l.take k,s.l.drop (k+1),?_,hc,by simp;omega⟩⟩
    ·
     unfold zI;rw[if_pos (by simp[cmpI]),zQ,hb,obS,if_pos (by simp[cmpB,h])]
    ·
     rw[← h,← hd,List.take_append_drop]
   ·
    have hs1:zI s c (k:Int)=some (.inl ((k:Int) - 1)):=by
     unfold zI;rw[if_pos (by simp[cmpI]),zQ,hb,obS,if_neg (by simp[cmpB,h]),wL (by omega) (by omega),obS]
    rw[qj hs1];exact ih (by omega) (by rw[hd];simp only[List.mem_cons,not_or];exact⟨λ e=>h e.symm,hc⟩)
 obtain⟨r,h1,h2⟩:=key s.l.length (Nat.le_refl _) (by simp);have hl:zT s c=Option.bind (some r) (Sum.elim (λ _=>some (-1)) some):=by
  unfold zT yl;rw[wL (by omega) (by omega),obS,jK h1 (by omega)];cases r <;> rfl
 rcases h2 with⟨pre,post,e1,e2,rfl⟩ | ⟨e1,rfl⟩
 ·
  exact .inl ⟨pre,post,e1,e2,hl⟩
 ·
  exact .inr ⟨e1,hl⟩
theorem split_last{s:Str}{pre post:List UInt8}(h:s.l=pre++46::post)(hp:(46:UInt8) ∉ post):zm s dot=zm ⟨pre⟩ dot++[⟨post⟩]:=by
 have e:s=⟨((⟨pre⟩:Str).l++[46])++(⟨post⟩:Str).l⟩:=by
  cases s;simp only at h ⊢;rw[h];simp
 have e2:zm ⟨post⟩ dot=[⟨post⟩]:=by
  rw[jL];show(cutF 46 post).map Str.mk=_;rw[Q0 46 post hp];rfl
 rw[e,split_append,e2]
theorem split_none{s:Str}(h:(46:UInt8) ∉ s.l):zm s dot=[s]:=by
 rw[jL];show(cutF 46 s.l).map Str.mk=_;rw[Q0 46 s.l h];rfl
theorem parent_of{s:Str}{pre post:List UInt8}(h:s.l=pre++46::post)(hp:(46:UInt8) ∉ post):zC s=⟨pre⟩/\Xj s=⟨post⟩:=by
 unfold zC Xj;rw[split_last h hp];constructor
 ·
  rw[List.length_append,List.length_singleton,Nat.add_sub_cancel,List.take_left];exact Yh ⟨pre⟩
 ·
  simp
theorem Jl{s:Str}(h:(46:UInt8) ∉ s.l):zC s=emptyS/\Xj s=s:=by
 unfold zC Xj;rw[split_none h];exact⟨rfl,rfl⟩
theorem XI{s:Str}(hv:zg s=true):yW s=some (zC s):=by
 have hl:=wV hv;unfold yW;rcases lastByte s 46 (by omega) with⟨pre,post,e1,e2,e3⟩ | ⟨e1,e3⟩
 ·
  rw[show zT s (UInt8.ofNat 46)=some (pre.length:Int) from e3,obS,xT (yH hv),obS,hv,if_neg (by simp[cmpI]),zax (by rw[e1,List.length_append];omega),obS,(parent_of e1 e2).1,e1,List.take_left]
 ·
  rw[show zT s (UInt8.ofNat 46)=some (-1) from e3,obS,xT (yH hv),obS,hv,if_pos (by simp[cmpI]),(Jl e1).1];rfl
open Go.RowKit
theorem asc_nodup{l:List Str}(h:Asc l):l.Nodup:=List.Pairwise.imp (S:=λ a b=>a≠b) (λ{a b} hlt e=>by subst e;exact List.lt_irrefl _ hlt) h
open Go.RowKit
section
variable{α:Type}[DecidableEq α]
def addU(out:List α)(x:α):List α:=if x∈out then out else out++[x]
def xM(out l:List α):List α:=l.foldl addU out
theorem addU_mem{out:List α}{x y:α}:y∈addU out x ↔ y∈out\/y=x:=by
 unfold addU;split
 ·
  rename_i h;constructor
  ·
   exact Or.inl
  ·
   rintro (h1 | rfl)
   ·
    exact h1
   ·
    exact h
 ·
  rw[List.mem_append,List.mem_singleton]
theorem qr:∀ {l out:List α} {y:α},y∈xM out l ↔ y∈out\/y∈l
 | [],out,y=>by simp[xM]
 |
  x::l,out,y=>by
  show y∈xM (addU out x) l ↔ _;rw[qr,addU_mem,List.mem_cons,or_assoc]
theorem addU_nodup{out:List α}{x:α}(h:out.Nodup):(addU out x).Nodup:=by
 unfold addU;split
 ·
  exact h
 ·
  rename_i hx;rw[List.nodup_append];refine⟨h,by simp,?_⟩;intro a ha b hb e;rw[List.mem_singleton] at hb;subst hb;subst e;exact hx ha
theorem Z4:∀ {l out:List α},out.Nodup->(xM out l).Nodup
 | [],_,h=>h
 | x::l,out,h=>Z4 (l:=l) (out:=addU out x) (addU_nodup h)
theorem addU_pre(out:List α)(x:α):∃ t,addU out x=out++t:=by
 unfold addU;split
 ·
  exact⟨[],by simp⟩
 ·
  exact⟨[x],rfl⟩
theorem Qm:∀ (l out:List α),∃ t,xM out l=out++t
 | [],out=>⟨[],by simp[xM]⟩
 |
  x::l,out=>by
  obtain⟨t,ht⟩:=addU_pre out x;obtain⟨u,hu⟩:=Qm l (addU out x);exact⟨t++u,by show xM (addU out x) l=_;rw[hu,ht,List.append_assoc]⟩
theorem zbF(out l m:List α):xM out (l++m)=xM (xM out l) m:=by
 unfold xM;rw[List.foldl_append]
theorem zaZ:∀ (l out:List α),(out++l).Nodup->xM out l=out++l
 | [],out,_=>by simp[xM]
 |
  x::l,out,h=>by
  show xM (addU out x) l=_;have hx:x ∉ out:=by
   rw[List.nodup_append] at h;exact λ hx=>h.2.2 x hx x (List.mem_cons_self ..) rfl
  rw[show addU out x=out++[x] from if_neg hx,zaZ l (out++[x]) (by simpa using h)];simp
theorem zbG{l:List α}(h:l.Nodup):xM [] l=l:=by rw[zaZ l [] (by simpa using h)];rfl
def uniq(l:List α):List α:=xM [] l
theorem uniq_app{out l:List α}(h:out.Nodup):uniq (out++l)=xM out l:=by
 unfold uniq;rw[zbF,zbG h]
theorem Qn(l:List α):(uniq l).Nodup:=Z4 List.Pairwise.nil
theorem Xu{l:List α}{x:α}:x∈uniq l ↔ x∈l:=by unfold uniq;rw[qr];simp
theorem addU_len(out:List α)(x:α):(addU out x).length<=out.length+1:=by
 unfold addU;split
 ·
  omega
 ·
  simp
theorem Qo:∀ (l out:List α),(xM out l).length<=out.length+l.length
 | [],out=>by simp[xM]
 |
  x::l,out=>by
  have h1:=Qo l (addU out x);have h2:=addU_len out x;show(xM (addU out x) l).length<=_;rw[List.length_cons];omega
theorem uniq_len(l:List α):(uniq l).length<=l.length:=by
 have:=Qo l [];unfold uniq;simpa using this
theorem jr:∀ {l m:List α},l.Nodup->(∀ x∈l,x∈m)->l.length<=m.length
 | [],_,_,_=>Nat.zero_le _
 |
  x::l,m,hn,hs=>by
  rw[List.nodup_cons] at hn;have hx:=hs x (List.mem_cons_self ..);have h1:=jr (l:=l) (m:=m.erase x) hn.2 λ y hy=>(List.mem_erase_of_ne (by intro e;subst e;exact hn.1 hy)).2 (hs y (List.mem_cons_of_mem _ hy))
  have h2:=List.length_erase_of_mem hx;have h3:=List.length_pos_of_mem hx;rw[List.length_cons];omega
def qY(E:α->List α):Nat->Nat->List α->List α
 | 0,_,out=>out
 |
  m+1,k,out=>match out[k]? with
  | none=>out
  | some x=>qY E m (k+1) (xM out (E x))
inductive Way (E:α->List α) (l:List α):α->Prop
 | here {x}:x∈l->Way E l x
 | step {x y}:Way E l x->y∈E x->Way E l y
omit [DecidableEq α] in
theorem Way.mono{E:α->List α}{l m:List α}(h:∀ x∈l,Way E m x){x:α}(hw:Way E l x):Way E m x:=by
 induction hw with
 | here hx=>exact h _ hx
 | step _ hy ih=>exact .step ih hy
theorem zbH{E:α->List α}{from_:List α}:∀ (m k:Nat) (out:List α),(∀ x∈out,Way E from_ x)->∀ x∈qY E m k out,Way E from_ x
 | 0,_,_,h,x,hx=>h x hx
 |
  m+1,k,out,h,x,hx=>by
  unfold qY at hx;split at hx
  ·
   exact h x hx
  ·
   rename_i y hy;refine zbH m (k+1) _ (λ z hz=>?_) x hx;rcases qr.1 hz with h1 | h1
   ·
    exact h z h1
   ·
    exact .step (h y (List.mem_of_getElem? hy)) h1
theorem WC{E:α->List α}:∀ (m k:Nat) (out:List α),out.Nodup->(qY E m k out).Nodup
 | 0,_,_,h=>h
 |
  m+1,k,out,h=>by
  unfold qY;split
  ·
   exact h
  ·
   exact WC m (k+1) _ (Z4 h)
theorem Qp{E:α->List α}{U:List α}(hE:∀ x∈U,∀ y∈E x,y∈U):∀ (m k:Nat) (out:List α),(∀ x∈out,x∈U)->∀ x∈qY E m k out,x∈U
 | 0,_,_,h,x,hx=>h x hx
 |
  m+1,k,out,h,x,hx=>by
  unfold qY at hx;split at hx
  ·
   exact h x hx
  ·
   rename_i y hy;refine Qp hE m (k+1) _ (λ z hz=>?_) x hx;rcases qr.1 hz with h1 | h1
   ·
    exact h z h1
   ·
    exact hE y (h y (List.mem_of_getElem? hy)) z h1
theorem JV{E:α->List α}{U:List α}(hE:∀ x∈U,∀ y∈E x,y∈U):∀ (m k:Nat) (out:List α),out.Nodup->(∀ x∈out,x∈U)->U.length<=m+k->(∀ j x,j<k->out[j]?=some x->∀ y∈E x,y∈out)->∀ x∈qY E m k out,∀ y∈E x,y∈qY E m k out
 |
  0,k,out,hn,hs,hm,hc,x,hx,y,hy=>by
  have hl:=jr hn hs;obtain⟨j,hj,e⟩:=List.getElem_of_mem (show x∈out from hx);exact hc j x (by omega) (by rw[List.getElem?_eq_getElem hj,e]) y hy
 |
  m+1,k,out,hn,hs,hm,hc,x,hx,y,hy=>by
  have hl:=jr hn hs;unfold qY at hx ⊢;split at hx
  ·
   rename_i hk;rw[List.getElem?_eq_none_iff] at hk;obtain⟨j,hj,e⟩:=List.getElem_of_mem hx;exact hc j x (by omega) (by rw[List.getElem?_eq_getElem hj,e]) y hy
  ·
   rename_i z hz;refine JV hE m (k+1) _ (Z4 hn) (λ w hw=>?_) (by omega) (λ j w hj hw v hv=>?_) x hx y hy
   ·
    rcases qr.1 hw with h1 | h1
    ·
     exact hs w h1
    ·
     exact hE z (hs z (List.mem_of_getElem? hz)) w h1
   ·
    obtain⟨t,ht⟩:=Qm (E z) out;have hkl:k<out.length:=(List.getElem?_eq_some_iff.1 hz).1;rw[ht,List.getElem?_append_left (by omega)] at hw;rcases Nat.lt_succ_iff_lt_or_eq.1 hj with h1 | h1
    ·
     exact qr.2 (.inl (hc j w h1 hw v hv))
    ·
     subst h1;rw[hz] at hw;cases hw;exact qr.2 (.inr hv)
theorem zbI{E:α->List α}:∀ (m k:Nat) (out:List α),∀ x∈out,x∈qY E m k out
 | 0,_,_,_,hx=>hx
 |
  m+1,k,out,x,hx=>by
  unfold qY;split
  ·
   exact hx
  ·
   exact zbI m (k+1) _ x (qr.2 (.inl hx))
theorem reachR_iff{E:α->List α}{U:List α}(hE:∀ x∈U,∀ y∈E x,y∈U){m:Nat}{out:List α}(hn:out.Nodup)(hs:∀ x∈out,x∈U)(hm:U.length<=m){x:α}:x∈qY E m 0 out ↔ Way E out x:=by
 constructor
 ·
  exact λ h=>zbH m 0 out (λ y hy=>.here hy) x h
 ·
  intro h
  induction h with
  | here hx=>exact zbI m 0 out _ hx
  | step _ hy ih=>exact JV hE m 0 out hn hs (by omega) (λ j _ hj=>absurd hj (by omega)) _ ih _ hy
end
theorem loop_grow{α β S:Type}[DecidableEq α]{step:S->Option (S⊕β)}(mk:List α->Nat->S)(E:α->List α)(U:List α)(hE:∀ x∈U,∀ y∈E x,y∈U)(fin:List α->β)
  (h:∀ k out x,out[k]?=some x->out.Nodup->(∀ y∈out,y∈U)->step (mk out k)=some (.inl (mk (xM out (E x)) (k+1))))
  (hend:∀ out,out.Nodup->(∀ y∈out,y∈U)->step (mk out out.length)=some (.inr (fin out)))
  {out:List α} (hn:out.Nodup) (hs:∀ y∈out,y∈U) (hU:U.length<576460752303423488) {s:S} (h0:s=mk out 0):zF step s=some (fin (qY E U.length 0 out)):=by
 subst h0;have key:∀ m k out,out.Nodup->(∀ y∈out,y∈U)->U.length<=m+k->k<=out.length->js step (m+1) (mk out k)=some (fin (qY E m k out)):=by
  intro m
  induction m with
  |
   zero=>
   intro k out hn hs hm hk;have hl:=jr hn hs;have:k=out.length:=by omega
   subst this;exact yQ (hend out hn hs)
  |
   succ m ih=>
   intro k out hn hs hm hk;unfold qY;cases hx:out[k]? with
   |
    none=>
    rw[List.getElem?_eq_none_iff] at hx;have:k=out.length:=by omega
    subst this;exact yQ (hend out hn hs)
   |
    some x=>
    have hkl:k<out.length:=(List.getElem?_eq_some_iff.1 hx).1;rw[qj (h k out x hx hn hs)];refine ih (k+1) _ (Z4 hn) (λ w hw=>?_) (by omega) ?_
    ·
     rcases qr.1 hw with h1 | h1
     ·
      exact hs w h1
     ·
      exact hE x (hs x (List.mem_of_getElem? hx)) w h1
    ·
     obtain⟨t,ht⟩:=Qm (E x) out;rw[ht,List.length_append];omega
 exact jK (key U.length 0 out hn hs (by omega) (Nat.zero_le _)) (by omega)
open Go.RowKit
def upN:Nat->Str->Str
 | 0,p=>p
 | n+1,p=>upN n (zC p)
def Wh(p:Str)(lv:Int)(m:Str):Str:=if cmpI .eql lv 0=true then m else if upN (lv - 1).toNat p=emptyS then emptyS else if m=emptyS then upN (lv - 1).toNat p else child (upN (lv - 1).toNat p) m
def Zg(p:Str)(s:Stmt):Str:=if(cmpI .eql s.kind 0||cmpI .eql s.kind 2)=true then s.module else if cmpI .eql s.kind 1=true then Wh p s.level s.module else emptyS
def xG(p:Str)(b:List Stmt):List Str:=(b.map (Zg p)).filter zg
def YF(n:Str)(s:Spec):Str:=if cmpI .eql s.kind 1=true then zC n else n
def fileOf(t:List File)(k:Int):File:=(t[k.toNat]?).getD default
def zay(t:List File)(n:Str)(s:Spec):List Str:=if cmpI .lss s.file 0=true then[] else uniq (xG (YF n s) (fileOf t s.file).body)
def yv(t:List File)(path:List Int)(n:Str):List Str:=zay t n (find t path n)
def zZ(t:List File)(path:List Int)(n:Str):List Str:=uniq ((yv t path n).flatMap yT)
def JD(f:File):List Str:=(xG f.pkg f.body).flatMap yT
def wi(t:List File)(s:Str):List Str:=yT s++t.flatMap JD
theorem zbJ{α:Type}{p:α->Bool}{l:List α}(h:cmpI .lss (jY p l) 0=false):∃ x,l[(jY p l).toNat]?=some x/\p x=true:=by
 unfold jY at h ⊢;cases e:l.findIdx? p with
 | none=>rw[e] at h;exact absurd h (by decide)
 |
  some i=>
  rw[List.findIdx?_eq_some_iff_getElem] at e;obtain⟨hi,h1,_⟩:=e;exact⟨l[i],by simp only[Int.toNat_natCast];exact List.getElem?_eq_getElem hi,h1⟩
theorem JW{t:List File}{p s:Str}:∀ (rs acc:List Int),cmpI .lss (xv t p s acc rs).file 0=false->∃ f,t[(xv t p s acc rs).file.toNat]?=some f/\(((xv t p s acc rs).kind=2/\f.init=true/\f.pkg=child p s)\/((xv t p s acc rs).kind=1/\f.init=false/\f.pkg=p/\f.name=s))
 |
  [],acc,h=>by
  unfold xv at h;split at h
  ·
   exact absurd (show cmpI .lss (-1:Int) 0=false from h) (by decide)
  ·
   exact absurd (show cmpI .lss (-1:Int) 0=false from h) (by decide)
 |
  r::rs,acc,h=>by
  unfold xv at h ⊢;split at h
  ·
   rename_i hc;rw[if_pos hc];obtain⟨f,h1,h2⟩:=zbJ h;refine⟨f,h1,.inl ⟨rfl,?_⟩⟩;unfold xp at h2;simp only[Bool.and_eq_true,beq_iff_eq,decide_eq_true_eq] at h2;exact⟨h2.1.2,h2.1.1.2⟩
  ·
   rename_i hc;rw[if_neg hc];split at h
   ·
    rename_i hc2;rw[if_pos hc2];obtain⟨f,h1,h2⟩:=zbJ h;refine⟨f,h1,.inr ⟨rfl,?_⟩⟩;unfold xp at h2;simp only[Bool.and_eq_true,beq_iff_eq,decide_eq_true_eq] at h2;exact⟨h2.1.2,h2.1.1.2,h2.2⟩
   ·
    rename_i hc2;rw[if_neg hc2];exact JW rs _ h
theorem parent_child{p s:Str}(hs:zP s=true):zC (child p s)=p:=by
 unfold child;split
 ·
  rename_i h;rw[(Jl (XW hs)).1,h]
 ·
  have h:(⟨(p.l++[46])++s.l⟩:Str).l=p.l++46::s.l:=by simp
  rw[(parent_of h (XW hs)).1]
theorem WD{t:Tree}(hv:zK t=true){path:List Int}{n:Str}(hn:zg n=true)(h:cmpI .lss (find t.files path n).file 0=false):∃ f,t.files[(find t.files path n).file.toNat]?=some f/\f∈t.files/\xx f=n/\YF n (find t.files path n)=f.pkg:=by
 rcases find_last (t:=t.files) (path:=path) hn with e | ⟨r,p,s,e,hc⟩
 ·
  rw[e] at h;exact absurd h (by decide)
 ·
  rw[e] at h ⊢;obtain⟨f,h1,h2⟩:=JW _ _ h;have hm:=List.mem_of_getElem? h1;refine⟨f,h1,hm,?_⟩;unfold xx YF qO;rcases h2 with⟨h3,h4,h5⟩ | ⟨h3,h4,h5,h6⟩
  ·
   rw[h3,h4,h5,hc];exact⟨rfl,rfl⟩
  ·
   have hf:=Xs hv hm;have hp:zP f.name=true:=by
    unfold xC at hf;split at hf
    ·
     cases hf
    ·
     rw[h4,if_neg (by decide),Bool.and_eq_true] at hf;exact hf.1
   have hpn:zC n=p:=by rw[← hc];exact parent_child (by rw[← h6];exact hp)
   rw[h3,h4,h5,h6,if_neg (by decide),hc];exact⟨rfl,hpn⟩
theorem Z5{t:Tree}(hv:zK t=true){f:File}(hf:f∈t.files):xV f.body=true:=by
 have h:=Xs hv hf;unfold xC at h;cases hb:xV f.body with
 | true=>rfl
 | false=>rw[hb,if_pos (by simp)] at h;cases h
theorem XJ{t:List File}{k:Int}{f:File}(h:t[k.toNat]?=some f):fileOf t k=f:=by unfold fileOf;rw[h];rfl
theorem YM{p:Str}{b:List Stmt}{x:Str}(h:x∈xG p b):zg x=true:=(List.mem_filter.1 h).2
theorem Yr(p:Str)(b:List Stmt):(xG p b).length<=b.length:=by
 unfold xG;refine Nat.le_trans (List.length_filter_le _ _) ?_;rw[List.length_map];omega
theorem qH{t:List File}{path:List Int}{n x:Str}(h:x∈yv t path n):zg x=true:=by
 unfold yv zay at h;split at h
 ·
  cases h
 ·
  exact YM (Xu.1 h)
theorem ZE{s:Str}(h:zg s=true):(yT s).length<=3:=by
 have:=(yX h).2;rw[above_len];omega
theorem Xv(l:List Str)(h:∀ x∈l,zg x=true):(l.flatMap yT).length<=3*l.length:=by
 induction l with
 | nil=>simp
 |
  cons x l ih=>
  have h1:=ZE (h x (List.mem_cons_self ..));have h2:=ih λ y hy=>h y (List.mem_cons_of_mem _ hy)
  rw[List.flatMap_cons,List.length_append,List.length_cons];omega
theorem zaz{l:List Str}(h:∀ x∈l,zg x=true){y:Str}(hy:y∈l.flatMap yT):zg y=true:=by
 obtain⟨x,hx,hxy⟩:=List.mem_flatMap.1 hy;exact zaY (h x hx) hxy
theorem YG{t:Tree}(hv:zK t=true){path:List Int}{n:Str}(hn:zg n=true):(yv t.files path n).length<=8:=by
 unfold yv zay;cases hf:cmpI .lss (find t.files path n).file 0 with
 | true=>rw[if_pos rfl];exact Nat.zero_le _
 |
  false=>
  obtain⟨f,h1,h2,_,_⟩:=WD hv hn hf;have hb:=Z5 hv h2;unfold xV at hb;have hl:f.body.length<=8:=by
   rw[Bool.and_eq_true] at hb;have:=hb.2;unfold cmpI at this;simp only[decide_eq_true_eq] at this;omega
  rw[if_neg (by decide),XJ h1];exact Nat.le_trans (uniq_len _) (Nat.le_trans (Yr _ _) hl)
theorem ZL{t:Tree}(hv:zK t=true){path:List Int}{n:Str}(hn:zg n=true):(zZ t.files path n).length<=24:=by
 have h1:=YG hv (path:=path) hn;have h2:=Xv (yv t.files path n) λ _ hy=>qH hy
 exact Nat.le_trans (uniq_len _) (by omega)
theorem Zq{t:List File}{s x:Str}(hs:zg s=true)(h:x∈wi t s):zg x=true:=by
 unfold wi at h;rcases List.mem_append.1 h with h | h
 ·
  exact zaY hs h
 ·
  obtain⟨f,_,hx⟩:=List.mem_flatMap.1 h;exact zaz (λ _ hy=>YM hy) hx
theorem Zr{t:Tree}(hv:zK t=true){path:List Int}{s n x:Str}(hn:zg n=true)(h:x∈zZ t.files path n):x∈wi t.files s:=by
 unfold wi;refine List.mem_append.2 (.inr ?_);have h0:=Xu.1 h;obtain⟨y,hy,hxy⟩:=List.mem_flatMap.1 h0;unfold yv zay at hy;cases hf:cmpI .lss (find t.files path n).file 0 with
 | true=>rw[hf,if_pos rfl] at hy;cases hy
 |
  false=>
  obtain⟨f,h1,h2,_,h4⟩:=WD hv hn hf;rw[hf,if_neg (by decide),XJ h1,h4] at hy;exact List.mem_flatMap.2 ⟨f,h2,List.mem_flatMap.2 ⟨y,Xu.1 hy,hxy⟩⟩
theorem fileLeads_len{f:File}(h:f.body.length<=8):(JD f).length<=24:=by
 have h1:=Xv (xG f.pkg f.body) λ _ hy=>YM hy
 have h2:=Yr f.pkg f.body;unfold JD;omega
theorem Ys{b:List Stmt}(h:xV b=true):b.length<=8:=by
 unfold xV at h;rw[Bool.and_eq_true] at h;have:=h.2;unfold cmpI at this;simp only[decide_eq_true_eq] at this;omega
theorem Jm{t:Tree}(hv:zK t=true){s:Str}(hs:zg s=true):(wi t.files s).length<=300:=by
 have key:∀ (l:List File),(∀ f∈l,f∈t.files)->(l.flatMap JD).length<=24*l.length:=by
  intro l
  induction l with
  | nil=>intro _;simp
  |
   cons f l ih=>
   intro hl;have h1:=fileLeads_len (Ys (Z5 hv (hl f (List.mem_cons_self ..))));have h2:=ih λ g hg=>hl g (List.mem_cons_of_mem _ hg)
   rw[List.flatMap_cons,List.length_append,List.length_cons];omega
 have h1:=key t.files λ _ h=>h
 have h2:=validTree_len hv;have h3:=ZE hs;unfold wi;rw[List.length_append];omega
theorem qk{s:Str}(h:zg s=true):(yT s).Nodup:=by
 have hparts:=(yX h).1;unfold yT qu;refine List.pairwise_map.2 (List.Pairwise.imp_of_mem (λ{a b} ha hb hne e=>hne ?_) List.nodup_range);rw[List.mem_range] at ha hb;have h1:=Yi (l:=(zm s dot).take (a+1)) (by intro e0;have:=congrArg List.length e0;rw[List.length_take,List.length_nil] at this;omega) λ x hx=>hparts x (List.mem_of_mem_take hx)
 have h2:=Yi (l:=(zm s dot).take (b+1)) (by intro e0;have:=congrArg List.length e0;rw[List.length_take,List.length_nil] at this;omega) λ x hx=>hparts x (List.mem_of_mem_take hx)
 rw[e,h2] at h1;have:=congrArg List.length h1;rw[List.length_take,List.length_take] at this;omega
def ZA(t:List File)(path:List Int)(s:Str)(l:List Str):List Str:=qY (zZ t path) (wi t s).length 0 l
theorem Jn{t:Tree}(hv:zK t=true){path:List Int}{s:Str}(hs:zg s=true){l:List Str}(hn:l.Nodup)(hl:∀ x∈l,x∈wi t.files s):(ZA t.files path s l).length<=300:=
 Nat.le_trans (jr (WC _ _ _ hn) (Qp (λ _x hx _y hy=>Zr hv (Zq hs hx) hy) _ _ _ hl)) (Jm hv hs)
open Go.RowKit
def okG(t:Tree)(path:List Int)(s:Str):Bool:=zK t&&xD path&&zg s
theorem yA{t:Tree}{path:List Int}{s:Str}(h:okG t path s=true):zK t=true/\xD path=true/\zg s=true:=by
 unfold okG at h;simp only[Bool.and_eq_true] at h;exact⟨h.1.1,h.1.2,h.2⟩
section
variable{t:Tree}{path:List Int}{s:Str}
theorem Z6(hv:zK t=true)(hs:zg s=true):∀ x∈wi t.files s,∀ y∈zZ t.files path x,y∈wi t.files s:=
 λ _ hx _ hy=>Zr hv (Zq hs hx) hy
theorem jM{l:List File}{x:Str}(h:x∈yT s):x∈wi l s:=List.mem_append.2 (.inl h)
theorem ZM(hv:zK t=true)(hs:zg s=true){l:List Str}(hn:l.Nodup)(hl:∀ x∈l,x∈wi t.files s){x:Str}:x∈ZA t.files path s l ↔ Way (zZ t.files path) l x:=
 reachR_iff (Z6 hv hs) hn hl (Nat.le_refl _)
theorem JX(hv:zK t=true)(hs:zg s=true){l:List Str}(hl:∀ x∈l,x∈wi t.files s){x:Str}(h:x∈ZA t.files path s l):x∈wi t.files s:=
 Qp (Z6 hv hs) _ _ _ hl x h
theorem reachOf_valid(hv:zK t=true)(hs:zg s=true){l:List Str}(hl:∀ x∈l,x∈wi t.files s){x:Str}(h:x∈ZA t.files path s l):zg x=true:=
 Zq hs (JX hv hs hl h)
end
def yt(t:Tree)(path:List Int)(s:Str):List Str:=ZA t.files path s (yT s)
def Yj(t:Tree)(path:List Int)(s n:Str):Bool:=decide (n∈ZA t.files path s (zZ t.files path n))
def Yt(t:Tree)(path:List Int)(n:Str):Bool:=cmpI .eql (find t.files path n).kind 0
def yc(t:Tree)(path:List Int)(s:Str):List Str:=if okG t path s=true then XH (yt t path s) else[]
def jN(t:Tree)(path:List Int)(s:Str):List Str:=(yc t path s).filter (Yt t path)
def qI(t:Tree)(path:List Int)(s:Str):List Str:=(yc t path s).filter (Yj t path s)
section
variable{t:Tree}{path:List Int}{s:Str}
theorem qt(hv:zK t=true)(hs:zg s=true):(yt t path s).length<=300:=Jn hv hs (qk hs) λ _ h=>jM h
theorem reachA_nodup(hs:zg s=true):(yt t path s).Nodup:=WC _ _ _ (qk hs)
theorem wS(hv:zK t=true)(hs:zg s=true){x:Str}(h:x∈yt t path s):zg x=true:=reachOf_valid hv hs (λ _ h=>jM h) h
theorem qZ(h:okG t path s=true){x:Str}:x∈yc t path s ↔ x∈yt t path s:=by
 unfold yc;rw[if_pos h,(WB _).2]
theorem Qq:Asc (yc t path s):=by
 unfold yc;split
 ·
  exact(WB _).1
 ·
  exact List.Pairwise.nil
theorem ZF:(yc t path s).length<=300:=by
 unfold yc;split
 ·
  rename_i h;obtain⟨h1,_,h2⟩:=yA h;exact Nat.le_trans (zaW _) (qt h1 h2)
 ·
  exact Nat.zero_le _
theorem YZ{x:Str}(h:x∈yc t path s):zg x=true/\okG t path s=true:=by
 unfold yc at h;split at h
 ·
  rename_i h0;obtain⟨h1,_,h2⟩:=yA h0;exact⟨wS h1 h2 (((WB _).2 x).1 h),h0⟩
 ·
  cases h
theorem zaA(h:okG t path s=true)(p:Str->Bool):((yt t path s).filter p).foldl xJ []=(yc t path s).filter p:=by
 refine asc_ext (insertAll_asc List.Pairwise.nil) (zbE _ Qq) λ x=>?_
 rw[insertAll_iff,List.mem_filter,List.mem_filter,qZ h];simp
end
open Go.RowKit
open Go.RowKit
theorem any_mem{l:List Str}{x:Str}:l.any (λ y=>decide (y=x))=decide (x∈l):=by
 rw[Bool.eq_iff_iff,List.any_eq_true];simp
theorem any_mem'{l:List Str}{x:Str}:l.any (λ y=>decide (x=y))=decide (x∈l):=by
 rw[Bool.eq_iff_iff,List.any_eq_true];simp
theorem wg{l:List Str}{x:Str}(h:l.length<=1048576):yk l x=some (decide (x∈l)):=by
 unfold yk Yn;have hl:zF (λ s4=>wm l x s4) 0=some (match l.findIdx? (λ y=>decide (y=x)) with | some i=>(Sum.inr (i:Int):Unit⊕Int) | none=>Sum.inl ()):=by
  refine Wf l (λ y=>decide (y=x)) (λ i=>Sum.inr i) _ (λ k y hx hlt=>?_) ?_ (by omega) rfl
  ·
   unfold wm;rw[zz,if_pos (decide_eq_true hlt),zQ,hx,obS,zM (by omega)];cases decide (y=x) <;> rfl
  ·
   unfold wm;rw[zz,if_neg (by simp)]
 have e:Option.bind (α:=Unit⊕Int) (zF (λ s4=>wm l x s4) 0) (Sum.elim (λ _=>some (-1)) some)=some (jY (λ y=>decide (y=x)) l):=by
  rw[hl];unfold jY;cases l.findIdx? (λ y=>decide (y=x)) <;> rfl
 rw[e,obS,Xr,any_mem]
theorem Q3{l:List Str}{x:Str}(h:l.length<=1048576):yg l x=some (decide (x∈l)):=by
 unfold yg xw;have hl:zF (λ s4=>zR l x s4) 0=some (match l.findIdx? (λ y=>decide (x=y)) with | some i=>(Sum.inr (i:Int):Unit⊕Int) | none=>Sum.inl ()):=by
  refine Wf l (λ y=>decide (x=y)) (λ i=>Sum.inr i) _ (λ k y hx hlt=>?_) ?_ (by omega) rfl
  ·
   unfold zR;rw[zz,if_pos (decide_eq_true hlt),zQ,hx,obS,zM (by omega)];cases decide (x=y) <;> rfl
  ·
   unfold zR;rw[zz,if_neg (by simp)]
 have e:Option.bind (α:=Unit⊕Int) (zF (λ s4=>zR l x s4) 0) (Sum.elim (λ _=>some (-1)) some)=some (jY (λ y=>decide (x=y)) l):=by
  rw[hl];unfold jY;cases l.findIdx? (λ y=>decide (x=y)) <;> rfl
 rw[e,obS,Xr,any_mem']
theorem Y3{β γ:Type}{step:List Str×Int->Option ((List Str×Int)⊕β)}(l:List γ)(g:List Str->γ->List Str)(fin:List Str->β)(c B:Nat)
  (hlen:∀ out x,x∈l->(g out x).length<=out.length+c)
  (h:∀ k out x,l[k]?=some x->x∈l->k<l.length->out.length<=B->step (out,(k:Int))=some (.inl (g out x,((k+1:Nat):Int))))
  (hend:∀ out,step (out,(l.length:Int))=some (.inr (fin out))) {out:List Str} (hb:out.length+c*l.length<=B) (hl:l.length<=1048576):zF step (out,(0:Int))=some (fin (l.foldl g out)):=by
 have:=loop_fold (step:=step) l (λ(s:List Str) k=>(s,(k:Int))) g fin (λ k s=>k<=l.length/\s.length<=out.length+c*k) (λ k s x hx hk hI=>?_) (λ s _=>hend s) (s0:=out) ⟨Nat.zero_le _,by omega⟩ (by omega)
 ·
  exact this
 ·
  have hm:=List.mem_of_getElem? hx;have h1:c*k<=c*l.length:=Nat.mul_le_mul_left c (by omega);have h2:=hlen s x hm;refine⟨h k s x hx hm hk (by omega),by omega,?_⟩;rw[Nat.mul_succ];omega
theorem fold_add{γ:Type}(f:γ->List Str):∀ (l:List γ) (out:List Str),l.foldl (λ o x=>xM o (f x)) out=xM out (l.flatMap f)
 | [],_=>rfl
 |
  x::l,out=>by
  rw[List.foldl_cons,List.flatMap_cons,zbF];exact fold_add f l _
theorem fold_app{γ:Type}(f:γ->List Str):∀ (l:List γ) (out:List Str),l.foldl (λ o x=>o++f x) out=out++l.flatMap f
 | [],_=>by simp
 |
  x::l,out=>by
  rw[List.foldl_cons,List.flatMap_cons,fold_app f l];simp
theorem Q4{γ:Type}(p:γ->Bool)(f:List Str->γ->List Str):∀ (l:List γ) (out:List Str),l.foldl (λ o x=>if p x=true then f o x else o) out=(l.filter p).foldl f out
 | [],_=>rfl
 |
  x::l,out=>by
  rw[List.foldl_cons,List.filter_cons];cases h:p x with
  | true=>rw[if_pos rfl,if_pos rfl,List.foldl_cons];exact Q4 p f l _
  | false=>rw[if_neg (by decide),if_neg (by decide)];exact Q4 p f l _
theorem add_loop{step:List Str×Int->Option ((List Str×Int)⊕List Str)}(l:List Str)
  (h:∀ k out x,l[k]?=some x->x∈l->k<l.length->out.length<=1000->step (out,(k:Int))=some (.inl (addU out x,((k+1:Nat):Int))))
  (hend:∀ out,step (out,(l.length:Int))=some (.inr out)) {out:List Str} (hb:out.length+l.length<=1000):zF step (out,(0:Int))=some (xM out l):=
 Y3 l addU (λ o=>o) 1 1000 (λ out x _=>addU_len out x) h hend (by omega) (by omega)
theorem Yu{s:Str}(h:zg s=true):qn s=some (yT s):=if_pos (yH h).mid
theorem Q5{p:Str}(h:zw p=true):mid p:=by have:=yG h;unfold mid;omega
theorem WE:zC emptyS=emptyS:=by
 have:(46:UInt8) ∉ emptyS.l:=by decide
 exact(Jl this).1
theorem WF{p:Str}(h:zw p=true):zw (zC p)=true:=by
 unfold zw at h;rw[Bool.or_eq_true,decide_eq_true_eq] at h;rcases h with h | h
 ·
  rw[h,WE];rfl
 ·
  exact pre_valid h _
theorem zaB:∀ n,upN n emptyS=emptyS
 | 0=>rfl
 |
  n+1=>by
  unfold upN;rw[WE];exact zaB n
theorem upN_pkg:∀ n {p:Str},zw p=true->zw (upN n p)=true
 | 0,_,h=>h
 | n+1,_,h=>upN_pkg n (WF h)
theorem spec_base_eq{p:Str}(hp:zw p=true){n:Nat}(hn:n<=10):YE p ((n:Int)+1)=some (upN n p,decide (upN n p≠(⟨[]⟩:Str))):=by
 have key:∀ (k i:Nat) (q:Str),zw q=true->i+k=n->∃ r,js (λ s4=>wy ((n:Int)+1) s4) (k+1) (q,((i+1:Nat):Int))=some r/\(r=.inl (upN k q)\/(r=.inr ((⟨[]⟩:Str),false)/\upN k q=emptyS)):=by
  intro k
  induction k with
  |
   zero=>
   intro i q hq hi;refine⟨.inl q,yQ ?_,.inl rfl⟩;unfold wy;simp only;rw[show((n:Int)+1)=((n+1:Nat):Int) by omega,zz,if_neg (by simp;omega)]
  |
   succ k ih=>
   intro i q hq hi;have hlt:cmpI .lss ((i+1:Nat):Int) ((n:Int)+1)=true:=by unfold cmpI;exact decide_eq_true (by omega)
   by_cases he:q=(⟨[]⟩:Str)
   ·
    refine⟨.inr ((⟨[]⟩:Str),false),yQ ?_,.inr ⟨rfl,?_⟩⟩
    ·
     unfold wy;simp only;rw[if_pos hlt,if_pos (decide_eq_true he)]
    ·
     rw[he];exact zaB _
   ·
    have hs:wy ((n:Int)+1) (q,((i+1:Nat):Int))=some (.inl (zC q,((i+1+1:Nat):Int))):=by
     unfold wy;simp only;rw[if_pos hlt,if_neg (by simpa using he),show yb q=some (zC q) from if_pos (Q5 hq),obS,zM (by omega)];rfl
    obtain⟨r,h1,h2⟩:=ih (i+1) (zC q) (WF hq) (by omega);exact⟨r,by rw[qj hs];exact h1,h2⟩
 obtain⟨r,h1,h2⟩:=key n 0 p hp (by omega);unfold YE;rw[show(1:Int)=((0+1:Nat):Int) from rfl,jK (by simpa using h1) (by omega)];rcases h2 with rfl | ⟨rfl,h3⟩
 ·
  rfl
 ·
  rw[h3];rfl
theorem Jo{p m:Str}{lv:Int}:Wh p lv m=if lv=0 then m else if upN (lv - 1).toNat p=emptyS then emptyS else if m=emptyS then upN (lv - 1).toNat p else child (upN (lv - 1).toNat p) m:=by
 unfold Wh;by_cases h:lv=0
 ·
  rw[if_pos h,if_pos (by simp[cmpI,h])]
 ·
  rw[if_neg h,if_neg (by simp[cmpI,h])]
theorem zbd{p m:Str}{lv:Int}(hp:zw p=true)(h0:0<=lv)(h1:lv<=4)(hm:sho m):j9 p lv m=some (Wh p lv m):=by
 rw[Jo];unfold j9;by_cases h:lv=0
 ·
  rw[if_pos h,if_pos (by simp[cmpI,h])]
 ·
  rw[if_neg h,if_neg (by simp[cmpI,h])];obtain⟨n,hn⟩:∃ n:Nat,lv=(n:Int)+1:=⟨(lv - 1).toNat,by omega⟩;have hu:=upN_pkg n hp;rw[show(lv - 1).toNat=n by omega,hn,spec_base_eq hp (by omega),obS];by_cases he:upN n p=emptyS
  ·
   rw[if_pos he];simp only[he];rfl
  ·
   rw[if_neg he];have he':decide (upN n p≠(⟨[]⟩:Str))=true:=decide_eq_true he;simp only[he'];rw[if_neg (by decide)];by_cases hm0:m=emptyS
   ·
    rw[if_pos hm0,if_pos (decide_eq_true (show m=(⟨[]⟩:Str) from hm0))]
   ·
    have hlu:=yG hu;unfold sho at hm;rw[if_neg hm0,if_neg (by simpa using(show ¬ m=(⟨[]⟩:Str) from hm0)),show YU (upN n p) m=some (child (upN n p) m) from if_pos (by omega),obS]
theorem YN{st:Stmt}(h:yP st=true):((st.kind=0\/st.kind=2)/\zg st.module=true)\/(st.kind=1/\zw st.module=true/\0<=st.level/\st.level<=3)\/(st.kind≠0/\st.kind≠1/\st.kind≠2):=by
 unfold yP at h;by_cases h0:st.kind=0
 ·
  rw[if_pos (by simp[cmpI,h0])] at h;simp only[Bool.and_eq_true] at h;exact .inl ⟨.inl h0,h.1.1.1⟩
 ·
  rw[if_neg (by simp[cmpI,h0])] at h;by_cases h1:st.kind=1
  ·
   rw[if_pos (by simp[cmpI,h1])] at h;simp only[Bool.and_eq_true,inR] at h;have h2:=h.1.1.1.2;simp[cmpI] at h2;exact .inr (.inl ⟨h1,h.1.1.1.1,by omega,by omega⟩)
  ·
   rw[if_neg (by simp[cmpI,h1])] at h;by_cases h2:st.kind=2
   ·
    rw[if_pos (by simp[cmpI,h2])] at h;simp only[Bool.and_eq_true] at h;exact .inl ⟨.inr h2,h.1.1.1⟩
   ·
    exact .inr (.inr ⟨h0,h1,h2⟩)
theorem child_len(p s:Str):(child p s).l.length<=p.l.length+s.l.length+1:=by
 unfold child;split
 ·
  omega
 ·
  simp only[List.length_append,List.length_singleton];omega
theorem stName_sho{p:Str}{st:Stmt}(hp:zw p=true)(h:yP st=true):sho (Zg p st):=by
 unfold Zg sho;rcases YN h with⟨h1,h2⟩ | ⟨h1,h2,h3,h4⟩ | ⟨h1,h2,h3⟩
 ·
  have:=wV h2;rw[if_pos (by rcases h1 with h1 | h1 <;> simp[cmpI,h1])];omega
 ·
  rw[if_neg (by simp[cmpI,h1]),if_pos (by simp[cmpI,h1]),Jo];have h5:=yG h2;have h6:=yG (upN_pkg (st.level - 1).toNat hp);have h7:=child_len (upN (st.level - 1).toNat p) st.module;split
  ·
   omega
  ·
   split
   ·
    exact Nat.zero_le _
   ·
    split <;> omega
 ·
  rw[if_neg (by simp[cmpI,h1,h3]),if_neg (by simp[cmpI,h2])];exact Nat.zero_le _
section
variable{t:Tree}{path:List Int}
theorem atI_some{α:Type}{l:List α}{k:Int}{x:α}(h0:cmpI .lss k 0=false)(h:l[k.toNat]?=some x):atI l k=some x:=by
 have hk:0<=k:=by
  have:=of_decide_eq_false h0;omega
 unfold atI;rw[if_pos hk];exact h
theorem za0{n:Str}(hn:zg n=true)(s:Spec):zw (YF n s)=true:=by
 have h:zw n=true:=by unfold zw;rw[hn,Bool.or_true]
 unfold YF;split
 ·
  exact WF h
 ·
  exact h
end
open Go.RowKit
theorem full_s1(l out:List Str)(hb:out.length+l.length<=1000):zF (λ s=>j7 l s) (out,(0:Int))=some (xM out l):=by
 refine add_loop l (λ k out x hx _ hk ho=>?_) (λ out=>?_) hb
 ·
  unfold j7 addU;simp only;rw[zz,if_pos (decide_eq_true hk),zQ,hx,obS,wg (by omega),obS,zM (by omega)];by_cases hm:x∈out
  ·
   rw[decide_eq_true hm,if_neg (by decide),if_pos hm];rfl
  ·
   rw[decide_eq_false hm,if_pos (by decide),obS,xd (by simp;omega) (by simp;omega),if_neg hm];rfl
 ·
  unfold j7;simp only;rw[zz,if_neg (by simp)]
theorem reach_s1(l out:List Str)(hb:out.length+l.length<=1000):zF (λ s=>Zy l s) (out,(0:Int))=some (xM out l):=by
 rw[← full_s1 l out hb];rfl
theorem spec_full_eq{l:List Str}(hv:∀ x∈l,zg x=true)(hl:l.length<=100):YD l=some (uniq (l.flatMap yT)):=by
 unfold YD;have h:zF (λ s=>j8 l s) (([]:List Str),(0:Int))=some (uniq (l.flatMap yT)):=by
  rw[show uniq (l.flatMap yT)=l.foldl (λ o x=>xM o (yT x)) [] from(fold_add yT l []).symm];refine Y3 l (λ o x=>xM o (yT x)) (λ o=>o) 3 300 (λ out x hx=>?_) (λ k out x hx hm hk ho=>?_) (λ out=>?_) (by simp;omega) (by omega)
  ·
   have h1:=Qo (yT x) out;have h2:=ZE (hv x hx);omega
  ·
   have h2:=ZE (hv x hm);unfold j8;simp only;rw[zz,if_pos (decide_eq_true hk),zQ,hx,obS,Yu (hv x hm),obS,full_s1 _ _ (by omega),zM (by omega)];rfl
  ·
   unfold j8;simp only;rw[zz,if_neg (by simp)]
 rw[h];rfl
theorem zbe{p:Str}{f:File}(hp:zw p=true)(hb:xV f.body=true):zF (λ s=>wK p f s) (([]:List Str),(0:Int))=some (uniq (xG p f.body)):=by
 have hlen:=Ys hb;have hst:∀ st∈f.body,yP st=true:=by
  unfold xV at hb;rw[Bool.and_eq_true] at hb;exact λ st h=>List.all_eq_true.1 hb.1 st h
 have e:uniq (xG p f.body)=f.body.foldl (λ o st=>if zg (Zg p st)=true then addU o (Zg p st) else o) []:=by
  rw[Q4 (λ st=>zg (Zg p st)) (λ o st=>addU o (Zg p st))];unfold uniq xM xG;rw[List.filter_map,List.foldl_map];rfl
 rw[e];refine Y3 f.body _ (λ o=>o) 1 1000 (λ out st hm=>?_) (λ k out st hx hm hk ho=>?_) (λ out=>?_) (by simp;omega) (by omega)
 ·
  split
  ·
   exact addU_len _ _
  ·
   omega
 ·
  have hs:=hst st hm;have hsho:=stName_sho hp hs;have hname:((atI f.body (k:Int)).bind λ v29=>Option.bind (α:=Bool) (if(cmpI .eql v29.kind (0:Int))=true then(some (cmpI .eql v29.kind (0:Int))) else(some (cmpI .eql v29.kind (2:Int)))) λ o32=>if o32=true then((atI f.body (k:Int)).bind λ v40=>some v40.module) else(if(cmpI .eql v29.kind (1:Int))=true then((atI f.body (k:Int)).bind λ v46=>(atI f.body (k:Int)).bind λ v47=>(j9 p v46.level v47.module).bind λ v48=>some v48) else(some (⟨[]⟩:Str))))=some (Zg p st):=by
   rw[zQ,hx];simp only[obS];unfold Zg;rcases YN hs with⟨h1,h2⟩ | ⟨h1,h2,h3,h4⟩ | ⟨h1,h2,h3⟩
   ·
    rcases h1 with h1 | h1 <;> simp[cmpI,h1]
   ·
    have hm2:sho st.module:=by have:=yG h2;unfold sho;omega
    rw[zbd hp h3 (by omega) hm2];simp[cmpI,h1]
   ·
    simp[cmpI,h1,h2,h3];rfl
  unfold wK;simp only;rw[zz,if_pos (decide_eq_true hk),hname,obS,show yj (Zg p st)=some (zg (Zg p st)) from if_pos hsho.mid,obS,wg (by omega),zM (by omega)];cases zg (Zg p st) with
  | false=>rfl
  |
   true=>
   rw[show((true:Bool) == true)=true from rfl,wF,obS,if_pos rfl];unfold addU;by_cases hmem:Zg p st∈out
   ·
    rw[decide_eq_true hmem,if_neg (by decide),if_pos hmem];rfl
   ·
    rw[decide_eq_false hmem,if_pos (by decide),xd (by simp;omega) (by simp;omega),if_neg hmem];rfl
 ·
  unfold wK;simp only;rw[zz,if_neg (by simp)]
section
variable{t:Tree}{path:List Int}
theorem WR(hv:zK t=true)(hp:path.length<=1048576){n:Str}(hn:zg n=true):qa t path n=some (yv t.files path n):=by
 unfold qa;rw[show ZK t path n=some (find t.files path n) from if_pos ⟨by omega,(yH hn).mid⟩,obS];unfold YV yv zay;cases hf:cmpI .lss (find t.files path n).file 0 with
 | true=>rfl
 |
  false=>
  obtain⟨f,h1,h2,_,h4⟩:=WD hv hn hf;have hpk:=za0 hn (find t.files path n);have hl:=zbe hpk (Z5 hv h2);have hk:(Option.bind (α:=Str) (if(cmpI .eql (find t.files path n).kind (1:Int))=true then((yb n).bind λ v12=>some v12) else(some n)) λ o8=>(atI t.files (find t.files path n).file).bind λ v16=>Option.bind (α:=(List Str)) (zF (λ s21=>wK o8 v16 s21) ([],(0:Int))) λ o19=>some o19)=some (uniq (xG (YF n (find t.files path n)) f.body)):=by
   rw[show(if(cmpI .eql (find t.files path n).kind (1:Int))=true then((yb n).bind λ v12=>some v12) else(some n))=some (YF n (find t.files path n)) by
    unfold YF;cases cmpI .eql (find t.files path n).kind (1:Int) with
    | false=>rfl
    | true=>rw[if_pos rfl,if_pos rfl,show yb n=some (zC n) from if_pos (yH hn).mid];rfl,obS,atI_some hf h1,obS,hl,obS]
  simp only[Bool.false_eq_true,if_false];rw[XJ h1,hk];rfl
theorem XX(hv:zK t=true)(hp:path.length<=1048576){n:Str}(hn:zg n=true):qo t path n=some (zZ t.files path n):=by
 unfold qo;have h1:=YG hv (path:=path) hn;rw[WR hv hp hn,obS,spec_full_eq (λ _ h=>qH h) (by omega),obS];rfl
theorem JY(hv:zK t=true)(hp:path.length<=1048576){s:Str}(hs:zg s=true){l:List Str}(hn:l.Nodup)(hl:∀ x∈l,x∈wi t.files s):wR t path l=some (ZA t.files path s l):=by
 have hw:=Jm hv hs;have hll:=jr hn hl;unfold wR;rw[xd (by simp;omega) (by simp;omega),obS,List.nil_append];have h:zF (λ s10=>jw t path s10) (l,(0:Int))=some (ZA t.files path s l):=by
  refine loop_grow (λ(o:List Str) k=>(o,(k:Int))) (zZ t.files path) (wi t.files s) (Z6 hv hs) (λ o=>o) (λ k out x hx ho hs'=>?_) (λ out ho hs'=>?_) hn hl (by omega) rfl
  ·
   have hxv:=Zq hs (hs' x (List.mem_of_getElem? hx));have hk:=(List.getElem?_eq_some_iff.1 hx).1;have hol:=jr ho hs';have hel:=ZL hv (path:=path) hxv;unfold jw;simp only;rw[zz,if_pos (decide_eq_true hk),zQ,hx,obS,XX hv hp hxv,obS,reach_s1 _ _ (by omega),zM (by omega)];rfl
  ·
   unfold jw;simp only;rw[zz,if_neg (by simp)]
 rw[h];rfl
theorem XK(n:Str):(zZ t.files path n).Nodup:=Qn _
theorem Xw(hv:zK t=true)(hp:path.length<=1048576){s:Str}(hs:zg s=true):wR t path (yT s)=some (yt t path s):=
 JY hv hp hs (qk hs) λ _ h=>jM h
theorem zbK(hv:zK t=true)(hp:path.length<=1048576){s n:Str}(hs:zg s=true)(hn:zg n=true):Zo t path n=some (Yj t path s n):=by
 have hsub:∀ x∈zZ t.files path n,x∈wi t.files s:=λ _ h=>Zr hv hn h
 have hl:=Jn hv hs (path:=path) (XK n) hsub;unfold Zo Yj;rw[XX hv hp hn,obS,JY hv hp hs (XK n) hsub,obS,wg (by omega),obS]
theorem zaC(t:Tree)(path:List Int)(s:Str){α:Type}[Inhabited α]{b:α}{K:Option α}(ht:y6 t)(hn:sho s){r:α}(h0:okG t path s=false->r=b)(h1:okG t path s=true->K=some r):((y9 t).bind λ v2=>(gO ((!v2) == false) (xa path)).bind λ v3=>(gO (((!v2)||(!v3)) == false) (yj s)).bind λ v4=>if(((!v2)||(!v3))||(!v4))=true then(some b) else K)=some r:=by
 rw[show y9 t=some (zK t) from if_pos ht,obS,show xa path=some (xD path) from if_pos trivial,show yj s=some (zg s) from if_pos hn.mid];cases hv:zK t with
 | false=>rw[h0 (by unfold okG;rw[hv];rfl)];rfl
 |
  true=>
  cases hp:xD path with
  | false=>rw[h0 (by unfold okG;rw[hv,hp];rfl)];rfl
  |
   true=>
   cases hs:zg s with
   | false=>rw[h0 (by unfold okG;rw[hv,hp,hs];rfl)];rfl
   | true=>exact h1 (by unfold okG;rw[hv,hp,hs];rfl)
theorem ins_loop{step:List Str×Int->Option ((List Str×Int)⊕List Str)}(l:List Str)(p:Str->Bool)(hl:l.length<=1000)
  (h:∀ k out x,l[k]?=some x->x∈l->k<l.length->out.length<=1000->step (out,(k:Int))=some (.inl (if p x=true then xJ out x else out,((k+1:Nat):Int))))
  (hend:∀ out,step (out,(l.length:Int))=some (.inr out)):zF step (([]:List Str),(0:Int))=some ((l.filter p).foldl xJ []):=by
 rw[← Q4 p xJ l []];refine Y3 l (λ o x=>if p x=true then xJ o x else o) (λ o=>o) 1 1000 (λ out x _=>?_) h hend (by simp;omega) (by omega);show(if p x=true then xJ out x else out).length<=out.length+1;split
 ·
  have:=insertAll_len [x] out;simpa using this
 ·
  omega
theorem Jp{out:List Str}{x:Str}(h:out.length<=1000):xR out x=some (xJ out x):=if_pos (by omega)
variable{s:Str}
theorem Q6(ht:y6 t)(hp:path.length<=1048576)(hn:sho s):qg t path s=some (jN t path s):=by
 unfold qg;refine zaC t path s ht hn (λ h=>by unfold jN yc;rw[h];rfl) λ h=>?_
 obtain⟨hv,_,hs⟩:=yA h;have hlen:=qt hv (path:=path) hs;have hl:zF (λ s20=>wc t path (yt t path s) s20) (([]:List Str),(0:Int))=some (jN t path s):=by
  unfold jN;rw[← zaA h];refine ins_loop (yt t path s) (Yt t path) (by omega) (λ k out x hx hm hk ho=>?_) (λ out=>?_)
  ·
   have hxv:=wS hv hs hm;unfold wc;simp only;rw[zz,if_pos (decide_eq_true hk),zQ,hx,obS,show ZK t path x=some (find t.files path x) from if_pos ⟨by omega,(yH hxv).mid⟩,obS,zM (by omega),show cmpI .eql (find t.files path x).kind 0=Yt t path x from rfl];cases Yt t path x with
   | false=>rfl
   | true=>rw[if_pos rfl,if_pos rfl,obS,Jp ho];rfl
  ·
   unfold wc;simp only;rw[zz,if_neg (by simp)]
 rw[Yu hs,obS,Xw hv hp hs,obS,hl];rfl
theorem zbf(ht:y6 t)(hp:path.length<=1048576)(hn:sho s):qU t path s=some (qI t path s):=by
 unfold qU;refine zaC t path s ht hn (λ h=>by unfold qI yc;rw[h];rfl) λ h=>?_
 obtain⟨hv,_,hs⟩:=yA h;have hlen:=qt hv (path:=path) hs;have hl:zF (λ s20=>wE t path (yt t path s) s20) (([]:List Str),(0:Int))=some (qI t path s):=by
  unfold qI;rw[← zaA h];refine ins_loop (yt t path s) (Yj t path s) (by omega) (λ k out x hx hm hk ho=>?_) (λ out=>?_)
  ·
   have hxv:=wS hv hs hm;unfold wE;simp only;rw[zz,if_pos (decide_eq_true hk),zQ,hx,obS,zbK hv hp hs hxv,obS,zM (by omega)];cases Yj t path s x with
   | false=>rfl
   | true=>rw[if_pos rfl,if_pos rfl,obS,Jp ho];rfl
  ·
   unfold wE;simp only;rw[zz,if_neg (by simp)]
 rw[Yu hs,obS,Xw hv hp hs,obS,hl];rfl
end
open Go.RowKit
theorem Wi{l:List Str}(h:l.length<=1000):wT l=some (uniq l):=by
 unfold wT;have hl:zF (λ s5=>jc l s5) (([]:List Str),(0:Int))=some (uniq l):=by
  refine add_loop l (λ k out x hx _ hk ho=>?_) (λ out=>?_) (by simpa using h)
  ·
   unfold jc addU;simp only;rw[zz,if_pos (decide_eq_true hk),zQ,hx,obS,Q3 (by omega),obS,zM (by omega)];by_cases hm:x∈out
   ·
    rw[decide_eq_true hm,if_neg (by decide),if_pos hm];rfl
   ·
    rw[decide_eq_false hm,if_pos (by decide),xd (by simp;omega) (by simp;omega),if_neg hm];rfl
  ·
   unfold jc;simp only;rw[zz,if_neg (by simp)]
 rw[hl];rfl
def orE(s:Str):Str:=if zg s=true then s else emptyS
theorem ParentOf_any{p:Str}(h:zw p=true):yW p=some (zC p):=by
 unfold zw at h;rw[Bool.or_eq_true,decide_eq_true_eq] at h;rcases h with h | h
 ·
  rw[h,WE];unfold yW;rcases lastByte emptyS 46 (by decide) with⟨pre,post,e1,_,_⟩ | ⟨_,e3⟩
  ·
   have:=congrArg List.length e1;simp[emptyS] at this
  ·
   rw[show zT emptyS (UInt8.ofNat 46)=some (-1) from e3,obS,xT (show sho emptyS from Nat.zero_le _),obS];rfl
 ·
  exact XI h
theorem resolve_loop{p:Str}(hp:zw p=true){n:Nat}(hn:n<=10):zF (λ s17=>yh s17) (p,(n:Int)+1)=some (upN n p):=by
 have key:∀ (k:Nat) (q:Str),k<=10->zw q=true->js (λ s17=>yh s17) (k+1) (q,((k:Int)+1))=some (upN k q):=by
  intro k
  induction k with
  |
   zero=>
   intro q _ hq;refine yQ ?_;unfold yh;rw[if_neg (by simp[cmpI])];rfl
  |
   succ k ih=>
   intro q hk hq;have hgt:cmpI .gtr (((k+1:Nat):Int)+1) 1=true:=by unfold cmpI;exact decide_eq_true (by omega)
   by_cases he:q=(⟨[]⟩:Str)
   ·
    refine yQ ?_;unfold yh;simp only;rw[he,if_neg (by simp),show upN (k+1) (⟨[]⟩:Str)=emptyS from zaB _];rfl
   ·
    have hs:yh (q,(((k+1:Nat):Int)+1))=some (.inl (zC q,((k:Int)+1))):=by
     unfold yh;simp only;rw[hgt,if_pos (by simpa using he),ParentOf_any hq,obS,show(((k+1:Nat):Int)+1 - 1)=((k:Int)+1) by omega,wL (by omega) (by omega)];rfl
    rw[qj hs];exact ih (zC q) (by omega) (WF hq)
 exact jK (key n p hn hp) (by omega)
theorem pkg_sho{p:Str}(h:zw p=true):sho p:=by have:=yG h;unfold sho;omega
theorem zbL{p m:Str}{lv:Int}(hp:zw p=true)(hm:zw m=true)(h0:0<=lv)(h1:lv<=3):jl p lv m=some (orE (Wh p lv m)):=by
 rw[Jo];unfold jl;have hw:yC lv 0 4=some true:=by
  unfold yC cmpI;simp only[ge_iff_le];rw[decide_eq_true h0,decide_eq_true (show lv<=4 by omega)];rfl
 rw[Z3 (pkg_sho hp),obS,Z3 (pkg_sho hm),hw,hp,hm];simp only[Bool.not_true,beq_self_eq_true,wF,obS,Bool.or_self,Bool.false_eq_true,if_false];unfold orE;by_cases h:lv=0
 ·
  rw[if_pos h,if_pos (by simp[cmpI,h])];unfold zw at hm;rw[Bool.or_eq_true,decide_eq_true_eq] at hm;rcases hm with hm | hm
  ·
   rw[hm,wM];rfl
  ·
   rw[if_pos hm]
 ·
  rw[if_neg h,if_neg (by simp[cmpI,h])];obtain⟨n,hn⟩:∃ n:Nat,lv=(n:Int)+1:=⟨(lv - 1).toNat,by omega⟩;have hu:=upN_pkg n hp;have hul:=yG hu;have hml:=yG hm;rw[show(lv - 1).toNat=n by omega,hn,resolve_loop hp (by omega),obS];by_cases he:upN n p=emptyS
  ·
   rw[if_pos he,if_pos (decide_eq_true (show upN n p=(⟨[]⟩:Str) from he)),wM];rfl
  ·
   rw[if_neg he,if_neg (by simpa using(show ¬ upN n p=(⟨[]⟩:Str) from he))];have hend:∀ q:Str,sho q->((zV q).bind λ v44=>if(!v44)=true then(some (⟨[]⟩:Str)) else(some q))=some (if zg q=true then q else emptyS):=λ q hq=>by
    rw[xT hq,obS];cases zg q <;> rfl
   by_cases hm0:m=emptyS
   ·
    rw[if_pos hm0,if_neg (by simpa using(show m=(⟨[]⟩:Str) from hm0)),obS];exact hend _ (pkg_sho hu)
   ·
    rw[if_neg hm0,if_pos (by simpa using(show ¬ m=(⟨[]⟩:Str) from hm0)),Yq (by simp;omega),obS,Yq (by simp;omega),obS,obS];have e:(⟨(upN n p).l++([46]++m.l)⟩:Str)=child (upN n p) m:=by
     unfold child;rw[if_neg he];simp
    simp only[e];refine hend _ ?_;have:=child_len (upN n p) m;unfold sho;omega
theorem packageOf_eq{n:Str}(hn:zg n=true)(s:Spec):xE (⟨n,s.kind,[],false,false,[]⟩:GMod)=some (YF n s):=by
 unfold xE YF;simp only;cases cmpI .eql s.kind 1 with
 | false=>rfl
 | true=>rw[if_pos rfl,if_pos rfl,XI hn];rfl
theorem zbM{p:Str}{b:List Stmt}{k:Nat}{st:Stmt}(hx:b[k]?=some st):xG p (b.take (k+1))=xG p (b.take k)++(if zg (Zg p st)=true then[Zg p st] else[]):=by
 unfold xG;rw[List.take_add_one,hx,Option.toList_some,List.map_append,List.filter_append,List.map_singleton,List.filter_cons,List.filter_nil]
theorem needs_loop{n:Str}(hn:zg n=true){sp:Spec}{f:File}(hb:xV f.body=true):zF (λ s25=>wB n sp f s25) (([]:List Str),(0:Int))=some (xG (YF n sp) f.body):=by
 have hp:=za0 hn sp;have hlen:=Ys hb;have hst:∀ st∈f.body,yP st=true:=by
  unfold xV at hb;rw[Bool.and_eq_true] at hb;exact λ st h=>List.all_eq_true.1 hb.1 st h
 refine Zd (b:=xG (YF n sp) f.body) f.body.length (λ k=>(xG (YF n sp) (f.body.take k),(k:Int))) (λ k hk=>?_) ?_ (by omega) rfl
 ·
  obtain⟨st,hx,hm⟩:=Xt hk;have hs:=hst st hm;have hol:=Yr (YF n sp) (f.body.take k);rw[List.length_take] at hol;unfold wB;simp only;rw[zz,if_pos (decide_eq_true hk),zQ,hx,obS,zM (by omega),zbM hx,packageOf_eq hn];generalize xG (YF n sp) (f.body.take k)=out at hol ⊢;have ha:∀ x:Str,appO 16 out [x]=some (out++[x]):=λ x=>xd (by simp;omega) (by simp;omega)
  unfold Zg;rcases YN hs with⟨h1,h2⟩ | ⟨h1,h2,h3,h4⟩ | ⟨h1,h2,h3⟩
  ·
   rcases h1 with h1 | h1
   ·
    simp[cmpI,h1,h2,ha]
   ·
    simp[cmpI,h1,h2,ha]
  ·
   rw[obS,zbL hp h2 h3 h4,obS];generalize Wh (YF n sp) st.level st.module=q;unfold orE;by_cases hq:zg q=true
   ·
    have hne:q≠emptyS:=by intro e;rw[e,wM] at hq;cases hq
    have hne':¬ q=(⟨[]⟩:Str):=hne;simp[cmpI,h1,hq,hne',ha]
   ·
    have he:decide (emptyS≠(⟨[]⟩:Str))=false:=by decide
    simp[cmpI,h1,hq,he]
  ·
   simp[cmpI,h1,h2,h3,wM]
 ·
  unfold wB;simp only;rw[zz,if_neg (by simp),List.take_length]
section
variable{t:Tree}{path:List Int}
theorem FindSpec_ok(ht:y6 t)(hp:path.length<=1048576){n:Str}(hn:sho n)(h:okG t path n=true):we t path n=some (find t.files path n):=by
 rw[Jk ht hp hn];unfold Jj;rw[if_pos (by unfold okG at h;exact h)]
theorem FindSpec_bad(ht:y6 t)(hp:path.length<=1048576){n:Str}(hn:sho n)(h:okG t path n=false):we t path n=some XP:=by
 rw[Jk ht hp hn];unfold Jj;rw[if_neg (by unfold okG at h;rw[h];decide)]
theorem zbN(ht:y6 t)(hp:path.length<=1048576){n:Str}(hn:sho n):qc t path n=some (if okG t path n=true then yv t.files path n else[]):=by
 unfold qc;cases hok:okG t path n with
 |
  false=>
  rw[FindSpec_bad ht hp hn hok,obS,if_pos (by decide),if_neg (by decide)]
 |
  true=>
  obtain⟨hv,_,hnv⟩:=yA hok;rw[FindSpec_ok ht hp hn hok,obS,if_pos rfl];unfold yv zay;cases hf:cmpI .lss (find t.files path n).file 0 with
  | true=>rfl
  |
   false=>
   obtain⟨f,h1,h2,_,h4⟩:=WD hv hnv hf;have hb:=Z5 hv h2;have hl:=needs_loop hnv (sp:=find t.files path n) hb;have hbl:=Yr (YF n (find t.files path n)) f.body;have hfl:=Ys hb;simp only[Bool.false_eq_true,if_false];rw[atI_some hf h1,obS,hl,obS,Wi (by omega),obS,XJ h1]
def edgesG(t:Tree)(path:List Int)(n:Str):List Str:=if okG t path n=true then zZ t.files path n else[]
theorem XY{s:Str}(h:zg s=true):xj s=some (yT s):=by
 rw[NamesAbove_eq (yH h),if_pos h]
theorem zbO{l:List Str}(hv:∀ x∈l,zg x=true)(hl:l.length<=100):zF (λ s7=>wC l s7) (([]:List Str),(0:Int))=some (l.flatMap yT):=by
 have e:=fold_app yT l [];rw[List.nil_append] at e;rw[← e];refine Y3 l (λ o x=>o++yT x) (λ o=>o) 3 300 (λ out x hx=>?_) (λ k out x hx hm hk ho=>?_) (λ out=>?_) (by simp;omega) (by omega)
 ·
  have h2:=ZE (hv x hx);simp only[List.length_append];omega
 ·
  have h2:=ZE (hv x hm);unfold wC;simp only;rw[zz,if_pos (decide_eq_true hk),zQ,hx,obS,XY (hv x hm),obS,xd (by omega) (by omega),zM (by omega)];rfl
 ·
  unfold wC;simp only;rw[zz,if_neg (by simp)]
theorem EdgesOf_eq(ht:y6 t)(hp:path.length<=1048576){n:Str}(hn:sho n):xq t path n=some (edgesG t path n):=by
 unfold xq edgesG;rw[zbN ht hp hn,obS];cases hok:okG t path n with
 | false=>rw[if_neg (by decide),if_neg (by decide),zbO (λ _ h=>by cases h) (Nat.zero_le _),obS,List.flatMap_nil,Wi (Nat.zero_le _)];rfl
 |
  true=>
  obtain⟨hv,_,hnv⟩:=yA hok;have h1:=YG hv (path:=path) hnv;have h2:=Xv (yv t.files path n) λ _ hy=>qH hy
  rw[if_pos rfl,if_pos rfl,zbO (λ _ h=>qH h) (by omega),obS,Wi (by omega),obS];rfl
theorem okG_name{s n:Str}(h:okG t path s=true)(hn:zg n=true):okG t path n=true:=by
 obtain⟨h1,h2,_⟩:=yA h;unfold okG;rw[h1,h2,hn];rfl
theorem Xx(ht:y6 t)(hp:path.length<=1048576){s n:Str}(h:okG t path s=true)(hn:zg n=true):xq t path n=some (zZ t.files path n):=by
 rw[EdgesOf_eq ht hp (yH hn)];unfold edgesG;rw[if_pos (okG_name h hn)]
theorem reach_eq(_ht:y6 t){s:Str}(h:okG t path s=true){f:Str->Option (List Str)}(hf:∀ x,zg x=true->f x=some (zZ t.files path x)){l:List Str}(hn:l.Nodup)(hl:∀ x∈l,x∈wi t.files s):Zb l f=some (ZA t.files path s l):=by
 obtain⟨hv,_,hs⟩:=yA h;have hw:=Jm hv hs;have hll:=jr hn hl;unfold Zb;rw[Wi (by omega),show uniq l=l from zbG hn,obS];have h:zF (λ s10=>jx f s10) (l,(0:Int))=some (ZA t.files path s l):=by
  refine loop_grow (λ(o:List Str) k=>(o,(k:Int))) (zZ t.files path) (wi t.files s) (Z6 hv hs) (λ o=>o) (λ k out x hx ho hs'=>?_) (λ out ho hs'=>?_) hn hl (by omega) rfl
  ·
   have hxv:=Zq hs (hs' x (List.mem_of_getElem? hx));have hk:=(List.getElem?_eq_some_iff.1 hx).1;have hol:=jr ho hs';have hel:=ZL hv (path:=path) hxv;unfold jx;simp only;rw[zz,if_pos (decide_eq_true hk),zQ,hx,obS,hf x hxv,obS,xd (by omega) (by omega),obS,Wi (by rw[List.length_append];omega),obS,uniq_app ho,zM (by omega)];rfl
  ·
   unfold jx;simp only;rw[zz,if_neg (by simp)]
 rw[h];rfl
theorem zbP(ht:y6 t)(hp:path.length<=1048576){n:Str}(hn:sho n):qb t path n=some (okG t path n):=by
 unfold qb okG;rw[QY ht,obS,QZ hp,xT hn];cases zK t with
 | false=>rfl
 | true=>cases xD path <;> rfl
variable{s:Str}
theorem Xy(ht:y6 t)(hp:path.length<=1048576)(hn:sho s):xt t path s=some (yc t path s):=by
 unfold xt;rw[zbP ht hp hn,obS];cases hok:okG t path s with
 | false=>unfold yc;rw[hok];rfl
 |
  true=>
  obtain⟨hv,_,hs⟩:=yA hok;have hlen:=qt hv (path:=path) hs;rw[if_neg (by decide),XY hs,obS,reach_eq (s:=s) ht hok (λ x hx=>?_) (qk hs) (λ _ h=>jM h),obS,show ZA t.files path s (yT s)=yt t path s from rfl,sorted_eq (Nat.le_trans hlen (by decide)),obS]
  ·
   unfold yc;rw[if_pos hok]
  ·
   unfold qd;rw[Xx ht hp hok hx];rfl
theorem zaD{step:List Str×Int->Option ((List Str×Int)⊕List Str)}(l:List Str)(p:Str->Bool)(hl:l.length<=1000)
  (h:∀ k out x,l[k]?=some x->x∈l->k<l.length->out.length<=1000->step (out,(k:Int))=some (.inl (if p x=true then out++[x] else out,((k+1:Nat):Int))))
  (hend:∀ out,step (out,(l.length:Int))=some (.inr out)):zF step (([]:List Str),(0:Int))=some (l.filter p):=by
 have e:l.filter p=l.foldl (λ o x=>if p x=true then o++[x] else o) []:=by
  rw[Q4 p (λ o x=>o++[x]) l [],fold_app (λ x=>[x])];simp
 rw[e];refine Y3 l (λ o x=>if p x=true then o++[x] else o) (λ o=>o) 1 1000 (λ out x _=>?_) h hend (by simp;omega) (by omega);show(if p x=true then out++[x] else out).length<=out.length+1;split
 ·
  simp
 ·
  omega
theorem MissingOf_eq(ht:y6 t)(hp:path.length<=1048576)(hn:sho s):qf t path s=some (jN t path s):=by
 have hlen:=ZF (t:=t) (path:=path) (s:=s);unfold qf;rw[Xy ht hp hn,obS];have hl:zF (λ s7=>wa t path (yc t path s) s7) (([]:List Str),(0:Int))=some (jN t path s):=by
  refine zaD (yc t path s) (Yt t path) (by omega) (λ k out x hx hm hk ho=>?_) (λ out=>?_)
  ·
   obtain⟨hxv,hok⟩:=YZ hm;unfold wa;simp only;rw[zz,if_pos (decide_eq_true hk),zQ,hx,obS,zbD ht hp (yH hxv),obS,zM (by omega),show(!cmpI .neq (Jj t path x).kind 0)=Yt t path x by
    unfold Jj Yt;rw[if_pos (by have:=okG_name hok hxv;unfold okG at this;exact this)];show(!!((find t.files path x).kind == 0))=_;rw[Bool.not_not];rfl]
   cases Yt t path x with
   | false=>rfl
   | true=>rw[if_pos rfl,if_pos rfl,xd (by simp;omega) (by simp;omega)];rfl
  ·
   unfold wa;simp only;rw[zz,if_neg (by simp)]
 rw[hl];rfl
theorem Qr(ht:y6 t)(hp:path.length<=1048576)(hn:sho s):jp t path s=some (qI t path s):=by
 have hlen:=ZF (t:=t) (path:=path) (s:=s);unfold jp;rw[Xy ht hp hn,obS];have hl:zF (λ s8=>wD t path (yc t path s) s8) (([]:List Str),(0:Int))=some (qI t path s):=by
  refine zaD (yc t path s) (Yj t path s) (by omega) (λ k out x hx hm hk ho=>?_) (λ out=>?_)
  ·
   obtain⟨hxv,hok⟩:=YZ hm;obtain⟨hv,_,hs⟩:=yA hok;have hsub:∀ y∈zZ t.files path x,y∈wi t.files s:=λ _ h=>Zr hv hxv h
   have hrl:=Jn hv hs (path:=path) (XK x) hsub;have hf:∀ y,zg y=true->xb y t path=some (zZ t.files path y):=λ y hy=>by
    unfold xb;rw[Xx ht hp hok hy];rfl
   unfold wD;simp only;rw[zz,if_pos (decide_eq_true hk),zQ,hx,obS,hf x hxv,obS,reach_eq (s:=s) ht hok hf (XK x) hsub,obS,Q3 (by omega),obS,zM (by omega),show decide (x∈ZA t.files path s (zZ t.files path x))=Yj t path s x from rfl];cases Yj t path s x with
   | false=>rfl
   | true=>rw[if_pos rfl,if_pos rfl,xd (by simp;omega) (by simp;omega)];rfl
  ·
   unfold wD;simp only;rw[zz,if_neg (by simp)]
 rw[hl];rfl
end
open Go.RowKit
variable{t:Tree}{path:List Int}{s:Str}
def Yv(t:Tree)(path:List Int)(P:List Str)(n:Str):Bool:=(zZ t.files path n).all (λ k=>decide (k∈P))&&(decide (zC n=emptyS)||decide (zC n∈P))
def XZ(t:Tree)(path:List Int)(P:List Str)(n:Str):Bool:=!decide (n∈P)&&Yv t path P n
def q6(t:Tree)(path:List Int)(s:Str)(P:List Str):List Str:=(yc t path s).filter (XZ t path P)
def layF(t:Tree)(path:List Int)(s:Str):Nat->List Str->List (List Str)->List (List Str)
 | 0,_,_=>[]
 | m+1,P,acc=>if P.length<(yc t path s).length then(if q6 t path s P=[] then[] else layF t path s m (P++q6 t path s P) (acc++[q6 t path s P])) else acc
def wG(t:Tree)(path:List Int)(s:Str):List (List Str):=if okG t path s=true then layF t path s 301 [] [] else[]
structure Lay(t:Tree)(path:List Int)(s:Str)(P:List Str)(acc:List (List Str)):Prop where
 nodup:P.Nodup
 sub:∀ x∈P,x∈yc t path s
 flat:P=acc.flatten
 down:∀ (i:Nat) (n:Str),P[i]?=some n->∀ k∈zZ t.files path n,∃ j,j<i/\P[j]?=some k
 lay:∀ (i:Nat) (L:List Str),acc[i]?=some L->L≠[]/\Asc L/\∀ n∈L,n ∉ (acc.take i).flatten/\Yv t path (acc.take i).flatten n=true
theorem reachL_nodup:(yc t path s).Nodup:=asc_nodup Qq
theorem lay_nil:Lay t path s [] []:=⟨List.Pairwise.nil,(λ _ h=>by cases h),rfl,(λ _ _ h=>by cases h),(λ _ _ h=>by cases h)⟩
theorem Y4{P:List Str}{n:Str}:n∈q6 t path s P ↔ n∈yc t path s/\n ∉ P/\Yv t path P n=true:=by
 unfold q6 XZ;rw[List.mem_filter,Bool.and_eq_true];simp
theorem Q7{P:List Str}{n k:Str}(h:Yv t path P n=true)(hk:k∈zZ t.files path n):k∈P:=by
 unfold Yv at h;rw[Bool.and_eq_true] at h;exact oD (List.all_eq_true.1 h.1 k hk)
theorem Lay.next{P:List Str}{acc:List (List Str)}(h:Lay t path s P acc)(hne:q6 t path s P≠[]):Lay t path s (P++q6 t path s P) (acc++[q6 t path s P]) where
 nodup:=by
  rw[List.nodup_append];exact⟨h.nodup,reachL_nodup.filter _,λ a ha b hb e=>(Y4.1 hb).2.1 (e ▸ ha)⟩
 sub x hx:=(List.mem_append.1 hx).elim (h.sub x) λ hx=>(Y4.1 hx).1
 flat:=by rw[List.flatten_append,← h.flat];simp
 down i n hi k hk:=by
  rcases Nat.lt_or_ge i P.length with hlt | hge
  ·
   rw[List.getElem?_append_left hlt] at hi;obtain⟨j,hj,e⟩:=h.down i n hi k hk;exact⟨j,hj,by rw[List.getElem?_append_left (by omega)];exact e⟩
  ·
   rw[List.getElem?_append_right hge] at hi;obtain⟨j,e⟩:=List.getElem?_of_mem (Q7 (Y4.1 (List.mem_of_getElem? hi)).2.2 hk);have:=zS e;exact⟨j,by omega,by rw[List.getElem?_append_left this];exact e⟩
 lay i L hi:=by
  rcases Nat.lt_or_ge i acc.length with hlt | hge
  ·
   rw[List.getElem?_append_left hlt] at hi;rw[List.take_append_of_le_length (Nat.le_of_lt hlt)];exact h.lay i L hi
  ·
   rw[List.getElem?_append_right hge] at hi;have h0:i - acc.length=0:=by
    have:=zS hi;simp at this;omega
   have hi2:i=acc.length:=by omega
   subst hi2;rw[Nat.sub_self] at hi;injection hi with hi;subst hi;rw[List.take_left,← h.flat];exact⟨hne,zbE _ Qq,λ n hn=>⟨(Y4.1 hn).2.1,(Y4.1 hn).2.2⟩⟩
theorem Qs:∀ (m:Nat) (P:List Str) (acc:List (List Str)),Lay t path s P acc->layF t path s m P acc=[]\/∃ Q,Lay t path s Q (layF t path s m P acc)/\(yc t path s).length<=Q.length:=by
 intro m
 induction m with
 | zero=>intro P acc _;exact .inl rfl
 |
  succ m ih=>
  intro P acc h;unfold layF;split
  ·
   split
   ·
    exact .inl rfl
   ·
    rename_i hne;exact ih _ _ (h.next hne)
  ·
   rename_i hge;exact .inr ⟨P,h,by omega⟩
theorem Lay.all{P:List Str}{acc:List (List Str)}(h:Lay t path s P acc)(hl:(yc t path s).length<=P.length):∀ x∈yc t path s,x∈P:=λ x hx=>by
 refine Classical.byContradiction λ hn=>?_
 have:=jr (l:=x::P) (m:=yc t path s) (List.nodup_cons.2 ⟨hn,h.nodup⟩) λ y hy=>(List.mem_cons.1 hy).elim (λ e=>e ▸ hx) (h.sub y)
 simp at this;omega
theorem Lay.length{P:List Str}{acc:List (List Str)}(h:Lay t path s P acc):P.length<=(yc t path s).length:=jr h.nodup h.sub
theorem Lay.noRing{P:List Str}{acc:List (List Str)}(h:Lay t path s P acc)(hok:okG t path s=true)(hl:(yc t path s).length<=P.length):qI t path s=[]:=by
 obtain⟨hv,_,hs⟩:=yA hok;unfold qI;rw[List.filter_eq_nil_iff];intro n hn hr;obtain⟨i,hi⟩:=List.getElem?_of_mem (h.all hl n hn);have hna:=(qZ hok).1 hn;have hE:∀ x∈zZ t.files path n,x∈wi t.files s:=λ x hx=>Zr hv (wS hv hs hna) hx
 unfold Yj at hr;have hw:=(ZM (path:=path) hv hs (Qn _) hE).1 (oD hr);have key:∀ x,Way (zZ t.files path) (zZ t.files path n) x->∃ j,j<i/\P[j]?=some x:=by
  intro x hx
  induction hx with
  | here hx=>exact h.down i n hi _ hx
  |
   step _ hy ih=>
   obtain⟨j,hj,e⟩:=ih;obtain⟨j2,hj2,e2⟩:=h.down j _ e _ hy;exact⟨j2,by omega,e2⟩
 obtain⟨j,hj,e⟩:=key n hw;obtain⟨a1,a2⟩:=List.getElem?_eq_some_iff.1 e;obtain⟨b1,b2⟩:=List.getElem?_eq_some_iff.1 hi;have:=(List.getElem_inj h.nodup).1 (a2.trans b2.symm);omega
theorem layers_ring(h:qI t path s≠[]):wG t path s=[]:=by
 unfold wG;split
 ·
  rename_i hok;rcases Qs (t:=t) (path:=path) (s:=s) 301 [] [] lay_nil with e | ⟨Q,hQ,hl⟩
  ·
   exact e
  ·
   exact absurd (hQ.noRing hok hl) h
 ·
  rfl
open Go.RowKit
open Go.RowKit
variable{t:Tree}{path:List Int}{s:Str}
theorem layFlat{l:List (List Str)}(h:∀ x∈l,x≠[]):l.length<=l.flatten.length:=by
 induction l with
 | nil=>exact Nat.le_refl _
 |
  cons x l ih=>
  have h1:=ih λ y hy=>h y (List.mem_cons_of_mem _ hy)
  have h2:=List.length_pos_iff.2 (h x (List.mem_cons_self ..));rw[List.flatten_cons,List.length_append,List.length_cons];omega
theorem Lay.ne{P:List Str}{acc:List (List Str)}(h:Lay t path s P acc):∀ x∈acc,x≠[]:=λ x hx=>by
 obtain⟨i,hi⟩:=List.getElem?_of_mem hx;exact(h.lay i x hi).1
theorem Lay.accLen{P:List Str}{acc:List (List Str)}(h:Lay t path s P acc):acc.length<=P.length:=by
 have:=layFlat h.ne;rw[← h.flat] at this;exact this
theorem Lay.small{P:List Str}{acc:List (List Str)}(h:Lay t path s P acc):P.length<=300:=Nat.le_trans h.length ZF
theorem nextL_len(P:List Str):(q6 t path s P).length<=300:=Nat.le_trans (List.length_filter_le _ _) ZF
theorem JZ(h:okG t path s=true):(yt t path s).length=(yc t path s).length:=by
 obtain⟨_,_,hs⟩:=yA h;exact Nat.le_antisymm (jr (reachA_nodup hs) λ x hx=>(qZ h).2 hx) (jr reachL_nodup λ x hx=>(qZ h).1 hx)
theorem lay_iter{S:Type}{step:S->Option (S⊕(List (List Str)⊕List (List Str)))}(mk:List Str->List (List Str)->S)
  (h1:∀ P acc,Lay t path s P acc->P.length<(yc t path s).length->step (mk P acc)=if q6 t path s P=[] then some (.inr (.inr [])) else some (.inl (mk (P++q6 t path s P) (acc++[q6 t path s P]))))
  (h2:∀ P acc,Lay t path s P acc->(yc t path s).length<=P.length->step (mk P acc)=some (.inr (.inl acc))):
  ∀ (m:Nat) (P:List Str) (acc:List (List Str)),Lay t path s P acc->(yc t path s).length<m+P.length->∃ r,js step m (mk P acc)=some r/\Sum.elim (λ b=>some b) some r=some (layF t path s m P acc)
 | 0,P,acc,hL,hm=>by have:=hL.length;omega
 |
  m+1,P,acc,hL,hm=>by
  unfold layF;by_cases hlt:P.length<(yc t path s).length
  ·
   rw[if_pos hlt];have h3:=h1 P acc hL hlt;by_cases hn:q6 t path s P=[]
   ·
    rw[if_pos hn] at h3 ⊢;exact⟨_,yQ h3,rfl⟩
   ·
    rw[if_neg hn] at h3 ⊢;rw[qj h3];refine lay_iter mk h1 h2 m _ _ (hL.next hn) ?_;have:=List.length_pos_iff.2 hn;rw[List.length_append];omega
  ·
   rw[if_neg hlt];exact⟨_,yQ (h2 P acc hL (by omega)),rfl⟩
theorem lay_loop{S:Type}{step:S->Option (S⊕(List (List Str)⊕List (List Str)))}(mk:List Str->List (List Str)->S)(hok:okG t path s=true)
  (h1:∀ P acc,Lay t path s P acc->P.length<(yc t path s).length->step (mk P acc)=if q6 t path s P=[] then some (.inr (.inr [])) else some (.inl (mk (P++q6 t path s P) (acc++[q6 t path s P]))))
  (h2:∀ P acc,Lay t path s P acc->(yc t path s).length<=P.length->step (mk P acc)=some (.inr (.inl acc))):
  Option.bind (zF step (mk [] [])) (Sum.elim (λ b=>some b) some)=some (wG t path s):=by
 have hl:(yc t path s).length<=300:=ZF;obtain⟨r,e1,e2⟩:=lay_iter mk h1 h2 301 [] [] lay_nil (by simp;omega);rw[jK e1 (by decide),obS,e2];unfold wG;rw[if_pos hok]
theorem hasAll_loop{l P:List Str}(hl:l.length<=1000)(hP:P.length<=1000):zF (λ s7=>yK P l s7) (0:Int)=some (if l.all (λ k=>decide (k∈P))=true then .inl () else .inr false):=by
 have:=Z2 (step:=λ s7=>yK P l s7) l (λ k=>!decide (k∈P)) (Sum.inr false:Unit⊕Bool) (.inl ()) (λ k x hx hk=>?_) ?_ (by omega) rfl
 ·
  rw[this]
  congr 1
  rw[← List.not_all_eq_any_not];cases l.all (λ k=>decide (k∈P)) <;> rfl
 ·
  unfold yK;rw[zz,if_pos (decide_eq_true hk),zQ,hx,obS,wg (by omega),obS,zM (by omega)];cases decide (x∈P) <;> rfl
 ·
  unfold yK;rw[zz,if_neg (by simp)]
theorem zbQ(hv:zK t=true)(hp:path.length<=1048576){n:Str}(hn:zg n=true){P:List Str}(hP:P.length<=1000):wn t path n P=some (Yv t path P n):=by
 unfold wn;have hpar:yb n=some (zC n):=if_pos (yH hn).mid;have hlen:=ZL (path:=path) hv hn;rw[XX hv hp hn,obS,hasAll_loop (by omega) hP,obS];unfold Yv;cases(zZ t.files path n).all (λ k=>decide (k∈P)) with
 | false=>rfl
 |
  true=>
  rw[if_pos rfl];show((yb n).bind λ v27=>_)=_;rw[hpar,obS,Bool.true_and];by_cases he:zC n=emptyS
  ·
   have h1:decide (zC n=(⟨[]⟩:Str))=true:=decide_eq_true he;rw[h1];rw[show decide (zC n=emptyS)=true from h1];rfl
  ·
   have h1:decide (zC n=(⟨[]⟩:Str))=false:=decide_eq_false he;rw[h1,show decide (zC n=emptyS)=false from h1];show((some (zC n)).bind λ v28=>(yk P v28).bind λ v29=>some (false||v29))=_;rw[obS,wg (by omega),obS]
theorem spec_layer_eq(hp:path.length<=1048576)(hok:okG t path s=true){P:List Str}{acc:List (List Str)}(hL:Lay t path s P acc):zF (λ s29=>wo t path (yt t path s) (P,acc) s29) (([]:List Str),(0:Int))=some (q6 t path s P):=by
 obtain⟨hv,_,hs⟩:=yA hok;have hP:=hL.small;have hlen:=qt hv (path:=path) hs;unfold q6;rw[← zaA hok];refine ins_loop (yt t path s) (XZ t path P) (by omega) (λ k out x hx hm hk ho=>?_) λ out=>?_
 ·
  have hxv:zg x=true:=wS hv hs hm;unfold wo XZ;simp only;rw[zz,if_pos (decide_eq_true hk),zQ,hx,obS,wg (by omega),obS,zM (by omega)];by_cases hin:x∈P
  ·
   rw[decide_eq_true hin];rfl
  ·
   rw[decide_eq_false hin];show(Option.bind ((some x).bind λ v37=>(wn t path v37 P).bind λ v38=>if(true&&v38)=true then((some x).bind λ v46=>(xR out v46).bind λ v51=>some v51) else some out) λ o34=>_)=_;rw[obS,zbQ hv hp hxv (by omega),obS];cases Yv t path P x with
   | false=>rfl
   |
    true=>
    rw[if_pos (show(true&&true)=true from rfl),obS,Jp ho];rfl
 ·
  unfold wo;simp only;rw[zz,if_neg (by simp)]
theorem zaE(ht:y6 t)(hp:path.length<=1048576)(hn:sho s):jy t path s=some (wG t path s):=by
 unfold jy;refine zaC t path s ht hn (λ h=>by unfold wG;rw[if_neg (by simp[h])]) λ h=>?_
 obtain⟨hv,_,hs⟩:=yA h;rw[Yu hs,obS,Xw hv hp hs,obS];refine lay_loop (step:=λ s20=>wq t path (yt t path s) s20) (λ P acc=>(P,acc)) h (λ P acc hL hlt=>?_) λ P acc hL hge=>?_
 ·
  have hP:=hL.small;have hA:=hL.accLen;have hN:=nextL_len (t:=t) (path:=path) (s:=s) P;unfold wq;simp only;rw[zz,if_pos (decide_eq_true (by rw[JZ h];exact hlt)),spec_layer_eq hp h hL,obS];by_cases hne:q6 t path s P=[]
  ·
   rw[if_pos hne,hne];rfl
  ·
   rw[if_neg hne,if_neg (by
    have:=List.length_pos_iff.2 hne;simp only[cmpI,beq_iff_eq];omega),xd (by omega) (by omega),obS,xd (by simp;omega) (by simp;omega),obS]
 ·
  unfold wq;simp only;rw[zz,if_neg (by rw[JZ h];simpa using hge)]
theorem ready_loop{acc:List (List Str)}{M l:List Str}(b:Bool)(hl:l.length<=1000):zF (λ s63=>yV (acc,M) l s63) (b,(0:Int))=some (b&&l.all (λ k=>decide (k∈M))):=by
 have:=loop_fold (step:=λ s63=>yV (acc,M) l s63) l (λ(b:Bool) k=>(b,(k:Int))) (λ b k=>b&&decide (k∈M)) (λ b=>b) (λ _ _=>True) (λ k b x hx hk _=>?_) (λ b _=>?_) (s0:=b) trivial (by omega)
 ·
  rw[show(b,(0:Int))=(b,((0:Nat):Int)) from rfl,this]
  congr 1
  clear this
  induction l generalizing b with
  | nil=>simp
  | cons x l ih=>rw[List.foldl_cons,ih _ (by simp at hl;omega),List.all_cons,Bool.and_assoc]
 ·
  refine⟨?_,trivial⟩;unfold yV;simp only;rw[zz,if_pos (decide_eq_true hk),zQ,hx,obS,zM (by omega)];rfl
 ·
  unfold yV;simp only;rw[zz,if_neg (by simp)]
theorem lay_put{l M:List Str}(hn:l.Nodup)(hM:∀ x∈l,x ∉ M)(hl:l.length<=1000)(hm:M.length<=1000):zF (λ s103=>ws l s103) (M,(0:Int))=some (l.reverse++M):=by
 refine Zd l.length (λ k=>((l.take k).reverse++M,(k:Int))) (λ k hk=>?_) ?_ (by omega) (by simp)
 ·
  unfold ws;simp only;have hx:=List.getElem?_eq_getElem hk;have hnot:l[k] ∉ (l.take k).reverse++M:=λ h=>by
   rcases List.mem_append.1 h with h | h
   ·
    rw[List.mem_reverse] at h;obtain⟨j,hj⟩:=List.getElem?_of_mem h;rw[List.getElem?_take] at hj;split at hj
    ·
     rename_i hjk;obtain⟨h1,h2⟩:=List.getElem?_eq_some_iff.1 hj;have:=(List.getElem_inj hn).1 h2;omega
    ·
     cases hj
   ·
    exact hM _ (List.getElem_mem hk) h
  rw[zz,if_pos (decide_eq_true hk),zQ,hx,obS];have hput:Yo ((l.take k).reverse++M) l[k]=some (l[k]::((l.take k).reverse++M)):=by
   unfold Yo;rw[if_neg hnot,if_pos (by simp;omega)]
  rw[hput,obS,zM (by omega),List.take_succ_eq_append_getElem hk,List.reverse_append];rfl
 ·
  unfold ws;simp only;rw[zz,if_neg (by simp),List.take_length]
theorem impl_layer_eq(ht:y6 t)(hp:path.length<=1048576)(hok:okG t path s=true){P:List Str}{acc:List (List Str)}(hL:Lay t path s P acc):zF (λ s28=>wr t path (yc t path s) (acc,P.reverse) s28) (([]:List Str),(0:Int))=some (q6 t path s P):=by
 obtain⟨hv,_,hs⟩:=yA hok;have hP:=hL.small;have hlen:=ZF (t:=t) (path:=path) (s:=s);unfold q6;refine zaD (yc t path s) (XZ t path P) (by omega) (λ k out x hx hm hk ho=>?_) λ out=>?_
 ·
  obtain⟨hxv,hok2⟩:=YZ hm;have he:=ZL (path:=path) hv hxv;unfold wr;simp only;rw[zz,if_pos (decide_eq_true hk),zQ,hx,obS,Xx ht hp hok2 hxv,obS,XI hxv,obS,zM (by omega)];have hmem:∀ y:Str,decide (y∈P.reverse)=decide (y∈P):=λ y=>by simp
  have hall:∀ l:List Str,l.all (λ k=>decide (k∈P.reverse))=l.all (λ k=>decide (k∈P)):=λ l=>by simp
  have fin:∀ l:List Str,l.length<=1000->(!decide (x∈P)&&l.all (λ k=>decide (k∈P)))=XZ t path P x->(Option.bind (α:=List Str) (Option.bind (α:=Bool) (zF (λ s63=>yV (acc,P.reverse) l s63) ((!decide (x∈P.reverse)),(0:Int))) λ o61=>if o61=true then((appO 16 out ([x]:List Str)).bind λ v83=>some v83) else(some out)) λ o33=>(some ((k+1:Nat):Int)).bind λ v88=>some (Sum.inl (o33,v88):(List Str×Int)⊕List Str))=some (.inl (if XZ t path P x=true then out++[x] else out,((k+1:Nat):Int))):=λ l hl e=>by
   rw[ready_loop _ hl,obS,hmem,hall,e];cases XZ t path P x with
   | false=>rfl
   | true=>rw[if_pos rfl,if_pos rfl,xd (by simp;omega) (by simp;omega)];rfl
  by_cases hpe:zC x=emptyS
  ·
   rw[if_neg (by simp[show zC x=(⟨[]⟩:Str) from hpe]),obS];refine fin _ (by omega) ?_;unfold XZ Yv;rw[decide_eq_true hpe,Bool.true_or,Bool.and_true]
  ·
   rw[if_pos (decide_eq_true (show zC x≠(⟨[]⟩:Str) from hpe)),xd (by simp;omega) (by simp;omega),obS,obS];refine fin _ (by simp;omega) ?_;unfold XZ Yv;rw[decide_eq_false hpe,Bool.false_or,List.all_append,List.all_cons,List.all_nil,Bool.and_true]
 ·
  unfold wr;simp only;rw[zz,if_neg (by simp)]
theorem LayersOf_eq(ht:y6 t)(hp:path.length<=1048576)(hn:sho s):qx t path s=some (wG t path s):=by
 unfold qx;rw[Xy ht hp hn,obS,Qr ht hp hn,obS];by_cases hr:qI t path s=[]
 ·
  rw[hr,if_neg (by decide)];cases hok:okG t path s with
  |
   false=>
   have e:yc t path s=[]:=by unfold yc;rw[hok];rfl
   have e2:wG t path s=[]:=by unfold wG;rw[hok];rfl
   have e3:xz t path [] ([],[])=some (.inr (.inl [])):=rfl;rw[e,e2,jK (m:=1) (yQ e3) (by decide)];rfl
  |
   true=>
   refine lay_loop (step:=λ s19=>xz t path (yc t path s) s19) (λ P acc=>(acc,P.reverse)) hok (λ P acc hL hlt=>?_) λ P acc hL hge=>?_
   ·
    have hP:=hL.small;have hA:=hL.accLen;have hN:=nextL_len (t:=t) (path:=path) (s:=s) P;unfold xz;simp only;rw[zz,List.length_reverse,if_pos (decide_eq_true hlt),impl_layer_eq ht hp hok hL,obS];by_cases hne:q6 t path s P=[]
    ·
     rw[if_pos hne,hne];rfl
    ·
     rw[if_neg hne,if_neg (by
      have:=List.length_pos_iff.2 hne;simp only[cmpI,beq_iff_eq];omega),lay_put (l:=q6 t path s P) (reachL_nodup.filter _) (λ x hx=>by rw[List.mem_reverse];exact(Y4.1 hx).2.1) (by omega) (by simp;omega),obS,xd (by simp;omega) (by simp;omega),obS,List.reverse_append]
   ·
    unfold xz;simp only;rw[zz,List.length_reverse,if_neg (by simpa using hge)]
 ·
  rw[if_pos (by
   have:=List.length_pos_iff.2 hr;simp only[cmpI,decide_eq_true_eq];omega),layers_ring hr]
theorem layersL_size(t:Tree)(path:List Int)(s:Str):(wG t path s).length<=1000/\∀ l∈wG t path s,l.length<=1000:=by
 unfold wG;split
 ·
  rcases Qs (t:=t) (path:=path) (s:=s) 301 [] [] lay_nil with e | ⟨Q,hQ,_⟩
  ·
   rw[e];exact⟨by simp,λ _ h=>by cases h⟩
  ·
   have h1:=hQ.accLen;have h2:=hQ.small;refine⟨by omega,λ l hl=>?_⟩;have h3:=hQ.flat;have h4:l.length<=(layF t path s 301 [] []).flatten.length:=by
    have:∀ (a:List (List Str)),l∈a->l.length<=a.flatten.length:=λ a=>by
     induction a with
     | nil=>intro h;cases h
     |
      cons x a ih=>
      intro h;rw[List.flatten_cons,List.length_append];rcases List.mem_cons.1 h with rfl | h
      ·
       omega
      ·
       have:=ih h;omega
    exact this _ hl
   rw[← h3] at h4;omega
 ·
  exact⟨by simp,λ _ h=>by cases h⟩
open Go.RowKit
variable{t:Tree}{path:List Int}{s:Str}
theorem Wj(s:Str):1<=(zm s dot).length:=by have:=Xi s dot;omega
theorem Ze{s:Str}(h:zg s=true)(hp:zC s≠emptyS):(zm (zC s) dot).length+1=(zm s dot).length/\zg (zC s)=true:=by
 obtain⟨h1,h2⟩:=yX h;have h0:=Wj s;by_cases e:(zm s dot).length=1
 ·
  exfalso
  apply hp;unfold zC;rw[e];rfl
 ·
  have hne:(zm s dot).take ((zm s dot).length - 1)≠[]:=λ e1=>by
   have:=congrArg List.length e1;rw[List.length_take,List.length_nil] at this;omega
  have hv:∀ x∈(zm s dot).take ((zm s dot).length - 1),zP x=true:=λ x hx=>h1 x (List.mem_of_mem_take hx)
  constructor
  ·
   unfold zC;rw[Yi hne hv,List.length_take];omega
  ·
   exact WA hne (by rw[List.length_take];omega) hv
theorem get_snoc{α:Type}{l:List α}{x y:α}{i:Nat}(h:(l++[x])[i]?=some y):l[i]?=some y\/(i=l.length/\y=x):=by
 by_cases h1:i<l.length
 ·
  rw[List.getElem?_append_left h1] at h;exact .inl h
 ·
  rw[List.getElem?_append_right (by omega)] at h;have h2:i - l.length=0:=by have:=zS h;simp at this;omega
  rw[h2] at h;injection h with h;exact .inr ⟨by omega,h.symm⟩
theorem valid_ne{s:Str}(h:zg s=true):¬ s=(⟨[]⟩:Str):=λ e=>by rw[e,show zg (⟨[]⟩:Str)=false from rfl] at h;cases h
theorem parent_one(hs:zg s=true)(h:zC s=emptyS):zm s dot=[s]:=by
 obtain⟨h1,h2⟩:=yX hs;have h0:=Wj s;have hj:=Yh s;by_cases e:(zm s dot).length=1
 ·
  cases hl:zm s dot with
  | nil=>rw[hl] at e;cases e
  |
   cons x l=>
   rw[hl] at e hj;have:l=[]:=List.eq_nil_of_length_eq_zero (by simpa using e);subst this;rw[← hj];cases x;rfl
 ·
  exfalso
  have hv:=WA (l:=(zm s dot).take ((zm s dot).length - 1)) (λ e1=>by
   have:=congrArg List.length e1;rw[List.length_take,List.length_nil] at this;omega) (by rw[List.length_take];omega) λ x hx=>h1 x (List.mem_of_mem_take hx)
  have h':join ((zm s dot).take ((zm s dot).length - 1))=emptyS:=h;rw[h'] at hv;cases hv
theorem split_up(hs:zg s=true)(h:zC s≠emptyS):zm s dot=zm (zC s) dot++[Xj s]:=by
 obtain⟨h1,_⟩:=yX hs;obtain⟨h2,_⟩:=Ze hs h;have h0:=Wj (zC s);have e:zm (zC s) dot=(zm s dot).take ((zm s dot).length - 1):=by
  unfold zC;exact Yi (λ e1=>by
   have:=congrArg List.length e1;rw[List.length_take,List.length_nil] at this;omega) λ x hx=>h1 x (List.mem_of_mem_take hx)
 rw[e];have hg:=last_get s;have:=List.take_append_getElem (l:=zm s dot) (i:=(zm s dot).length - 1) (by omega);rw[show(zm s dot).length - 1+1=(zm s dot).length by omega,List.take_length] at this;rw[List.getElem?_eq_getElem (by omega)] at hg;injection hg with hg;rw[hg] at this;exact this.symm
theorem above_one(hs:zg s=true)(h:zC s=emptyS):yT s=[s]:=by
 unfold yT;have hj:=Yh s;rw[parent_one hs h] at hj ⊢;show[join [s]]=[s];rw[hj]
theorem above_up(hs:zg s=true)(h:zC s≠emptyS):yT s=yT (zC s)++[s]:=by
 obtain⟨e1,_⟩:=Ze hs h;unfold yT;have hsp:=split_up hs h;rw[show(zm s dot).length=(zm (zC s) dot).length+1 by omega,XN]
 congr 1
 ·
  unfold qu;refine List.map_congr_left λ j hj=>?_
  have:=List.mem_range.1 hj;rw[hsp,List.take_append_of_le_length (by omega)]
 ·
  rw[show(zm (zC s) dot).length+1=(zm s dot).length by omega,List.take_length,Yh]
theorem zaF:∀ (k:Nat) {n:Str},(zm n dot).length=k->zg n=true->(∀ x∈yT n,zC x≠emptyS->zC x∈yT n)/\True:=by
 intro k
 induction k with
 | zero=>intro n hk;have:=Wj n;omega
 |
  succ k ih=>
  intro n hk hn;refine⟨λ x hx hp=>?_,trivial⟩;by_cases h:zC n=emptyS
  ·
   rw[above_one hn h] at hx;simp only[List.mem_singleton] at hx;rw[hx] at hp;exact absurd h hp
  ·
   obtain⟨e1,e2⟩:=Ze hn h;obtain⟨h1,_⟩:=ih (by omega) e2;rw[above_up hn h] at hx ⊢;rcases List.mem_append.1 hx with hx | hx
   ·
    exact List.mem_append_left _ (h1 x hx hp)
   ·
    simp only[List.mem_singleton] at hx;rw[hx];exact List.mem_append_left _ (Ql _)
theorem edge_par{x y:Str}(h:y∈zZ t.files path x)(hp:zC y≠emptyS):zC y∈zZ t.files path x:=by
 unfold zZ at h ⊢;obtain⟨z,hz,hy⟩:=List.mem_flatMap.1 (Xu.1 h);exact Xu.2 (List.mem_flatMap.2 ⟨z,hz,(zaF _ rfl (qH hz)).1 y hy hp⟩)
open Go.RowKit
def Z7(need:Str->List Str):Nat->List Str->Str->Option (List Str)
 | 0,_,_=>none
 | n+1,out,s=>if s∈out then some out else(if zC s=emptyS then some out else Z7 need n out (zC s)).bind λ o=>if s∈o then some o else((need s).foldlM (Z7 need n) o).bind λ o=>some (o++[s])
def ZG(need:Str->List Str):Nat->List Str×List Str->Str->Option (List Str×List Str)
 | 0,_,_=>none
 | n+1,p,s=>if s=emptyS\/s∈p.1 then some p else(ZG need n (s::p.1,p.2) (zC s)).bind λ p=>((need s).foldlM (ZG need n) p).bind λ q=>some (q.1,q.2++[s])
section
variable{need:Str->List Str}{U:Str->Prop}{rk:Str->Nat}
theorem Jq(n:Nat)(out:List Str)(s:Str):Z7 need (n+1) out s=if s∈out then some out else(if zC s=emptyS then some out else Z7 need n out (zC s)).bind λ o=>if s∈o then some o else((need s).foldlM (Z7 need n) o).bind λ o=>some (o++[s]):=rfl
theorem Wk(n:Nat)(p:List Str×List Str)(s:Str):ZG need (n+1) p s=if s=emptyS\/s∈p.1 then some p else(ZG need n (s::p.1,p.2) (zC s)).bind λ p=>((need s).foldlM (ZG need n) p).bind λ q=>some (q.1,q.2++[s]):=rfl
structure Rk(need:Str->List Str)(U:Str->Prop)(rk:Str->Nat):Prop where
 ne:∀ x,U x->x≠emptyS
 up:∀ x,U x->zC x≠emptyS->U (zC x)/\rk (zC x)<rk x
 need:∀ x,U x->∀ y∈need x,U y/\rk y<rk x
structure Ahd(need:Str->List Str)(o:List Str):Prop where
 nodup:o.Nodup
 up:∀ (i:Nat) (x:Str),o[i]?=some x->zC x≠emptyS->∃ j:Nat,j<i/\o[j]?=some (zC x)
 need:∀ (i:Nat) (x:Str),o[i]?=some x->∀ y∈need x,∃ j:Nat,j<i/\o[j]?=some y
theorem ahd_nil:Ahd need []:=⟨List.Pairwise.nil,(λ _ _ h=>by cases h),(λ _ _ h=>by cases h)⟩
theorem Ahd.snoc{o:List Str}{s:Str}(h:Ahd need o)(hs:s ∉ o)(hp:zC s≠emptyS->zC s∈o)(hn:∀ y∈need s,y∈o):Ahd need (o++[s]):=by
 have old:∀ {j i:Nat} {y:Str},j<i->o[j]?=some y->(o++[s])[j]?=some y:=λ _ h=>by rw[List.getElem?_append_left (zS h)];exact h
 have at_:∀ {y:Str},y∈o->∃ j:Nat,j<o.length/\(o++[s])[j]?=some y:=λ hy=>by
  obtain⟨j,hj⟩:=List.getElem?_of_mem hy;exact⟨j,zS hj,old (zS hj) hj⟩
 refine⟨List.nodup_append.2 ⟨h.nodup,by simp,λ a ha b hb e=>?_⟩,λ i x hx hpx=>?_,λ i x hx y hy=>?_⟩
 ·
  rw[List.mem_singleton.1 hb] at e;exact hs (e ▸ ha)
 ·
  rcases get_snoc hx with hx | ⟨hi,hx⟩
  ·
   obtain⟨j,h1,h2⟩:=h.up i x hx hpx;exact⟨j,h1,old h1 h2⟩
  ·
   subst hx;obtain⟨j,h1,h2⟩:=at_ (hp hpx);exact⟨j,by omega,h2⟩
 ·
  rcases get_snoc hx with hx | ⟨hi,hx⟩
  ·
   obtain⟨j,h1,h2⟩:=h.need i x hx y hy;exact⟨j,h1,old h1 h2⟩
  ·
   subst hx;obtain⟨j,h1,h2⟩:=at_ (hn y hy);exact⟨j,by omega,h2⟩
structure Vis(need:Str->List Str)(U:Str->Prop)(rk:Str->Nat)(out:List Str)(m:Nat)(o:List Str):Prop where
 ahd:Ahd need o
 new:∃ l,o=out++l/\∀ x∈l,U x/\rk x<m
theorem Vis.old{out o:List Str}{m:Nat}(h:Vis need U rk out m o){x:Str}(hx:x∈out):x∈o:=let⟨_l,e,_⟩:=h.new;e ▸ List.mem_append_left _ hx
theorem Vis.not{out o:List Str}{m:Nat}(h:Vis need U rk out m o){x:Str}(hx:x ∉ out)(hm:m<=rk x):x ∉ o:=λ hy=>by
 obtain⟨l,rfl,h2⟩:=h.new;rcases List.mem_append.1 hy with hy | hy
 ·
  exact hx hy
 ·
  have:=(h2 x hy).2;omega
theorem Vis.trans{out o o':List Str}{m m':Nat}(h:Vis need U rk out m o)(k:Vis need U rk o m' o')(hm:m<=m'):Vis need U rk out m' o':=by
 obtain⟨l,rfl,h2⟩:=h.new;obtain⟨l',rfl,k2⟩:=k.new;refine⟨k.ahd,l++l',by rw[List.append_assoc],λ x hx=>?_⟩;rcases List.mem_append.1 hx with hx | hx
 ·
  exact⟨(h2 x hx).1,by have:=(h2 x hx).2;omega⟩
 ·
  exact k2 x hx
theorem Jr{out:List Str}{m:Nat}(h:Ahd need out):Vis need U rk out m out:=⟨h,[],by rw[List.append_nil],λ _ h=>by cases h⟩
def Sn(sn out opn:List Str):Prop:=∀ x,x∈sn ↔ x∈out\/x∈opn
def VisOk(need:Str->List Str)(U:Str->Prop)(rk:Str->Nat)(n:Nat):Prop:=∀ (s:Str) (out:List Str),U s->rk s<n->Ahd need out->∃ o,Z7 need n out s=some o/\Vis need U rk out (rk s+1) o/\s∈o/\∀ sn opn,Sn sn out opn->(∀ x∈opn,rk s<rk x)->∃ sn',ZG need (n+1) (sn,out) s=some (sn',o)/\Sn sn' o opn
theorem zbR{n:Nat}(h:VisOk need U rk n){m:Nat}(hm:m<=n):∀ (l out:List Str),(∀ y∈l,U y/\rk y<m)->Ahd need out->∃ o,l.foldlM (Z7 need n) out=some o/\Vis need U rk out m o/\(∀ y∈l,y∈o)/\∀ sn opn,Sn sn out opn->(∀ x∈opn,m<=rk x)->∃ sn',l.foldlM (ZG need (n+1)) (sn,out)=some (sn',o)/\Sn sn' o opn
 | [],out,_,ho=>⟨out,rfl,Jr ho,(λ _ h=>by cases h),λ sn _ hs _=>⟨sn,rfl,hs⟩⟩
 |
  y::l,out,hl,ho=>by
  obtain⟨hy,hyl⟩:=hl y (List.mem_cons_self ..);obtain⟨o1,h1,v1,m1,p1⟩:=h y out hy (by omega) ho;obtain⟨o2,h2,v2,m2,p2⟩:=zbR h hm l o1 (λ z hz=>hl z (List.mem_cons_of_mem _ hz)) v1.ahd;have v1':Vis need U rk out m o1:=v1.trans (Jr v1.ahd) (by omega);refine⟨o2,?_,v1'.trans v2 (Nat.le_refl _),λ z hz=>?_,λ sn opn hs hop=>?_⟩
  ·
   rw[List.foldlM_cons];show(Z7 need n out y).bind _=_;rw[h1,obS];exact h2
  ·
   rcases List.mem_cons.1 hz with rfl | hz
   ·
    exact v2.old m1
   ·
    exact m2 z hz
  ·
   obtain⟨sn1,e1,k1⟩:=p1 sn opn hs λ x hx=>by have:=hop x hx;omega
   obtain⟨sn2,e2,k2⟩:=p2 sn1 opn k1 hop;refine⟨sn2,?_,k2⟩;rw[List.foldlM_cons];show(ZG need (n+1) (sn,out) y).bind _=_;rw[e1,obS];exact e2
theorem visit_ok(k:Rk need U rk):∀ n,VisOk need U rk n
 | 0=>λ _ _ _ h=>by omega
 |
  n+1=>by
  intro s out hs hn ho;have ih:=visit_ok k n;by_cases hin:s∈out
  ·
   refine⟨out,by rw[Jq,if_pos hin],Jr ho,hin,λ sn opn h _=>⟨sn,?_,h⟩⟩;rw[Wk,if_pos (.inr ((h s).2 (.inl hin)))]
  ·
   have hup:∃ o1,(if zC s=emptyS then some out else Z7 need n out (zC s))=some o1/\Vis need U rk out (rk s) o1/\(zC s≠emptyS->zC s∈o1)/\∀ sn opn,Sn sn out opn->(∀ x∈opn,rk s<=rk x)->∃ sn',ZG need (n+1) (sn,out) (zC s)=some (sn',o1)/\Sn sn' o1 opn:=by
    by_cases hp:zC s=emptyS
    ·
     refine⟨out,if_pos hp,Jr ho,λ h=>absurd hp h,λ sn opn h _=>⟨sn,?_,h⟩⟩;rw[Wk,if_pos (.inl hp)]
    ·
     obtain⟨u1,u2⟩:=k.up s hs hp;obtain⟨o1,h1,v1,m1,p1⟩:=ih (zC s) out u1 (by omega) ho;refine⟨o1,by rw[if_neg hp];exact h1,v1.trans (Jr v1.ahd) (by omega),λ _=>m1,λ sn opn h hop=>p1 sn opn h λ x hx=>by have:=hop x hx;omega⟩
   obtain⟨o1,e1,v1,m1,p1⟩:=hup;have n1:s ∉ o1:=v1.not hin (Nat.le_refl _);obtain⟨o2,e2,v2,m2,p2⟩:=zbR ih (m:=rk s) (by omega) (need s) o1 (λ y hy=>k.need s hs y hy) v1.ahd;have n2:s ∉ o2:=v2.not n1 (Nat.le_refl _);have v12:=v1.trans v2 (Nat.le_refl _);refine⟨o2++[s],?_,⟨v2.ahd.snoc n2 (λ hp=>v2.old (m1 hp)) m2,?_⟩,by simp,λ sn opn h hop=>?_⟩
   ·
    rw[Jq,if_neg hin,e1,obS,if_neg n1,e2,obS]
   ·
    obtain⟨l,rfl,hl⟩:=v12.new;refine⟨l++[s],by rw[List.append_assoc],λ x hx=>?_⟩;rcases List.mem_append.1 hx with hx | hx
    ·
     exact⟨(hl x hx).1,by have:=(hl x hx).2;omega⟩
    ·
     rw[List.mem_singleton.1 hx];exact⟨hs,by omega⟩
   ·
    have hns:¬ (s=emptyS\/s∈sn):=by
     rintro (h1 | h1)
     ·
      exact k.ne s hs h1
     ·
      rcases(h s).1 h1 with h1 | h1
      ·
       exact hin h1
      ·
       have:=hop s h1;omega
    have hs1:Sn (s::sn) out (s::opn):=λ x=>by
     rw[List.mem_cons,List.mem_cons,h x];constructor
     ·
      rintro (h | h | h)
      ·
       exact .inr (.inl h)
      ·
       exact .inl h
      ·
       exact .inr (.inr h)
     ·
      rintro (h | h | h)
      ·
       exact .inr (.inl h)
      ·
       exact .inl h
      ·
       exact .inr (.inr h)
    have hop1:∀ x∈s::opn,rk s<=rk x:=λ x hx=>by
     rcases List.mem_cons.1 hx with rfl | hx
     ·
      exact Nat.le_refl _
     ·
      have:=hop x hx;omega
    obtain⟨sn1,f1,k1⟩:=p1 (s::sn) (s::opn) hs1 hop1;obtain⟨sn2,f2,k2⟩:=p2 sn1 (s::opn) k1 hop1;refine⟨sn2,?_,λ x=>?_⟩
    ·
     rw[Wk,if_neg hns,f1,obS,f2,obS]
    ·
     rw[k2 x,List.mem_append,List.mem_cons,List.mem_singleton];constructor
     ·
      rintro (h | h | h)
      ·
       exact .inl (.inl h)
      ·
       exact .inl (.inr h)
      ·
       exact .inr h
     ·
      rintro ((h | h) | h)
      ·
       exact .inl h
      ·
       exact .inr (.inl h)
      ·
       exact .inr (.inr h)
end
section
variable{t:Tree}{path:List Int}{s:Str}
def xL(t:Tree)(path:List Int)(x:Str):List Str:=(if zC x=emptyS then[] else[zC x])++yv t.files path x
theorem Wl{x y:Str}:y∈xL t path x ↔ (zC x≠emptyS/\y=zC x)\/y∈yv t.files path x:=by
 unfold xL;rw[List.mem_append];by_cases h:zC x=emptyS
 ·
  rw[if_pos h];simp[h]
 ·
  rw[if_neg h];simp[h]
theorem Wm{x y:Str}(h:y∈yv t.files path x):y∈zZ t.files path x:=Xu.2 (List.mem_flatMap.2 ⟨y,h,Ql _⟩)
theorem Q8{l:List Str}(hl:∀ y∈l,zC y≠emptyS->zC y∈l){y:Str}(h:Way (zZ t.files path) l y)(hp:zC y≠emptyS):Way (zZ t.files path) l (zC y):=by
 cases h with
 | here h=>exact .here (hl y h hp)
 | step hy h=>exact .step hy (edge_par h hp)
inductive Anc:Str->Str->Prop
 | one {x:Str} (h:zC x≠emptyS):Anc x (zC x)
 | more {x y:Str} (h:Anc x y) (hp:zC y≠emptyS):Anc x (zC y)
theorem Anc.less{x y:Str}(h:Anc x y)(hx:zg x=true):(zm y dot).length<(zm x dot).length/\zg y=true:=by
 induction h with
 | one hp=>obtain⟨e1,e2⟩:=Ze hx hp;exact⟨by omega,e2⟩
 | more h hp ih=>obtain⟨e1,e2⟩:=Ze ih.2 hp;exact⟨by have:=ih.1;omega,e2⟩
theorem Anc.way{l:List Str}(hl:∀ y∈l,zC y≠emptyS->zC y∈l){x y:Str}(h:Anc x y)(hw:Way (zZ t.files path) l x):Way (zZ t.files path) l y:=by
 induction h with
 | one hp=>exact Q8 hl hw hp
 | more h hp ih=>exact Q8 hl ih hp
theorem lead_way{x y:Str}(h:Way (xL t path) (xL t path x) y):Anc x y\/∃ u,(u=x\/Anc x u)/\Way (zZ t.files path) (zZ t.files path u) y:=by
 induction h with
 |
  here h=>
  rcases Wl.1 h with⟨h1,rfl⟩ | h
  ·
   exact .inl (.one h1)
  ·
   exact .inr ⟨x,.inl rfl,.here (Wm h)⟩
 |
  step hy h ih=>
  rcases ih with ih | ⟨u,hu,ih⟩
  ·
   rcases Wl.1 h with⟨h1,rfl⟩ | h
   ·
    exact .inl (.more ih h1)
   ·
    exact .inr ⟨_,.inr ih,.here (Wm h)⟩
  ·
   rcases Wl.1 h with⟨h1,rfl⟩ | h
   ·
    exact .inr ⟨u,hu,Q8 (λ y h hp=>edge_par h hp) ih h1⟩
   ·
    exact .inr ⟨u,hu,.step ih (Wm h)⟩
theorem no_ring{U:Str->Prop}(hU:∀ x,U x->zg x=true/\(zC x≠emptyS->U (zC x)))(hr:∀ u,U u->¬ Way (zZ t.files path) (zZ t.files path u) u){x:Str}(hx:U x):¬ Way (xL t path) (xL t path x) x:=λ h=>by
 rcases lead_way h with h | ⟨u,hu,h⟩
 ·
  have:=(h.less (hU x hx).1).1;omega
 ·
  rcases hu with rfl | hu
  ·
   exact hr u hx h
  ·
   have hUu:U u:=by
    clear h
    induction hu with
    | one hp=>exact(hU _ hx).2 hp
    | more _ hp ih=>exact(hU _ ih).2 hp
   exact hr u hUu (hu.way (λ y h hp=>edge_par h hp) h)
open Classical in
noncomputable def rankOf (t:Tree) (path:List Int) (W:List Str) (x:Str):Nat:=(W.filter λ y=>decide (Way (xL t path) (xL t path x) y)).length
theorem rank_lt{W:List Str}{x y:Str}(hy:y∈xL t path x)(hW:y∈W)(hn:¬ Way (xL t path) (xL t path y) y):rankOf t path W y<rankOf t path W x:=by
 classical
 unfold rankOf;have sub:∀ z,Way (xL t path) (xL t path y) z->Way (xL t path) (xL t path x) z:=λ z h=>h.mono λ w hw=>.step (.here hy) hw
 have h1:∀ l:List Str,(l.filter λ z=>decide (Way (xL t path) (xL t path y) z)).length<=(l.filter λ z=>decide (Way (xL t path) (xL t path x) z)).length:=λ l=>by
  induction l with
  | nil=>exact Nat.le_refl _
  |
   cons a l ih=>
   rw[List.filter_cons,List.filter_cons];by_cases h:Way (xL t path) (xL t path y) a
   ·
    rw[if_pos (by simpa using h),if_pos (by simpa using sub a h)];simpa using ih
   ·
    rw[if_neg (by simpa using h)];split
    ·
     rw[List.length_cons];omega
    ·
     exact ih
 obtain⟨a,b,rfl⟩:=List.append_of_mem hW;rw[List.filter_append,List.filter_append,List.filter_cons,List.filter_cons,if_neg (by simpa using hn),if_pos (by simpa using(Way.here hy:Way (xL t path) _ y)),List.length_append,List.length_append,List.length_cons];have:=h1 a;have:=h1 b;omega
theorem rank_le(W:List Str)(x:Str):rankOf t path W x<=W.length:=by
 classical
 exact List.length_filter_le ..
theorem rk_reach(hv:zK t=true)(hs:zg s=true)(hr:∀ u∈yt t path s,Yj t path s u=false):Rk (yv t.files path) (·∈yt t path s) (rankOf t path (yt t path s)):=by
 have hi:∀ {y:Str},y∈yt t path s ↔ Way (zZ t.files path) (yT s) y:=ZM hv hs (qk hs) λ _ h=>jM h
 have par:∀ x,x∈yt t path s->zC x≠emptyS->zC x∈yt t path s:=λ x hx hp=>hi.2 (Q8 (λ y h hp=>(zaF _ rfl hs).1 y h hp) (hi.1 hx) hp)
 have nd:∀ x,x∈yt t path s->∀ y∈yv t.files path x,y∈yt t path s:=λ x hx y hy=>hi.2 (.step (hi.1 hx) (Wm hy))
 have hring:∀ u,u∈yt t path s->¬ Way (zZ t.files path) (zZ t.files path u) u:=λ u hu h=>by
  have h1:=hr u hu;unfold Yj at h1;rw[decide_eq_false_iff_not] at h1;exact h1 ((ZM hv hs (Qn _) λ y hy=>Z6 hv hs u (JX hv hs (λ _ h=>jM h) hu) y hy).2 h)
 have hno:∀ u,u∈yt t path s->¬ Way (xL t path) (xL t path u) u:=λ u hu=>no_ring (U:=(·∈yt t path s)) (λ x hx=>⟨wS hv hs hx,par x hx⟩) hring hu
 exact⟨λ x hx=>valid_ne (wS hv hs hx),λ x hx hp=>⟨par x hx hp,rank_lt (Wl.2 (.inl ⟨hp,rfl⟩)) (par x hx hp) (hno _ (par x hx hp))⟩,
  λ x hx y hy=>⟨nd x hx y hy,rank_lt (Wl.2 (.inr hy)) (nd x hx y hy) (hno _ (nd x hx y hy))⟩⟩
def yz(t:Tree)(path:List Int)(s:Str):Bool:=okG t path s&&decide (qI t path s=[])&&decide (jN t path s=[])
def wh(t:Tree)(path:List Int)(s:Str):List Str:=if yz t path s=true then(Z7 (yv t.files path) 301 [] s).getD [] else[]
theorem jO(h:yz t path s=true):okG t path s=true/\(∀ u∈yt t path s,Yj t path s u=false)/\∀ u∈yt t path s,Yt t path u=false:=by
 unfold yz at h;simp only[Bool.and_eq_true,decide_eq_true_eq] at h;obtain⟨⟨h1,h2⟩,h3⟩:=h;refine⟨h1,λ u hu=>?_,λ u hu=>?_⟩
 ·
  cases hc:Yj t path s u with
  | false=>rfl
  |
   true=>
   have:u∈qI t path s:=List.mem_filter.2 ⟨(qZ h1).2 hu,hc⟩;rw[h2] at this;cases this
 ·
  cases hc:Yt t path u with
  | false=>rfl
  |
   true=>
   have:u∈jN t path s:=List.mem_filter.2 ⟨(qZ h1).2 hu,hc⟩;rw[h3] at this;cases this
theorem XL(hv:zK t=true)(hs:zg s=true):s∈yt t path s:=(ZM hv hs (qk hs) λ _ h=>jM h).2 (.here (Ql _))
theorem q7(h:yz t path s=true):Z7 (yv t.files path) 301 [] s=some (wh t path s)/\Vis (yv t.files path) (·∈yt t path s) (rankOf t path (yt t path s)) [] (rankOf t path (yt t path s) s+1) (wh t path s)/\s∈wh t path s/\∃ sn,ZG (yv t.files path) 302 ([],[]) s=some (sn,wh t path s)/\∀ x∈sn,x∈wh t path s:=by
 obtain⟨hok,hr,_⟩:=jO h;obtain⟨hv,_,hs⟩:=yA hok;have hlen:=qt (path:=path) hv hs;obtain⟨o,h1,h2,h3,h4⟩:=visit_ok (rk_reach hv hs hr) 301 s [] (XL hv hs) (by have:=rank_le (t:=t) (path:=path) (yt t path s) s;omega) ahd_nil;have e:wh t path s=o:=by unfold wh;rw[if_pos h,h1];rfl
 rw[e];obtain⟨sn,h5,h6⟩:=h4 [] [] (λ x=>by simp) (λ _ h=>by cases h);exact⟨h1,h2,h3,sn,h5,λ x hx=>((h6 x).1 hx).elim id λ h=>by cases h⟩
end
open Go.RowKit
theorem Yk{α σ:Type}{f:σ->α->Option σ}{m:σ->Nat}(hm:∀ s x o,f s x=some o->m s<=m o):∀ (l:List α) (s o:σ),l.foldlM f s=some o->m s<=m o
 | [],s,o,h=>by injection h with h;rw[h];exact Nat.le_refl _
 |
  x::l,s,o,h=>by
  rw[List.foldlM_cons] at h;obtain⟨s1,h1,h2⟩:=bs h;exact Nat.le_trans (hm _ _ _ h1) (Yk hm l s1 o h2)
theorem zbS{S σ α β:Type}{step:S->Option (S⊕β)}(l:List α)(f:σ->α->Option σ)(mk:σ->Nat->S)(fin:σ->β)(m:σ->Nat)(B:Nat)(hm:∀ s x o,f s x=some o->m s<=m o)
  (h:∀ k s x o,l[k]?=some x->k<l.length->f s x=some o->m o<=B->step (mk s k)=some (.inl (mk o (k+1)))) (hend:∀ s,step (mk s l.length)=some (.inr (fin s))) (hl:l.length<576460752303423488) {s o:σ} (he:l.foldlM f s=some o) (hB:m o<=B):zF step (mk s 0)=some (fin o):=by
 have key:∀ j k s,k+j=l.length->(l.drop k).foldlM f s=some o->js step (j+1) (mk s k)=some (fin o):=by
  intro j
  induction j with
  |
   zero=>
   intro k s hk he;have:k=l.length:=by omega
   subst this;rw[List.drop_length] at he;injection he with he;rw[← he];exact yQ (hend s)
  |
   succ j ih=>
   intro k s hk he;have hlt:k<l.length:=by omega
   rw[List.drop_eq_getElem_cons hlt,List.foldlM_cons] at he;obtain⟨s1,h1,h2⟩:=bs he;have hg:=Yk hm _ _ _ h2;rw[qj (h k s l[k] s1 (List.getElem?_eq_getElem hlt) hlt h1 (by omega))];exact ih (k+1) s1 (by omega) h2
 exact jK (key l.length 0 s (by omega) (by rw[List.drop_zero];exact he)) (by omega)
section
variable{need:Str->List Str}
theorem YH:∀ (n:Nat) (out:List Str) (s:Str) (o:List Str),Z7 need n out s=some o->out.length<=o.length
 | 0,_,_,_,h=>by cases h
 |
  n+1,out,s,o,h=>by
  rw[Jq] at h;by_cases hs:s∈out
  ·
   rw[if_pos hs] at h;injection h with h;rw[h];exact Nat.le_refl _
  ·
   rw[if_neg hs] at h;obtain⟨o1,h1,h⟩:=bs h;have g1:out.length<=o1.length:=by
    by_cases hp:zC s=emptyS
    ·
     rw[if_pos hp] at h1;injection h1 with h1;rw[h1];exact Nat.le_refl _
    ·
     rw[if_neg hp] at h1;exact YH n _ _ _ h1
   by_cases hs1:s∈o1
   ·
    rw[if_pos hs1] at h;injection h with h;rw[← h];exact g1
   ·
    rw[if_neg hs1] at h;obtain⟨o2,h2,h⟩:=bs h;have g2:=Yk (m:=List.length) (YH n) _ _ _ h2;injection h with h;rw[← h,List.length_append];omega
def psz(p:List Str×List Str):Nat:=p.1.length+p.2.length
theorem ZN:∀ (n:Nat) (p:List Str×List Str) (s:Str) (o:List Str×List Str),ZG need n p s=some o->psz p<=psz o
 | 0,_,_,_,h=>by cases h
 |
  n+1,p,s,o,h=>by
  rw[Wk] at h;by_cases hs:s=emptyS\/s∈p.1
  ·
   rw[if_pos hs] at h;injection h with h;rw[h];exact Nat.le_refl _
  ·
   rw[if_neg hs] at h;obtain⟨o1,h1,h⟩:=bs h;obtain⟨o2,h2,h⟩:=bs h;have g1:=ZN n _ _ _ h1;have g2:=Yk (m:=psz) (ZN n) _ _ _ h2;injection h with h;rw[← h];unfold psz at*;simp only[List.length_cons,List.length_append] at*;omega
theorem WG:∀ (n:Nat) (p:List Str×List Str) (s:Str) (o:List Str×List Str),p.1.Nodup->ZG need n p s=some o->o.1.Nodup
 | 0,_,_,_,_,h=>by cases h
 |
  n+1,p,s,o,hn,h=>by
  rw[Wk] at h;by_cases hs:s=emptyS\/s∈p.1
  ·
   rw[if_pos hs] at h;injection h with h;rw[← h];exact hn
  ·
   rw[if_neg hs] at h;obtain⟨o1,h1,h⟩:=bs h;obtain⟨o2,h2,h⟩:=bs h;have n1:=WG n (s::p.1,p.2) _ _ (List.nodup_cons.2 ⟨λ h=>hs (.inr h),hn⟩) h1;have key:∀ (l:List Str) (q r:List Str×List Str),q.1.Nodup->l.foldlM (ZG need n) q=some r->r.1.Nodup:=λ l=>by
    induction l with
    | nil=>intro q r hq hr;injection hr with hr;rw[← hr];exact hq
    |
     cons x l ih=>
     intro q r hq hr;rw[List.foldlM_cons] at hr;obtain⟨q1,k1,k2⟩:=bs hr;exact ih q1 r (WG n _ _ _ hq k1) k2
   injection h with h;rw[← h];show o2.1.Nodup;exact key _ _ _ n1 h2
end
structure Cl(t:Tree)(path:List Int)(U:Str->Prop):Prop where
 valid:∀ x,U x->zg x=true
 up:∀ x,U x->zC x≠emptyS->U (zC x)
 need:∀ x,U x->∀ y∈yv t.files path x,U y
section
variable{t:Tree}{path:List Int}{s:Str}{U:Str->Prop}
theorem WH(hv:zK t=true)(hp:path.length<=1048576)(hU:Cl t path U):∀ (n:Nat) (s:Str) (out o:List Str),U s->Z7 (yv t.files path) n out s=some o->o.length<=1000->jH n t path s out=some o
 | 0,_,_,_,_,h,_=>by cases h
 |
  n+1,s,out,o,hs,h,ho=>by
  have g0:=YH _ _ _ _ h;have hpar:yb s=some (zC s):=if_pos (yH (hU.valid s hs)).mid;rw[Jq] at h;show ZZ (jH n) t path s out=some o;unfold ZZ;rw[wg (by omega),obS];by_cases h1:s∈out
  ·
   rw[if_pos h1] at h;rw[decide_eq_true h1,if_pos rfl,h]
  ·
   rw[if_neg h1] at h;obtain⟨o1,e1,h⟩:=bs h;rw[decide_eq_false h1,if_neg (by decide)];have g1:o1.length<=o.length:=by
    by_cases h2:s∈o1
    ·
     rw[if_pos h2] at h;injection h with h;rw[h];exact Nat.le_refl _
    ·
     rw[if_neg h2] at h;obtain⟨o2,e2,h⟩:=bs h;have:=Yk (m:=List.length) (YH n) _ _ _ e2;injection h with h;rw[← h,List.length_append];omega
   have e1':((yb s).bind λ v9=>if(decide (v9≠(⟨[]⟩:Str)))=true then((yb s).bind λ v14=>(jH n t path v14 out).bind λ v15=>some v15) else(some out))=some o1:=by
    rw[hpar,obS,obS];by_cases he:zC s=emptyS
    ·
     rw[if_pos he] at e1;rw[if_neg (by simp[show zC s=(⟨[]⟩:Str) from he])];exact e1
    ·
     rw[if_neg he] at e1;rw[if_pos (decide_eq_true (show zC s≠(⟨[]⟩:Str) from he)),WH hv hp hU n _ _ _ (hU.up s hs he) e1 (by omega),obS]
   rw[e1',obS,wg (by omega),obS];by_cases h2:s∈o1
   ·
    rw[if_pos h2] at h;rw[decide_eq_true h2,if_pos rfl,h]
   ·
    rw[if_neg h2] at h;obtain⟨o2,e2,h⟩:=bs h;injection h with h;subst h;rw[List.length_append] at ho;rw[decide_eq_false h2,if_neg (by decide),WR hv hp (hU.valid s hs),obS];have hn8:=YG (path:=path) hv (hU.valid s hs);have hl:zF (λ s31=>jz (jH n) t path (yv t.files path s) s31) (o1,(0:Int))=some o2:=by
     refine zbS (yv t.files path s) (Z7 (yv t.files path) n) (λ o k=>(o,(k:Int))) (λ o=>o) List.length 1000 (YH n) (λ k s' x o' hx hk hf hB=>?_) (λ s'=>?_) (by omega) e2 (by omega)
     ·
      unfold jz;simp only;rw[zz,if_pos (decide_eq_true hk),zQ,hx,obS,WH hv hp hU n x s' o' (hU.need s hs x (List.mem_of_getElem? hx)) hf hB,obS,zM (by omega)];rfl
     ·
      unfold jz;simp only;rw[zz,if_neg (by simp)]
    rw[hl,obS,xd (by simp;omega) (by simp;omega),obS,List.nil_append,xd (by simp;omega) (by simp;omega),obS]
theorem visit_eq(ht:y6 t)(hok:okG t path s=true)(hp:path.length<=1048576)(hU:Cl t path U):∀ (n:Nat) (s:Str) (p o:List Str×List Str),(s=emptyS\/U s)->ZG (yv t.files path) n p s=some o->psz o<=2000->Wy t path n s p=some o
 | 0,_,_,_,_,h,_=>by cases h
 |
  n+1,s,p,o,hs,h,ho=>by
  have g0:=ZN _ _ _ _ h;rw[Wk] at h;show wO (Wy t path n) s p.1 t path p.2=some o;unfold wO;have hc:(decide (s=(⟨[]⟩:Str))||decide (s∈p.1))=decide (s=emptyS\/s∈p.1):=by
   by_cases h1:s=emptyS <;> by_cases h2:s∈p.1 <;> simp[h1,h2,show((⟨[]⟩:Str))=emptyS from rfl]
  rw[hc];by_cases h1:s=emptyS\/s∈p.1
  ·
   rw[if_pos h1] at h;rw[decide_eq_true h1,if_pos rfl];exact h
  ·
   rw[if_neg h1] at h;obtain⟨o1,e1,h⟩:=bs h;obtain⟨o2,e2,h⟩:=bs h;injection h with h;subst h;have hs':U s:=hs.elim (λ e=>absurd (.inl e) h1) id;have hsv:=hU.valid s hs';obtain⟨hv,_,_⟩:=yA hok;have g2:=Yk (m:=psz) (ZN n) _ _ _ e2;have g1:=ZN n _ _ _ e1;unfold psz at ho g0 g1 g2;simp only[List.length_append,List.length_cons,List.length_nil] at ho g0 g1 g2;have hput:Yo p.1 s=some (s::p.1):=by
    unfold Yo;rw[if_neg (λ h=>h1 (.inr h)),if_pos (by omega)]
   have hn8:=YG (path:=path) hv hsv;have hpar:zC s=emptyS\/U (zC s):=by
    by_cases he:zC s=emptyS
    ·
     exact .inl he
    ·
     exact .inr (hU.up s hs' he)
   rw[decide_eq_false h1,if_neg (by decide),hput,obS,XI hsv,obS,visit_eq ht hok hp hU n _ _ _ hpar e1 (by unfold psz;omega),obS,zbN ht hp (yH hsv),if_pos (okG_name hok hsv),obS];have hl:zF (λ s18=>xc (Wy t path n) (yv t.files path s) s18) (o1.2,(0:Int),o1.1)=some (o2.2,o2.1):=by
    refine zbS (yv t.files path s) (ZG (yv t.files path) n) (λ q k=>(q.2,(k:Int),q.1)) (λ q=>(q.2,q.1)) psz 2000 (ZN n) (λ k s' x o' hx hk hf hB=>?_) (λ s'=>?_) (by omega) e2 (by unfold psz;omega)
    ·
     unfold xc;simp only;rw[zz,if_pos (decide_eq_true hk),zQ,hx,obS,visit_eq ht hok hp hU n x s' o' (.inr (hU.need s hs' x (List.mem_of_getElem? hx))) hf hB,obS,zM (by omega)];rfl
    ·
     unfold xc;simp only;rw[zz,if_neg (by simp)]
   rw[hl,obS,xd (by simp;omega) (by simp;omega),obS]
theorem cl_reach(hv:zK t=true)(hs:zg s=true):Cl t path (·∈yt t path s):=by
 have hi:∀ {y:Str},y∈yt t path s ↔ Way (zZ t.files path) (yT s) y:=ZM hv hs (qk hs) λ _ h=>jM h
 exact⟨λ x hx=>wS hv hs hx,λ x hx hp=>hi.2 (Q8 (λ y h hp=>(zaF _ rfl hs).1 y h hp) (hi.1 hx) hp),λ x hx y hy=>hi.2 (.step (hi.1 hx) (Wm hy))⟩
theorem JE(h:yz t path s=true):∀ x∈wh t path s,x∈yt t path s:=λ x hx=>by
 obtain⟨_,⟨_,l,e,hl⟩,_⟩:=q7 h;rw[e] at hx;rw[List.nil_append] at hx;exact(hl x hx).1
theorem plain_nodup(h:yz t path s=true):(wh t path s).Nodup:=(q7 h).2.1.ahd.nodup
theorem XM(t:Tree)(path:List Int)(s:Str):(wh t path s).length<=1000:=by
 cases h:yz t path s with
 | false=>unfold wh;rw[if_neg (by simp[h])];simp
 |
  true=>
  obtain⟨hok,_,_⟩:=jO h;obtain⟨hv,_,hs⟩:=yA hok;have h1:=jr (plain_nodup h) (JE h);have h2:=qt hv (path:=path) hs;omega
def Js(t:Tree)(path:List Int)(s:Str):List Str×Bool:=(wh t path s,yz t path s)
theorem Wn(h:yz t path s=false):Js t path s=([],false):=by
 unfold Js wh;rw[h];rfl
theorem gt_nil(l:List Str):cmpI .gtr (l.length:Int) (0:Int)=!decide (l=[]):=by
 cases l with
 | nil=>rfl
 |
  cons x l=>
  have:cmpI .gtr ((x::l).length:Int) (0:Int)=true:=by simp only[cmpI,decide_eq_true_eq,List.length_cons];omega
  rw[this];rfl
theorem zaG(hp:path.length<=1048576)(h:yz t path s=true):jH 301 t path s []=some (wh t path s):=by
 obtain⟨hok,_,_⟩:=jO h;obtain⟨hv,_,hs⟩:=yA hok;exact WH hv hp (cl_reach hv hs) 301 s [] _ (XL hv hs) (q7 h).1 (XM ..)
theorem zaH(ht:y6 t)(hp:path.length<=1048576)(h:yz t path s=true):∃ sn,Wy t path 302 s ([],[])=some (sn,wh t path s):=by
 obtain⟨hok,_,_⟩:=jO h;obtain⟨hv,_,hs⟩:=yA hok;obtain⟨h1,h2,h3,sn,h4,h5⟩:=q7 h;have hn:sn.Nodup:=WG 302 ([],[]) s (sn,wh t path s) List.Pairwise.nil h4;have hlen:=qt hv (path:=path) hs;have hsub:∀ x∈sn,x∈yt t path s:=λ x hx=>JE h x (h5 x hx)
 have hl:sn.length<=(yt t path s).length:=jr hn hsub;have hl2:=XM t path s;exact⟨sn,visit_eq ht hok hp (cl_reach hv hs) 302 s _ _ (.inr (XL hv hs)) h4 (by unfold psz;simp only;omega)⟩
theorem PlainOrder_eq(ht:y6 t)(hp:path.length<=1048576)(hn:sho s):jG t path s=some (Js t path s):=by
 unfold jG;rw[zbP ht hp hn,obS,Qr ht hp hn,MissingOf_eq ht hp hn,xS,obS,xS,obS];cases hok:okG t path s with
 |
  false=>
  have e:yz t path s=false:=by unfold yz;rw[hok];rfl
  rw[Wn e];rfl
 |
  true=>
  show(if((false||cmpI .gtr ((qI t path s).length:Int) 0)||cmpI .gtr (((if((false||cmpI .gtr ((qI t path s).length:Int) 0) == false)=true then jN t path s else default):List Str).length:Int) 0)=true then _ else _)=_;rw[gt_nil];by_cases hr:qI t path s=[]
  ·
   rw[decide_eq_true hr];show(if((false||!true)||cmpI .gtr ((jN t path s).length:Int) 0)=true then _ else _)=_;rw[gt_nil];by_cases hm:jN t path s=[]
   ·
    have e:yz t path s=true:=by unfold yz;rw[hok,decide_eq_true hr,decide_eq_true hm];rfl
    obtain⟨sn,h1⟩:=zaH ht hp e;rw[decide_eq_true hm,if_neg (by decide),h1,obS];unfold Js;rw[e]
   ·
    have e:yz t path s=false:=by unfold yz;rw[decide_eq_false hm,Bool.and_false]
    rw[decide_eq_false hm,Wn e];rfl
  ·
   have e:yz t path s=false:=by unfold yz;rw[decide_eq_false hr,Bool.and_false,Bool.false_and]
   rw[decide_eq_false hr,Wn e];rfl
theorem Qt(ht:y6 t)(hp:path.length<=1048576)(hn:sho s):jI t path s=some (Js t path s):=by
 unfold jI;rw[show y9 t=some (zK t) from if_pos ht,obS,show xa path=some (xD path) from if_pos trivial,xS,obS,show yj s=some (zg s) from if_pos hn.mid,xS,obS,zbf ht hp hn,xS,obS,Q6 ht hp hn,xS,obS];have no:okG t path s=false->Js t path s=([],false):=λ h=>Wn (by unfold yz;rw[h];rfl)
 cases hv:zK t with
 | false=>rw[no (by unfold okG;rw[hv];rfl)];rfl
 |
  true=>
  cases hpp:xD path with
  | false=>rw[no (by unfold okG;rw[hv,hpp];rfl)];rfl
  |
   true=>
   cases hs:zg s with
   | false=>rw[no (by unfold okG;rw[hv,hpp,hs];rfl)];rfl
   |
    true=>
    have hok:okG t path s=true:=by unfold okG;rw[hv,hpp,hs];rfl
    show(if((false||cmpI .gtr ((qI t path s).length:Int) 0)||cmpI .gtr (((if((false||cmpI .gtr ((qI t path s).length:Int) 0) == false)=true then jN t path s else default):List Str).length:Int) 0)=true then _ else _)=_;rw[gt_nil];by_cases hr:qI t path s=[]
    ·
     rw[decide_eq_true hr];show(if((false||!true)||cmpI .gtr ((jN t path s).length:Int) 0)=true then _ else _)=_;rw[gt_nil];by_cases hm:jN t path s=[]
     ·
      have e:yz t path s=true:=by unfold yz;rw[hok,decide_eq_true hr,decide_eq_true hm];rfl
      rw[decide_eq_true hm,if_neg (by decide),zaG hp e,obS];unfold Js;rw[e]
     ·
      have e:yz t path s=false:=by unfold yz;rw[decide_eq_false hm,Bool.and_false]
      rw[decide_eq_false hm,Wn e];rfl
    ·
     have e:yz t path s=false:=by unfold yz;rw[decide_eq_false hr,Bool.and_false,Bool.false_and]
     rw[decide_eq_false hr,Wn e];rfl
end
end Go.Proofs.YtobplpdjkfbfoaaGreatDoor
