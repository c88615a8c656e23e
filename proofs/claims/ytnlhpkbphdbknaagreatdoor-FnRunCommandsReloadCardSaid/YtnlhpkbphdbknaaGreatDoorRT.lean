import Derived.Test.YtnlhpkbphdbknaaGreatDoorRQ
namespace Go.Proofs.YtnlhpkbphdbknaaGreatDoor
open Go.RowKit
def RSt.forget(st:RSt)(k:Nat):RSt:={ st with mods:=updA st.mods k (λ m=>{ m with cached:=false }) }
def RSt.again(st:RSt)(k:Nat)(sp:Spec):RSt:={ st with mods:=updA st.mods k (λ m=>{ m with kind:=sp.kind,roots:=sp.roots }) }
section
variable(t:Tree)(path:List Int)
def cmdF(I:RImp)(st:RSt)(c:GCmd):Option (RSt×Int):=
 if c.kind=0 then(I st c.name).bind λ r=>some (r.1,r.2.2)
 else if c.kind=2 then(if cmpI .lss (cix st c.name) 0=true then some (st,1) else some (st.forget (cix st c.name).toNat,0))
 else if cmpI .lss (cix st c.name) 0=true\/(zj c.name≠emptyS/\cmpI .lss (cix st (zj c.name)) 0=true) then some (st,1)
 else if(yI t path st c.name).kind=0 then some (st,1)
 else(runF t path I ((st.again (cix st c.name).toNat (yI t path st c.name)).note 0 c.name) (cix st c.name).toNat (yI t path st c.name)).bind λ r=>some (r.1.note (if r.2=0 then 1 else 2) c.name,r.2)
def Zp(I:RImp):List GCmd->RSt->Option (RSt×List Int)
 | [],st=>some (st,[])
 | c::cs,st=>(cmdF t path I st c).bind λ r=>(Zp I cs r.1).bind λ q=>some (q.1,r.2::q.2)
end
variable{t:Tree}{path:List Int}{st:RSt}{n:Nat}{R:Rec}{I:RImp}{c:GCmd}
theorem Inv.forget(h:Inv st)(k:Nat):Inv (st.forget k):=h.upd (f:=λ m=>{ m with cached:=false }) (lg:=st.log) (o:=st.out) (λ _=>rfl) h.roots h.parts h.apart
theorem Inv.again(h:Inv st)(k:Nat){sp:Spec}(hr:sp.roots.length<=1048576):Inv (st.again k sp):=h.upd (f:=λ m=>{ m with kind:=sp.kind,roots:=sp.roots }) (lg:=st.log) (o:=st.out) (λ _=>rfl) (λ _ _=>hr) h.parts h.apart
theorem Qj(st:RSt)(k:Nat)(sp:Spec):(st.again k sp).size=st.size:=by unfold RSt.size RSt.again;simp[jC]
theorem size_forget(st:RSt)(k:Nat):(st.forget k).size=st.size:=by unfold RSt.size RSt.forget;simp[jC]
theorem zaB(st:RSt)(k:Int)(s:Str):(st.note k s).size=st.size+1:=by unfold RSt.size RSt.note;simp only[List.length_append,List.length_cons,List.length_nil];omega
structure CmdPost(st:RSt)(c:Nat)(r:RSt):Prop where
 inv:Inv r
 left:r.left<=st.left
 size:r.size<=st.size+c
theorem cmd_ok(hv:zR t=true)(hp:path.length<=1048576)(hI:qt n I)(h:Inv st)(hn:4*st.left.toNat+3<=n)(hc:zg c.name=true):∃ r,cmdF t path I st c=some r/\CmdPost st 12 r.1:=by
 have h0:∀ {e:Int},∃ r,some (st,e)=some r/\CmdPost st 12 r.1:=⟨_,rfl,h,Int.le_refl _,Nat.le_add_right _ _⟩;have hpl:=jD hc;unfold cmdF;split
 ·
  obtain⟨r,hr,hk⟩:=hI st _ h hc (by omega);rw[hr];have:=hk.size;exact⟨_,rfl,hk.inv,hk.grow.left,by simp only;omega⟩
 ·
  split
  ·
   split
   ·
    exact h0
   ·
    exact⟨_,rfl,h.forget _,Int.le_refl _,by simp only[size_forget];omega⟩
  ·
   split
   ·
    exact h0
   ·
    split
    ·
     exact h0
    ·
     have hi:=(h.again (cix st c.name).toNat (Ys (t:=t) h hp c.name)).note 0 c.name;obtain⟨r,hr,hb⟩:=zav (path:=path) hv hI hi (by show 4*st.left.toNat<=n+1;omega) (cix st c.name).toNat (yI t path st c.name);have hs:=hb.size;rw[zaB,Qj] at hs;rw[hr];exact⟨_,rfl,hb.inv.note _ _,hb.grow.left,by simp only[zaB];omega⟩
theorem cmds_ok(hv:zR t=true)(hp:path.length<=1048576)(hI:qt n I):∀ (l:List GCmd) (st:RSt),Inv st->4*st.left.toNat+3<=n->(∀ c∈l,zg c.name=true)->∃ r,Zp t path I l st=some r/\CmdPost st (12*l.length) r.1/\r.2.length=l.length
 | [],st,h,_,_=>⟨_,rfl,⟨h,Int.le_refl _,Nat.le_refl _⟩,rfl⟩
 |
  c::cs,st,h,hn,hl=>by
  obtain⟨r,hr,h1⟩:=cmd_ok hv hp hI h hn (hl c (List.mem_cons_self ..));have:=h1.left;have:=h1.inv.left;have:=h.left;obtain⟨q,hq,h2,h3⟩:=cmds_ok hv hp hI cs r.1 h1.inv (by omega) λ x hx=>hl x (List.mem_cons_of_mem _ hx)
  have s1:=h1.size;have s2:=h2.size;have l2:=h2.left;unfold Zp;rw[hr,Option.bind_some,hq];exact⟨_,rfl,⟨h2.inv,by simp only;omega,by simp only[List.length_cons];omega⟩,by simp only[List.length_cons];omega⟩
theorem mach_upd{k:Nat}{m:GMod}(hm:st.mods[k]?=some m)(f:GMod->GMod):({ mach t path st with modules:=(bxs st.mods).set k ⟨f m⟩ }:Machine)=mach t path { st with mods:=updA st.mods k f }:=by
 rw[XE,← qD f hm];rfl
theorem run_eq(ht:Good t)(hp:path.length<=1048576)(hL:XU t path n R I)(hB:BodyEq t path n R I)(h:Inv st)(hn:4*st.left.toNat+3<=n)(hle:st.left<=1000000)(hsz:st.size<=19990)(hc:zg c.name=true)(_hk:c.kind=0\/c.kind=1\/c.kind=2){r:RSt×Int}(hr:cmdF t path I st c=some r):wD R (mach t path st) c=some (mach t path r.1,r.2):=by
 have sm:=RSt.small hsz (by decide);have hpl:=jD hc;unfold cmdF at hr;unfold wD;rw[ZZ sm.mods,Option.bind_some];by_cases h0:c.kind=0
 ·
  rw[if_pos h0] at hr;obtain⟨q,hq,hr⟩:=bs hr;injection hr with hr;subst hr;rw[if_pos (xV h0),hL st _ q h hc (by omega) (by omega) hq];rfl
 ·
  rw[if_neg h0] at hr;rw[if_neg (by rw[xO h0];decide)];by_cases h2:c.kind=2
  ·
   rw[if_pos h2] at hr;rw[if_pos (xV h2)];rcases xx st c.name with⟨k1,_⟩ | ⟨k,m,k1,k2,_,_⟩
   ·
    rw[k1,YR,if_pos rfl] at hr;injection hr with hr;subst hr;rw[k1,YR,if_pos rfl]
   ·
    rw[k1,j8,if_neg (by decide),Int.toNat_natCast] at hr;injection hr with hr;subst hr;rw[k1,j8,if_neg (by decide),show(mach t path st).modules=bxs st.mods from rfl,zG,wV k2,Option.bind_some,Int.toNat_natCast,wV k2,Option.bind_some,mach_upd k2 (λ m=>{ m with cached:=false })];rfl
  ·
   rw[if_neg h2] at hr;rw[if_neg (by rw[xO h2];decide),Zm hc,Option.bind_some];rcases xx st c.name with⟨k1,_⟩ | ⟨k,m,k1,k2,k3,k4⟩
   ·
    rw[k1,YR,if_pos (.inl rfl)] at hr;injection hr with hr;subst hr;rw[k1,YR,show((true == false)&&(decide (zj c.name≠(⟨[]⟩:Str)) == true))=false from rfl,jB,Option.bind_some,Bool.true_or,if_pos rfl]
   ·
    rw[k1,j8,Int.toNat_natCast] at hr;rw[k1,j8];have hm:=h.at_ k2;have key:(zj c.name=emptyS\/cmpI .lss (cix st (zj c.name)) 0=false)->(if(yI t path st c.name).kind=0 then some (st,(1:Int)) else(runF t path I ((st.again k (yI t path st c.name)).note 0 c.name) k (yI t path st c.name)).bind λ r=>some (r.1.note (if r.2=0 then 1 else 2) c.name,r.2))=some r->
      ((yG (mach t path st) c.name).bind λ v43=>if(cmpI .eql v43.2.kind (0:Int))=true then(some (v43.1,(1:Int))) else((atI v43.1.modules (k:Int)).bind λ v55=>(v43.1.modules[(k:Int).toNat]?).bind λ v57=>(atI (v43.1.modules.set (k:Int).toNat ⟨{ v57.x with kind:=v43.2.kind }⟩) (k:Int)).bind λ v63=>(appO 8 [] v43.2.roots).bind λ v64=>((v43.1.modules.set (k:Int).toNat ⟨{ v57.x with kind:=v43.2.kind }⟩)[(k:Int).toNat]?).bind λ v65=>(R.impl_machine_body ({ v43.1 with modules:=((v43.1.modules.set (k:Int).toNat ⟨{ v57.x with kind:=v43.2.kind }⟩).set (k:Int).toNat ⟨{ v65.x with roots:=v64 }⟩) }) (k:Int) v43.2).bind λ v73=>some (v73.1,v73.2)))=some (mach t path r.1,r.2):=λ _ hr=>by
     rw[look_eq ht hp h sm hc,Option.bind_some];by_cases hz:(yI t path st c.name).kind=0
     ·
      rw[if_pos hz] at hr;injection hr with hr;subst hr;rw[if_pos (xV hz)]
     ·
      rw[if_neg hz] at hr;have hrl:=Ys (t:=t) h hp c.name;have hlk:=zv k2;rw[if_neg (by rw[xO hz];decide)];dsimp only;rw[show(mach t path st).modules=bxs st.mods from rfl,zG,wV k2,Option.bind_some,Int.toNat_natCast,wV k2,Option.bind_some,XE,zG,wV (List.getElem?_set_self hlk),Option.bind_some,yE (by simp;omega) (by simp;omega),Option.bind_some,List.nil_append,Option.bind_some,XE,List.set_set];obtain⟨q,hq,hr⟩:=bs hr;injection hr with hr;subst hr;have hst:({ mach t path st with modules:=bxs (st.mods.set k { { m with kind:=(yI t path st c.name).kind } with roots:=(yI t path st c.name).roots }) }:Machine)=mach t path (st.again k (yI t path st c.name)):=by
       unfold RSt.again;rw[qD _ k2];rfl
      have hk5:(st.again k (yI t path st c.name)).mods[k]?=some { m with kind:=(yI t path st c.name).kind,roots:=(yI t path st c.name).roots }:=by
       unfold RSt.again;show(updA st.mods k _)[k]?=_;rw[qD _ k2,List.getElem?_set_self hlk]
      have hb:=hB (st.again k (yI t path st c.name)) k _ (yI t path st c.name) q (h.again k hrl) (by show 4*st.left.toNat<=n+1;omega) hle (by rw[Qj];omega) hk5 (Jr c.name) (by
       show runF t path I ((st.again k (yI t path st c.name)).note 0 m.name) k _=some q;rw[k3];exact hq)
      rw[hst];have hb':R.impl_machine_body (mach t path (st.again k (yI t path st c.name))) (k:Int) (yI t path st c.name)=some (mach t path (q.1.note (if q.2=0 then 1 else 2) c.name),q.2):=by
       rw[hb];show some (mach t path (q.1.note (if q.2=0 then 1 else 2) m.name),q.2)=_;rw[k3]
      rw[hb',Option.bind_some]
    by_cases hpar:zj c.name=emptyS
    ·
     rw[if_neg λ e:(false=true\/_)=>e.elim (λ e=>Bool.noConfusion e) λ e=>e.1 hpar] at hr;rw[show((false == false)&&(decide (zj c.name≠(⟨[]⟩:Str)) == true))=false by rw[hpar];rfl,jB,Option.bind_some,show(false||(decide (zj c.name≠(⟨[]⟩:Str))&&cmpI .lss (default:Int) 0))=false by rw[hpar];rfl,if_neg (by decide)];exact key (.inl hpar) hr
    ·
     have hd:decide (zj c.name≠(⟨[]⟩:Str))=true:=decide_eq_true hpar;rw[hd,show((false == false)&&(true == true))=true from rfl,yZ,ZZ sm.mods,Option.bind_some];cases hl:cmpI .lss (cix st (zj c.name)) 0 with
     |
      true=>
      rw[if_pos (.inr ⟨hpar,hl⟩)] at hr;injection hr with hr;subst hr;rw[if_pos (show(false||true&&true)=true from rfl)]
     |
      false=>
      rw[if_neg λ e:(false=true\/_)=>e.elim (λ e=>Bool.noConfusion e) λ e=>Bool.noConfusion (hl.symm.trans e.2)] at hr;rw[if_neg (by decide)];exact key (.inr hl) hr
open Go.RowKit
variable{t:Tree}{path:List Int}{st:RSt}{n:Nat}{R:Rec}{I:RImp}{c:GCmd}
def stepC{σ:Type}(run:σ->GCmd->Option (σ×Int))(l:List GCmd)(s:σ×List Int×Int):Option ((σ×List Int×Int)⊕(σ×List Int)):=
 if cmpI .lss s.2.2 (l.length:Int)=true then(atI l s.2.2).bind λ a=>(run s.1 a).bind λ b=>(appO 8 s.2.1 [b.2]).bind λ c=>(i64 (s.2.2+1)).bind λ d=>some (.inl (b.1,c,d)) else some (.inr (s.1,s.2.1))
def Yf(c:GCmd):Bool:=cmpI .geq c.kind 0&&cmpI .leq c.kind 2&&zg c.name
theorem Zq(h:Yf c=true):zg c.name=true/\(c.kind=0\/c.kind=1\/c.kind=2):=by
 unfold Yf at h;simp only[Bool.and_eq_true,cmpI,decide_eq_true_eq] at h;exact⟨h.2,by omega⟩
theorem zaC{σ:Type}{run:σ->GCmd->Option (σ×Int)}{Rp:RSt->σ->Prop}(hv:zR t=true)(hp:path.length<=1048576)(hI:qt n I)
  (hrun:∀ (st:RSt) (s:σ) (c:GCmd) (r:RSt×Int),Inv st->4*st.left.toNat+3<=n->st.left<=1000000->st.size<=19990->Yf c=true->Rp st s->cmdF t path I st c=some r->∃ s',run s c=some (s',r.2)/\Rp r.1 s')
  (l:List GCmd) (hl:∀ c∈l,Yf c=true) (hlen:l.length<=20):∀ (m i:Nat) (st:RSt) (s:σ) (es:List Int) (r:RSt×List Int),i+m=l.length->Inv st->4*st.left.toNat+3<=n->st.left<=1000000->st.size+12*m<=19990->es.length=i->Rp st s->Zp t path I (l.drop i) st=some r->
   ∃ s',jU (stepC run l) (m+1) (s,es,(i:Int))=some (s',es++r.2)/\Rp r.1 s'
 |
  0,i,st,s,es,r,hi,_,_,_,_,_,hR,hr=>by
  have:i=l.length:=by omega
  subst this;rw[List.drop_length] at hr;unfold Zp at hr;injection hr with hr;subst hr;refine⟨s,xw ?_,hR⟩;unfold stepC;rw[zM,if_neg (by simp),List.append_nil]
 |
  m+1,i,st,s,es,r,hi,h,hn,hle,hsz,he,hR,hr=>by
  have hlt:i<l.length:=by omega
  rw[List.drop_eq_getElem_cons hlt] at hr;unfold Zp at hr;obtain⟨q,hq,hr⟩:=bs hr;obtain⟨w,hw,hr⟩:=bs hr;injection hr with hr;subst hr;have hc:=hl _ (List.getElem_mem hlt);obtain⟨q',hq',h1⟩:=cmd_ok hv hp hI h hn (Zq hc).1;rw[hq] at hq';injection hq' with hq';subst hq';obtain⟨s1,hs1,hR1⟩:=hrun st s _ q h hn hle (by omega) hc hR hq;have:=h1.left;have:=h1.inv.left;have:=h.left;have s2:=h1.size;obtain⟨s',hs',hR'⟩:=zaC hv hp hI hrun l hl hlen m (i+1) q.1 s1 (es++[q.2]) w (by omega) h1.inv (by omega) (by omega) (by omega) (by rw[List.length_append];simp[he]) hR1 hw;refine⟨s',?_,hR'⟩;rw[qV (s':=(s1,es++[q.2],((i+1:Nat):Int))),hs',List.append_assoc]
  ·
   rfl
  ·
   unfold stepC;rw[zM,if_pos (decide_eq_true hlt),zG,List.getElem?_eq_getElem hlt,Option.bind_some,hs1,Option.bind_some,yE (by simp only[List.length_cons,List.length_nil];omega) (by simp only[List.length_cons,List.length_nil];omega),Option.bind_some,z7 (by omega)];rfl
theorem fold_copy(l:List GMod):∀ o:List GMod,l.foldl (λ o m=>o++[m]) o=o++l:=by
 induction l with
 | nil=>intro o;simp
 | cons a l ih=>intro o;rw[List.foldl_cons,ih];simp
theorem copy_fold{step:List GMod×Int->Option ((List GMod×Int)⊕List GMod)}(l:List GMod)(hl:l.length<=1048576)
  (h:∀ i out m,l[i]?=some m->i<l.length->out.length<=1048576->step (out,(i:Int))=some (.inl (out++[m],((i+1:Nat):Int))))
  (hend:∀ out,step (out,(l.length:Int))=some (.inr out)):zW step (([]:List GMod),(0:Int))=some l:=by
 have key:=Jl (step:=step) l (λ(o:List GMod) i=>(o,(i:Int))) (λ o m=>o++[m]) (λ o=>o) (λ i o=>o.length<=i)
  (λ i o m he hi ho=>⟨h i o m he hi (by omega),by rw[List.length_append];show o.length+1<=_;omega⟩) (λ o _=>hend o) (s0:=[]) (Nat.zero_le _) (by omega)
 rw[fold_copy,List.nil_append] at key;exact key
def resV(st:RSt)(es:List Int):GResult:=⟨es,st.out,st.log,st.mods,st.left⟩
theorem result_eq(h:Inv st)(hs:Small st)(es:List Int):xK (mach t path st) es=some (resV st es):=by
 have hm:=hs.mods;have ho:=hs.out;have hg:=hs.log;have hl:zW (λ s16=>yO (mach t path st) s16) ((⟨es,st.out,st.log,[],st.left⟩:GResult),(0:Int))=some (resV st es):=by
  have key:=Jl (step:=λ s16=>yO (mach t path st) s16) st.mods (λ(o:List GMod) i=>((⟨es,st.out,st.log,o,st.left⟩:GResult),(i:Int))) (λ o m=>o++[m]) (λ o=>(⟨es,st.out,st.log,o,st.left⟩:GResult)) (λ i o=>o.length<=i)
   (λ i o x hx hi ho=>⟨by
    have hx':=h.at_ hx;unfold yO;simp only;rw[show(mach t path st).modules=bxs st.mods from rfl,show((bxs st.mods).length:Int)=(st.mods.length:Int) by unfold bxs;rw[List.length_map],zM,if_pos (decide_eq_true hi),zG,wV hx,Option.bind_some,yE (by simp;omega) (by simp;omega),Option.bind_some,List.nil_append,yE (by simp;omega) (by simp;omega),Option.bind_some,List.nil_append,yE (by simp only[List.length_cons,List.length_nil];omega) (by simp only[List.length_cons,List.length_nil];omega),Option.bind_some,z7 (by omega)];rfl,by rw[List.length_append];show o.length+1<=_;omega⟩) (λ o _=>by
    unfold yO;simp only;rw[show(mach t path st).modules=bxs st.mods from rfl,show((bxs st.mods).length:Int)=(st.mods.length:Int) by unfold bxs;rw[List.length_map],zM,if_neg (by simp)]) (s0:=[]) (Nat.zero_le _) (by omega)
  rw[fold_copy,List.nil_append] at key;exact key
 unfold xK;rw[show(mach t path st).out=st.out from rfl,show(mach t path st).log=st.log from rfl,yE (by simp;omega) (by simp;omega),Option.bind_some,List.nil_append,yE (by simp;omega) (by simp;omega),Option.bind_some,List.nil_append,show(mach t path st).left=st.left from rfl,hl];rfl
def XV(l:List GCmd):Bool:=l.all Yf&&cmpI .leq (l.length:Int) 10
def okR(t:Tree)(path:List Int)(l:List GCmd)(f:Int):Bool:=zR t&&wY path&&XV l&&(cmpI .geq f 0&&cmpI .leq f 120)
def fst0(f:Int):RSt:=⟨[],[],[],f,[]⟩
def zz(t:Tree)(path:List Int)(l:List GCmd)(f:Int):RSt×List Int:=(Zp t path (imp t path 483) l (fst0 f)).getD (st0,[])
def runV(t:Tree)(path:List Int)(l:List GCmd)(f:Int):GResult:=if okR t path l f=true then resV (zz t path l f).1 (zz t path l f).2 else⟨[],[],[],[],0⟩
theorem JU(l:List GCmd):(if l.any (λ c=>!Yf c)=true then(.inr false:Unit⊕Bool) else .inl ())=if l.all Yf=true then .inl () else .inr false:=by
 induction l with
 | nil=>rfl
 |
  cons a l ih=>
  rw[List.any_cons,List.all_cons];cases Yf a
  ·
   rfl
  ·
   simpa using ih
theorem Wj{l:List GCmd}(hl:l.length<=1048576)(hn:∀ c∈l,sho c.name):yM l=some (XV l):=by
 have h1:zW (λ s4=>xg l s4) 0=some (if l.any (λ c=>!Yf c)=true then .inr false else .inl ()):=by
  refine Yd _ _ _ _ (λ k x hx hlt=>?_) ?_ (by omega) rfl
  ·
   unfold xg;rw[zM,if_pos (decide_eq_true hlt),zG,hx,Option.bind_some,show yy x.kind 0 2=some (cmpI .geq x.kind 0&&cmpI .leq x.kind 2) from rfl,Option.bind_some,wP (hn x (List.mem_of_getElem? hx)),xe,Option.bind_some,z7 (by omega)];unfold Yf;cases(cmpI .geq x.kind 0&&cmpI .leq x.kind 2) <;> cases zg x.name <;> rfl
  ·
   unfold xg;rw[zM,if_neg (by simp)]
 unfold yM XV;rw[h1,JU];cases l.all Yf <;> rfl
theorem ZL{l:List GCmd}{f:Int}(h:okR t path l f=true):zR t=true/\wY path=true/\(∀ c∈l,Yf c=true)/\l.length<=10/\0<=f/\f<=120:=by
 unfold okR XV at h;simp only[Bool.and_eq_true,cmpI,decide_eq_true_eq] at h;exact⟨h.1.1.1,h.1.1.2,List.all_eq_true.1 h.1.2.1,by omega,by omega,by omega⟩
theorem fst0_inv{f:Int}(h:0<=f):Inv (fst0 f):=⟨(λ _ h=>by cases h),(λ _ h=>by cases h),(λ _ h=>by cases h),(λ _ h=>by cases h),h⟩
theorem Xo(hp:path.length<=1048576){l:List GCmd}{f:Int}(h:okR t path l f=true):Zp t path (imp t path 483) l (fst0 f)=some (zz t path l f)/\CmdPost (fst0 f) (12*l.length) (zz t path l f).1/\(zz t path l f).2.length=l.length/\(zz t path l f).1.size<=12120:=by
 obtain⟨hv,_,hl,hn,f0,f1⟩:=ZL h;obtain⟨r,hr,h1,h2⟩:=cmds_ok (t:=t) (path:=path) hv hp (XT hv hp 483) l (fst0 f) (fst0_inv f0) (by show 4*f.toNat+3<=483;omega) λ c hc=>(Zq (hl c hc)).1
 have:zz t path l f=r:=by unfold zz;rw[hr];rfl
 rw[this];refine⟨hr,h1,h2,?_⟩;have h3:=h1.size;have:(fst0 f).size=100*f.toNat:=by unfold RSt.size fst0;simp
 omega
theorem runV_off{l:List GCmd}{f:Int}(h:okR t path l f=false):runV t path l f=⟨[],[],[],[],0⟩:=by unfold runV;rw[h];rfl
theorem Yg(ht:YN t)(hp:path.length<=1048576){l:List GCmd}(hl:l.length<=1048576)(hn:∀ c∈l,sho c.name)(f:Int):yC (scc xy) t path l f=some (runV t path l f):=by
 have key:okR t path l f=true->(jY t path f).bind (λ v21=>Option.bind (α:=Machine×(List Int)) (zW (λ s30=>wz (scc xy) l s30) (v21,[],(0:Int))) λ o27=>(xK o27.1 o27.2).bind λ v64=>some v64)=some (runV t path l f):=λ h=>by
  obtain⟨hv,_,hc,hlen,f0,f1⟩:=ZL h;obtain⟨h1,h2,h3,h4⟩:=Xo hp h;have hL:XU t path 483 (scc xy) (imp t path 483):=Q0 ⟨ht,hv⟩ hp 483 xy (by decide);have hB:BodyEq t path 483 (scc xy) (imp t path 483):=body_of (M:=2418) ⟨ht,hv⟩ hp (Q0 ⟨ht,hv⟩ hp 483 2418 (by decide));have hz:(fst0 f).size=100*f.toNat:=by unfold RSt.size fst0;simp
  obtain⟨s',hs',hR⟩:=zaC (Rp:=λ st s=>s=mach t path st) (run:=wD (scc xy)) hv hp (XT hv hp 483) (λ st s c r hi hn hle hsz hk hR hr=>by
   subst hR;exact⟨_,run_eq ⟨ht,hv⟩ hp hL hB hi hn hle hsz (Zq hk).1 (Zq hk).2 hr,rfl⟩) l hc (by omega) l.length 0 (fst0 f) (mach t path (fst0 f)) [] (zz t path l f) (by omega) (fst0_inv f0) (by show 4*f.toNat+3<=483;omega) (by show f<=1000000;omega) (by omega) rfl rfl (by rw[List.drop_zero];exact h1)
  subst hR;have hloop:zW (λ s30=>wz (scc xy) l s30) (mach t path (fst0 f),([]:List Int),(0:Int))=some (mach t path (zz t path l f).1,(zz t path l f).2):=qO (m:=l.length+1) hs' (by omega);rw[show jY t path f=some (mach t path (fst0 f)) from rfl,Option.bind_some,hloop,Option.bind_some,result_eq h2.inv (RSt.small h4 (by decide)),Option.bind_some];unfold runV;rw[if_pos h]
 unfold yC;rw[QR ht,Option.bind_some,QS hp,xe,Option.bind_some,Wj hl hn,xe,Option.bind_some,show yy f 0 120=some (cmpI .geq f 0&&cmpI .leq f 120) from rfl,xe,Option.bind_some];by_cases hr:okR t path l f=true
 ·
  have hr':=hr;unfold okR at hr';simp only[Bool.and_eq_true] at hr';rw[hr'.1.1.1,hr'.1.1.2,hr'.1.2,hr'.2.1,hr'.2.2];exact key hr
 ·
  rw[runV_off (Bool.eq_false_iff.2 hr)];have h0:okR t path l f=false:=Bool.eq_false_iff.2 hr;unfold okR at h0
  revert h0
  generalize zR t=a;generalize wY path=b;generalize XV l=c;generalize (cmpI .geq f 0&&cmpI .leq f 120)=d;cases a <;> cases b <;> cases c <;> cases d <;> intro h0 <;> first | rfl | cases h0
open Go.RowKit
variable{t:Tree}{path:List Int}{st:RSt}{n:Nat}{R:Rec}{I:RImp}{c:GCmd}
theorem again_at{k:Nat}{m:GMod}(h:st.mods[k]?=some m)(sp:Spec):(st.again k sp).mods=st.mods.set k { m with kind:=sp.kind,roots:=sp.roots }/\(st.again k sp).mods[k]?=some { m with kind:=sp.kind,roots:=sp.roots }:=by
 unfold RSt.again;refine⟨qD _ h,?_⟩;show(updA st.mods k _)[k]?=_;rw[qD _ h,List.getElem?_set_self (zv h)]
theorem scmd_eq(hv:zR t=true)(hp:path.length<=1048576)(hI:qt n I)(hL:ImpEq t path n R I)(hB:Js t path n R I)(h:Inv st)(hn:4*st.left.toNat+3<=n)(hle:st.left<=1000000)(hsz:st.size<=19990)(hc:zg c.name=true)(hk:c.kind=0\/c.kind=1\/c.kind=2)(e:Int){r:RSt×Int}(hr:cmdF t path I st c=some r):∃ e',qq R (rnr t path st e) c=some (rnr t path r.1 e',r.2):=by
 have sm:=RSt.small hsz (by decide);have hpl:=jD hc;have hlf:=Jr (t:=t) (path:=path) (st:=st) c.name;have hlr:=Ys (t:=t) h hp c.name;unfold cmdF at hr;unfold qq;rw[show({ rnr t path st e with fin:=(0:Int) }:Runner)=rnr t path st 0 from rfl];by_cases h0:c.kind=0
 ·
  rw[if_pos h0] at hr;obtain⟨q,hq,hr⟩:=bs hr;injection hr with hr;subst hr;rw[if_pos (xV h0),hL st _ q h hc (by omega) (by omega) hq];exact⟨_,rfl⟩
 ·
  rw[if_neg h0] at hr;rw[if_neg (by rw[xO h0];decide)];by_cases h2:c.kind=2
  ·
   rw[if_pos h2] at hr;rw[if_neg (by rw[h2];decide),if_pos (xV h2),Zo sm.mods,Option.bind_some];rcases xx st c.name with⟨k1,_⟩ | ⟨k,m,k1,k2,_,_⟩
   ·
    rw[k1,YR,if_pos rfl] at hr;injection hr with hr;subst hr;rw[k1,YR,if_pos rfl];exact⟨_,rfl⟩
   ·
    rw[k1,j8,if_neg (by decide),Int.toNat_natCast] at hr;injection hr with hr;subst hr;rw[k1,j8,if_neg (by decide)];simp only;rw[show(rnr t path st 0).mods=st.mods from rfl,zG,k2,Option.bind_some,Option.bind_some,Int.toNat_natCast,← qD (λ m:GMod=>{ m with cached:=false }) k2];exact⟨_,rfl⟩
  ·
   rw[if_neg h2] at hr;rw[if_pos (xV (by omega))];unfold ZP;rw[Zo sm.mods,Option.bind_some];rcases xx st c.name with⟨k1,_⟩ | ⟨k,m,k1,k2,k3,k4⟩
   ·
    rw[k1,YR,if_pos (.inl rfl)] at hr;injection hr with hr;subst hr;rw[k1,YR,if_pos rfl];exact⟨_,rfl⟩
   ·
    rw[k1,j8,Int.toNat_natCast] at hr;rw[k1,j8,if_neg (by decide),show y9 c.name=some (zj c.name) from if_pos (wa hc).mid,Option.bind_some];have key:(zj c.name=emptyS\/cmpI .lss (cix st (zj c.name)) 0=false)->(if(yI t path st c.name).kind=0 then some (st,(1:Int)) else(runF t path I ((st.again k (yI t path st c.name)).note 0 c.name) k (yI t path st c.name)).bind λ r=>some (r.1.note (if r.2=0 then 1 else 2) c.name,r.2))=some r->
      ∃ e',((wN (rnr t path st 0) c.name).bind λ v26=>
if(cmpI .eql v26.2.kind (0:Int))=true then(some ({ v26.1 with fin:=(1:Int) }))
else((yQ v26.1 (0:Int) c.name).bind λ v39=>
(atI v39.mods (k:Int)).bind λ v42=>
Option.bind (α:=Runner) (if(cmpI .geq v26.2.file (0:Int))=true then((wM ({ v39 with mods:=(v39.mods.set (k:Int).toNat ({ v42 with kind:=v26.2.kind,roots:=v26.2.roots })) }) v26.2.file).bind λ v55=>
(R.spec_runBody v55.1 (k:Int) v55.2).bind λ v58=>
some v58)
else(some ({ v39 with mods:=(v39.mods.set (k:Int).toNat ({ v42 with kind:=v26.2.kind,roots:=v26.2.roots })) }))) λ o49=>
if(cmpI .neq o49.fin (0:Int))=true then((yQ o49 (2:Int) c.name).bind λ v66=>
some v66)
else((yQ o49 (1:Int) c.name).bind λ v70=>
some v70)))=some (rnr t path r.1 e')/\e'=r.2:=λ _ hr=>by
     rw[zax hp h sm 0 hc,Option.bind_some];generalize yI t path st c.name=sp at*;by_cases hz:sp.kind=0
     ·
      rw[if_pos hz] at hr;injection hr with hr;subst hr;rw[if_pos (xV hz)];exact⟨_,rfl,rfl⟩
     ·
      rw[if_neg hz] at hr;obtain⟨q,hq,hr⟩:=bs hr;injection hr with hr;subst hr;obtain⟨a1,a2⟩:=again_at k2 sp;have hi:=(h.again k hlr).note 0 c.name;have hz1:((st.again k sp).note 0 c.name).size=st.size+1:=by rw[zaB,Qj]
      have hrun:=srun_eq hv hB hi (show((st.again k sp).note 0 c.name).mods[k]?=some _ from a2) (by show 4*st.left.toNat<=n+1;omega) hle (by omega) hlf hq;obtain⟨q',hq',hb⟩:=zav (path:=path) hv hI hi (by show 4*st.left.toNat<=n+1;omega) k sp;rw[hq] at hq';injection hq' with hq';subst hq';have hbs:=hb.size;rw[if_neg (by rw[xO hz];decide),XF sm.log,Option.bind_some,show(rnr t path (st.note 0 c.name) 0).mods=st.mods from rfl,zG,k2,Option.bind_some,Int.toNat_natCast,
       show({ rnr t path (st.note 0 c.name) 0 with mods:=st.mods.set k { m with kind:=sp.kind,roots:=sp.roots } }:Runner)=rnr t path ((st.again k sp).note 0 c.name) 0 by rw[← a1];rfl]
      simp only;rw[hrun,Option.bind_some,show(rnr t path q.1 q.2).fin=q.2 from rfl];have smq:=RSt.small (st:=q.1) (n:=20100) (by omega) (by decide);by_cases he:q.2=0
      ·
       rw[if_neg (by rw[he];decide),XF smq.log,if_pos he];exact⟨_,rfl,rfl⟩
      ·
       rw[if_pos (Wg he),XF smq.log,if_neg he];exact⟨_,rfl,rfl⟩
    have fin:∀ {o:Option Runner},(∃ e',o=some (rnr t path r.1 e')/\e'=r.2)->∃ e',Option.bind (α:=Runner⊕(Runner×Int)) (o.bind λ v18=>some (.inl v18)) (Sum.elim (λ b4=>some (b4,b4.fin)) some)=some (rnr t path r.1 e',r.2):=λ⟨e',h1,h2⟩=>by
     subst h2;rw[h1];exact⟨_,rfl⟩
    by_cases hpar:zj c.name=emptyS
    ·
     rw[if_neg λ e:(false=true\/_)=>e.elim (λ e=>Bool.noConfusion e) λ e=>e.1 hpar] at hr;have hd:decide (zj c.name≠(⟨[]⟩:Str))=false:=by rw[hpar];rfl
     rw[hd,show(false == true)=false from rfl,jB,Option.bind_some,jB,Option.bind_some,if_neg (show ¬ ((false&&_)=true) from Bool.noConfusion),if_neg (show ¬ (false=true) by decide)];exact fin (key (.inl hpar) hr)
    ·
     have hd:decide (zj c.name≠(⟨[]⟩:Str))=true:=decide_eq_true hpar;rw[hd,show(true == true)=true from rfl,yZ,Option.bind_some,yZ,Zo sm.mods,Option.bind_some];cases hl:cmpI .lss (cix st (zj c.name)) 0 with
     |
      true=>
      rw[if_pos (.inr ⟨hpar,hl⟩)] at hr;injection hr with hr;subst hr;rw[if_pos (show(true&&true)=true from rfl)];exact⟨_,rfl⟩
     |
      false=>
      rw[if_neg λ e:(false=true\/_)=>e.elim (λ e=>Bool.noConfusion e) λ e=>Bool.noConfusion (hl.symm.trans e.2)] at hr;rw[if_neg (show ¬ ((true&&false)=true) by decide),if_pos (show true=true from rfl)];exact fin (key (.inr hl) hr)
theorem copies_eq(h:Inv st)(hs:Small st):jA st.mods=some st.mods:=by
 have hm:=hs.mods;have hl:zW (λ s5=>xL st.mods s5) (([]:List GMod),(0:Int))=some st.mods:=by
  refine copy_fold st.mods hm (λ i out x hx hi ho=>?_) (λ out=>?_)
  ·
   have hx':=h.at_ hx;unfold xL;simp only;rw[zM,if_pos (decide_eq_true hi),zG,hx,Option.bind_some,yE (by simp;omega) (by simp;omega),Option.bind_some,List.nil_append,yE (by simp;omega) (by simp;omega),Option.bind_some,List.nil_append,yE (by simp only[List.length_cons,List.length_nil];omega) (by simp only[List.length_cons,List.length_nil];omega),Option.bind_some,z7 (by omega)];rfl
  ·
   unfold xL;simp only;rw[zM,if_neg (by simp)]
 unfold jA;rw[hl];rfl
theorem WJ{l:List GCmd}(hl:l.length<=1048576)(hn:∀ c∈l,sho c.name):wS l=some (XV l):=by
 have h2:zW (λ s4=>xh l s4) 0=some (if l.any (λ c=>!Yf c)=true then .inr false else .inl ()):=by
  refine Yd _ _ _ _ (λ k x hx hlt=>?_) ?_ (by omega) rfl
  ·
   unfold xh;rw[zM,if_pos (decide_eq_true hlt),zG,hx,Option.bind_some,show qg x.kind 0 2=some (cmpI .geq x.kind 0&&cmpI .leq x.kind 2) from rfl,Option.bind_some,xe,Option.bind_some,z7 (by omega)];unfold Yf;cases(cmpI .geq x.kind 0&&cmpI .leq x.kind 2)
   ·
    rfl
   ·
    rw[if_pos (show((!true) == false)=true from rfl),show xY x.name=some (zg x.name) from if_pos (hn x (List.mem_of_getElem? hx)).mid];cases zg x.name <;> rfl
  ·
   unfold xh;rw[zM,if_neg (by simp)]
 unfold wS XV;rw[h2,JU];cases l.all Yf <;> rfl
theorem JA(ht:YN t)(hp:path.length<=1048576){l:List GCmd}(hl:l.length<=1048576)(hn:∀ c∈l,sho c.name)(f:Int):yo (scc xy) t path l f=some (runV t path l f):=by
 have hval:qG t path l f=some (okR t path l f):=by
  unfold qG okR;rw[show Zu t=some (zR t) from if_pos ht,Option.bind_some,show Zv path=some (wY path) from if_pos trivial,xe,Option.bind_some,WJ hl hn,xe,Option.bind_some,show qg f 0 120=some (cmpI .geq f 0&&cmpI .leq f 120) from rfl,xe,Option.bind_some];generalize zR t=a;generalize wY path=b;generalize XV l=c;generalize (cmpI .geq f 0&&cmpI .leq f 120)=d;cases a <;> cases b <;> cases c <;> cases d <;> rfl
 unfold yo;rw[hval,Option.bind_some];by_cases h:okR t path l f=true
 ·
  obtain⟨hv,_,hc,hlen,f0,f1⟩:=ZL h;obtain⟨h1,h2,h3,h4⟩:=Xo hp h;have hL:ImpEq t path 483 (scc xy) (imp t path 483):=scc_imp hv hp 483 xy (by decide);have hB:Js t path 483 (scc xy) (imp t path 483):=sbody_of (M:=2416) hv hp λ j=>scc_imp hv hp 483 (2416+j) (by omega)
  have hz:(fst0 f).size=100*f.toNat:=by unfold RSt.size fst0;simp
  obtain⟨s',hs',e',hR⟩:=zaC (Rp:=λ st s=>∃ e,s=rnr t path st e) (run:=qq (scc xy)) hv hp (XT hv hp 483) (λ st s c r hi hn hle hsz hk hR hr=>by
   obtain⟨e,hR⟩:=hR;subst hR;obtain⟨e',he⟩:=scmd_eq hv hp (XT hv hp 483) hL hB hi hn hle hsz (Zq hk).1 (Zq hk).2 e hr;exact⟨_,he,e',rfl⟩) l hc (by omega) l.length 0 (fst0 f) (rnr t path (fst0 f) 0) [] (zz t path l f) (by omega) (fst0_inv f0) (by show 4*f.toNat+3<=483;omega) (by show f<=1000000;omega) (by omega) rfl ⟨0,rfl⟩ (by rw[List.drop_zero];exact h1)
  subst hR;have sm:=RSt.small h4 (by decide);have ho:=sm.out;have hg:=sm.log;have hloop:zW (λ s22=>jG (scc xy) l s22) (rnr t path (fst0 f) 0,([]:List Int),(0:Int))=some (rnr t path (zz t path l f).1 e',(zz t path l f).2):=qO (m:=l.length+1) hs' (by omega);rw[h,if_neg (by decide),show Zx t path f=some (rnr t path (fst0 f) 0) from rfl,Option.bind_some,hloop,Option.bind_some];simp only;rw[show(rnr t path (zz t path l f).1 e').out=(zz t path l f).1.out from rfl,show(rnr t path (zz t path l f).1 e').log=(zz t path l f).1.log from rfl,show(rnr t path (zz t path l f).1 e').mods=(zz t path l f).1.mods from rfl,yE (by simp;omega) (by simp;omega),Option.bind_some,List.nil_append,yE (by simp;omega) (by simp;omega),Option.bind_some,List.nil_append,copies_eq h2.inv sm,Option.bind_some];unfold runV;rw[if_pos h];rfl
 ·
  have h0:okR t path l f=false:=Bool.eq_false_iff.2 h;rw[runV_off h0,h0];rfl
open Go.RowKit
variable{t:Tree}{path:List Int}{a b st:RSt}{e:Int}{s:Str}{I:RImp}{c:GCmd}
def Sn(a b:RSt):Prop:=b.mods.length=a.mods.length/\∀ (i:Nat) (m:GMod),a.mods[i]?=some m->∃ m',b.mods[i]?=some m'/\m'.name=m.name/\(m'.cached=true->m.cached=true)
theorem Sn.back(h:Sn a b){i:Nat}{m':GMod}(hm:b.mods[i]?=some m'):∃ m,a.mods[i]?=some m/\m'.name=m.name/\(m'.cached=true->m.cached=true):=by
 have hl:i<a.mods.length:=by rw[← h.1];exact zv hm
 obtain⟨m2,h1,h2⟩:=h.2 i _ (List.getElem?_eq_getElem hl);rw[hm] at h1;injection h1 with h1;subst h1;exact⟨_,List.getElem?_eq_getElem hl,h2⟩
theorem upd_sn{k:Nat}{f:GMod->GMod}(hf:∀ m,(f m).name=m.name/\((f m).cached=true->m.cached=true))(hb:b.mods=updA a.mods k f):Sn a b:=
 ⟨by rw[hb];exact jC ..,λ i m hm=>by
  rw[hb,YK];by_cases e:i=k
  ·
   subst e;rw[if_pos rfl,hm];exact⟨_,rfl,hf m⟩
  ·
   rw[if_neg e];exact⟨m,hm,rfl,id⟩⟩
theorem Sm.sn(h:Sm a b):Sn a b:=⟨h.1,λ i m hm=>let⟨m',h1,h2⟩:=h.2 i m hm;⟨m',h1,h2.name,λ c=>h2.cached ▸ c⟩⟩
theorem sn_same(h:b.mods=a.mods):Sn a b:=⟨by rw[h],λ i m hm=>⟨m,by rw[h];exact hm,rfl,id⟩⟩
structure Wd(st:RSt):Prop where
 dist:∀ (i j:Nat) (m m':GMod),st.mods[i]?=some m->st.mods[j]?=some m'->m.cached=true->m'.cached=true->m.name=m'.name->i=j
 order:∀ (i:Nat) (m:GMod),st.mods[i]?=some m->zj m.name≠emptyS->∃ (j:Nat) (m':GMod),j<i/\st.mods[j]?=some m'/\m'.name=zj m.name
theorem Wd.sn(w:Wd a)(h:Sn a b):Wd b where
 dist i j m m' h1 h2 c1 c2 e:=by
  obtain⟨y,k1,k2,k3⟩:=h.back h1;obtain⟨z,l1,l2,l3⟩:=h.back h2;exact w.dist i j y z k1 l1 (k3 c1) (l3 c2) (by rw[← k2,← l2];exact e)
 order i m h1 hp:=by
  obtain⟨y,k1,k2,_⟩:=h.back h1;rw[k2] at hp ⊢;obtain⟨j,m',j1,j2,j3⟩:=w.order i y k1 hp;obtain⟨m2,l1,l2,_⟩:=h.2 j m' j2;exact⟨j,m2,j1,l1,l2.trans j3⟩
theorem Wd.bgW(w:Wd a)(sp:Spec)(n:New t path a s):Wd (a.begin s sp) where
 dist i j m m' h1 h2 c1 c2 e:=by
  rcases ZK h1 with h1 | ⟨i1,h1⟩
  ·
   rcases ZK h2 with h2 | ⟨j1,h2⟩
   ·
    exact w.dist i j m m' h1 h2 c1 c2 e
   ·
    subst h2;have:=n.gone m (List.mem_of_getElem? h1);rw[show hits s m=true from jE.2 ⟨e,c1⟩] at this;cases this
  ·
   rcases ZK h2 with h2 | ⟨j1,h2⟩
   ·
    subst h1;have:=n.gone m' (List.mem_of_getElem? h2);rw[show hits s m'=true from jE.2 ⟨e.symm,c2⟩] at this;cases this
   ·
    omega
 order i m h1 hp:=by
  rcases ZK h1 with h1 | ⟨i1,h1⟩
  ·
   obtain⟨j,m',j1,j2,j3⟩:=w.order i m h1 hp;exact⟨j,m',j1,Wi _ _ _ j2,j3⟩
  ·
   subst h1;rcases n.up with h | ⟨m',h2,h3⟩
   ·
    exact absurd h hp
   ·
    obtain⟨j,hj⟩:=List.getElem?_of_mem h2;exact⟨j,m',by have:=zv hj;omega,Wi _ _ _ hj,(jE.1 h3).1⟩
theorem Tr.wd(h:Tr t path a b e):Wd a->Wd b:=by
 induction h with
 | stop=>exact id
 | seq _ _ h1 h2=>exact λ w=>h2 (h1 w)
 | tick=>exact λ w=>w.sn (sn_same rfl)
 | out=>exact λ w=>w.sn (sn_same rfl)
 | give=>exact λ w=>w.sn (give_sm ..).sn
 | hit=>exact λ w=>w.sn (sn_same rfl)
 | bad n h he ih=>exact λ w=>(ih (w.bgW _ n)).sn (upd_sn (f:=λ m=>{ m with cached:=false }) (λ _=>⟨rfl,λ h=>by cases h⟩) rfl)
 | good n h ih=>exact λ w=>((ih (w.bgW _ n)).sn (done_sm ..).sn).sn (tell_sm ..).sn
theorem tell_out(a:RSt)(k:Nat)(s:Str):(a.tell k s).out=a.out:=by unfold RSt.tell;split <;> rfl
theorem Tr.outs(h:Tr t path a b e):∃ o,b.out=a.out++o:=by
 have z:∀ {a b:RSt},b.out=a.out->∃ o,b.out=a.out++o:=λ h=>⟨[],by rw[h,List.append_nil]⟩
 induction h with
 | stop=>exact z rfl
 | tick=>exact z rfl
 | out a o=>exact⟨o,rfl⟩
 | give=>exact z rfl
 | hit=>exact z rfl
 |
  seq _ _ h1 h2=>
  obtain⟨x,h1⟩:=h1;obtain⟨y,h2⟩:=h2;exact⟨x++y,by rw[h2,h1,List.append_assoc]⟩
 | bad n h he ih=>exact ih
 |
  good n h ih=>
  obtain⟨o,h1⟩:=ih;exact⟨o,by rw[tell_out];exact h1⟩
theorem Tr.no_new(h:Tr t path a b e):(∃ m∈a.mods,hits s m=true)->∀ (i:Nat) (m:GMod),a.mods.length<=i->b.mods[i]?=some m->m.name≠s:=by
 have z:∀ {a b:RSt},b.mods.length=a.mods.length->∀ (i:Nat) (m:GMod),a.mods.length<=i->b.mods[i]?=some m->m.name≠s:=λ h i m h1 h2=>by have:=zv h2;omega
 have old:∀ {a b:RSt} {e:Int},Tr t path a b e->(∃ m∈a.mods,hits s m=true)->∃ m∈b.mods,hits s m=true:=λ h ⟨m,h1,h2⟩=>by
  obtain⟨i,hi⟩:=List.getElem?_of_mem h1;obtain⟨m',k1,k2⟩:=h.kept i m hi;exact⟨m',List.mem_of_getElem? k1,by rw[k2.hits];exact h2⟩
 have neq:∀ {a:RSt} {x:Str},New t path a x->(∃ m∈a.mods,hits s m=true)->x≠s:=λ n ⟨m,h1,h2⟩ e=>by
  rw[e] at n;rw[n.gone m h1] at h2;cases h2
 have beg:∀ {a b:RSt} {x:Str},New t path a x->(∃ m∈a.mods,hits s m=true)->(∀ (i:Nat) (m:GMod),a.mods.length+1<=i->b.mods[i]?=some m->m.name≠s)->(∀ m:GMod,b.mods[a.mods.length]?=some m->m.name=x)->∀ (i:Nat) (m:GMod),a.mods.length<=i->b.mods[i]?=some m->m.name≠s:=λ{a b x} n h k1 k2 i m hi hm=>by
  by_cases e:i=a.mods.length
  ·
   subst e;rw[k2 m hm];exact neq n h
  ·
   exact k1 i m (by omega) hm
 induction h with
 | stop=>exact λ _=>z rfl
 | tick=>exact λ _=>z rfl
 | out=>exact λ _=>z rfl
 | give=>exact λ _=>z (jC ..)
 | hit=>exact λ _=>z rfl
 |
  seq h k ih1 ih2=>
  rename_i a b c e;intro h0 i m hi hm;by_cases hb:i<b.mods.length
  ·
   obtain⟨m',k1,k2⟩:=k.kept i _ (List.getElem?_eq_getElem hb);rw[hm] at k1;injection k1 with k1;subst k1;rw[k2.name];exact ih1 h0 i _ hi (List.getElem?_eq_getElem hb)
  ·
   exact ih2 (old h h0) i m (by omega) hm
 |
  bad n h he ih=>
  rename_i a b x e;intro h0;have h1:∃ m∈(a.begin x (yI t path a x)).mods,hits s m=true:=let⟨m,k1,k2⟩:=h0;⟨m,List.mem_append_left _ k1,k2⟩;obtain⟨y,y1,y2,_⟩:=h.own;have sn:Sn b (b.fail a.mods.length x):=upd_sn (f:=λ m=>{ m with cached:=false }) (λ _=>⟨rfl,λ h=>by cases h⟩) rfl;exact beg n h0 (λ i m hi hm=>by
   obtain⟨m0,k1,k2,_⟩:=sn.back hm;rw[k2];exact ih h1 i m0 (by show(a.mods++[_]).length<=i;simpa using hi) k1) λ m hm=>by
   obtain⟨m0,k1,k2,_⟩:=sn.back hm;rw[y1] at k1;injection k1 with k1;rw[k2,← k1,y2]
 |
  good n h ih=>
  rename_i a b x;intro h0;have h1:∃ m∈(a.begin x (yI t path a x)).mods,hits s m=true:=let⟨m,k1,k2⟩:=h0;⟨m,List.mem_append_left _ k1,k2⟩;obtain⟨y,y1,y2,_⟩:=h.own;have sn:∀ {i:Nat} {m:GMod},((b.done a.mods.length x).tell a.mods.length x).mods[i]?=some m->∃ m0,b.mods[i]?=some m0/\m.name=m0.name:=λ hm=>by
   obtain⟨m1,k1,k2⟩:=(tell_sm ..).back hm;obtain⟨m0,k3,k4⟩:=(done_sm ..).back k1;exact⟨m0,k3,k2.name.trans k4.name⟩
  exact beg n h0 (λ i m hi hm=>by
   obtain⟨m0,k1,k2⟩:=sn hm;rw[k2];exact ih h1 i m0 (by show(a.mods++[_]).length<=i;simpa using hi) k1) λ m hm=>by
   obtain⟨m0,k1,k2⟩:=sn hm;rw[y1] at k1;injection k1 with k1;rw[k2,← k1,y2]
theorem Fnd.of(f:Fnd t path a)(h:∀ (i:Nat) (m:GMod),b.mods[i]?=some m->∃ y,a.mods[i]?=some y/\m.name=y.name/\m.kind=y.kind/\m.roots=y.roots):Fnd t path b:=λ i m hm=>by
 obtain⟨y,h1,h2,h3,h4⟩:=h i m hm;have:=f i y h1;rw[h2,h3,h4];exact this
theorem Q1(h:∃ m∈a.mods,hits s m=true):cmpI .geq (cix a s) 0=true/\cmpI .lss (cix a s) 0=false:=by
 obtain⟨m,h1,h2⟩:=h;rcases xx a s with⟨_,k2⟩ | ⟨k,m',k1,_⟩
 ·
  rw[k2 m h1] at h2;cases h2
 ·
  rw[k1];exact⟨qd k,j8 k⟩
theorem cix_has(h:cmpI .lss (cix a s) 0=false):∃ m,a.mods[(cix a s).toNat]?=some m/\hits s m=true:=by
 rcases xx a s with⟨k1,_⟩ | ⟨k,m',k1,k2,k3,k4⟩
 ·
  rw[k1] at h;cases h
 ·
  rw[k1,Int.toNat_natCast];exact⟨m',k2,jE.2 ⟨k3,k4⟩⟩
structure CK(t:Tree)(path:List Int)(a b:RSt):Prop where
 wd:Wd a->Wd b
 fnd:Fnd t path a->Fnd t path b
 log:∃ l,b.log=a.log++l/\Bal l
 out:∃ o,b.out=a.out++o
theorem CK.refl(a:RSt):CK t path a a:=⟨id,id,⟨[],by simp,.nil⟩,[],by simp⟩
theorem CK.trans{c:RSt}(h:CK t path a b)(k:CK t path b c):CK t path a c where
 wd w:=k.wd (h.wd w)
 fnd f:=k.fnd (h.fnd f)
 log:=let⟨x,h1,h2⟩:=h.log;let⟨y,k1,k2⟩:=k.log;⟨x++y,by rw[k1,h1,List.append_assoc],h2.app k2⟩
 out:=let⟨x,h1⟩:=h.out;let⟨y,k1⟩:=k.out;⟨x++y,by rw[k1,h1,List.append_assoc]⟩
theorem Tr.ck(h:Tr t path a b e):CK t path a b:=⟨h.wd,h.fnd,let⟨l,h1,h2,_⟩:=h.bal;⟨l,h1,h2⟩,h.outs⟩
theorem forget_ck(a:RSt)(k:Nat):CK t path a (a.forget k) where
 wd w:=w.sn (upd_sn (f:=λ m=>{ m with cached:=false }) (λ _=>⟨rfl,λ h=>by cases h⟩) rfl)
 fnd f:=f.of λ i m hm=>by
  obtain⟨y,h1,h2⟩:=Xm hm;rcases h2 with⟨rfl,_⟩ | ⟨_,rfl⟩
  ·
   exact⟨_,h1,rfl,rfl,rfl⟩
  ·
   exact⟨y,h1,rfl,rfl,rfl⟩
 log:=⟨[],by simp[RSt.forget],.nil⟩
 out:=⟨[],by simp[RSt.forget]⟩
theorem reload_tr(hv:zR t=true)(hI:ImpTr t path I)(hc:zg s=true)(hin:cmpI .lss (cix a s) 0=false)(hup:zj s=emptyS\/cmpI .lss (cix a (zj s)) 0=false){r:RSt×Int}(hk:(yI t path a s).kind≠0)
  (hr:((runF t path I ((a.again (cix a s).toNat (yI t path a s)).note 0 s) (cix a s).toNat (yI t path a s)).bind λ r=>some (r.1.note (if r.2=0 then 1 else 2) s,r.2))=some r):
  CK t path a r.1/\(∃ l,r.1.log=a.log++⟨0,s⟩::l)/\∀ (i:Nat) (m:GMod),a.mods.length<=i->r.1.mods[i]?=some m->m.name≠s:=by
 obtain⟨q,hq,hr⟩:=bs hr;injection hr with hr;subst hr;have ht:=run_tr hv hI hq;obtain⟨l,l1,l2,_⟩:=ht.bal;have hl:(q.1.note (if q.2=0 then 1 else 2) s).log=a.log++⟨0,s⟩::(l++[⟨if q.2=0 then 1 else 2,s⟩]):=by
  show q.1.log++[_]=_;rw[l1];show((a.log++[⟨0,s⟩])++l)++[_]=_;simp
 refine⟨⟨λ w=>?_,λ f=>?_,⟨_,hl,.run s (by split <;> simp) l2 .nil⟩,ht.outs⟩,⟨_,hl⟩,?_⟩
 ·
  exact(ht.wd (w.sn (upd_sn (b:=(a.again (cix a s).toNat (yI t path a s)).note 0 s) (f:=λ m=>{ m with kind:=(yI t path a s).kind,roots:=(yI t path a s).roots }) (λ _=>⟨rfl,id⟩) rfl))).sn (sn_same rfl)
 ·
  have hf:yI t path a s=find t.files path s:=Xn f hc (hup.imp id λ h=>let⟨m,h1,h2⟩:=cix_has h;⟨m,List.mem_of_getElem? h1,h2⟩);have h1:Fnd t path ((a.again (cix a s).toNat (yI t path a s)).note 0 s):=λ i m hm=>by
   obtain⟨y,h1,h2⟩:=Xm hm;rcases h2 with⟨rfl,_⟩ | ⟨rfl,rfl⟩
   ·
    exact f i _ h1
   ·
    obtain⟨m',k1,k2⟩:=cix_has hin;rw[h1] at k1;injection k1 with k1;subst k1;show zg y.name=true/\_;rw[(jE.1 k2).1];exact⟨hc,by rw[hf],by rw[hf],hk⟩
  exact ht.fnd h1
 ·
  intro i m hi hm;refine ht.no_new ?_ i m (by show(updA a.mods _ _).length<=i;rw[jC];exact hi) hm;obtain⟨m',k1,k2⟩:=cix_has hin;refine⟨{ m' with kind:=(yI t path a s).kind,roots:=(yI t path a s).roots },?_,k2⟩;refine List.mem_of_getElem? (i:=(cix a s).toNat) ?_;show(updA a.mods _ _)[_]?=_;rw[YK,if_pos rfl,k1];rfl
theorem cmd_ck(hv:zR t=true)(hI:ImpTr t path I)(hc:zg c.name=true){r:RSt×Int}(hr:cmdF t path I a c=some r):CK t path a r.1:=by
 unfold cmdF at hr;split at hr
 ·
  obtain⟨q,hq,hr⟩:=bs hr;injection hr with hr;subst hr;exact(hI _ _ _ hc hq).1.ck
 ·
  split at hr
  ·
   split at hr
   ·
    injection hr with hr;subst hr;exact CK.refl a
   ·
    injection hr with hr;subst hr;exact forget_ck ..
  ·
   split at hr
   ·
    injection hr with hr;subst hr;exact CK.refl a
   ·
    rename_i hno;split at hr
    ·
     injection hr with hr;subst hr;exact CK.refl a
    ·
     rename_i hk;refine(reload_tr hv hI hc ?_ ?_ hk hr).1
     ·
      cases h:cmpI .lss (cix a c.name) 0 with
      | false=>rfl
      | true=>exact absurd (.inl h) hno
     ·
      by_cases hp:zj c.name=emptyS
      ·
       exact .inl hp
      ·
       refine .inr ?_;cases h:cmpI .lss (cix a (zj c.name)) 0 with
       | false=>rfl
       | true=>exact absurd (.inr ⟨hp,h⟩) hno
theorem cmds_app:∀ (l1 l2:List GCmd) (st:RSt),Zp t path I (l1++l2) st=(Zp t path I l1 st).bind λ r=>(Zp t path I l2 r.1).bind λ q=>some (q.1,r.2++q.2)
 |
  [],l2,st=>by
  show Zp t path I l2 st=(Zp t path I l2 st).bind λ q=>some (q.1,[]++q.2)
  cases Zp t path I l2 st <;> rfl
 |
  c::cs,l2,st=>by
  show((cmdF t path I st c).bind λ r=>(Zp t path I (cs++l2) r.1).bind λ q=>some (q.1,r.2::q.2))=(((cmdF t path I st c).bind λ r=>(Zp t path I cs r.1).bind λ q=>some (q.1,r.2::q.2))).bind _;cases cmdF t path I st c with
  | none=>rfl
  |
   some r=>
   rw[Option.bind_some,Option.bind_some,cmds_app cs l2 r.1];cases Zp t path I cs r.1 with
   | none=>rfl
   |
    some q=>
    rw[Option.bind_some,Option.bind_some,Option.bind_some];cases Zp t path I l2 q.1 <;> rfl
theorem Je(c:GCmd)(st:RSt):Zp t path I [c] st=(cmdF t path I st c).bind λ r=>some (r.1,[r.2]):=by
 show((cmdF t path I st c).bind λ r=>(Zp t path I [] r.1).bind λ q=>some (q.1,r.2::q.2))=_;cases cmdF t path I st c <;> rfl
theorem cmds_ck(hv:zR t=true)(hI:ImpTr t path I):∀ (l:List GCmd) (st:RSt) (r:RSt×List Int),(∀ c∈l,zg c.name=true)->Zp t path I l st=some r->CK t path st r.1
 | [],st,r,_,h=>by injection h with h;subst h;exact CK.refl st
 |
  c::cs,st,r,hl,h=>by
  unfold Zp at h;obtain⟨q,hq,h⟩:=bs h;obtain⟨w,hw,h⟩:=bs h;injection h with h;subst h;exact(cmd_ck hv hI (hl c (List.mem_cons_self ..)) hq).trans (cmds_ck hv hI cs q.1 w (λ x hx=>hl x (List.mem_cons_of_mem _ hx)) hw)
open Go.RowKit
variable{t:Tree}{path:List Int}{a b:RSt}{s:Str}{I:RImp}{c:GCmd}{l l':List GCmd}{f:Int}
theorem okR_of(h:okR t path l f=true)(h1:∀ c∈l',Yf c=true)(h2:l'.length<=10):okR t path l' f=true:=by
 unfold okR XV at h ⊢;simp only[Bool.and_eq_true,cmpI,decide_eq_true_eq] at h ⊢;exact⟨⟨h.1.1,List.all_eq_true.2 h1,by omega⟩,h.2⟩
theorem okR_more(h:okR t path l f=true)(h1:∀ c∈l',Yf c=true)(h2:l.length+l'.length<=10):okR t path (l++l') f=true:=
 okR_of h (λ c hc=>(List.mem_append.1 hc).elim ((ZL h).2.2.1 c) (h1 c)) (by rw[List.length_append];exact h2)
theorem wd_fst(f:Int):Wd (fst0 f):=⟨(λ _ _ _ _ h=>by cases h),(λ _ _ h=>by cases h)⟩
theorem fnd_fst(f:Int):Fnd t path (fst0 f):=λ _ _ h=>by cases h
theorem imp_again(hin:∃ m∈a.mods,hits s m=true)(n:Nat):imp t path (n+1) a s=some (a.hit (cix a s).toNat s,cix a s,0):=by
 show impF t path (imp t path n) a s=_;unfold impF;rw[if_pos (Q1 hin).1]
section
variable(hp:path.length<=1048576)
include hp
theorem Ju{l1 l2:List GCmd}(h1:okR t path l1 f=true)(h:okR t path (l1++l2) f=true):∃ q,Zp t path (imp t path 483) l2 (zz t path l1 f).1=some q/\zz t path (l1++l2) f=(q.1,(zz t path l1 f).2++q.2):=by
 obtain⟨a1,_⟩:=Xo hp h1;obtain⟨a2,_⟩:=Xo hp h;rw[cmds_app,a1,Option.bind_some] at a2;obtain⟨q,hq,a2⟩:=bs a2;injection a2 with a2;exact⟨q,hq,a2.symm⟩
theorem cmdsR_ck(h:okR t path l f=true):Wd (zz t path l f).1/\Fnd t path (zz t path l f).1/\Bal (zz t path l f).1.log:=by
 obtain⟨hv,_,hl,_⟩:=ZL h;have k:=cmds_ck hv (Qi hv 483) l _ _ (λ c hc=>(Zq (hl c hc)).1) (Xo hp h).1;refine⟨k.wd (wd_fst f),k.fnd (fnd_fst f),?_⟩;obtain⟨x,h1,h2⟩:=k.log;rw[h1];exact h2
theorem last_import(h:okR t path l f=true){k:Nat}(hk:k+1=l.length)(hc:l[k]?=some c)(h0:c.kind=0)(he:(zz t path l f).2[k]?=some 0):∃ m∈(zz t path l f).1.mods,hits c.name m=true:=by
 obtain⟨l0,rfl⟩:∃ l0,l=l0++[c]:=⟨l.take k,by
  obtain⟨hlt,hc⟩:=List.getElem?_eq_some_iff.1 hc;rw[← hc,List.take_append_getElem,hk,List.take_length]⟩
 have hk:k=l0.length:=by simpa using hk
 obtain⟨hv,_,hl,hn,_⟩:=ZL h;have h1:okR t path l0 f=true:=okR_of h (λ x hx=>hl x (List.mem_append_left _ hx)) (by rw[List.length_append] at hn;omega);obtain⟨q,hq,e⟩:=Ju hp h1 h;rw[Je] at hq;obtain⟨r,hr,hq⟩:=bs hq;injection hq with hq;subst hq;rw[e] at he ⊢;have len:=(Xo hp h1).2.2.1;have he:r.2=0:=by
  simp only at he;rw[List.getElem?_append_right (by omega),len,hk,Nat.sub_self] at he;injection he
 unfold cmdF at hr;rw[if_pos h0] at hr;obtain⟨w,hw,hr⟩:=bs hr;injection hr with hr;subst hr;obtain⟨m,m1,m2⟩:=(Qi hv 483 _ _ _ (Zq (hl c (by simp))).1 hw).2 he;exact⟨m,List.mem_of_getElem? m1,m2⟩
theorem run_twice(h:okR t path l f=true)(h':okR t path (l++[⟨0,s⟩]) f=true)(hin:∃ m∈(zz t path l f).1.mods,hits s m=true):zz t path (l++[⟨0,s⟩]) f=((zz t path l f).1.hit (cix (zz t path l f).1 s).toNat s,(zz t path l f).2++[0]):=by
 obtain⟨q,hq,e⟩:=Ju hp h h';rw[Je] at hq;unfold cmdF at hq;rw[if_pos rfl,imp_again (n:=482) hin] at hq;injection hq with hq;rw[e,← hq]
end
theorem new_named(hv:zR t=true)(hI:ImpTr t path I){sp:Spec}(hk:sp.kind≠0){r:RSt×Int×Int}(hr:newF t path I a s sp=some r):∃ m,r.1.mods[a.mods.length]?=some m/\m.name=s:=by
 unfold newF at hr;rw[if_neg hk] at hr;obtain⟨q,hq,hr⟩:=bs hr;obtain⟨y,y1,y2⟩:=(run_tr hv hI hq).kept _ _ (Qh a s sp);split at hr
 ·
  injection hr with hr;subst hr;obtain⟨m,k1,k2,_⟩:=(upd_sn (a:=q.1) (b:=q.1.fail a.mods.length s) (f:=λ m=>{ m with cached:=false }) (λ _=>⟨rfl,λ h=>by cases h⟩) rfl).2 _ _ y1;exact⟨m,k1,k2.trans y2.name⟩
 ·
  injection hr with hr;subst hr;obtain⟨m1,k1,k2⟩:=Jt _ a.mods.length s y1;obtain⟨m2,k3,k4⟩:=Wh _ a.mods.length s k1;exact⟨m2,k3,k4.name.trans (k2.name.trans y2.name)⟩
theorem forget_import(hv:zR t=true)(w:Wd a)(g:Fnd t path a)(hs:zg s=true)(hin:∃ m∈a.mods,hits s m=true)(hup:zj s=emptyS\/∃ m∈a.mods,hits (zj s) m=true){r:RSt×Int×Int}(hr:imp t path 483 (a.forget (cix a s).toNat) s=some r):∃ m,r.1.mods[a.mods.length]?=some m/\m.name=s:=by
 have g':Fnd t path (a.forget (cix a s).toNat):=(forget_ck a _).fnd g;have hlen:(a.forget (cix a s).toNat).mods.length=a.mods.length:=jC ..;obtain⟨m0,k1,k2⟩:=cix_has (Q1 hin).2;have gone:∀ m∈(a.forget (cix a s).toNat).mods,hits s m=false:=λ m hm=>by
  obtain⟨i,hi⟩:=List.getElem?_of_mem hm;obtain⟨y,y1,y2⟩:=Xm hi;rcases y2 with⟨rfl,y2⟩ | ⟨_,rfl⟩
  ·
   cases hh:hits s m with
   | false=>rfl
   |
    true=>
    obtain⟨a1,a2⟩:=jE.1 hh;obtain⟨b1,b2⟩:=jE.1 k2;exact absurd (w.dist i _ m m0 y1 k1 a2 b2 (a1.trans b1.symm)) y2
  ·
   unfold hits;simp
 have hc:cmpI .geq (cix (a.forget (cix a s).toNat) s) 0=false:=by
  rcases xx (a.forget (cix a s).toNat) s with⟨e,_⟩ | ⟨k,m,_,e2,e3,e4⟩
  ·
   rw[e];rfl
  ·
   have:=gone m (List.mem_of_getElem? e2);rw[jE.2 ⟨e3,e4⟩] at this;cases this
 have hf:(find t.files path s).kind≠0:=by
  obtain⟨_,f1,_,f3⟩:=g _ m0 k1;rw[(jE.1 k2).1] at f1;rw[← f1];exact f3
 have hr:impF t path (imp t path 482) (a.forget (cix a s).toNat) s=some r:=hr;unfold impF at hr;rw[hc,if_neg (by decide)] at hr;by_cases hp:zj s=emptyS
 ·
  rw[if_pos hp,Option.bind_some] at hr;simp only at hr;rw[if_neg (by decide),hc,if_neg (by decide)] at hr;rw[← hlen];exact new_named hv (Qi hv 482) (by rw[Xn g' hs (.inl hp)];exact hf) hr
 ·
  have hpin:∃ m∈(a.forget (cix a s).toNat).mods,hits (zj s) m=true:=by
   rcases hup with h | ⟨m,h1,h2⟩
   ·
    exact absurd h hp
   ·
    obtain⟨j,hj⟩:=List.getElem?_of_mem h1;refine⟨m,List.mem_of_getElem? (i:=j) ?_,h2⟩;show(updA a.mods _ _)[j]?=_;rw[YK,if_neg]
    ·
     exact hj
    ·
     intro e;rw[← e,hj] at k1;injection k1 with k1;have h3:=(jE.1 h2).1;rw[k1,(jE.1 k2).1] at h3;have:=(j7 hs hp).1;rw[← h3] at this;omega
  rw[if_neg hp,imp_again (n:=481) hpin,Option.bind_some] at hr;simp only at hr;rw[if_neg (by decide),show cix ((a.forget (cix a s).toNat).hit (cix (a.forget (cix a s).toNat) (zj s)).toNat (zj s)) s=cix (a.forget (cix a s).toNat) s from rfl,hc,if_neg (by decide)] at hr;rw[← hlen];exact new_named (a:=(a.forget (cix a s).toNat).hit (cix (a.forget (cix a s).toNat) (zj s)).toNat (zj s)) hv (Qi hv 482) (by rw[Xn (a:=(a.forget (cix a s).toNat).hit (cix (a.forget (cix a s).toNat) (zj s)).toNat (zj s)) g' hs (.inr hpin)];exact hf) hr
open Go.RowKit
variable{t:Tree}{path:List Int}{s:Str}{l:List GCmd}{f:Int}
theorem equalInts_eq{x y:List Int}(h:x.length<=288230376151711744):xa x y=some (decide (x=y)):=by
 unfold xa;refine eqS_list (λ k hk hk2=>?_) ?_ (by omega)
 ·
  unfold jh;simp only[lss_at hk,if_true,zaq hk,zaq hk2,Option.bind_some,z7 (show k<4611686018427387904 by omega)];by_cases e:x[k]=y[k] <;> simp[e,cmpI]
 ·
  unfold jh;rw[lss_end];rfl
theorem Jv{x:List Int}(h:x.length<=288230376151711744):xa x x=some true:=by rw[equalInts_eq h];simp
theorem equalAttrs_eq{x y:List GAttr}(h:x.length<=288230376151711744):ja x y=some (decide (x=y)):=by
 unfold ja;refine eqS_list (λ k hk hk2=>?_) ?_ (by omega)
 ·
  unfold wU;simp only[lss_at hk,if_true,zaq hk,zaq hk2,Option.bind_some,z7 (show k<4611686018427387904 by omega)];by_cases e:x[k]=y[k] <;> simp[e]
 ·
  unfold wU;rw[lss_end];rfl
theorem same_attrs{x:List GAttr}(h:x.length<=288230376151711744):ja x x=some true:=by rw[equalAttrs_eq h];simp
theorem zbz{x y:List GEvent}(h:x.length<=288230376151711744):wH x y=some (decide (x=y)):=by
 unfold wH;refine eqS_list (λ k hk hk2=>?_) ?_ (by omega)
 ·
  unfold wA;simp only[lss_at hk,if_true,zaq hk,zaq hk2,Option.bind_some,z7 (show k<4611686018427387904 by omega)];by_cases e:x[k]=y[k] <;> simp[e]
 ·
  unfold wA;rw[lss_end];rfl
theorem same_events{x:List GEvent}(h:x.length<=288230376151711744):wH x x=some true:=by rw[zbz h];simp
theorem law_of_drawR{c:List UInt8}{D:Option (Tree×List Int×List GCmd×Int)}{F:Tree×List Int×List GCmd×Int->Option Bool}(hD:∃ t path l f,D=some (t,path,l,f)/\smT 11 5 t/\path.length<=3/\l.length<=6/\∀ x∈l,x.name.l.length<=64)
  (h:∀ t path l f,YN t->path.length<=1048576->l.length<=6->(∀ x∈l,sho x.name)->F (t,path,l,f)=some true):(if cmpI .gtr (c.length:Int) 1048576=true then some true else D.bind F)=some true:=by
 cases cmpI .gtr (c.length:Int) 1048576 with
 | true=>rw[if_pos rfl]
 |
  false=>
  obtain⟨t,path,l,f,e1,h1,h2,h3,h4⟩:=hD;rw[if_neg (by decide),e1,Option.bind_some];exact h t path l f h1.sm (by omega) h3 λ x hx=>by have:=h4 x hx;unfold sho;omega
theorem Jw(hp:path.length<=1048576)(h:okR t path l f=true):(zz t path l f).1.mods.length<=12120/\(zz t path l f).1.log.length<=12120/\(zz t path l f).1.out.length<=12120/\(zz t path l f).2.length=l.length/\(∀ m∈(zz t path l f).1.mods,m.roots.length<=1048576/\m.attrs.length<=16777216):=by
 obtain⟨_,h2,h3,h4⟩:=Xo hp h;have sm:=RSt.small h4 (by decide);exact⟨by unfold RSt.size at h4;omega,by unfold RSt.size at h4;omega,by unfold RSt.size at h4;omega,h3,λ m hm=>⟨h2.inv.roots m hm,h2.inv.few hm⟩⟩
theorem reload_more(hp:path.length<=1048576)(h:okR t path l f=true)(h':okR t path (l++[⟨1,s⟩]) f=true)(hin:∃ m∈(zz t path l f).1.mods,hits s m=true):
  if zj s=emptyS\/∃ m∈(zz t path l f).1.mods,hits (zj s) m=true then ∃ r e lg,zz t path (l++[⟨1,s⟩]) f=(r,(zz t path l f).2++[e])/\r.log=(zz t path l f).1.log++⟨0,s⟩::lg/\∀ (i:Nat) (m:GMod),(zz t path l f).1.mods.length<=i->r.mods[i]?=some m->m.name≠s
  else zz t path (l++[⟨1,s⟩]) f=((zz t path l f).1,(zz t path l f).2++[1]):=by
 obtain⟨hv,_,hl,_⟩:=ZL h';have hs:zg s=true:=(Zq (hl ⟨1,s⟩ (by simp))).1;obtain⟨w,g,_⟩:=cmdsR_ck hp h;obtain⟨q,hq,e⟩:=Ju hp h h';rw[Je] at hq;obtain⟨r,hr,hq⟩:=bs hq;injection hq with hq;subst hq;unfold cmdF at hr;rw[if_neg (show ¬ ((⟨1,s⟩:GCmd).kind=0) by show ¬ (1:Int)=0;decide),if_neg (show ¬ ((⟨1,s⟩:GCmd).kind=2) by show ¬ (1:Int)=2;decide)] at hr;have c0:=(Q1 hin).2;split
 ·
  rename_i hup;have hup2:zj s=emptyS\/cmpI .lss (cix (zz t path l f).1 (zj s)) 0=false:=hup.imp id λ h=>(Q1 h).2
  have hk:(yI t path (zz t path l f).1 s).kind≠0:=by
   rw[Xn g hs hup];obtain⟨m,h1,h2⟩:=hin;obtain⟨i,hi⟩:=List.getElem?_of_mem h1;obtain⟨f1,f2,f3,f4⟩:=g i m hi;rw[(jE.1 h2).1] at f2;rw[← f2];exact f4
  rw[if_neg (by
   rintro (h | ⟨h1,h2⟩)
   ·
    rw[c0] at h;cases h
   ·
    rcases hup2 with h | h
    ·
     exact h1 h
    ·
     rw[h] at h2;cases h2),if_neg hk] at hr
  obtain⟨_,⟨lg,h2⟩,h3⟩:=reload_tr hv (Qi hv 483) hs c0 hup2 hk hr;exact⟨r.1,r.2,lg,e,h2,h3⟩
 ·
  rename_i hup;rw[if_pos (.inr ⟨λ e=>hup (.inl e),by
   rcases xx (zz t path l f).1 (zj s) with⟨e,_⟩ | ⟨k,m,_,k2,k3,k4⟩
   ·
    show cmpI .lss (cix (zz t path l f).1 (zj s)) 0=true;rw[e];rfl
   ·
    exact absurd ⟨m,List.mem_of_getElem? k2,jE.2 ⟨k3,k4⟩⟩ λ h=>hup (.inr h)⟩)] at hr
  injection hr with hr;subst hr;exact e
theorem forget_more(hp:path.length<=1048576)(h:okR t path l f=true)(h':okR t path (l++[⟨2,s⟩,⟨0,s⟩]) f=true)(hin:∃ m∈(zz t path l f).1.mods,hits s m=true):
  ∃ r e,zz t path (l++[⟨2,s⟩,⟨0,s⟩]) f=(r,(zz t path l f).2++[0,e])/\(zj s=emptyS\/(∃ m∈(zz t path l f).1.mods,hits (zj s) m=true)->∃ m,r.mods[(zz t path l f).1.mods.length]?=some m/\m.name=s):=by
 obtain⟨hv,_,hl,_⟩:=ZL h';have hs:zg s=true:=(Zq (hl ⟨0,s⟩ (by simp))).1;obtain⟨w,g,_⟩:=cmdsR_ck hp h;obtain⟨q,hq,e⟩:=Ju hp h h';rw[show([⟨2,s⟩,⟨0,s⟩]:List GCmd)=[⟨2,s⟩]++[⟨0,s⟩] from rfl,cmds_app,Je] at hq;have c0:=(Q1 hin).2;have hf:cmdF t path (imp t path 483) (zz t path l f).1 ⟨2,s⟩=some ((zz t path l f).1.forget (cix (zz t path l f).1 s).toNat,0):=by
  unfold cmdF;rw[if_neg (show ¬ ((⟨2,s⟩:GCmd).kind=0) by show ¬ (2:Int)=0;decide),if_pos rfl,if_neg (by
   show ¬ cmpI .lss (cix (zz t path l f).1 s) 0=true;rw[c0];decide)]
 rw[hf,Option.bind_some,Option.bind_some,Je] at hq;obtain⟨q2,hq2,hq⟩:=bs hq;injection hq with hq;subst hq;obtain⟨r,hr,hq2⟩:=bs hq2;injection hq2 with hq2;subst hq2;unfold cmdF at hr;rw[if_pos rfl] at hr;obtain⟨z,hz,hr⟩:=bs hr;injection hr with hr;subst hr;exact⟨_,_,e,λ hup=>forget_import hv w g hs hin hup hz⟩
open Go.RowKit
variable{t:Tree}{path:List Int}{s:Str}{l:List GCmd}{f:Int}
theorem zaT{r:GResult}(h1:r.modules.length<=1048576)(h2:∀ m∈r.modules,m.roots.length<=1048576/\m.attrs.length<=16777216)(h3:r.ends.length<=1048576)(h4:r.out.length<=1048576)(h5:r.log.length<=1048576):yb r r=some true:=by
 unfold yb;have hl:zW (λ s8=>xM r r s8) (0:Int)=some (.inl ()):=by
  refine Jn r.modules.length (λ k=>(k:Int)) (λ k hk=>?_) ?_ (by omega) rfl
  ·
   obtain⟨m,hm,hmem⟩:=Xh hk;obtain⟨a1,a2⟩:=h2 m hmem;unfold xM;have e1:decide (m.name≠m.name)=false:=by simp
   have e2:cmpI .neq m.kind m.kind=false:=by simp[cmpI]
   have e3:(m.cached != m.cached)=false:=by simp
   have e4:(m.done != m.done)=false:=by simp
   rw[zM,if_pos (decide_eq_true hk),zG,hm,Option.bind_some,Option.bind_some,e1,e2,e3,e4,show((false||false) == false:Bool)=true from rfl,yZ,Jv (by omega),Option.bind_some,show(((((false||false)||(!true))||false)||false) == false:Bool)=true from rfl,yZ,same_attrs (by omega),Option.bind_some,if_neg (by decide),z7 (by omega)];rfl
  ·
   unfold xM;rw[zM,if_neg (by simp)]
 rw[if_neg (by simp[cmpI]),hl,Option.bind_some,Sum.elim_inl,Jv (by omega),Option.bind_some,show((true:Bool) == true)=true from rfl,yZ,Jv (by omega),Option.bind_some,show((true&&true) == true:Bool)=true from rfl,yZ,same_events (by omega),Option.bind_some];simp[cmpI]
theorem Q2(h:okR t path l f=true):runV t path l f=resV (zz t path l f).1 (zz t path l f).2:=by unfold runV;rw[if_pos h]
theorem same_runV(hp:path.length<=1048576):yb (runV t path l f) (runV t path l f)=some true:=by
 cases h:okR t path l f with
 | false=>rw[runV_off h];exact zaT (Nat.zero_le _) (λ _ h=>by cases h) (Nat.zero_le _) (Nat.zero_le _) (Nat.zero_le _)
 |
  true=>
  obtain⟨a1,a2,a3,a4,a5⟩:=Jw hp h;obtain⟨_,_,_,b,_⟩:=ZL h;rw[Q2 h];exact zaT (by show(zz t path l f).1.mods.length<=_;omega) a5 (by show(zz t path l f).2.length<=_;omega) (by show(zz t path l f).1.out.length<=_;omega) (by show(zz t path l f).1.log.length<=_;omega)
theorem cmd_law(c:List UInt8){K:Tree×List Int×List GCmd×Int->GResult->Option Bool}(h:∀ t path l f,YN t->path.length<=1048576->l.length<=6->(∀ x∈l,sho x.name)->okR t path l f=true->K (t,path,l,f) (resV (zz t path l f).1 (zz t path l f).2)=some true):
  (if cmpI .gtr (c.length:Int) 1048576=true then some true
  else((yN c).bind λ v6=>
  (yC (scc xy) v6.1 v6.2.1 v6.2.2.1 v6.2.2.2).bind λ v14=>
  (yo (scc xy) v6.1 v6.2.1 v6.2.2.1 v6.2.2.2).bind λ v21=>
  (yb v14 v21).bind λ v22=>
  (gO ((!v22) == false) (xu v6.1)).bind λ v23=>
  (gO (((!v22)||(!v23)) == false) (xv v6.2.1)).bind λ v24=>
  (gO ((((!v22)||(!v23))||(!v24)) == false) (yM v6.2.2.1)).bind λ v25=>
  if((((((!v22)||(!v23))||(!v24))||(!v25))||cmpI .lss v6.2.2.2 (0:Int))||cmpI .gtr v6.2.2.2 (120:Int))=true then((yo (scc xy) v6.1 v6.2.1 v6.2.2.1 v6.2.2.2).bind λ v34=>
  (yb v14 v34).bind λ v35=>
  some v35)
  else K v6 v14))=some true:=by
 refine law_of_drawR (Qg c) λ t path l f ht hp hl hn=>?_
 dsimp only;have hE:=same_runV (t:=t) (l:=l) (f:=f) hp;rw[Yg ht hp (by omega) hn f,Option.bind_some,JA ht hp (by omega) hn f,Option.bind_some,hE,Option.bind_some,QR ht,QS hp,Wj (by omega) hn];have hbad:((some (runV t path l f)).bind λ v34=>(yb (runV t path l f) v34).bind λ v35=>some v35)=some true:=by rw[Option.bind_some,hE,Option.bind_some]
 cases hv:zR t with
 | false=>exact hbad
 |
  true=>
  cases hvp:wY path with
  | false=>exact hbad
  |
   true=>
   cases hc:XV l with
   | false=>exact hbad
   |
    true=>
    refine Eq.trans (b:=if(cmpI .lss f 0||cmpI .gtr f 120)=true then((some (runV t path l f)).bind λ v34=>(yb (runV t path l f) v34).bind λ v35=>some v35) else K (t,path,l,f) (runV t path l f)) rfl ?_;split
    ·
     exact hbad
    ·
     rename_i hf;have hok:okR t path l f=true:=by
      unfold okR;rw[hv,hvp,hc];simp[cmpI] at hf ⊢;omega
     rw[Q2 hok];exact h t path l f ht hp hl hn hok
theorem any_nextC{α:Type}{l:List α}{k:Nat}{x:α}{p:α->Bool}(hx:l[k]?=some x):(l.take (k+1)).any p=((l.take k).any p||p x):=by
 rw[List.take_add_one,hx,List.any_append];simp
open Go.RowKit
variable{t:Tree}{path:List Int}{s:Str}{l:List GCmd}{f:Int}
theorem last_law{ends:List Int}{X:Option Bool}(b:Bool)(he:ends.length=l.length)(hl:l.length<=1048576)(hX:∀ c:GCmd,0<l.length->b=false->l[l.length - 1]?=some c->c.kind=0->ends[l.length - 1]?=some 0->X=some true):
  ((gO ((cmpI .eql (l.length:Int) (0:Int)||b) == false) (i64 ((l.length:Int) - (1:Int)))).bind λ v44=>
  (gO ((cmpI .eql (l.length:Int) (0:Int)||b) == false) (atI l v44)).bind λ v45=>
  (gO (((cmpI .eql (l.length:Int) (0:Int)||b)||cmpI .neq v45.kind (0:Int)) == false) (i64 ((l.length:Int) - (1:Int)))).bind λ v46=>
  (gO (((cmpI .eql (l.length:Int) (0:Int)||b)||cmpI .neq v45.kind (0:Int)) == false) (atI ends v46)).bind λ v47=>
  if(((cmpI .eql (l.length:Int) (0:Int)||b)||cmpI .neq v45.kind (0:Int))||cmpI .neq v47 (0:Int))=true then(some true) else X)=some true:=by
 cases hz:cmpI .eql (l.length:Int) 0 with
 | true=>rfl
 |
  false=>
  cases b with
  | true=>rfl
  |
   false=>
   have hpos:0<l.length:=by
    have:¬ (l.length:Int)=0:=by simpa[cmpI] using hz
    omega
   obtain⟨c,hc,_⟩:=Xh (l:=l) (k:=l.length - 1) (by omega);obtain⟨e,he2,_⟩:=Xh (l:=ends) (k:=l.length - 1) (by omega);have i1:i64 ((l.length:Int) - 1)=some ((l.length - 1:Nat):Int):=by rw[xU (by omega) (by omega),show(l.length:Int) - 1=((l.length - 1:Nat):Int) by omega]
   rw[show((false||false) == false:Bool)=true from rfl,yZ,i1,Option.bind_some,yZ,zG,hc,Option.bind_some];cases hk:cmpI .neq c.kind 0 with
   | true=>rfl
   |
    false=>
    rw[show(((false||false)||false) == false:Bool)=true from rfl,yZ,Option.bind_some,yZ,zG,he2,Option.bind_some];cases hk2:cmpI .neq e 0 with
    | true=>rfl
    |
     false=>
     have h0:c.kind=0:=by simpa[cmpI] using hk
     have h1:e=0:=by simpa[cmpI] using hk2
     subst h1;exact hX c hpos rfl hc h0 he2
theorem zaD(hp:path.length<=1048576)(h:okR t path l f=true){c:GCmd}(hpos:0<l.length)(hc:l[l.length - 1]?=some c)(h0:c.kind=0)(he:(zz t path l f).2[l.length - 1]?=some 0):zg c.name=true/\c=⟨0,c.name⟩/\∃ m∈(zz t path l f).1.mods,hits c.name m=true:=by
 obtain⟨_,_,hl,_⟩:=ZL h;refine⟨(Zq (hl c (List.mem_of_getElem? hc))).1,?_,last_import hp h (by omega) hc h0 he⟩;cases c;subst h0;rfl
theorem Q3{k:Int}(h0:0<=k)(h2:k<=2)(hs:zg s=true):Yf ⟨k,s⟩=true:=by
 unfold Yf;rw[hs];simp[cmpI];omega
theorem sho_more{l':List GCmd}(h:∀ x∈l,sho x.name)(h':∀ x∈l',x.name=s)(hs:sho s):∀ x∈l++l',sho x.name:=λ x hx=>(List.mem_append.1 hx).elim (h x) λ hx=>by rw[h' x hx];exact hs
theorem zbA{mods:List GMod}{p:Str}{step:Bool×Int->Option ((Bool×Int)⊕Bool)}(hl:mods.length<=1048576)
  (hstep:∀ (b:Bool) (k:Nat),step (b,(k:Int))=if cmpI .lss (k:Int) (mods.length:Int)=true then((gO (b == false) (atI mods (k:Int))).bind λ v=>(gO ((b == false)&&(decide (v.name=p) == true)) (atI mods (k:Int))).bind λ u=>(i64 ((k:Int)+(1:Int))).bind λ z=>some (.inl ((b||(decide (v.name=p)&&u.cached)),z))) else some (.inr b)) (b0:Bool):
  zW step (b0,(0:Int))=some (b0||mods.any (λ y=>decide (y.name=p)&&y.cached)):=by
 refine Jn mods.length (λ k=>((b0||(mods.take k).any (λ y=>decide (y.name=p)&&y.cached)),(k:Int))) (λ k hk=>?_) ?_ (by omega) (by simp)
 ·
  obtain⟨y,hy,_⟩:=Xh hk;rw[hstep,zM,if_pos (decide_eq_true hk),zG,hy,any_nextC hy,← Bool.or_assoc,z7 (by omega)];generalize (b0||(mods.take k).any (λ y=>decide (y.name=p)&&y.cached))=b;cases b with
  | true=>rfl
  |
   false=>
   rw[show((false:Bool) == false)=true from rfl,yZ,Option.bind_some,xe,Option.bind_some,Option.bind_some];cases decide (y.name=p) <;> rfl
 ·
  rw[hstep,zM,if_neg (by simp),List.take_length]
theorem zaE{a:RSt}{s:Str}:(decide (zj s=(⟨[]⟩:Str))||a.mods.any (λ y=>decide (y.name=zj s)&&y.cached))=true ↔ (zj s=emptyS\/∃ m∈a.mods,hits (zj s) m=true):=by
 rw[Bool.or_eq_true,decide_eq_true_iff,List.any_eq_true];refine or_congr Iff.rfl ?_;constructor
 ·
  rintro ⟨m,h1,h2⟩
  rw[Bool.and_eq_true,decide_eq_true_iff] at h2;exact⟨m,h1,jE.2 h2⟩
 ·
  rintro ⟨m,h1,h2⟩
  refine⟨m,h1,?_⟩;rw[Bool.and_eq_true,decide_eq_true_iff];exact jE.1 h2
end Go.Proofs.YtnlhpkbphdbknaaGreatDoor
