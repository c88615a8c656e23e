import Derived.Test.YtnlhpkbphdbknaaGreatDoorRQ
namespace Go.Proofs.YtnlhpkbphdbknaaGreatDoor
open Go.RowKit
def RSt.forget(st:RSt)(k:Nat):RSt:={ st with mods:=updA st.mods k (λ m=>{ m with cached:=false }) }
def RSt.again(st:RSt)(k:Nat)(sp:Spec):RSt:={ st with mods:=updA st.mods k (λ m=>{ m with kind:=sp.kind,roots:=sp.roots }) }
section
variable(t:Tree)(path:List Int)
def cmdF(I:RImp)(st:RSt)(c:GCmd):Option (RSt×Int):=
 if c.kind=0 then(I st c.name).bind λ r=>some (r.1,r.2.2)
 else if c.kind=2 then(if cmpI .lss (cix st c.name) 0=true then some (st,1) else some (st.forget (cix st c.name).toNat,0))
 else if cmpI .lss (cix st c.name) 0=true\/(zp c.name≠emptyS/\cmpI .lss (cix st (zp c.name)) 0=true) then some (st,1)
 else if(yG t path st c.name).kind=0 then some (st,1)
 else(runF t path I ((st.again (cix st c.name).toNat (yG t path st c.name)).note 0 c.name) (cix st c.name).toNat (yG t path st c.name)).bind λ r=>some (r.1.note (if r.2=0 then 1 else 2) c.name,r.2)
def ZO(I:RImp):List GCmd->RSt->Option (RSt×List Int)
 | [],st=>some (st,[])
 | c::cs,st=>(cmdF t path I st c).bind λ r=>(ZO I cs r.1).bind λ q=>some (q.1,r.2::q.2)
end
variable{t:Tree}{path:List Int}{st:RSt}{n:Nat}{R:Rec}{I:RImp}{c:GCmd}
theorem Inv.forget(h:Inv st)(k:Nat):Inv (st.forget k):=h.upd (f:=λ m=>{ m with cached:=false }) (lg:=st.log) (o:=st.out) (λ _=>rfl) h.roots h.parts h.apart
theorem Inv.again(h:Inv st)(k:Nat){sp:Spec}(hr:sp.roots.length<=1048576):Inv (st.again k sp):=h.upd (f:=λ m=>{ m with kind:=sp.kind,roots:=sp.roots }) (lg:=st.log) (o:=st.out) (λ _=>rfl) (λ _ _=>hr) h.parts h.apart
theorem Qt(st:RSt)(k:Nat)(sp:Spec):(st.again k sp).size=st.size:=by unfold RSt.size RSt.again;simp[jY]
theorem size_forget(st:RSt)(k:Nat):(st.forget k).size=st.size:=by unfold RSt.size RSt.forget;simp[jY]
theorem zaG(st:RSt)(k:Int)(s:Str):(st.note k s).size=st.size+1:=by unfold RSt.size RSt.note;simp only[List.length_append,List.length_cons,List.length_nil];omega
structure CmdPost(st:RSt)(c:Nat)(r:RSt):Prop where
 inv:Inv r
 left:r.left<=st.left
 size:r.size<=st.size+c
theorem cmd_ok(hv:zP t=true)(hp:path.length<=1048576)(hI:qv n I)(h:Inv st)(hn:4*st.left.toNat+3<=n)(hc:zg c.name=true):∃ r,cmdF t path I st c=some r/\CmdPost st 12 r.1:=by
 have h0:∀ {e:Int},∃ r,some (st,e)=some r/\CmdPost st 12 r.1:=⟨_,rfl,h,Int.le_refl _,Nat.le_add_right _ _⟩;have hpl:=jD hc;unfold cmdF;split
 ·
  obtain⟨r,hr,hk⟩:=hI st _ h hc (by omega);rw[hr];have:=hk.size;exact⟨_,rfl,hk.inv,hk.grow.left,by simp only;omega⟩
 ·
  split
  ·
   split
   ·
    exact h0
   ·
    exact⟨_,rfl,h.forget _,Int.le_refl _,by simp only[size_forget];omega⟩
  ·
   split
   ·
    exact h0
   ·
    split
    ·
     exact h0
    ·
     have hi:=(h.again (cix st c.name).toNat (YA (t:=t) h hp c.name)).note 0 c.name;obtain⟨r,hr,hb⟩:=zaz (path:=path) hv hI hi (by show 4*st.left.toNat<=n+1;omega) (cix st c.name).toNat (yG t path st c.name);have hs:=hb.size;rw[zaG,Qt] at hs;rw[hr];exact⟨_,rfl,hb.inv.note _ _,hb.grow.left,by simp only[zaG];omega⟩
theorem cmds_ok(hv:zP t=true)(hp:path.length<=1048576)(hI:qv n I):∀ (l:List GCmd) (st:RSt),Inv st->4*st.left.toNat+3<=n->(∀ c∈l,zg c.name=true)->∃ r,ZO t path I l st=some r/\CmdPost st (12*l.length) r.1/\r.2.length=l.length
 | [],st,h,_,_=>⟨_,rfl,⟨h,Int.le_refl _,Nat.le_refl _⟩,rfl⟩
 |
  c::cs,st,h,hn,hl=>by
  obtain⟨r,hr,h1⟩:=cmd_ok hv hp hI h hn (hl c (List.mem_cons_self ..));have:=h1.left;have:=h1.inv.left;have:=h.left;obtain⟨q,hq,h2,h3⟩:=cmds_ok hv hp hI cs r.1 h1.inv (by omega) λ x hx=>hl x (List.mem_cons_of_mem _ hx)
  have s1:=h1.size;have s2:=h2.size;have l2:=h2.left;unfold ZO;rw[hr,Option.bind_some,hq];exact⟨_,rfl,⟨h2.inv,by simp only;omega,by simp only[List.length_cons];omega⟩,by simp only[List.length_cons];omega⟩
theorem mach_upd{k:Nat}{m:GMod}(hm:st.mods[k]?=some m)(f:GMod->GMod):({ mach t path st with modules:=(bxs st.mods).set k ⟨f m⟩ }:Machine)=mach t path { st with mods:=updA st.mods k f }:=by
 rw[XI,← qG f hm];rfl
theorem run_eq(ht:Good t)(hp:path.length<=1048576)(hL:XY t path n R I)(hB:BodyEq t path n R I)(h:Inv st)(hn:4*st.left.toNat+3<=n)(hle:st.left<=1000000)(hsz:st.size<=19990)(hc:zg c.name=true)(_hk:c.kind=0\/c.kind=1\/c.kind=2){r:RSt×Int}(hr:cmdF t path I st c=some r):wH R (mach t path st) c=some (mach t path r.1,r.2):=by
 have sm:=RSt.small hsz (by decide);have hpl:=jD hc;unfold cmdF at hr;unfold wH;rw[Z2 sm.mods,Option.bind_some];by_cases h0:c.kind=0
 ·
  rw[if_pos h0] at hr;obtain⟨q,hq,hr⟩:=bs hr;injection hr with hr;subst hr;rw[if_pos (xT h0),hL st _ q h hc (by omega) (by omega) hq];rfl
 ·
  rw[if_neg h0] at hr;rw[if_neg (by rw[xL h0];decide)];by_cases h2:c.kind=2
  ·
   rw[if_pos h2] at hr;rw[if_pos (xT h2)];rcases wv st c.name with⟨k1,_⟩ | ⟨k,m,k1,k2,_,_⟩
   ·
    rw[k1,YY,if_pos rfl] at hr;injection hr with hr;subst hr;rw[k1,YY,if_pos rfl]
   ·
    rw[k1,qw,if_neg (by decide),Int.toNat_natCast] at hr;injection hr with hr;subst hr;rw[k1,qw,if_neg (by decide),show(mach t path st).modules=bxs st.mods from rfl,zK,wY k2,Option.bind_some,Int.toNat_natCast,wY k2,Option.bind_some,mach_upd k2 (λ m=>{ m with cached:=false })];rfl
  ·
   rw[if_neg h2] at hr;rw[if_neg (by rw[xL h2];decide),Zs hc,Option.bind_some];rcases wv st c.name with⟨k1,_⟩ | ⟨k,m,k1,k2,k3,k4⟩
   ·
    rw[k1,YY,if_pos (.inl rfl)] at hr;injection hr with hr;subst hr;rw[k1,YY,show((true == false)&&(decide (zp c.name≠(⟨[]⟩:Str)) == true))=false from rfl,jC,Option.bind_some,Bool.true_or,if_pos rfl]
   ·
    rw[k1,qw,Int.toNat_natCast] at hr;rw[k1,qw];have hm:=h.at_ k2;have key:(zp c.name=emptyS\/cmpI .lss (cix st (zp c.name)) 0=false)->(if(yG t path st c.name).kind=0 then some (st,(1:Int)) else(runF t path I ((st.again k (yG t path st c.name)).note 0 c.name) k (yG t path st c.name)).bind λ r=>some (r.1.note (if r.2=0 then 1 else 2) c.name,r.2))=some r->
      ((yz (mach t path st) c.name).bind λ v43=>if(cmpI .eql v43.2.kind (0:Int))=true then(some (v43.1,(1:Int))) else((atI v43.1.modules (k:Int)).bind λ v55=>(v43.1.modules[(k:Int).toNat]?).bind λ v57=>(atI (v43.1.modules.set (k:Int).toNat ⟨{ v57.x with kind:=v43.2.kind }⟩) (k:Int)).bind λ v63=>(appO 8 [] v43.2.roots).bind λ v64=>((v43.1.modules.set (k:Int).toNat ⟨{ v57.x with kind:=v43.2.kind }⟩)[(k:Int).toNat]?).bind λ v65=>(R.impl_machine_body ({ v43.1 with modules:=((v43.1.modules.set (k:Int).toNat ⟨{ v57.x with kind:=v43.2.kind }⟩).set (k:Int).toNat ⟨{ v65.x with roots:=v64 }⟩) }) (k:Int) v43.2).bind λ v73=>some (v73.1,v73.2)))=some (mach t path r.1,r.2):=λ _ hr=>by
     rw[look_eq ht hp h sm hc,Option.bind_some];by_cases hz:(yG t path st c.name).kind=0
     ·
      rw[if_pos hz] at hr;injection hr with hr;subst hr;rw[if_pos (xT hz)]
     ·
      rw[if_neg hz] at hr;have hrl:=YA (t:=t) h hp c.name;have hlk:=zw k2;rw[if_neg (by rw[xL hz];decide)];dsimp only;rw[show(mach t path st).modules=bxs st.mods from rfl,zK,wY k2,Option.bind_some,Int.toNat_natCast,wY k2,Option.bind_some,XI,zK,wY (List.getElem?_set_self hlk),Option.bind_some,yQ (by simp;omega) (by simp;omega),Option.bind_some,List.nil_append,Option.bind_some,XI,List.set_set];obtain⟨q,hq,hr⟩:=bs hr;injection hr with hr;subst hr;have hst:({ mach t path st with modules:=bxs (st.mods.set k { { m with kind:=(yG t path st c.name).kind } with roots:=(yG t path st c.name).roots }) }:Machine)=mach t path (st.again k (yG t path st c.name)):=by
       unfold RSt.again;rw[qG _ k2];rfl
      have hk5:(st.again k (yG t path st c.name)).mods[k]?=some { m with kind:=(yG t path st c.name).kind,roots:=(yG t path st c.name).roots }:=by
       unfold RSt.again;show(updA st.mods k _)[k]?=_;rw[qG _ k2,List.getElem?_set_self hlk]
      have hb:=hB (st.again k (yG t path st c.name)) k _ (yG t path st c.name) q (h.again k hrl) (by show 4*st.left.toNat<=n+1;omega) hle (by rw[Qt];omega) hk5 (JO c.name) (by
       show runF t path I ((st.again k (yG t path st c.name)).note 0 m.name) k _=some q;rw[k3];exact hq)
      rw[hst];have hb':R.impl_machine_body (mach t path (st.again k (yG t path st c.name))) (k:Int) (yG t path st c.name)=some (mach t path (q.1.note (if q.2=0 then 1 else 2) c.name),q.2):=by
       rw[hb];show some (mach t path (q.1.note (if q.2=0 then 1 else 2) m.name),q.2)=_;rw[k3]
      rw[hb',Option.bind_some]
    by_cases hpar:zp c.name=emptyS
    ·
     rw[if_neg λ e:(false=true\/_)=>e.elim (λ e=>Bool.noConfusion e) λ e=>e.1 hpar] at hr;rw[show((false == false)&&(decide (zp c.name≠(⟨[]⟩:Str)) == true))=false by rw[hpar];rfl,jC,Option.bind_some,show(false||(decide (zp c.name≠(⟨[]⟩:Str))&&cmpI .lss (default:Int) 0))=false by rw[hpar];rfl,if_neg (by decide)];exact key (.inl hpar) hr
    ·
     have hd:decide (zp c.name≠(⟨[]⟩:Str))=true:=decide_eq_true hpar;rw[hd,show((false == false)&&(true == true))=true from rfl,yX,Z2 sm.mods,Option.bind_some];cases hl:cmpI .lss (cix st (zp c.name)) 0 with
     |
      true=>
      rw[if_pos (.inr ⟨hpar,hl⟩)] at hr;injection hr with hr;subst hr;rw[if_pos (show(false||true&&true)=true from rfl)]
     |
      false=>
      rw[if_neg λ e:(false=true\/_)=>e.elim (λ e=>Bool.noConfusion e) λ e=>Bool.noConfusion (hl.symm.trans e.2)] at hr;rw[if_neg (by decide)];exact key (.inr hl) hr
open Go.RowKit
variable{t:Tree}{path:List Int}{st:RSt}{n:Nat}{R:Rec}{I:RImp}{c:GCmd}
def stepC{σ:Type}(run:σ->GCmd->Option (σ×Int))(l:List GCmd)(s:σ×List Int×Int):Option ((σ×List Int×Int)⊕(σ×List Int)):=
 if cmpI .lss s.2.2 (l.length:Int)=true then(atI l s.2.2).bind λ a=>(run s.1 a).bind λ b=>(appO 8 s.2.1 [b.2]).bind λ c=>(i64 (s.2.2+1)).bind λ d=>some (.inl (b.1,c,d)) else some (.inr (s.1,s.2.1))
def Y1(c:GCmd):Bool:=cmpI .geq c.kind 0&&cmpI .leq c.kind 2&&zg c.name
theorem YS(h:Y1 c=true):zg c.name=true/\(c.kind=0\/c.kind=1\/c.kind=2):=by
 unfold Y1 at h;simp only[Bool.and_eq_true,cmpI,decide_eq_true_eq] at h;exact⟨h.2,by omega⟩
theorem zaH{σ:Type}{run:σ->GCmd->Option (σ×Int)}{Rp:RSt->σ->Prop}(hv:zP t=true)(hp:path.length<=1048576)(hI:qv n I)
  (hrun:∀ (st:RSt) (s:σ) (c:GCmd) (r:RSt×Int),Inv st->4*st.left.toNat+3<=n->st.left<=1000000->st.size<=19990->Y1 c=true->Rp st s->cmdF t path I st c=some r->∃ s',run s c=some (s',r.2)/\Rp r.1 s')
  (l:List GCmd) (hl:∀ c∈l,Y1 c=true) (hlen:l.length<=20):∀ (m i:Nat) (st:RSt) (s:σ) (es:List Int) (r:RSt×List Int),i+m=l.length->Inv st->4*st.left.toNat+3<=n->st.left<=1000000->st.size+12*m<=19990->es.length=i->Rp st s->ZO t path I (l.drop i) st=some r->
   ∃ s',jH (stepC run l) (m+1) (s,es,(i:Int))=some (s',es++r.2)/\Rp r.1 s'
 |
  0,i,st,s,es,r,hi,_,_,_,_,_,hR,hr=>by
  have:i=l.length:=by omega
  subst this;rw[List.drop_length] at hr;unfold ZO at hr;injection hr with hr;subst hr;refine⟨s,xj ?_,hR⟩;unfold stepC;rw[zJ,if_neg (by simp),List.append_nil]
 |
  m+1,i,st,s,es,r,hi,h,hn,hle,hsz,he,hR,hr=>by
  have hlt:i<l.length:=by omega
  rw[List.drop_eq_getElem_cons hlt] at hr;unfold ZO at hr;obtain⟨q,hq,hr⟩:=bs hr;obtain⟨w,hw,hr⟩:=bs hr;injection hr with hr;subst hr;have hc:=hl _ (List.getElem_mem hlt);obtain⟨q',hq',h1⟩:=cmd_ok hv hp hI h hn (YS hc).1;rw[hq] at hq';injection hq' with hq';subst hq';obtain⟨s1,hs1,hR1⟩:=hrun st s _ q h hn hle (by omega) hc hR hq;have:=h1.left;have:=h1.inv.left;have:=h.left;have s2:=h1.size;obtain⟨s',hs',hR'⟩:=zaH hv hp hI hrun l hl hlen m (i+1) q.1 s1 (es++[q.2]) w (by omega) h1.inv (by omega) (by omega) (by omega) (by rw[List.length_append];simp[he]) hR1 hw;refine⟨s',?_,hR'⟩;rw[qt (s':=(s1,es++[q.2],((i+1:Nat):Int))),hs',List.append_assoc]
  ·
   rfl
  ·
   unfold stepC;rw[zJ,if_pos (decide_eq_true hlt),zK,List.getElem?_eq_getElem hlt,Option.bind_some,hs1,Option.bind_some,yQ (by simp only[List.length_cons,List.length_nil];omega) (by simp only[List.length_cons,List.length_nil];omega),Option.bind_some,z7 (by omega)];rfl
theorem fold_copy(l:List GMod):∀ o:List GMod,l.foldl (λ o m=>o++[m]) o=o++l:=by
 induction l with
 | nil=>intro o;simp
 | cons a l ih=>intro o;rw[List.foldl_cons,ih];simp
theorem copy_fold{step:List GMod×Int->Option ((List GMod×Int)⊕List GMod)}(l:List GMod)(hl:l.length<=1048576)
  (h:∀ i out m,l[i]?=some m->i<l.length->out.length<=1048576->step (out,(i:Int))=some (.inl (out++[m],((i+1:Nat):Int))))
  (hend:∀ out,step (out,(l.length:Int))=some (.inr out)):zU step (([]:List GMod),(0:Int))=some l:=by
 have key:=JI (step:=step) l (λ(o:List GMod) i=>(o,(i:Int))) (λ o m=>o++[m]) (λ o=>o) (λ i o=>o.length<=i)
  (λ i o m he hi ho=>⟨h i o m he hi (by omega),by rw[List.length_append];show o.length+1<=_;omega⟩) (λ o _=>hend o) (s0:=[]) (Nat.zero_le _) (by omega)
 rw[fold_copy,List.nil_append] at key;exact key
def resV(st:RSt)(es:List Int):GResult:=⟨es,st.out,st.log,st.mods,st.left⟩
theorem result_eq(h:Inv st)(hs:Small st)(es:List Int):xG (mach t path st) es=some (resV st es):=by
 have hm:=hs.mods;have ho:=hs.out;have hg:=hs.log;have hl:zU (λ s16=>yH (mach t path st) s16) ((⟨es,st.out,st.log,[],st.left⟩:GResult),(0:Int))=some (resV st es):=by
  have key:=JI (step:=λ s16=>yH (mach t path st) s16) st.mods (λ(o:List GMod) i=>((⟨es,st.out,st.log,o,st.left⟩:GResult),(i:Int))) (λ o m=>o++[m]) (λ o=>(⟨es,st.out,st.log,o,st.left⟩:GResult)) (λ i o=>o.length<=i)
   (λ i o x hx hi ho=>⟨by
    have hx':=h.at_ hx;unfold yH;simp only;rw[show(mach t path st).modules=bxs st.mods from rfl,show((bxs st.mods).length:Int)=(st.mods.length:Int) by unfold bxs;rw[List.length_map],zJ,if_pos (decide_eq_true hi),zK,wY hx,Option.bind_some,yQ (by simp;omega) (by simp;omega),Option.bind_some,List.nil_append,yQ (by simp;omega) (by simp;omega),Option.bind_some,List.nil_append,yQ (by simp only[List.length_cons,List.length_nil];omega) (by simp only[List.length_cons,List.length_nil];omega),Option.bind_some,z7 (by omega)];rfl,by rw[List.length_append];show o.length+1<=_;omega⟩) (λ o _=>by
    unfold yH;simp only;rw[show(mach t path st).modules=bxs st.mods from rfl,show((bxs st.mods).length:Int)=(st.mods.length:Int) by unfold bxs;rw[List.length_map],zJ,if_neg (by simp)]) (s0:=[]) (Nat.zero_le _) (by omega)
  rw[fold_copy,List.nil_append] at key;exact key
 unfold xG;rw[show(mach t path st).out=st.out from rfl,show(mach t path st).log=st.log from rfl,yQ (by simp;omega) (by simp;omega),Option.bind_some,List.nil_append,yQ (by simp;omega) (by simp;omega),Option.bind_some,List.nil_append,show(mach t path st).left=st.left from rfl,hl];rfl
def XZ(l:List GCmd):Bool:=l.all Y1&&cmpI .leq (l.length:Int) 10
def okR(t:Tree)(path:List Int)(l:List GCmd)(f:Int):Bool:=zP t&&xD path&&XZ l&&(cmpI .geq f 0&&cmpI .leq f 120)
def fst0(f:Int):RSt:=⟨[],[],[],f,[]⟩
def zT(t:Tree)(path:List Int)(l:List GCmd)(f:Int):RSt×List Int:=(ZO t path (imp t path 483) l (fst0 f)).getD (st0,[])
def runV(t:Tree)(path:List Int)(l:List GCmd)(f:Int):GResult:=if okR t path l f=true then resV (zT t path l f).1 (zT t path l f).2 else⟨[],[],[],[],0⟩
theorem Qc(l:List GCmd):(if l.any (λ c=>!Y1 c)=true then(.inr false:Unit⊕Bool) else .inl ())=if l.all Y1=true then .inl () else .inr false:=by
 induction l with
 | nil=>rfl
 |
  cons a l ih=>
  rw[List.any_cons,List.all_cons];cases Y1 a
  ·
   rfl
  ·
   simpa using ih
theorem Wl{l:List GCmd}(hl:l.length<=1048576)(hn:∀ c∈l,sho c.name):yE l=some (XZ l):=by
 have h1:zU (λ s4=>xh l s4) 0=some (if l.any (λ c=>!Y1 c)=true then .inr false else .inl ()):=by
  refine Yi _ _ _ _ (λ k x hx hlt=>?_) ?_ (by omega) rfl
  ·
   unfold xh;rw[zJ,if_pos (decide_eq_true hlt),zK,hx,Option.bind_some,show yq x.kind 0 2=some (cmpI .geq x.kind 0&&cmpI .leq x.kind 2) from rfl,Option.bind_some,xO (hn x (List.mem_of_getElem? hx)),yL,Option.bind_some,z7 (by omega)];unfold Y1;cases(cmpI .geq x.kind 0&&cmpI .leq x.kind 2) <;> cases zg x.name <;> rfl
  ·
   unfold xh;rw[zJ,if_neg (by simp)]
 unfold yE XZ;rw[h1,Qc];cases l.all Y1 <;> rfl
theorem Xu{l:List GCmd}{f:Int}(h:okR t path l f=true):zP t=true/\xD path=true/\(∀ c∈l,Y1 c=true)/\l.length<=10/\0<=f/\f<=120:=by
 unfold okR XZ at h;simp only[Bool.and_eq_true,cmpI,decide_eq_true_eq] at h;exact⟨h.1.1.1,h.1.1.2,List.all_eq_true.1 h.1.2.1,by omega,by omega,by omega⟩
theorem fst0_inv{f:Int}(h:0<=f):Inv (fst0 f):=⟨(λ _ h=>by cases h),(λ _ h=>by cases h),(λ _ h=>by cases h),(λ _ h=>by cases h),h⟩
theorem Xv(hp:path.length<=1048576){l:List GCmd}{f:Int}(h:okR t path l f=true):ZO t path (imp t path 483) l (fst0 f)=some (zT t path l f)/\CmdPost (fst0 f) (12*l.length) (zT t path l f).1/\(zT t path l f).2.length=l.length/\(zT t path l f).1.size<=12120:=by
 obtain⟨hv,_,hl,hn,f0,f1⟩:=Xu h;obtain⟨r,hr,h1,h2⟩:=cmds_ok (t:=t) (path:=path) hv hp (Xr hv hp 483) l (fst0 f) (fst0_inv f0) (by show 4*f.toNat+3<=483;omega) λ c hc=>(YS (hl c hc)).1
 have:zT t path l f=r:=by unfold zT;rw[hr];rfl
 rw[this];refine⟨hr,h1,h2,?_⟩;have h3:=h1.size;have:(fst0 f).size=100*f.toNat:=by unfold RSt.size fst0;simp
 omega
theorem runV_off{l:List GCmd}{f:Int}(h:okR t path l f=false):runV t path l f=⟨[],[],[],[],0⟩:=by unfold runV;rw[h];rfl
theorem Jz(ht:Yt t)(hp:path.length<=1048576){l:List GCmd}(hl:l.length<=1048576)(hn:∀ c∈l,sho c.name)(f:Int):yV (scc xC) t path l f=some (runV t path l f):=by
 have key:okR t path l f=true->(jU t path f).bind (λ v21=>Option.bind (α:=Machine×(List Int)) (zU (λ s30=>wB (scc xC) l s30) (v21,[],(0:Int))) λ o27=>(xG o27.1 o27.2).bind λ v64=>some v64)=some (runV t path l f):=λ h=>by
  obtain⟨hv,_,hc,hlen,f0,f1⟩:=Xu h;obtain⟨h1,h2,h3,h4⟩:=Xv hp h;have hL:XY t path 483 (scc xC) (imp t path 483):=Q5 ⟨ht,hv⟩ hp 483 xC (by decide);have hB:BodyEq t path 483 (scc xC) (imp t path 483):=body_of (M:=2418) ⟨ht,hv⟩ hp (Q5 ⟨ht,hv⟩ hp 483 2418 (by decide));have hz:(fst0 f).size=100*f.toNat:=by unfold RSt.size fst0;simp
  obtain⟨s',hs',hR⟩:=zaH (Rp:=λ st s=>s=mach t path st) (run:=wH (scc xC)) hv hp (Xr hv hp 483) (λ st s c r hi hn hle hsz hk hR hr=>by
   subst hR;exact⟨_,run_eq ⟨ht,hv⟩ hp hL hB hi hn hle hsz (YS hk).1 (YS hk).2 hr,rfl⟩) l hc (by omega) l.length 0 (fst0 f) (mach t path (fst0 f)) [] (zT t path l f) (by omega) (fst0_inv f0) (by show 4*f.toNat+3<=483;omega) (by show f<=1000000;omega) (by omega) rfl rfl (by rw[List.drop_zero];exact h1)
  subst hR;have hloop:zU (λ s30=>wB (scc xC) l s30) (mach t path (fst0 f),([]:List Int),(0:Int))=some (mach t path (zT t path l f).1,(zT t path l f).2):=qu (m:=l.length+1) hs' (by omega);rw[show jU t path f=some (mach t path (fst0 f)) from rfl,Option.bind_some,hloop,Option.bind_some,result_eq h2.inv (RSt.small h4 (by decide)),Option.bind_some];unfold runV;rw[if_pos h]
 unfold yV;rw[WD ht,Option.bind_some,WE hp,yL,Option.bind_some,Wl hl hn,yL,Option.bind_some,show yq f 0 120=some (cmpI .geq f 0&&cmpI .leq f 120) from rfl,yL,Option.bind_some];by_cases hr:okR t path l f=true
 ·
  have hr':=hr;unfold okR at hr';simp only[Bool.and_eq_true] at hr';rw[hr'.1.1.1,hr'.1.1.2,hr'.1.2,hr'.2.1,hr'.2.2];exact key hr
 ·
  rw[runV_off (Bool.eq_false_iff.2 hr)];have h0:okR t path l f=false:=Bool.eq_false_iff.2 hr;unfold okR at h0
  revert h0
  generalize zP t=a;generalize xD path=b;generalize XZ l=c;generalize (cmpI .geq f 0&&cmpI .leq f 120)=d;cases a <;> cases b <;> cases c <;> cases d <;> intro h0 <;> first | rfl | cases h0
open Go.RowKit
variable{t:Tree}{path:List Int}{st:RSt}{n:Nat}{R:Rec}{I:RImp}{c:GCmd}
theorem again_at{k:Nat}{m:GMod}(h:st.mods[k]?=some m)(sp:Spec):(st.again k sp).mods=st.mods.set k { m with kind:=sp.kind,roots:=sp.roots }/\(st.again k sp).mods[k]?=some { m with kind:=sp.kind,roots:=sp.roots }:=by
 unfold RSt.again;refine⟨qG _ h,?_⟩;show(updA st.mods k _)[k]?=_;rw[qG _ h,List.getElem?_set_self (zw h)]
theorem scmd_eq(hv:zP t=true)(hp:path.length<=1048576)(hI:qv n I)(hL:ImpEq t path n R I)(hB:JP t path n R I)(h:Inv st)(hn:4*st.left.toNat+3<=n)(hle:st.left<=1000000)(hsz:st.size<=19990)(hc:zg c.name=true)(hk:c.kind=0\/c.kind=1\/c.kind=2)(e:Int){r:RSt×Int}(hr:cmdF t path I st c=some r):∃ e',qo R (rnr t path st e) c=some (rnr t path r.1 e',r.2):=by
 have sm:=RSt.small hsz (by decide);have hpl:=jD hc;have hlf:=JO (t:=t) (path:=path) (st:=st) c.name;have hlr:=YA (t:=t) h hp c.name;unfold cmdF at hr;unfold qo;rw[show({ rnr t path st e with fin:=(0:Int) }:Runner)=rnr t path st 0 from rfl];by_cases h0:c.kind=0
 ·
  rw[if_pos h0] at hr;obtain⟨q,hq,hr⟩:=bs hr;injection hr with hr;subst hr;rw[if_pos (xT h0),hL st _ q h hc (by omega) (by omega) hq];exact⟨_,rfl⟩
 ·
  rw[if_neg h0] at hr;rw[if_neg (by rw[xL h0];decide)];by_cases h2:c.kind=2
  ·
   rw[if_pos h2] at hr;rw[if_neg (by rw[h2];decide),if_pos (xT h2),Zu sm.mods,Option.bind_some];rcases wv st c.name with⟨k1,_⟩ | ⟨k,m,k1,k2,_,_⟩
   ·
    rw[k1,YY,if_pos rfl] at hr;injection hr with hr;subst hr;rw[k1,YY,if_pos rfl];exact⟨_,rfl⟩
   ·
    rw[k1,qw,if_neg (by decide),Int.toNat_natCast] at hr;injection hr with hr;subst hr;rw[k1,qw,if_neg (by decide)];simp only;rw[show(rnr t path st 0).mods=st.mods from rfl,zK,k2,Option.bind_some,Option.bind_some,Int.toNat_natCast,← qG (λ m:GMod=>{ m with cached:=false }) k2];exact⟨_,rfl⟩
  ·
   rw[if_neg h2] at hr;rw[if_pos (xT (by omega))];unfold ZS;rw[Zu sm.mods,Option.bind_some];rcases wv st c.name with⟨k1,_⟩ | ⟨k,m,k1,k2,k3,k4⟩
   ·
    rw[k1,YY,if_pos (.inl rfl)] at hr;injection hr with hr;subst hr;rw[k1,YY,if_pos rfl];exact⟨_,rfl⟩
   ·
    rw[k1,qw,Int.toNat_natCast] at hr;rw[k1,qw,if_neg (by decide),show y9 c.name=some (zp c.name) from if_pos (wa hc).mid,Option.bind_some];have key:(zp c.name=emptyS\/cmpI .lss (cix st (zp c.name)) 0=false)->(if(yG t path st c.name).kind=0 then some (st,(1:Int)) else(runF t path I ((st.again k (yG t path st c.name)).note 0 c.name) k (yG t path st c.name)).bind λ r=>some (r.1.note (if r.2=0 then 1 else 2) c.name,r.2))=some r->
      ∃ e',((wP (rnr t path st 0) c.name).bind λ v26=>
if(cmpI .eql v26.2.kind (0:Int))=true then(some ({ v26.1 with fin:=(1:Int) }))
else((yJ v26.1 (0:Int) c.name).bind λ v39=>
(atI v39.mods (k:Int)).bind λ v42=>
Option.bind (α:=Runner) (if(cmpI .geq v26.2.file (0:Int))=true then((wO ({ v39 with mods:=(v39.mods.set (k:Int).toNat ({ v42 with kind:=v26.2.kind,roots:=v26.2.roots })) }) v26.2.file).bind λ v55=>
(R.spec_runBody v55.1 (k:Int) v55.2).bind λ v58=>
some v58)
else(some ({ v39 with mods:=(v39.mods.set (k:Int).toNat ({ v42 with kind:=v26.2.kind,roots:=v26.2.roots })) }))) λ o49=>
if(cmpI .neq o49.fin (0:Int))=true then((yJ o49 (2:Int) c.name).bind λ v66=>
some v66)
else((yJ o49 (1:Int) c.name).bind λ v70=>
some v70)))=some (rnr t path r.1 e')/\e'=r.2:=λ _ hr=>by
     rw[zaB hp h sm 0 hc,Option.bind_some];generalize yG t path st c.name=sp at*;by_cases hz:sp.kind=0
     ·
      rw[if_pos hz] at hr;injection hr with hr;subst hr;rw[if_pos (xT hz)];exact⟨_,rfl,rfl⟩
     ·
      rw[if_neg hz] at hr;obtain⟨q,hq,hr⟩:=bs hr;injection hr with hr;subst hr;obtain⟨a1,a2⟩:=again_at k2 sp;have hi:=(h.again k hlr).note 0 c.name;have hz1:((st.again k sp).note 0 c.name).size=st.size+1:=by rw[zaG,Qt]
      have hrun:=srun_eq hv hB hi (show((st.again k sp).note 0 c.name).mods[k]?=some _ from a2) (by show 4*st.left.toNat<=n+1;omega) hle (by omega) hlf hq;obtain⟨q',hq',hb⟩:=zaz (path:=path) hv hI hi (by show 4*st.left.toNat<=n+1;omega) k sp;rw[hq] at hq';injection hq' with hq';subst hq';have hbs:=hb.size;rw[if_neg (by rw[xL hz];decide),XJ sm.log,Option.bind_some,show(rnr t path (st.note 0 c.name) 0).mods=st.mods from rfl,zK,k2,Option.bind_some,Int.toNat_natCast,
       show({ rnr t path (st.note 0 c.name) 0 with mods:=st.mods.set k { m with kind:=sp.kind,roots:=sp.roots } }:Runner)=rnr t path ((st.again k sp).note 0 c.name) 0 by rw[← a1];rfl]
      simp only;rw[hrun,Option.bind_some,show(rnr t path q.1 q.2).fin=q.2 from rfl];have smq:=RSt.small (st:=q.1) (n:=20100) (by omega) (by decide);by_cases he:q.2=0
      ·
       rw[if_neg (by rw[he];decide),XJ smq.log,if_pos he];exact⟨_,rfl,rfl⟩
      ·
       rw[if_pos (Wi he),XJ smq.log,if_neg he];exact⟨_,rfl,rfl⟩
    have fin:∀ {o:Option Runner},(∃ e',o=some (rnr t path r.1 e')/\e'=r.2)->∃ e',Option.bind (α:=Runner⊕(Runner×Int)) (o.bind λ v18=>some (.inl v18)) (Sum.elim (λ b4=>some (b4,b4.fin)) some)=some (rnr t path r.1 e',r.2):=λ⟨e',h1,h2⟩=>by
     subst h2;rw[h1];exact⟨_,rfl⟩
    by_cases hpar:zp c.name=emptyS
    ·
     rw[if_neg λ e:(false=true\/_)=>e.elim (λ e=>Bool.noConfusion e) λ e=>e.1 hpar] at hr;have hd:decide (zp c.name≠(⟨[]⟩:Str))=false:=by rw[hpar];rfl
     rw[hd,show(false == true)=false from rfl,jC,Option.bind_some,jC,Option.bind_some,if_neg (show ¬ ((false&&_)=true) from Bool.noConfusion),if_neg (show ¬ (false=true) by decide)];exact fin (key (.inl hpar) hr)
    ·
     have hd:decide (zp c.name≠(⟨[]⟩:Str))=true:=decide_eq_true hpar;rw[hd,show(true == true)=true from rfl,yX,Option.bind_some,yX,Zu sm.mods,Option.bind_some];cases hl:cmpI .lss (cix st (zp c.name)) 0 with
     |
      true=>
      rw[if_pos (.inr ⟨hpar,hl⟩)] at hr;injection hr with hr;subst hr;rw[if_pos (show(true&&true)=true from rfl)];exact⟨_,rfl⟩
     |
      false=>
      rw[if_neg λ e:(false=true\/_)=>e.elim (λ e=>Bool.noConfusion e) λ e=>Bool.noConfusion (hl.symm.trans e.2)] at hr;rw[if_neg (show ¬ ((true&&false)=true) by decide),if_pos (show true=true from rfl)];exact fin (key (.inr hl) hr)
theorem copies_eq(h:Inv st)(hs:Small st):jB st.mods=some st.mods:=by
 have hm:=hs.mods;have hl:zU (λ s5=>xH st.mods s5) (([]:List GMod),(0:Int))=some st.mods:=by
  refine copy_fold st.mods hm (λ i out x hx hi ho=>?_) (λ out=>?_)
  ·
   have hx':=h.at_ hx;unfold xH;simp only;rw[zJ,if_pos (decide_eq_true hi),zK,hx,Option.bind_some,yQ (by simp;omega) (by simp;omega),Option.bind_some,List.nil_append,yQ (by simp;omega) (by simp;omega),Option.bind_some,List.nil_append,yQ (by simp only[List.length_cons,List.length_nil];omega) (by simp only[List.length_cons,List.length_nil];omega),Option.bind_some,z7 (by omega)];rfl
  ·
   unfold xH;simp only;rw[zJ,if_neg (by simp)]
 unfold jB;rw[hl];rfl
theorem WT{l:List GCmd}(hl:l.length<=1048576)(hn:∀ c∈l,sho c.name):wV l=some (XZ l):=by
 have h2:zU (λ s4=>xi l s4) 0=some (if l.any (λ c=>!Y1 c)=true then .inr false else .inl ()):=by
  refine Yi _ _ _ _ (λ k x hx hlt=>?_) ?_ (by omega) rfl
  ·
   unfold xi;rw[zJ,if_pos (decide_eq_true hlt),zK,hx,Option.bind_some,show qd x.kind 0 2=some (cmpI .geq x.kind 0&&cmpI .leq x.kind 2) from rfl,Option.bind_some,yL,Option.bind_some,z7 (by omega)];unfold Y1;cases(cmpI .geq x.kind 0&&cmpI .leq x.kind 2)
   ·
    rfl
   ·
    rw[if_pos (show((!true) == false)=true from rfl),show xW x.name=some (zg x.name) from if_pos (hn x (List.mem_of_getElem? hx)).mid];cases zg x.name <;> rfl
  ·
   unfold xi;rw[zJ,if_neg (by simp)]
 unfold wV XZ;rw[h2,Qc];cases l.all Y1 <;> rfl
theorem JU(ht:Yt t)(hp:path.length<=1048576){l:List GCmd}(hl:l.length<=1048576)(hn:∀ c∈l,sho c.name)(f:Int):yk (scc xC) t path l f=some (runV t path l f):=by
 have hval:qN t path l f=some (okR t path l f):=by
  unfold qN okR;rw[show Zx t=some (zP t) from if_pos ht,Option.bind_some,show Zy path=some (xD path) from if_pos trivial,yL,Option.bind_some,WT hl hn,yL,Option.bind_some,show qd f 0 120=some (cmpI .geq f 0&&cmpI .leq f 120) from rfl,yL,Option.bind_some];generalize zP t=a;generalize xD path=b;generalize XZ l=c;generalize (cmpI .geq f 0&&cmpI .leq f 120)=d;cases a <;> cases b <;> cases c <;> cases d <;> rfl
 unfold yk;rw[hval,Option.bind_some];by_cases h:okR t path l f=true
 ·
  obtain⟨hv,_,hc,hlen,f0,f1⟩:=Xu h;obtain⟨h1,h2,h3,h4⟩:=Xv hp h;have hL:ImpEq t path 483 (scc xC) (imp t path 483):=scc_imp hv hp 483 xC (by decide);have hB:JP t path 483 (scc xC) (imp t path 483):=sbody_of (M:=2416) hv hp λ j=>scc_imp hv hp 483 (2416+j) (by omega)
  have hz:(fst0 f).size=100*f.toNat:=by unfold RSt.size fst0;simp
  obtain⟨s',hs',e',hR⟩:=zaH (Rp:=λ st s=>∃ e,s=rnr t path st e) (run:=qo (scc xC)) hv hp (Xr hv hp 483) (λ st s c r hi hn hle hsz hk hR hr=>by
   obtain⟨e,hR⟩:=hR;subst hR;obtain⟨e',he⟩:=scmd_eq hv hp (Xr hv hp 483) hL hB hi hn hle hsz (YS hk).1 (YS hk).2 e hr;exact⟨_,he,e',rfl⟩) l hc (by omega) l.length 0 (fst0 f) (rnr t path (fst0 f) 0) [] (zT t path l f) (by omega) (fst0_inv f0) (by show 4*f.toNat+3<=483;omega) (by show f<=1000000;omega) (by omega) rfl ⟨0,rfl⟩ (by rw[List.drop_zero];exact h1)
  subst hR;have sm:=RSt.small h4 (by decide);have ho:=sm.out;have hg:=sm.log;have hloop:zU (λ s22=>jF (scc xC) l s22) (rnr t path (fst0 f) 0,([]:List Int),(0:Int))=some (rnr t path (zT t path l f).1 e',(zT t path l f).2):=qu (m:=l.length+1) hs' (by omega);rw[h,if_neg (by decide),show ZA t path f=some (rnr t path (fst0 f) 0) from rfl,Option.bind_some,hloop,Option.bind_some];simp only;rw[show(rnr t path (zT t path l f).1 e').out=(zT t path l f).1.out from rfl,show(rnr t path (zT t path l f).1 e').log=(zT t path l f).1.log from rfl,show(rnr t path (zT t path l f).1 e').mods=(zT t path l f).1.mods from rfl,yQ (by simp;omega) (by simp;omega),Option.bind_some,List.nil_append,yQ (by simp;omega) (by simp;omega),Option.bind_some,List.nil_append,copies_eq h2.inv sm,Option.bind_some];unfold runV;rw[if_pos h];rfl
 ·
  have h0:okR t path l f=false:=Bool.eq_false_iff.2 h;rw[runV_off h0,h0];rfl
open Go.RowKit
variable{t:Tree}{path:List Int}{a b st:RSt}{e:Int}{s:Str}{I:RImp}{c:GCmd}
def Sn(a b:RSt):Prop:=b.mods.length=a.mods.length/\∀ (i:Nat) (m:GMod),a.mods[i]?=some m->∃ m',b.mods[i]?=some m'/\m'.name=m.name/\(m'.cached=true->m.cached=true)
theorem Sn.back(h:Sn a b){i:Nat}{m':GMod}(hm:b.mods[i]?=some m'):∃ m,a.mods[i]?=some m/\m'.name=m.name/\(m'.cached=true->m.cached=true):=by
 have hl:i<a.mods.length:=by rw[← h.1];exact zw hm
 obtain⟨m2,h1,h2⟩:=h.2 i _ (List.getElem?_eq_getElem hl);rw[hm] at h1;injection h1 with h1;subst h1;exact⟨_,List.getElem?_eq_getElem hl,h2⟩
theorem upd_sn{k:Nat}{f:GMod->GMod}(hf:∀ m,(f m).name=m.name/\((f m).cached=true->m.cached=true))(hb:b.mods=updA a.mods k f):Sn a b:=
 ⟨by rw[hb];exact jY ..,λ i m hm=>by
  rw[hb,Xq];by_cases e:i=k
  ·
   subst e;rw[if_pos rfl,hm];exact⟨_,rfl,hf m⟩
  ·
   rw[if_neg e];exact⟨m,hm,rfl,id⟩⟩
theorem Sm.sn(h:Sm a b):Sn a b:=⟨h.1,λ i m hm=>let⟨m',h1,h2⟩:=h.2 i m hm;⟨m',h1,h2.name,λ c=>h2.cached ▸ c⟩⟩
theorem sn_same(h:b.mods=a.mods):Sn a b:=⟨by rw[h],λ i m hm=>⟨m,by rw[h];exact hm,rfl,id⟩⟩
structure Wd(st:RSt):Prop where
 dist:∀ (i j:Nat) (m m':GMod),st.mods[i]?=some m->st.mods[j]?=some m'->m.cached=true->m'.cached=true->m.name=m'.name->i=j
 order:∀ (i:Nat) (m:GMod),st.mods[i]?=some m->zp m.name≠emptyS->∃ (j:Nat) (m':GMod),j<i/\st.mods[j]?=some m'/\m'.name=zp m.name
theorem Wd.sn(w:Wd a)(h:Sn a b):Wd b where
 dist i j m m' h1 h2 c1 c2 e:=by
  obtain⟨y,k1,k2,k3⟩:=h.back h1;obtain⟨z,l1,l2,l3⟩:=h.back h2;exact w.dist i j y z k1 l1 (k3 c1) (l3 c2) (by rw[← k2,← l2];exact e)
 order i m h1 hp:=by
  obtain⟨y,k1,k2,_⟩:=h.back h1;rw[k2] at hp ⊢;obtain⟨j,m',j1,j2,j3⟩:=w.order i y k1 hp;obtain⟨m2,l1,l2,_⟩:=h.2 j m' j2;exact⟨j,m2,j1,l1,l2.trans j3⟩
theorem Wd.bgW(w:Wd a)(sp:Spec)(n:New t path a s):Wd (a.begin s sp) where
 dist i j m m' h1 h2 c1 c2 e:=by
  rcases ZN h1 with h1 | ⟨i1,h1⟩
  ·
   rcases ZN h2 with h2 | ⟨j1,h2⟩
   ·
    exact w.dist i j m m' h1 h2 c1 c2 e
   ·
    subst h2;have:=n.gone m (List.mem_of_getElem? h1);rw[show hits s m=true from Jy.2 ⟨e,c1⟩] at this;cases this
  ·
   rcases ZN h2 with h2 | ⟨j1,h2⟩
   ·
    subst h1;have:=n.gone m' (List.mem_of_getElem? h2);rw[show hits s m'=true from Jy.2 ⟨e.symm,c2⟩] at this;cases this
   ·
    omega
 order i m h1 hp:=by
  rcases ZN h1 with h1 | ⟨i1,h1⟩
  ·
   obtain⟨j,m',j1,j2,j3⟩:=w.order i m h1 hp;exact⟨j,m',j1,Wj _ _ _ j2,j3⟩
  ·
   subst h1;rcases n.up with h | ⟨m',h2,h3⟩
   ·
    exact absurd h hp
   ·
    obtain⟨j,hj⟩:=List.getElem?_of_mem h2;exact⟨j,m',by have:=zw hj;omega,Wj _ _ _ hj,(Jy.1 h3).1⟩
theorem Tr.wd(h:Tr t path a b e):Wd a->Wd b:=by
 induction h with
 | stop=>exact id
 | seq _ _ h1 h2=>exact λ w=>h2 (h1 w)
 | tick=>exact λ w=>w.sn (sn_same rfl)
 | out=>exact λ w=>w.sn (sn_same rfl)
 | give=>exact λ w=>w.sn (give_sm ..).sn
 | hit=>exact λ w=>w.sn (sn_same rfl)
 | bad n h he ih=>exact λ w=>(ih (w.bgW _ n)).sn (upd_sn (f:=λ m=>{ m with cached:=false }) (λ _=>⟨rfl,λ h=>by cases h⟩) rfl)
 | good n h ih=>exact λ w=>((ih (w.bgW _ n)).sn (done_sm ..).sn).sn (tell_sm ..).sn
theorem tell_out(a:RSt)(k:Nat)(s:Str):(a.tell k s).out=a.out:=by unfold RSt.tell;split <;> rfl
theorem Tr.outs(h:Tr t path a b e):∃ o,b.out=a.out++o:=by
 have z:∀ {a b:RSt},b.out=a.out->∃ o,b.out=a.out++o:=λ h=>⟨[],by rw[h,List.append_nil]⟩
 induction h with
 | stop=>exact z rfl
 | tick=>exact z rfl
 | out a o=>exact⟨o,rfl⟩
 | give=>exact z rfl
 | hit=>exact z rfl
 |
  seq _ _ h1 h2=>
  obtain⟨x,h1⟩:=h1;obtain⟨y,h2⟩:=h2;exact⟨x++y,by rw[h2,h1,List.append_assoc]⟩
 | bad n h he ih=>exact ih
 |
  good n h ih=>
  obtain⟨o,h1⟩:=ih;exact⟨o,by rw[tell_out];exact h1⟩
theorem Tr.no_new(h:Tr t path a b e):(∃ m∈a.mods,hits s m=true)->∀ (i:Nat) (m:GMod),a.mods.length<=i->b.mods[i]?=some m->m.name≠s:=by
 have z:∀ {a b:RSt},b.mods.length=a.mods.length->∀ (i:Nat) (m:GMod),a.mods.length<=i->b.mods[i]?=some m->m.name≠s:=λ h i m h1 h2=>by have:=zw h2;omega
 have old:∀ {a b:RSt} {e:Int},Tr t path a b e->(∃ m∈a.mods,hits s m=true)->∃ m∈b.mods,hits s m=true:=λ h ⟨m,h1,h2⟩=>by
  obtain⟨i,hi⟩:=List.getElem?_of_mem h1;obtain⟨m',k1,k2⟩:=h.kept i m hi;exact⟨m',List.mem_of_getElem? k1,by rw[k2.hits];exact h2⟩
 have neq:∀ {a:RSt} {x:Str},New t path a x->(∃ m∈a.mods,hits s m=true)->x≠s:=λ n ⟨m,h1,h2⟩ e=>by
  rw[e] at n;rw[n.gone m h1] at h2;cases h2
 have beg:∀ {a b:RSt} {x:Str},New t path a x->(∃ m∈a.mods,hits s m=true)->(∀ (i:Nat) (m:GMod),a.mods.length+1<=i->b.mods[i]?=some m->m.name≠s)->(∀ m:GMod,b.mods[a.mods.length]?=some m->m.name=x)->∀ (i:Nat) (m:GMod),a.mods.length<=i->b.mods[i]?=some m->m.name≠s:=λ{a b x} n h k1 k2 i m hi hm=>by
  by_cases e:i=a.mods.length
  ·
   subst e;rw[k2 m hm];exact neq n h
  ·
   exact k1 i m (by omega) hm
 induction h with
 | stop=>exact λ _=>z rfl
 | tick=>exact λ _=>z rfl
 | out=>exact λ _=>z rfl
 | give=>exact λ _=>z (jY ..)
 | hit=>exact λ _=>z rfl
 |
  seq h k ih1 ih2=>
  rename_i a b c e;intro h0 i m hi hm;by_cases hb:i<b.mods.length
  ·
   obtain⟨m',k1,k2⟩:=k.kept i _ (List.getElem?_eq_getElem hb);rw[hm] at k1;injection k1 with k1;subst k1;rw[k2.name];exact ih1 h0 i _ hi (List.getElem?_eq_getElem hb)
  ·
   exact ih2 (old h h0) i m (by omega) hm
 |
  bad n h he ih=>
  rename_i a b x e;intro h0;have h1:∃ m∈(a.begin x (yG t path a x)).mods,hits s m=true:=let⟨m,k1,k2⟩:=h0;⟨m,List.mem_append_left _ k1,k2⟩;obtain⟨y,y1,y2,_⟩:=h.own;have sn:Sn b (b.fail a.mods.length x):=upd_sn (f:=λ m=>{ m with cached:=false }) (λ _=>⟨rfl,λ h=>by cases h⟩) rfl;exact beg n h0 (λ i m hi hm=>by
   obtain⟨m0,k1,k2,_⟩:=sn.back hm;rw[k2];exact ih h1 i m0 (by show(a.mods++[_]).length<=i;simpa using hi) k1) λ m hm=>by
   obtain⟨m0,k1,k2,_⟩:=sn.back hm;rw[y1] at k1;injection k1 with k1;rw[k2,← k1,y2]
 |
  good n h ih=>
  rename_i a b x;intro h0;have h1:∃ m∈(a.begin x (yG t path a x)).mods,hits s m=true:=let⟨m,k1,k2⟩:=h0;⟨m,List.mem_append_left _ k1,k2⟩;obtain⟨y,y1,y2,_⟩:=h.own;have sn:∀ {i:Nat} {m:GMod},((b.done a.mods.length x).tell a.mods.length x).mods[i]?=some m->∃ m0,b.mods[i]?=some m0/\m.name=m0.name:=λ hm=>by
   obtain⟨m1,k1,k2⟩:=(tell_sm ..).back hm;obtain⟨m0,k3,k4⟩:=(done_sm ..).back k1;exact⟨m0,k3,k2.name.trans k4.name⟩
  exact beg n h0 (λ i m hi hm=>by
   obtain⟨m0,k1,k2⟩:=sn hm;rw[k2];exact ih h1 i m0 (by show(a.mods++[_]).length<=i;simpa using hi) k1) λ m hm=>by
   obtain⟨m0,k1,k2⟩:=sn hm;rw[y1] at k1;injection k1 with k1;rw[k2,← k1,y2]
theorem Fnd.of(f:Fnd t path a)(h:∀ (i:Nat) (m:GMod),b.mods[i]?=some m->∃ y,a.mods[i]?=some y/\m.name=y.name/\m.kind=y.kind/\m.roots=y.roots):Fnd t path b:=λ i m hm=>by
 obtain⟨y,h1,h2,h3,h4⟩:=h i m hm;have:=f i y h1;rw[h2,h3,h4];exact this
theorem cix_has(h:cmpI .lss (cix a s) 0=false):∃ m,a.mods[(cix a s).toNat]?=some m/\hits s m=true:=by
 rcases wv a s with⟨k1,_⟩ | ⟨k,m',k1,k2,k3,k4⟩
 ·
  rw[k1] at h;cases h
 ·
  rw[k1,Int.toNat_natCast];exact⟨m',k2,Jy.2 ⟨k3,k4⟩⟩
structure CK(t:Tree)(path:List Int)(a b:RSt):Prop where
 wd:Wd a->Wd b
 fnd:Fnd t path a->Fnd t path b
 log:∃ l,b.log=a.log++l/\Bal l
 out:∃ o,b.out=a.out++o
theorem CK.refl(a:RSt):CK t path a a:=⟨id,id,⟨[],by simp,.nil⟩,[],by simp⟩
theorem CK.trans{c:RSt}(h:CK t path a b)(k:CK t path b c):CK t path a c where
 wd w:=k.wd (h.wd w)
 fnd f:=k.fnd (h.fnd f)
 log:=let⟨x,h1,h2⟩:=h.log;let⟨y,k1,k2⟩:=k.log;⟨x++y,by rw[k1,h1,List.append_assoc],h2.app k2⟩
 out:=let⟨x,h1⟩:=h.out;let⟨y,k1⟩:=k.out;⟨x++y,by rw[k1,h1,List.append_assoc]⟩
theorem Tr.ck(h:Tr t path a b e):CK t path a b:=⟨h.wd,h.fnd,let⟨l,h1,h2,_⟩:=h.bal;⟨l,h1,h2⟩,h.outs⟩
theorem forget_ck(a:RSt)(k:Nat):CK t path a (a.forget k) where
 wd w:=w.sn (upd_sn (f:=λ m=>{ m with cached:=false }) (λ _=>⟨rfl,λ h=>by cases h⟩) rfl)
 fnd f:=f.of λ i m hm=>by
  obtain⟨y,h1,h2⟩:=Wk hm;rcases h2 with⟨rfl,_⟩ | ⟨_,rfl⟩
  ·
   exact⟨_,h1,rfl,rfl,rfl⟩
  ·
   exact⟨y,h1,rfl,rfl,rfl⟩
 log:=⟨[],by simp[RSt.forget],.nil⟩
 out:=⟨[],by simp[RSt.forget]⟩
theorem reload_tr(hv:zP t=true)(hI:ImpTr t path I)(hc:zg s=true)(hin:cmpI .lss (cix a s) 0=false)(hup:zp s=emptyS\/cmpI .lss (cix a (zp s)) 0=false){r:RSt×Int}(hk:(yG t path a s).kind≠0)
  (hr:((runF t path I ((a.again (cix a s).toNat (yG t path a s)).note 0 s) (cix a s).toNat (yG t path a s)).bind λ r=>some (r.1.note (if r.2=0 then 1 else 2) s,r.2))=some r):
  CK t path a r.1/\(∃ l,r.1.log=a.log++⟨0,s⟩::l)/\∀ (i:Nat) (m:GMod),a.mods.length<=i->r.1.mods[i]?=some m->m.name≠s:=by
 obtain⟨q,hq,hr⟩:=bs hr;injection hr with hr;subst hr;have ht:=run_tr hv hI hq;obtain⟨l,l1,l2,_⟩:=ht.bal;have hl:(q.1.note (if q.2=0 then 1 else 2) s).log=a.log++⟨0,s⟩::(l++[⟨if q.2=0 then 1 else 2,s⟩]):=by
  show q.1.log++[_]=_;rw[l1];show((a.log++[⟨0,s⟩])++l)++[_]=_;simp
 refine⟨⟨λ w=>?_,λ f=>?_,⟨_,hl,.run s (by split <;> simp) l2 .nil⟩,ht.outs⟩,⟨_,hl⟩,?_⟩
 ·
  exact(ht.wd (w.sn (upd_sn (b:=(a.again (cix a s).toNat (yG t path a s)).note 0 s) (f:=λ m=>{ m with kind:=(yG t path a s).kind,roots:=(yG t path a s).roots }) (λ _=>⟨rfl,id⟩) rfl))).sn (sn_same rfl)
 ·
  have hf:yG t path a s=find t.files path s:=zbG f hc (hup.imp id λ h=>let⟨m,h1,h2⟩:=cix_has h;⟨m,List.mem_of_getElem? h1,h2⟩);have h1:Fnd t path ((a.again (cix a s).toNat (yG t path a s)).note 0 s):=λ i m hm=>by
   obtain⟨y,h1,h2⟩:=Wk hm;rcases h2 with⟨rfl,_⟩ | ⟨rfl,rfl⟩
   ·
    exact f i _ h1
   ·
    obtain⟨m',k1,k2⟩:=cix_has hin;rw[h1] at k1;injection k1 with k1;subst k1;show zg y.name=true/\_;rw[(Jy.1 k2).1];exact⟨hc,by rw[hf],by rw[hf],hk⟩
  exact ht.fnd h1
 ·
  intro i m hi hm;refine ht.no_new ?_ i m (by show(updA a.mods _ _).length<=i;rw[jY];exact hi) hm;obtain⟨m',k1,k2⟩:=cix_has hin;refine⟨{ m' with kind:=(yG t path a s).kind,roots:=(yG t path a s).roots },?_,k2⟩;refine List.mem_of_getElem? (i:=(cix a s).toNat) ?_;show(updA a.mods _ _)[_]?=_;rw[Xq,if_pos rfl,k1];rfl
theorem cmd_ck(hv:zP t=true)(hI:ImpTr t path I)(hc:zg c.name=true){r:RSt×Int}(hr:cmdF t path I a c=some r):CK t path a r.1:=by
 unfold cmdF at hr;split at hr
 ·
  obtain⟨q,hq,hr⟩:=bs hr;injection hr with hr;subst hr;exact(hI _ _ _ hc hq).1.ck
 ·
  split at hr
  ·
   split at hr
   ·
    injection hr with hr;subst hr;exact CK.refl a
   ·
    injection hr with hr;subst hr;exact forget_ck ..
  ·
   split at hr
   ·
    injection hr with hr;subst hr;exact CK.refl a
   ·
    rename_i hno;split at hr
    ·
     injection hr with hr;subst hr;exact CK.refl a
    ·
     rename_i hk;refine(reload_tr hv hI hc ?_ ?_ hk hr).1
     ·
      cases h:cmpI .lss (cix a c.name) 0 with
      | false=>rfl
      | true=>exact absurd (.inl h) hno
     ·
      by_cases hp:zp c.name=emptyS
      ·
       exact .inl hp
      ·
       refine .inr ?_;cases h:cmpI .lss (cix a (zp c.name)) 0 with
       | false=>rfl
       | true=>exact absurd (.inr ⟨hp,h⟩) hno
theorem cmds_app:∀ (l1 l2:List GCmd) (st:RSt),ZO t path I (l1++l2) st=(ZO t path I l1 st).bind λ r=>(ZO t path I l2 r.1).bind λ q=>some (q.1,r.2++q.2)
 |
  [],l2,st=>by
  show ZO t path I l2 st=(ZO t path I l2 st).bind λ q=>some (q.1,[]++q.2)
  cases ZO t path I l2 st <;> rfl
 |
  c::cs,l2,st=>by
  show((cmdF t path I st c).bind λ r=>(ZO t path I (cs++l2) r.1).bind λ q=>some (q.1,r.2::q.2))=(((cmdF t path I st c).bind λ r=>(ZO t path I cs r.1).bind λ q=>some (q.1,r.2::q.2))).bind _;cases cmdF t path I st c with
  | none=>rfl
  |
   some r=>
   rw[Option.bind_some,Option.bind_some,cmds_app cs l2 r.1];cases ZO t path I cs r.1 with
   | none=>rfl
   |
    some q=>
    rw[Option.bind_some,Option.bind_some,Option.bind_some];cases ZO t path I l2 q.1 <;> rfl
theorem cmds_ck(hv:zP t=true)(hI:ImpTr t path I):∀ (l:List GCmd) (st:RSt) (r:RSt×List Int),(∀ c∈l,zg c.name=true)->ZO t path I l st=some r->CK t path st r.1
 | [],st,r,_,h=>by injection h with h;subst h;exact CK.refl st
 |
  c::cs,st,r,hl,h=>by
  unfold ZO at h;obtain⟨q,hq,h⟩:=bs h;obtain⟨w,hw,h⟩:=bs h;injection h with h;subst h;exact(cmd_ck hv hI (hl c (List.mem_cons_self ..)) hq).trans (cmds_ck hv hI cs q.1 w (λ x hx=>hl x (List.mem_cons_of_mem _ hx)) hw)
open Go.RowKit
variable{t:Tree}{path:List Int}{a b:RSt}{s:Str}{I:RImp}{c:GCmd}{l l':List GCmd}{f:Int}
theorem okR_of(h:okR t path l f=true)(h1:∀ c∈l',Y1 c=true)(h2:l'.length<=10):okR t path l' f=true:=by
 unfold okR XZ at h ⊢;simp only[Bool.and_eq_true,cmpI,decide_eq_true_eq] at h ⊢;exact⟨⟨h.1.1,List.all_eq_true.2 h1,by omega⟩,h.2⟩
theorem wd_fst(f:Int):Wd (fst0 f):=⟨(λ _ _ _ _ h=>by cases h),(λ _ _ h=>by cases h)⟩
theorem fnd_fst(f:Int):Fnd t path (fst0 f):=λ _ _ h=>by cases h
section
variable(hp:path.length<=1048576)
include hp
theorem cmdsR_app{l1 l2:List GCmd}(h1:okR t path l1 f=true)(h:okR t path (l1++l2) f=true):∃ q,ZO t path (imp t path 483) l2 (zT t path l1 f).1=some q/\zT t path (l1++l2) f=(q.1,(zT t path l1 f).2++q.2):=by
 obtain⟨a1,_⟩:=Xv hp h1;obtain⟨a2,_⟩:=Xv hp h;rw[cmds_app,a1,Option.bind_some] at a2;obtain⟨q,hq,a2⟩:=bs a2;injection a2 with a2;exact⟨q,hq,a2.symm⟩
theorem cmdsR_ck(h:okR t path l f=true):Wd (zT t path l f).1/\Fnd t path (zT t path l f).1/\Bal (zT t path l f).1.log:=by
 obtain⟨hv,_,hl,_⟩:=Xu h;have k:=cmds_ck hv (imp_tr hv 483) l _ _ (λ c hc=>(YS (hl c hc)).1) (Xv hp h).1;refine⟨k.wd (wd_fst f),k.fnd (fnd_fst f),?_⟩;obtain⟨x,h1,h2⟩:=k.log;rw[h1];exact h2
theorem cmdsR_pre(h:okR t path l f=true)(k:Nat):okR t path (l.take k) f=true/\(∃ es,(zT t path l f).2=(zT t path (l.take k) f).2++es)/\(∃ lg,(zT t path l f).1.log=(zT t path (l.take k) f).1.log++lg)/\(∃ o,(zT t path l f).1.out=(zT t path (l.take k) f).1.out++o)/\(zT t path l f).1.left<=(zT t path (l.take k) f).1.left:=by
 obtain⟨hv,_,hl,hn,f0,f1⟩:=Xu h;have h1:okR t path (l.take k) f=true:=okR_of h (λ x hx=>hl x (List.mem_of_mem_take hx)) (by rw[List.length_take];omega);have hd:∀ c∈l.drop k,zg c.name=true:=λ c hc=>(YS (hl c (List.mem_of_mem_drop hc))).1
 obtain⟨q,hq,e⟩:=cmdsR_app (l2:=l.drop k) hp h1 (by rw[List.take_append_drop];exact h);rw[List.take_append_drop] at e;rw[e];have hk:=(Xv hp h1).2.1;have hlf:=hk.left;have h0:=hk.inv.left;obtain⟨r,hr,hc,_⟩:=cmds_ok hv hp (Xr hv hp 483) (l.drop k) _ hk.inv (by have:(fst0 f).left=f:=rfl;omega) hd;rw[hq] at hr;injection hr with hr;subst hr;have ck:=cmds_ck hv (imp_tr hv 483) _ _ _ hd hq;exact⟨h1,⟨q.2,rfl⟩,let⟨x,h,_⟩:=ck.log;⟨x,h⟩,ck.out,hc.left⟩
end
def stepO(o:List Str)(e:GEvent):Option (List Str):=if e.kind=0 then some (o++[e.name]) else if e.kind=1\/e.kind=2 then(if o.getLast?=some e.name then some o.dropLast else none) else some o
theorem Bal.open_{lg:List GEvent}(h:Bal lg):∀ o:List Str,lg.foldlM stepO o=some o:=by
 induction h with
 | nil=>exact λ _=>rfl
 |
  hit s _ ih=>
  intro o;rw[List.foldlM_cons];exact ih o
 |
  run s hk h r ih1 ih2=>
  rename_i x y k;intro o;rw[List.foldlM_cons];show(some (o++[s])).bind _=_;rw[Option.bind_some,List.foldlM_append,ih1];show(some (o++[s])).bind _=_;rw[Option.bind_some,List.foldlM_cons];have:stepO (o++[s]) ⟨k,s⟩=some o:=by
   unfold stepO;rw[if_neg (show ¬ (⟨k,s⟩:GEvent).kind=0 by show ¬ k=0;omega),if_pos hk,if_pos (by simp),List.dropLast_concat]
  rw[this];exact ih2 o
open Go.RowKit
variable{t:Tree}{path:List Int}{s:Str}{l:List GCmd}{f:Int}
theorem loop_foldM{α σ S β:Type}{step:S->Option (S⊕β)}(xs:List α)(mk:σ->Nat->S)(g:σ->α->Option σ)(fin:σ->β)(P:Nat->σ->Prop)
  (h:∀ k s x s',xs[k]?=some x->k<xs.length->P k s->g s x=some s'->step (mk s k)=some (.inl (mk s' (k+1)))/\P (k+1) s')
  (hend:∀ s,P xs.length s->step (mk s xs.length)=some (.inr (fin s))) (hlen:xs.length<576460752303423488) {s0 s1:σ} (h0:P 0 s0) (h1:xs.foldlM g s0=some s1):zU step (mk s0 0)=some (fin s1):=by
 have key:∀ m k s,k+m=xs.length->P k s->(xs.drop k).foldlM g s=some s1->jH step (m+1) (mk s k)=some (fin s1):=by
  intro m
  induction m with
  |
   zero=>
   intro k s hk hp hf;have:k=xs.length:=by omega
   subst this;rw[List.drop_length] at hf;injection hf with hf;subst hf;exact xj (hend s hp)
  |
   succ m ih=>
   intro k s hk hp hf;have hlt:k<xs.length:=by omega
   rw[List.drop_eq_getElem_cons hlt,List.foldlM_cons] at hf;obtain⟨s',hs',hf⟩:=bs hf;obtain⟨e,hp'⟩:=h k s _ s' (List.getElem?_eq_getElem hlt) hlt hp hs';rw[qt e];exact ih (k+1) s' (by omega) hp' hf
 exact qu (key xs.length 0 s0 (by omega) h0 (by rw[List.drop_zero];exact h1)) (by omega)
theorem equalInts_eq{x y:List Int}(h:x.length<=288230376151711744):xa x y=some (decide (x=y)):=by
 unfold xa;refine eqS_list (λ k hk hk2=>?_) ?_ (by omega)
 ·
  unfold jk;simp only[lss_at hk,if_true,zau hk,zau hk2,Option.bind_some,z7 (show k<4611686018427387904 by omega)];by_cases e:x[k]=y[k] <;> simp[e,cmpI]
 ·
  unfold jk;rw[lss_end];rfl
theorem Wm{x:List Int}(h:x.length<=288230376151711744):xa x x=some true:=by rw[equalInts_eq h];simp
theorem equalAttrs_eq{x y:List GAttr}(h:x.length<=288230376151711744):jc x y=some (decide (x=y)):=by
 unfold jc;refine eqS_list (λ k hk hk2=>?_) ?_ (by omega)
 ·
  unfold wX;simp only[lss_at hk,if_true,zau hk,zau hk2,Option.bind_some,z7 (show k<4611686018427387904 by omega)];by_cases e:x[k]=y[k] <;> simp[e]
 ·
  unfold wX;rw[lss_end];rfl
theorem same_attrs{x:List GAttr}(h:x.length<=288230376151711744):jc x x=some true:=by rw[equalAttrs_eq h];simp
theorem zbH{x y:List GEvent}(h:x.length<=288230376151711744):xS x y=some (decide (x=y)):=by
 unfold xS;refine eqS_list (λ k hk hk2=>?_) ?_ (by omega)
 ·
  unfold wC;simp only[lss_at hk,if_true,zau hk,zau hk2,Option.bind_some,z7 (show k<4611686018427387904 by omega)];by_cases e:x[k]=y[k] <;> simp[e]
 ·
  unfold wC;rw[lss_end];rfl
theorem zaU{x:List GEvent}(h:x.length<=288230376151711744):xS x x=some true:=by rw[zbH h];simp
theorem law_of_drawR{c:List UInt8}{D:Option (Tree×List Int×List GCmd×Int)}{F:Tree×List Int×List GCmd×Int->Option Bool}(hD:∃ t path l f,D=some (t,path,l,f)/\smT 11 5 t/\path.length<=3/\l.length<=6/\∀ x∈l,x.name.l.length<=64)
  (h:∀ t path l f,Yt t->path.length<=1048576->l.length<=6->(∀ x∈l,sho x.name)->F (t,path,l,f)=some true):(if cmpI .gtr (c.length:Int) 1048576=true then some true else D.bind F)=some true:=by
 cases cmpI .gtr (c.length:Int) 1048576 with
 | true=>rw[if_pos rfl]
 |
  false=>
  obtain⟨t,path,l,f,e1,h1,h2,h3,h4⟩:=hD;rw[if_neg (by decide),e1,Option.bind_some];exact h t path l f h1.sm (by omega) h3 λ x hx=>by have:=h4 x hx;unfold sho;omega
theorem Q6(hp:path.length<=1048576)(h:okR t path l f=true):(zT t path l f).1.mods.length<=12120/\(zT t path l f).1.log.length<=12120/\(zT t path l f).1.out.length<=12120/\(zT t path l f).2.length=l.length/\(∀ m∈(zT t path l f).1.mods,m.roots.length<=1048576/\m.attrs.length<=16777216):=by
 obtain⟨_,h2,h3,h4⟩:=Xv hp h;have sm:=RSt.small h4 (by decide);exact⟨by unfold RSt.size at h4;omega,by unfold RSt.size at h4;omega,by unfold RSt.size at h4;omega,h3,λ m hm=>⟨h2.inv.roots m hm,h2.inv.few hm⟩⟩
open Go.RowKit
variable{t:Tree}{path:List Int}{s:Str}{l:List GCmd}{f:Int}
theorem zaV{r:GResult}(h1:r.modules.length<=1048576)(h2:∀ m∈r.modules,m.roots.length<=1048576/\m.attrs.length<=16777216)(h3:r.ends.length<=1048576)(h4:r.out.length<=1048576)(h5:r.log.length<=1048576):ya r r=some true:=by
 unfold ya;have hl:zU (λ s8=>xJ r r s8) (0:Int)=some (.inl ()):=by
  refine JK r.modules.length (λ k=>(k:Int)) (λ k hk=>?_) ?_ (by omega) rfl
  ·
   obtain⟨m,hm,hmem⟩:=Ju hk;obtain⟨a1,a2⟩:=h2 m hmem;unfold xJ;have e1:decide (m.name≠m.name)=false:=by simp
   have e2:cmpI .neq m.kind m.kind=false:=by simp[cmpI]
   have e3:(m.cached != m.cached)=false:=by simp
   have e4:(m.done != m.done)=false:=by simp
   rw[zJ,if_pos (decide_eq_true hk),zK,hm,Option.bind_some,Option.bind_some,e1,e2,e3,e4,show((false||false) == false:Bool)=true from rfl,yX,Wm (by omega),Option.bind_some,show(((((false||false)||(!true))||false)||false) == false:Bool)=true from rfl,yX,same_attrs (by omega),Option.bind_some,if_neg (by decide),z7 (by omega)];rfl
  ·
   unfold xJ;rw[zJ,if_neg (by simp)]
 rw[if_neg (by simp[cmpI]),hl,Option.bind_some,Sum.elim_inl,Wm (by omega),Option.bind_some,show((true:Bool) == true)=true from rfl,yX,Wm (by omega),Option.bind_some,show((true&&true) == true:Bool)=true from rfl,yX,zaU (by omega),Option.bind_some];simp[cmpI]
theorem runV_ok(h:okR t path l f=true):runV t path l f=resV (zT t path l f).1 (zT t path l f).2:=by unfold runV;rw[if_pos h]
theorem same_runV(hp:path.length<=1048576):ya (runV t path l f) (runV t path l f)=some true:=by
 cases h:okR t path l f with
 | false=>rw[runV_off h];exact zaV (Nat.zero_le _) (λ _ h=>by cases h) (Nat.zero_le _) (Nat.zero_le _) (Nat.zero_le _)
 |
  true=>
  obtain⟨a1,a2,a3,a4,a5⟩:=Q6 hp h;obtain⟨_,_,_,b,_⟩:=Xu h;rw[runV_ok h];exact zaV (by show(zT t path l f).1.mods.length<=_;omega) a5 (by show(zT t path l f).2.length<=_;omega) (by show(zT t path l f).1.out.length<=_;omega) (by show(zT t path l f).1.log.length<=_;omega)
theorem cmd_law(c:List UInt8){K:Tree×List Int×List GCmd×Int->GResult->Option Bool}(h:∀ t path l f,Yt t->path.length<=1048576->l.length<=6->(∀ x∈l,sho x.name)->okR t path l f=true->K (t,path,l,f) (resV (zT t path l f).1 (zT t path l f).2)=some true):
  (if cmpI .gtr (c.length:Int) 1048576=true then some true
  else((yF c).bind λ v6=>
  (yV (scc xC) v6.1 v6.2.1 v6.2.2.1 v6.2.2.2).bind λ v14=>
  (yk (scc xC) v6.1 v6.2.1 v6.2.2.1 v6.2.2.2).bind λ v21=>
  (ya v14 v21).bind λ v22=>
  (gO ((!v22) == false) (y7 v6.1)).bind λ v23=>
  (gO (((!v22)||(!v23)) == false) (y8 v6.2.1)).bind λ v24=>
  (gO ((((!v22)||(!v23))||(!v24)) == false) (yE v6.2.2.1)).bind λ v25=>
  if((((((!v22)||(!v23))||(!v24))||(!v25))||cmpI .lss v6.2.2.2 (0:Int))||cmpI .gtr v6.2.2.2 (120:Int))=true then((yk (scc xC) v6.1 v6.2.1 v6.2.2.1 v6.2.2.2).bind λ v34=>
  (ya v14 v34).bind λ v35=>
  some v35)
  else K v6 v14))=some true:=by
 refine law_of_drawR (Qs c) λ t path l f ht hp hl hn=>?_
 dsimp only;have hE:=same_runV (t:=t) (l:=l) (f:=f) hp;rw[Jz ht hp (by omega) hn f,Option.bind_some,JU ht hp (by omega) hn f,Option.bind_some,hE,Option.bind_some,WD ht,WE hp,Wl (by omega) hn];have hbad:((some (runV t path l f)).bind λ v34=>(ya (runV t path l f) v34).bind λ v35=>some v35)=some true:=by rw[Option.bind_some,hE,Option.bind_some]
 cases hv:zP t with
 | false=>exact hbad
 |
  true=>
  cases hvp:xD path with
  | false=>exact hbad
  |
   true=>
   cases hc:XZ l with
   | false=>exact hbad
   |
    true=>
    refine Eq.trans (b:=if(cmpI .lss f 0||cmpI .gtr f 120)=true then((some (runV t path l f)).bind λ v34=>(ya (runV t path l f) v34).bind λ v35=>some v35) else K (t,path,l,f) (runV t path l f)) rfl ?_;split
    ·
     exact hbad
    ·
     rename_i hf;have hok:okR t path l f=true:=by
      unfold okR;rw[hv,hvp,hc];simp[cmpI] at hf ⊢;omega
     rw[runV_ok hok];exact h t path l f ht hp hl hn hok
theorem zbI{a b:List Int}(h:(a++b).length<=1048576):x9 (a++b) a=some true:=by
 rw[List.length_append] at h;unfold x9;rw[show cmpI .leq (a.length:Int) ((a++b).length:Int)=true by simp[cmpI];omega,show((true:Bool) == true)=true from rfl,yX,Yy (by simp),Option.bind_some,yX,List.take_left,Wm (by omega),Option.bind_some];rfl
theorem any_nextC{α:Type}{l:List α}{k:Nat}{x:α}{p:α->Bool}(hx:l[k]?=some x):(l.take (k+1)).any p=((l.take k).any p||p x):=by
 rw[List.take_add_one,hx,List.any_append];simp
end Go.Proofs.YtnlhpkbphdbknaaGreatDoor
