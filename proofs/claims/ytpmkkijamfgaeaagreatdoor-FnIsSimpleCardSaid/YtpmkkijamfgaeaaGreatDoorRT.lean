import Derived.Test.YtpmkkijamfgaeaaGreatDoorRQ
namespace Go.Proofs.YtpmkkijamfgaeaaGreatDoor
open Go.RowKit
def RSt.forget(st:RSt)(k:Nat):RSt:={ st with mods:=updA st.mods k (λ m=>{ m with cached:=false }) }
def RSt.again(st:RSt)(k:Nat)(sp:Spec):RSt:={ st with mods:=updA st.mods k (λ m=>{ m with kind:=sp.kind,roots:=sp.roots }) }
section
variable(t:Tree)(path:List Int)
def cmdF(I:RImp)(st:RSt)(c:GCmd):Option (RSt×Int):=
 if c.kind=0 then(I st c.name).bind λ r=>some (r.1,r.2.2)
 else if c.kind=2 then(if cmpI .lss (cix st c.name) 0=true then some (st,1) else some (st.forget (cix st c.name).toNat,0))
 else if cmpI .lss (cix st c.name) 0=true\/(zr c.name≠emptyS/\cmpI .lss (cix st (zr c.name)) 0=true) then some (st,1)
 else if(xy t path st c.name).kind=0 then some (st,1)
 else(runF t path I ((st.again (cix st c.name).toNat (xy t path st c.name)).note 0 c.name) (cix st c.name).toNat (xy t path st c.name)).bind λ r=>some (r.1.note (if r.2=0 then 1 else 2) c.name,r.2)
def Qg(I:RImp):List GCmd->RSt->Option (RSt×List Int)
 | [],st=>some (st,[])
 | c::cs,st=>(cmdF t path I st c).bind λ r=>(Qg I cs r.1).bind λ q=>some (q.1,r.2::q.2)
end
variable{t:Tree}{path:List Int}{st:RSt}{n:Nat}{R:Rec}{I:RImp}{c:GCmd}
theorem Inv.forget(h:Inv st)(k:Nat):Inv (st.forget k):=h.upd (f:=λ m=>{ m with cached:=false }) (lg:=st.log) (o:=st.out) (λ _=>rfl) h.roots h.parts h.apart
theorem Inv.again(h:Inv st)(k:Nat){sp:Spec}(hr:sp.roots.length<=1048576):Inv (st.again k sp):=h.upd (f:=λ m=>{ m with kind:=sp.kind,roots:=sp.roots }) (lg:=st.log) (o:=st.out) (λ _=>rfl) (λ _ _=>hr) h.parts h.apart
theorem zck(st:RSt)(k:Nat)(sp:Spec):(st.again k sp).size=st.size:=by unfold RSt.size RSt.again;simp[Zk]
theorem size_forget(st:RSt)(k:Nat):(st.forget k).size=st.size:=by unfold RSt.size RSt.forget;simp[Zk]
theorem size_note(st:RSt)(k:Int)(s:Str):(st.note k s).size=st.size+1:=by unfold RSt.size RSt.note;simp only[List.length_append,List.length_cons,List.length_nil];omega
structure CmdPost(st:RSt)(c:Nat)(r:RSt):Prop where
 inv:Inv r
 left:r.left<=st.left
 size:r.size<=st.size+c
theorem cmd_ok(hv:zw t=true)(hp:path.length<=1048576)(hI:Ym n I)(h:Inv st)(hn:4*st.left.toNat+3<=n)(hc:zd c.name=true):∃ r,cmdF t path I st c=some r/\CmdPost st 12 r.1:=by
 have h0:∀ {e:Int},∃ r,some (st,e)=some r/\CmdPost st 12 r.1:=⟨_,rfl,h,Int.le_refl _,Nat.le_add_right _ _⟩;have hpl:=ZG hc;unfold cmdF;split
 ·
  obtain⟨r,hr,hk⟩:=hI st _ h hc (by omega);rw[hr];have:=hk.size;exact⟨_,rfl,hk.inv,hk.grow.left,by simp only;omega⟩
 ·
  split
  ·
   split
   ·
    exact h0
   ·
    exact⟨_,rfl,h.forget _,Int.le_refl _,by simp only[size_forget];omega⟩
  ·
   split
   ·
    exact h0
   ·
    split
    ·
     exact h0
    ·
     have hi:=(h.again (cix st c.name).toNat (WP (t:=t) h hp c.name)).note 0 c.name;obtain⟨r,hr,hb⟩:=run_ok (path:=path) hv hI hi (by show 4*st.left.toNat<=n+1;omega) (cix st c.name).toNat (xy t path st c.name);have hs:=hb.size;rw[size_note,zck] at hs;rw[hr];exact⟨_,rfl,hb.inv.note _ _,hb.grow.left,by simp only[size_note];omega⟩
theorem cmds_ok(hv:zw t=true)(hp:path.length<=1048576)(hI:Ym n I):∀ (l:List GCmd) (st:RSt),Inv st->4*st.left.toNat+3<=n->(∀ c∈l,zd c.name=true)->∃ r,Qg t path I l st=some r/\CmdPost st (12*l.length) r.1/\r.2.length=l.length
 | [],st,h,_,_=>⟨_,rfl,⟨h,Int.le_refl _,Nat.le_refl _⟩,rfl⟩
 |
  c::cs,st,h,hn,hl=>by
  obtain⟨r,hr,h1⟩:=cmd_ok hv hp hI h hn (hl c (List.mem_cons_self ..));have:=h1.left;have:=h1.inv.left;have:=h.left;obtain⟨q,hq,h2,h3⟩:=cmds_ok hv hp hI cs r.1 h1.inv (by omega) λ x hx=>hl x (List.mem_cons_of_mem _ hx)
  have s1:=h1.size;have s2:=h2.size;have l2:=h2.left;unfold Qg;rw[hr,Option.bind_some,hq];exact⟨_,rfl,⟨h2.inv,by simp only;omega,by simp only[List.length_cons];omega⟩,by simp only[List.length_cons];omega⟩
theorem mach_upd{k:Nat}{m:GMod}(hm:st.mods[k]?=some m)(f:GMod->GMod):({ mach t path st with modules:=(bxs st.mods).set k ⟨f m⟩ }:Machine)=mach t path { st with mods:=updA st.mods k f }:=by
 rw[XY,← Xg f hm];rfl
theorem run_eq(ht:Good t)(hp:path.length<=1048576)(hL:X7 t path n R I)(hB:BodyEq t path n R I)(h:Inv st)(hn:4*st.left.toNat+3<=n)(hle:st.left<=1000000)(hsz:st.size<=19990)(hc:zd c.name=true)(_hk:c.kind=0\/c.kind=1\/c.kind=2){r:RSt×Int}(hr:cmdF t path I st c=some r):wo R (mach t path st) c=some (mach t path r.1,r.2):=by
 have sm:=RSt.small hsz (by decide);have hpl:=ZG hc;unfold cmdF at hr;unfold wo;rw[Z2 sm.mods,Option.bind_some];by_cases h0:c.kind=0
 ·
  rw[if_pos h0] at hr;obtain⟨q,hq,hr⟩:=bs hr;injection hr with hr;subst hr;rw[if_pos (ZS h0),hL st _ q h hc (by omega) (by omega) hq];rfl
 ·
  rw[if_neg h0] at hr;rw[if_neg (by rw[qN h0];decide)];by_cases h2:c.kind=2
  ·
   rw[if_pos h2] at hr;rw[if_pos (ZS h2)];rcases qj st c.name with⟨k1,_⟩ | ⟨k,m,k1,k2,_,_⟩
   ·
    rw[k1,lss_m1,if_pos rfl] at hr;injection hr with hr;subst hr;rw[k1,lss_m1,if_pos rfl]
   ·
    rw[k1,XJ,if_neg (by decide),Int.toNat_natCast] at hr;injection hr with hr;subst hr;rw[k1,XJ,if_neg (by decide),show(mach t path st).modules=bxs st.mods from rfl,zT,wD k2,Option.bind_some,Int.toNat_natCast,wD k2,Option.bind_some,mach_upd k2 (λ m=>{ m with cached:=false })];rfl
  ·
   rw[if_neg h2] at hr;rw[if_neg (by rw[qN h2];decide),Z0 hc,Option.bind_some];rcases qj st c.name with⟨k1,_⟩ | ⟨k,m,k1,k2,k3,k4⟩
   ·
    rw[k1,lss_m1,if_pos (.inl rfl)] at hr;injection hr with hr;subst hr;rw[k1,lss_m1,show((true == false)&&(decide (zr c.name≠(⟨[]⟩:Str)) == true))=false from rfl,YV,Option.bind_some,Bool.true_or,if_pos rfl]
   ·
    rw[k1,XJ,Int.toNat_natCast] at hr;rw[k1,XJ];have hm:=h.at_ k2;have key:(zr c.name=emptyS\/cmpI .lss (cix st (zr c.name)) 0=false)->(if(xy t path st c.name).kind=0 then some (st,(1:Int)) else(runF t path I ((st.again k (xy t path st c.name)).note 0 c.name) k (xy t path st c.name)).bind λ r=>some (r.1.note (if r.2=0 then 1 else 2) c.name,r.2))=some r->
      ((yp (mach t path st) c.name).bind λ v43=>if(cmpI .eql v43.2.kind (0:Int))=true then(some (v43.1,(1:Int))) else((atI v43.1.modules (k:Int)).bind λ v55=>(v43.1.modules[(k:Int).toNat]?).bind λ v57=>(atI (v43.1.modules.set (k:Int).toNat ⟨{ v57.x with kind:=v43.2.kind }⟩) (k:Int)).bind λ v63=>(appO 8 [] v43.2.roots).bind λ v64=>((v43.1.modules.set (k:Int).toNat ⟨{ v57.x with kind:=v43.2.kind }⟩)[(k:Int).toNat]?).bind λ v65=>(R.impl_machine_body ({ v43.1 with modules:=((v43.1.modules.set (k:Int).toNat ⟨{ v57.x with kind:=v43.2.kind }⟩).set (k:Int).toNat ⟨{ v65.x with roots:=v64 }⟩) }) (k:Int) v43.2).bind λ v73=>some (v73.1,v73.2)))=some (mach t path r.1,r.2):=λ _ hr=>by
     rw[look_eq ht hp h sm hc,Option.bind_some];by_cases hz:(xy t path st c.name).kind=0
     ·
      rw[if_pos hz] at hr;injection hr with hr;subst hr;rw[if_pos (ZS hz)]
     ·
      rw[if_neg hz] at hr;have hrl:=WP (t:=t) h hp c.name;have hlk:=zx k2;rw[if_neg (by rw[qN hz];decide)];dsimp only;rw[show(mach t path st).modules=bxs st.mods from rfl,zT,wD k2,Option.bind_some,Int.toNat_natCast,wD k2,Option.bind_some,XY,zT,wD (List.getElem?_set_self hlk),Option.bind_some,yF (by simp;omega) (by simp;omega),Option.bind_some,List.nil_append,Option.bind_some,XY,List.set_set];obtain⟨q,hq,hr⟩:=bs hr;injection hr with hr;subst hr;have hst:({ mach t path st with modules:=bxs (st.mods.set k { { m with kind:=(xy t path st c.name).kind } with roots:=(xy t path st c.name).roots }) }:Machine)=mach t path (st.again k (xy t path st c.name)):=by
       unfold RSt.again;rw[Xg _ k2];rfl
      have hk5:(st.again k (xy t path st c.name)).mods[k]?=some { m with kind:=(xy t path st c.name).kind,roots:=(xy t path st c.name).roots }:=by
       unfold RSt.again;show(updA st.mods k _)[k]?=_;rw[Xg _ k2,List.getElem?_set_self hlk]
      have hb:=hB (st.again k (xy t path st c.name)) k _ (xy t path st c.name) q (h.again k hrl) (by show 4*st.left.toNat<=n+1;omega) hle (by rw[zck];omega) hk5 (look_file c.name) (by
       show runF t path I ((st.again k (xy t path st c.name)).note 0 m.name) k _=some q;rw[k3];exact hq)
      rw[hst];have hb':R.impl_machine_body (mach t path (st.again k (xy t path st c.name))) (k:Int) (xy t path st c.name)=some (mach t path (q.1.note (if q.2=0 then 1 else 2) c.name),q.2):=by
       rw[hb];show some (mach t path (q.1.note (if q.2=0 then 1 else 2) m.name),q.2)=_;rw[k3]
      rw[hb',Option.bind_some]
    by_cases hpar:zr c.name=emptyS
    ·
     rw[if_neg λ e:(false=true\/_)=>e.elim (λ e=>Bool.noConfusion e) λ e=>e.1 hpar] at hr;rw[show((false == false)&&(decide (zr c.name≠(⟨[]⟩:Str)) == true))=false by rw[hpar];rfl,YV,Option.bind_some,show(false||(decide (zr c.name≠(⟨[]⟩:Str))&&cmpI .lss (default:Int) 0))=false by rw[hpar];rfl,if_neg (by decide)];exact key (.inl hpar) hr
    ·
     have hd:decide (zr c.name≠(⟨[]⟩:Str))=true:=decide_eq_true hpar;rw[hd,show((false == false)&&(true == true))=true from rfl,ZK,Z2 sm.mods,Option.bind_some];cases hl:cmpI .lss (cix st (zr c.name)) 0 with
     |
      true=>
      rw[if_pos (.inr ⟨hpar,hl⟩)] at hr;injection hr with hr;subst hr;rw[if_pos (show(false||true&&true)=true from rfl)]
     |
      false=>
      rw[if_neg λ e:(false=true\/_)=>e.elim (λ e=>Bool.noConfusion e) λ e=>Bool.noConfusion (hl.symm.trans e.2)] at hr;rw[if_neg (by decide)];exact key (.inr hl) hr
open Go.RowKit
variable{t:Tree}{path:List Int}{st:RSt}{n:Nat}{R:Rec}{I:RImp}{c:GCmd}
def stepC{σ:Type}(run:σ->GCmd->Option (σ×Int))(l:List GCmd)(s:σ×List Int×Int):Option ((σ×List Int×Int)⊕(σ×List Int)):=
 if cmpI .lss s.2.2 (l.length:Int)=true then(atI l s.2.2).bind λ a=>(run s.1 a).bind λ b=>(appO 8 s.2.1 [b.2]).bind λ c=>(i64 (s.2.2+1)).bind λ d=>some (.inl (b.1,c,d)) else some (.inr (s.1,s.2.1))
def Ws(c:GCmd):Bool:=cmpI .geq c.kind 0&&cmpI .leq c.kind 2&&zd c.name
theorem zax(h:Ws c=true):zd c.name=true/\(c.kind=0\/c.kind=1\/c.kind=2):=by
 unfold Ws at h;simp only[Bool.and_eq_true,cmpI,decide_eq_true_eq] at h;exact⟨h.2,by omega⟩
theorem cmds_loop{σ:Type}{run:σ->GCmd->Option (σ×Int)}{Rp:RSt->σ->Prop}(hv:zw t=true)(hp:path.length<=1048576)(hI:Ym n I)
  (hrun:∀ (st:RSt) (s:σ) (c:GCmd) (r:RSt×Int),Inv st->4*st.left.toNat+3<=n->st.left<=1000000->st.size<=19990->Ws c=true->Rp st s->cmdF t path I st c=some r->∃ s',run s c=some (s',r.2)/\Rp r.1 s')
  (l:List GCmd) (hl:∀ c∈l,Ws c=true) (hlen:l.length<=20):∀ (m i:Nat) (st:RSt) (s:σ) (es:List Int) (r:RSt×List Int),i+m=l.length->Inv st->4*st.left.toNat+3<=n->st.left<=1000000->st.size+12*m<=19990->es.length=i->Rp st s->Qg t path I (l.drop i) st=some r->
   ∃ s',jL (stepC run l) (m+1) (s,es,(i:Int))=some (s',es++r.2)/\Rp r.1 s'
 |
  0,i,st,s,es,r,hi,_,_,_,_,_,hR,hr=>by
  have:i=l.length:=by omega
  subst this;rw[List.drop_length] at hr;unfold Qg at hr;injection hr with hr;subst hr;refine⟨s,xo ?_,hR⟩;unfold stepC;rw[zF,if_neg (by simp),List.append_nil]
 |
  m+1,i,st,s,es,r,hi,h,hn,hle,hsz,he,hR,hr=>by
  have hlt:i<l.length:=by omega
  rw[List.drop_eq_getElem_cons hlt] at hr;unfold Qg at hr;obtain⟨q,hq,hr⟩:=bs hr;obtain⟨w,hw,hr⟩:=bs hr;injection hr with hr;subst hr;have hc:=hl _ (List.getElem_mem hlt);obtain⟨q',hq',h1⟩:=cmd_ok hv hp hI h hn (zax hc).1;rw[hq] at hq';injection hq' with hq';subst hq';obtain⟨s1,hs1,hR1⟩:=hrun st s _ q h hn hle (by omega) hc hR hq;have:=h1.left;have:=h1.inv.left;have:=h.left;have s2:=h1.size;obtain⟨s',hs',hR'⟩:=cmds_loop hv hp hI hrun l hl hlen m (i+1) q.1 s1 (es++[q.2]) w (by omega) h1.inv (by omega) (by omega) (by omega) (by rw[List.length_append];simp[he]) hR1 hw;refine⟨s',?_,hR'⟩;rw[qK (s':=(s1,es++[q.2],((i+1:Nat):Int))),hs',List.append_assoc]
  ·
   rfl
  ·
   unfold stepC;rw[zF,if_pos (decide_eq_true hlt),zT,List.getElem?_eq_getElem hlt,Option.bind_some,hs1,Option.bind_some,yF (by simp only[List.length_cons,List.length_nil];omega) (by simp only[List.length_cons,List.length_nil];omega),Option.bind_some,zU (by omega)];rfl
theorem fold_copy(l:List GMod):∀ o:List GMod,l.foldl (λ o m=>o++[m]) o=o++l:=by
 induction l with
 | nil=>intro o;simp
 | cons a l ih=>intro o;rw[List.foldl_cons,ih];simp
def resV(st:RSt)(es:List Int):GResult:=⟨es,st.out,st.log,st.mods,st.left⟩
theorem result_eq(h:Inv st)(hs:Small st)(es:List Int):xn (mach t path st) es=some (resV st es):=by
 have hm:=hs.mods;have ho:=hs.out;have hg:=hs.log;have hl:zM (λ s16=>yu (mach t path st) s16) ((⟨es,st.out,st.log,[],st.left⟩:GResult),(0:Int))=some (resV st es):=by
  have key:=zaW (step:=λ s16=>yu (mach t path st) s16) st.mods (λ(o:List GMod) i=>((⟨es,st.out,st.log,o,st.left⟩:GResult),(i:Int))) (λ o m=>o++[m]) (λ o=>(⟨es,st.out,st.log,o,st.left⟩:GResult)) (λ i o=>o.length<=i)
   (λ i o x hx hi ho=>⟨by
    have hx':=h.at_ hx;unfold yu;simp only;rw[show(mach t path st).modules=bxs st.mods from rfl,show((bxs st.mods).length:Int)=(st.mods.length:Int) by unfold bxs;rw[List.length_map],zF,if_pos (decide_eq_true hi),zT,wD hx,Option.bind_some,yF (by simp;omega) (by simp;omega),Option.bind_some,List.nil_append,yF (by simp;omega) (by simp;omega),Option.bind_some,List.nil_append,yF (by simp only[List.length_cons,List.length_nil];omega) (by simp only[List.length_cons,List.length_nil];omega),Option.bind_some,zU (by omega)];rfl,by rw[List.length_append];show o.length+1<=_;omega⟩) (λ o _=>by
    unfold yu;simp only;rw[show(mach t path st).modules=bxs st.mods from rfl,show((bxs st.mods).length:Int)=(st.mods.length:Int) by unfold bxs;rw[List.length_map],zF,if_neg (by simp)]) (s0:=[]) (Nat.zero_le _) (by omega)
  rw[fold_copy,List.nil_append] at key;exact key
 unfold xn;rw[show(mach t path st).out=st.out from rfl,show(mach t path st).log=st.log from rfl,yF (by simp;omega) (by simp;omega),Option.bind_some,List.nil_append,yF (by simp;omega) (by simp;omega),Option.bind_some,List.nil_append,show(mach t path st).left=st.left from rfl,hl];rfl
def za6(l:List GCmd):Bool:=l.all Ws&&cmpI .leq (l.length:Int) 10
def okR(t:Tree)(path:List Int)(l:List GCmd)(f:Int):Bool:=zw t&&yR path&&za6 l&&(cmpI .geq f 0&&cmpI .leq f 120)
def fst0(f:Int):RSt:=⟨[],[],[],f,[]⟩
def WV(t:Tree)(path:List Int)(l:List GCmd)(f:Int):RSt×List Int:=(Qg t path (imp t path 483) l (fst0 f)).getD (st0,[])
def runV(t:Tree)(path:List Int)(l:List GCmd)(f:Int):GResult:=if okR t path l f=true then resV (WV t path l f).1 (WV t path l f).2 else⟨[],[],[],[],0⟩
theorem validCmds_any(l:List GCmd):(if l.any (λ c=>!Ws c)=true then(.inr false:Unit⊕Bool) else .inl ())=if l.all Ws=true then .inl () else .inr false:=by
 induction l with
 | nil=>rfl
 |
  cons a l ih=>
  rw[List.any_cons,List.all_cons];cases Ws a
  ·
   rfl
  ·
   simpa using ih
theorem za7{l:List GCmd}(hl:l.length<=1048576)(hn:∀ c∈l,sho c.name):wz l=some (za6 l):=by
 have h1:zM (λ s4=>yS l s4) 0=some (if l.any (λ c=>!Ws c)=true then .inr false else .inl ()):=by
  refine qG _ _ _ _ (λ k x hx hlt=>?_) ?_ (by omega) rfl
  ·
   unfold yS;rw[zF,if_pos (decide_eq_true hlt),zT,hx,Option.bind_some,show yg x.kind 0 2=some (cmpI .geq x.kind 0&&cmpI .leq x.kind 2) from rfl,Option.bind_some,xa (hn x (List.mem_of_getElem? hx)),xU,Option.bind_some,zU (by omega)];unfold Ws;cases(cmpI .geq x.kind 0&&cmpI .leq x.kind 2) <;> cases zd x.name <;> rfl
  ·
   unfold yS;rw[zF,if_neg (by simp)]
 unfold wz za6;rw[h1,validCmds_any];cases l.all Ws <;> rfl
theorem okR_spec{l:List GCmd}{f:Int}(h:okR t path l f=true):zw t=true/\yR path=true/\(∀ c∈l,Ws c=true)/\l.length<=10/\0<=f/\f<=120:=by
 unfold okR za6 at h;simp only[Bool.and_eq_true,cmpI,decide_eq_true_eq] at h;exact⟨h.1.1.1,h.1.1.2,List.all_eq_true.1 h.1.2.1,by omega,by omega,by omega⟩
theorem fst0_inv{f:Int}(h:0<=f):Inv (fst0 f):=⟨(λ _ h=>by cases h),(λ _ h=>by cases h),(λ _ h=>by cases h),(λ _ h=>by cases h),h⟩
theorem cmdsR_ok(hp:path.length<=1048576){l:List GCmd}{f:Int}(h:okR t path l f=true):Qg t path (imp t path 483) l (fst0 f)=some (WV t path l f)/\CmdPost (fst0 f) (12*l.length) (WV t path l f).1/\(WV t path l f).2.length=l.length/\(WV t path l f).1.size<=12120:=by
 obtain⟨hv,_,hl,hn,f0,f1⟩:=okR_spec h;obtain⟨r,hr,h1,h2⟩:=cmds_ok (t:=t) (path:=path) hv hp (QL hv hp 483) l (fst0 f) (fst0_inv f0) (by show 4*f.toNat+3<=483;omega) λ c hc=>(zax (hl c hc)).1
 have:WV t path l f=r:=by unfold WV;rw[hr];rfl
 rw[this];refine⟨hr,h1,h2,?_⟩;have h3:=h1.size;have:(fst0 f).size=100*f.toNat:=by unfold RSt.size fst0;simp
 omega
theorem runV_off{l:List GCmd}{f:Int}(h:okR t path l f=false):runV t path l f=⟨[],[],[],[],0⟩:=by unfold runV;rw[h];rfl
theorem zcl(ht:wL t)(hp:path.length<=1048576){l:List GCmd}(hl:l.length<=1048576)(hn:∀ c∈l,sho c.name)(f:Int):jk (scc YN) t path l f=some (runV t path l f):=by
 have key:okR t path l f=true->(jC t path f).bind (λ v21=>Option.bind (α:=Machine×(List Int)) (zM (λ s30=>wh (scc YN) l s30) (v21,[],(0:Int))) λ o27=>(xn o27.1 o27.2).bind λ v64=>some v64)=some (runV t path l f):=λ h=>by
  obtain⟨hv,_,hc,hlen,f0,f1⟩:=okR_spec h;obtain⟨h1,h2,h3,h4⟩:=cmdsR_ok hp h;have hL:X7 t path 483 (scc YN) (imp t path 483):=zau ⟨ht,hv⟩ hp 483 YN (by decide);have hB:BodyEq t path 483 (scc YN) (imp t path 483):=body_of (M:=2418) ⟨ht,hv⟩ hp (zau ⟨ht,hv⟩ hp 483 2418 (by decide));have hz:(fst0 f).size=100*f.toNat:=by unfold RSt.size fst0;simp
  obtain⟨s',hs',hR⟩:=cmds_loop (Rp:=λ st s=>s=mach t path st) (run:=wo (scc YN)) hv hp (QL hv hp 483) (λ st s c r hi hn hle hsz hk hR hr=>by
   subst hR;exact⟨_,run_eq ⟨ht,hv⟩ hp hL hB hi hn hle hsz (zax hk).1 (zax hk).2 hr,rfl⟩) l hc (by omega) l.length 0 (fst0 f) (mach t path (fst0 f)) [] (WV t path l f) (by omega) (fst0_inv f0) (by show 4*f.toNat+3<=483;omega) (by show f<=1000000;omega) (by omega) rfl rfl (by rw[List.drop_zero];exact h1)
  subst hR;have hloop:zM (λ s30=>wh (scc YN) l s30) (mach t path (fst0 f),([]:List Int),(0:Int))=some (mach t path (WV t path l f).1,(WV t path l f).2):=qF (m:=l.length+1) hs' (by omega);rw[show jC t path f=some (mach t path (fst0 f)) from rfl,Option.bind_some,hloop,Option.bind_some,result_eq h2.inv (RSt.small h4 (by decide)),Option.bind_some];unfold runV;rw[if_pos h]
 unfold jk;rw[WG ht,Option.bind_some,WH hp,xU,Option.bind_some,za7 hl hn,xU,Option.bind_some,show yg f 0 120=some (cmpI .geq f 0&&cmpI .leq f 120) from rfl,xU,Option.bind_some];by_cases hr:okR t path l f=true
 ·
  have hr':=hr;unfold okR at hr';simp only[Bool.and_eq_true] at hr';rw[hr'.1.1.1,hr'.1.1.2,hr'.1.2,hr'.2.1,hr'.2.2];exact key hr
 ·
  rw[runV_off (Bool.eq_false_iff.2 hr)];have h0:okR t path l f=false:=Bool.eq_false_iff.2 hr;unfold okR at h0
  revert h0
  generalize zw t=a;generalize yR path=b;generalize za6 l=c;generalize (cmpI .geq f 0&&cmpI .leq f 120)=d;cases a <;> cases b <;> cases c <;> cases d <;> intro h0 <;> first | rfl | cases h0
open Go.RowKit
variable{t:Tree}{path:List Int}{a b st:RSt}{e:Int}{s:Str}{I:RImp}{c:GCmd}
def Sn(a b:RSt):Prop:=b.mods.length=a.mods.length/\∀ (i:Nat) (m:GMod),a.mods[i]?=some m->∃ m',b.mods[i]?=some m'/\m'.name=m.name/\(m'.cached=true->m.cached=true)
theorem Sn.back(h:Sn a b){i:Nat}{m':GMod}(hm:b.mods[i]?=some m'):∃ m,a.mods[i]?=some m/\m'.name=m.name/\(m'.cached=true->m.cached=true):=by
 have hl:i<a.mods.length:=by rw[← h.1];exact zx hm
 obtain⟨m2,h1,h2⟩:=h.2 i _ (List.getElem?_eq_getElem hl);rw[hm] at h1;injection h1 with h1;subst h1;exact⟨_,List.getElem?_eq_getElem hl,h2⟩
theorem upd_sn{k:Nat}{f:GMod->GMod}(hf:∀ m,(f m).name=m.name/\((f m).cached=true->m.cached=true))(hb:b.mods=updA a.mods k f):Sn a b:=
 ⟨by rw[hb];exact Zk ..,λ i m hm=>by
  rw[hb,Wo];by_cases e:i=k
  ·
   subst e;rw[if_pos rfl,hm];exact⟨_,rfl,hf m⟩
  ·
   rw[if_neg e];exact⟨m,hm,rfl,id⟩⟩
theorem Sm.sn(h:Sm a b):Sn a b:=⟨h.1,λ i m hm=>let⟨m',h1,h2⟩:=h.2 i m hm;⟨m',h1,h2.name,λ c=>h2.cached ▸ c⟩⟩
theorem sn_same(h:b.mods=a.mods):Sn a b:=⟨by rw[h],λ i m hm=>⟨m,by rw[h];exact hm,rfl,id⟩⟩
structure Wd(st:RSt):Prop where
 dist:∀ (i j:Nat) (m m':GMod),st.mods[i]?=some m->st.mods[j]?=some m'->m.cached=true->m'.cached=true->m.name=m'.name->i=j
 order:∀ (i:Nat) (m:GMod),st.mods[i]?=some m->zr m.name≠emptyS->∃ (j:Nat) (m':GMod),j<i/\st.mods[j]?=some m'/\m'.name=zr m.name
theorem Wd.sn(w:Wd a)(h:Sn a b):Wd b where
 dist i j m m' h1 h2 c1 c2 e:=by
  obtain⟨y,k1,k2,k3⟩:=h.back h1;obtain⟨z,l1,l2,l3⟩:=h.back h2;exact w.dist i j y z k1 l1 (k3 c1) (l3 c2) (by rw[← k2,← l2];exact e)
 order i m h1 hp:=by
  obtain⟨y,k1,k2,_⟩:=h.back h1;rw[k2] at hp ⊢;obtain⟨j,m',j1,j2,j3⟩:=w.order i y k1 hp;obtain⟨m2,l1,l2,_⟩:=h.2 j m' j2;exact⟨j,m2,j1,l1,l2.trans j3⟩
theorem Wd.bgW(w:Wd a)(sp:Spec)(n:New t path a s):Wd (a.begin s sp) where
 dist i j m m' h1 h2 c1 c2 e:=by
  rcases qk h1 with h1 | ⟨i1,h1⟩
  ·
   rcases qk h2 with h2 | ⟨j1,h2⟩
   ·
    exact w.dist i j m m' h1 h2 c1 c2 e
   ·
    subst h2;have:=n.gone m (List.mem_of_getElem? h1);rw[show hits s m=true from YZ.2 ⟨e,c1⟩] at this;cases this
  ·
   rcases qk h2 with h2 | ⟨j1,h2⟩
   ·
    subst h1;have:=n.gone m' (List.mem_of_getElem? h2);rw[show hits s m'=true from YZ.2 ⟨e.symm,c2⟩] at this;cases this
   ·
    omega
 order i m h1 hp:=by
  rcases qk h1 with h1 | ⟨i1,h1⟩
  ·
   obtain⟨j,m',j1,j2,j3⟩:=w.order i m h1 hp;exact⟨j,m',j1,YY _ _ _ j2,j3⟩
  ·
   subst h1;rcases n.up with h | ⟨m',h2,h3⟩
   ·
    exact absurd h hp
   ·
    obtain⟨j,hj⟩:=List.getElem?_of_mem h2;exact⟨j,m',by have:=zx hj;omega,YY _ _ _ hj,(YZ.1 h3).1⟩
theorem Tr.wd(h:Tr t path a b e):Wd a->Wd b:=by
 induction h with
 | stop=>exact id
 | seq _ _ h1 h2=>exact λ w=>h2 (h1 w)
 | tick=>exact λ w=>w.sn (sn_same rfl)
 | out=>exact λ w=>w.sn (sn_same rfl)
 | give=>exact λ w=>w.sn (zav ..).sn
 | hit=>exact λ w=>w.sn (sn_same rfl)
 | bad n h he ih=>exact λ w=>(ih (w.bgW _ n)).sn (upd_sn (f:=λ m=>{ m with cached:=false }) (λ _=>⟨rfl,λ h=>by cases h⟩) rfl)
 | good n h ih=>exact λ w=>((ih (w.bgW _ n)).sn (done_sm ..).sn).sn (tell_sm ..).sn
theorem Fnd.of(f:Fnd t path a)(h:∀ (i:Nat) (m:GMod),b.mods[i]?=some m->∃ y,a.mods[i]?=some y/\m.name=y.name/\m.kind=y.kind/\m.roots=y.roots):Fnd t path b:=λ i m hm=>by
 obtain⟨y,h1,h2,h3,h4⟩:=h i m hm;have:=f i y h1;rw[h2,h3,h4];exact this
structure CK(t:Tree)(path:List Int)(a b:RSt):Prop where
 wd:Wd a->Wd b
 fnd:Fnd t path a->Fnd t path b
 log:∃ l,b.log=a.log++l/\Bal l
 out:∃ o,b.out=a.out++o
theorem CK.refl(a:RSt):CK t path a a:=⟨id,id,⟨[],by simp,.nil⟩,[],by simp⟩
theorem CK.trans{c:RSt}(h:CK t path a b)(k:CK t path b c):CK t path a c where
 wd w:=k.wd (h.wd w)
 fnd f:=k.fnd (h.fnd f)
 log:=let⟨x,h1,h2⟩:=h.log;let⟨y,k1,k2⟩:=k.log;⟨x++y,by rw[k1,h1,List.append_assoc],h2.app k2⟩
 out:=let⟨x,h1⟩:=h.out;let⟨y,k1⟩:=k.out;⟨x++y,by rw[k1,h1,List.append_assoc]⟩
theorem cmds_one(c:GCmd)(st:RSt):Qg t path I [c] st=(cmdF t path I st c).bind λ r=>some (r.1,[r.2]):=by
 show((cmdF t path I st c).bind λ r=>(Qg t path I [] r.1).bind λ q=>some (q.1,r.2::q.2))=_;cases cmdF t path I st c <;> rfl
open Go.RowKit
variable{t:Tree}{path:List Int}{a b:RSt}{s:Str}{I:RImp}{c:GCmd}{l l':List GCmd}{f:Int}
section
variable(hp:path.length<=1048576)
include hp
end
theorem okR_one(t:Tree)(path:List Int)(s:Str):okR t path [⟨0,s⟩] 120=okG t path s:=by
 unfold okR okG za6 Ws;show(zw t&&yR path&&(((true&&true&&zd s)&&true)&&true)&&(true&&true))=_;cases zw t <;> cases yR path <;> cases zd s <;> rfl
theorem cmdsR_one(hp:path.length<=1048576)(h:okG t path s=true):WV t path [⟨0,s⟩] 120=((ranR t path s).1,[(ranR t path s).2.2]):=by
 obtain⟨hv,_,hs⟩:=Zh h;have h1:=(cmdsR_ok hp (by rw[okR_one];exact h)).1;rw[cmds_one] at h1;unfold cmdF at h1;rw[if_pos rfl,show fst0 120=st0 from rfl,(ran_ok hv hp hs).1] at h1;injection h1 with h1;exact h1.symm
theorem runV_one(hp:path.length<=1048576)(h:okG t path s=true):runV t path [⟨0,s⟩] 120=resV (ranR t path s).1 [(ranR t path s).2.2]:=by
 unfold runV;rw[if_pos (by rw[okR_one];exact h),cmdsR_one hp h]
open Go.RowKit
variable{t:Tree}{path:List Int}{s:Str}
theorem importOf_eq(ht:wL t)(hp:path.length<=1048576)(hn:sho s)(h:okG t path s=true):qE (scc YN) t path s=some (resV (ranR t path s).1 [(ranR t path s).2.2]):=by
 unfold qE;rw[zcl ht hp (by simp) (λ c hc=>by rw[List.mem_singleton.1 hc];exact hn),Option.bind_some,runV_one hp h]
end Go.Proofs.YtpmkkijamfgaeaaGreatDoor
