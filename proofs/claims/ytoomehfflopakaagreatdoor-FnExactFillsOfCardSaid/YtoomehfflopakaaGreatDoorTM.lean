import Derived.Test.YtoomehfflopakaaGreatDoorTH
namespace Go.Proofs.YtoomehfflopakaaGreatDoor
open Go.RowKit Tryz
attribute [local irreducible] OpRel OpdR
set_option maxRecDepth 10000
set_option maxHeartbeats 1600000
variable{f:File}{x:FLt}{x2:Int}{ps:List (Nat×Nat)}{x0:Machine}{r:Machine×Int}{bk bl:Nat}{x1:Str}
theorem kN117:fnB prog 117=true:=by kernel_rfl
theorem kT73:tyB prog 73 false 1=true:=by kernel_rfl
theorem kN81:fnB prog 81=true:=by kernel_rfl
def Yf(x0:List Compiled)(x1:File)(x2:Int):Option ((List Stmt)×(List Compiled)×Bool):=
(qS x0).bind λ v2=>
(gO ((!v2) == false) (jh x1)).bind λ v3=>
(gO (((!v2)||(!v3)) == false) (Ys x2)).bind λ v4=>
if(((!v2)||(!v3))||(!v4))=true then(some (([]:List Stmt),[],false))
else((YH x0).bind λ a8=>
(qI x1).bind λ b5=>
(jz a8 x1.root b5 x1.init).bind λ a9=>
(gO (cmpI .geq a9 0 == true) (atI a8 a9)).bind λ b6=>
(gO (cmpI .geq a9 0 == true) (Xw b6 x1)).bind λ b7=>
if(cmpI .geq a9 0&&b7)=true then((atI a8 a9).bind λ b8=>
(yK b8.body).bind λ b9=>
some (b9,a8,true))
else((qu x1 x2).bind λ b3=>
Option.bind (α:=(List Compiled)) (if cmpI .geq a9 0 then((atI a8 a9).bind λ _d4=>
(setO a8 a9 b3).bind λ c8=>
some c8)
else(if(cmpI .lss (a8.length:Int) 12)=true then((appO 88 a8 ([b3]:List Compiled)).bind λ d1=>
some d1)
else(some a8))) λ d2=>
(yK x1.body).bind λ d3=>
some (d3,d2,false)))
theorem zaM{x0 x1 r}(h:Yf x0 x1 x2=some r):Fn prog 73 [dt x0,dt x1,dt x2] (dtup [dt r.1,dt r.2.1,dt r.2.2]):=by
 refine fq1 2 func73 λ M w0 _ j=>?_
 refine j.z1 (λ j=>?_) (hs:=sZ 1 (r:=by exact sc Z (oA Z (wu (α:=Stmt)))<|sc Z (oA Z (jE (α:=Compiled) (e:=174)))<|segZ))
 have⟨v2,p2,v3,p3,h⟩:=Ke h
 have⟨v4,p4,h⟩:=bs h
 refine j.zc h (λ j h=>?_) (λ j h=>?_) (hs:=sZ 1 (r:=by exact sc Z (oK (Qr p2))<|sZ 3 (r:=by exact sg Z Z (λ hg=>oK (QN (gh hg p3)))<|sZ 4 (r:=by exact sg Z Z (λ hg=>oK (W3 (gh hg p4)))<|segZ))))
 ·refine j.zo [(7,0)] (λ j=>?_) (hs:=sc Z (xH (opds:=[]) (α:=Stmt) Z Z Z .nil)<|sc Z (xt (α:=Compiled) (e:=174) Z)<|segZ)
  cases h
  exact j.ret3 (j.frozen (t:=6)) (j.frozenT (t:=7) 0 Z (λ _ h=>(by cases h))) (j.frozen (t:=8)) ⟨rfl,rfl,rfl⟩
 refine QY<|j.zg 1 λ j=>?_
 have⟨d5,a9,h⟩:=bs h
 refine j.own (l:=[.tmp 27]) 0 Z Z kN117 (.cons T .nil) (zds a9) (gl Z) [2,4] Z [] Z Z λ d6 _ _ _ j=>?_
 refine j.zh 1 [(9,0)] (λ j=>Wz ?_)
 have⟨d7,b3,e0,b5,h⟩:=Ke h
 refine j.zv [(9,0)] (λ j=>?_) (hs:=sV 4 (r:=by exact sw Z (zA (l:=[.tmp 32]) Z (.cons T .nil) (Jv b3))<|sV 2 (r:=by exact sw Z (yV (l:=[.tmp 29,.tmp 31,.tmp 33,.tmp 35]) j.ob.sub Z (.cons (borrow j.ob 0 Z T) (.cons (xf j.ob.sub T) (.cons (xf j.ob.sub T) (.cons (xf j.ob.sub T) .nil)))) (Wh b5) jK)<|sw Z (oA Z T)<|.nil)))
 have⟨e3,b6,e4,b7,h⟩:=Ke h
 refine j.zv [(9,0)] (λ j=>?_) (hs:=sV 1 (r:=by exact sw Z (oCI Z T cI)<|sV 3 (r:=by exact swg Z Z (λ hg=>xIdxT Z kS73 V V (gh hg b6))<|sV 2 (r:=by exact swg Z Z (λ hg=>zA (l:=[.tmp 43,.tmp 44]) Z (.cons V (.cons V .nil)) (zcc (gh hg b7)))<|sw Z (xc Z T T)<|.nil))))
 refine j.cq h (λ h=>?_) λ h=>?_
 ·have⟨e5,b8,h⟩:=bs h
  have⟨e6,b9,h⟩:=bs h
  refine j.zo [(7,0)] (λ j=>?_) (hs:=sZ 2 (r:=by exact sc Z (xIdxT Z kS73 T T b8)<|sZ 2 (r:=by exact sc Z (zA (l:=[.tmp 51]) Z (.cons T .nil) ((j0 b9)).fn)<|segZ)))
  cases h
  exact j.ret3 (j.frozen (t:=6)) (j.frozenT (t:=7) 0 Z (λ _ h=>h)) (j.frozen (t:=8)) ⟨Z,Z,Z⟩
 have⟨e7,e8,h⟩:=bs h
 refine QY<|j.zh 3 [(9,0)] λ j=>?_
 refine j.alA 1 WJ [4,10,56] [9] λ e9 j=>?_
 refine j.stA 11 1 FldS.id (tp Z) [4,10] [9] (λ j=>Wz ?_)
 refine za<|j.jmq 2 [4] (λ _=>[]) (λ a8 q=>[(9,0,dtip (q 0) 174 a8)]) h (λ a8 c8=>?_) λ a8 f9 _ _ _ j h=>?_
 ·refine j.zd [(9,0),(11,1)] c8 (λ j h=>?_) λ j h=>?_
  ·have⟨g0,d1,h⟩:=bs h
   refine QY<|j.zh 4 [(9,0),(63,0)] (λ j=>?_) (hs:=sZ 3 (r:=by exact sc Z (xIdxT Z kS73 T T d1)<|.nil))
   have⟨g3,d2,h⟩:=bs h
   refine j.storeT (sb:=9) 0 (tp Z) d2 [4] [] (λ _ _ j=>Wz ?_)
   cases h
   exact fz
  refine j.zd [(9,0),(11,1)] h (λ j h=>?_) (λ j h=>?_) (hs:=sZ 1 (r:=by exact sc Z (zbJ Z T)<|segZ))
  ·refine QY<|j.zh 3 [(9,0),(68,0)] λ j=>?_
   have⟨g4,d3,h⟩:=bs h
   refine j.apA 0 yI d3 [4] [] λ g5 j=>?_
   refine j.zh 1 [(9,0)] (λ j=>Wz ?_)
   cases h
   exact fz
  cases h
  exact fz
 have⟨g6,d4,h⟩:=bs h
 refine j.zo [(7,0)] (λ j=>?_) (hs:=sZ 2 (r:=by exact sc Z (zA (l:=[.tmp 73]) Z (.cons T .nil) ((j0 d4)).fn)<|segZ))
 cases h
 exact j.ret3 (j.frozen (t:=6)) (j.frozenT (t:=7) 0 Z (λ _ h=>h)) (j.frozen (t:=8)) ⟨Z,Z,Z⟩
instance:Ct3 prog 73 dt dt dt (λ r=>dtup [dt r.1,dt r.2.1,dt r.2.2]) Yf:=⟨λ h=>zaM h⟩
def JC(x0:File):Option (List Stmt):=
some x0.body
theorem zbW{x0 r}(h:JC x0=some r):Fn prog 81 [dt x0] (dt r):=by
 refine fq1 0 func81 λ M _ _ j=>?_
 refine j.z1 (λ j=>?_) (hs:=sZ 1 (r:=by exact sc Z (oA Z (wu (α:=Stmt)))<|.nil))
 exact j.ze h
def XN(x0:File)(x1:List Compiled)(x2:Int):Option ((List Compiled)×(List Stmt)):=
(Yf x1 x0 x2).bind λ v2=>
some (v2.2.1,v2.1)
@[reducible] def oLC:Ow (List Compiled):=Ow.frz (α:=List Compiled)
theorem zeW{x0 x1 r}(h:XN x0 x1 x2=some r):FnM 1 prog 72 (Ow.box oLC) ⟨x1⟩ [dt x0,dptr x2] ⟨r.1⟩ (.frz (dt r.2)):=by
 refine fnMB (fn:=f72) 1 1 2 func72 Z Z Z (λ M G _ b0 _ j=>wqw ?_)
 refine j.zo [(1,1)] (λ j=>?_) (hs:=sZ 1 (r:=by exact sc Z (oA Z (wu (α:=Stmt)))<|.nil))
 have⟨v2,p2,h⟩:=bs h
 refine j.zo [(1,1)] (λ j=>?_) (hs:=sc Z (xLf (sb:=1) Pb Z U Z)<|sZ 2 (r:=by exact sc Z (oK (zaM p2))<|segZ))
 refine QY<|j.zh 1 [(1,1)] λ j=>?_
 refine j.sfA 1 1 Pb (zt Z) (tp Z) [5] [] (λ j=>Wz ?_)
 refine j.zo [(1,1)] λ j=>?_
 exact j.xD 1 1 h
def c_load(x:FLt)(f:File):Option (FLt×List Stmt):=match x.o with
 | none=>(JC f).bind λ r=>some (x,r)
 | some q=>(XN f q.2 q.1.x).bind λ r=>some (⟨some (q.1,r.1)⟩,r.2)
@[reducible] def oLd(b:Nat):Ow (FLt):=Ow.fw (δ:=C1 Int) (.func (.func 81) #[] #[]) 72 b oLC
theorem c_load_w{r}(h:c_load x f=some r):FnD prog (oLd bl) x [dt f] r.1 (.frz (dt r.2)):=by
 obtain⟨o⟩:=x
 unfold c_load at h
 cases o with
 |none=>
  obtain⟨r1,h1,h2⟩:=bV.1 h
  injection h2 with h2
  subst h2
  exact fw_none kN81 (zbW h1) Z
 |some q=>
  obtain⟨r1,h1,h2⟩:=bV.1 h
  injection h2 with h2
  subst h2
  exact fw_some (d:=q.1) (zeW h1)
theorem kS99:slB prog 99 1=true:=by kernel_rfl
theorem zaN:tyB prog 139 false 1=true:=by kernel_rfl
theorem kF142_3:fldB prog 142 3 3=true:=by kernel_rfl
theorem zbO:fldB prog 142 0 0=true:=by kernel_rfl
theorem zaw:fldB prog 103 4 4=true:=by kernel_rfl
theorem kN132:fnB prog 132=true:=by kernel_rfl
theorem kF142_1:fldB prog 142 1 1=true:=by kernel_rfl
theorem JK:fldB prog 142 5 5=true:=by kernel_rfl
theorem zaO:slB prog 140 3=true:=by kernel_rfl
theorem kF188_0:fldB prog 188 0 0=true:=by kernel_rfl
theorem zdu:fldB prog 188 1 1=true:=by kernel_rfl
theorem kF103_6:fldB prog 103 6 6=true:=by kernel_rfl
theorem kD197_0_1:∀ {M:Nat->Prop} {look:Nat->Option Dt} {o:Oper} {q0 q1:Operand} {y0:Int} {y1:Str},o.op=.build 197 #[(0,q0),(1,q1)]->OpdR M look q0 (dt y0)->OpdR M look q1 (dt y1)->OpRel prog M look o (dt (⟨y0,y1⟩:GEvent)):=@λ _ _ _ q0 q1 y0 y1 ho h0 h1=>yf (parts:=[(0,q0),(1,q1)]) (ns:=[1,1]) (zs:=zpGEvent) Z ho (λ w a hl=>FA ⟨(by decide:0<2),Rep.len (α:=Int) (OpdR.cells h0 hl)⟩ (FA ⟨(by decide:1<2),Rep.len (α:=Str) (OpdR.cells h1 hl)⟩ FN)) (λ w a hl=>GEvent.parts (x:=(⟨y0,y1⟩:GEvent)) (OpdR.cells h0 hl) (OpdR.cells h1 hl))
instance iF103_6WaD:FldO prog 103 6 6:=⟨kF103_6⟩
def zS(x0:List (Bx GMod))(x1:(GMod->Option Bool))(s4:Int):Option (Int⊕(Unit⊕Int)):=
if(cmpI .lss s4 (x0.length:Int))=true then((atI x0 s4).bind λ a8=>
(x1 a8.x).bind λ a9=>
if a9=true then(some (.inr (.inr s4)))
else((i64 (s4+(1:Int))).bind λ b3=>
some (.inl b3)))
else(some (.inr (.inl ())))
def xa(x0:List (Bx GMod))(x1:(GMod->Option Bool)):Option Int:=
Option.bind (α:=Unit⊕Int) (zE (λ s4=>zS x0 x1 s4) (0:Int)) (Sum.elim (λ _b2=>
some (-1:Int)) some)
theorem Z7{x0 x1 r}(h:xa x0 x1=some r):Fn prog 131 [dt x0,dfq1 prog x1] (dt r):=by
 refine fq1 0 func131 λ M w0 _ j=>?_
 refine j.z1 (λ j=>za ?_)
 refine j.jb [] (λ _=>[]) h (λ o2 p2 k2=>?_) λ b2 _ _ j h=>?_
 ·refine j.z1 λ j=>?_
  refine wql p2 (λ s4 a w=>Sx (Frm.of w0) 19 M M [] [(0,dt x0),(7,dt (x0.length:Int)),(8,dt s4),(1,dfq1 prog x1)] [] a w) (j.sel0 [0,7,8,1]) ?_
  rintro s4 z4 _ _ j hs4 hx4
  have h:zS x0 x1 s4=some z4:=hs4
  unfold zS at h
  refine j.zc h (λ j h=>?_) λ j h=>?_
  ·refine j.z1 λ j=>?_
   have⟨a9,b3,b5,a8,h⟩:=Ke h
   refine j.zc h (λ j h=>?_) (λ j h=>?_) (hs:=sZ 4 (r:=by exact sc Z (OpRel.bx (zH Z (ht:=zaN) T))<|sc Z (xCaQ1 Z T T a8)<|.nil))
   ·exact j.ze (jo (lo h hx4) k2)
   have⟨b6,b7,h⟩:=bs h
   exact j.zn [] h
  have h:=lo h hx4
  exact flz h
 exact j.ze h
def xq(x0:GMod)(x1:Str):Option Bool:=
some (x0.cached&&decide (x0.name=x1))
theorem Q9{x0 r}(h:xq x0 x1=some r):Fn prog 132 [dptr x0,dptr x1] (dt r):=by
 refine fq1 0 func132 λ M _ _ j=>?_
 refine j.z1 λ j=>?_
 refine j.zw λ j=>?_
 exact j.ret Z Z h
def yj(x0:Machine)(x1:Str):Option Int:=
(xa x0.modules (λ a0=>xq a0 x1)).bind λ v2=>
some v2
theorem xl{r}(h:yj x0 x1=some r):Fn prog 82 [dptr x0,dt x1] (dt r):=by
 refine fq1 0 func82 λ M _ a0 j=>?_
 refine j.z1 λ j=>?_
 have⟨v2,p2,h⟩:=bs h
 exact j.ze h (hs:=sZ 4 (r:=by exact sc Z (xMkQ1 (l:=[.tmp 3]) (g:=(λ a0=>xq a0 x1)) Z kN132 (.cons T .nil) Z (λ _ _ h=>Q9 h))<|sc Z (oK (Z7 p2))<|segZ))
instance:Ct2 prog 82 dptr dt dt yj:=⟨λ h=>xl h⟩
def yG(a8:Str×Int):Option ((Str×Int)⊕Str):=
if(cmpI .gtr a8.2 1&&decide (a8.1≠(⟨[]⟩:Str)))=true then((xz a8.1).bind λ a9=>
(i64 (a8.2 - (1:Int))).bind λ b3=>
some (.inl (a9,b3)))
else(some (.inr a8.1))
def qv(x0:Str)(x1:Int)(x2:Str):Option Str:=
(xi x0).bind λ v2=>
(gO ((!v2) == false) (xi x2)).bind λ v3=>
(gO (((!v2)||(!v3)) == false) (yg x1 (0:Int) (4:Int))).bind λ v4=>
if(((!v2)||(!v3))||(!v4))=true then(some (⟨[]⟩:Str))
else(if cmpI .eql x1 0 then(some x2)
else(Option.bind (α:=Str) (zE (λ b3=>yG b3) (x0,x1)) λ a8=>
if(decide (a8=(⟨[]⟩:Str)))=true then(some (⟨[]⟩:Str))
else(Option.bind (α:=Str) (if(decide (x2≠(⟨[]⟩:Str)))=true then((catO (⟨[46]⟩:Str) x2).bind λ b5=>
(catO a8 b5).bind λ b6=>
some b6)
else(some a8)) λ a9=>
(ym a9).bind λ b7=>
if(!b7)=true then(some (⟨[]⟩:Str))
else(some a9))))
theorem Qg{x0 x1 x2 r}(h:qv x0 x1 x2=some r):Fn prog 177 [dt x0,dt x1,dt x2] (dt r):=by
 refine fq1 0 func177 λ M w0 _ j=>?_
 refine j.z1 λ j=>?_
 have⟨v2,p2,v3,p3,h⟩:=Ke h
 have⟨v4,p4,h⟩:=bs h
 refine j.zc h (λ j h=>?_) (λ j h=>?_) (hs:=sZ 1 (r:=by exact sc Z (oK (wW p2))<|sZ 3 (r:=by exact sg Z Z (λ hg=>oK (wW (gh hg p3)))<|sZ 4 (r:=by exact sg Z Z (λ hg=>oK (yQ (gh hg p4)))<|segZ))))
 ·exact j.ze h
 refine j.zc h (λ j h=>?_) λ j h=>?_
 ·exact j.ze h
 refine wqk<|za<|j.jm [2] (λ a9=>[(0,dt a9)]) h (λ a9 b7=>?_) λ a9 _ _ j h=>?_
 ·refine wql b7 (λ a8 a w=>Sx (Frm.of w0) 45 M M [] [(0,dt a8.1),(1,dt a8.2),(2,dt x2)] [] a w) (j.sel0 [0,1,2]) ?_
  rintro a8 b8 _ _ j b3 b5
  have h:yG a8=some b8:=b3
  unfold yG at h
  refine j.zc h (λ j h=>?_) λ j h=>?_
  ·have⟨c8,d1,h⟩:=bs h
   refine j.z1 λ j=>?_
   have⟨d2,d3,h⟩:=bs h
   exact j.zn [] h
  have h:=lo h b5
  cases h
  exact fz
 refine j.zc h (λ j h=>?_) λ j h=>?_
 ·exact j.ze h
 refine wqk<|za<|j.jm [] (λ b6=>[(0,dt b6)]) h (λ b6 b9=>?_) λ b6 _ _ j h=>?_
 ·refine j.zc b9 (λ j h=>?_) λ j h=>?_
  ·have⟨d4,d5,h⟩:=bs h
   have⟨d6,d7,h⟩:=bs h
   refine j.z1 λ j=>?_
   cases h
   exact fz
  cases h
  exact fz
 have⟨e0,e3,h⟩:=bs h
 refine j.zc h (λ j h=>?_) λ j h=>?_
 ·exact j.ze h
 exact j.ze h
instance:Ct3 prog 177 dt dt dt dt qv:=⟨λ h=>Qg h⟩
def wk(x0:GMod):Option Str:=
if cmpI .eql x0.kind 1 then((xz x0.name).bind λ v5=>
some v5)
else(some x0.name)
theorem XZ{x0 r}(h:wk x0=some r):Fn prog 178 [dptr x0] (dt r):=by
 refine fq1 0 func178 λ M _ _ j=>?_
 refine j.z1 λ j=>?_
 refine j.zc h (λ j h=>?_) λ j h=>?_
 ·have⟨v5,p5,h⟩:=bs h
  exact j.ze h
 exact j.ze h
instance:Ct1 prog 178 dptr dt wk:=⟨λ h=>XZ h⟩
def xR(x0:GMod)(x1:Str)(s6:GVal×Int):Option ((GVal×Int)⊕(GVal⊕(GVal×Bool))):=
if(cmpI .lss s6.2 (x0.attrs.length:Int))=true then((atI x0.attrs s6.2).bind λ a8=>
if(decide (a8.name=x1))=true then(some (.inr (.inr (a8.value,true))))
else((i64 (s6.2+(1:Int))).bind λ a9=>
some (.inl (s6.1,a9))))
else(some (.inr (.inl s6.1)))
def x9(x0:GMod)(x1:Str):Option (GVal×Bool):=
Option.bind (α:=GVal⊕(GVal×Bool)) (zE (λ s6=>xR x0 x1 s6) (zGVal,(0:Int))) (Sum.elim (λ _b4=>
some ((⟨0,0⟩:GVal),false)) some)
theorem w6{x0 r}(h:x9 x0 x1=some r):Fn prog 179 [dptr x0,dt x1] (dtup [dt r.1,dt r.2]):=by
 refine fq1 2 func179 λ M w0 _ j=>?_
 refine QY<|j.alA 0 zat [0,1] [] λ b2 j=>?_
 refine j.zh 1 [(4,0)] (λ j=>Wz ?_)
 refine za<|j.jbq 2 [] (λ _=>[]) (λ b4 q=>[(4,0,dbox (q 0) 0 b4)]) h (λ o4 p4 k4=>?_) λ b4 q4 _ _ _ j h=>?_
 ·refine j.zo [(4,0)] λ j=>?_
  refine wql p4 (λ s6 a w=>∃ M1 Q R,Sx (Frm.of w0) 25 M M1 [oneB Q,oneB R] [(1,dt x1),(11,dt x0.attrs),(12,dt (x0.attrs.length:Int)),(13,dt s6.2)] [(4,0,dbox Q 0 s6.1)] a w) fx ?_
  rintro s6 z6 _ _ ⟨_,Q,R,j⟩ hs6 hx6
  have h:xR x0 x1 s6=some z6:=hs6
  unfold xR at h
  refine j.zd [(4,0)] h (λ j h=>?_) λ j h=>?_
  ·have⟨a8,a9,h⟩:=bs h
   refine QY<|j.zh 2 [(4,0)] λ j=>?_
   refine j.alA 1 zrGAttr [1,11,12,13,16] [4] λ b3 j=>?_
   refine j.stA 7 1 FldS.id (tp Z) [1,11,12,13] [4] (λ j=>Wz ?_)
   refine j.zd [(4,0),(7,1)] h (λ j h=>?_) λ j h=>?_
   ·refine QY<|j.zh 2 [(4,0)] λ j=>?_
    refine j.stA 4 0 FldS.id (tp Z) [] [] λ j=>?_
    refine j.zh 1 [(4,0)] (λ j=>Wz ?_)
    have h:=lo h hx6
    have h:=jo h k4
    cases h
    exact j.y2
   have⟨b5,b6,h⟩:=bs h
   exact j.zn [(4,0)] h
  have h:=lo h hx6
  exact flz h
 refine QY<|j.zh 1 [(4,0)] (λ j=>?_) (hs:=sc Z (yf (parts:=[]) (ns:=[1,1]) (zs:=zpGVal) Z Z (λ w a hl=>by simp) (λ w a hl=>GVal.parts (x:=(⟨0,0⟩:GVal)) ⟨Z,trivial⟩ ⟨Z,trivial⟩))<|.nil)
 refine j.stA 4 0 FldS.id (tp Z) [] [] λ j=>?_
 refine j.zh 1 [(4,0)] (λ j=>Wz ?_)
 cases h
 exact j.y2
instance:Ct2 prog 179 dptr dt (λ r=>dtup [dt r.1,dt r.2]) x9:=⟨λ h=>w6 h⟩
def YJ(x0:Tree)(x1:List Int)(x2:Int):Option Machine:=
some (⟨x0,x1,⟨none⟩,⟨none⟩,[],[],[],[],x2⟩:Machine)
@[reducible] def oIs:Ow (List Int):=Ow.row 3 (Ow.frz (α:=Int))
@[reducible] def oEs:Ow (List GEvent):=Ow.row 197 (Ow.frz (α:=GEvent))
@[reducible] def oSs:Ow (List Str):=Ow.row 9 (Ow.frz (α:=Str))
@[reducible] def oMac(b c:Nat)(ps:List (Nat×Nat)):Ow (Bx Machine):=Ow.box (owMachine (oKn b) (oLd c) (Ow.rowP ps 139 (owGModR oAtt)) oIs oEs oSs)
theorem zdv{x0 x1 r}(h:YJ x0 x1 x2=some r):FnN prog 52 [dt x0,dt x1,dt x2] (.ow (oMac bk bl []) ⟨r⟩):=by
 refine fnN (fn:=f52) 4 func52 Z Z (λ M _ _ j=>wqw ?_)
 refine j.z1 (λ j=>?_) (hs:=sZ 1 (r:=by exact sc Z (oA Z opd_nilp)<|.nil))
 refine QY<|j.zg 3 λ j=>?_
 refine j.bldW (ow:=(owMachine (oKn bk) (oLd bl) (Ow.rowP [] 139 (owGModR oAtt)) oIs oEs oSs)) (parts:=[(0,.tmp 7),(1,.tmp 8),(8,.tmp 9),(3,.func 81)]) (ns:=[1,1,1,1,1,1,1,1,1]) (zs:=zpMachine) (x:=(⟨x0,x1,⟨none⟩,⟨none⟩,[],[],[],[],x2⟩:Machine)) 3 [] (FA ⟨by decide,Rep.len (α:=Tree) (j.oc T)⟩ (FA ⟨by decide,Rep.len (α:=List Int) (j.oc T)⟩ (FA ⟨by decide,Rep.len (α:=Int) (j.oc T)⟩ (FA ⟨by decide,Z⟩ FN)))) (((owMachine (oKn bk) (oLd bl) (Ow.rowP [] 139 (owGModR oAtt)) oIs oEs oSs)).more (owMachine.mk (x:=(⟨x0,x1,⟨none⟩,⟨none⟩,[],[],[],[],x2⟩:Machine)) (j.oc T) (j.oc T) ((Ow.fw_z Z) _ _) ((Ow.fw_z Z) _ _) (rowP_zz _ _) (Ow.row_z _ _) (Ow.row_z _ _) (Ow.row_z _ _) (j.oc T) (λ b h1=>(λ h2=>h2.elim (λ h2=>h2.elim) (λ h2=>h2.elim (λ h2=>h2.elim) (λ h2=>h2.elim (λ h2=>h2.elim) (λ h2=>h2.elim (λ h2=>h2.elim) (λ h2=>h2.elim)))))) (λ b h1=>(λ h2=>h2.elim (λ h2=>h2.elim) (λ h2=>h2.elim (λ h2=>h2.elim) (λ h2=>h2.elim (λ h2=>h2.elim) (λ h2=>h2.elim))))) (λ b h1=>(λ h2=>h2.elim (λ h2=>h2.elim) (λ h2=>h2.elim (λ h2=>h2.elim) (λ h2=>h2.elim)))) (λ b h1=>(λ h2=>h2.elim (λ h2=>h2.elim) (λ h2=>h2.elim))) (λ b h1=>(λ h2=>h2.elim))) (λ b=>(λ hb=>hb.elim (λ hb=>hb.elim) (λ hb=>hb.elim (λ hb=>hb.elim) (λ hb=>hb.elim (λ hb=>hb.elim) (λ hb=>hb.elim (λ hb=>hb.elim) (λ hb=>hb.elim (λ hb=>hb.elim) (λ hb=>hb.elim)))))))) [] [] (@λ G3 _ _ j=>?_)
 have j:=j.gs (Gs':=[oneB none,oneB none,oneB none,G3])
 have j:=j.gs (Gs':=[oneB none,oneB none,oneB none,G3])
 refine j.boxW 0 3 [] [] λ b6 _ _ _ _ j=>?_
 refine j.zh 1 [(6,0)] (λ j=>Wz ?_)
 have j:=j.unm (s:=6) 0 []
 exact j.rnO 0 (bx1 h)
def xw(x0:Machine)(x1:Int)(x2:Str):Option Machine:=
(appO 24 x0.log ([(⟨x1,x2⟩:GEvent)]:List GEvent)).bind λ v8=>
some ({ x0 with log:=v8 })
theorem qU{x1 x2 r}(h:xw x0 x1 x2=some r):FnS prog 133 (oMac bk bl ps) ⟨x0⟩ [dt x1,dt x2] ⟨r⟩ .gone:=by
 refine fnSB (fn:=f133) 0 2 func133 Z Z (λ M G _ b0 _ j=>wqw ?_)
 refine QY<|j.hdA 0 0 (Pb.fld owMachine.f6) [] λ g1 A1 _ hA1 j=>?_
 refine j.zh 9 [(0,0)] (λ j=>?_) (hs:=sZ 7 (r:=by exact sc Z (kD197_0_1 Z T T)<|segZ))
 refine j.mvG (s:=10) (sb:=0) 0 1 (Pb.fld owMachine.f6) (.head _) (zT Z Z) [6,14] [] λ j=>?_
 refine j.tipR (s:=10) 1 (by first | (simp;done) | exact oD rfl) [0] λ g5 j=>?_
 have⟨v8,p8,h⟩:=bs h
 refine j.apA 1 yI p8 [6] [0] λ g7 j=>?_
 refine j.zh 2 [(0,0),(15,1)] λ j=>?_
 have j:=j.tipW (s:=15) 1 [0]
 refine j.shA 0 15 0 1 (tp Z) [] [] (λ j=>Wz ?_)
 exact(j.rs0 (s:=0) 0 (bx1 h)).2
theorem kB188:bldB prog 188 [1,2]=true:=by kernel_rfl
theorem kC188:Zg prog 188 [1,2]=some zpGAttr:=by kernel_rfl
theorem kD188_0_1:∀ {M:Nat->Prop} {look:Nat->Option Dt} {o:Oper} {q0 q1:Operand} {y0:Str} {y1:GVal},o.op=.build 188 #[(0,q0),(1,q1)]->OpdR M look q0 (dt y0)->OpdR M look q1 (dt y1)->OpRel prog M look o (dt (⟨y0,y1⟩:GAttr)):=@λ _ _ _ q0 q1 y0 y1 ho h0 h1=>yf (parts:=[(0,q0),(1,q1)]) (ns:=[1,2]) (zs:=zpGAttr) Z ho (λ w a hl=>FA ⟨(by decide:0<2),Rep.len (α:=Str) (OpdR.cells h0 hl)⟩ (FA ⟨(by decide:1<2),Rep.len (α:=GVal) (OpdR.cells h1 hl)⟩ FN)) (λ w a hl=>GAttr.parts (x:=(⟨y0,y1⟩:GAttr)) (OpdR.cells h0 hl) (OpdR.cells h1 hl))
theorem kE140:elB prog 140 188 3 32=true:=by kernel_rfl
theorem kF142_4:fldB prog 142 4 4=true:=by kernel_rfl
theorem kF103_7:fldB prog 103 7 7=true:=by kernel_rfl
theorem kF103_0:fldB prog 103 0 0=true:=by kernel_rfl
theorem kF103_1:fldB prog 103 1 1=true:=by kernel_rfl
theorem kF103_2:fldB prog 103 2 2=true:=by kernel_rfl
theorem kN136:fnB prog 136=true:=by kernel_rfl
theorem kF142_2:fldB prog 142 2 2=true:=by kernel_rfl
instance iF103_4WaE:FldO prog 103 4 4:=⟨zaw⟩
instance iF103_7WaE:FldO prog 103 7 7:=⟨kF103_7⟩
instance iF142_0WaE:FldO prog 142 0 0:=⟨zbO⟩
instance iF142_5WaE:FldO prog 142 5 5:=⟨JK⟩
instance iF188_0WaE:FldO prog 188 0 0:=⟨kF188_0⟩
def xS(x0:GMod)(x1:Str)(x2:GVal)(s6:GMod×Int):Option ((GMod×Int)⊕(GMod⊕GMod)):=
if(cmpI .lss s6.2 (x0.attrs.length:Int))=true then((atI s6.1.attrs s6.2).bind λ a8=>
if(decide (a8.name=x1))=true then((atI s6.1.attrs s6.2).bind λ a9=>
some (.inr (.inr ({ s6.1 with attrs:=(s6.1.attrs.set s6.2.toNat ({ a9 with value:=x2 })) }))))
else((i64 (s6.2+(1:Int))).bind λ b3=>
some (.inl (s6.1,b3))))
else(some (.inr (.inl s6.1)))
def yE(x0:GMod)(x1:Str)(x2:GVal):Option GMod:=
Option.bind (α:=GMod⊕GMod) (zE (λ s6=>xS x0 x1 x2 s6) (x0,(0:Int))) (Sum.elim (λ b2=>
(appO 32 b2.attrs ([(⟨x1,x2⟩:GAttr)]:List GAttr)).bind λ a8=>
some ({ b2 with attrs:=a8 })) some)
theorem qw{x0 x2 r}(h:yE x0 x1 x2=some r):FnS prog 87 (Ow.box (owGModR oAtt)) ⟨x0⟩ [dt x1,dt x2] ⟨r⟩ .gone:=by
 refine fnSB (fn:=f87) 0 2 func87 Z Z (λ M G w0 b0 _ j=>wqw ?_)
 refine j.zo [(0,0)] (λ j=>za ?_)
 have⟨o2,p2,k2⟩:=bs h
 refine wqj (λ a w=>∃ b2,o2=.inl b2/\(∃ M1 Q R,Sx (Frm.chg w0 G) 46 M M1 [Q,R] [(1,dt x1),(5,dptr x2)] [(0,0,dnm (Ow.box (owGModR oAtt)) Q ⟨b2⟩ (.pointer (some ⟨b0,0,none⟩)) [])] a w)) ?_ ?_
 ·refine j.hdA 0 0 (Pb.fld owGModR.f5) [] λ g3 A3 _ hA3 j=>?_
  refine j.zo [(0,0)] (λ j=>?_) (hs:=sZ 4 (r:=by exact sc Z (xLe Z T)<|segZ))
  have j:=j.ncf (s:=0) 0 []
  refine wql p2 (λ s6 a w=>∃ M1 Q R,Sx (Frm.chg w0 G) 46 M M1 [Q,R] [(1,dt x1),(5,dptr x2),(11,dt (x0.attrs.length:Int)),(12,dt s6.2)] [(0,0,dnm (Ow.box (owGModR oAtt)) Q ⟨s6.1⟩ (.pointer (some ⟨b0,0,none⟩)) [])] a w) fx ?_
  rintro s6 z6 _ _ ⟨_,Q,R,j⟩ hs6 hx6
  have h:xS x0 x1 x2 s6=some z6:=hs6
  unfold xS at h
  refine j.zd [(0,0)] h (λ j h=>?_) λ j h=>?_
  ·refine j.zo [(0,0)] λ j=>?_
   have⟨c8,b3,h⟩:=bs h
   refine j.hdA 0 0 (Pb.fld owGModR.f5) [] λ b6 d1 _ a8 j=>?_
   refine j.zo [(0,0)] (λ j=>?_) (hs:=sZ 5 (r:=by exact sc Z (xIa (g:=b6) Z zaO T T Z (λ h=>a8 h Z) b3)<|sZ 1 (r:=by exact sc Z (xLf (sb:=0) (((Pb.fld owGModR.f5).row (.head _) Z (λ h=>a8 h Z) b3).fld GAttr.z0) Z T Z)<|segZ)))
   have j:=j.ncf (s:=0) 0 []
   refine j.cq h (λ h=>?_) λ h=>?_
   ·have⟨d2,b5,h⟩:=bs h
    refine j.hdA 0 0 (Pb.fld owGModR.f5) [] λ b7 d3 _ a9 j=>?_
    refine j.zu 8 [(0,0)] (λ j=>?_) (hs:=sw Z (oM Z U)<|sw Z (xNc Z T)<|sw Z (xFa Z JK T)<|sw Z (xLc (sb:=0) (.head _) Z Z Z T Z)<|sw Z (oM Z T)<|sw Z (zH Z T)<|sw Z (xIa (g:=b7) Z zaO T T Z (λ h=>a9 h Z) b5)<|sw Z (xFa Z zdu T)<|.nil)
    refine j.stF (sb:=0) 0 (((Pb.fld owGModR.f5).row (.head _) Z (λ h=>a9 h Z) b5).fld GAttr.z1) (tp Z) (tp Z) [] [] (λ _ j=>Wz ?_)
    have h:=lo h hx6
    have h:=jo h k2
    exact(j.rs0 (s:=0) 0 (bx1 h)).1
   have⟨d4,d5,h⟩:=bs h
   exact j.zn [(0,0)] h
  have h:=lo h hx6
  exact flz h
 rintro _ _ ⟨b2,rfl,⟨_,Q,R,j⟩⟩
 have h:=jn k2
 refine j.held (λ _=>True) zN λ _ j=>?_
 refine j.tN 0 0 trivial λ _ j=>?_
 refine j.hdA 0 0 (Pb.fld owGModR.f5) [] λ d6 d7 _ b8 j=>?_
 refine j.drnE (D:=[_,_,_,_,_,_,_,_,_]) 9 [0] [[(0,nS)],[(0,nS)],[(35,1)],[(36,2)],[(37,3),(0,nS)],[(1,nS)],[(5,nS)],[(39,5),(40,6)],[(41,7)],[(38,4),(42,8)],[(34,0)],[(44,10)],[(45,11),(43,9)]] (
  rc Z Z (oM Z U)<|
  rc Z Z (oM Z U)<|
  rc Z Z (xNc Z T)<|
  rc Z Z (xFa Z JK T)<|
  rc Z Z (xLc (sb:=0) (.head _) Z Z Z T Z)<|
  rc Z Z (oM Z T)<|
  rc Z Z (zH Z T)<|
  rc Z Z (kD188_0_1 Z T T)<|
  rc Z Z (xH (opds:=[.tmp 41]) Z (ht':=zaO) Z Z (.cons T .nil))<|.nil) (by
 intro i hi x d hx
 simp only[am,aS,ch] at hi
 rcases hi with rfl
 all_goals (injection hx with hx;injection hx with h1 h2;subst h1;subst h2;rfl)) [34,38,42] [(0,0)] Z ⟨λ _ h=>h,trivial⟩ (λ j=>?_)
 refine j.mvG (s:=38) (sb:=0) 0 1 (Pb.fld owGModR.f5) (.head _) (zT Z Z) [34,42] [] λ j=>?_
 refine j.tipR (s:=38) 1 (by first | (simp;done) | exact oD rfl) [0] λ e0 j=>?_
 have⟨e3,b9,h⟩:=bs h
 refine j.apA 1 yI b9 [34] [0] λ e4 j=>?_
 refine j.zh 2 [(0,0),(43,1)] λ j=>?_
 have j:=j.tipW (s:=43) 1 [0]
 refine j.shA 0 43 0 1 (tp Z) [] [] (λ j=>Wz ?_)
 exact(j.rs0 (s:=0) 0 (bx1 h)).2
def qy(x0:Machine)(x1:Int):Option (Machine×Int):=
(atI x0.modules x1).bind λ _v3=>
(x0.modules[x1.toNat]?).bind λ v8=>
(xw x0 (3:Int) v8.x.name).bind λ a8=>
Option.bind (α:=Machine) ((a8.modules[x1.toNat]?).bind λ a9=>
(gO ((!a9.x.done) == true) (a8.modules[x1.toNat]?)).bind λ b3=>
(gO ((!a9.x.done) == true) (zP a8.part b3.x.name)).bind λ b5=>
if((!a9.x.done)&&(!b5))=true then((a8.modules[x1.toNat]?).bind λ b6=>
(appO 16 a8.part ([b6.x.name]:List Str)).bind λ b7=>
some ({ a8 with part:=b7 }))
else(some a8)) λ b8=>
some (b8,x1)
theorem Qh{x1}(h:qy x0 x1=some r):FnS prog 83 (oMac bk bl ps) ⟨x0⟩ [dt x1] ⟨r.1⟩ (.frz (dt r.2)):=by
 refine fnSB (fn:=f83) 0 2 func83 Z Z (λ M G w0 b0 _ j=>wqw ?_)
 refine j.zo [(0,0)] λ j=>?_
 have⟨v3,p3,h⟩:=bs h
 refine j.hdF (s:=0) 0 true (λ _=>(Pb.fld owMachine.f4)) [] λ g2 A2 _ hA2 j=>?_
 refine j.mintP (s:=0) 0 (YU (owMachine.impE4 (Xs (zJ (yL p3).2)))) [] λ b4 j=>?_
 refine j.zo [(0,0)] (λ j=>?_) (hs:=sZ 5 (r:=by exact sc Z (xIa (g:=g2) Z kS99 T T Z (λ h=>hA2 h Z) p3)<|sc Z (xLdP (sb:=0) (Pb.fld owMachine.f4) (.head _) Z (λ h=>hA2 h Z) (.head _) (yL p3).2 (cd _) Z zaN T Z)<|segZ))
 have j:=j.ncf (s:=0) 0 []
 have⟨v8,p8,h⟩:=bs h
 refine QY<|j.zh 5 [(0,0)] (λ j=>?_) (hs:=sZ 4 (r:=by exact sc Z (xLf (sb:=0) (((Pb.fld owMachine.f4).rowP (.head _) p8).fld owGModR.f0) Z T Z)<|.nil))
 have⟨d4,a8,h⟩:=bs h
 refine j.cNA 0 0 (FnS.any (qU a8)) [1,5] [] (λ j=>Wz ?_)
 refine za ?_
 have⟨a9,b3,b5⟩:=bs h
 refine wqj (λ a w=>∃ M1 Q R,Sx (Frm.chg w0 G) 50 M M1 [Q,R] [(1,dt x1)] [(0,0,dnm (oMac bk bl ((x1.toNat,b4)::ps)) Q ⟨a9⟩ (.pointer (some ⟨b0,0,none⟩)) [])] a w) ?_ ?_
 ·have⟨b6,b7,h⟩:=bs b3
  have⟨d5,b8,d6,b9,h⟩:=Ke h
  refine j.hdR (s:=0) 0 ((!b6.x.done) == true) (λ hg=>(Pb.fld owMachine.f7)) [] λ d7 e0 _ c8 j=>?_
  refine j.zv [(0,0)] (λ j=>?_) (hs:=sw Z (oM Z T)<|sw Z (xNc Z T)<|sw Z (xFa Z kF142_4 T)<|sw Z (xLf (sb:=0) (((Pb.fld owMachine.f4).rowP (.head _) b7).fld owGModR.f4) Z T Z)<|sw Z (XR Z T)<|sw Z (oM Z T)<|swg Z Z (λ hg=>oM Z U)<|swg Z Z (λ hg=>xNc Z V)<|swg Z Z (λ hg=>xFa Z kF103_7 V)<|swg Z Z (λ hg=>xLc (sb:=0) (.head _) hg Z Z V Z)<|swg Z Z (λ hg=>oM Z T)<|swg Z Z (λ hg=>xNc Z V)<|swg Z Z (λ hg=>xFa Z zbO V)<|swg Z Z (λ hg=>xLf (sb:=0) (((Pb.fld owMachine.f4).rowP (.head _) (gh hg b8)).fld owGModR.f0) Z V Z)<|swg Z Z (λ hg=>yV (l:=[.tmp 28,.tmp 32]) j.ob.sub Z (.cons (zaL (sb:=0) j.ob 0 (Pb.fld owMachine.f7) (.head _) hg (zT Z Z) V Z) (.cons (xf j.ob.sub V) .nil)) (Zo (gh hg b9)) ZA)<|swg Z Z (λ hg=>XR Z V)<|sw Z (xc Z T T)<|.nil)
  have j:=j.ncf (s:=0) 0 []
  refine j.cq h (λ h=>?_) λ h=>?_
  ·refine j.held (λ _=>True) zN λ _ j=>?_
   refine j.tN 0 0 trivial λ _ j=>?_
   have⟨e3,d1,h⟩:=bs h
   refine j.hdA 0 0 (Pb.fld owMachine.f7) [] λ e4 e5 _ d2 j=>?_
   refine j.drnE (D:=[_,_,_,_,_,_,_,_,_,_]) 10 [0] [[(0,nS)],[(0,nS)],[(37,1)],[(38,2)],[(39,3),(0,nS)],[(5,nS)],[(41,5)],[(42,6),(0,nS)],[(43,7),(0,nS)],[(44,8)],[(40,4),(45,9)],[(36,0)],[(47,11)],[(48,12),(46,10)]] (
    rc Z Z (oM Z U)<|
    rc Z Z (oM Z U)<|
    rc Z Z (xNc Z T)<|
    rc Z Z (xFa Z kF103_7 T)<|
    rc Z Z (xLc (sb:=0) (.head _) Z Z Z T Z)<|
    rc Z Z (oM Z T)<|
    rc Z Z (xNc Z T)<|
    rc Z Z (xFa Z zbO T)<|
    rc Z Z (xLf (sb:=0) (((Pb.fld owMachine.f4).rowP (.head _) d1).fld owGModR.f0) Z T Z)<|
    rc Z Z (xH (opds:=[.tmp 44]) Z (ht':=WC) Z Z (.cons T .nil))<|.nil) (by
 intro i hi x d hx
 simp only[am,aS,ch] at hi
 rcases hi with rfl
 all_goals (injection hx with hx;injection hx with h1 h2;subst h1;subst h2;rfl)) [1,36,40,45] [(0,0)] Z ⟨λ _ h=>h,trivial⟩ (λ j=>?_)
   refine j.mvG (s:=40) (sb:=0) 0 1 (Pb.fld owMachine.f7) (.head _) (zT Z Z) [1,36,45] [] λ j=>?_
   refine j.tipR (s:=40) 1 (by first | (simp;done) | exact oD rfl) [0] λ e6 j=>?_
   have⟨e7,d3,h⟩:=bs h
   refine j.apA 1 yI d3 [1,36] [0] λ e8 j=>?_
   refine j.zh 2 [(0,0),(46,1)] λ j=>?_
   have j:=j.tipW (s:=46) 1 [0]
   refine j.shA 0 46 0 1 (tp Z) [1] [] (λ j=>Wz ?_)
   cases h
   exact fz
  cases h
  exact fz
 rintro _ _ ⟨_,Q,R,j⟩
 have h:=b5
 refine j.zo [(0,0)] λ j=>?_
 have j:=j.asA 0 0 (xY (owMachine.imp4 (xu (λ _ h=>(.tail _ h))))) []
 exact j.xF 0 0 h
def xO(x0:Machine)(x1:Str):Option (Machine×Spec):=
(xz x1).bind λ v3=>
if(decide (v3=(⟨[]⟩:Str)))=true then((Xy x0.t x0.path (⟨[]⟩:Str) x1 x0.known).bind λ a9=>
some ({ x0 with known:=a9.1 },a9.2))
else((yj x0 v3).bind λ a8=>
(gO (cmpI .lss a8 0 == false) (atI x0.modules a8)).bind λ _b9=>
(gO (cmpI .lss a8 0 == false) (x0.modules[a8.toNat]?)).bind λ b5=>
if(cmpI .lss a8 0||cmpI .eql b5.x.kind 1)=true then((YV).bind λ b6=>
some (x0,b6))
else((atI x0.modules a8).bind λ _c8=>
(x0.modules[a8.toNat]?).bind λ b7=>
(jS x1).bind λ b8=>
(Xy x0.t b7.x.roots v3 b8 x0.known).bind λ b3=>
some ({ x0 with known:=b3.1 },b3.2)))
theorem JD{r}(h:xO x0 x1=some r):FnS prog 85 (oMac bk bl ps) ⟨x0⟩ [dt x1] ⟨r.1⟩ (.frz (dt r.2)):=by
 refine fnSB (fn:=f85) 0 2 func85 Z Z (λ M G _ b0 _ j=>wqw ?_)
 refine QY<|j.alA 1 QK [1] [0] (λ b2 j=>Wz ?_)
 have⟨v3,p3,h⟩:=bs h
 refine j.zo [(0,0),(4,1)] λ j=>?_
 refine j.zd [(0,0),(4,1)] h (λ j h=>?_) λ j h=>?_
 ·refine j.hd1 (s:=0) 0 true (λ _=>(Pb.fld owMachine.f2)) Z Z Z (λ _ h=>h) [4] Z λ b9 hb9 j=>?_
  refine j.zu 13 [(0,0),(4,1)] (λ j=>?_) (hs:=sw Z (oM Z U)<|sw Z (xNc Z T)<|sw Z (xFa Z kF103_0 T)<|sw Z (xLf (sb:=0) (Pb.fld owMachine.f0) Z T Z)<|sw Z (oM Z U)<|sw Z (xNc Z T)<|sw Z (xFa Z kF103_1 T)<|sw Z (xLf (sb:=0) (Pb.fld owMachine.f1) Z T Z)<|sw Z (oM Z T)<|sw Z (oM Z U)<|sw Z (xNc Z T)<|sw Z (xFa Z kF103_2 T)<|sw Z (xLc (sb:=0) (.head _) Z hb9 Z T Z)<|.nil)
  have⟨d6,b7,h⟩:=bs h
  refine j.cMF (l:=[.tmp 14,.tmp 18,_,.tmp 19]) 4 0 (j.bkH (sb:=0) (Pb.fld owMachine.f2) (.head _) Z (zT Z hb9) Z (λ _ h=>h)) Z Z Z kN136 (j.st.has 23 _ Z) (by simp) (.cons T (.cons T (.cons (yS) (.cons T .nil)))) (zcf b7) [] Z [4] Z Z (by decide) λ _ _ _ _ j=>?_
  refine j.stA 4 1 FldS.id (tp Z) [] [0] (λ j=>Wz ?_)
  exact j.xC 0 0 h
 have⟨b6,b8,h⟩:=bs h
 refine j.zo [(0,0),(4,1)] (λ j=>?_) (hs:=sZ 2 (r:=by exact sc Z (yV (l:=[.tmp 25,.tmp 26]) j.ob.sub Z (.cons (lendA (sb:=0) j.ob 0 T Z) (.cons (xf j.ob.sub T) .nil)) (xl b8) jK)<|segZ))
 have⟨d7,b3,e0,c8,h⟩:=Ke h
 refine j.hdF (s:=0) 0 (cmpI .lss b6 (0:Int) == false) (λ hg=>(Pb.fld owMachine.f4)) [4] λ d1 e3 _ a8 j=>?_
 refine j.mintP (s:=0) 0 (YU (owMachine.impE4 (impE_pinI (c:=(cmpI .lss b6 (0:Int) == false)) (λ hg=>zJ (yL (gh hg b3)).2)))) [4] λ e4 j=>?_
 refine j.zo [(0,0),(4,1)] (λ j=>?_) (hs:=sc Z (oM Z T)<|
  sc Z (oCI Z T cI)<|
  sc Z (oM Z T)<|
  sg Z Z (λ hg=>oM Z U)<|
  sg Z Z (λ hg=>xNc Z V)<|
  sg Z Z (λ hg=>xFa Z zaw V)<|
  sg Z Z (λ hg=>xLc (sb:=0) (.head _) hg Z Z V Z)<|
  sg Z Z (λ hg=>oM Z T)<|
  sg Z Z (λ hg=>xIa (g:=d1) Z kS99 V V Z (λ h=>a8 h hg) (gh hg b3))<|
  sg Z Z (λ hg=>xLdP (sb:=0) (Pb.fld owMachine.f4) (.head _) hg (λ h=>a8 h hg) (pinI_at hg) (yL (gh hg b3)).2 (cd _) Z zaN V Z)<|
  sg Z Z (λ hg=>xNc Z V)<|
  sg Z Z (λ hg=>xFa Z kF142_1 V)<|
  sg Z Z (λ hg=>xLf (sb:=0) (((Pb.fld owMachine.f4).rowP (pinI_at hg) (gh hg c8)).fld owGModR.f1) Z V Z)<|
  sg Z Z (λ hg=>oCI Z V cI)<|
  sc Z (qm Z T T)<|.nil)
 have j:=j.ncf (s:=0) 0 [4]
 refine j.cq h (λ h=>?_) λ h=>?_
 ·have⟨e5,e6,h⟩:=bs h
  refine QY<|j.zh 1 [(0,0),(4,1)] λ j=>?_
  refine j.stA 4 1 FldS.id (tp Z) [] [0] (λ j=>Wz ?_)
  have j:=j.asA 0 0 (xY (owMachine.imp4 (xu (λ _ h=>(pinI_of h))))) [4]
  exact j.xC 0 0 h
 have⟨e7,b5,e8,d2,h⟩:=Ke h
 have⟨e9,d3,h⟩:=bs h
 refine j.hdF (s:=0) 0 true (λ _=>(Pb.fld owMachine.f4)) [4] λ d4 f9 _ a9 j=>?_
 refine j.mintP (s:=0) 0 (YU (owMachine.impE4 (Xs (zJ (yL b5).2)))) [4] λ g0 j=>?_
 refine j.hd1 (s:=0) 0 true (λ _=>(Pb.fld owMachine.f2)) Z Z Z (λ _ h=>h) [4] Z λ g3 hb40 j=>?_
 refine j.zu 21 [(0,0),(4,1)] (λ j=>?_) (hs:=sw Z (oM Z U)<|sw Z (xNc Z T)<|sw Z (xFa Z kF103_0 T)<|sw Z (xLf (sb:=0) (Pb.fld owMachine.f0) Z T Z)<|sw Z (oM Z U)<|sw Z (xNc Z T)<|sw Z (xFa Z zaw T)<|sw Z (xLc (sb:=0) (.tail _ (.head _)) Z Z Z T Z)<|sw Z (oM Z T)<|sw Z (xIa (g:=d4) Z kS99 T T Z (λ h=>a9 h Z) b5)<|sw Z (xLdP (sb:=0) (Pb.fld owMachine.f4) (.tail _ (.head _)) Z (λ h=>a9 h Z) (.head _) (yL b5).2 (cd _) Z zaN T Z)<|sw Z (xNc Z T)<|sw Z (xFa Z kF142_2 T)<|sw Z (xLf (sb:=0) (((Pb.fld owMachine.f4).rowP (.head _) d2).fld owGModR.f2) Z T Z)<|sw Z (oM Z T)<|sw Z (oM Z T)<|sw Z (zA (l:=[.tmp 59]) Z (.cons T .nil) (QL d3))<|sw Z (oM Z U)<|sw Z (xNc Z T)<|sw Z (xFa Z kF103_2 T)<|sw Z (xLc (sb:=0) (.head _) Z hb40 Z T Z)<|.nil)
 have⟨g4,d5,h⟩:=bs h
 refine j.cMF (l:=[.tmp 47,.tmp 57,.tmp 58,.tmp 60]) 4 0 (j.bkH (sb:=0) (Pb.fld owMachine.f2) (.head _) Z (zT Z hb40) Z (λ _ h=>h)) Z Z Z kN136 (j.st.has 64 _ Z) (by simp) (.cons T (.cons T (.cons T (.cons T .nil)))) (zcf d5) [] Z [4] Z Z (by decide) λ _ _ _ _ j=>?_
 refine j.stA 4 1 FldS.id (tp Z) [] [0] (λ j=>Wz ?_)
 have j:=j.asA 0 0 (xY (owMachine.imp4 (xu (λ _ h=>(.tail _ (pinI_of h)))))) [4]
 exact j.xC 0 0 h
theorem kF103_3:fldB prog 103 3 3=true:=by kernel_rfl
theorem kF103_8:fldB prog 103 8 8=true:=by kernel_rfl
theorem kN53:fnB prog 53=true:=by kernel_rfl
theorem kN85:fnB prog 85=true:=by kernel_rfl
theorem kF137_0:fldB prog 137 0 0=true:=by kernel_rfl
theorem kF137_2:fldB prog 137 2 2=true:=by kernel_rfl
theorem kI99:sliB prog 99 139 1=true:=by kernel_rfl
theorem kY99:zlB prog 99=true:=by kernel_rfl
theorem kE99:elB prog 99 139 1 8=true:=by kernel_rfl
theorem X2:∀ {M:Nat->Prop} {look:Nat->Option Dt} {o:Oper} {q0 q1:Operand} {y0:Int} {y1:Int},o.op=.build 146 #[(0,q0),(1,q1)]->OpdR M look q0 (dt y0)->OpdR M look q1 (dt y1)->OpRel prog M look o (dt (⟨y0,y1⟩:GVal)):=@λ _ _ _ q0 q1 y0 y1 ho h0 h1=>yf (parts:=[(0,q0),(1,q1)]) (ns:=[1,1]) (zs:=zpGVal) Z ho (λ w a hl=>FA ⟨(by decide:0<2),Rep.len (α:=Int) (OpdR.cells h0 hl)⟩ (FA ⟨(by decide:1<2),Rep.len (α:=Int) (OpdR.cells h1 hl)⟩ FN)) (λ w a hl=>GVal.parts (x:=(⟨y0,y1⟩:GVal)) (OpdR.cells h0 hl) (OpdR.cells h1 hl))
theorem kN87:fnB prog 87=true:=by kernel_rfl
theorem kF103_5:fldB prog 103 5 5=true:=by kernel_rfl
instance iF103_4WaF:FldO prog 103 4 4:=⟨zaw⟩
instance iF103_5WaF:FldO prog 103 5 5:=⟨kF103_5⟩
instance iF103_8WaF:FldO prog 103 8 8:=⟨kF103_8⟩
instance iF142_0WaF:FldO prog 142 0 0:=⟨zbO⟩
instance iF142_3WaF:FldO prog 142 3 3:=⟨kF142_3⟩
instance iF142_4WaF:FldO prog 142 4 4:=⟨kF142_4⟩
instance iF142_5WaF:FldO prog 142 5 5:=⟨JK⟩
structure Rec where
 spec_importName:Runner->Str->Option (Runner×Int)
 spec_fromName:Runner->Int->Str->Option (Runner×GVal)
 spec_runFrom:Runner->Int->Stmt->Option Runner
 spec_runStar:Runner->Int->Stmt->Option Runner
 spec_runStmt:Runner->Int->Stmt->Option Runner
 spec_runBody:Runner->Int->(List Stmt)->Option Runner
 impl_machine_load1:Machine->Str->Option (Machine×Int×Int)
 impl_machine_body:Machine->Int->Spec->Option (Machine×Int)
 impl_machine_do:Machine->Int->Stmt->Option (Machine×Int)
variable{R:Rec}
def Rec.no:Rec:=⟨λ _ _=>none,λ _ _ _=>none,λ _ _ _=>none,λ _ _ _=>none,λ _ _ _=>none,λ _ _ _=>none,λ _ _=>none,λ _ _ _=>none,λ _ _ _=>none⟩
@[reducible] def oCs:Ow (List Compiled):=Ow.row 174 (Ow.frz (α:=Compiled))
@[reducible] def oWa:Ow Warmth:=owWarmth oFi oCs
@[reducible] def oMs:Ow (List GMod):=Ow.row 142 (owGModR oAtt)
@[reducible] def oRun(b:Nat):Ow (Bx Runner):=Ow.box (owRunner oMs oEs oIs (Ow.boxA b oWa))
structure Rec.ok(R:Rec):Prop where
 spec_importName:∀ {x0:Runner} {x1:Str} {r:Runner×Int},R.spec_importName x0 x1=some r->∀ {bw:Nat},FnS prog 64 (oRun bw) ⟨x0⟩ [dt x1] ⟨r.1⟩ (.frz (dt r.2))
 spec_fromName:∀ {x0:Runner} {x1:Int} {x2:Str} {r:Runner×GVal},R.spec_fromName x0 x1 x2=some r->∀ {bw:Nat},FnS prog 209 (oRun bw) ⟨x0⟩ [dt x1,dt x2] ⟨r.1⟩ (.frz (dt r.2))
 spec_runFrom:∀ {x0:Runner} {x1:Int} {x2:Stmt} {r:Runner},R.spec_runFrom x0 x1 x2=some r->∀ {bw:Nat},FnS prog 185 (oRun bw) ⟨x0⟩ [dt x1,dt x2] ⟨r⟩ .gone
 spec_runStar:∀ {x0:Runner} {x1:Int} {x2:Stmt} {r:Runner},R.spec_runStar x0 x1 x2=some r->∀ {bw:Nat},FnS prog 186 (oRun bw) ⟨x0⟩ [dt x1,dt x2] ⟨r⟩ .gone
 spec_runStmt:∀ {x0:Runner} {x1:Int} {x2:Stmt} {r:Runner},R.spec_runStmt x0 x1 x2=some r->∀ {bw:Nat},FnS prog 150 (oRun bw) ⟨x0⟩ [dt x1,dt x2] ⟨r⟩ .gone
 spec_runBody:∀ {x0:Runner} {x1:Int} {x2:List Stmt} {r:Runner},R.spec_runBody x0 x1 x2=some r->∀ {bw:Nat},FnS prog 105 (oRun bw) ⟨x0⟩ [dt x1,dt x2] ⟨r⟩ .gone
 impl_machine_load1:∀ {x0:Machine} {x1:Str} {r:Machine×Int×Int},R.impl_machine_load1 x0 x1=some r->∀ {bk bl:Nat},∀ {ps:List (Nat×Nat)},FnS prog 53 (oMac bk bl ps) ⟨x0⟩ [dt x1] ⟨r.1⟩ (.frz (dtup [dt r.2.1,dt r.2.2]))
 impl_machine_body:∀ {x0:Machine} {x1:Int} {x2:Spec} {r:Machine×Int},R.impl_machine_body x0 x1 x2=some r->∀ {bk bl:Nat},∀ {ps:List (Nat×Nat)},FnS prog 86 (oMac bk bl ps) ⟨x0⟩ [dt x1,dt x2] ⟨r.1⟩ (.frz (dt r.2))
 impl_machine_do:∀ {x0:Machine} {x1:Int} {x2:Stmt} {r:Machine×Int},R.impl_machine_do x0 x1 x2=some r->∀ {bk bl:Nat},∀ {ps:List (Nat×Nat)},FnS prog 138 (oMac bk bl ps) ⟨x0⟩ [dt x1,dt x2] ⟨r.1⟩ (.frz (dt r.2))
theorem Rec.no_ok:Rec.no.ok:=⟨(λ h=>nomatch h),(λ h=>nomatch h),(λ h=>nomatch h),(λ h=>nomatch h),(λ h=>nomatch h),(λ h=>nomatch h),(λ h=>nomatch h),(λ h=>nomatch h),(λ h=>nomatch h)⟩
def yy(R:Rec)(x1:Int)(b3:(FLt)×(List Stmt))(a8:Machine×Int×Int):Option ((Machine×Int×Int)⊕(Machine×Int)):=
if(cmpI .lss a8.2.2 (b3.2.length:Int))=true then((atI b3.2 a8.2.2).bind λ b5=>
if cmpI .eql a8.1.left 0 then(some (.inr (a8.1,(6:Int))))
else((i64 (a8.1.left - (1:Int))).bind λ b6=>
(R.impl_machine_do ({ a8.1 with left:=b6 }) x1 b5).bind λ a9=>
if cmpI .neq a9.2 0 then(some (.inr (a9.1,a9.2)))
else((i64 (a8.2.2+(1:Int))).bind λ b7=>
some (.inl (a9.1,a9.2,b7)))))
else(some (.inr (a8.1,a8.2.1)))
def Zx(R:Rec)(x0:Machine)(x1:Int)(x2:Spec):Option (Machine×Int):=
(atI x0.modules x1).bind λ _v3=>
(x0.modules[x1.toNat]?).bind λ v5=>
(xw x0 (0:Int) v5.x.name).bind λ a8=>
Option.bind (α:=Machine×Int) (if cmpI .geq x2.file 0 then((atI a8.t.files x2.file).bind λ b5=>
(c_load a8.load b5).bind λ b3=>
zE (λ b6=>yy R x1 b3 b6) ({ a8 with load:=b3.1 },(0:Int),(0:Int)))
else(some (a8,(0:Int)))) λ a9=>
Option.bind (α:=Machine) (if cmpI .eql a9.2 0 then((xw a9.1 (1:Int) v5.x.name).bind λ b7=>
some b7)
else((xw a9.1 (2:Int) v5.x.name).bind λ b8=>
some b8)) λ b9=>
some (b9,a9.2)
theorem zbX(hR:R.ok){x1 x2}(h:Zx R x0 x1 x2=some r):FnS prog 86 (oMac bk bl ps) ⟨x0⟩ [dt x1,dt x2] ⟨r.1⟩ (.frz (dt r.2)):=by
 refine fnSB (fn:=f86) 0 2 func86 Z Z (λ M G w0 b0 _ j=>wqw ?_)
 refine j.zo [(0,0)] λ j=>?_
 have⟨v3,p3,v5,p5,h⟩:=Ke h
 refine j.hdF (s:=0) 0 true (λ _=>(Pb.fld owMachine.f4)) [] λ g2 A2 _ hA2 j=>?_
 refine j.mintP (s:=0) 0 (YU (owMachine.impE4 (Xs (zJ (yL p3).2)))) [] λ b4 j=>?_
 refine j.zo [(0,0)] (λ j=>?_) (hs:=sZ 5 (r:=by exact sc Z (xIa (g:=g2) Z kS99 T T Z (λ h=>hA2 h Z) p3)<|sc Z (xLdP (sb:=0) (Pb.fld owMachine.f4) (.head _) Z (λ h=>hA2 h Z) (.head _) (yL p3).2 (cd _) Z zaN T Z)<|sZ 2 (r:=by exact sc Z (xLf (sb:=0) (((Pb.fld owMachine.f4).rowP (.head _) p5).fld owGModR.f0) Z T Z)<|segZ)))
 have j:=j.ncf (s:=0) 0 []
 refine QY<|j.zh 2 [(0,0)] λ j=>?_
 have⟨e3,b7,h⟩:=bs h
 refine j.cNA 0 0 (FnS.any (qU b7)) [1,5,7] [] (λ j=>Wz ?_)
 refine j.zo [(0,0)] (λ j=>za ?_)
 have⟨b3,b8,b9⟩:=bs h
 refine wqj (λ a w=>∃ M1 Q W,Sx (Frm.chg w0 G) 74 M M1 [Q,oneB W] [(7,dt v5.x.name),(8,dt b3.2)] [(0,0,dnm (oMac bk bl ((x1.toNat,b4)::ps)) Q ⟨b3.1⟩ (.pointer (some ⟨b0,0,none⟩)) [])] a w) ?_ ?_
 ·refine j.zd [(0,0)] b8 (λ j h=>?_) λ j h=>?_
  ·refine j.held (λ _=>True) zN λ _ j=>?_
   refine j.tkK (i:=15) Z Z (λ _ _ _ _ h=>h) trivial Z cI Z λ _ j=>?_
   refine pop_h (l:=Array.replicate 15 false) ?_
   have⟨e4,c8,h⟩:=bs h
   refine j.hd1 (s:=0) 0 true (λ _=>(Pb.fld owMachine.f3)) Z Z Z (λ _ h=>h) [] Z λ e5 hb21 j=>?_
   refine j.drnE (D:=[_,_,_,_,_,_,_,_,_,_,_,_,_]) 13 [] [[(0,nS)],[(27,0)],[(28,1)],[(29,2),(0,nS)],[(0,nS)],[(31,4)],[(32,5)],[(33,6)],[(34,7),(0,nS)],[(5,nS)],[(36,9)],[(35,8),(37,10)],[(38,11)],[(30,3),(39,12)],[(40,13)]] (
    rc Z Z (oM Z U)<|
    rc Z Z (xNc Z T)<|
    rc Z Z (xFa Z kF103_3 T)<|
    rc Z Z (xLc (sb:=0) (.head _) Z hb21 Z T Z)<|
    rc Z Z (oM Z U)<|
    rc Z Z (xNc Z T)<|
    rc Z Z (xFa Z kF103_0 T)<|
    rc Z Z (xFa Z qr T)<|
    rc Z Z (xLf (sb:=0) ((Pb.fld owMachine.f0).fld Tree.z0) Z T Z)<|
    rc Z Z (zI Spec.fld1 Z T)<|
    rc Z Z (zH Z T)<|
    rc Z Z (xIdx Z T T c8)<|
    rc Z Z (zH Z T)<|.nil) (λ _ h=>by cases h) [1,7,8,30,39,42] [(0,0)] rfl ⟨λ _ h=>h,trivial⟩ (λ j=>?_)
   have⟨b5,d1,h⟩:=bs h
   refine j.cD (l:=[.tmp 39]) 0 (j.bkH (sb:=0) (Pb.fld owMachine.f3) (.head _) Z (zT Z hb21) Z (λ _ h=>h)) Z Z Z (j.st.has 30 _ Z) (by simp) (.cons T .nil) (c_load_w d1) [1,7,8,42] Z [] Z Z (by decide) λ j=>?_
   refine j.zh 1 [(0,0)] (λ j=>Wz ?_)
   refine wql h (λ a9 a w=>∃ M1 Q W,Sx (Frm.chg w0 G) 74 M M1 [Q,oneB W] [(1,dt x1),(7,dt v5.x.name),(8,dt a9.2.1),(40,dt b5.2),(41,dt (b5.2.length:Int)),(42,dt a9.2.2)] [(0,0,dnm (oMac bk bl ((x1.toNat,b4)::ps)) Q ⟨a9.1⟩ (.pointer (some ⟨b0,0,none⟩)) [])] a w) fx ?_
   rintro a9 d2 _ _ ⟨_,Q,W,j⟩ b6 a8
   have h:yy R x1 b5 a9=some d2:=b6
   unfold yy at h
   refine j.zd [(0,0)] h (λ j h=>?_) λ j h=>?_
   ·have⟨e6,e7,h⟩:=bs h
    refine QY<|j.zh 2 [(0,0)] λ j=>?_
    refine j.alA 1 zas [1,7,40,41,42,45] [0] λ e8 j=>?_
    refine j.stA 10 1 FldS.id (tp Z) [1,7,40,41,42] [0] (λ j=>Wz ?_)
    refine j.zd [(0,0),(10,1)] h (λ j h=>?_) (λ j h=>?_) (hs:=sZ 3 (r:=by exact sc Z (xLf (sb:=0) (Pb.fld owMachine.f8) Z T Z)<|segZ))
    ·refine j.zo [(0,0)] λ j=>?_
     have h:=lo h a8
     cases h
     exact fz
    have⟨e9,f9,h⟩:=bs h
    refine QY<|j.zh 7 [(0,0),(10,1)] (λ j=>?_) (hs:=sZ 3 (r:=by exact sc Z (xLf (sb:=0) (Pb.fld owMachine.f8) Z T Z)<|segZ))
    refine j.sfA 0 0 (Pb.fld owMachine.f8) (tp Z) (tp Z) [1,7,40,41,42] [10] (λ j=>Wz ?_)
    refine QY<|j.zh 3 [(0,0)] λ j=>?_
    have⟨g0,d3,h⟩:=bs h
    refine j.cNA 0 0 (hR.impl_machine_do d3) [1,7,40,41,42] [] λ j=>?_
    refine j.zh 1 [(0,0)] (λ j=>Wz ?_)
    refine j.zd [(0,0)] h (λ j h=>?_) λ j h=>?_
    ·have h:=lo h a8
     cases h
     exact fz
    have⟨g3,g4,h⟩:=bs h
    exact j.zn [(0,0)] h
   have h:=lo h a8
   cases h
   exact fz
  cases h
  exact fz
 rintro _ _ ⟨_,Q,W,j⟩
 have h:=b9
 have⟨d4,d5,d6⟩:=bs h
 refine wqj (λ a w=>∃ M1 Q W,Sx (Frm.chg w0 G) 74 M M1 [Q,oneB W] [(8,dt b3.2)] [(0,0,dnm (oMac bk bl ((x1.toNat,b4)::ps)) Q ⟨d4⟩ (.pointer (some ⟨b0,0,none⟩)) [])] a w) ?_ ?_
 ·refine j.zd [(0,0)] d5 (λ j h=>?_) λ j h=>?_
  ·refine QY<|j.zh 2 [(0,0)] λ j=>?_
   have⟨g5,d7,h⟩:=bs h
   refine j.cNA 0 0 (FnS.any (qU d7)) [8] [] (λ j=>Wz ?_)
   cases h
   exact fz
  refine QY<|j.zh 2 [(0,0)] λ j=>?_
  have⟨g6,e0,h⟩:=bs h
  refine j.cNA 0 0 (FnS.any (qU e0)) [8] [] (λ j=>Wz ?_)
  cases h
  exact fz
 rintro _ _ ⟨_,Q,W,j⟩
 have h:=d6
 refine j.zo [(0,0)] λ j=>?_
 have j:=j.asA 0 0 (xY (owMachine.imp4 (xu (λ _ h=>(.tail _ h))))) []
 exact j.xF 0 0 h
def qV(R:Rec)(x0:Machine)(x1:Str):Option (Machine×Int×Int):=
(yj x0 x1).bind λ v2=>
if cmpI .geq v2 0 then((qy x0 v2).bind λ d3=>
some (d3.1,d3.2,(0:Int)))
else((xz x1).bind λ b7=>
Option.bind (α:=Machine⊕(Machine×Int×Int)) (if(decide (b7≠(⟨[]⟩:Str)))=true then((R.impl_machine_load1 x0 b7).bind λ b6=>
if cmpI .neq b6.2.2 0 then(some (.inr (b6.1,(-1:Int),b6.2.2)))
else((yj b6.1 x1).bind λ d4=>
if cmpI .geq d4 0 then((qy b6.1 d4).bind λ d5=>
some (.inr (d5.1,d5.2,(0:Int))))
else(some (.inl b6.1))))
else(some (.inl x0))) (Sum.elim (λ d6=>
(xO d6 x1).bind λ a8=>
if cmpI .eql a8.2.kind 0 then(some (a8.1,(-1:Int),(1:Int)))
else((appO 8 [] a8.2.roots).bind λ d7=>
(appO 8 a8.1.modules [⟨(⟨x1,a8.2.kind,d7,true,false,[]⟩:GMod)⟩]).bind λ e0=>
(R.impl_machine_body ({ a8.1 with modules:=e0 }) (a8.1.modules.length:Int) a8.2).bind λ a9=>
if cmpI .neq a9.2 0 then((a9.1.modules[a8.1.modules.length]?).bind λ b8=>
some ({ a9.1 with modules:=(a9.1.modules.set a8.1.modules.length ⟨{ b8.x with cached:=false }⟩) },(-1:Int),a9.2))
else((a9.1.modules[a8.1.modules.length]?).bind λ b3=>
Option.bind (α:=Machine) ((yj ({ a9.1 with modules:=(a9.1.modules.set a8.1.modules.length ⟨{ b3.x with done:=true }⟩) }) b7).bind λ b5=>
if(decide (b7≠(⟨[]⟩:Str))&&cmpI .geq b5 0)=true then((atI (a9.1.modules.set a8.1.modules.length ⟨{ b3.x with done:=true }⟩) b5).bind λ _e3=>
(jS x1).bind λ b9=>
((a9.1.modules.set a8.1.modules.length ⟨{ b3.x with done:=true }⟩)[b5.toNat]?).bind λ c8=>
(yE c8.x b9 (⟨(1:Int),(a8.1.modules.length:Int)⟩:GVal)).bind λ d1=>
some ({ a9.1 with modules:=((a9.1.modules.set a8.1.modules.length ⟨{ b3.x with done:=true }⟩).set b5.toNat ⟨d1⟩) }))
else(some ({ a9.1 with modules:=(a9.1.modules.set a8.1.modules.length ⟨{ b3.x with done:=true }⟩) }))) λ d2=>
some (d2,(a8.1.modules.length:Int),(0:Int))))) some))
theorem zbi(hR:R.ok){r}(h:qV R x0 x1=some r):FnS prog 53 (oMac bk bl ps) ⟨x0⟩ [dt x1] ⟨r.1⟩ (.frz (dtup [dt r.2.1,dt r.2.2])):=by
 refine fnSB (fn:=f53) 5 7 func53 Z Z (λ M G w0 b0 _ j=>wqw ?_)
 refine j.rgB segZ [1] [(0,5)] λ j=>?_
 have⟨v2,p2,h⟩:=bs h
 refine j.rgB (sZ 2 (r:=by exact sc Z (yV (l:=[.tmp 16,.tmp 17]) j.ob.sub Z (.cons (lendA (sb:=0) j.ob 5 T Z) (.cons (xf j.ob.sub T) .nil)) (xl p2) jK)<|segZ)) [1,6] [(0,5)] λ j=>?_
 refine j.rgB segZ [1,6,20] [(0,5)] λ j=>?_
 refine j.cq h (λ h=>?_) λ h=>?_
 ·refine QY<|j.segB 2 segZ [21,22] [(0,5)] λ j=>?_
  have⟨h9,e5,h⟩:=bs h
  refine j.cNA 5 0 (Qh e5) [] [] λ j=>?_
  refine j.segB 2 segZ [4,5] [(0,5)] (λ j=>Wz ?_)
  exact j.xE2 0 5 h
 have⟨e6,i0,h⟩:=bs h
 refine j.rgB segZ [1,7] [(0,5)] (λ j=>za ?_)
 have⟨e7,e8,b6⟩:=bs h
 refine wqj (λ a w=>∃ b7,e7=.inl b7/\(∃ M1 Q W X Y A B C,Sx (Frm.chg w0 G) 111 M M1 [oneB Q,W,X,Y,A,B,oneB C] [(1,dt x1),(7,dt e6)] [(0,5,dnm (oMac bk bl ps) B ⟨b7⟩ (.pointer (some ⟨b0,0,none⟩)) [])] a w)) ?_ ?_
 ·refine j.rgB segZ [1,7,27] [(0,5)] λ j=>?_
  refine j.cq e8 (λ h=>?_) λ h=>?_
  ·refine QY<|j.segB 2 segZ [1,7,29,30] [(0,5)] λ j=>?_
   have⟨i3,e9,h⟩:=bs h
   refine j.cNA 5 0 (hR.impl_machine_load1 e9) [1,7] [] λ j=>?_
   refine j.segB 5 segZ [1,7,9] [(0,5)] (λ j=>Wz ?_)
   refine j.rgB segZ [1,7,9,35] [(0,5)] λ j=>?_
   refine j.cq h (λ h=>?_) λ h=>?_
   ·refine j.rgB segZ [4,5] [(0,5)] λ j=>?_
    have h:=jo h b6
    exact j.xE2 0 5 h
   have⟨i4,f9,h⟩:=bs h
   refine j.rgB (sZ 2 (r:=by exact sc Z (yV (l:=[.tmp 37,.tmp 38]) j.ob.sub Z (.cons (lendA (sb:=0) j.ob 5 T Z) (.cons (xf j.ob.sub T) .nil)) (xl f9) jK)<|segZ)) [1,7,10] [(0,5)] λ j=>?_
   refine j.rgB segZ [1,7,10,41] [(0,5)] λ j=>?_
   refine j.cq h (λ h=>?_) λ h=>?_
   ·refine QY<|j.segB 2 segZ [42,43] [(0,5)] λ j=>?_
    have⟨i5,g0,h⟩:=bs h
    refine j.cNA 5 0 (Qh g0) [] [] λ j=>?_
    refine j.segB 2 segZ [4,5] [(0,5)] (λ j=>Wz ?_)
    have h:=jo h b6
    exact j.xE2 0 5 h
   exact flz h
  exact flz h
 rintro _ _ ⟨b7,rfl,⟨_,Q,W,X,Y,A,B,C,j⟩⟩
 have h:=jn b6
 refine QY<|j.segB 2 segZ [1,7,45,46] [(0,5)] λ j=>?_
 have⟨b3,g3,h⟩:=bs h
 refine j.cNA 5 0 (JD g3) [1,7] [] @λ b8 _ _ _ j=>?_
 refine j.alA 6 QK [1,7,47] [0] λ i6 j=>?_
 refine j.stA 11 6 FldS.id (tp Z) [1,7] [0] λ j=>?_
 have j:=j.frzX 6 (s:=11) [1,7] [0]
 refine Wz<|j.rgB segZ [1,7,11,50] [(0,5)] λ j=>?_
 refine j.cq h (λ h=>?_) λ h=>?_
 ·refine j.rgB segZ [4,5] [(0,5)] λ j=>?_
  exact j.xE2 0 5 h
 have j:=j.rst 0 [1,7,11,50] [0]
 have⟨b9,g4,h⟩:=bs h
 refine j.zu 8 [(0,5),(58,0)] (λ j=>?_) (hs:=sV 3 (r:=by exact sw Z (xt (α:=Int) (e:=3) Z)<|sV 2 (r:=by exact sw Z (op_app0 Z kE23 T T g4)<|sw Z (xt (α:=GAttr) (e:=188) Z (ht':=zaO))<|.nil)))
 have j:=j.tipW (s:=58) 0 (hG:=(λ _ h=>(by cases h))) [0]
 refine j.bldW (ow:=(owGModR oAtt)) (parts:=[(0,.tmp 51),(1,.tmp 53),(2,.tmp 57),(3,.const (.bool true)),(5,.tmp 58)]) (ns:=[1,1,1,1,1,1]) (zs:=zpGMod) (x:=(⟨x1,b3.2.kind,b9,true,false,[]⟩:GMod)) 1 [0] (FA ⟨by decide,Rep.len (α:=Str) (j.oc T)⟩ (FA ⟨by decide,Rep.len (α:=Int) (j.oc T)⟩ (FA ⟨by decide,Rep.len (α:=List Int) (j.oc T)⟩ (FA ⟨by decide,Z⟩ (FA ⟨by decide,Ow.len _ (yW (j.st.has 58 _ Z))⟩ FN))))) (((owGModR oAtt)).more (owGModR.mk (x:=(⟨x1,b3.2.kind,b9,true,false,[]⟩:GMod)) (j.oc T) (j.oc T) (j.oc T) (OpdR.cells cB (λ s y hs=>j.st.has s y hs)) ⟨Z,trivial⟩ (yW (j.st.has 58 _ Z))) (λ b=>(λ hb=>⟨0,by simp,hb⟩))) [1,7,11] [0] (@λ e4 _ _ j=>?_)
 have j:=j.gs (Gs':=[oneB none,e4,X,Y,A,b8,oneB none])
 have j:=j.gs (Gs':=[oneB none,e4,X,Y,A,b8,oneB none])
 refine j.boxW 4 1 [1,7,11] [0] λ b5 _ _ _ _ j=>?_
 refine j.segB 1 segZ [1,7,11] [(0,5),(12,4)] (λ j=>Wz ?_)
 refine j.hdF (s:=0) 5 true (λ _=>(Pb.fld owMachine.f4)) [12] λ i7 i8 _ g5 j=>?_
 refine j.rgB (sZ 4 (r:=by exact sc Z (xLe Z T)<|segZ)) [1,7,11,13] [(0,5),(12,4)] λ j=>?_
 have j:=j.ncf (s:=0) 5 [12]
 refine QY<|j.hdF (s:=0) 5 true (λ _=>(Pb.fld owMachine.f4)) [12] λ i9 j1 _ g6 j=>?_
 refine j.segB 6 (sc Z (oM Z U)<|
  sc Z (oM Z U)<|
  sc Z (xNc Z T)<|
  sc Z (xFa Z zaw T)<|
  sc Z (xLc (sb:=0) (.head _) Z Z Z T Z)<|
  sc Z (oM Z T)<|.nil) [1,7,11,13,66,70] [(0,5),(12,4),(71,4)] (λ j=>?_)
 have j:=j.addL (s:=12) (y:=dis (.pointer (some ⟨b5,0,none⟩))) (j.st.has 12 _ Z).1
 have j:=j.tuck (s:=71) 182 4 Z (λ _ h=>h) Z [0] Z
 refine j.litW (oe:=(Ow.pin (owGModR oAtt))) (opds:=[.tmp 71]) (xs:=[⟨b5,(⟨x1,b3.2.kind,b9,true,false,[]⟩:GMod)⟩]) 2 [4] kI99 kY99 (Jl (pin_cells (j.st.has 71 _ Z) (j.st.has 182 _ Z)) (λ b hb=>⟨4,by simp,hb⟩)) (λ q hq=>by
 simp only[am,aS,ch] at hq
 subst hq
 exact Ow.len _ (pin_cells (j.st.has 71 _ Z) (j.st.has 182 _ Z))) [1,7,11,12,13,66,70,71] [0] (@λ g7 _ _ _ j=>?_)
 have j:=j.gs (Gs':=[oneB none,oneB none,g7,Y,oneB none,b8,oneB none])
 have j:=j.asO (s:=0) 5 Z Z (λ _ h=>h) (xY (owMachine.imp4 (imp_lax (b:=b5)))) [72] Z
 refine j.mvG (s:=70) (sb:=0) 5 3 (Pb.fld owMachine.f4) (.head _) (zT Z Z) [1,7,11,12,13,66,71] [72] λ j=>?_
 have⟨j2,g8,h⟩:=bs h
 refine j.appP 3 2 Z Z kE99 Z Z Z (λ _ h=>h) (λ _ h=>h) g8 [1,7,11,12,13,66,71] Z [0] Z Z Z λ _ _ _ _ hn82 j=>?_
 refine j.segB 2 segZ [1,7,11,12,13,75] [(0,5),(73,3)] λ j=>?_
 refine j.shA 0 73 5 3 (tp Z) [1,7,11,12,13] [] λ j=>?_
 have j:=j.asA 0 5 (xY (owMachine.imp4 (imp_strict hn82))) []
 refine Wz<|QY<|j.segB 3 segZ [1,7,12,13,76,77,78] [(0,5)] λ j=>?_
 have⟨j3,g9,h⟩:=bs h
 refine j.cNA 5 0 (hR.impl_machine_body g9) [1,7,12,13] [] λ j=>?_
 refine j.segB 1 segZ [1,7,12,13,14] [(0,5)] (λ j=>Wz ?_)
 refine j.rgB segZ [1,7,12,13,14,81] [(0,5)] λ j=>?_
 refine j.cq h (λ h=>?_) λ h=>?_
 ·have⟨h0,c8,h⟩:=bs h
  refine QY<|j.segB 3 segZ [14,84] [(0,5)] λ j=>?_
  refine j.sfA 0 5 (((Pb.fld owMachine.f4).rowP (.head _) c8).fld owGModR.f3) (tp Z) cB [14] [] (λ j=>Wz ?_)
  refine j.rgB segZ [4,5] [(0,5)] λ j=>?_
  have j:=j.asA 0 5 (xY (owMachine.imp4 (xu (λ _ h=>(.tail _ h))))) []
  exact j.xE2 0 5 h
 have⟨h1,d1,h⟩:=bs h
 refine QY<|j.segB 3 segZ [1,7,13,88] [(0,5)] λ j=>?_
 refine j.sfA 0 5 (((Pb.fld owMachine.f4).rowP (.head _) d1).fld owGModR.f4) (tp Z) cB [1,7,13] [] (λ j=>Wz ?_)
 refine za ?_
 have⟨d2,d3,d4⟩:=bs h
 refine wqj (λ a w=>∃ M1 Q W X Y A B C,Sx (Frm.chg w0 G) 111 M M1 [oneB Q,W,X,Y,A,B,oneB C] [(13,dt (b3.1.modules.length:Int))] [(0,5,dnm (oMac bk bl ((b3.1.modules.length,b5)::ps)) B ⟨d2⟩ (.pointer (some ⟨b0,0,none⟩)) [])] a w) ?_ ?_
 ·have⟨h2,d5,h⟩:=bs d3
  refine j.rgB (sZ 2 (r:=by exact sc Z (yV (l:=[.tmp 89,.tmp 90]) j.ob.sub Z (.cons (lendA (sb:=0) j.ob 5 T Z) (.cons (xf j.ob.sub T) .nil)) (xl d5) jK)<|segZ)) [1,7,13,15] [(0,5)] λ j=>?_
  refine j.rgB segZ [1,13,15,97] [(0,5)] λ j=>?_
  refine j.cq h (λ h=>?_) λ h=>?_
  ·have⟨h3,a9,h⟩:=bs h
   have⟨h4,d6,h⟩:=bs h
   refine j.hdF (s:=0) 5 true (λ _=>(Pb.fld owMachine.f4)) [] λ d7 h5 _ a8 j=>?_
   refine j.mintP (s:=0) 5 (YU (owMachine.impE4 (Xs (zJ (yL a9).2)))) [] λ h6 j=>?_
   refine j.zu 11 [(0,5)] (λ j=>?_) (hs:=sV 5 (r:=by exact sw Z (xIa (g:=d7) Z kS99 T T Z (λ h=>a8 h Z) a9)<|sw Z (xLdP (sb:=0) (Pb.fld owMachine.f4) (.head _) Z (λ h=>a8 h Z) (.head _) (yL a9).2 (cd _) Z zaN T Z)<|sV 1 (r:=by exact sw Z (zA (l:=[.tmp 105]) Z (.cons T .nil) (QL d6))<|sV 1 (r:=by exact sw Z (X2 Z cI T)<|.nil))))
   have⟨h7,e0,h8,e3,h⟩:=Ke h
   refine j.cSF (l:=[.tmp 106,.tmp 108]) 5 (j.bkP (sb:=0) (Pb.fld owMachine.f4) (.head _) e0) Z Z kN87 (j.st.has 104 _ Z) (by simp) (.cons T (.cons T .nil)) (FnS.any (qw e3)) [13] Z [] Z Z (by decide) λ j=>?_
   refine Wz ?_
   have j:=j.asA 0 5 (xY (owMachine.imp4 (xu (λ _ h=>(.tail _ h))))) []
   cases h
   exact fz
  cases h
  exact fz
 rintro _ _ ⟨_,Q,W,X,Y,A,B,C,j⟩
 have h:=d4
 refine j.rgB segZ [4,5] [(0,5)] λ j=>?_
 have j:=j.asA 0 5 (xY (owMachine.imp4 (xu (λ _ h=>(.tail _ h))))) []
 exact j.xE2 0 5 h
def xx(_R:Rec)(x1:Int)(b3:List GAttr)(a8:Machine×Int):Option ((Machine×Int)⊕(Machine⊕(Machine×Int))):=
if(cmpI .lss a8.2 (b3.length:Int))=true then(Option.bind (α:=Machine) ((atI b3 a8.2).bind λ a9=>
(atI a9.name.l 0).bind λ b5=>
if(cmpB .neq b5 (UInt8.ofNat 122))=true then((a8.1.modules[x1.toNat]?).bind λ b6=>
(yE b6.x a9.name a9.value).bind λ b7=>
some ({ a8.1 with modules:=(a8.1.modules.set x1.toNat ⟨b7⟩) }))
else(some a8.1)) λ b8=>
(i64 (a8.2+(1:Int))).bind λ b9=>
some (.inl (b8,b9)))
else(some (.inr (.inl a8.1)))
def yO(R:Rec)(x0:Machine)(x1:Int)(x2:Stmt):Option (Machine×Int):=
(atI x0.modules x1).bind λ _v3=>
Option.bind (α:=Machine⊕(Machine×Int)) (if cmpI .eql x2.kind 0 then((R.impl_machine_load1 x0 x2.module).bind λ c8=>
if cmpI .neq c8.2.2 0 then(some (.inr (c8.1,c8.2.2)))
else((jT x2.module (⟨[46]⟩:Str)).bind λ e8=>
(yj c8.1 e8.1).bind λ e9=>
if cmpI .lss e9 0 then(some (.inr (c8.1,(1:Int))))
else((c8.1.modules[x1.toNat]?).bind λ g3=>
(yE g3.x e8.1 (⟨(1:Int),e9⟩:GVal)).bind λ g4=>
some (.inl ({ c8.1 with modules:=(c8.1.modules.set x1.toNat ⟨g4⟩) })))))
else(if cmpI .eql x2.kind 1 then((x0.modules[x1.toNat]?).bind λ g5=>
(wk g5.x).bind λ g6=>
(qv g6 x2.level x2.module).bind λ d3=>
if(decide (d3=(⟨[]⟩:Str)))=true then(some (.inr (x0,(5:Int))))
else((R.impl_machine_load1 x0 d3).bind λ b3=>
if cmpI .neq b3.2.2 0 then(some (.inr (b3.1,b3.2.2)))
else(Option.bind (α:=GVal×Bool) ((atI b3.1.modules b3.2.1).bind λ _h0=>
(b3.1.modules[b3.2.1.toNat]?).bind λ g7=>
(x9 g7.x x2.name).bind λ f9=>
some (f9.1,f9.2)) λ g0=>
Option.bind (α:=(Machine×GVal)⊕(Machine⊕(Machine×Int))) (if(!g0.2)=true then((ww d3 x2.name).bind λ a8=>
(atI b3.1.modules b3.2.1).bind λ _g8=>
(b3.1.modules[b3.2.1.toNat]?).bind λ b5=>
(gO ((cmpI .eql b5.x.kind 1||decide (a8=(⟨[]⟩:Str))) == false) (yj b3.1 a8)).bind λ b7=>
(gO (((cmpI .eql b5.x.kind 1||decide (a8=(⟨[]⟩:Str))) == false)&&(cmpI .lss b7 0 == true)) (xO b3.1 a8)).bind λ d1=>
if((cmpI .eql b5.x.kind 1||decide (a8=(⟨[]⟩:Str)))||(cmpI .lss b7 0&&cmpI .eql d1.2.kind 0))=true then(some (.inr (.inr ((if(((cmpI .eql b5.x.kind 1||decide (a8=(⟨[]⟩:Str))) == false)&&(cmpI .lss b7 0 == true))=true then d1.1 else b3.1),(2:Int)))))
else((R.impl_machine_load1 (if(((cmpI .eql b5.x.kind 1||decide (a8=(⟨[]⟩:Str))) == false)&&(cmpI .lss b7 0 == true))=true then d1.1 else b3.1) a8).bind λ b6=>
if cmpI .neq b6.2.2 0 then(some (.inr (.inr (b6.1,b6.2.2))))
else(some (.inl (b6.1,(⟨(1:Int),b6.2.1⟩:GVal))))))
else(some (.inl (b3.1,g0.1)))) (Sum.elim (λ b9=>
(b9.1.modules[x1.toNat]?).bind λ d4=>
(yE d4.x x2.name b9.2).bind λ d5=>
some (.inl ({ b9.1 with modules:=(b9.1.modules.set x1.toNat ⟨d5⟩) }))) some))))
else(if cmpI .eql x2.kind 2 then((R.impl_machine_load1 x0 x2.module).bind λ a9=>
if cmpI .neq a9.2.2 0 then(some (.inr (a9.1,a9.2.2)))
else((atI a9.1.modules a9.2.1).bind λ _g9=>
(a9.1.modules[a9.2.1.toNat]?).bind λ d6=>
(appO 32 [] d6.x.attrs).bind λ d7=>
zE (λ e0=>xx R x1 d7 e0) (a9.1,(0:Int))))
else(if cmpI .eql x2.kind 3 then((x0.modules[x1.toNat]?).bind λ e3=>
(yE e3.x x2.name (⟨(0:Int),x2.value⟩:GVal)).bind λ e4=>
some (.inl ({ x0 with modules:=(x0.modules.set x1.toNat ⟨e4⟩) })))
else(if cmpI .eql x2.kind 4 then((x0.modules[x1.toNat]?).bind λ e5=>
(x9 e5.x x2.name).bind λ d2=>
if(!d2.2)=true then(some (.inr (x0,(3:Int))))
else(if cmpI .eql d2.1.kind 1 then((appO 8 x0.out ([(-1:Int)]:List Int)).bind λ e6=>
some (.inl ({ x0 with out:=e6 })))
else((appO 8 x0.out ([d2.1.num]:List Int)).bind λ e7=>
some (.inl ({ x0 with out:=e7 })))))
else(if cmpI .eql x2.kind 5 then(some (.inr (x0,(4:Int))))
else(some (.inl x0)))))))) (Sum.elim (λ b8=>
some (b8,(0:Int))) some)
theorem zdw(hR:R.ok){x1 x2}(h:yO R x0 x1 x2=some r):FnS prog 138 (oMac bk bl ps) ⟨x0⟩ [dt x1,dt x2] ⟨r.1⟩ (.frz (dt r.2)):=by
 refine fnSB (fn:=f138) 1 7 func138 Z Z (λ M G w0 b0 _ j=>wqw ?_)
 refine j.zo [(0,1)] λ j=>?_
 have⟨v3,p3,h⟩:=bs h
 refine j.hdF (s:=0) 1 true (λ _=>(Pb.fld owMachine.f4)) [] λ g2 A2 _ hA2 j=>?_
 refine j.mintP (s:=0) 1 (YU (owMachine.impE4 (Xs (zJ (yL p3).2)))) [] λ b4 j=>?_
 refine j.zo [(0,1)] (λ j=>?_) (hs:=sZ 5 (r:=by exact sc Z (xIa (g:=g2) Z kS99 T T Z (λ h=>hA2 h Z) p3)<|sc Z (xLdP (sb:=0) (Pb.fld owMachine.f4) (.head _) Z (λ h=>hA2 h Z) (.head _) (yL p3).2 (cd _) Z zaN T Z)<|segZ))
 refine za ?_
 have j:=j.ncf (s:=0) 1 []
 have⟨o8,p8,k8⟩:=bs h
 refine wqj (λ a w=>∃ b8,o8=.inl b8/\(∃ M1 Q W X Y A B C,Sx (Frm.chg w0 G) 236 M M1 [oneB Q,W,X,Y,oneB A,oneB B,oneB C] [] [(0,1,dnm (oMac bk bl ((x1.toNat,b4)::ps)) W ⟨b8⟩ (.pointer (some ⟨b0,0,none⟩)) [])] a w)) ?_ ?_
 ·refine j.zo [(0,1)] λ j=>?_
  refine j.zd [(0,1)] p8 (λ j h=>?_) λ j h=>?_
  ·refine QY<|j.zh 3 [(0,1)] λ j=>?_
   have⟨r7,j6,h⟩:=bs h
   refine j.cNA 1 0 (hR.impl_machine_load1 j6) [5,7] [] λ j=>?_
   refine j.zh 5 [(0,1)] (λ j=>Wz ?_)
   refine j.zd [(0,1)] h (λ j h=>?_) λ j h=>?_
   ·refine j.zo [(0,1)] λ j=>?_
    have j:=j.asA 0 1 (xY (owMachine.imp4 (xu (λ _ h=>(.tail _ h))))) []
    have h:=jo h k8
    exact j.xF 0 1 h
   have⟨r8,r9,h⟩:=bs h
   refine j.zo [(0,1)] λ j=>?_
   have⟨s1,j7,h⟩:=bs h
   refine j.zo [(0,1)] (λ j=>?_) (hs:=sZ 2 (r:=by exact sc Z (yV (l:=[.tmp 56,.tmp 57]) j.ob.sub Z (.cons (lendA (sb:=0) j.ob 1 T Z) (.cons (xf j.ob.sub T) .nil)) (xl j7) jK)<|segZ))
   refine j.zd [(0,1)] h (λ j h=>?_) λ j h=>?_
   ·refine j.zo [(0,1)] λ j=>?_
    have j:=j.asA 0 1 (xY (owMachine.imp4 (xu (λ _ h=>(.tail _ h))))) []
    have h:=jo h k8
    exact j.xF 0 1 h
   refine QY<|j.zh 4 [(0,1)] (λ j=>?_) (hs:=sZ 3 (r:=by exact sc Z (X2 Z cI T)<|.nil))
   have⟨s3,k0,s4,k1,h⟩:=Ke h
   refine j.cSF (l:=[.tmp 62,.tmp 64]) 1 (j.bkP (sb:=0) (Pb.fld owMachine.f4) (.head _) k0) Z Z kN87 (j.st.has 61 _ Z) (by simp) (.cons T (.cons T .nil)) (FnS.any (qw k1)) [] Z [] Z Z (by decide) λ j=>?_
   exact Wz<|flz h
  refine j.zd [(0,1)] h (λ j h=>?_) λ j h=>?_
  ·have⟨s5,k3,h⟩:=bs h
   have⟨s6,k4,k5,k6,h⟩:=Ke h
   refine j.zv [(0,1)] (λ j=>?_) (hs:=sV 1 (r:=by exact sw Z (yV (l:=[.tmp 68]) j.ob.sub Z (.cons (lendQ (sb:=0) j.ob 1 ((Pb.fld owMachine.f4).rowP (.head _) k3) T Z) .nil) (XZ k4) flat_str)<|sV 4 (r:=by exact sw Z (zA (l:=[.tmp 69,.tmp 71,.tmp 73]) Z (.cons T (.cons T (.cons T .nil))) (Qg k6))<|sw Z (oA Z T)<|.nil)))
   refine j.zd [(0,1)] h (λ j h=>?_) λ j h=>?_
   ·refine j.zo [(0,1)] λ j=>?_
    have j:=j.asA 0 1 (xY (owMachine.imp4 (xu (λ _ h=>(.tail _ h))))) []
    have h:=jo h k8
    exact j.xF 0 1 h
   refine QY<|j.zh 2 [(0,1)] λ j=>?_
   have⟨j1,k7,h⟩:=bs h
   refine j.cNA 1 0 (hR.impl_machine_load1 k7) [5,7,14] [] λ j=>?_
   refine j.zh 5 [(0,1)] (λ j=>Wz ?_)
   refine j.zd [(0,1)] h (λ j h=>?_) λ j h=>?_
   ·refine j.zo [(0,1)] λ j=>?_
    have j:=j.asA 0 1 (xY (owMachine.imp4 (xu (λ _ h=>(.tail _ h))))) []
    have h:=jo h k8
    exact j.xF 0 1 h
   refine wqk<|za ?_
   have⟨j2,k9,l3⟩:=bs h
   refine wqj (λ a w=>∃ M1 Q W X Y A B C,Sx (Frm.chg w0 G) 236 M M1 [oneB Q,W,X,Y,oneB A,oneB B,oneB C] [(5,dptr x2),(14,dt k5),(15,dt j1.2.1),(18,dt j2.2),(7,dis (.pointer (some ⟨b4,0,none⟩)))] [(17,4,dbox A 0 j2.1),(0,1,dnm (oMac bk bl ((x1.toNat,b4)::ps)) W ⟨j1.1⟩ (.pointer (some ⟨b0,0,none⟩)) [])] a w) ?_ ?_
   ·refine j.opn (s:=5) λ l4 l5 l6 j=>?_
    refine j.held (λ w=>CellsAt w l4 l5 l6) zN λ _ j=>?_
    refine j.tN 0 0 (j.pkZ 5) λ _ j=>?_
    refine j.tk (i:=1) Z Z (by decide +kernel) (by decide +kernel) (by decide +kernel) (λ _ _ _ h=>h) (j.pkS (s:=5)) (yNc Z (j.st.has 87 _ Z)) λ _ j=>?_
    refine j.tk (i:=2) Z Z (by decide +kernel) (by decide +kernel) (by decide +kernel) (λ _ _ _ h=>h) (j.pkS (s:=5)) (yFa Z zaw (j.st.has 88 _ Z)) λ _ j=>?_
    refine j.tM 4 15 (j.pkZ 5) λ _ j=>?_
    refine j.tA 7 5 (λ _ j=>?_) (ht:=kF109_3)
    refine j.tF 8 5 94 Stmt.fld3 λ _ j=>?_
    have⟨s7,b6,h⟩:=bs k9
    have⟨s8,e4,s9,e5,h⟩:=Ke h
    refine aK2 3 13 ?_ ?_
    ·refine j.hdF (s:=0) 1 true (λ _=>(Pb.fld owMachine.f4)) [] λ e6 l7 _ a8 j=>?_
     refine j.zh 1 [(0,1)] λ j=>?_
     refine aHN (j.pkZ 5) ?_
     refine j.tkI (i:=5) (s2:=90) (g:=e6) Z Z (j.pkZ 5) Z kS99 Z Z (tp Z) Z (λ h=>a8 h Z) b6 λ _ j=>?_
     refine aK2 6 13 ?_ ?_
     ·refine j.mintP (s:=0) 1 (YU (owMachine.impE4 (Xs (zJ (yL b6).2)))) [] λ l8 j=>?_
      refine j.zh 1 [(0,1)] (λ j=>?_) (hs:=sc Z (xLdP (sb:=0) (Pb.fld owMachine.f4) (.head _) Z (λ h=>a8 h Z) (.head _) (yL b6).2 (cd _) Z zaN T Z)<|.nil)
      refine aHN (j.pkZ 5) ?_
      refine aK2 9 13 ?_ ?_
      ·refine j.zh 1 [(0,1)] (λ j=>?_) (hs:=sc Z (yV (l:=[.tmp 93,.tmp 95]) j.ob.sub Z (.cons (lendQ (sb:=0) j.ob 1 ((Pb.fld owMachine.f4).rowP (.head _) e4) T Z) (.cons (xf j.ob.sub T) .nil)) (w6 e5) (Q6 zbe ZA))<|.nil)
       refine aHN (j.pkZ 5) ?_
       refine j.tM 10 96 (j.pkZ 5) λ _ j=>?_
       refine j.tkE (i:=11) (s2:=86) (j.pkZ 5) λ j=>?_
       refine j.tkE (i:=12) (s2:=86) (j.pkZ 5) (λ j=>aK1 13 ?_)
       refine j.alA 4 zat [5,7,14,15,97,98] [0] λ l9 j=>?_
       refine aHN (j.pkZ 5) ?_
       refine aK1 14 ?_
       refine j.stA 17 4 FldS.id (tp Z) [5,7,14,15,98] [0] λ j=>?_
       refine aHN (j.pkZ 5) ?_
       refine aK1 15 ?_
       refine j.zh 1 [(0,1),(17,4)] λ j=>?_
       refine aHN (j.pkZ 5) ?_
       refine aK0 ?_
       have j:=j.ncf (s:=0) 1 [17]
       have j:=j.clo (s:=5)
       have j:=j.asA 0 1 (xY (owMachine.imp4 (xu (λ _ h=>(.tail _ h))))) [17]
       cases h
       exact fz
      ·refine j.alA 4 zat [5,7,14,15,93,95] [0] λ m0 j=>?_
       refine aHN (j.pkZ 5) ?_
       refine aK1 9 ?_
       refine j.zh 1 [(0,1),(17,4)] (λ j=>?_) (hs:=sc Z (yV (l:=[.tmp 93,.tmp 95]) j.ob.sub Z (.cons (lendQ (sb:=0) j.ob 1 ((Pb.fld owMachine.f4).rowP (.head _) e4) T Z) (.cons (xf j.ob.sub T) .nil)) (w6 e5) (Q6 zbe ZA))<|.nil)
       refine aHN (j.pkZ 5) ?_
       refine j.tM 10 96 (j.pkZ 5) λ _ j=>?_
       refine j.tkE (i:=11) (s2:=86) (j.pkZ 5) λ j=>?_
       refine j.tkE (i:=12) (s2:=86) (j.pkZ 5) (λ j=>aK1 14 ?_)
       refine j.stA 17 4 FldS.id (tp Z) [5,7,14,15,98] [0] λ j=>?_
       refine aHN (j.pkZ 5) ?_
       refine aK1 15 ?_
       refine j.zh 1 [(0,1),(17,4)] λ j=>?_
       refine aHN (j.pkZ 5) ?_
       refine aK0 ?_
       have j:=j.ncf (s:=0) 1 [17]
       have j:=j.clo (s:=5)
       have j:=j.asA 0 1 (xY (owMachine.imp4 (xu (λ _ h=>(.tail _ h))))) [17]
       cases h
       exact fz
     ·refine j.alA 4 zat [5,7,14,15,92,95] [0] λ m1 j=>?_
      refine aHN (j.pkZ 5) ?_
      refine aK1 6 ?_
      refine j.mintP (s:=0) 1 (YU (owMachine.impE4 (Xs (zJ (yL b6).2)))) [17] λ m2 j=>?_
      refine j.zh 1 [(0,1),(17,4)] (λ j=>?_) (hs:=sc Z (xLdP (sb:=0) (Pb.fld owMachine.f4) (.head _) Z (λ h=>a8 h Z) (.head _) (yL b6).2 (cd _) Z zaN T Z)<|.nil)
      refine aHN (j.pkZ 5) ?_
      refine aK1 9 ?_
      refine j.zh 1 [(0,1),(17,4)] (λ j=>?_) (hs:=sc Z (yV (l:=[.tmp 93,.tmp 95]) j.ob.sub Z (.cons (lendQ (sb:=0) j.ob 1 ((Pb.fld owMachine.f4).rowP (.head _) e4) T Z) (.cons (xf j.ob.sub T) .nil)) (w6 e5) (Q6 zbe ZA))<|.nil)
      refine aHN (j.pkZ 5) ?_
      refine j.tM 10 96 (j.pkZ 5) λ _ j=>?_
      refine j.tkE (i:=11) (s2:=86) (j.pkZ 5) λ j=>?_
      refine j.tkE (i:=12) (s2:=86) (j.pkZ 5) (λ j=>aK1 14 ?_)
      refine j.stA 17 4 FldS.id (tp Z) [5,7,14,15,98] [0] λ j=>?_
      refine aHN (j.pkZ 5) ?_
      refine aK1 15 ?_
      refine j.zh 1 [(0,1),(17,4)] λ j=>?_
      refine aHN (j.pkZ 5) ?_
      refine aK0 ?_
      have j:=j.ncf (s:=0) 1 [17]
      have j:=j.clo (s:=5)
      have j:=j.asA 0 1 (xY (owMachine.imp4 (xu (λ _ h=>(.tail _ h))))) [17]
      cases h
      exact fz
    ·refine j.alA 4 zat [5,7,14,15,89,91,95] [0] λ m3 j=>?_
     refine aHN (j.pkZ 5) ?_
     refine aK1 3 ?_
     refine j.hdF (s:=0) 1 true (λ _=>(Pb.fld owMachine.f4)) [17] λ e7 m4 _ b7 j=>?_
     refine j.zh 1 [(0,1),(17,4)] λ j=>?_
     refine aHN (j.pkZ 5) ?_
     refine j.tkI (i:=5) (s2:=90) (g:=e7) Z Z (j.pkZ 5) Z kS99 Z Z (tp Z) Z (λ h=>b7 h Z) b6 (λ _ j=>aK1 6 ?_)
     refine j.mintP (s:=0) 1 (YU (owMachine.impE4 (Xs (zJ (yL b6).2)))) [17] λ m5 j=>?_
     refine j.zh 1 [(0,1),(17,4)] (λ j=>?_) (hs:=sc Z (xLdP (sb:=0) (Pb.fld owMachine.f4) (.head _) Z (λ h=>b7 h Z) (.head _) (yL b6).2 (cd _) Z zaN T Z)<|.nil)
     refine aHN (j.pkZ 5) ?_
     refine aK1 9 ?_
     refine j.zh 1 [(0,1),(17,4)] (λ j=>?_) (hs:=sc Z (yV (l:=[.tmp 93,.tmp 95]) j.ob.sub Z (.cons (lendQ (sb:=0) j.ob 1 ((Pb.fld owMachine.f4).rowP (.head _) e4) T Z) (.cons (xf j.ob.sub T) .nil)) (w6 e5) (Q6 zbe ZA))<|.nil)
     refine aHN (j.pkZ 5) ?_
     refine j.tM 10 96 (j.pkZ 5) λ _ j=>?_
     refine j.tkE (i:=11) (s2:=86) (j.pkZ 5) λ j=>?_
     refine j.tkE (i:=12) (s2:=86) (j.pkZ 5) (λ j=>aK1 14 ?_)
     refine j.stA 17 4 FldS.id (tp Z) [5,7,14,15,98] [0] λ j=>?_
     refine aHN (j.pkZ 5) ?_
     refine aK1 15 ?_
     refine j.zh 1 [(0,1),(17,4)] λ j=>?_
     refine aHN (j.pkZ 5) ?_
     refine aK0 ?_
     have j:=j.ncf (s:=0) 1 [17]
     have j:=j.clo (s:=5)
     have j:=j.asA 0 1 (xY (owMachine.imp4 (xu (λ _ h=>(.tail _ h))))) [17]
     cases h
     exact fz
   rintro _ _ ⟨_,Q,W,X,Y,A,B,C,j⟩
   have h:=l3
   have⟨e8,e9,d1⟩:=bs h
   refine wqj (λ a w=>∃ b5,e8=.inl b5/\(∃ M1 Q W X Y A B C,Sx (Frm.chg w0 G) 236 M M1 [oneB Q,W,X,Y,oneB A,oneB B,oneB C] [(5,dptr x2),(7,dis (.pointer (some ⟨b4,0,none⟩)))] [(17,4,dbox A 0 b5.2),(0,1,dnm (oMac bk bl ((x1.toNat,b4)::ps)) W ⟨b5.1⟩ (.pointer (some ⟨b0,0,none⟩)) [])] a w)) ?_ ?_
   ·refine j.zd [(0,1),(17,4)] e9 (λ j h=>?_) λ j h=>?_
    ·have⟨m6,m7,h⟩:=bs h
     refine j.zo [(0,1),(17,4)] (λ j=>QY ?_)
     have⟨m8,d2,m9,f9,h⟩:=Ke h
     have⟨n0,g0,h⟩:=bs h
     refine j.hdF (s:=0) 1 true (λ _=>(Pb.fld owMachine.f4)) [17] λ g3 n2 _ b9 j=>?_
     refine j.mintP (s:=0) 1 (YU (owMachine.impE4 (Xs (zJ (yL d2).2)))) [17] λ n3 j=>?_
     refine j.zh 23 [(0,1),(17,4)] (λ j=>?_) (hs:=sc Z (oM Z U)<|
      sc Z (xNc Z T)<|
      sc Z (xFa Z zaw T)<|
      sc Z (xLc (sb:=0) (.head _) Z Z Z T Z)<|
      sc Z (oM Z T)<|
      sc Z (xIa (g:=g3) Z kS99 T T Z (λ h=>b9 h Z) d2)<|
      sc Z (xLdP (sb:=0) (Pb.fld owMachine.f4) (.head _) Z (λ h=>b9 h Z) (.head _) (yL d2).2 (cd _) Z zaN T Z)<|
      sc Z (xNc Z T)<|
      sc Z (xFa Z kF142_1 T)<|
      sc Z (xLf (sb:=0) (((Pb.fld owMachine.f4).rowP (.head _) f9).fld owGModR.f1) Z T Z)<|
      sc Z (oCI Z T cI)<|
      sc Z (oM Z T)<|
      sg Z Z (λ hg=>oM Z T)<|
      sg Z Z (λ hg=>YD Z V (yS))<|
      sc Z (qm Z T T)<|
      sc Z (oM Z T)<|
      sg Z Z (λ hg=>oM Z U)<|
      sg Z Z (λ hg=>oM Z T)<|
      sg Z Z (λ hg=>yV (l:=[.tmp 121,.tmp 122]) j.ob.sub Z (.cons (lendA (sb:=0) j.ob 1 V Z) (.cons (xf j.ob.sub V) .nil)) (xl (gh hg g0)) jK)<|
      sg Z Z (λ hg=>oCI Z V cI)<|
      sg Z Z (λ hg=>oM Z V)<|
      sgg Z Z (λ hg=>oM Z U)<|
      sgg Z Z (λ hg=>oM Z T)<|.nil)
     have⟨n4,g4,h⟩:=bs h
     refine j.cSFhB (sb:=0) (l:=[.tmp 127]) 1 Z (λ _ h=>h) Z Z Z kN85 (λ hg=>(j.st.has 126 _ Z).1 hg) (by simp) (λ hg=>(.cons V .nil)) (λ hg=>JD (gh hg g4)) [5,7,19,120,125] Z [17] Z Z (by decide) λ _ _ _ _ j=>?_
     refine j.zh 4 [(0,1),(17,4)] (λ j=>?_) (hs:=sgg Z Z (λ hg=>op_fieldV Spec.fld0 Z Z V)<|sgg Z Z (λ hg=>oCI Z V cI)<|sg Z Z (λ hg=>xc Z V (zd5 hg Z))<|segZ)
     refine Wz<|j.cq h (λ h=>?_) λ h=>?_
     ·refine j.zo [(0,1)] λ j=>?_
      have j:=j.asA 0 1 (xY (owMachine.imp4 (xu (λ _ h=>(.tail _ (.tail _ h)))))) []
      have h:=jo h d1
      have h:=jo h k8
      exact j.xF 0 1 h
     refine QY<|j.zh 2 [(0,1),(17,4)] λ j=>?_
     have⟨n5,g5,h⟩:=bs h
     refine j.cNA 1 0 (hR.impl_machine_load1 g5) [5,7] [17] λ j=>?_
     refine j.zh 5 [(0,1),(17,4)] (λ j=>Wz ?_)
     refine j.zd [(0,1),(17,4)] h (λ j h=>?_) λ j h=>?_
     ·refine j.zo [(0,1)] λ j=>?_
      have j:=j.asA 0 1 (xY (owMachine.imp4 (xu (λ _ h=>(.tail _ (.tail _ h)))))) []
      have h:=jo h d1
      have h:=jo h k8
      exact j.xF 0 1 h
     refine QY<|j.zh 2 [(0,1),(17,4)] (λ j=>?_) (hs:=sZ 1 (r:=by exact sc Z (X2 Z cI T)<|.nil))
     refine j.stA 17 4 FldS.id (tp Z) [5,7] [0] (λ j=>Wz ?_)
     have j:=j.asA 0 1 (xY (owMachine.imp4 (xu (λ _ h=>(.tail _ h))))) [17]
     exact flz h
    exact flz h
   rintro _ _ ⟨b5,rfl,⟨_,Q,W,X,Y,A,B,C,j⟩⟩
   have h:=jn d1
   refine QY<|j.zh 4 [(0,1)] λ j=>?_
   have⟨n6,g6,n7,g7,h⟩:=Ke h
   refine j.cSF (l:=[.tmp 146,.tmp 147]) 1 (j.bkP (sb:=0) (Pb.fld owMachine.f4) (.head _) g6) Z Z kN87 (j.st.has 144 _ Z) (by simp) (.cons T (.cons T .nil)) (FnS.any (qw g7)) [] Z [] Z Z (by decide) λ j=>?_
   exact Wz<|flz h
  refine j.zd [(0,1)] h (λ j h=>?_) λ j h=>?_
  ·refine QY<|j.zh 3 [(0,1)] λ j=>?_
   have⟨d4,g8,h⟩:=bs h
   refine j.cNA 1 0 (hR.impl_machine_load1 g8) [7] [] λ j=>?_
   refine j.zh 5 [(0,1)] (λ j=>Wz ?_)
   refine j.zd [(0,1)] h (λ j h=>?_) λ j h=>?_
   ·refine j.zo [(0,1)] λ j=>?_
    have j:=j.asA 0 1 (xY (owMachine.imp4 (xu (λ _ h=>(.tail _ h))))) []
    have h:=jo h k8
    exact j.xF 0 1 h
   have⟨n8,d3,n9,d5,h⟩:=Ke h
   refine QY<|j.hdF (s:=0) 1 true (λ _=>(Pb.fld owMachine.f4)) [] λ g9 o4 _ c8 j=>?_
   refine j.mintP (s:=0) 1 (YU (owMachine.impE4 (Xs (zJ (yL d3).2)))) [] λ d6 j=>?_
   refine j.hdA 0 1 (((Pb.fld owMachine.f4).rowP (.head _) d5).fld owGModR.f5) [] λ o5 o6 _ j3 j=>?_
   refine j.zh 11 [(0,1),(161,0)] (λ j=>?_) (hs:=sc Z (xt (α:=GAttr) (e:=188) Z (ht':=zaO))<|sZ 5 (r:=by exact sc Z (xIa (g:=g9) Z kS99 T T Z (λ h=>c8 h Z) d3)<|sc Z (xLdP (sb:=0) (Pb.fld owMachine.f4) (.tail _ (.head _)) Z (λ h=>c8 h Z) (.head _) (yL d3).2 (cd _) Z zaN T Z)<|segZ))
   have⟨a9,h0,h⟩:=bs h
   refine j.appH 0 Z Z kE140 Z Z (j.rowH (sb:=0) (((Pb.fld owMachine.f4).rowP (.head _) d5).fld owGModR.f5) (.head _) Z (zT Z Z) Z Z) h0 [7] Z [0] Z Z λ o7 _ _ _ j=>?_
   refine j.zh 2 [(0,1),(172,0)] (λ j=>?_) (hs:=sc Z (zbJ Z T)<|segZ)
   refine Wz ?_
   have j:=j.ncf (s:=0) 1 [172]
   refine wql h (λ b3 a w=>∃ M1 Q W X Y A B C,Sx (Frm.chg w0 G) 236 M M1 [oneB Q,W,X,Y,oneB A,oneB B,oneB C] [(173,dt (a9.length:Int)),(174,dt b3.2),(7,dis (.pointer (some ⟨b4,0,none⟩)))] [(172,0,dtip Q 188 a9),(0,1,dnm (oMac bk bl ((d4.2.1.toNat,d6)::((x1.toNat,b4)::ps))) W ⟨b3.1⟩ (.pointer (some ⟨b0,0,none⟩)) [])] a w) fx ?_
   rintro b3 h3 _ _ ⟨_,Q,W,X,Y,A,B,C,j⟩ d7 e0
   have h:xx R x1 a9 b3=some h3:=d7
   unfold xx at h
   refine j.zd [(0,1),(172,0)] h (λ j h=>?_) λ j h=>?_
   ·refine wqk<|za ?_
    have⟨h4,h5,h6⟩:=bs h
    refine wqj (λ a w=>∃ M1 Q W X Y A B C,Sx (Frm.chg w0 G) 236 M M1 [oneB Q,W,X,Y,oneB A,oneB B,oneB C] [(173,dt (a9.length:Int)),(174,dt b3.2),(7,dis (.pointer (some ⟨b4,0,none⟩)))] [(172,0,dtip Q 188 a9),(0,1,dnm (oMac bk bl ((d4.2.1.toNat,d6)::((x1.toNat,b4)::ps))) W ⟨h4⟩ (.pointer (some ⟨b0,0,none⟩)) [])] a w) ?_ ?_
    ·have⟨o9,h7,h⟩:=bs h5
     refine QY<|j.zh 2 [(0,1),(172,0)] (λ j=>?_) (hs:=sc Z (xIdxT Z zaO T T h7)<|segZ)
     refine j.alA 5 zrGAttr [7,173,174,177] [0,172] λ p0 j=>?_
     refine j.stA 25 5 FldS.id (tp Z) [7,173,174] [0,172] (λ j=>Wz ?_)
     have⟨p1,p4,h⟩:=bs h
     refine j.zd [(0,1),(25,5),(172,0)] h (λ j h=>?_) λ j h=>?_
     ·refine QY<|j.zh 5 [(0,1),(172,0)] λ j=>?_
      have⟨p5,h8,p6,h9,h⟩:=Ke h
      refine j.cSF (l:=[.tmp 184,.tmp 186]) 1 (j.bkP (sb:=0) (Pb.fld owMachine.f4) (.tail _ (.head _)) h8) Z Z kN87 (j.st.has 182 _ Z) (by simp) (.cons T (.cons T .nil)) (FnS.any (qw h9)) [7,173,174] Z [172] Z Z (by decide) λ j=>?_
      refine Wz ?_
      cases h
      exact fz
     cases h
     exact fz
    rintro _ _ ⟨_,Q,W,X,Y,A,B,C,j⟩
    have h:=h6
    have⟨p7,p9,h⟩:=bs h
    exact j.zn [(0,1),(172,0)] h
   have j:=j.asA 0 1 (xY (owMachine.imp4 (xu (λ _ h=>(.tail _ h))))) [172]
   have h:=lo h e0
   exact flz h
  refine j.zd [(0,1)] h (λ j h=>?_) λ j h=>?_
  ·refine QY<|j.zh 6 [(0,1)] (λ j=>?_) (hs:=sZ 5 (r:=by exact sc Z (X2 Z cI T)<|.nil))
   have⟨q3,i0,q4,i3,h⟩:=Ke h
   refine j.cSF (l:=[.tmp 193,.tmp 196]) 1 (j.bkP (sb:=0) (Pb.fld owMachine.f4) (.head _) i0) Z Z kN87 (j.st.has 191 _ Z) (by simp) (.cons T (.cons T .nil)) (FnS.any (qw i3)) [] Z [] Z Z (by decide) λ j=>?_
   exact Wz<|flz h
  refine j.zd [(0,1)] h (λ j h=>?_) λ j h=>?_
  ·have⟨q5,i4,q6,i5,h⟩:=Ke h
   refine QY<|j.zh 7 [(0,1)] (λ j=>?_) (hs:=sZ 3 (r:=by exact sc Z (yV (l:=[.tmp 201,.tmp 203]) j.ob.sub Z (.cons (lendQ (sb:=0) j.ob 1 ((Pb.fld owMachine.f4).rowP (.head _) i4) T Z) (.cons (xf j.ob.sub T) .nil)) (w6 i5) (Q6 zbe ZA))<|segZ))
   refine j.alA 6 zat [205,206] [0] λ e3 j=>?_
   refine j.stA 26 6 FldS.id (tp Z) [206] [0] λ j=>?_
   refine j.zh 1 [(0,1),(26,6)] (λ j=>Wz ?_)
   refine j.zd [(0,1),(26,6)] h (λ j h=>?_) λ j h=>?_
   ·refine j.zo [(0,1)] λ j=>?_
    have j:=j.asA 0 1 (xY (owMachine.imp4 (xu (λ _ h=>(.tail _ h))))) []
    have h:=jo h k8
    exact j.xF 0 1 h
   refine j.zd [(0,1),(26,6)] h (λ j h=>?_) λ j h=>?_
   ·refine QY<|j.hdA 0 1 (Pb.fld owMachine.f5) [26] λ q7 q8 _ j4 j=>?_
    refine j.zh 6 [(0,1)] (λ j=>?_) (hs:=sZ 5 (r:=by exact sc Z (xH (opds:=[.const (.int .i64 (-1))]) Z Z Z (.cons cI .nil))<|.nil))
    refine j.mvG (s:=229) (sb:=0) 1 3 (Pb.fld owMachine.f5) (.head _) (zT Z Z) [225,230] [] @λ i6 H316 j=>?_
    have j:=j.gs (Gs':=[oneB none,i6,oneB none,H316,oneB none,oneB none,oneB (some e3)])
    refine j.tipR (s:=229) 3 (by first | (simp;done) | exact oD rfl) [0] λ q9 j=>?_
    have⟨r0,i7,h⟩:=bs h
    refine j.apA 3 yI i7 [225] [0] λ r1 j=>?_
    refine j.zh 2 [(0,1),(231,3)] λ j=>?_
    have j:=j.tipW (s:=231) 3 [0]
    refine j.shA 0 231 1 3 (tp Z) [] [] λ j=>?_
    exact Wz<|flz h
   refine j.held (λ _=>True) zN λ _ j=>?_
   refine j.tN 0 0 trivial λ _ j=>?_
   refine j.hdA 0 1 (Pb.fld owMachine.f5) [26] λ r2 r3 _ j5 j=>?_
   refine j.drnE (D:=[_,_,_,_,_,_,_,_]) 8 [0] [[(0,nS)],[(0,nS)],[(208,1)],[(209,2)],[(210,3),(0,nS)],[(26,nS)],[(212,5)],[(213,6)],[(211,4),(214,7)],[(207,0)],[(216,9)],[(217,10),(215,8)]] (
    rc Z Z (oM Z U)<|
    rc Z Z (oM Z U)<|
    rc Z Z (xNc Z T)<|
    rc Z Z (xFa Z kF103_5 T)<|
    rc Z Z (xLc (sb:=0) (.head _) Z Z Z T Z)<|
    rc Z Z (jQ GVal.fld1 Z T)<|
    rc Z Z (y8 Z T)<|
    rc Z Z (xH (opds:=[.tmp 213]) Z Z Z (.cons T .nil))<|.nil) (by
 intro i hi x d hx
 simp only[am,aS,ch] at hi
 rcases hi with rfl
 all_goals (injection hx with hx;injection hx with h1 h2;subst h1;subst h2;rfl)) [207,211,214] [(0,1)] Z ⟨λ _ h=>h,trivial⟩ (λ j=>?_)
   refine j.mvG (s:=211) (sb:=0) 1 2 (Pb.fld owMachine.f5) (.head _) (zT Z Z) [207,214] [] @λ i8 H334 j=>?_
   have j:=j.gs (Gs':=[oneB none,i8,H334,oneB none,oneB none,oneB none,oneB (some e3)])
   refine j.tipR (s:=211) 2 (by first | (simp;done) | exact oD rfl) [0] λ r4 j=>?_
   have⟨r5,i9,h⟩:=bs h
   refine j.apA 2 yI i9 [207] [0] λ r6 j=>?_
   refine j.zh 2 [(0,1),(215,2)] λ j=>?_
   have j:=j.tipW (s:=215) 2 [0]
   refine j.shA 0 215 1 2 (tp Z) [] [] λ j=>?_
   exact Wz<|flz h
  refine j.zd [(0,1)] h (λ j h=>?_) λ j h=>?_
  ·refine j.zo [(0,1)] λ j=>?_
   have j:=j.asA 0 1 (xY (owMachine.imp4 (xu (λ _ h=>(.tail _ h))))) []
   have h:=jo h k8
   exact j.xF 0 1 h
  exact flz h
 rintro _ _ ⟨b8,rfl,⟨_,Q,W,X,Y,A,B,C,j⟩⟩
 have h:=jn k8
 refine j.zo [(0,1)] λ j=>?_
 have j:=j.asA 0 1 (xY (owMachine.imp4 (xu (λ _ h=>(.tail _ h))))) []
 exact j.xF 0 1 h
