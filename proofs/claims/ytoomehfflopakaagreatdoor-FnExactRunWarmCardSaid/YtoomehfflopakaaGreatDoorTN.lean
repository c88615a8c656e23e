import Derived.Test.YtoomehfflopakaaGreatDoorTJ
namespace Go.Proofs.YtoomehfflopakaaGreatDoor
open Go.RowKit Tryz
attribute [local irreducible] eP eC
set_option maxRecDepth 10000
set_option maxHeartbeats 1600000
variable{r:Bool}{x0:eK}{x1 x2 x4:Int}{x3:List Stmt}
theorem OP:∀ {M:Nat->Prop} {look:Nat->Option Dt} {o:Oper} {q0 q1 q2:Operand} {y0:Int} {y1:Str} {y2:Int},o.op=.build 166 #[(0,q0),(1,q1),(2,q2)]->eC M look q0 (dt y0)->eC M look q1 (dt y1)->eC M look q2 (dt y2)->eP prog M look o (dt (⟨y0,y1,y2,[]⟩:eT)):=@λ _ _ _ q0 q1 q2 y0 y1 y2 ho h0 h1 h2=>yf (parts:=[(0,q0),(1,q1),(2,q2)]) (ns:=[1,1,1,1]) (zs:=DB) Z ho (λ w a hl=>FA ⟨(by decide:0<4),ey.len (α:=Int) (eC.cells h0 hl)⟩ (FA ⟨(by decide:1<4),ey.len (α:=Str) (eC.cells h1 hl)⟩ (FA ⟨(by decide:2<4),ey.len (α:=Int) (eC.cells h2 hl)⟩ FN))) (λ w a hl=>eT.parts (x:=(⟨y0,y1,y2,[]⟩:eT)) (eC.cells h0 hl) (eC.cells h1 hl) (eC.cells h2 hl) yF)
instance aak:fT prog 166 2 2:=⟨uT⟩
instance aav:fT prog 45 4 4:=⟨sJ⟩
instance aay:fT prog 45 5 5:=⟨uU⟩
instance aaD:fT prog 65 0 0:=⟨qI⟩
instance aaF:fT prog 68 1 1:=⟨oO⟩
instance aaH:fT prog 68 2 2:=⟨WG⟩
def Ya(x0:Stmt):Option Bool:=
 ite (ez .eql x0.kind 0) ((yz x0.module).bind λ v6=>
 some (((v6&&ez .eql x0.level 0)&&decide (x0.name=⟨[]⟩))&&ez .eql x0.value 0))<|ite (ez .eql x0.kind 1) ((yZ x0.module).bind λ a8=>
(gO (a8 == true) (yo x0.level 0 3)).bind λ a9=>
(gO (((a8&&a9)&&(decide (x0.module≠⟨[]⟩)||ez .gtr x0.level 0)) == true) (wr x0.name)).bind λ b5=>
 some ((((a8&&a9)&&(decide (x0.module≠⟨[]⟩)||ez .gtr x0.level 0))&&b5)&&ez .eql x0.value 0))<|ite (ez .eql x0.kind 2) ((yz x0.module).bind λ b6=>
 some (((b6&&ez .eql x0.level 0)&&decide (x0.name=⟨[]⟩))&&ez .eql x0.value 0))<|ite (ez .eql x0.kind 3) ((gO ((decide (x0.module=⟨[]⟩)&&ez .eql x0.level 0) == true) (wr x0.name)).bind λ b3=>
(gO (((decide (x0.module=⟨[]⟩)&&ez .eql x0.level 0)&&b3) == true) (yo x0.value 0 99)).bind λ b7=>
 some (((decide (x0.module=⟨[]⟩)&&ez .eql x0.level 0)&&b3)&&b7))<|ite (ez .eql x0.kind 4) ((gO ((decide (x0.module=⟨[]⟩)&&ez .eql x0.level 0) == true) (wr x0.name)).bind λ b8=>
 some (((decide (x0.module=⟨[]⟩)&&ez .eql x0.level 0)&&b8)&&ez .eql x0.value 0))<|ite (ez .eql x0.kind 5) (some (decide (x0=⟨(5:Int),⟨[]⟩,0,⟨[]⟩,0⟩)))<|some false
instance:gC prog 94 dt dt Ya:=⟨@λ x0 r h=>by
 refine fe 0 func94 λ M _ _ j=>?_;refine j.z1 λ j=>?_;refine j.z1 λ j=>?_;refine j.zc h (λ j h=>?_) λ j h=>?_
 .have⟨v6,p6,h⟩:=bs h
  exact j.ze h
 refine j.zc h (λ j h=>?_) λ j h=>?_
 .have⟨b8,a8,h⟩:=bs h
  exact Kx h λ b9 a9 c8 b3 h=>j.ze h (hs:=sZ 2 (r:=by exact sc Z (oK (ZO a8))<|sZ 3 (r:=by exact sg Z Z (λ hg=>oK (yK.1 (gh hg a9)))<|sZ 5 (r:=by exact sg Z Z (λ hg=>oM Z V)<|lG Z Z (λ hg=>zI Stmt.iv Z T)<|lG Z Z (λ hg=>zG Z V)<|lG Z Z (λ hg=>gU Z V cI)<|sg Z Z (λ hg=>qe Z V (rQ hg Z))<|sZ 4 (r:=by exact sg Z Z (λ hg=>oK (ZZ.1 (gh hg b3)))<|eI)))))
 refine j.zc h (λ j h=>?_) λ j h=>?_
 .have⟨d1,d2,h⟩:=bs h
  exact j.ze h
 refine j.zc h (λ j h=>?_) λ j h=>?_
 .have⟨d3,b5,h⟩:=bs h
  exact kB h λ d4 b6 h=>j.ze h (hs:=sZ 11 (r:=by exact sg Z Z (λ hg=>oK (ZZ.1 (gh hg b5)))<|sZ 4 (r:=by exact sg Z Z (λ hg=>oK (yK.1 (gh hg b6)))<|eI)))
 refine j.zc h (λ j h=>?_) λ j h=>?_
 .have⟨d5,b7,h⟩:=bs h
  exact j.ze h (hs:=sZ 11 (r:=by exact sg Z Z (λ hg=>oK (ZZ.1 (gh hg b7)))<|eI))
 refine j.zc h (λ j h=>?_) λ j h=>?_
 .exact j.ze h (hs:=sZ 1 (r:=by exact sc Z (FE Z cI)<|sc Z (Qk Z T T)<|eI))
 exact j.ze h⟩
def wS(x0:List Stmt)(s4:Int):Option (Int⊕(Unit⊕Bool)):=
 ite ((ez .lss s4 x0.length)=true) ((eN x0 s4).bind λ v9=>
(Ya v9).bind λ a8=>
 ite ((!a8)=true) (some (.inr (.inr false)))<|(i64 (s4+1)).bind λ a9=>
 some (.inl a9))<|some (.inr (.inl ()))
def y9(x0:List Stmt):Option Bool:=
 Option.bind (zE (λ s4=>wS x0 s4) 0) (Sum.elim (λ b2=>
 some (ez .leq x0.length 8)) some)
instance Ji:gC prog 59 dt dt y9:=⟨@λ x0 r h=>by
 refine fe 0 func59 λ M w0 _ j=>?_;refine j.z1 (λ j=>za ?_);refine j.jb [0] (λ _=>[]) h (λ o2 p2 k2=>?_) λ b2 _ _ j h=>?_
 .refine j.z1 λ j=>?_
  refine gk p2 (λ s4 a w=>Sx (eG.of w0) 19 M M [] [(0,dt x0),(3,dt s4)] [] a w) (j.kv [0,3]) ?_;rintro s4 z4 _ _ j h hx4;refine j.zc h (λ j h=>?_) λ j h=>?_
  .have⟨v9,p9,h⟩:=bs h
   refine kB h λ a8 a9 h=>j.zc h (λ j h=>?_) λ j h=>?_
   .exact j.ze (jo (lo h hx4) k2)
   exact kB h λ b3 b5 h=>j.zn [] h
  exact fU (lo h hx4)
 exact j.ze h⟩
def Yb(x0:File):Option Bool:=
(yo x0.root 0 2).bind λ v2=>
(gO ((!v2) == false) (yo x0.stamp 0 99)).bind λ v3=>
(gO (((!v2)||(!v3)) == false) (yZ x0.pkg)).bind λ v4=>
(gO ((((!v2)||(!v3))||(!v4)) == false) (y9 x0.body)).bind λ v5=>
 ite (((((!v2)||(!v3))||(!v4))||(!v5))=true) (some false)<|ite (x0.init=true) (some (decide (x0.pkg≠⟨[]⟩)&&decide (x0.name=⟨[]⟩)))<|(wr x0.name).bind λ a8=>
(gO (a8 == true) (wi x0.pkg x0.name)).bind λ a9=>
(gO (a8 == true) (yz a9)).bind λ b3=>
 some (a8&&b3)
instance:gC prog 58 dt dt Yb:=⟨@λ x0 r h=>by
 refine fe 0 func58 λ M _ _ j=>?_;refine j.z1 λ j=>?_;refine Kx h λ v2 p2 v3 p3 h=>Kx h λ v4 p4 v5 p5 h=>j.zc h (λ j h=>?_) (λ j h=>?_) (hs:=sZ 2 (r:=by exact sc Z (oK (yK.1 p2))<|sZ 4 (r:=by exact sg Z Z (λ hg=>oK (yK.1 (gh hg p3)))<|sZ 5 (r:=by exact sg Z Z (λ hg=>oK (ZO (gh hg p4)))<|sZ 5 (r:=by exact sg Z Z (λ hg=>oK (Ji.1 (gh hg p5)))<|eI)))))
 .exact j.ze h
 refine j.zc h (λ j h=>?_) λ j h=>?_
 .exact j.ze h
 exact Kx h λ b5 a8 b6 a9 h=>kB h λ b7 b3 h=>j.ze h (hs:=sZ 2 (r:=by exact sc Z (oK (ZZ.1 a8))<|sZ 5 (r:=by exact sg Z Z (λ hg=>oK (WD (gh hg a9)))<|sg Z Z (λ hg=>oK (Je (gh hg b3)))<|eI)))⟩
def wT(x0:List GAct)(s4:Int):Option (Int⊕(Unit⊕Bool)):=
 ite ((ez .lss s4 x0.length)=true) (Option.bind ((eN x0 s4).bind λ a8=>
 ite (ez .eql a8.kind 0) ((Yb a8.file).bind λ a9=>
 ite ((!a9)=true) (some (.inr (.inr (.inr false))))<|some (.inl ()))<|ite (ez .eql a8.kind 1) (some (.inl ()))<|ite (ez .eql a8.kind 2) ((y9 a8.file.body).bind λ b3=>
 ite ((!b3)=true) (some (.inr (.inr (.inr false))))<|some (.inl ()))<|ite (ez .eql a8.kind 3) ((yz a8.name).bind λ b5=>
 ite ((!b5)=true) (some (.inr (.inr (.inr false))))<|some (.inl ()))<|some (.inr (.inr (.inr false)))) (Sum.elim (λ b9=>
(i64 (s4+1)).bind λ b6=>
 some (.inl b6)) some))<|some (.inr (.inl ()))
def Yc(x0:List GAct):Option Bool:=
 Option.bind (zE (λ s4=>wT x0 s4) 0) (Sum.elim (λ b2=>
 some (ez .leq x0.length 20)) some)
instance HC:gC prog 30 dt dt Yc:=⟨@λ x0 r h=>by
 refine fe 1 func30 λ M w0 _ j=>?_;refine j.z1 (λ j=>za ?_);refine j.mH 1 [0] (λ _=>[]) (λ _ _=>[]) h (λ o2 p2 k2=>?_) λ b2 q2 _ _ _ j h=>?_
 .refine j.z1 λ j=>?_
  refine gk p2 (λ s4 a w=>∃ M1 Q,Sx (eG.of w0) 41 M M1 [eA Q] [(0,dt x0),(3,dt s4)] [] a w) fx ?_;rintro s4 z4 _ _ ⟨_,Q,j⟩ h hx4;refine j.zc h (λ j h=>?_) λ j h=>?_
  .refine kQ ?_
   refine za<|j.mH 1 [0,3] (λ _=>[]) (λ _ _=>[]) h (λ o9 p9 k9=>?_) λ b9 q9 _ _ _ j h=>?_
   .refine Ka ?_
    have⟨a8,a9,h⟩:=bs p9;refine j.zg 4 λ j=>?_;refine j.fB 0 DF [0,3,14] [] λ b3 j=>?_;refine j.eW 4 0 eO.id (tp Z) [0,3] [] (λ j=>Kb ?_);refine j.zo [(4,0)] λ j=>?_;refine j.zd [(4,0)] h (λ j h=>?_) λ j h=>?_
    .have⟨b5,b6,h⟩:=bs h
     refine j.zc h (λ j h=>?_) λ j h=>?_
     .exact j.ze (jo (lo (jo h k9) hx4) k2)
     exact fU h
    refine j.zd [(4,0)] h (λ j h=>?_) λ j h=>?_
    .exact fU h
    refine j.zd [(4,0)] h (λ j h=>?_) λ j h=>?_
    .have⟨b7,b8,h⟩:=bs h
     refine j.zc h (λ j h=>?_) λ j h=>?_
     .exact j.ze (jo (lo (jo h k9) hx4) k2)
     exact fU h
    refine j.zd [(4,0)] h (λ j h=>?_) λ j h=>?_
    .have⟨c8,d1,h⟩:=bs h
     refine j.zc h (λ j h=>?_) λ j h=>?_
     .exact j.ze (jo (lo (jo h k9) hx4) k2)
     exact fU h
    exact j.ze (jo (lo (jo h k9) hx4) k2)
   exact kB h λ d2 d3 h=>j.zn [] h
  exact fU (lo h hx4)
 exact j.ze h⟩
def WJ:Option eK:=
 some ⟨jz,0,[]⟩
instance HQ:uw prog 33  dt WJ:=⟨@λ r h=>by
 refine fe 1 func33 λ M _ _ j=>?_;refine Ka<|j.fB 0 jc [] [] (λ b2 j=>Kb ?_);refine Ka<|j.zh 1 [(0,0)] (λ j=>?_) (hs:=sc Z (yf (parts:=[]) (ns:=[1,1,1]) (zs:=ZU) Z Z (λ w a hl=>by simp) (λ w a hl=>eK.parts (x:=(⟨jz,0,[]⟩:eK)) (xN _ _) ⟨Z,trivial⟩ yF))<|.nil);refine j.eW 0 0 eO.id (tp Z) [] [] (λ j=>Kb ?_);exact j.yB h⟩
def jW(x0:File):Option File:=
(fE 56 [] x0.body).bind λ v7=>
 some {x0 with body:=v7}
instance JY:gC prog 96 dt dt jW:=⟨@λ x0 r h=>by
 refine fe 3 func96 λ M _ _ j=>?_;refine Ka<|j.DK 1 Z Z T [] Z [] Z Z λ b1 _ _ _ j=>?_;refine j.fB 2 JU [] [1] (λ b3 j=>Kb ?_);refine Ka<|j.zh 3 [(1,1),(2,2),(3,0)] (λ j=>?_) (hs:=sc Z (xj (α:=Stmt) (e:=109) Z)<|eI);refine kB h λ v7 p7 h=>j.ic 0 yW p7 [] [1,2] λ g6 j=>?_;refine j.zh 1 [(1,1),(2,2),(6,0),(7,1)] λ j=>?_;have j:=j.eE 0 (s:=6) Z Z [] Z [1,2,7] Z;refine j.eW 1 1 File.D7 (tp Z) [] [2] (λ j=>Kb ?_);refine Ka<|j.zh 1 [(2,2)] λ j=>?_;refine j.eW 2 2 eO.id (tp Z) [] [] (λ j=>Kb ?_);exact j.yB h⟩
def qY(x0:List eT)(x1:Int)(x2:Str)(s4:Int):Option (Int⊕(Unit⊕Int)):=
 ite ((ez .lss s4 x0.length)=true) ((eN x0 s4).bind λ v9=>
(gO (ez .eql v9.root x1 == true) (eN x0 s4)).bind λ a8=>
 ite ((ez .eql v9.root x1&&decide (a8.pkg=x2))=true) (some (.inr (.inr s4)))<|(i64 (s4+1)).bind λ a9=>
 some (.inl a9))<|some (.inr (.inl ()))
def Zo(x0:List eT)(x1:Int)(x2:Str):Option Int:=
 Option.bind (zE (λ s4=>qY x0 x1 x2 s4) 0) (Sum.elim (λ b2=>
 some (-1)) some)
instance Qd:ky prog 201 dt dt dt dt Zo:=⟨@λ x0 x1 x2 r h=>by
 refine fe 0 func201 λ M w0 _ j=>?_;refine j.z1 (λ j=>za ?_);refine j.jb [] (λ _=>[]) h (λ o2 p2 k2=>?_) λ b2 _ _ j h=>?_
 .refine j.z1 λ j=>?_
  refine gk p2 (λ s4 a w=>Sx (eG.of w0) 31 M M [] [(0,dt x0),(1,dt x1),(2,dt x2),(7,dt s4)] [] a w) (j.kv [0,1,2,7]) ?_;rintro s4 z4 _ _ j h hx4;refine j.zc h (λ j h=>?_) λ j h=>?_
  .have⟨v9,p9,h⟩:=bs h
   refine kB h λ a8 a9 h=>j.zc h (λ j h=>?_) λ j h=>?_
   .exact j.ze (jo (lo h hx4) k2)
   exact kB h λ b3 b5 h=>j.zn [] h
  exact fU (lo h hx4)
 exact j.ze h⟩
def wU(x0:List eT)(s4:Int):Option (Int⊕(Unit⊕Bool)):=
 ite ((ez .lss s4 x0.length)=true) ((eN x0 s4).bind λ v9=>
(yo v9.root 0 2).bind λ a8=>
(gO ((!a8) == false) (eN x0 s4)).bind λ b6=>
(gO ((!a8) == false) (yZ b6.pkg)).bind λ a9=>
(gO (((!a8)||(!a9)) == false) (eN x0 s4)).bind λ b7=>
(gO (((!a8)||(!a9)) == false) (yo b7.stamp 0 200)).bind λ b3=>
(gO ((((!a8)||(!a9))||(!b3)) == false) (eN x0 s4)).bind λ b8=>
(gO ((((!a8)||(!a9))||(!b3)) == false) (eN x0 s4)).bind λ b9=>
(gO ((((!a8)||(!a9))||(!b3)) == false) (Zo x0 b8.root b9.pkg)).bind λ b5=>
(gO (((((!a8)||(!a9))||(!b3))||ez .lss b5 s4) == false) (eN x0 s4)).bind λ c8=>
 ite ((((((!a8)||(!a9))||(!b3))||ez .lss b5 s4)||ez .gtr c8.names.length 12)=true) (some (.inr (.inr false)))<|(i64 (s4+1)).bind λ d1=>
 some (.inl d1))<|some (.inr (.inl ()))
def Yd(x0:List eT):Option Bool:=
 Option.bind (zE (λ s4=>wU x0 s4) 0) (Sum.elim (λ b2=>
 some (ez .leq x0.length 20)) some)
instance HD:gC prog 180 dt dt Yd:=⟨@λ x0 r h=>by
 refine fe 0 func180 λ M w0 _ j=>?_;refine j.z1 (λ j=>za ?_);refine j.jb [0] (λ _=>[]) h (λ o2 p2 k2=>?_) λ b2 _ _ j h=>?_
 .refine j.z1 λ j=>?_
  refine gk p2 (λ s4 a w=>Sx (eG.of w0) 63 M M [] [(0,dt x0),(3,dt s4)] [] a w) (j.kv [0,3]) ?_;rintro s4 z4 _ _ j h hx4;refine j.zc h (λ j h=>?_) λ j h=>?_
  .have⟨v9,p9,h⟩:=bs h
   refine Kx h λ d1 a8 d2 a9 h=>Kx h λ d3 b3 d4 b5 h=>Kx h λ d5 b6 d6 b7 h=>Kx h λ d7 b8 e0 b9 h=>kB h λ e3 c8 h=>j.zw (λ j=>?_) (hs:=sV 5 (r:=by exact sw Z (zy (l:=[.tmp 14,.const (.int .i64 0),.const (.int .i64 2)]) Z (.cons T (.cons cI (.cons cI .nil))) (yK.1 a8))<|sV 4 (r:=by exact gW Z Z (λ hg=>xIdx Z V V (gh hg a9))<|sV 2 (r:=by exact gW Z Z (λ hg=>zy (l:=[.tmp 22]) Z (.cons V .nil) (ZO (gh hg b3)))<|sV 1 (r:=by exact sw Z (qe Z T T)<|sV 3 (r:=by exact gW Z Z (λ hg=>xIdx Z V V (gh hg b5))<|sV 2 (r:=by exact gW Z Z (λ hg=>zy (l:=[.tmp 31,.const (.int .i64 0),.const (.int .i64 200)]) Z (.cons V (.cons cI (.cons cI .nil))) (yK.1 (gh hg b6)))<|sV 1 (r:=by exact sw Z (qe Z T T)<|sV 4 (r:=by exact gW Z Z (λ hg=>xIdx Z V V (gh hg b7))<|sV 4 (r:=by exact gW Z Z (λ hg=>xIdx Z V V (gh hg b8))<|sV 2 (r:=by exact gW Z Z (λ hg=>zy (l:=[.tmp 36,.tmp 41,.tmp 46]) Z (.cons V (.cons V (.cons V .nil))) (Qd.1 (gh hg b9)))<|sV 1 (r:=by exact gW Z Z (λ hg=>gU Z V V)<|sw Z (qe Z T T)<|sV 3 (r:=by exact gW Z Z (λ hg=>xIdx Z V V (gh hg c8))<|sV 3 (r:=by exact gW Z Z (λ hg=>gU Z V cI)<|sw Z (qe Z T T)<|.nil))))))))))))));refine j.cq h (λ h=>?_) λ h=>?_
   .exact j.ze (jo (lo h hx4) k2)
   exact kB h λ e4 e5 h=>j.zn [] h
  exact fU (lo h hx4)
 exact j.ze h⟩
def wV(x0:eK)(s4:Int):Option (Int⊕(Unit⊕Bool)):=
 ite ((ez .lss s4 x0.dirs.length)=true) ((eN x0.dirs s4).bind λ v9=>
(gO (ez .gtr v9.stamp x0.clock == false) (eN x0.dirs s4)).bind λ a8=>
 ite ((ez .gtr v9.stamp x0.clock||ez .gtr a8.names.length 0)=true) (some (.inr (.inr false)))<|(i64 (s4+1)).bind λ a9=>
 some (.inl a9))<|some (.inr (.inl ()))
def js(x0:eK):Option Bool:=
 Option.bind (zE (λ s4=>wV x0 s4) 0) (Sum.elim (λ b2=>
(yn x0.tree).bind λ a8=>
(gO (a8 == true) (yo x0.clock 0 200)).bind λ a9=>
(gO ((a8&&a9) == true) (Yd x0.dirs)).bind λ b3=>
 some ((a8&&a9)&&b3)) some)
instance XA:gC prog 141 dt dt js:=⟨@λ x0 r h=>by
 refine fe 0 func141 λ M w0 _ j=>?_;refine j.z1 (λ j=>za ?_);refine j.jb [1] (λ _=>[]) h (λ o2 p2 k2=>?_) λ b2 _ _ j h=>?_
 .refine j.z1 λ j=>?_
  refine gk p2 (λ s4 a w=>Sx (eG.of w0) 43 M M [] [(1,eX x0),(3,dt s4)] [] a w) (j.kv [1,3]) ?_;rintro s4 z4 _ _ j h hx4;refine j.zc h (λ j h=>?_) λ j h=>?_
  .have⟨v9,p9,h⟩:=bs h
   refine kB h λ b5 b6 h=>j.zw λ j=>?_;refine j.cq h (λ h=>?_) λ h=>?_
   .exact j.ze (jo (lo h hx4) k2)
   exact kB h λ b7 b8 h=>j.zn [] h
  exact fU (lo h hx4)
 exact Kx h λ b9 a8 c8 a9 h=>kB h λ d1 b3 h=>j.ze h (hs:=sZ 2 (r:=by exact sc Z (oK (qn a8))<|sZ 3 (r:=by exact sg Z Z (λ hg=>oK (yK.1 (gh hg a9)))<|sZ 4 (r:=by exact sg Z Z (λ hg=>oK (HD.1 (gh hg b3)))<|eI))))⟩
def jt(x0:Tree)(a8:Tree×Int):Option ((Tree×Int)⊕Tree):=
 ite ((ez .lss a8.2 x0.files.length)=true) ((eN x0.files a8.2).bind λ a9=>
(jW a9).bind λ b3=>
(fE 80 a8.1.files [b3]).bind λ b5=>
(i64 (a8.2+1)).bind λ b6=>
 some (.inl (⟨b5⟩,b6)))<|some (.inr a8.1)
def qZ(x0:Tree):Option Tree:=
 Option.bind (zE (λ a8=>jt x0 a8) (⟨[]⟩,0)) λ a9=>
 some a9
theorem JZ{x0 r}(h:qZ x0=some r):iF prog 146 [dt x0] (.ow (fV (Ow.row 45 (Ow.eE (α:=File)))) r):=by
 refine mW (fn:=f146) 4 func146 Z Z (λ M w0 _ j=>gj ?_);refine Ka<|j.zg 1 λ j=>?_;refine j.gZ (ow:=(fV (Ow.row 45 (Ow.eE (α:=File))))) 2 (fV.z Ow.gB) [1] [] λ b2 _ _ _ j=>?_;have j:=j.gn;refine Kb<|Ka<|j.lN (ow:=(fV (Ow.row 45 (Ow.eE (α:=File))))) (parts:=[]) (ns:=[1]) (zs:=Qz) (x:=(⟨[]⟩:Tree)) 0 [] (by simp) (((fV (Ow.row 45 (Ow.eE (α:=File))))).more (fV.mk (x:=(⟨[]⟩:Tree)) (Ow.gB _ _)) (λ b=>(λ hb=>hb.elim))) [1] [2] @λ G4 _ _ j=>?_;have j:=j.gs (Gs':=[G4,eA none,(eA (some b2)),eA none]);have j:=j.gs (Gs':=[G4,eA none,(eA (some b2)),eA none]);refine j.gZ (ow:=(fV (Ow.row 45 (Ow.eE (α:=File))))) 3 (fV.z Ow.gB) [1] [2,5] λ b7 _ _ _ j=>?_;have j:=j.gn;refine j.iS (sb:=3) (tv:=5) 3 0 Pb (zt Z) [1] [2] λ j=>?_;have j:=j.gn;refine Kb<|za ?_;have⟨b5,b6,b8⟩:=bs h;refine ib (λ a w=>∃ M1 Q R W X,Sx (eG.of w0) 25 M M1 [Q,R,W,X] [] [(2,2,eH (Ow.box (fV (Ow.row 45 (Ow.eE (α:=File))))) W ⟨jz⟩),(3,3,eH (Ow.box (fV (Ow.row 45 (Ow.eE (α:=File))))) X ⟨b5⟩)] a w) ?_ ?_
 .refine j.zo [(2,2),(3,3)] λ j=>?_
  have j:=j.fv (s:=2) 2 [3];have j:=j.fv (s:=3) 3 [2];refine gk b6 (λ a8 a w=>∃ M1 Q R W X,Sx (eG.of w0) 25 M M1 [Q,R,W,X] [(1,eX x0),(4,dt a8.2)] [(2,2,eH (Ow.box (fV (Ow.row 45 (Ow.eE (α:=File))))) W ⟨jz⟩),(3,3,eH (Ow.box (fV (Ow.row 45 (Ow.eE (α:=File))))) X ⟨a8.1⟩)] a w) fx ?_;rintro a8 b9 _ _ ⟨_,Q,R,W,X,j⟩ h b3;refine j.zd [(2,2),(3,3)] h (λ j h=>?_) λ j h=>?_
  .have⟨d3,d4,h⟩:=bs h
   refine kB h λ d5 c8 h=>j.ie (s:=3) 3 [2] λ d6 j=>?_;refine j.fL 3 3 (Pb.eD fV.f0) [2] λ d7 e0 _ d1 j=>?_;refine j.zu 9 [(2,2),(3,3)] (λ j=>?_) (hs:=sw Z (eV Z qI U)<|sw Z (fS (sb:=3) (.head _) Z Z Z T Z)<|sV 5 (r:=by exact sw Z (zy (l:=[.tmp 19]) Z (.cons T .nil) (JY.1 c8))<|sw Z (wa (opds:=[.tmp 20]) Z Z Z (.cons T .nil))<|.nil));refine j.iN (s:=14) (sb:=3) 3 1 (Pb.eD fV.f0) (.head _) (zR Z Z) [1,4,21] [2] λ j=>?_;have j:=j.gn;refine j.kx (s:=14) 1 (by first | (simp;done) | exact oD rfl) [2,3] λ e3 j=>?_;refine kB h λ e4 d2 h=>j.ic 1 yW d2 [1,4] [2,3] λ e5 j=>?_;have j:=j.gn;refine j.zh 1 [(2,2),(3,3),(22,1)] (λ j=>?_) (hs:=sc Z (eV Z qI (oN Z))<|.nil);have j:=j.iO (s:=22) 1 [2,3];refine j.kg 3 22 3 1 (tp Z) [1,4] [2] λ j=>?_;have j:=j.gn;refine Kb<|kB h λ e6 e7 h=>j.zo [(2,2),(3,3)] λ j=>?_;have j:=j.fv (s:=3) 3 [2];exact fU h
  cases lo h b3;exact fz
 rintro _ _ ⟨_,Q,R,W,X,j⟩;have h:=b8;refine Ka<|j.ie (s:=3) 3 [2] λ e8 j=>?_;refine j.nr (sb:=3) 3 [] [2] λ j=>?_;refine j.ie (s:=2) 2 [24] λ e9 j=>?_;refine j.iS (sb:=2) (tv:=24) 2 3 Pb (zt Z) [] [] λ j=>?_;have j:=j.gn;exact Kb<|j.ui 2 h
def qO(x0:Tree)(x1:File):Option (Tree×Bool):=
(qZ x0).bind λ v8=>
(jW x1).bind λ b3=>
(fE 80 v8.files [b3]).bind λ a8=>
(yn x0).bind λ a9=>
(gO ((!a9) == false) (yn ⟨a8⟩)).bind λ b5=>
 ite (((!a9)||(!b5))=true) (some (⟨[]⟩,false))<|some (⟨a8⟩,true)
instance HR:fY prog 142 dt dt (λ r=>fZ [dt r.1,dt r.2]) qO:=⟨@λ x0 x1 r h=>by
 refine fe 4 func142 λ M _ _ j=>?_;refine Ka<|j.zg 2 λ j=>?_;refine j.fB 2 xN [2,3] [] λ b3 j=>?_;have j:=j.gn;refine j.zh 1 [(4,2)] (λ j=>Kb ?_);refine Ka<|j.zh 1 [(4,2)] λ j=>?_;refine kB h λ v8 p8 h=>j.cN (l:=[.tmp 7]) 0 (.cons T .nil) (JZ p8) [2,3] [4] λ j=>?_;have j:=j.gn;refine j.gZ (ow:=(fV (Ow.row 45 (Ow.eE (α:=File))))) 3 (fV.z Ow.gB) [2,3] [4,8] λ b8 _ _ _ j=>?_;have j:=j.gn;refine j.iS (sb:=6) (tv:=8) 3 0 Pb (zt Z) [2,3] [4] λ j=>?_;have j:=j.gn;refine Kb<|kB h λ b9 a8 h=>j.fL 6 3 (Pb.eD fV.f0) [4] λ c8 d1 _ a9 j=>?_;refine j.zu 5 [(4,2),(6,3)] (λ j=>?_) (hs:=sw Z (eV Z qI U)<|sw Z (fS (sb:=6) (.head _) Z Z Z T Z)<|sV 1 (r:=by exact sw Z (zy (l:=[.tmp 11]) Z (.cons T .nil) (JY.1 a8))<|sw Z (wa (opds:=[.tmp 12]) Z Z Z (.cons T .nil))<|.nil));refine j.iN (s:=10) (sb:=6) 3 1 (Pb.eD fV.f0) (.head _) (zR Z Z) [2,13] [4] λ j=>?_;have j:=j.gn;refine j.kx (s:=10) 1 (by first | (simp;done) | exact oD rfl) [4,6] λ d2 j=>?_;refine kB h λ d3 b5 h=>j.ic 1 yW b5 [2] [4,6] λ d4 j=>?_;have j:=j.gn;refine j.zh 1 [(4,2),(6,3),(14,1)] (λ j=>?_) (hs:=sc Z (eV Z qI (oN Z))<|.nil);have j:=j.iO (s:=14) 1 [4,6];refine j.kg 6 14 3 1 (tp Z) [2] [4] λ j=>?_;have j:=j.gn;refine Kb ?_;have j:=j.fv (s:=6) 3 [4];have j:=j.nq (s:=6) 3 [2] [4];refine Kx h λ d5 b6 d6 b7 h=>j.zd [(4,2)] h (λ j h=>?_) (λ j h=>?_) (hs:=sZ 1 (r:=by exact sc Z (oK (qn b6))<|sZ 3 (r:=by exact sg Z Z (λ hg=>oK (qn (gh hg b7)))<|eI)))
 .refine Ka ?_
  refine j.zh 1 [(4,2)] (λ j=>?_) (hs:=sc Z (yf (parts:=[]) (ns:=[1]) (zs:=Qz) Z Z (λ w a hl=>by simp) (λ w a hl=>Tree.parts (x:=(⟨[]⟩:Tree)) yF))<|.nil);refine j.eW 4 2 eO.id (tp Z) [] [] λ j=>?_;refine j.zh 1 [(4,2)] (λ j=>Kb ?_);cases h;exact j.y2
 refine Ka<|j.zh 1 [(4,2)] λ j=>?_;refine j.eW 4 2 eO.id (tp Z) [] [] λ j=>?_;refine j.zh 1 [(4,2)] (λ j=>Kb ?_);cases h;exact j.y2⟩
def ju(x0:List eT)(s5:(List eT)×Int):Option (((List eT)×Int)⊕(List eT)):=
 ite ((ez .lss s5.2 x0.length)=true) ((eN x0 s5.2).bind λ a8=>
(fE 16 [] a8.names).bind λ a9=>
(fE 56 s5.1 [{ a8 with names:=a9 }]).bind λ b3=>
(i64 (s5.2+1)).bind λ b5=>
 some (.inl (b3,b5)))<|some (.inr s5.1)
def YD(x0:List eT):Option (List eT):=
 Option.bind (zE (λ s5=>ju x0 s5) ([],0)) λ o3=>
 some o3
theorem J0{x0 r}(h:YD x0=some r):kY prog 100 [dt x0] 166 r:=by
 refine om 3 func100 λ M w0 _ j=>?_;refine j.z1 (λ j=>?_) (hs:=sc Z (oA Z (jg (α:=eT) (e:=166)))<|.nil);refine j.zo [(3,0)] (λ j=>?_) (hs:=sc Z (xj (α:=eT) (e:=166) Z)<|eI);refine za<|j.kJ 3 [] (λ _=>[]) (λ o3 q=>[(3,0,eQ (q 0) 166 o3)]) h (λ o3 p3=>?_) λ o3 q3 _ _ _ j h=>?_
 .refine j.zo [(3,0)] λ j=>?_
  refine gk p3 (λ s5 a w=>∃ M1 Q R W,Sx (eG.of w0) 27 M M1 [eA Q,eA R,eA W] [(0,dt x0),(4,dt s5.2)] [(3,0,eQ Q 166 s5.1)] a w) fx ?_;rintro s5 z5 _ _ ⟨_,Q,R,W,j⟩ h hx5;refine j.zd [(3,0)] h (λ j h=>?_) λ j h=>?_
  .refine Ka ?_
   refine kB h λ b3 b5 h=>j.zh 4 [(3,0)] λ j=>?_;refine j.fB 2 Ap [0,4,16] [3] λ b6 j=>?_;refine j.eW 5 2 eO.id (tp Z) [0,4] [3] (λ j=>Kb ?_);have j:=j.AF 1 [0,4] [3,5];refine Ka<|j.zh 3 [(3,0),(5,2),(17,1)] (λ j=>?_) (hs:=sc Z (xj (α:=Str) (e:=9) Z (ht':=W3))<|eI);refine kB h λ b7 a8 h=>j.ic 1 yW a8 [0,4] [3,5] λ b8 j=>?_;refine j.zh 1 [(3,0),(5,2),(20,1),(21,2)] λ j=>?_;have j:=j.eE 1 (s:=20) Z Z [0,4] Z [3,5,21] Z;refine j.eW 5 2 eT.sj (tp Z) [0,4] [3] (λ j=>Kb ?_);refine Ka<|j.zh 3 [(3,0),(22,0)] λ j=>?_;refine kB h λ b9 a9 h=>j.ic 0 yW a9 [0,4] [] λ c8 j=>?_;refine j.zh 1 [(3,0)] (λ j=>Kb ?_);exact kB h λ d1 d2 h=>j.zn [(3,0)] h
  cases lo h hx5;exact fz
 exact j.zl 0 h
def yH(x1:Int)(o9:(List Str))(a8:eK×Int):Option ((eK×Int)⊕eK):=
 ite ((ez .lss a8.2 o9.length)=true) (Option.bind ((eN o9 a8.2).bind λ b3=>
(Zo a8.1.dirs x1 b3).bind λ a9=>
 ite (ez .lss a9 0) ((eN o9 a8.2).bind λ b5=>
(fE 56 a8.1.dirs [(⟨x1,b5,a8.1.clock,[]⟩:eT)]).bind λ b6=>
 some {a8.1 with dirs:=b6})<|(eN a8.1.dirs a9).bind λ b7=>
 some ({ a8.1 with dirs:=(a8.1.dirs.set a9.toNat {b7 with stamp:=a8.1.clock}) })) λ b8=>
(i64 (a8.2+1)).bind λ b9=>
 some (.inl (b8,b9)))<|some (.inr a8.1)
def Ye(x0:eK)(x1:Int)(x2:Str):Option eK:=
 Option.bind (ite ((decide (x2≠⟨[]⟩))=true) ((Zh x2).bind λ a8=>
(fE 16 [⟨[]⟩] a8).bind λ a9=>
 some a9)<|some [⟨[]⟩]) λ o9=>
 Option.bind (zE (λ b3=>yH x1 o9 b3) (x0,0)) λ b5=>
 some b5
theorem U7{x2 r}(h:Ye x0 x1 x2=some r):pd prog 181 (fJ (Ow.eE (α:=Tree)) gP) x0 [dt x1,dt x2] (.ow (fJ (Ow.eE (α:=Tree)) gP) r):=by
 unfold Ye at h;refine sG (fn:=f181) 0 6 func181 Z Z (λ M G w0 _ j=>Kc ?_);refine Ka<|j.nT 1 0 [1,2] [] λ b1 G1 M1 _ _ j=>?_;have j:=j.gn;refine j.gZ (ow:=(fJ (Ow.eE (α:=Tree)) gP)) 5 (fJ.z xN Ow.gB) [1,2] [3] λ b3 _ _ _ j=>?_;have j:=j.gn;refine Kb<|za<|Kc<|Ka<|j.lO (oe:=(Ow.eE (α:=Str))) (opds:=[_]) (xs:=[(⟨[]⟩:Str)]) 2 [] FP FX (Z2 (oe:=(Ow.eE (α:=Str))) (G1:=noB) (eC.cells (yM) (λ s y hs=>j.st.has s y hs)) (λ _ h=>h.elim)) (λ q hq=>by
 simp only[aj,aF,bI] at hq
 subst hq
 exact ey.len (eC.cells (yM) (λ s y hs=>j.st.has s y hs))) [1,2] [3,6] (@λ G5 _ _ _ j=>?_)
 have j:=j.gs (Gs':=[eA none,G1,G5,eA none,eA none,(eA (some b3))]);refine j.iQ (s:=10) 2 [3,6] λ g7 A7 _ hA7 j=>?_;refine j.segA 1 [1,2] [(3,1),(6,5),(7,2)] (λ j=>Kb ?_);refine za ?_;have⟨o9,p9,k9⟩:=bs h;refine Yo (λ a w=>∃ M1 Q R W X Y A,Sx (eG.ft w0 G) 54 M M1 [Q,R,W,X,Y,A] [(1,dt x1)] [(3,1,eH (Ow.box (fJ (Ow.eE (α:=Tree)) gP)) R ⟨x0⟩),(6,5,eH (Ow.box (fJ (Ow.eE (α:=Tree)) gP)) A ⟨xc⟩),(7,2,eH lE W o9)] a w) ?_ ?_
 .refine j.iR [1,2,12] [(3,1),(6,5),(7,2)] λ j=>?_
  refine j.cs p9 (λ _ h=>?_) λ _ h=>?_
  .refine Ka ?_
   obtain⟨e8,e9,h⟩:=mh h IP;refine j.segA 3 [1,15] [(3,1),(6,5),(7,2),(13,2)] λ j=>?_;have j:=j.fv (s:=13) 2 [3,6];refine j.kx (s:=13) 2 (by first | (simp;done) | exact oD rfl) [3,6] λ f9 j=>?_;refine kB h λ g0 d1 h=>j.ic 2 yW d1 [1] [3,6] λ g3 j=>?_;have j:=j.gn;refine j.segA 1 [1] [(3,1),(6,5),(7,2)] (λ j=>Kb ?_);have j:=j.fv (s:=3) 1 [6,7];have j:=j.fv (s:=6) 5 [3,7];have j:=j.iO (s:=7) 2 [3,6];refine za ?_;cases h;exact fx
  refine az ?_;have j:=j.fv (s:=3) 1 [6,7];have j:=j.fv (s:=6) 5 [3,7];have j:=j.fv (s:=7) 2 [3,6];refine za ?_;cases h;exact fx
 rintro _ _ ⟨_,Q,R,W,X,Y,A,j⟩;have h:=k9;have⟨d2,d3,d4⟩:=bs h;refine Yo (λ a w=>∃ M1 Q R W X Y A,Sx (eG.ft w0 G) 54 M M1 [Q,R,W,X,Y,A] [] [(3,1,eH (Ow.box (fJ (Ow.eE (α:=Tree)) gP)) R ⟨d2⟩),(6,5,eH (Ow.box (fJ (Ow.eE (α:=Tree)) gP)) A ⟨xc⟩)] a w) ?_ ?_
 .refine j.iR [1,8] [(3,1),(6,5),(7,2)] (λ j=>aX ?_)
  refine Qw d3 (λ a9 a w=>∃ M1 Q R W X Y A,Sx (eG.ft w0 G) 54 M M1 [Q,R,W,X,Y,A] [(1,dt x1),(8,dt a9.2)] [(3,1,eH (Ow.box (fJ (Ow.eE (α:=Tree)) gP)) R ⟨a9.1⟩),(6,5,eH (Ow.box (fJ (Ow.eE (α:=Tree)) gP)) A ⟨xc⟩),(7,2,eH lE W o9)] a w) fx ?_;rintro a9 d5 _ _ ⟨_,Q,R,W,X,Y,A,j⟩ h b7;refine Kc<|j.iQ (s:=7) 2 [3,6] λ g4 g5 _ a8 j=>?_;refine j.kL (sc Z (oM Z T)<|
    sc Z (oM Z T)<|
    sc Z (nJ Z Pf Z)<|
    sc Z (gU Z T T)<|.nil) [1,8,20] [(3,1),(6,5),(7,2)] (λ j=>?_)
  refine j.cs h (λ _ h=>?_) λ _ h=>?_
  .refine az ?_
   refine za ?_;have⟨d6,d7,e0⟩:=bs h;refine Yo (λ a w=>∃ M1 Q R W X Y A,Sx (eG.ft w0 G) 54 M M1 [Q,R,W,X,Y,A] [(1,dt x1),(8,dt a9.2)] [(3,1,eH (Ow.box (fJ (Ow.eE (α:=Tree)) gP)) R ⟨d6⟩),(6,5,eH (Ow.box (fJ (Ow.eE (α:=Tree)) gP)) A ⟨xc⟩),(7,2,eH lE W o9)] a w) ?_ ?_
   .refine aX ?_
    refine Kc ?_;have⟨g6,b8,h⟩:=bs d7;refine kB h λ g8 e3 h=>j.ie (s:=3) 1 [6,7] λ g9 j=>?_;refine j.fL 3 1 (Pb.eD fJ.f2) [6,7] λ h0 h1 _ e4 j=>?_;refine j.pQ (D:=[_,_,_,_,_,_,_,_,_]) zP [[(3,nS)],[(23,0),(3,nS)],[(1,nS)],[(7,nS)],[(8,nS)],[(26,3),(27,4)],[(28,5),(7,nS)],[(24,1),(25,2),(29,6),(3,nS)],[(30,7)]] [1,8,9] [(3,1),(6,5),(7,2)] (λ j=>?_) (hs:=rc Z Z (eV Z WG U)<|
      rc Z Z (fS (sb:=3) (.head _) Z Z Z T Z)<|
      rc Z Z (oM Z T)<|
      rc Z Z (oM Z T)<|
      rc Z Z (oM Z T)<|
      rc Z Z (kk Z W3 Z T a8 b8)<|
      rc Z Z (gi (sb:=7) (PV.root.row Z a8 b8) Z T Z)<|
      rc Z Z (yC (l:=[.tmp 24,.tmp 25,.tmp 29]) j.ob.sub Z (.cons (mw (sb:=3) j.ob 1 (Pb.eD fJ.f2) (.head _) Z (zR Z Z) T Z) (.cons (yG j.ob.sub T) (.cons (yG j.ob.sub T) .nil))) (Qd.1 e3) xQ)<|
      rc Z Z (oA Z T)<|.nil)
    have j:=j.gS (s:=3) 1 [6,7];refine za<|j.iR [1,8,9,32] [(3,1),(6,5),(7,2)] λ j=>?_;refine j.cs h (λ _ h=>?_) λ _ h=>?_
    .have⟨h2,b9,h⟩:=bs h
     refine j.fL 3 1 (Pb.eD fJ.f2) [6,7] λ h3 h4 _ e5 j=>?_;refine j.rU (D:=[_,_,_,_,_,_,_,_,_,_,_]) zP 11 [[(3,nS)],[(33,0),(3,nS)],[(1,nS)],[(7,nS)],[(8,nS)],[(36,3),(37,4)],[(38,5),(7,nS)],[(3,nS)],[(40,7),(3,nS)],[(35,2),(39,6),(41,8)],[(42,9)],[(34,1),(43,10)],[(3,nS)],[(45,12),(44,11)]] [1,8,34,43] [(3,1),(6,5),(7,2)] (λ _ _ j=>?_) (hs:=rc Z Z (eV Z WG U)<|
       rc Z Z (fS (sb:=3) (.head _) Z Z Z T Z)<|
       rc Z Z (oM Z T)<|
       rc Z Z (oM Z T)<|
       rc Z Z (oM Z T)<|
       rc Z Z (kk Z W3 Z T a8 b9)<|
       rc Z Z (gi (sb:=7) (PV.root.row Z a8 b9) Z T Z)<|
       rc Z Z (eV Z oO U)<|
       rc Z Z (gi (sb:=3) (Pb.eD fJ.f1) Z T Z)<|
       rc Z Z (OP Z T T T)<|
       rc Z Z (wa (opds:=[.tmp 42]) Z Z Z (.cons T .nil))<|.nil)
     refine j.iN (s:=34) (sb:=3) 1 3 (Pb.eD fJ.f2) (.head _) (zR Z Z) [1,8,43] [6,7] λ j=>?_;have j:=j.gn;refine j.kx (s:=34) 3 (by first | (simp;done) | exact oD rfl) [3,6,7] λ h5 j=>?_;refine kB h λ h6 e6 h=>j.ic 3 yW e6 [1,8] [3,6,7] λ h7 j=>?_;have j:=j.gn;refine j.fN 1 (sc Z (eV Z WG (oN Z))<|.nil) [1,8,45] [(3,1),(6,5),(7,2),(44,3)] λ j=>?_;have j:=j.iO (s:=44) 3 [3,6,7];refine j.kg 3 44 1 3 (tp Z) [1,8] [6,7] λ j=>?_;have j:=j.gn;refine Kb<|yI ?_;have j:=j.fv (s:=3) 1 [6,7];have j:=j.fv (s:=7) 2 [3,6];refine za ?_;cases h;exact fx
    refine Ka<|kB h λ h8 c8 h=>j.fL 3 1 (Pb.eD fJ.f2) [6,7] λ e7 h9 _ b5 j=>?_;refine j.fN 7 (sc Z (eV Z WG U)<|sc Z (fS (sb:=3) (.head _) Z Z Z T Z)<|sP 1 (r:=by exact sc Z (eV Z oO U)<|sc Z (gi (sb:=3) (Pb.eD fJ.f1) Z T Z)<|sc Z (gJ (g:=e7) Z oq T T Z (λ h=>b5 h Z) c8)<|lF)) [1,8,50,52] [(3,1),(6,5),(7,2)] λ j=>?_;refine j.gX 3 1 (((Pb.eD fJ.f2).row (.head _) Z (λ h=>b5 h Z) c8).eD eT.z2) (tp Z) (tp Z) [1,8] [6,7] (λ j=>Kb ?_);refine yI ?_;have j:=j.fv (s:=3) 1 [6,7];have j:=j.fv (s:=7) 2 [3,6];refine za ?_;cases h;exact fx
   rintro _ _ ⟨_,Q,R,W,X,Y,A,j⟩;have h:=e0;refine kB h λ i0 i3 h=>j.lK [1,8] [(3,1),(6,5),(7,2)] (λ j=>za ?_);exact fl h
  refine ch (yv (yv (xX ?_)));refine za ?_;cases lo h b7;exact fx
 rintro _ _ ⟨_,Q,R,W,X,Y,A,j⟩;have h:=d4;refine Kc<|Ka<|j.ie (s:=3) 1 [6] λ i4 j=>?_;refine j.nr (sb:=3) 1 [] [6] λ j=>?_;refine j.ie (s:=6) 5 [53] λ i5 j=>?_;refine j.iS (sb:=6) (tv:=53) 5 1 Pb (zt Z) [] [] λ j=>?_;have j:=j.gn;exact Kb<|za<|wp_ret<|j.LU 5 Z lU Z (λ _ h=>h) h
def qP(x0:eK)(x1:Tree)(x2:Int)(x3:Str)(x4:Int):Option (eK×Bool):=
(i64 (x0.clock+x4)).bind λ a9=>
(YD x0.dirs).bind λ b3=>
(Ye ⟨x1,a9,b3⟩ x2 x3).bind λ a8=>
(js a8).bind λ b5=>
 ite ((!b5)=true) (some (⟨jz,0,[]⟩,false))<|some (a8,true)
theorem HS{x1 x3 r}(h:qP x0 x1 x2 x3 x4=some r):Fn prog 143 [dt x0,dt x1,dt x2,dt x3,dt x4] (fZ [dt r.1,dt r.2]):=by
 refine fe 5 func143 λ M w0 _ j=>?_;refine Ka<|j.zg 2 λ j=>?_;refine j.fB 3 jc [2,3,4,5,6] [] λ b3 j=>?_;have j:=j.gn;refine j.zh 1 [(10,3)] (λ j=>Kb ?_);refine j.rX zP λ c6 _ hz6 j=>?_;refine j.me (i:=0) (j.fg (g:=31)) hz6 (tp Z) λ j=>?_;refine j.pV (i:=1) (j.fg (g:=31)) eK.gA oO (tp Z) (next:=@λ a8 j=>?_);refine j.me (i:=2) (j.fg (g:=31)) hz6 (tp Z) λ j=>?_;refine j.tM 3 4 (j.fg (g:=31)) λ _ j=>?_;refine kB h λ a9 b9 h=>j.AJ (op:=.add) (i:=4) (j.fg (g:=31)) (tp Z) (tp Z) b9 (next:=@λ a12 j=>?_);refine j.pV (i:=5) (j.fg (g:=31)) eK.iv WG (tp Z) (next:=@λ a14 j=>?_);refine j.me (i:=6) (j.fg (g:=31)) hz6 (tp Z) λ j=>?_;refine kB h λ b5 b6 h=>yP 1 1023 (λ a w=>∃ M1 R W X,Sx (eG.of w0) 31 M M1 [eA none,R,eA none,eA W,X] [(2,dt x2),(3,dt x3),(31,gx c6)] [(10,3,eY W 0 xc),(12,4,eH (Ow.box (fJ (Ow.eE (α:=Tree)) gP)) X ⟨xc⟩),(21,1,eH (fJ (Ow.eE (α:=Tree)) gP) R (⟨x1,a9,b5⟩:eK))] a w) ?_ λ n48=>?_
 .rintro _ _ ⟨_,R,W,X,j⟩
  refine fp 10 ?_;refine j.ie (s:=12) 4 [10,21] λ d3 j=>?_;refine j.iS (sb:=12) (tv:=21) 4 1 Pb (zt Z) [2,3,31] [10] λ j=>?_;have j:=j.gn;have j:=j.fv (s:=12) 4 [10];refine fC (j.fg (g:=31)) ?_;refine kG ?_;refine Ka<|j.ie (s:=12) 4 [10] λ d4 j=>?_;refine j.Ay (sb:=12) 4 2 lU [2,3] [10] λ _ H61 _ _ j=>?_;have j:=j.gn;refine j.zh 2 [(10,3),(12,4),(22,2)] λ j=>?_;refine kB h λ d5 c8 h=>j.cT (sb:=22) (l:=[.tmp 23,.tmp 24]) 2 (.cons T (.cons T .nil)) (U7 c8) [] [10,12] λ j=>?_;have j:=j.gn;refine j.D' (sb:=12) (tv:=25) 4 2 Z Z Z lU Z Z Z [] Z [10] Z Z Z λ _ _ j=>?_;have j:=j.gn;refine Kb<|kB h λ d6 d1 h=>j.ie (s:=12) 4 [10] λ d7 j=>?_;refine j.mF (s:=12) 4 true (λ _=>Pb) [10] λ cs71 hS71 j=>?_;refine j.zo [(10,3),(12,4)] (λ j=>?_) (hs:=sc Z (nK (sb:=12) (.head _) Z (hS71 Z) Z U Z)<|sc Z (yC (l:=[.tmp 26]) j.ob.sub Z (.cons (mw (sb:=12) j.ob 4 Pb (.head _) Z (QG Z (hS71 Z)) T Z) .nil) (XA.1 d1) jh)<|eI);have j:=j.gS (s:=12) 4 [10];refine j.cq h (λ h=>?_) λ h=>?_
  .refine Ka ?_
   refine j.zh 1 [(10,3)] (λ j=>?_) (hs:=sc Z (yf (parts:=[]) (ns:=[1,1,1]) (zs:=ZU) Z Z (λ w a hl=>by simp) (λ w a hl=>eK.parts (x:=(⟨jz,0,[]⟩:eK)) (xN _ _) ⟨Z,trivial⟩ yF))<|.nil);refine j.eW 10 3 eO.id (tp Z) [] [] λ j=>?_;refine j.zh 1 [(10,3)] (λ j=>Kb ?_);cases h;exact j.y2
  have j:=j.fv (s:=12) 4 [10];have j:=j.nq (s:=12) 4 [28] [10];refine Ka<|j.zh 1 [(10,3)] λ j=>?_;refine j.eW 10 3 eO.id (tp Z) [] [] λ j=>?_;refine j.zh 1 [(10,3)] (λ j=>Kb ?_);cases h;exact j.y2
 refine yP 2 511 (λ a w=>∃ M1 R W,Sx (eG.of w0) 31 M M1 [eA none,R,eA none,eA W,eA none] [(2,dt x2),(3,dt x3),(31,gx c6)] [(10,3,eY W 0 xc),(21,1,eH (fJ (Ow.eE (α:=Tree)) gP) R (⟨x1,a9,b5⟩:eK))] a w) ?_ λ n38=>?_
 .rintro _ _ ⟨_,R,W,j⟩
  refine fp 9 ?_;refine j.gZ (ow:=(fJ (Ow.eE (α:=Tree)) gP)) 4 (fJ.z xN Ow.gB) [2,3,31] [10,21] λ e0 _ _ _ j=>?_;have j:=j.gn;have j:=j.fv (s:=12) 4 [10,21];exact fQ n48 (j.fg (g:=31))
 refine yP 2 767 (λ a w=>∃ M1 Q W X,Sx (eG.of w0) 31 M M1 [Q,eA none,eA none,eA W,X] [(2,dt x2),(3,dt x3),(13,dt x1),(17,dt a9),(31,gx c6)] [(10,3,eY W 0 xc),(12,4,eH (Ow.box (fJ (Ow.eE (α:=Tree)) gP)) X ⟨xc⟩),(20,0,eH gP Q b5)] a w) ?_ λ n42=>?_
 .rintro _ _ ⟨_,Q,W,X,j⟩
  refine fp 8 ?_;refine j.lN (ow:=(fJ (Ow.eE (α:=Tree)) gP)) (parts:=[(0,.tmp 13),(1,.tmp 17),(2,.tmp 20)]) (ns:=[1,1,1]) (zs:=ZU) (x:=(⟨x1,a9,b5⟩:eK)) 1 [0] (FA ⟨by decide,ey.len (α:=Tree) (j.oc T)⟩ (FA ⟨by decide,ey.len (α:=Int) (j.oc T)⟩ (FA ⟨by decide,Ow.len _ (yy (j.st.has 20 _ Z))⟩ FN))) (((fJ (Ow.eE (α:=Tree)) gP)).more (fJ.mk (x:=(⟨x1,a9,b5⟩:eK)) (g0:=noB) (j.oc T) (j.oc T) (yy (j.st.has 20 _ Z)) (λ b h1=>(λ h2=>h1.elim))) (λ b=>(λ hb=>hb.elim (λ hb=>hb.elim) (λ hb=>⟨0,by simp,hb⟩)))) [2,3,31] [10,12] (@λ b7 _ _ j=>?_);have j:=j.gs (Gs':=[eA none,b7,eA none,eA W,X]);have j:=j.gs (Gs':=[eA none,b7,eA none,eA W,X]);exact fQ n48 (j.fg (g:=31))
 refine yP 3 255 (λ a w=>∃ M1 Q W,Sx (eG.of w0) 31 M M1 [Q,eA none,eA none,eA W,eA none] [(2,dt x2),(3,dt x3),(13,dt x1),(17,dt a9),(31,gx c6)] [(10,3,eY W 0 xc),(20,0,eH gP Q b5)] a w) ?_ λ n30=>?_
 .rintro _ _ ⟨_,Q,W,j⟩
  refine iU 8 9 ?_ ?_
  .refine j.lN (ow:=(fJ (Ow.eE (α:=Tree)) gP)) (parts:=[(0,.tmp 13),(1,.tmp 17),(2,.tmp 20)]) (ns:=[1,1,1]) (zs:=ZU) (x:=(⟨x1,a9,b5⟩:eK)) 1 [0] (FA ⟨by decide,ey.len (α:=Tree) (j.oc T)⟩ (FA ⟨by decide,ey.len (α:=Int) (j.oc T)⟩ (FA ⟨by decide,Ow.len _ (yy (j.st.has 20 _ Z))⟩ FN))) (((fJ (Ow.eE (α:=Tree)) gP)).more (fJ.mk (x:=(⟨x1,a9,b5⟩:eK)) (g0:=noB) (j.oc T) (j.oc T) (yy (j.st.has 20 _ Z)) (λ b h1=>(λ h2=>h1.elim))) (λ b=>(λ hb=>hb.elim (λ hb=>hb.elim) (λ hb=>⟨0,by simp,hb⟩)))) [2,3,31] [10] (@λ b8 _ _ j=>?_)
   have j:=j.gs (Gs':=[eA none,b8,eA none,eA W,eA none]);have j:=j.gs (Gs':=[eA none,b8,eA none,eA W,eA none]);exact fQ n38 (j.fg (g:=31))
  .refine j.gZ (ow:=(fJ (Ow.eE (α:=Tree)) gP)) 4 (fJ.z xN Ow.gB) [2,3,13,17,31] [10,20] λ e3 _ _ _ j=>?_
   have j:=j.gn;have j:=j.fv (s:=12) 4 [10,20];exact fQ n42 (j.fg (g:=31))
 refine yP 3 639 (λ a w=>∃ M1 W X,Sx (eG.of w0) 31 M M1 [eA none,eA none,eA none,eA W,X] [(2,dt x2),(3,dt x3),(13,dt x1),(17,dt a9),(19,dt x0.dirs),(31,gx c6)] [(10,3,eY W 0 xc),(12,4,eH (Ow.box (fJ (Ow.eE (α:=Tree)) gP)) X ⟨xc⟩)] a w) ?_ λ n34=>?_
 .rintro _ _ ⟨_,W,X,j⟩
  refine fp 7 ?_;refine j.cN (l:=[.tmp 19]) 0 (.cons T .nil) (J0 b6).n [2,3,13,17,31] [10,12] λ j=>?_;have j:=j.gn;exact fQ n42 (j.fg (g:=31))
 refine iU 7 9 ?_ ?_
 .refine j.cN (l:=[.tmp 19]) 0 (.cons T .nil) (J0 b6).n [2,3,13,17,31] [10] λ j=>?_
  have j:=j.gn;exact fQ n30 (j.fg (g:=31))
 .refine j.gZ (ow:=(fJ (Ow.eE (α:=Tree)) gP)) 4 (fJ.z xN Ow.gB) [2,3,13,17,19,31] [10] λ d2 _ _ _ j=>?_
  have j:=j.gn;have j:=j.fv (s:=12) 4 [10];exact fQ n34 (j.fg (g:=31))
def jK(x0:eK)(x1:File)(x2:Int):Option (eK×Bool):=
(js x0).bind λ v5=>
(gO ((!v5) == false) (yo x2 0 200)).bind λ v6=>
 ite (((!v5)||(!v6))=true) (some (⟨jz,0,[]⟩,false))<|(qO x0.tree x1).bind λ a8=>
 ite ((!a8.2)=true) (some (⟨jz,0,[]⟩,false))<|(qP x0 a8.1 x1.root x1.pkg x2).bind λ a9=>
 some (a9.1,a9.2)
instance:ky prog 97 dt dt dt (λ r=>fZ [dt r.1,dt r.2]) jK:=⟨@λ x0 x1 x2 r h=>by
 unfold jK at h;refine Bo (fn:=f97) 2 func97 Z (oD Z) Z (λ M _ _ j=>Kc ?_);refine Ka<|j.segA 2 [2,3,4] [] λ j=>?_;refine j.fB 0 jc [2,3,4] [] λ b3 j=>?_;refine j.segA 1 [2,3,4] [(6,0)] (λ j=>Kb ?_);refine za<|Kc<|Kx h λ v5 p5 v6 p6 h=>j.kL (sP 1 (r:=by exact sc Z (oK (XA.1 p5))<|sP 3 (r:=by exact sg Z Z (λ hg=>oK (yK.1 (gh hg p6)))<|lF))) [2,3,4,17] [(6,0)] λ j=>?_;refine j.cs h (λ _ h=>?_) λ _ h=>?_
 .refine Kc ?_
  refine Ka<|j.fN 1 (sc Z (yf (parts:=[]) (ns:=[1,1,1]) (zs:=ZU) Z Z (λ w a hl=>by simp) (λ w a hl=>eK.parts (x:=(⟨jz,0,[]⟩:eK)) (xN _ _) ⟨Z,trivial⟩ yF))<|.nil) [18] [(6,0)] λ j=>?_;refine j.eW 6 0 eO.id (tp Z) [] [] λ j=>?_;refine j.segA 1 [7] [(6,0)] (λ j=>Kb ?_);refine za<|wp_ret (zS ?_);cases h;exact j.y2
 refine az ?_;refine za<|Kc<|Ka ?_;obtain⟨a8,a9,h⟩:=mh h HR.1;refine j.segA 7 [2,3,4,24,25] [(6,0)] λ j=>?_;refine j.fB 1 xN [2,3,4,24,25] [6] λ b5 j=>?_;refine j.eW 8 1 eO.id (tp Z) [2,3,4,25] [6] λ j=>?_;refine j.segA 1 [2,3,4,9] [(6,0),(8,1)] (λ j=>Kb ?_);refine za<|Kc<|j.iR [2,3,4,27] [(6,0),(8,1)] λ j=>?_;refine j.cs h (λ _ h=>?_) λ _ h=>?_
 .refine Kc ?_
  refine Ka<|j.fN 1 (sc Z (yf (parts:=[]) (ns:=[1,1,1]) (zs:=ZU) Z Z (λ w a hl=>by simp) (λ w a hl=>eK.parts (x:=(⟨jz,0,[]⟩:eK)) (xN _ _) ⟨Z,trivial⟩ yF))<|.nil) [28] [(6,0)] λ j=>?_;refine j.eW 6 0 eO.id (tp Z) [] [] λ j=>?_;refine j.segA 1 [7] [(6,0)] (λ j=>Kb ?_);refine za<|wp_ret (zS ?_);cases h;exact j.y2
 refine az ?_;refine za<|Kc<|Ka ?_;obtain⟨b6,b7,h⟩:=mh h HS;refine j.segC 10 [37,38] [(6,0)] λ j=>?_;refine j.eW 6 0 eO.id (tp Z) [38] [] λ j=>?_;refine j.segA 1 [7] [(6,0)] (λ j=>Kb ?_);refine za<|wp_ret ?_;cases h;exact j.y2⟩
def wF(x0:Tree)(x1:Int):Option (Tree×Bool):=
(yn x0).bind λ v6=>
(gO ((!v6) == false) (i64 (x0.files.length - 1))).bind λ v7=>
(gO ((!v6) == false) (yo x1 0 v7)).bind λ v8=>
 ite (((!v6)||(!v8))=true) (some (⟨[]⟩,false))<|(qZ x0).bind λ a8=>
(W1 a8.files x1).bind λ b3=>
(i64 (x1+1)).bind λ a9=>
(mQ a8.files a9).bind λ b5=>
 some (⟨((mL a8.files x1.toNat a9.toNat).take (x1.toNat+(a8.files.length - a9.toNat)))⟩,true)
instance:fY prog 144 dt dt (λ r=>fZ [dt r.1,dt r.2]) wF:=⟨@λ x0 x1 r h=>by
 refine fe 5 func144 λ M _ _ y=>?_;refine Ka<|y.zg 1 λ y=>?_;refine y.fB 3 xN [1,2] [] λ b3 y=>?_;have y:=y.gn;refine y.zh 1 [(4,3)] (λ y=>Kb ?_);refine Kx h λ v6 p6 v7 p7 h=>kB h λ v8 p8 h=>y.zd [(4,3)] h (λ y h=>?_) (λ y h=>?_) (hs:=sZ 1 (r:=by exact sc Z (oK (qn p6))<|sZ 6 (r:=by exact sg Z Z (λ hg=>lX Z V cI (gh hg p7))<|sg Z Z (λ hg=>oK (yK.1 (gh hg p8)))<|eI)))
 .refine Ka ?_
  refine y.zh 1 [(4,3)] (λ y=>?_) (hs:=sc Z (yf (parts:=[]) (ns:=[1]) (zs:=Qz) Z Z (λ w a hl=>by simp) (λ w a hl=>Tree.parts (x:=(⟨[]⟩:Tree)) yF))<|.nil);refine y.eW 4 3 eO.id (tp Z) [] [] λ y=>?_;refine y.zh 1 [(4,3)] (λ y=>Kb ?_);cases h;exact y.y2
 refine Ka<|y.zh 1 [(4,3)] λ y=>?_;refine kB h λ b9 b5 h=>y.cN (l:=[.tmp 20]) 0 (.cons T .nil) (JZ b5) [1] [4] λ y=>?_;have y:=y.gn;refine y.gZ (ow:=(fV (Ow.row 45 (Ow.eE (α:=File))))) 4 (fV.z Ow.gB) [1] [4,21] λ c8 _ _ _ y=>?_;have y:=y.gn;refine y.iS (sb:=6) (tv:=21) 4 0 Pb (zt Z) [1] [4] λ y=>?_;have y:=y.gn;refine Kb<|Kx h λ d1 a8 b6 b7 h=>kB h λ d2 a9 h=>y.fL 6 4 (Pb.eD fV.f0) [4] λ d3 d4 _ b8 y=>?_;refine y.rU (D:=[_,_,_,_,_,_,_,_,_]) zP 9 [[(6,nS)],[(22,0),(6,nS)],[(1,nS)],[(23,1),(24,2),(6,nS)],[(6,nS)],[(26,4),(6,nS)],[(1,nS)],[(28,6)],[(27,5),(29,7),(6,nS)],[(25,3),(30,8)],[(6,nS)],[(32,10),(31,9)]] [25,30] [(4,3),(6,4)] (λ _ _ y=>?_) (hs:=rc Z Z (eV Z qI U)<|
  rc Z Z (fS (sb:=6) (.head _) Z Z Z T Z)<|
  rc Z Z (oM Z T)<|
  rc Z Z (T9 (sb:=6) (Pb.eD fV.f0) (.head _) Z Z Z rk T T a8)<|
  rc Z Z (eV Z qI U)<|
  rc Z Z (fS (sb:=6) (.head _) Z Z Z T Z)<|
  rc Z Z (oM Z T)<|
  rc Z Z (lX Z T cI b7)<|
  rc Z Z (T' (sb:=6) (Pb.eD fV.f0) (.head _) Z Z Z rk T T a9)<|.nil)
 refine y.K4 (sb:=6) (i:=x1) (j:=b6) 4 (Pb.eD fV.f0) (.head _) Z Z Z OU Z (λ _ h=>h) (tp Z) (tp Z) a8 a9 (ab (by first | omega | exact Gb (by assumption))) [] rfl [4] rfl rfl λ _ _ y=>?_;refine y.zh 1 [(4,3),(6,4)] (λ y=>?_) (hs:=sc Z (eV Z qI U)<|.nil);refine y.L7 (sb:=6) 4 (Pb.eD fV.f0) (.head _) Z Z Z Z BP Z (λ _ h=>h) (tp Z) (tp Z) (Nt a8 a9 (ab (by first | omega | exact Gb (by assumption)))) [] rfl [4] rfl rfl (λ _ y=>Kb ?_);have y:=y.fv (s:=6) 4 [4];have y:=y.nq (s:=6) 4 [] [4];refine Ka<|y.zh 1 [(4,3)] λ y=>?_;refine y.eW 4 3 eO.id (tp Z) [] [] λ y=>?_;refine y.zh 1 [(4,3)] (λ y=>Kb ?_);cases h;exact y.y2⟩
def wG(x0:eK)(x1:Int)(x2:Int):Option (eK×Bool):=
(js x0).bind λ v5=>
(gO ((!v5) == false) (yo x2 0 200)).bind λ v6=>
 ite (((!v5)||(!v6))=true) (some (⟨jz,0,[]⟩,false))<|(wF x0.tree x1).bind λ a8=>
 ite ((!a8.2)=true) (some (⟨jz,0,[]⟩,false))<|(eN x0.tree.files x1).bind λ b3=>
(eN x0.tree.files x1).bind λ b5=>
(qP x0 a8.1 b3.root b5.pkg x2).bind λ a9=>
 some (a9.1,a9.2)
instance:ky prog 98 dt dt dt (λ r=>fZ [dt r.1,dt r.2]) wG:=⟨@λ x0 x1 x2 r h=>by
 refine fe 2 func98 λ M _ _ j=>?_;refine Ka<|j.zg 1 λ j=>?_;refine j.fB 0 jc [1,2,3] [] λ b3 j=>?_;refine j.zh 1 [(6,0)] (λ j=>Kb ?_);refine Kx h λ v5 p5 v6 p6 h=>j.zd [(6,0)] h (λ j h=>?_) (λ j h=>?_) (hs:=sZ 1 (r:=by exact sc Z (oK (XA.1 p5))<|sZ 3 (r:=by exact sg Z Z (λ hg=>oK (yK.1 (gh hg p6)))<|eI)))
 .refine Ka ?_
  refine j.zh 1 [(6,0)] (λ j=>?_) (hs:=sc Z (yf (parts:=[]) (ns:=[1,1,1]) (zs:=ZU) Z Z (λ w a hl=>by simp) (λ w a hl=>eK.parts (x:=(⟨jz,0,[]⟩:eK)) (xN _ _) ⟨Z,trivial⟩ yF))<|.nil);refine j.eW 6 0 eO.id (tp Z) [] [] λ j=>?_;refine j.zh 1 [(6,0)] (λ j=>Kb ?_);cases h;exact j.y2
 refine Ka<|kB h λ b6 b7 h=>j.zh 7 [(6,0)] λ j=>?_;refine j.fB 1 xN [1,2,3,24,25] [6] λ b8 j=>?_;refine j.eW 8 1 eO.id (tp Z) [1,2,3,25] [6] λ j=>?_;refine j.zh 1 [(6,0),(8,1)] (λ j=>Kb ?_);refine j.zd [(6,0),(8,1)] h (λ j h=>?_) λ j h=>?_
 .refine Ka ?_
  refine j.zh 1 [(6,0)] (λ j=>?_) (hs:=sc Z (yf (parts:=[]) (ns:=[1,1,1]) (zs:=ZU) Z Z (λ w a hl=>by simp) (λ w a hl=>eK.parts (x:=(⟨jz,0,[]⟩:eK)) (xN _ _) ⟨Z,trivial⟩ yF))<|.nil);refine j.eW 6 0 eO.id (tp Z) [] [] λ j=>?_;refine j.zh 1 [(6,0)] (λ j=>Kb ?_);cases h;exact j.y2
 refine Kx h λ b9 a8 c8 a9 h=>kB h λ d1 b5 h=>j.zu 20 [(6,0)] (λ j=>?_) (hs:=sw Z (zG Z T)<|sw Z (yV Z T)<|sw Z (zI eK.gD Z T)<|sw Z (zI Tree.gD Z (ht:=qI) T)<|sw Z (zG Z T)<|sw Z (oM Z T)<|sw Z (xIdx Z T T a8)<|sw Z (zI File.gD Z (ht:=rS) T)<|sw Z (zG Z T)<|sw Z (zI eK.gD Z T)<|sw Z (zI Tree.gD Z (ht:=qI) T)<|sw Z (zG Z T)<|sw Z (oM Z T)<|sw Z (xIdx Z T T a9)<|sw Z (zI File.gA Z T)<|sw Z (zG Z T)<|sw Z (oM Z T)<|sw Z (zy (l:=[.tmp 29,.tmp 30,.tmp 37,.tmp 44,.tmp 45]) Z (.cons T (.cons T (.cons T (.cons T (.cons T .nil))))) (HS b5))<|sw Z (sW (i:=0) Z T Z)<|sw Z (sW (i:=1) Z T Z)<|.nil);refine j.store (sb:=6) 0 eO.id Z Z Z lU Z Z (tp Z) Z [48] Z [] Z Z λ _ _ j=>?_;refine j.zh 1 [(6,0)] (λ j=>Kb ?_);cases h;exact j.y2⟩
def YE(x0:Tree)(x1:Int)(x2:Int)(x3:List Stmt):Option (Tree×Bool):=
(yn x0).bind λ v6=>
(gO ((!v6) == false) (i64 (x0.files.length - 1))).bind λ v7=>
(gO ((!v6) == false) (yo x1 0 v7)).bind λ v8=>
(gO (((!v6)||(!v8)) == false) (yo x2 0 99)).bind λ v9=>
(gO ((((!v6)||(!v8))||(!v9)) == false) (y9 x3)).bind λ a9=>
 ite (((((!v6)||(!v8))||(!v9))||(!a9))=true) (some (⟨[]⟩,false))<|(qZ x0).bind λ a8=>
(eN a8.files x1).bind λ b3=>
(fE 56 [] x3).bind λ b5=>
 some (⟨(a8.files.set x1.toNat {b3 with stamp:=x2,body:=b5})⟩,true)
instance HV:od prog 99 dt dt dt dt (λ r=>fZ [dt r.1,dt r.2]) YE:=⟨@λ x0 x1 x2 x3 r h=>by
 refine fe 6 func99 λ M _ _ j=>?_;refine Ka<|j.zg 1 λ j=>?_;refine j.fB 4 xN [1,2,3,4] [] λ b3 j=>?_;have j:=j.gn;refine j.zh 1 [(8,4)] (λ j=>Kb ?_);refine Kx h λ v6 p6 v7 p7 h=>Kx h λ v8 p8 v9 p9 h=>kB h λ d5 b7 h=>j.zd [(8,4)] h (λ j h=>?_) (λ j h=>?_) (hs:=sZ 1 (r:=by exact sc Z (oK (qn p6))<|sZ 6 (r:=by exact sg Z Z (λ hg=>lX Z V cI (gh hg p7))<|sg Z Z (λ hg=>oK (yK.1 (gh hg p8)))<|sZ 4 (r:=by exact sg Z Z (λ hg=>oK (yK.1 (gh hg p9)))<|sZ 4 (r:=by exact sg Z Z (λ hg=>oK (Ji.1 (gh hg b7)))<|eI)))))
 .refine Ka ?_
  refine j.zh 1 [(8,4)] (λ j=>?_) (hs:=sc Z (yf (parts:=[]) (ns:=[1]) (zs:=Qz) Z Z (λ w a hl=>by simp) (λ w a hl=>Tree.parts (x:=(⟨[]⟩:Tree)) yF))<|.nil);refine j.eW 8 4 eO.id (tp Z) [] [] λ j=>?_;refine j.zh 1 [(8,4)] (λ j=>Kb ?_);cases h;exact j.y2
 refine Ka<|j.zh 1 [(8,4)] λ j=>?_;refine kB h λ b6 b8 h=>j.cN (l:=[.tmp 34]) 0 (.cons T .nil) (JZ b8) [1,2,3] [8] λ j=>?_;have j:=j.gn;refine j.gZ (ow:=(fV (Ow.row 45 (Ow.eE (α:=File))))) 5 (fV.z Ow.gB) [1,2,3] [8,35] λ b9 _ _ _ j=>?_;have j:=j.gn;refine j.iS (sb:=10) (tv:=35) 5 0 Pb (zt Z) [1,2,3] [8] λ j=>?_;have j:=j.gn;refine Kb<|Ka<|kB h λ c8 b5 h=>j.fL 10 5 (Pb.eD fV.f0) [8] λ d1 d6 _ a8 j=>?_;refine j.zh 6 [(8,4),(10,5)] (λ j=>?_) (hs:=sc Z (eV Z qI U)<|sc Z (fS (sb:=10) (.head _) Z Z Z T Z)<|sZ 2 (r:=by exact sc Z (gJ (g:=d1) Z rk T T Z (λ h=>a8 h Z) b5)<|eI));refine j.gX 10 5 (((Pb.eD fV.f0).row (.head _) Z (λ h=>a8 h Z) b5).eD File.z4) (tp Z) (tp Z) [1,3] [8] (λ j=>Kb ?_);refine j.fL 10 5 (Pb.eD fV.f0) [8] λ d7 d2 d3 a9 j=>?_;refine j.held (λ w=>w.cell? ⟨b9,0,none⟩=some (.slice d2 ((b6.files.set x1.toNat {c8 with stamp:=x2}).length) d3)) zP λ _ j=>?_;refine j.tk (i:=0) Z Z (by decide +kernel) (by decide +kernel) (by decide +kernel) (λ _ _ _ h=>h) (j.kD (sb:=10) (.head _)) (mo Z qI (j.st.has 10 _ Z).1) λ _ j=>?_;refine j.tk (i:=1) Z Z (by decide +kernel) (by decide +kernel) (by decide +kernel) (λ _ _ _ h=>h) (j.kD (sb:=10) (.head _)) (pC Z BP (j.st.has 42 _ Z) (λ _ h=>h)) λ _ j=>?_;refine j.tM 2 1 (j.kD (sb:=10) (.head _)) λ _ j=>?_;refine j.tM 4 3 (j.kD (sb:=10) (.head _)) λ _ j=>?_;refine j.tZ (s:=43) (sb:=10) 5 2 (Pb.eD fV.f0) (.head _) Z (zR Z Z) Z Z (by simp) (by simp) (by decide) Z (λ _ h=>h) [1,3,42,44,46] Z [8] Z Z Z Z (by decide) λ _ H43 j=>?_;refine kB h λ e0 d4 h=>fp 3 ?_;refine j.zh 1 [(8,4),(10,5),(43,2),(45,3)] (λ j=>?_) (hs:=sc Z (xj (α:=Stmt) (e:=109) Z)<|.nil);refine fC (j.ir (sb:=10)) ?_;refine fp 5 ?_;refine j.ic 3 yW d4 [44] [8,10,43] λ e3 j=>?_;have j:=j.gn;refine fC (j.ir (sb:=10)) ?_;refine fp 6 ?_;refine j.zh 1 [(8,4),(10,5),(43,2),(47,3)] (λ j=>?_) (hs:=sc Z (kk Z rk Z T (λ h=>a9 h Z) (xu b5))<|.nil);refine fC (j.ir (sb:=10)) ?_;refine fp 7 ?_;refine j.zh 1 [(8,4),(10,5),(43,2),(47,3)] λ j=>?_;refine fC (j.ir (sb:=10)) ?_;refine fp 8 ?_;have j:=j.eE 3 (s:=47) Z Z [49] Z [8,10,43] Z;refine j.gX 43 2 (((PV.root.row Z (λ h=>a9 h Z) (xu b5)).conv (upd':=λ z=>(b6.files.set x1.toNat z)) (λ _=>by simp only[bj])).eD File.z5) (tp Z) (tp Z) [] [8,10] λ j=>?_;have j:=j.gn;refine fC (j.ir (sb:=10)) ?_;refine kG ?_;refine j.pb (s:=43) (sb:=10) 5 2 Z (by simp) (by simp) (by decide) Z Z (λ _ h=>h) (λ _ h=>h) [] Z [8] Z Z Z λ _ j=>?_;have j:=j.gn;have j:=j.fv (s:=10) 5 [8];have j:=j.nq (s:=10) 5 [] [8];refine Ka<|j.zh 1 [(8,4)] λ j=>?_;refine j.eW 8 4 eO.id (tp Z) [] [] λ j=>?_;refine j.zh 1 [(8,4)] (λ j=>Kb ?_);cases h;exact j.y2⟩
def jD(x0:eK)(x1:GAct)(x2:Int):Option (eK×Bool):=
 ite (ez .eql x1.kind 0) ((jW x1.file).bind λ v9=>
(i64 (x0.clock+x2)).bind λ a8=>
(jK x0 ({ v9 with stamp:=(if a8<99 then a8 else(99:Int)) }) x2).bind λ a9=>
 some (a9.1,a9.2))<|ite (ez .eql x1.kind 1) ((wG x0 x1.index x2).bind λ b3=>
 some (b3.1,b3.2))<|(i64 (x0.clock+x2)).bind λ b5=>
(YE x0.tree x1.index (if b5<99 then b5 else(99:Int)) x1.file.body).bind λ b6=>
 ite ((!b6.2)=true) (some (⟨jz,0,[]⟩,false))<|(i64 (x0.clock+x2)).bind λ b7=>
(YD x0.dirs).bind λ b8=>
 some (⟨b6.1,b7,b8⟩,true)
instance Ix:ky prog 62 dt dt dt (λ r=>fZ [dt r.1,dt r.2]) jD:=⟨@λ x0 x1 x2 r h=>by
 refine fe 3 func62 λ M _ _ j=>?_;refine Ka<|j.zg 2 λ j=>?_;refine j.fB 0 jc [2,3,4] [] λ b3 j=>?_;refine j.zh 1 [(6,0)] (λ j=>Kb ?_);refine j.zo [(6,0)] λ j=>?_;refine j.zd [(6,0)] h (λ j h=>?_) λ j h=>?_
 .refine Ka ?_
  refine kB h λ v9 p9 h=>j.zh 3 [(6,0)] λ j=>?_;refine j.fB 1 JU [2,3,17] [6] λ b5 j=>?_;refine j.eW 8 1 eO.id (tp Z) [2,3] [6] (λ j=>Kb ?_);refine Ka<|kB h λ b6 b7 h=>j.zh 6 [(6,0),(8,1),(23,1)] (λ j=>?_) (hs:=sZ 4 (r:=by exact sc Z (oF Z cI T)<|eI));refine j.eW 8 1 File.sk (tp Z) [2,3] [6] (λ j=>Kb ?_);refine Ka<|kB h λ b8 b9 h=>j.zh 6 [(6,0)] λ j=>?_;refine j.eW 6 0 eO.id (tp Z) [29] [] λ j=>?_;refine j.zh 1 [(6,0)] (λ j=>Kb ?_);cases h;exact j.y2
 refine j.zd [(6,0)] h (λ j h=>?_) λ j h=>?_
 .refine Ka ?_
  refine kB h λ c8 d1 h=>j.zh 7 [(6,0)] λ j=>?_;refine j.eW 6 0 eO.id (tp Z) [38] [] λ j=>?_;refine j.zh 1 [(6,0)] (λ j=>Kb ?_);cases h;exact j.y2
 refine Ka<|Kx h λ d2 d3 d4 a8 h=>j.zh 16 [(6,0)] (λ j=>?_) (hs:=sZ 8 (r:=by exact sc Z (oF Z cI T)<|sZ 3 (r:=by exact sc Z (oK (HV.1 a8))<|eI)));refine j.fB 2 xN [2,3,53,54] [6] λ d5 j=>?_;refine j.eW 9 2 eO.id (tp Z) [2,3,54] [6] λ j=>?_;refine j.zh 1 [(6,0),(9,2)] (λ j=>Kb ?_);refine j.zd [(6,0),(9,2)] h (λ j h=>?_) λ j h=>?_
 .refine Ka ?_
  refine j.zh 1 [(6,0)] (λ j=>?_) (hs:=sc Z (yf (parts:=[]) (ns:=[1,1,1]) (zs:=ZU) Z Z (λ w a hl=>by simp) (λ w a hl=>eK.parts (x:=(⟨jz,0,[]⟩:eK)) (xN _ _) ⟨Z,trivial⟩ yF))<|.nil);refine j.eW 6 0 eO.id (tp Z) [] [] λ j=>?_;refine j.zh 1 [(6,0)] (λ j=>Kb ?_);cases h;exact j.y2
 refine Kx h λ d6 d7 e0 a9 h=>j.zu 9 [(6,0)] (λ j=>?_) (hs:=sV 7 (r:=by exact sw Z (zy (l:=[.tmp 64]) Z (.cons T .nil) ((J0 a9)).fn)<|sw Z (vG Z T T T)<|.nil));refine j.store (sb:=6) 0 eO.id Z Z Z lU Z Z (tp Z) Z [] Z [] Z Z λ _ _ j=>?_;refine j.zh 1 [(6,0)] (λ j=>Kb ?_);cases h;exact j.y2⟩
theorem PA:gb prog 250=true:=by kernel_rfl
def qz(x0:List Stmt)(s5:Int×Int):Option ((Int×Int)⊕Int):=
 ite ((ez .lss s5.2 x0.length)=true) ((i64 (s5.1+3)).bind λ a8=>
(eN x0 s5.2).bind λ a9=>
(i64 (a8+a9.module.l.length)).bind λ b3=>
(eN x0 s5.2).bind λ b5=>
(i64 (b3+b5.name.l.length)).bind λ b6=>
(i64 (s5.2+1)).bind λ b7=>
 some (.inl (b6,b7)))<|some (.inr s5.1)
def YR(x0:List Stmt):Option Int:=
 Option.bind (zE (λ s5=>qz x0 s5) (0,0)) λ o3=>
 some o3
instance CH:gC prog 210 dt dt YR:=⟨@λ x0 r h=>by
 refine fe 0 func210 λ M w0 _ j=>?_;refine j.z1 λ j=>?_;refine j.z1 (λ j=>za ?_);refine j.jm [] (λ o3=>[(3,dt o3)]) h (λ o3 p3=>?_) λ o3 _ _ j h=>?_
 .refine j.z1 λ j=>?_
  refine gk p3 (λ s5 a w=>Sx (eG.of w0) 28 M M [] [(0,dt x0),(3,dt s5.1),(4,dt s5.2)] [] a w) (j.kv [0,3,4]) ?_;rintro s5 z5 _ _ j h hx5;refine j.zc h (λ j h=>?_) λ j h=>?_
  .have⟨b7,a8,h⟩:=bs h
   refine Kx h λ b8 a9 b9 b3 h=>Kx h λ c8 b5 d1 b6 h=>j.pQ (D:=[_,_,_,_,_,_,_,_,_,_,_,_,_,_,_,_,_]) zP [[(3,nS)],[(11,0)],[(0,nS)],[(4,nS)],[(13,2),(14,3)],[(15,4)],[(16,5)],[(17,6)],[(12,1),(18,7)],[(0,nS)],[(4,nS)],[(20,9),(21,10)],[(22,11)],[(23,12)],[(24,13)],[(19,8),(25,14)],[(26,15)]] [0,3,4] [] (λ j=>?_) (hs:=rc Z Z (oM Z T)<|
     rc Z Z (lX Z T cI a8)<|
     rc Z Z (oM Z T)<|
     rc Z Z (oM Z T)<|
     rc Z Z (xIdx Z T T a9)<|
     rc Z Z (zI Stmt.gA Z T)<|
     rc Z Z (zG Z T)<|
     rc Z Z (rG Z T)<|
     rc Z Z (lX Z T T b3)<|
     rc Z Z (oM Z T)<|
     rc Z Z (oM Z T)<|
     rc Z Z (xIdx Z T T b5)<|
     rc Z Z (zI Stmt.iM Z (ht:=tK) T)<|
     rc Z Z (zG Z T)<|
     rc Z Z (rG Z T)<|
     rc Z Z (lX Z T T b6)<|
     rc Z Z (oA Z T)<|.nil)
   exact kB h λ d2 d3 h=>j.zn [] h
  cases lo h hx5;exact fz
 exact j.ze h⟩
def qb(x0:Int)(x1:Int):Option Int:=
(i64 (x0*131)).bind λ v2=>
(i64 (v2+x1)).bind λ v3=>
(i64 (v3+1)).bind λ v4=>
(pv v4 1000003).bind λ v5=>
 some v5
instance WK:fY prog 226 dt dt dt qb:=⟨@λ x0 x1 r h=>by
 refine fe 0 func226 λ M _ _ j=>?_;refine j.z1 λ j=>?_;exact Kx h λ v2 p2 v3 p3 h=>Kx h λ v4 p4 v5 p5 h=>j.ze h (hs:=sZ 5 (r:=by exact sc Z (vC Z T cI p5)<|eI))⟩
def wW(x1:Str)(s4:Int×Int):Option ((Int×Int)⊕Int):=
 ite ((ez .lss s4.2 x1.l.length)=true) ((eN x1.l s4.2).bind λ v9=>
(qb s4.1 v9.toNat).bind λ a8=>
(i64 (s4.2+1)).bind λ a9=>
 some (.inl (a8,a9)))<|some (.inr s4.1)
def qA(x0:Int)(x1:Str):Option Int:=
 Option.bind (zE (λ s4=>wW x1 s4) (x0,0)) λ o2=>
(qb o2 0).bind λ a8=>
 some a8
instance Jj:fY prog 227 dt dt dt qA:=⟨@λ x0 x1 r h=>by
 refine fe 0 func227 λ M w0 _ j=>?_;refine j.z1 (λ j=>za ?_);refine j.jm [] (λ o2=>[(0,dt o2)]) h (λ o2 p2=>?_) λ o2 _ _ j h=>?_
 .refine j.z1 λ j=>?_
  refine gk p2 (λ s4 a w=>Sx (eG.of w0) 20 M M [] [(0,dt s4.1),(1,dt x1),(5,dt s4.2)] [] a w) (j.kv [0,1,5]) ?_;rintro s4 z4 _ _ j h hx4;refine j.zc h (λ j h=>?_) λ j h=>?_
  .have⟨v9,p9,h⟩:=bs h
   refine kB h λ a9 a8 h=>j.z1 (λ j=>?_) (hs:=sZ 4 (r:=by exact sc Z (Ht Z FD T)<|sc Z (oK (WK.1 a8))<|eI));exact kB h λ b3 b5 h=>j.zn [] h
  cases lo h hx4;exact fz
 exact kB h λ b6 b7 h=>j.ze h⟩
def qB(x0:List Stmt)(s5:Int×Int):Option ((Int×Int)⊕Int):=
 ite ((ez .lss s5.2 x0.length)=true) ((eN x0 s5.2).bind λ a8=>
(qb s5.1 a8.kind).bind λ a9=>
(qb a9 a8.level).bind λ b3=>
(qb b3 a8.value).bind λ b5=>
(qA b5 a8.module).bind λ b6=>
(qA b6 a8.name).bind λ b7=>
(i64 (s5.2+1)).bind λ b8=>
 some (.inl (b7,b8)))<|some (.inr s5.1)
def YS(x0:List Stmt):Option Int:=
 Option.bind (zE (λ s5=>qB x0 s5) (1,0)) λ o3=>
 some o3
instance Iy:gC prog 211 dt dt YS:=⟨@λ x0 r h=>by
 refine fe 1 func211 λ M w0 _ j=>?_;refine j.z1 λ j=>?_;refine j.z1 (λ j=>za ?_);refine j.kJ 1 [] (λ o3=>[(3,dt o3)]) (λ _ _=>[]) h (λ o3 p3=>?_) λ o3 q3 _ _ _ j h=>?_
 .refine j.z1 λ j=>?_
  refine gk p3 (λ s5 a w=>∃ M1 Q,Sx (eG.of w0) 34 M M1 [eA Q] [(0,dt x0),(3,dt s5.1),(4,dt s5.2)] [] a w) fx ?_;rintro s5 z5 _ _ ⟨_,Q,j⟩ h hx5;refine j.zc h (λ j h=>?_) λ j h=>?_
  .refine Ka ?_
   refine kB h λ b7 b8 h=>j.zg 4 λ j=>?_;refine j.fB 0 nQ [0,3,4,15] [] λ b9 j=>?_;refine j.eW 5 0 eO.id (tp Z) [0,3,4] [] (λ j=>Kb ?_);refine Kx h λ c8 a8 d1 a9 h=>kB h λ d2 b3 h=>j.pQ (D:=[_,_,_,_,_,_,_,_,_,_,_]) zP [[(3,nS)],[(5,nS)],[(17,1)],[(16,0),(18,2)],[(5,nS)],[(20,4)],[(19,3),(21,5)],[(5,nS)],[(23,7)],[(22,6),(24,8)],[(25,9)]] [0,3,4] [(5,0)] (λ j=>?_) (hs:=rc Z Z (oM Z T)<|
     rc Z Z (jH Stmt.gD Z T)<|
     rc Z Z (yV Z T)<|
     rc Z Z (zy (l:=[.tmp 16,.tmp 18]) Z (.cons T (.cons T .nil)) (WK.1 a8))<|
     rc Z Z (jH Stmt.iv Z T)<|
     rc Z Z (yV Z T)<|
     rc Z Z (zy (l:=[.tmp 19,.tmp 21]) Z (.cons T (.cons T .nil)) (WK.1 a9))<|
     rc Z Z (jH Stmt.ls Z T)<|
     rc Z Z (yV Z T)<|
     rc Z Z (zy (l:=[.tmp 22,.tmp 24]) Z (.cons T (.cons T .nil)) (WK.1 b3))<|
     rc Z Z (oA Z T)<|.nil)
   refine Kx h λ d3 b5 d4 b6 h=>j.pQ (D:=[_,_,_,_,_,_,_,_]) zP [[(3,nS)],[(5,nS)],[(27,1)],[(26,0),(28,2)],[(5,nS)],[(30,4)],[(29,3),(31,5)],[(32,6)]] [0,3,4] [] (λ j=>?_) (hs:=rc Z Z (oM Z T)<|
     rc Z Z (jH Stmt.gA Z T)<|
     rc Z Z (yV Z T)<|
     rc Z Z (zy (l:=[.tmp 26,.tmp 28]) Z (.cons T (.cons T .nil)) (Jj.1 b5))<|
     rc Z Z (jH Stmt.iM Z (ht:=tK) T)<|
     rc Z Z (yV Z T)<|
     rc Z Z (zy (l:=[.tmp 29,.tmp 31]) Z (.cons T (.cons T .nil)) (Jj.1 b6))<|
     rc Z Z (oA Z T)<|.nil)
   exact kB h λ d5 d6 h=>j.zn [] h
  cases lo h hx5;exact fz
 exact j.ze h⟩
def XY(x0:eU)(x1:File):Option Bool:=
 ite (ez .eql x0.mode 0) ((gO (ez .eql x0.stamp x1.stamp == true) (YR x1.body)).bind λ v6=>
 some (ez .eql x0.stamp x1.stamp&&ez .eql x0.size v6))<|ite (ez .eql x0.mode 1) ((YS x1.body).bind λ a8=>
 some (ez .eql x0.hash a8))<|some true
instance IB:fY prog 190 dt dt dt XY:=⟨@λ x0 x1 r h=>by
 refine fe 0 func190 λ M _ _ j=>?_;refine j.z1 λ j=>?_;refine j.z1 λ j=>?_;refine j.zc h (λ j h=>?_) λ j h=>?_
 .have⟨v6,p6,h⟩:=bs h
  refine j.zw (λ j=>?_) (hs:=sV 4 (r:=by exact sw Z (gU Z T T)<|sV 5 (r:=by exact gW Z Z (λ hg=>zy (l:=[.tmp 18]) Z (.cons V .nil) (CH.1 (gh hg p6)))<|gW Z Z (λ hg=>gU Z V V)<|sw Z (xd Z T T)<|sw Z (oA Z T)<|.nil)));exact j.ret Z Z h
 refine j.zc h (λ j h=>?_) λ j h=>?_
 .have⟨a8,a9,h⟩:=bs h
  refine j.zw λ j=>?_;exact j.ret Z Z h
 exact j.ze h⟩
def wx(x0:List eU)(x1:Int)(x2:Str)(x3:Bool)(s4:Int):Option (Int⊕(Unit⊕Int)):=
 ite ((ez .lss s4 x0.length)=true) ((eN x0 s4).bind λ v9=>
(gO (ez .eql v9.root x1 == true) (eN x0 s4)).bind λ a8=>
(gO ((ez .eql v9.root x1&&decide (a8.module=x2)) == true) (eN x0 s4)).bind λ a9=>
 ite (((ez .eql v9.root x1&&decide (a8.module=x2))&&(a9.init == x3))=true) (some (.inr (.inr s4)))<|(i64 (s4+1)).bind λ b3=>
 some (.inl b3))<|some (.inr (.inl ()))
def Zp(x0:List eU)(x1:Int)(x2:Str)(x3:Bool):Option Int:=
 Option.bind (zE (λ s4=>wx x0 x1 x2 x3 s4) 0) (Sum.elim (λ b2=>
 some (-1)) some)
instance QY:od prog 188 dt dt dt dt dt Zp:=⟨@λ x0 x1 x2 x3 r h=>by
 refine fe 0 func188 λ M w0 _ j=>?_;refine j.z1 (λ j=>za ?_);refine j.jb [] (λ _=>[]) h (λ o2 p2 k2=>?_) λ b2 _ _ j h=>?_
 .refine j.z1 λ j=>?_
  refine gk p2 (λ s4 a w=>Sx (eG.of w0) 42 M M [] [(0,dt x0),(1,dt x1),(2,dt x2),(3,dt x3),(9,dt s4)] [] a w) (j.kv [0,1,2,3,9]) ?_;rintro s4 z4 _ _ j h hx4;refine j.zc h (λ j h=>?_) λ j h=>?_
  .have⟨v9,p9,h⟩:=bs h
   refine Kx h λ a8 a9 b3 b5 h=>j.zc h (λ j h=>?_) λ j h=>?_
   .exact j.ze (jo (lo h hx4) k2)
   exact kB h λ b6 b7 h=>j.zn [] h
  exact fU (lo h hx4)
 exact j.ze h⟩
def YF(x0:File)(x1:Int):Option eU:=
(jQ x0).bind λ v4=>
(YR x0.body).bind λ v5=>
(YS x0.body).bind λ v6=>
(fE 56 [] x0.body).bind λ v7=>
 some ⟨x0.root,v4,x0.init,x1,x0.stamp,v5,v6,v7⟩
instance HW:fY prog 191 dt dt dt YF:=⟨@λ x0 x1 r h=>by
 refine fe 1 func191 λ M _ _ j=>?_;refine Ka<|j.zg 1 λ j=>?_;refine j.fB 0 Ja [1,2] [] (λ b3 j=>Kb ?_);refine Kx h λ v4 p4 v5 p5 h=>Kx h λ v6 p6 v7 p7 h=>j.zu 20 [(4,0)] (λ j=>?_) (hs:=sV 3 (r:=by exact sw Z (zy (l:=[.tmp 7]) Z (.cons T .nil) (WE p4))<|sV 7 (r:=by exact sw Z (zy (l:=[.tmp 15]) Z (.cons T .nil) (CH.1 p5))<|sV 2 (r:=by exact sw Z (zy (l:=[.tmp 18]) Z (.cons T .nil) (Iy.1 p6))<|sw Z (xj (α:=Stmt) (e:=109) Z)<|sV 2 (r:=by exact sw Z (B0 Z By T T p7)<|sw Z (W4 Z T T T T T T T T)<|.nil)))));refine j.store (sb:=4) 0 eO.id Z Z Z FW Z Z (tp Z) Z [] Z [] Z Z (λ _ _ j=>Kb ?_);exact j.yB h⟩
def Xk(x0:eK)(x1:Int)(x2:Str):Option Int:=
(Zo x0.dirs x1 x2).bind λ v2=>
 ite (ez .lss v2 0) (some 0)<|(eN x0.dirs v2).bind λ v9=>
 some v9.stamp
instance:ky prog 222 dt dt dt dt Xk:=⟨@λ x0 x1 x2 r h=>by
 refine fe 0 func222 λ M _ _ j=>?_;refine j.z1 λ j=>?_;refine kB h λ v2 p2 h=>j.z1 λ j=>?_;refine j.zc h (λ j h=>?_) λ j h=>?_
 .exact j.ze h
 exact kB h λ v9 p9 h=>j.ze h⟩
def Zq(x0:Str)(x1:Str):Option Str:=
 Option.bind (ite ((decide (x1≠⟨[]⟩))=true) ((i64 (x1.l.length+1)).bind λ v6=>
(nk x0 v6).bind λ v7=>
 some v7)<|some x0) λ o2=>
(qJ o2 (UInt8.ofNat 46)).bind λ a8=>
(eN a8 0).bind λ a9=>
 some a9
instance:fY prog 249 dt dt dt Zq:=⟨@λ x0 x1 r h=>by
 refine fe 0 func249 λ M w0 _ j=>?_;refine j.z1 (λ j=>za ?_);refine j.jm [] (λ o2=>[(0,dt o2)]) h (λ o2 p2=>?_) λ o2 _ _ j h=>?_
 .refine j.zc p2 (λ j h=>?_) λ j h=>?_
  .have⟨v6,p6,h⟩:=bs h
   refine kB h λ v7 p7 h=>j.z1 λ j=>?_;cases h;exact fz
  cases h;exact fz
 exact Kx h λ a8 a9 b3 b5 h=>j.ze h⟩
def jT(x0:Tree)(x1:Int)(x2:Str)(s5:(List Str)×Int):Option (((List Str)×Int)⊕(List Str)):=
 ite ((ez .lss s5.2 x0.files.length)=true) (Option.bind ((eN x0.files s5.2).bind λ a8=>
 ite (ez .neq a8.root x1) (some s5.1)<|Option.bind (ite ((decide (a8.pkg=x2)&&a8.init)=true) (some ⟨[42]⟩)<|ite ((decide (a8.pkg=x2))=true) (some a8.name)<|(gO (decide (a8.pkg≠⟨[]⟩) == true) (WC a8.pkg x2)).bind λ b3=>
 ite ((decide (a8.pkg≠⟨[]⟩)&&b3)=true) ((Zq a8.pkg x2).bind λ b5=>
(kT b5 ⟨[47]⟩).bind λ b6=>
 some b6)<|some ⟨[]⟩) λ a9=>
 ite ((decide (a9≠⟨[]⟩))=true) ((Y1 s5.1 a9).bind λ b7=>
 some b7)<|some s5.1) λ b8=>
(i64 (s5.2+1)).bind λ b9=>
 some (.inl (b8,b9)))<|some (.inr s5.1)
def WL(x0:Tree)(x1:Int)(x2:Str):Option (List Str):=
 Option.bind (zE (λ s5=>jT x0 x1 x2 s5) ([],0)) λ o3=>
 some o3
theorem U'{x0 x2 r}(h:WL x0 x1 x2=some r):kY prog 223 [dt x0,dt x1,dt x2] 9 r:=by
 refine om 2 func223 λ M w0 _ j=>?_;refine j.z1 (λ j=>?_) (hs:=sZ 1 (r:=by exact sc Z (oA Z (jg (α:=Str) (e:=9)))<|.nil));refine j.zo [(7,0)] (λ j=>?_) (hs:=sc Z (xj (α:=Str) (e:=9) Z (ht':=W3))<|eI);refine za<|j.kJ 2 [] (λ _=>[]) (λ o3 q=>[(7,0,eQ (q 0) 9 o3)]) h (λ o3 p3=>?_) λ o3 q3 _ _ _ j h=>?_
 .refine j.zo [(7,0)] λ j=>?_
  refine gk p3 (λ s5 a w=>∃ M1 Q R,Sx (eG.of w0) 65 M M1 [eA Q,eA R] [(1,dt x1),(2,dt x2),(3,eX x0),(8,dt s5.2)] [(7,0,eQ Q 9 s5.1)] a w) fx ?_;rintro s5 z5 _ _ ⟨_,Q,R,j⟩ h hx5;refine j.zd [(7,0)] h (λ j h=>?_) λ j h=>?_
  .refine kQ ?_
   refine za<|j.kJ 2 [1,2,3,8] (λ _=>[]) (λ a8 q=>[(7,0,eQ (q 0) 9 a8)]) h (λ a8 b3=>?_) λ a8 b8 _ _ _ j h=>?_
   .refine Ka ?_
    have⟨b9,c8,h⟩:=bs b3;refine j.zh 5 [(7,0)] λ j=>?_;refine j.fB 1 JU [1,2,3,8,23] [7] λ d1 j=>?_;refine j.eW 9 1 eO.id (tp Z) [1,2,3,8] [7] (λ j=>Kb ?_);refine j.zd [(7,0),(9,1)] h (λ j h=>?_) λ j h=>?_
    .cases h
     exact fz
    refine j.zo [(7,0),(9,1)] (λ j=>za ?_);refine j.kJ 2 [1,2,3,8] (λ a9=>[(10,dt a9)]) (λ _ q=>[(7,0,eQ (q 0) 9 s5.1)]) h (λ a9 b5=>?_) λ a9 d2 _ _ _ j h=>?_
    .refine j.zd [(7,0),(9,1)] b5 (λ j h=>?_) λ j h=>?_
     .refine j.zo [(7,0)] λ j=>?_
      cases h;exact fz
     refine j.zd [(7,0),(9,1)] h (λ j h=>?_) λ j h=>?_
     .refine j.zo [(7,0)] λ j=>?_
      cases h;exact fz
     refine kB h λ d3 b6 h=>j.zd [(7,0),(9,1)] h (λ j h=>?_) (λ j h=>?_) (hs:=sZ 7 (r:=by exact sg Z Z (λ hg=>oK (IN (gh hg b6)))<|eI))
     .have⟨d4,d5,h⟩:=bs h
      refine kB h λ d6 d7 h=>j.zo [(7,0)] λ j=>?_;cases h;exact fz
     cases h;exact fz
    refine j.zd [(7,0)] h (λ j h=>?_) λ j h=>?_
    .refine Ka ?_
     refine j.zh 2 [(7,0),(61,0)] λ j=>?_;refine kB h λ e0 b7 h=>j.take (l:=[.tmp 62]) 0 Z Z PA Z Z (.cons T .nil) (Ur b7) [1,2,3,8] Z [] Z Z λ e3 _ _ _ j=>?_;refine j.zh 1 [(7,0)] (λ j=>Kb ?_);cases h;exact fz
    cases h;exact fz
   exact kB h λ e4 e5 h=>j.zn [(7,0)] h
  cases lo h hx5;exact fz
 exact j.zl 0 h
def YG(x0:List eU)(x1:File)(x2:Int):Option ((List Stmt)×(List eU)×Bool):=
(jQ x1).bind λ v3=>
(Zp x0 x1.root v3 x1.init).bind λ v4=>
(gO (ez .geq v4 0 == true) (eN x0 v4)).bind λ v8=>
(gO (ez .geq v4 0 == true) (XY v8 x1)).bind λ v9=>
 ite ((ez .geq v4 0&&v9)=true) ((eN x0 v4).bind λ a9=>
 some (a9.body,x0,true))<|(YF x1 x2).bind λ a8=>
 Option.bind (ite (ez .geq v4 0) ((eN x0 v4).bind λ b6=>
 some (x0.set v4.toNat a8))<|ite ((ez .lss x0.length 12)=true) ((fE 88 x0 [a8]).bind λ b3=>
 some b3)<|some x0) λ b5=>
 some (x1.body,b5,false)
theorem Vc{x0 x1 r}(h:YG x0 x1 x2=some r):pd prog 151 ve x0 [dt x1,dt x2] (.uq (dt r.1) ve r.2.1 (dt r.2.2)):=by
 unfold YG at h;refine sG (fn:=f151) 0 2 func151 Z Z λ M G w0 _ j=>?_;refine j.kL (sP 1 (r:=by exact sc Z (oA Z (wg (α:=Stmt)))<|sc Z (oA Z (wg (α:=eU)))<|lF)) [2,4] [(0,0)] (λ j=>Kc ?_);refine Kx h λ v3 p3 v4 p4 h=>j.iQ (s:=0) 0 [] λ g2 A2 _ hA2 j=>?_;refine j.pQ (D:=[_,_,_,_,_,_,_,_,_]) zP [[(0,nS)],[(4,nS)],[(12,1)],[(4,nS)],[(14,3)],[(4,nS)],[(16,5)],[(11,0),(13,2),(15,4),(17,6)],[(18,7)]] [2,4,9] [(0,0)] (λ j=>?_) (hs:=rc Z Z (oM Z T)<|
  rc Z Z (zI File.gD Z (ht:=rS) T)<|
  rc Z Z (zG Z T)<|
  rc Z Z (zG Z T)<|
  rc Z Z (zy (l:=[.tmp 14]) Z (.cons T .nil) (WE p3))<|
  rc Z Z (zI File.iM Z T)<|
  rc Z Z (zG Z T)<|
  rc Z Z (yC (l:=[.tmp 11,.tmp 13,.tmp 15,.tmp 17]) j.ob.sub Z (.cons (nn j.ob 0 T) (.cons (yG j.ob.sub T) (.cons (yG j.ob.sub T) (.cons (yG j.ob.sub T) .nil)))) (QY.1 p4) xQ)<|
  rc Z Z (oA Z T)<|.nil)
 refine za<|Kc<|Kc<|Kx h λ v8 p8 v9 p9 h=>j.pQ (D:=[_,_,_,_,_,_,_,_,_,_]) zP [[(9,nS)],[(19,0)],[(20,1)],[(0,nS),(21,2)],[(9,nS),(21,2)],[(22,3),(23,4),(21,2)],[(24,5),(21,2),(0,nS)],[(4,nS),(21,2)],[(25,6),(26,7),(21,2)],[(21,2),(27,8)]] [2,4,9,28] [(0,0)] (λ j=>?_) (hs:=rc Z Z (oM Z T)<|
  rc Z Z (gU Z T cI)<|
  rc Z Z (oM Z T)<|
  rg Z Z Z (λ hg=>oM Z U)<|
  rg Z Z Z (λ hg=>oM Z T)<|
  rg Z Z Z (λ hg=>gJ (g:=g2) Z rl V V Z hA2 (gh hg p8))<|
  rg Z Z Z (λ hg=>gi (sb:=0) (PV.root.row Z hA2 (gh hg p8)) Z V Z)<|
  rg Z Z Z (λ hg=>zG Z T)<|
  rg Z Z Z (λ hg=>zy (l:=[.tmp 25,.tmp 26]) Z (.cons V (.cons V .nil)) (IB.1 (gh hg p9)))<|
  rc Z Z (xd Z T T)<|.nil)
 refine za<|j.cs h (λ _ h=>?_) λ _ h=>?_
 .have⟨b9,a8,h⟩:=bs h
  refine j.kL (sc Z (oM Z T)<|
   sc Z (oM Z T)<|
   sc Z (kk Z rl Z T hA2 a8)<|
   sc Z (eV Z O9 T)<|
   sc Z (gi (sb:=0) ((PV.root.row Z hA2 a8).eD eU.z7) Z T Z)<|
   sc Z (oM Z T)<|
   sc Z (oA Z T)<|
   sc Z (oA Z T)<|
   sc Z (oA Z cB)<|.nil) [6,8] [(7,0)] (λ j=>?_)
  refine wp_ret (zS ?_);have j:=j.fv (s:=7) 0 [];exact j.D3 0 Z Z Z Z h
 refine az ?_;refine za<|Kc<|Ka ?_;obtain⟨c8,d1,h⟩:=mh h HW.1;refine j.segA 3 [4,9,37] [(0,0)] λ j=>?_;refine j.fB 1 Ja [4,9,37] [0] λ d2 j=>?_;refine j.eW 10 1 eO.id (tp Z) [4,9] [0] (λ j=>Kb ?_);refine za ?_;have⟨b3,b5,b6⟩:=bs h;refine Yo (λ a w=>∃ M1 Q R,Sx (eG.ft w0 G) 54 M M1 [Q,eA R] [(4,eX x1)] [(0,0,eH ve Q b3)] a w) ?_ ?_
 .refine j.iR [4,9,39] [(0,0),(10,1)] λ j=>?_
  refine j.cs b5 (λ _ h=>?_) λ _ h=>?_
  .refine Ka ?_
   refine kB h λ d3 a9 h=>j.fN 4 (sc Z (oM Z T)<|
    sc Z (oM Z T)<|
    sc Z (yV Z T)<|
    sc Z (kk Z rl Z T hA2 a9)<|.nil) [4,42,43] [(0,0)] (λ j=>?_)
   refine j.kM (sb:=0) 0 (PV.root.row Z hA2 a9) (tp Z) (tp Z) [4] [] (λ j=>Kb ?_);have j:=j.fv (s:=0) 0 [];refine za ?_;cases h;exact fx
  refine j.kL (sc Z (oM Z T)<|
   sc Z (nJ Z Pm Z)<|
   sc Z (gU Z T cI)<|.nil) [4,46] [(0,0),(10,1)] (λ j=>?_)
  refine j.cs h (λ _ h=>?_) λ _ h=>?_
  .refine Ka ?_
   refine j.fN 3 (sc Z (oM Z T)<|
    sc Z (yV Z T)<|
    sc Z (wa (opds:=[.tmp 48]) Z Z Z (.cons T .nil))<|.nil) [4,49] [(0,0),(47,0)] (λ j=>?_)
   have j:=j.fv (s:=47) 0 [];refine j.kx (s:=47) 0 (by first | (simp;done) | exact oD rfl) [] λ d4 j=>?_;refine kB h λ d5 b7 h=>j.ic 0 yW b7 [4] [] λ d6 j=>?_;refine j.segA 1 [4] [(0,0)] (λ j=>Kb ?_);have j:=j.iO (s:=0) 0 [];refine za ?_;cases h;exact fx
  refine az ?_;have j:=j.fv (s:=0) 0 [10];refine za ?_;cases h;exact fx
 rintro _ _ ⟨_,Q,R,j⟩;have h:=b6;refine j.iQ (s:=0) 0 [] λ d7 e0 _ b8 j=>?_;refine j.iR [6,8] [(7,0)] (λ j=>wp_ret ?_);have j:=j.fv (s:=7) 0 [];exact j.D3 0 Z Z Z Z h
