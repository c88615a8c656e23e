import Derived.Test.YtbbfcjifihknnaaGreatDoorRH
import Derived.Test.YtbbfcjifihknnaaGreatDoorRB
import Derived.Test.YtbbfcjifihknnaaGreatDoorRO
import Derived.Test.YtbbfcjifihknnaaGreatDoorRN
import Derived.Test.YtbbfcjifihknnaaGreatDoorRQ
namespace Go.Proofs.YtbbfcjifihknnaaGreatDoor
open Go.RowKit Tryz
attribute [local irreducible] OpRel OpdR
set_option maxRecDepth 10000
set_option maxHeartbeats 1600000
variable{r:GResult}{x3:Int}{x2:List GCmd}{x1:List Int}{x0:Machine}{R:Rec}
instance iF32_3MaN:FldO prog 32 3 3:=⟨zaU⟩
def jK(x0:Machine)(s224:GResult×Int):Option ((GResult×Int)⊕GResult):=
if(cmpI .lss s224.2 (x0.modules.length:Int))=true then((atI x0.modules s224.2).bind λ v229=>
(appO 8 [] v229.x.roots).bind λ v240=>
(appO 32 [] v229.x.attrs).bind λ v251=>
(appO 80 s224.1.modules [{ v229.x with roots:=v240,attrs:=v251 }]).bind λ v267=>
(i64 (s224.2+(1:Int))).bind λ v273=>
some (.inl ({ s224.1 with modules:=v267 },v273)))
else(some (.inr s224.1))
def qI(x0:Machine)(x1:List Int):Option GResult:=
(appO 8 [] x0.out).bind λ v20=>
(appO 24 [] x0.log).bind λ v26=>
Option.bind (α:=GResult) (zH (λ s224=>jK x0 s224) ((⟨x1,v20,v26,[],x0.left⟩:GResult),(0:Int))) λ o222=>
some o222
theorem Js(h:qI x0 x1=some r):FnTL prog 53 (Ow.row 3 (Ow.frz (α:=Int))) [dptr x0] x1 (.ow (owGResult (Ow.row 3 (Ow.frz (α:=Int))) (Ow.row 3 (Ow.frz (α:=Int))) (Ow.row 160 (Ow.frz (α:=GEvent))) (Ow.row 139 (owGMod (Ow.row 3 (Ow.frz (α:=Int))) oAtt))) r):=by
 unfold qI at h
 refine fnTL (fn:=f53) 1 0 14 Z func53 Z (oD Z) Z (λ M G w0 _ u=>Kc (Ka ?_))
 refine u.alcW (ow:=(owGResult (Ow.row 3 (Ow.frz (α:=Int))) (Ow.row 3 (Ow.frz (α:=Int))) (Ow.row 160 (Ow.frz (α:=GEvent))) (Ow.row 139 (owGMod (Ow.row 3 (Ow.frz (α:=Int))) oAtt)))) 11 (owGResult.z Ow.row_z Ow.row_z Ow.row_z Ow.row_z) [0] [1] λ b1 M1 _ _ u=>?_
 have u:=u.gn
 refine Kb (za (Kc ?_))
 refine u.heldF zP λ c3 _ hz3 u=>?_
 refine u.tkV (i:=0) (sb:=1) 0 Z Z (λ _ _ _ _ h=>h) (u.fzS (g:=62)) Z Z Z iI [4] Z Z λ _ u=>?_
 refine u.tM 2 0 (u.fzS (g:=62)) λ _ u=>?_
 refine u.tkNp (i:=3) (u.fzS (g:=62)) (tp Z) (next:=λ a6 u=>?_)
 refine u.tkFp (i:=4) (u.fzS (g:=62)) Machine.fld5 (tp Z) (next:=λ a7 u=>?_)
 refine u.tkLp (i:=5) (u.fzS (g:=62)) hz3 kT25 (tp Z) λ _ u=>?_
 refine u.tM 8 0 (u.fzS (g:=62)) λ _ u=>?_
 refine u.tkNp (i:=9) (u.fzS (g:=62)) (tp Z) (next:=λ a10 u=>?_)
 refine u.tkFp (i:=10) (u.fzS (g:=62)) Machine.fld6 (tp Z) (next:=λ a11 u=>?_)
 refine u.tkLp (i:=11) (u.fzS (g:=62)) hz3 kT29 (tp Z) λ _ u=>?_
 refine u.tM 14 0 (u.fzS (g:=62)) λ _ u=>?_
 refine u.tkNp (i:=15) (u.fzS (g:=62)) (tp Z) (next:=λ a14 u=>?_)
 refine u.tkFp (i:=16) (u.fzS (g:=62)) Machine.fld8 (tp Z) (next:=λ a15 u=>?_)
 refine u.tkLp (i:=17) (u.fzS (g:=62)) hz3 kT3 (tp Z) λ _ u=>?_
 have⟨v20,p20,v26,p26,h⟩:=Kg h
 refine wa 1 1048575 (λ a w=>∃ M1 Y H I,Sx (Frm.chg w0 G) 62 M M1 [oneB none,oneB none,oneB none,oneB none,Y,oneB none,oneB none,oneB none,oneB none,oneB none,oneB none,H,I,oneB none] [(0,dptr x0),(62,dfz c3)] [(4,11,dow (Ow.box (owGResult (Ow.row 3 (Ow.frz (α:=Int))) (Ow.row 3 (Ow.frz (α:=Int))) (Ow.row 160 (Ow.frz (α:=GEvent))) (Ow.row 139 (owGMod (Ow.row 3 (Ow.frz (α:=Int))) oAtt)))) H ⟨zI⟩),(5,12,dow (Ow.box (owGResult (Ow.row 3 (Ow.frz (α:=Int))) (Ow.row 3 (Ow.frz (α:=Int))) (Ow.row 160 (Ow.frz (α:=GEvent))) (Ow.row 139 (owGMod (Ow.row 3 (Ow.frz (α:=Int))) oAtt)))) I ⟨zI⟩),(27,4,dow (owGResult (Ow.row 3 (Ow.frz (α:=Int))) (Ow.row 3 (Ow.frz (α:=Int))) (Ow.row 160 (Ow.frz (α:=GEvent))) (Ow.row 139 (owGMod (Ow.row 3 (Ow.frz (α:=Int))) oAtt))) Y (⟨x1,v20,v26,[],x0.left⟩:GResult))] a w) ?_ λ n208=>?_
 ·rintro _ _ ⟨_,Y,H,I,u⟩
  refine aK1 20 ?_
  refine u.nmB (s:=5) 12 [4,27] λ b219 u=>?_
  refine u.stO (sb:=5) (tv:=27) 12 4 (PV.root.box Z) (zN Z) [0,62] [4] λ _ _ u=>?_
  have u:=u.gn
  have u:=u.unm (s:=5) 12 [4]
  refine aHN (u.fzS (g:=62)) ?_
  refine aK0 (za ?_)
  have⟨o222,p222,k222⟩:=bs h
  refine YP (λ a w=>∃ M1 Q R W X Y A B C D E F H I J,Sx (Frm.chg w0 G) 62 M M1 [Q,R,W,X,Y,A,B,C,D,E,F,H,I,J] [] [(4,11,dow (Ow.box (owGResult (Ow.row 3 (Ow.frz (α:=Int))) (Ow.row 3 (Ow.frz (α:=Int))) (Ow.row 160 (Ow.frz (α:=GEvent))) (Ow.row 139 (owGMod (Ow.row 3 (Ow.frz (α:=Int))) oAtt)))) H ⟨zI⟩),(5,12,dow (Ow.box (owGResult (Ow.row 3 (Ow.frz (α:=Int))) (Ow.row 3 (Ow.frz (α:=Int))) (Ow.row 160 (Ow.frz (α:=GEvent))) (Ow.row 139 (owGMod (Ow.row 3 (Ow.frz (α:=Int))) oAtt)))) I ⟨o222⟩)] a w) ?_ ?_
  ·refine u.sqC [31,32,33] [(4,11),(5,12)] (λ _ _ u=>wp_block ?_)
   refine Wj p222 (λ s224 a w=>∃ M1 Q R W X Y A B C D E F H I J,Sx (Frm.chg w0 G) 62 M M1 [Q,R,W,X,Y,A,B,C,D,E,F,H,I,J] [(31,dt x0.modules),(32,dt (x0.modules.length:Int)),(33,dt s224.2)] [(4,11,dow (Ow.box (owGResult (Ow.row 3 (Ow.frz (α:=Int))) (Ow.row 3 (Ow.frz (α:=Int))) (Ow.row 160 (Ow.frz (α:=GEvent))) (Ow.row 139 (owGMod (Ow.row 3 (Ow.frz (α:=Int))) oAtt)))) H ⟨zI⟩),(5,12,dow (Ow.box (owGResult (Ow.row 3 (Ow.frz (α:=Int))) (Ow.row 3 (Ow.frz (α:=Int))) (Ow.row 160 (Ow.frz (α:=GEvent))) (Ow.row 139 (owGMod (Ow.row 3 (Ow.frz (α:=Int))) oAtt)))) I ⟨s224.1⟩)] a w) fx ?_
   rintro s224 z224 _ _ ⟨_,Q,R,W,X,Y,A,B,C,D,E,F,H,I,J,u⟩ hs224 hx224
   have h:jK x0 s224=some z224:=hs224
   unfold jK at h
   refine u.sqA [31,32,33,34] [(4,11),(5,12)] (λ _ _ u=>Kc ?_)
   refine u.cs h (λ _ h=>?_) λ _ h=>?_
   ·refine wp_skip (za (Kc (wp_block ?_)))
    have⟨v229,p229,h⟩:=bs h
    refine u.sqB (sP 1 (r:=by exact sc Z (OpRel.bx (zr Z (ht:=XK) (tp Z)))<|segC)) [7,31,32,33] [(4,11),(5,12)] (λ _ _ u=>Kc (Ka ?_))
    refine u.segC 3 [7,31,32,33,39] [(4,11),(5,12)] λ _ _ u=>?_
    refine u.alcW (ow:=(owGMod (Ow.row 3 (Ow.frz (α:=Int))) oAtt)) 13 (owGMod.z Ow.row_z Ow.row_z) [7,31,32,33,39] [4,5] λ b233 _ _ _ u=>?_
    have u:=u.gn
    refine u.stFz (ow2:=(owGMod (Ow.frz (α:=List Int)) (Ow.frz (α:=List GAttr)))) (sb:=8) 13 owGMod.ofR Z Z Z kT139 Z (tp Z) iI [7,31,32,33] Z [4,5] Z Z (λ _ u=>Kb (za ?_))
    have u:=u.rst 5 [7,31,32,33] [4,5,8]
    refine Kc (Ka ?_)
    refine u.segB 5 (sc Z (zO (α:=Int) (e:=3) Z)<|segC) [7,31,32,33,44] [(4,11),(5,12),(8,13),(40,5)] λ _ _ u=>?_
    have⟨v240,p240,h⟩:=bs h
    refine u.apA 5 y7 p240 [7,31,32,33] [4,5,8] λ g239 _ _ _ u=>?_
    have u:=u.gn
    refine u.segB 1 (sc Z (xFa Z Q1 (zN Z))<|.nil) [7,31,32,33,46] [(4,11),(5,12),(8,13),(45,5)] λ _ _ u=>?_
    have u:=u.tipW (s:=45) 5 [4,5,8]
    refine u.stTk (off:=2) (ow2:=(owGMod (Ow.row 3 (Ow.frz (α:=Int))) (Ow.frz (α:=List GAttr)))) (x2:={ v229.x with roots:=v240 }) (sb:=8) (tv:=45) 13 5 owGMod.tk2 Z Z Z kT25 (tp Z) Z Z iI iI [7,31,32,33] Z [4,5] Z Z Z λ _ _ u=>?_
    have u:=u.gn
    refine Kb (za ?_)
    have u:=u.rst 6 [7,31,32,33] [4,5,8]
    refine Kc (Ka ?_)
    refine u.segB 5 (sc Z (zO (α:=GAttr) (e:=216) Z (ht':=Xh))<|segC) [31,32,33,51] [(4,11),(5,12),(8,13),(47,6)] λ _ _ u=>?_
    have⟨v251,p251,h⟩:=bs h
    refine u.apA 6 y7 p251 [31,32,33] [4,5,8] λ g250 _ _ _ u=>?_
    have u:=u.gn
    refine u.segB 1 (sc Z (xFa Z Yx (zN Z))<|.nil) [31,32,33,53] [(4,11),(5,12),(8,13),(52,6)] λ _ _ u=>?_
    have u:=u.tipW (s:=52) 6 [4,5,8]
    refine u.stTk (off:=5) (ow2:=(owGMod (Ow.row 3 (Ow.frz (α:=Int))) oAtt)) (x2:={ v229.x with roots:=v240,attrs:=v251 }) (sb:=8) (tv:=52) 13 6 owGMod.tk5 Z Z Z zaw (tp Z) Z Z iI iI [31,32,33] Z [4,5] Z Z Z λ _ _ u=>?_
    have u:=u.gn
    refine Kb (za (Ka ?_))
    refine u.nmB (s:=5) 12 [4,8] λ b258 u=>?_
    refine u.hdA 5 12 ((PV.root.box Z).fld owGResult.f3) [4,8] λ g259 A259 _ hA259 u=>?_
    refine u.segB 2 (sc Z (xFa Z zaU (zN Z))<|sc Z (xLc (sb:=5) (.head _) Z Z Z (tp Z) Z)<|.nil) [31,32,33,55] [(4,11),(5,12),(8,13)] λ _ _ u=>?_
    refine u.ldW (sb:=8) 13 iI [31,32,33,55] [4,5] λ _ _ u=>?_
    refine u.litW (oe:=(owGMod (Ow.row 3 (Ow.frz (α:=Int))) oAtt)) (opds:=[.tmp 56]) (xs:=[{ v229.x with roots:=v240,attrs:=v251 }]) 8 [13] kI30 kY30 (Qz (yo (u.st.has 56 _ Z)) (λ b hb=>⟨13,by simp,hb⟩)) (λ q hq=>by
 simp only[List.mem_cons,List.not_mem_nil,or_false] at hq
 subst hq
 exact Ow.len _ (yo (u.st.has 56 _ Z))) [31,32,33,55] [4,5] (λ G262 _ _ _ u=>?_)
    have u:=u.gs (Gs':=[Q,R,W,X,Y,oneB none,oneB none,C,G262,E,F,H,I,oneB none])
    refine u.mvG (s:=55) (sb:=5) 12 9 ((PV.root.box Z).fld owGResult.f3) (.head _) (yJ Z Z) [31,32,33] [4,57] λ _ H265 u=>?_
    have u:=u.gn
    have⟨v267,p267,h⟩:=bs h
    refine u.appW 9 8 iI iI p267 [31,32,33] [4,5] λ _ _ _ _ u=>?_
    have u:=u.gn
    refine u.segB 1 (sc Z (xFa Z zaU (opd_hl Z))<|.nil) [31,32,33,59] [(4,11),(5,12),(58,9)] λ _ _ u=>?_
    refine u.shA 5 58 12 9 (tp Z) [31,32,33] [4] λ _ _ u=>?_
    have u:=u.gn
    refine Kb (zY (za ?_))
    have⟨v273,p273,h⟩:=bs h
    refine u.rgA [31,32,33] [(4,11),(5,12)] λ _ _ u=>?_
    have u:=u.unm (s:=5) 12 [4]
    refine za ?_
    exact fl h
   refine wp_exit (zV (zV (yM ?_)))
   refine za ?_
   have h:=lo h hx224
   cases h
   exact fx
  rintro _ _ ⟨_,Q,R,W,X,Y,A,B,C,D,E,F,H,I,J,u⟩
  have h:=k222
  refine Kc (Ka ?_)
  refine u.nmB (s:=5) 12 [4] λ b280 u=>?_
  refine u.ldW (sb:=5) 12 iI [] [4] λ _ _ u=>?_
  refine u.nmB (s:=4) 11 [61] λ b282 u=>?_
  refine u.stO (sb:=4) (tv:=61) 11 12 (PV.root.box Z) (zN Z) [] [] λ _ _ u=>?_
  have u:=u.gn
  refine Kb (za (wp_ret ?_))
  exact u.rtC 11 Z kT32 Z iI h
 refine wa 2 524287 (λ a w=>∃ M1 Y H,Sx (Frm.chg w0 G) 62 M M1 [oneB none,oneB none,oneB none,oneB none,Y,oneB none,oneB none,oneB none,oneB none,oneB none,oneB none,H,oneB none,oneB none] [(0,dptr x0),(62,dfz c3)] [(4,11,dow (Ow.box (owGResult (Ow.row 3 (Ow.frz (α:=Int))) (Ow.row 3 (Ow.frz (α:=Int))) (Ow.row 160 (Ow.frz (α:=GEvent))) (Ow.row 139 (owGMod (Ow.row 3 (Ow.frz (α:=Int))) oAtt)))) H ⟨zI⟩),(27,4,dow (owGResult (Ow.row 3 (Ow.frz (α:=Int))) (Ow.row 3 (Ow.frz (α:=Int))) (Ow.row 160 (Ow.frz (α:=GEvent))) (Ow.row 139 (owGMod (Ow.row 3 (Ow.frz (α:=Int))) oAtt))) Y (⟨x1,v20,v26,[],x0.left⟩:GResult))] a w) ?_ λ n195=>?_
 ·rintro _ _ ⟨_,Y,H,u⟩
  refine aK1 19 ?_
  refine u.alcW (ow:=(owGResult (Ow.row 3 (Ow.frz (α:=Int))) (Ow.row 3 (Ow.frz (α:=Int))) (Ow.row 160 (Ow.frz (α:=GEvent))) (Ow.row 139 (owGMod (Ow.row 3 (Ow.frz (α:=Int))) oAtt)))) 12 (owGResult.z Ow.row_z Ow.row_z Ow.row_z Ow.row_z) [0,62] [4,27] λ b284 _ _ _ u=>?_
  have u:=u.gn
  have u:=u.unm (s:=5) 12 [4,27]
  exact aHe n208 (u.fzS (g:=62))
 refine wa 2 786431 (λ a w=>∃ M1 Q g119901 g119902 H I,Sx (Frm.chg w0 G) 62 M M1 [Q,oneB g119901,oneB g119902,oneB none,oneB none,oneB none,oneB none,oneB none,oneB none,oneB none,oneB none,H,I,oneB none] [(0,dptr x0),(26,dt x0.left),(62,dfz c3)] [(15,1,dtip g119901 3 v20),(21,2,dtip g119902 160 v26),(4,11,dow (Ow.box (owGResult (Ow.row 3 (Ow.frz (α:=Int))) (Ow.row 3 (Ow.frz (α:=Int))) (Ow.row 160 (Ow.frz (α:=GEvent))) (Ow.row 139 (owGMod (Ow.row 3 (Ow.frz (α:=Int))) oAtt)))) H ⟨zI⟩),(5,12,dow (Ow.box (owGResult (Ow.row 3 (Ow.frz (α:=Int))) (Ow.row 3 (Ow.frz (α:=Int))) (Ow.row 160 (Ow.frz (α:=GEvent))) (Ow.row 139 (owGMod (Ow.row 3 (Ow.frz (α:=Int))) oAtt)))) I ⟨zI⟩),(9,0,dow (Ow.row 3 (Ow.frz (α:=Int))) Q x1),(22,3,dow (Ow.row 139 (owGMod (Ow.row 3 (Ow.frz (α:=Int))) oAtt)) (oneB none) [])] a w) ?_ λ n199=>?_
 ·rintro _ _ ⟨_,Q,g119901,g119902,H,I,u⟩
  refine aK1 18 ?_
  have u:=u.tipW (s:=15) 1 [4,5,9,21,22]
  have u:=u.tipW (s:=21) 2 [4,5,9,15,22]
  refine u.bldW (ow:=(owGResult (Ow.row 3 (Ow.frz (α:=Int))) (Ow.row 3 (Ow.frz (α:=Int))) (Ow.row 160 (Ow.frz (α:=GEvent))) (Ow.row 139 (owGMod (Ow.row 3 (Ow.frz (α:=Int))) oAtt)))) (parts:=[(0,.tmp 9),(1,.tmp 15),(2,.tmp 21),(3,.tmp 22),(4,.tmp 26)]) (ns:=[1,1,1,1,1]) (zs:=Xk) (x:=(⟨x1,v20,v26,[],x0.left⟩:GResult)) 4 [0,1,2,3] (FA ⟨by decide,Ow.len _ (yo (u.st.has 9 _ Z))⟩ (FA ⟨by decide,Ow.len _ (yo (u.st.has 15 _ Z))⟩ (FA ⟨by decide,Ow.len _ (yo (u.st.has 21 _ Z))⟩ (FA ⟨by decide,Ow.len _ (yo (u.st.has 22 _ Z))⟩ (FA ⟨by decide,Rep.len (α:=Int) (OpdR.cells (tp Z) (λ s y hs=>u.st.has s y hs))⟩ FN))))) (((owGResult (Ow.row 3 (Ow.frz (α:=Int))) (Ow.row 3 (Ow.frz (α:=Int))) (Ow.row 160 (Ow.frz (α:=GEvent))) (Ow.row 139 (owGMod (Ow.row 3 (Ow.frz (α:=Int))) oAtt)))).more (owGResult.mk (x:=(⟨x1,v20,v26,[],x0.left⟩:GResult)) (yo (u.st.has 9 _ Z)) (yo (u.st.has 15 _ Z)) (yo (u.st.has 21 _ Z)) (yo (u.st.has 22 _ Z)) (OpdR.cells (tp Z) (λ s y hs=>u.st.has s y hs)) (λ b h1=>(λ h2=>h2.elim (λ h2=>u.ob.apart 0 1 b (by decide) h1 h2) (λ h2=>h2.elim (λ h2=>u.ob.apart 0 2 b (by decide) h1 h2) (λ h2=>u.ob.apart 0 3 b (by decide) h1 h2)))) (λ b h1=>(λ h2=>h2.elim (λ h2=>u.ob.apart 1 2 b (by decide) h1 h2) (λ h2=>u.ob.apart 1 3 b (by decide) h1 h2))) (λ b h1=>(λ h2=>u.ob.apart 2 3 b (by decide) h1 h2))) (λ b=>(λ hb=>hb.elim (λ hb=>⟨0,by simp,hb⟩) (λ hb=>hb.elim (λ hb=>⟨1,by simp,hb⟩) (λ hb=>hb.elim (λ hb=>⟨2,by simp,hb⟩) (λ hb=>⟨3,by simp,hb⟩)))))) [0,62] [4,5] (λ G287 _ _ u=>?_)
  have u:=u.gs (Gs':=[oneB none,oneB none,oneB none,oneB none,G287,oneB none,oneB none,oneB none,oneB none,oneB none,oneB none,H,I,oneB none])
  have u:=u.gs (Gs':=[oneB none,oneB none,oneB none,oneB none,G287,oneB none,oneB none,oneB none,oneB none,oneB none,oneB none,H,I,oneB none])
  exact aHe n208 (u.fzS (g:=62))
 refine wa 3 262143 (λ a w=>∃ M1 Q g116901 g116902 H,Sx (Frm.chg w0 G) 62 M M1 [Q,oneB g116901,oneB g116902,oneB none,oneB none,oneB none,oneB none,oneB none,oneB none,oneB none,oneB none,H,oneB none,oneB none] [(0,dptr x0),(26,dt x0.left),(62,dfz c3)] [(15,1,dtip g116901 3 v20),(21,2,dtip g116902 160 v26),(4,11,dow (Ow.box (owGResult (Ow.row 3 (Ow.frz (α:=Int))) (Ow.row 3 (Ow.frz (α:=Int))) (Ow.row 160 (Ow.frz (α:=GEvent))) (Ow.row 139 (owGMod (Ow.row 3 (Ow.frz (α:=Int))) oAtt)))) H ⟨zI⟩),(9,0,dow (Ow.row 3 (Ow.frz (α:=Int))) Q x1),(22,3,dow (Ow.row 139 (owGMod (Ow.row 3 (Ow.frz (α:=Int))) oAtt)) (oneB none) [])] a w) ?_ λ n169=>?_
 ·rintro _ _ ⟨_,Q,g116901,g116902,H,u⟩
  refine aK2 18 19 ?_ ?_
  ·have u:=u.tipW (s:=15) 1 [4,9,21,22]
   have u:=u.tipW (s:=21) 2 [4,9,15,22]
   refine u.bldW (ow:=(owGResult (Ow.row 3 (Ow.frz (α:=Int))) (Ow.row 3 (Ow.frz (α:=Int))) (Ow.row 160 (Ow.frz (α:=GEvent))) (Ow.row 139 (owGMod (Ow.row 3 (Ow.frz (α:=Int))) oAtt)))) (parts:=[(0,.tmp 9),(1,.tmp 15),(2,.tmp 21),(3,.tmp 22),(4,.tmp 26)]) (ns:=[1,1,1,1,1]) (zs:=Xk) (x:=(⟨x1,v20,v26,[],x0.left⟩:GResult)) 4 [0,1,2,3] (FA ⟨by decide,Ow.len _ (yo (u.st.has 9 _ Z))⟩ (FA ⟨by decide,Ow.len _ (yo (u.st.has 15 _ Z))⟩ (FA ⟨by decide,Ow.len _ (yo (u.st.has 21 _ Z))⟩ (FA ⟨by decide,Ow.len _ (yo (u.st.has 22 _ Z))⟩ (FA ⟨by decide,Rep.len (α:=Int) (OpdR.cells (tp Z) (λ s y hs=>u.st.has s y hs))⟩ FN))))) (((owGResult (Ow.row 3 (Ow.frz (α:=Int))) (Ow.row 3 (Ow.frz (α:=Int))) (Ow.row 160 (Ow.frz (α:=GEvent))) (Ow.row 139 (owGMod (Ow.row 3 (Ow.frz (α:=Int))) oAtt)))).more (owGResult.mk (x:=(⟨x1,v20,v26,[],x0.left⟩:GResult)) (yo (u.st.has 9 _ Z)) (yo (u.st.has 15 _ Z)) (yo (u.st.has 21 _ Z)) (yo (u.st.has 22 _ Z)) (OpdR.cells (tp Z) (λ s y hs=>u.st.has s y hs)) (λ b h1=>(λ h2=>h2.elim (λ h2=>u.ob.apart 0 1 b (by decide) h1 h2) (λ h2=>h2.elim (λ h2=>u.ob.apart 0 2 b (by decide) h1 h2) (λ h2=>u.ob.apart 0 3 b (by decide) h1 h2)))) (λ b h1=>(λ h2=>h2.elim (λ h2=>u.ob.apart 1 2 b (by decide) h1 h2) (λ h2=>u.ob.apart 1 3 b (by decide) h1 h2))) (λ b h1=>(λ h2=>u.ob.apart 2 3 b (by decide) h1 h2))) (λ b=>(λ hb=>hb.elim (λ hb=>⟨0,by simp,hb⟩) (λ hb=>hb.elim (λ hb=>⟨1,by simp,hb⟩) (λ hb=>hb.elim (λ hb=>⟨2,by simp,hb⟩) (λ hb=>⟨3,by simp,hb⟩)))))) [0,62] [4] (λ G292 _ _ u=>?_)
   have u:=u.gs (Gs':=[oneB none,oneB none,oneB none,oneB none,G292,oneB none,oneB none,oneB none,oneB none,oneB none,oneB none,H,oneB none,oneB none])
   have u:=u.gs (Gs':=[oneB none,oneB none,oneB none,oneB none,G292,oneB none,oneB none,oneB none,oneB none,oneB none,oneB none,H,oneB none,oneB none])
   exact aHe n195 (u.fzS (g:=62))
  ·refine u.alcW (ow:=(owGResult (Ow.row 3 (Ow.frz (α:=Int))) (Ow.row 3 (Ow.frz (α:=Int))) (Ow.row 160 (Ow.frz (α:=GEvent))) (Ow.row 139 (owGMod (Ow.row 3 (Ow.frz (α:=Int))) oAtt)))) 12 (owGResult.z Ow.row_z Ow.row_z Ow.row_z Ow.row_z) [0,26,62] [4,9,15,21,22] λ b297 _ _ _ u=>?_
   have u:=u.gn
   have u:=u.unm (s:=5) 12 [4,9,15,21,22]
   exact aHe n199 (u.fzS (g:=62))
 refine wa 3 778239 (λ a w=>∃ M1 Q g117301 g117302 H I,Sx (Frm.chg w0 G) 62 M M1 [Q,oneB g117301,oneB g117302,oneB none,oneB none,oneB none,oneB none,oneB none,oneB none,oneB none,oneB none,H,I,oneB none] [(0,dptr x0),(26,dt x0.left),(62,dfz c3)] [(15,1,dtip g117301 3 v20),(21,2,dtip g117302 160 v26),(4,11,dow (Ow.box (owGResult (Ow.row 3 (Ow.frz (α:=Int))) (Ow.row 3 (Ow.frz (α:=Int))) (Ow.row 160 (Ow.frz (α:=GEvent))) (Ow.row 139 (owGMod (Ow.row 3 (Ow.frz (α:=Int))) oAtt)))) H ⟨zI⟩),(5,12,dow (Ow.box (owGResult (Ow.row 3 (Ow.frz (α:=Int))) (Ow.row 3 (Ow.frz (α:=Int))) (Ow.row 160 (Ow.frz (α:=GEvent))) (Ow.row 139 (owGMod (Ow.row 3 (Ow.frz (α:=Int))) oAtt)))) I ⟨zI⟩),(9,0,dow (Ow.row 3 (Ow.frz (α:=Int))) Q x1)] a w) ?_ λ n173=>?_
 ·rintro _ _ ⟨_,Q,g117301,g117302,H,I,u⟩
  refine aK1 13 ?_
  refine u.segB 1 (sc Z (zO (α:=GMod) (e:=139) Z)<|.nil) [0,26,62] [(4,11),(5,12),(9,0),(15,1),(21,2),(22,3)] λ _ _ u=>?_
  have u:=u.tip0 (s:=22) (e':=139) (oy:=(owGMod (Ow.row 3 (Ow.frz (α:=Int))) oAtt)) 3 [4,5,9,15,21]
  exact aHe n199 (u.fzS (g:=62))
 refine wa 3 782335 (λ a w=>∃ M1 Q g118001 H I,Sx (Frm.chg w0 G) 62 M M1 [Q,oneB g118001,oneB none,oneB none,oneB none,oneB none,oneB none,oneB none,oneB none,oneB none,oneB none,H,I,oneB none] [(0,dptr x0),(20,dt x0.log),(26,dt x0.left),(62,dfz c3)] [(15,1,dtip g118001 3 v20),(16,2,dtip none 160 ([]:List GEvent)),(4,11,dow (Ow.box (owGResult (Ow.row 3 (Ow.frz (α:=Int))) (Ow.row 3 (Ow.frz (α:=Int))) (Ow.row 160 (Ow.frz (α:=GEvent))) (Ow.row 139 (owGMod (Ow.row 3 (Ow.frz (α:=Int))) oAtt)))) H ⟨zI⟩),(5,12,dow (Ow.box (owGResult (Ow.row 3 (Ow.frz (α:=Int))) (Ow.row 3 (Ow.frz (α:=Int))) (Ow.row 160 (Ow.frz (α:=GEvent))) (Ow.row 139 (owGMod (Ow.row 3 (Ow.frz (α:=Int))) oAtt)))) I ⟨zI⟩),(9,0,dow (Ow.row 3 (Ow.frz (α:=Int))) Q x1),(22,3,dow (Ow.row 139 (owGMod (Ow.row 3 (Ow.frz (α:=Int))) oAtt)) (oneB none) [])] a w) ?_ λ n180=>?_
 ·rintro _ _ ⟨_,Q,g118001,H,I,u⟩
  refine aK1 12 ?_
  refine u.apA 2 y7 p26 [0,26,62] [4,5,9,15,22] λ g303 _ _ _ u=>?_
  have u:=u.gn
  exact aHe n199 (u.fzS (g:=62))
 refine wa 4 253951 (λ a w=>∃ M1 Q g113401 g113402 H,Sx (Frm.chg w0 G) 62 M M1 [Q,oneB g113401,oneB g113402,oneB none,oneB none,oneB none,oneB none,oneB none,oneB none,oneB none,oneB none,H,oneB none,oneB none] [(0,dptr x0),(26,dt x0.left),(62,dfz c3)] [(15,1,dtip g113401 3 v20),(21,2,dtip g113402 160 v26),(4,11,dow (Ow.box (owGResult (Ow.row 3 (Ow.frz (α:=Int))) (Ow.row 3 (Ow.frz (α:=Int))) (Ow.row 160 (Ow.frz (α:=GEvent))) (Ow.row 139 (owGMod (Ow.row 3 (Ow.frz (α:=Int))) oAtt)))) H ⟨zI⟩),(9,0,dow (Ow.row 3 (Ow.frz (α:=Int))) Q x1)] a w) ?_ λ n134=>?_
 ·rintro _ _ ⟨_,Q,g113401,g113402,H,u⟩
  refine aK2 13 19 ?_ ?_
  ·refine u.segB 1 (sc Z (zO (α:=GMod) (e:=139) Z)<|.nil) [0,26,62] [(4,11),(9,0),(15,1),(21,2),(22,3)] λ _ _ u=>?_
   have u:=u.tip0 (s:=22) (e':=139) (oy:=(owGMod (Ow.row 3 (Ow.frz (α:=Int))) oAtt)) 3 [4,9,15,21]
   exact aHe n169 (u.fzS (g:=62))
  ·refine u.alcW (ow:=(owGResult (Ow.row 3 (Ow.frz (α:=Int))) (Ow.row 3 (Ow.frz (α:=Int))) (Ow.row 160 (Ow.frz (α:=GEvent))) (Ow.row 139 (owGMod (Ow.row 3 (Ow.frz (α:=Int))) oAtt)))) 12 (owGResult.z Ow.row_z Ow.row_z Ow.row_z Ow.row_z) [0,26,62] [4,9,15,21] λ b307 _ _ _ u=>?_
   have u:=u.gn
   have u:=u.unm (s:=5) 12 [4,9,15,21]
   exact aHe n173 (u.fzS (g:=62))
 refine wa 4 258047 (λ a w=>∃ M1 Q g113701 H,Sx (Frm.chg w0 G) 62 M M1 [Q,oneB g113701,oneB none,oneB none,oneB none,oneB none,oneB none,oneB none,oneB none,oneB none,oneB none,H,oneB none,oneB none] [(0,dptr x0),(20,dt x0.log),(26,dt x0.left),(62,dfz c3)] [(15,1,dtip g113701 3 v20),(16,2,dtip none 160 ([]:List GEvent)),(4,11,dow (Ow.box (owGResult (Ow.row 3 (Ow.frz (α:=Int))) (Ow.row 3 (Ow.frz (α:=Int))) (Ow.row 160 (Ow.frz (α:=GEvent))) (Ow.row 139 (owGMod (Ow.row 3 (Ow.frz (α:=Int))) oAtt)))) H ⟨zI⟩),(9,0,dow (Ow.row 3 (Ow.frz (α:=Int))) Q x1),(22,3,dow (Ow.row 139 (owGMod (Ow.row 3 (Ow.frz (α:=Int))) oAtt)) (oneB none) [])] a w) ?_ λ n137=>?_
 ·rintro _ _ ⟨_,Q,g113701,H,u⟩
  refine aK2 12 19 ?_ ?_
  ·refine u.apA 2 y7 p26 [0,26,62] [4,9,15,22] λ g311 _ _ _ u=>?_
   have u:=u.gn
   exact aHe n169 (u.fzS (g:=62))
  ·refine u.alcW (ow:=(owGResult (Ow.row 3 (Ow.frz (α:=Int))) (Ow.row 3 (Ow.frz (α:=Int))) (Ow.row 160 (Ow.frz (α:=GEvent))) (Ow.row 139 (owGMod (Ow.row 3 (Ow.frz (α:=Int))) oAtt)))) 12 (owGResult.z Ow.row_z Ow.row_z Ow.row_z Ow.row_z) [0,20,26,62] [4,9,15,16,22] λ b313 _ _ _ u=>?_
   have u:=u.gn
   have u:=u.unm (s:=5) 12 [4,9,15,16,22]
   exact aHe n180 (u.fzS (g:=62))
 refine wa 4 774143 (λ a w=>∃ M1 Q g114101 H I,Sx (Frm.chg w0 G) 62 M M1 [Q,oneB g114101,oneB none,oneB none,oneB none,oneB none,oneB none,oneB none,oneB none,oneB none,oneB none,H,I,oneB none] [(0,dptr x0),(20,dt x0.log),(26,dt x0.left),(62,dfz c3)] [(15,1,dtip g114101 3 v20),(16,2,dtip none 160 ([]:List GEvent)),(4,11,dow (Ow.box (owGResult (Ow.row 3 (Ow.frz (α:=Int))) (Ow.row 3 (Ow.frz (α:=Int))) (Ow.row 160 (Ow.frz (α:=GEvent))) (Ow.row 139 (owGMod (Ow.row 3 (Ow.frz (α:=Int))) oAtt)))) H ⟨zI⟩),(5,12,dow (Ow.box (owGResult (Ow.row 3 (Ow.frz (α:=Int))) (Ow.row 3 (Ow.frz (α:=Int))) (Ow.row 160 (Ow.frz (α:=GEvent))) (Ow.row 139 (owGMod (Ow.row 3 (Ow.frz (α:=Int))) oAtt)))) I ⟨zI⟩),(9,0,dow (Ow.row 3 (Ow.frz (α:=Int))) Q x1)] a w) ?_ λ n141=>?_
 ·rintro _ _ ⟨_,Q,g114101,H,I,u⟩
  refine aK2 12 13 ?_ ?_
  ·refine u.apA 2 y7 p26 [0,26,62] [4,5,9,15] λ g317 _ _ _ u=>?_
   have u:=u.gn
   exact aHe n173 (u.fzS (g:=62))
  ·refine u.segB 1 (sc Z (zO (α:=GMod) (e:=139) Z)<|.nil) [0,20,26,62] [(4,11),(5,12),(9,0),(15,1),(16,2),(22,3)] λ _ _ u=>?_
   have u:=u.tip0 (s:=22) (e':=139) (oy:=(owGMod (Ow.row 3 (Ow.frz (α:=Int))) oAtt)) 3 [4,5,9,15,16]
   exact aHe n180 (u.fzS (g:=62))
 refine wa 4 782207 (λ a w=>∃ M1 Q g114601 H I,Sx (Frm.chg w0 G) 62 M M1 [Q,oneB g114601,oneB none,oneB none,oneB none,oneB none,oneB none,oneB none,oneB none,oneB none,oneB none,H,I,oneB none] [(0,dptr x0),(20,dt x0.log),(26,dt x0.left),(62,dfz c3)] [(15,1,dtip g114601 3 v20),(4,11,dow (Ow.box (owGResult (Ow.row 3 (Ow.frz (α:=Int))) (Ow.row 3 (Ow.frz (α:=Int))) (Ow.row 160 (Ow.frz (α:=GEvent))) (Ow.row 139 (owGMod (Ow.row 3 (Ow.frz (α:=Int))) oAtt)))) H ⟨zI⟩),(5,12,dow (Ow.box (owGResult (Ow.row 3 (Ow.frz (α:=Int))) (Ow.row 3 (Ow.frz (α:=Int))) (Ow.row 160 (Ow.frz (α:=GEvent))) (Ow.row 139 (owGMod (Ow.row 3 (Ow.frz (α:=Int))) oAtt)))) I ⟨zI⟩),(9,0,dow (Ow.row 3 (Ow.frz (α:=Int))) Q x1),(22,3,dow (Ow.row 139 (owGMod (Ow.row 3 (Ow.frz (α:=Int))) oAtt)) (oneB none) [])] a w) ?_ λ n146=>?_
 ·rintro _ _ ⟨_,Q,g114601,H,I,u⟩
  refine aK1 7 ?_
  refine u.segB 1 (sc Z (zO (α:=GEvent) (e:=160) Z)<|.nil) [0,20,26,62] [(4,11),(5,12),(9,0),(15,1),(16,2),(22,3)] λ _ _ u=>?_
  exact aHe n180 (u.fzS (g:=62))
 refine wa 4 782271 (λ a w=>∃ M1 Q H I,Sx (Frm.chg w0 G) 62 M M1 [Q,oneB none,oneB none,oneB none,oneB none,oneB none,oneB none,oneB none,oneB none,oneB none,oneB none,H,I,oneB none] [(0,dptr x0),(14,dt x0.out),(20,dt x0.log),(26,dt x0.left),(62,dfz c3)] [(10,1,dtip none 3 ([]:List Int)),(16,2,dtip none 160 ([]:List GEvent)),(4,11,dow (Ow.box (owGResult (Ow.row 3 (Ow.frz (α:=Int))) (Ow.row 3 (Ow.frz (α:=Int))) (Ow.row 160 (Ow.frz (α:=GEvent))) (Ow.row 139 (owGMod (Ow.row 3 (Ow.frz (α:=Int))) oAtt)))) H ⟨zI⟩),(5,12,dow (Ow.box (owGResult (Ow.row 3 (Ow.frz (α:=Int))) (Ow.row 3 (Ow.frz (α:=Int))) (Ow.row 160 (Ow.frz (α:=GEvent))) (Ow.row 139 (owGMod (Ow.row 3 (Ow.frz (α:=Int))) oAtt)))) I ⟨zI⟩),(9,0,dow (Ow.row 3 (Ow.frz (α:=Int))) Q x1),(22,3,dow (Ow.row 139 (owGMod (Ow.row 3 (Ow.frz (α:=Int))) oAtt)) (oneB none) [])] a w) ?_ λ n156=>?_
 ·rintro _ _ ⟨_,Q,H,I,u⟩
  refine aK1 6 ?_
  refine u.apA 1 y7 p20 [0,20,26,62] [4,5,9,16,22] λ g323 _ _ _ u=>?_
  have u:=u.gn
  exact aHe n180 (u.fzS (g:=62))
 refine wa 5 249855 (λ a w=>∃ M1 Q g108901 H,Sx (Frm.chg w0 G) 62 M M1 [Q,oneB g108901,oneB none,oneB none,oneB none,oneB none,oneB none,oneB none,oneB none,oneB none,oneB none,H,oneB none,oneB none] [(0,dptr x0),(20,dt x0.log),(26,dt x0.left),(62,dfz c3)] [(15,1,dtip g108901 3 v20),(16,2,dtip none 160 ([]:List GEvent)),(4,11,dow (Ow.box (owGResult (Ow.row 3 (Ow.frz (α:=Int))) (Ow.row 3 (Ow.frz (α:=Int))) (Ow.row 160 (Ow.frz (α:=GEvent))) (Ow.row 139 (owGMod (Ow.row 3 (Ow.frz (α:=Int))) oAtt)))) H ⟨zI⟩),(9,0,dow (Ow.row 3 (Ow.frz (α:=Int))) Q x1)] a w) ?_ λ n89=>?_
 ·rintro _ _ ⟨_,Q,g108901,H,u⟩
  refine aH3 (i:=12) (j:=13) (k:=19) Z Z Z ?_ ?_ ?_
  ·refine u.apA 2 y7 p26 [0,26,62] [4,9,15] λ g326 _ _ _ u=>?_
   have u:=u.gn
   exact aHe n134 (u.fzS (g:=62))
  ·refine u.segB 1 (sc Z (zO (α:=GMod) (e:=139) Z)<|.nil) [0,20,26,62] [(4,11),(9,0),(15,1),(16,2),(22,3)] λ _ _ u=>?_
   have u:=u.tip0 (s:=22) (e':=139) (oy:=(owGMod (Ow.row 3 (Ow.frz (α:=Int))) oAtt)) 3 [4,9,15,16]
   exact aHe n137 (u.fzS (g:=62))
  ·refine u.alcW (ow:=(owGResult (Ow.row 3 (Ow.frz (α:=Int))) (Ow.row 3 (Ow.frz (α:=Int))) (Ow.row 160 (Ow.frz (α:=GEvent))) (Ow.row 139 (owGMod (Ow.row 3 (Ow.frz (α:=Int))) oAtt)))) 12 (owGResult.z Ow.row_z Ow.row_z Ow.row_z Ow.row_z) [0,20,26,62] [4,9,15,16] λ b330 _ _ _ u=>?_
   have u:=u.gn
   have u:=u.unm (s:=5) 12 [4,9,15,16]
   exact aHe n141 (u.fzS (g:=62))
 refine wa 5 257919 (λ a w=>∃ M1 Q g109201 H,Sx (Frm.chg w0 G) 62 M M1 [Q,oneB g109201,oneB none,oneB none,oneB none,oneB none,oneB none,oneB none,oneB none,oneB none,oneB none,H,oneB none,oneB none] [(0,dptr x0),(20,dt x0.log),(26,dt x0.left),(62,dfz c3)] [(15,1,dtip g109201 3 v20),(4,11,dow (Ow.box (owGResult (Ow.row 3 (Ow.frz (α:=Int))) (Ow.row 3 (Ow.frz (α:=Int))) (Ow.row 160 (Ow.frz (α:=GEvent))) (Ow.row 139 (owGMod (Ow.row 3 (Ow.frz (α:=Int))) oAtt)))) H ⟨zI⟩),(9,0,dow (Ow.row 3 (Ow.frz (α:=Int))) Q x1),(22,3,dow (Ow.row 139 (owGMod (Ow.row 3 (Ow.frz (α:=Int))) oAtt)) (oneB none) [])] a w) ?_ λ n92=>?_
 ·rintro _ _ ⟨_,Q,g109201,H,u⟩
  refine aK2 7 19 ?_ ?_
  ·refine u.segB 1 (sc Z (zO (α:=GEvent) (e:=160) Z)<|.nil) [0,20,26,62] [(4,11),(9,0),(15,1),(16,2),(22,3)] λ _ _ u=>?_
   exact aHe n137 (u.fzS (g:=62))
  ·refine u.alcW (ow:=(owGResult (Ow.row 3 (Ow.frz (α:=Int))) (Ow.row 3 (Ow.frz (α:=Int))) (Ow.row 160 (Ow.frz (α:=GEvent))) (Ow.row 139 (owGMod (Ow.row 3 (Ow.frz (α:=Int))) oAtt)))) 12 (owGResult.z Ow.row_z Ow.row_z Ow.row_z Ow.row_z) [0,20,26,62] [4,9,15,22] λ b334 _ _ _ u=>?_
   have u:=u.gn
   have u:=u.unm (s:=5) 12 [4,9,15,22]
   exact aHe n146 (u.fzS (g:=62))
 refine wa 5 774015 (λ a w=>∃ M1 Q g109601 H I,Sx (Frm.chg w0 G) 62 M M1 [Q,oneB g109601,oneB none,oneB none,oneB none,oneB none,oneB none,oneB none,oneB none,oneB none,oneB none,H,I,oneB none] [(0,dptr x0),(20,dt x0.log),(26,dt x0.left),(62,dfz c3)] [(15,1,dtip g109601 3 v20),(4,11,dow (Ow.box (owGResult (Ow.row 3 (Ow.frz (α:=Int))) (Ow.row 3 (Ow.frz (α:=Int))) (Ow.row 160 (Ow.frz (α:=GEvent))) (Ow.row 139 (owGMod (Ow.row 3 (Ow.frz (α:=Int))) oAtt)))) H ⟨zI⟩),(5,12,dow (Ow.box (owGResult (Ow.row 3 (Ow.frz (α:=Int))) (Ow.row 3 (Ow.frz (α:=Int))) (Ow.row 160 (Ow.frz (α:=GEvent))) (Ow.row 139 (owGMod (Ow.row 3 (Ow.frz (α:=Int))) oAtt)))) I ⟨zI⟩),(9,0,dow (Ow.row 3 (Ow.frz (α:=Int))) Q x1)] a w) ?_ λ n96=>?_
 ·rintro _ _ ⟨_,Q,g109601,H,I,u⟩
  refine aK2 7 13 ?_ ?_
  ·refine u.segB 1 (sc Z (zO (α:=GEvent) (e:=160) Z)<|.nil) [0,20,26,62] [(4,11),(5,12),(9,0),(15,1),(16,2)] λ _ _ u=>?_
   exact aHe n141 (u.fzS (g:=62))
  ·refine u.segB 1 (sc Z (zO (α:=GMod) (e:=139) Z)<|.nil) [0,20,26,62] [(4,11),(5,12),(9,0),(15,1),(22,3)] λ _ _ u=>?_
   have u:=u.tip0 (s:=22) (e':=139) (oy:=(owGMod (Ow.row 3 (Ow.frz (α:=Int))) oAtt)) 3 [4,5,9,15]
   exact aHe n146 (u.fzS (g:=62))
 refine wa 5 257983 (λ a w=>∃ M1 Q H,Sx (Frm.chg w0 G) 62 M M1 [Q,oneB none,oneB none,oneB none,oneB none,oneB none,oneB none,oneB none,oneB none,oneB none,oneB none,H,oneB none,oneB none] [(0,dptr x0),(14,dt x0.out),(20,dt x0.log),(26,dt x0.left),(62,dfz c3)] [(10,1,dtip none 3 ([]:List Int)),(16,2,dtip none 160 ([]:List GEvent)),(4,11,dow (Ow.box (owGResult (Ow.row 3 (Ow.frz (α:=Int))) (Ow.row 3 (Ow.frz (α:=Int))) (Ow.row 160 (Ow.frz (α:=GEvent))) (Ow.row 139 (owGMod (Ow.row 3 (Ow.frz (α:=Int))) oAtt)))) H ⟨zI⟩),(9,0,dow (Ow.row 3 (Ow.frz (α:=Int))) Q x1),(22,3,dow (Ow.row 139 (owGMod (Ow.row 3 (Ow.frz (α:=Int))) oAtt)) (oneB none) [])] a w) ?_ λ n102=>?_
 ·rintro _ _ ⟨_,Q,H,u⟩
  refine aK2 6 19 ?_ ?_
  ·refine u.apA 1 y7 p20 [0,20,26,62] [4,9,16,22] λ g341 _ _ _ u=>?_
   have u:=u.gn
   exact aHe n137 (u.fzS (g:=62))
  ·refine u.alcW (ow:=(owGResult (Ow.row 3 (Ow.frz (α:=Int))) (Ow.row 3 (Ow.frz (α:=Int))) (Ow.row 160 (Ow.frz (α:=GEvent))) (Ow.row 139 (owGMod (Ow.row 3 (Ow.frz (α:=Int))) oAtt)))) 12 (owGResult.z Ow.row_z Ow.row_z Ow.row_z Ow.row_z) [0,14,20,26,62] [4,9,10,16,22] λ b343 _ _ _ u=>?_
   have u:=u.gn
   have u:=u.unm (s:=5) 12 [4,9,10,16,22]
   exact aHe n156 (u.fzS (g:=62))
 refine wa 5 774079 (λ a w=>∃ M1 Q H I,Sx (Frm.chg w0 G) 62 M M1 [Q,oneB none,oneB none,oneB none,oneB none,oneB none,oneB none,oneB none,oneB none,oneB none,oneB none,H,I,oneB none] [(0,dptr x0),(14,dt x0.out),(20,dt x0.log),(26,dt x0.left),(62,dfz c3)] [(10,1,dtip none 3 ([]:List Int)),(16,2,dtip none 160 ([]:List GEvent)),(4,11,dow (Ow.box (owGResult (Ow.row 3 (Ow.frz (α:=Int))) (Ow.row 3 (Ow.frz (α:=Int))) (Ow.row 160 (Ow.frz (α:=GEvent))) (Ow.row 139 (owGMod (Ow.row 3 (Ow.frz (α:=Int))) oAtt)))) H ⟨zI⟩),(5,12,dow (Ow.box (owGResult (Ow.row 3 (Ow.frz (α:=Int))) (Ow.row 3 (Ow.frz (α:=Int))) (Ow.row 160 (Ow.frz (α:=GEvent))) (Ow.row 139 (owGMod (Ow.row 3 (Ow.frz (α:=Int))) oAtt)))) I ⟨zI⟩),(9,0,dow (Ow.row 3 (Ow.frz (α:=Int))) Q x1)] a w) ?_ λ n106=>?_
 ·rintro _ _ ⟨_,Q,H,I,u⟩
  refine aK2 6 13 ?_ ?_
  ·refine u.apA 1 y7 p20 [0,20,26,62] [4,5,9,16] λ g347 _ _ _ u=>?_
   have u:=u.gn
   exact aHe n141 (u.fzS (g:=62))
  ·refine u.segB 1 (sc Z (zO (α:=GMod) (e:=139) Z)<|.nil) [0,14,20,26,62] [(4,11),(5,12),(9,0),(10,1),(16,2),(22,3)] λ _ _ u=>?_
   have u:=u.tip0 (s:=22) (e':=139) (oy:=(owGMod (Ow.row 3 (Ow.frz (α:=Int))) oAtt)) 3 [4,5,9,10,16]
   exact aHe n156 (u.fzS (g:=62))
 refine wa 5 782143 (λ a w=>∃ M1 Q H I,Sx (Frm.chg w0 G) 62 M M1 [Q,oneB none,oneB none,oneB none,oneB none,oneB none,oneB none,oneB none,oneB none,oneB none,oneB none,H,I,oneB none] [(0,dptr x0),(14,dt x0.out),(20,dt x0.log),(26,dt x0.left),(62,dfz c3)] [(10,1,dtip none 3 ([]:List Int)),(4,11,dow (Ow.box (owGResult (Ow.row 3 (Ow.frz (α:=Int))) (Ow.row 3 (Ow.frz (α:=Int))) (Ow.row 160 (Ow.frz (α:=GEvent))) (Ow.row 139 (owGMod (Ow.row 3 (Ow.frz (α:=Int))) oAtt)))) H ⟨zI⟩),(5,12,dow (Ow.box (owGResult (Ow.row 3 (Ow.frz (α:=Int))) (Ow.row 3 (Ow.frz (α:=Int))) (Ow.row 160 (Ow.frz (α:=GEvent))) (Ow.row 139 (owGMod (Ow.row 3 (Ow.frz (α:=Int))) oAtt)))) I ⟨zI⟩),(9,0,dow (Ow.row 3 (Ow.frz (α:=Int))) Q x1),(22,3,dow (Ow.row 139 (owGMod (Ow.row 3 (Ow.frz (α:=Int))) oAtt)) (oneB none) [])] a w) ?_ λ n114=>?_
 ·rintro _ _ ⟨_,Q,H,I,u⟩
  refine aK2 6 7 ?_ ?_
  ·refine u.apA 1 y7 p20 [0,20,26,62] [4,5,9,22] λ g352 _ _ _ u=>?_
   have u:=u.gn
   exact aHe n146 (u.fzS (g:=62))
  ·refine u.segB 1 (sc Z (zO (α:=GEvent) (e:=160) Z)<|.nil) [0,14,20,26,62] [(4,11),(5,12),(9,0),(10,1),(16,2),(22,3)] λ _ _ u=>?_
   exact aHe n156 (u.fzS (g:=62))
 refine wa 5 782269 (λ a w=>∃ M1 Q H I,Sx (Frm.chg w0 G) 62 M M1 [Q,oneB none,oneB none,oneB none,oneB none,oneB none,oneB none,oneB none,oneB none,oneB none,oneB none,H,I,oneB none] [(0,dptr x0),(14,dt x0.out),(20,dt x0.log),(26,dt x0.left),(62,dfz c3)] [(16,2,dtip none 160 ([]:List GEvent)),(4,11,dow (Ow.box (owGResult (Ow.row 3 (Ow.frz (α:=Int))) (Ow.row 3 (Ow.frz (α:=Int))) (Ow.row 160 (Ow.frz (α:=GEvent))) (Ow.row 139 (owGMod (Ow.row 3 (Ow.frz (α:=Int))) oAtt)))) H ⟨zI⟩),(5,12,dow (Ow.box (owGResult (Ow.row 3 (Ow.frz (α:=Int))) (Ow.row 3 (Ow.frz (α:=Int))) (Ow.row 160 (Ow.frz (α:=GEvent))) (Ow.row 139 (owGMod (Ow.row 3 (Ow.frz (α:=Int))) oAtt)))) I ⟨zI⟩),(9,0,dow (Ow.row 3 (Ow.frz (α:=Int))) Q x1),(22,3,dow (Ow.row 139 (owGMod (Ow.row 3 (Ow.frz (α:=Int))) oAtt)) (oneB none) [])] a w) ?_ λ n125=>?_
 ·rintro _ _ ⟨_,Q,H,I,u⟩
  refine aK1 1 ?_
  refine u.segB 1 (sc Z (zO (α:=Int) (e:=3) Z)<|.nil) [0,14,20,26,62] [(4,11),(5,12),(9,0),(10,1),(16,2),(22,3)] λ _ _ u=>?_
  exact aHe n156 (u.fzS (g:=62))
 refine wa 6 249727 (λ a w=>∃ M1 Q g106001 H,Sx (Frm.chg w0 G) 62 M M1 [Q,oneB g106001,oneB none,oneB none,oneB none,oneB none,oneB none,oneB none,oneB none,oneB none,oneB none,H,oneB none,oneB none] [(0,dptr x0),(20,dt x0.log),(26,dt x0.left),(62,dfz c3)] [(15,1,dtip g106001 3 v20),(4,11,dow (Ow.box (owGResult (Ow.row 3 (Ow.frz (α:=Int))) (Ow.row 3 (Ow.frz (α:=Int))) (Ow.row 160 (Ow.frz (α:=GEvent))) (Ow.row 139 (owGMod (Ow.row 3 (Ow.frz (α:=Int))) oAtt)))) H ⟨zI⟩),(9,0,dow (Ow.row 3 (Ow.frz (α:=Int))) Q x1)] a w) ?_ λ n60=>?_
 ·rintro _ _ ⟨_,Q,g106001,H,u⟩
  refine aH3 (i:=7) (j:=13) (k:=19) Z Z Z ?_ ?_ ?_
  ·refine u.segB 1 (sc Z (zO (α:=GEvent) (e:=160) Z)<|.nil) [0,20,26,62] [(4,11),(9,0),(15,1),(16,2)] λ _ _ u=>?_
   exact aHe n89 (u.fzS (g:=62))
  ·refine u.segB 1 (sc Z (zO (α:=GMod) (e:=139) Z)<|.nil) [0,20,26,62] [(4,11),(9,0),(15,1),(22,3)] λ _ _ u=>?_
   have u:=u.tip0 (s:=22) (e':=139) (oy:=(owGMod (Ow.row 3 (Ow.frz (α:=Int))) oAtt)) 3 [4,9,15]
   exact aHe n92 (u.fzS (g:=62))
  ·refine u.alcW (ow:=(owGResult (Ow.row 3 (Ow.frz (α:=Int))) (Ow.row 3 (Ow.frz (α:=Int))) (Ow.row 160 (Ow.frz (α:=GEvent))) (Ow.row 139 (owGMod (Ow.row 3 (Ow.frz (α:=Int))) oAtt)))) 12 (owGResult.z Ow.row_z Ow.row_z Ow.row_z Ow.row_z) [0,20,26,62] [4,9,15] λ b359 _ _ _ u=>?_
   have u:=u.gn
   have u:=u.unm (s:=5) 12 [4,9,15]
   exact aHe n96 (u.fzS (g:=62))
 refine wa 6 249791 (λ a w=>∃ M1 Q H,Sx (Frm.chg w0 G) 62 M M1 [Q,oneB none,oneB none,oneB none,oneB none,oneB none,oneB none,oneB none,oneB none,oneB none,oneB none,H,oneB none,oneB none] [(0,dptr x0),(14,dt x0.out),(20,dt x0.log),(26,dt x0.left),(62,dfz c3)] [(10,1,dtip none 3 ([]:List Int)),(16,2,dtip none 160 ([]:List GEvent)),(4,11,dow (Ow.box (owGResult (Ow.row 3 (Ow.frz (α:=Int))) (Ow.row 3 (Ow.frz (α:=Int))) (Ow.row 160 (Ow.frz (α:=GEvent))) (Ow.row 139 (owGMod (Ow.row 3 (Ow.frz (α:=Int))) oAtt)))) H ⟨zI⟩),(9,0,dow (Ow.row 3 (Ow.frz (α:=Int))) Q x1)] a w) ?_ λ n62=>?_
 ·rintro _ _ ⟨_,Q,H,u⟩
  refine aH3 (i:=6) (j:=13) (k:=19) Z Z Z ?_ ?_ ?_
  ·refine u.apA 1 y7 p20 [0,20,26,62] [4,9,16] λ g363 _ _ _ u=>?_
   have u:=u.gn
   exact aHe n89 (u.fzS (g:=62))
  ·refine u.segB 1 (sc Z (zO (α:=GMod) (e:=139) Z)<|.nil) [0,14,20,26,62] [(4,11),(9,0),(10,1),(16,2),(22,3)] λ _ _ u=>?_
   have u:=u.tip0 (s:=22) (e':=139) (oy:=(owGMod (Ow.row 3 (Ow.frz (α:=Int))) oAtt)) 3 [4,9,10,16]
   exact aHe n102 (u.fzS (g:=62))
  ·refine u.alcW (ow:=(owGResult (Ow.row 3 (Ow.frz (α:=Int))) (Ow.row 3 (Ow.frz (α:=Int))) (Ow.row 160 (Ow.frz (α:=GEvent))) (Ow.row 139 (owGMod (Ow.row 3 (Ow.frz (α:=Int))) oAtt)))) 12 (owGResult.z Ow.row_z Ow.row_z Ow.row_z Ow.row_z) [0,14,20,26,62] [4,9,10,16] λ b367 _ _ _ u=>?_
   have u:=u.gn
   have u:=u.unm (s:=5) 12 [4,9,10,16]
   exact aHe n106 (u.fzS (g:=62))
 refine wa 6 257855 (λ a w=>∃ M1 Q H,Sx (Frm.chg w0 G) 62 M M1 [Q,oneB none,oneB none,oneB none,oneB none,oneB none,oneB none,oneB none,oneB none,oneB none,oneB none,H,oneB none,oneB none] [(0,dptr x0),(14,dt x0.out),(20,dt x0.log),(26,dt x0.left),(62,dfz c3)] [(10,1,dtip none 3 ([]:List Int)),(4,11,dow (Ow.box (owGResult (Ow.row 3 (Ow.frz (α:=Int))) (Ow.row 3 (Ow.frz (α:=Int))) (Ow.row 160 (Ow.frz (α:=GEvent))) (Ow.row 139 (owGMod (Ow.row 3 (Ow.frz (α:=Int))) oAtt)))) H ⟨zI⟩),(9,0,dow (Ow.row 3 (Ow.frz (α:=Int))) Q x1),(22,3,dow (Ow.row 139 (owGMod (Ow.row 3 (Ow.frz (α:=Int))) oAtt)) (oneB none) [])] a w) ?_ λ n65=>?_
 ·rintro _ _ ⟨_,Q,H,u⟩
  refine aH3 (i:=6) (j:=7) (k:=19) Z Z Z ?_ ?_ ?_
  ·refine u.apA 1 y7 p20 [0,20,26,62] [4,9,22] λ g371 _ _ _ u=>?_
   have u:=u.gn
   exact aHe n92 (u.fzS (g:=62))
  ·refine u.segB 1 (sc Z (zO (α:=GEvent) (e:=160) Z)<|.nil) [0,14,20,26,62] [(4,11),(9,0),(10,1),(16,2),(22,3)] λ _ _ u=>?_
   exact aHe n102 (u.fzS (g:=62))
  ·refine u.alcW (ow:=(owGResult (Ow.row 3 (Ow.frz (α:=Int))) (Ow.row 3 (Ow.frz (α:=Int))) (Ow.row 160 (Ow.frz (α:=GEvent))) (Ow.row 139 (owGMod (Ow.row 3 (Ow.frz (α:=Int))) oAtt)))) 12 (owGResult.z Ow.row_z Ow.row_z Ow.row_z Ow.row_z) [0,14,20,26,62] [4,9,10,22] λ b374 _ _ _ u=>?_
   have u:=u.gn
   have u:=u.unm (s:=5) 12 [4,9,10,22]
   exact aHe n114 (u.fzS (g:=62))
 refine wa 6 773951 (λ a w=>∃ M1 Q H I,Sx (Frm.chg w0 G) 62 M M1 [Q,oneB none,oneB none,oneB none,oneB none,oneB none,oneB none,oneB none,oneB none,oneB none,oneB none,H,I,oneB none] [(0,dptr x0),(14,dt x0.out),(20,dt x0.log),(26,dt x0.left),(62,dfz c3)] [(10,1,dtip none 3 ([]:List Int)),(4,11,dow (Ow.box (owGResult (Ow.row 3 (Ow.frz (α:=Int))) (Ow.row 3 (Ow.frz (α:=Int))) (Ow.row 160 (Ow.frz (α:=GEvent))) (Ow.row 139 (owGMod (Ow.row 3 (Ow.frz (α:=Int))) oAtt)))) H ⟨zI⟩),(5,12,dow (Ow.box (owGResult (Ow.row 3 (Ow.frz (α:=Int))) (Ow.row 3 (Ow.frz (α:=Int))) (Ow.row 160 (Ow.frz (α:=GEvent))) (Ow.row 139 (owGMod (Ow.row 3 (Ow.frz (α:=Int))) oAtt)))) I ⟨zI⟩),(9,0,dow (Ow.row 3 (Ow.frz (α:=Int))) Q x1)] a w) ?_ λ n69=>?_
 ·rintro _ _ ⟨_,Q,H,I,u⟩
  refine aH3 (i:=6) (j:=7) (k:=13) Z Z Z ?_ ?_ ?_
  ·refine u.apA 1 y7 p20 [0,20,26,62] [4,5,9] λ g378 _ _ _ u=>?_
   have u:=u.gn
   exact aHe n96 (u.fzS (g:=62))
  ·refine u.segB 1 (sc Z (zO (α:=GEvent) (e:=160) Z)<|.nil) [0,14,20,26,62] [(4,11),(5,12),(9,0),(10,1),(16,2)] λ _ _ u=>?_
   exact aHe n106 (u.fzS (g:=62))
  ·refine u.segB 1 (sc Z (zO (α:=GMod) (e:=139) Z)<|.nil) [0,14,20,26,62] [(4,11),(5,12),(9,0),(10,1),(22,3)] λ _ _ u=>?_
   have u:=u.tip0 (s:=22) (e':=139) (oy:=(owGMod (Ow.row 3 (Ow.frz (α:=Int))) oAtt)) 3 [4,5,9,10]
   exact aHe n114 (u.fzS (g:=62))
 refine wa 6 257981 (λ a w=>∃ M1 Q H,Sx (Frm.chg w0 G) 62 M M1 [Q,oneB none,oneB none,oneB none,oneB none,oneB none,oneB none,oneB none,oneB none,oneB none,oneB none,H,oneB none,oneB none] [(0,dptr x0),(14,dt x0.out),(20,dt x0.log),(26,dt x0.left),(62,dfz c3)] [(16,2,dtip none 160 ([]:List GEvent)),(4,11,dow (Ow.box (owGResult (Ow.row 3 (Ow.frz (α:=Int))) (Ow.row 3 (Ow.frz (α:=Int))) (Ow.row 160 (Ow.frz (α:=GEvent))) (Ow.row 139 (owGMod (Ow.row 3 (Ow.frz (α:=Int))) oAtt)))) H ⟨zI⟩),(9,0,dow (Ow.row 3 (Ow.frz (α:=Int))) Q x1),(22,3,dow (Ow.row 139 (owGMod (Ow.row 3 (Ow.frz (α:=Int))) oAtt)) (oneB none) [])] a w) ?_ λ n73=>?_
 ·rintro _ _ ⟨_,Q,H,u⟩
  refine aK2 1 19 ?_ ?_
  ·refine u.segB 1 (sc Z (zO (α:=Int) (e:=3) Z)<|.nil) [0,14,20,26,62] [(4,11),(9,0),(10,1),(16,2),(22,3)] λ _ _ u=>?_
   exact aHe n102 (u.fzS (g:=62))
  ·refine u.alcW (ow:=(owGResult (Ow.row 3 (Ow.frz (α:=Int))) (Ow.row 3 (Ow.frz (α:=Int))) (Ow.row 160 (Ow.frz (α:=GEvent))) (Ow.row 139 (owGMod (Ow.row 3 (Ow.frz (α:=Int))) oAtt)))) 12 (owGResult.z Ow.row_z Ow.row_z Ow.row_z Ow.row_z) [0,14,20,26,62] [4,9,16,22] λ b384 _ _ _ u=>?_
   have u:=u.gn
   have u:=u.unm (s:=5) 12 [4,9,16,22]
   exact aHe n125 (u.fzS (g:=62))
 refine wa 6 774077 (λ a w=>∃ M1 Q H I,Sx (Frm.chg w0 G) 62 M M1 [Q,oneB none,oneB none,oneB none,oneB none,oneB none,oneB none,oneB none,oneB none,oneB none,oneB none,H,I,oneB none] [(0,dptr x0),(14,dt x0.out),(20,dt x0.log),(26,dt x0.left),(62,dfz c3)] [(16,2,dtip none 160 ([]:List GEvent)),(4,11,dow (Ow.box (owGResult (Ow.row 3 (Ow.frz (α:=Int))) (Ow.row 3 (Ow.frz (α:=Int))) (Ow.row 160 (Ow.frz (α:=GEvent))) (Ow.row 139 (owGMod (Ow.row 3 (Ow.frz (α:=Int))) oAtt)))) H ⟨zI⟩),(5,12,dow (Ow.box (owGResult (Ow.row 3 (Ow.frz (α:=Int))) (Ow.row 3 (Ow.frz (α:=Int))) (Ow.row 160 (Ow.frz (α:=GEvent))) (Ow.row 139 (owGMod (Ow.row 3 (Ow.frz (α:=Int))) oAtt)))) I ⟨zI⟩),(9,0,dow (Ow.row 3 (Ow.frz (α:=Int))) Q x1)] a w) ?_ λ n77=>?_
 ·rintro _ _ ⟨_,Q,H,I,u⟩
  refine aK2 1 13 ?_ ?_
  ·refine u.segB 1 (sc Z (zO (α:=Int) (e:=3) Z)<|.nil) [0,14,20,26,62] [(4,11),(5,12),(9,0),(10,1),(16,2)] λ _ _ u=>?_
   exact aHe n106 (u.fzS (g:=62))
  ·refine u.segB 1 (sc Z (zO (α:=GMod) (e:=139) Z)<|.nil) [0,14,20,26,62] [(4,11),(5,12),(9,0),(16,2),(22,3)] λ _ _ u=>?_
   have u:=u.tip0 (s:=22) (e':=139) (oy:=(owGMod (Ow.row 3 (Ow.frz (α:=Int))) oAtt)) 3 [4,5,9,16]
   exact aHe n125 (u.fzS (g:=62))
 refine wa 6 782141 (λ a w=>∃ M1 Q H I,Sx (Frm.chg w0 G) 62 M M1 [Q,oneB none,oneB none,oneB none,oneB none,oneB none,oneB none,oneB none,oneB none,oneB none,oneB none,H,I,oneB none] [(0,dptr x0),(14,dt x0.out),(20,dt x0.log),(26,dt x0.left),(62,dfz c3)] [(4,11,dow (Ow.box (owGResult (Ow.row 3 (Ow.frz (α:=Int))) (Ow.row 3 (Ow.frz (α:=Int))) (Ow.row 160 (Ow.frz (α:=GEvent))) (Ow.row 139 (owGMod (Ow.row 3 (Ow.frz (α:=Int))) oAtt)))) H ⟨zI⟩),(5,12,dow (Ow.box (owGResult (Ow.row 3 (Ow.frz (α:=Int))) (Ow.row 3 (Ow.frz (α:=Int))) (Ow.row 160 (Ow.frz (α:=GEvent))) (Ow.row 139 (owGMod (Ow.row 3 (Ow.frz (α:=Int))) oAtt)))) I ⟨zI⟩),(9,0,dow (Ow.row 3 (Ow.frz (α:=Int))) Q x1),(22,3,dow (Ow.row 139 (owGMod (Ow.row 3 (Ow.frz (α:=Int))) oAtt)) (oneB none) [])] a w) ?_ λ n83=>?_
 ·rintro _ _ ⟨_,Q,H,I,u⟩
  refine aK2 1 7 ?_ ?_
  ·refine u.segB 1 (sc Z (zO (α:=Int) (e:=3) Z)<|.nil) [0,14,20,26,62] [(4,11),(5,12),(9,0),(10,1),(22,3)] λ _ _ u=>?_
   exact aHe n114 (u.fzS (g:=62))
  ·refine u.segB 1 (sc Z (zO (α:=GEvent) (e:=160) Z)<|.nil) [0,14,20,26,62] [(4,11),(5,12),(9,0),(16,2),(22,3)] λ _ _ u=>?_
   exact aHe n125 (u.fzS (g:=62))
 refine wa 7 249663 (λ a w=>∃ M1 Q H,Sx (Frm.chg w0 G) 62 M M1 [Q,oneB none,oneB none,oneB none,oneB none,oneB none,oneB none,oneB none,oneB none,oneB none,oneB none,H,oneB none,oneB none] [(0,dptr x0),(14,dt x0.out),(20,dt x0.log),(26,dt x0.left),(62,dfz c3)] [(10,1,dtip none 3 ([]:List Int)),(4,11,dow (Ow.box (owGResult (Ow.row 3 (Ow.frz (α:=Int))) (Ow.row 3 (Ow.frz (α:=Int))) (Ow.row 160 (Ow.frz (α:=GEvent))) (Ow.row 139 (owGMod (Ow.row 3 (Ow.frz (α:=Int))) oAtt)))) H ⟨zI⟩),(9,0,dow (Ow.row 3 (Ow.frz (α:=Int))) Q x1)] a w) ?_ λ n44=>?_
 ·rintro _ _ ⟨_,Q,H,u⟩
  refine aH4 (i:=6) (j:=7) (k:=13) (l:=19) Z Z Z Z ?_ ?_ ?_ ?_
  ·refine u.apA 1 y7 p20 [0,20,26,62] [4,9] λ g393 _ _ _ u=>?_
   have u:=u.gn
   exact aHe n60 (u.fzS (g:=62))
  ·refine u.segB 1 (sc Z (zO (α:=GEvent) (e:=160) Z)<|.nil) [0,14,20,26,62] [(4,11),(9,0),(10,1),(16,2)] λ _ _ u=>?_
   exact aHe n62 (u.fzS (g:=62))
  ·refine u.segB 1 (sc Z (zO (α:=GMod) (e:=139) Z)<|.nil) [0,14,20,26,62] [(4,11),(9,0),(10,1),(22,3)] λ _ _ u=>?_
   have u:=u.tip0 (s:=22) (e':=139) (oy:=(owGMod (Ow.row 3 (Ow.frz (α:=Int))) oAtt)) 3 [4,9,10]
   exact aHe n65 (u.fzS (g:=62))
  ·refine u.alcW (ow:=(owGResult (Ow.row 3 (Ow.frz (α:=Int))) (Ow.row 3 (Ow.frz (α:=Int))) (Ow.row 160 (Ow.frz (α:=GEvent))) (Ow.row 139 (owGMod (Ow.row 3 (Ow.frz (α:=Int))) oAtt)))) 12 (owGResult.z Ow.row_z Ow.row_z Ow.row_z Ow.row_z) [0,14,20,26,62] [4,9,10] λ b398 _ _ _ u=>?_
   have u:=u.gn
   have u:=u.unm (s:=5) 12 [4,9,10]
   exact aHe n69 (u.fzS (g:=62))
 refine wa 7 249789 (λ a w=>∃ M1 Q H,Sx (Frm.chg w0 G) 62 M M1 [Q,oneB none,oneB none,oneB none,oneB none,oneB none,oneB none,oneB none,oneB none,oneB none,oneB none,H,oneB none,oneB none] [(0,dptr x0),(14,dt x0.out),(20,dt x0.log),(26,dt x0.left),(62,dfz c3)] [(16,2,dtip none 160 ([]:List GEvent)),(4,11,dow (Ow.box (owGResult (Ow.row 3 (Ow.frz (α:=Int))) (Ow.row 3 (Ow.frz (α:=Int))) (Ow.row 160 (Ow.frz (α:=GEvent))) (Ow.row 139 (owGMod (Ow.row 3 (Ow.frz (α:=Int))) oAtt)))) H ⟨zI⟩),(9,0,dow (Ow.row 3 (Ow.frz (α:=Int))) Q x1)] a w) ?_ λ n47=>?_
 ·rintro _ _ ⟨_,Q,H,u⟩
  refine aH3 (i:=1) (j:=13) (k:=19) Z Z Z ?_ ?_ ?_
  ·refine u.segB 1 (sc Z (zO (α:=Int) (e:=3) Z)<|.nil) [0,14,20,26,62] [(4,11),(9,0),(10,1),(16,2)] λ _ _ u=>?_
   exact aHe n62 (u.fzS (g:=62))
  ·refine u.segB 1 (sc Z (zO (α:=GMod) (e:=139) Z)<|.nil) [0,14,20,26,62] [(4,11),(9,0),(16,2),(22,3)] λ _ _ u=>?_
   have u:=u.tip0 (s:=22) (e':=139) (oy:=(owGMod (Ow.row 3 (Ow.frz (α:=Int))) oAtt)) 3 [4,9,16]
   exact aHe n73 (u.fzS (g:=62))
  ·refine u.alcW (ow:=(owGResult (Ow.row 3 (Ow.frz (α:=Int))) (Ow.row 3 (Ow.frz (α:=Int))) (Ow.row 160 (Ow.frz (α:=GEvent))) (Ow.row 139 (owGMod (Ow.row 3 (Ow.frz (α:=Int))) oAtt)))) 12 (owGResult.z Ow.row_z Ow.row_z Ow.row_z Ow.row_z) [0,14,20,26,62] [4,9,16] λ b404 _ _ _ u=>?_
   have u:=u.gn
   have u:=u.unm (s:=5) 12 [4,9,16]
   exact aHe n77 (u.fzS (g:=62))
 refine wa 7 257853 (λ a w=>∃ M1 Q H,Sx (Frm.chg w0 G) 62 M M1 [Q,oneB none,oneB none,oneB none,oneB none,oneB none,oneB none,oneB none,oneB none,oneB none,oneB none,H,oneB none,oneB none] [(0,dptr x0),(14,dt x0.out),(20,dt x0.log),(26,dt x0.left),(62,dfz c3)] [(4,11,dow (Ow.box (owGResult (Ow.row 3 (Ow.frz (α:=Int))) (Ow.row 3 (Ow.frz (α:=Int))) (Ow.row 160 (Ow.frz (α:=GEvent))) (Ow.row 139 (owGMod (Ow.row 3 (Ow.frz (α:=Int))) oAtt)))) H ⟨zI⟩),(9,0,dow (Ow.row 3 (Ow.frz (α:=Int))) Q x1),(22,3,dow (Ow.row 139 (owGMod (Ow.row 3 (Ow.frz (α:=Int))) oAtt)) (oneB none) [])] a w) ?_ λ n51=>?_
 ·rintro _ _ ⟨_,Q,H,u⟩
  refine aH3 (i:=1) (j:=7) (k:=19) Z Z Z ?_ ?_ ?_
  ·refine u.segB 1 (sc Z (zO (α:=Int) (e:=3) Z)<|.nil) [0,14,20,26,62] [(4,11),(9,0),(10,1),(22,3)] λ _ _ u=>?_
   exact aHe n65 (u.fzS (g:=62))
  ·refine u.segB 1 (sc Z (zO (α:=GEvent) (e:=160) Z)<|.nil) [0,14,20,26,62] [(4,11),(9,0),(16,2),(22,3)] λ _ _ u=>?_
   exact aHe n73 (u.fzS (g:=62))
  ·refine u.alcW (ow:=(owGResult (Ow.row 3 (Ow.frz (α:=Int))) (Ow.row 3 (Ow.frz (α:=Int))) (Ow.row 160 (Ow.frz (α:=GEvent))) (Ow.row 139 (owGMod (Ow.row 3 (Ow.frz (α:=Int))) oAtt)))) 12 (owGResult.z Ow.row_z Ow.row_z Ow.row_z Ow.row_z) [0,14,20,26,62] [4,9,22] λ b409 _ _ _ u=>?_
   have u:=u.gn
   have u:=u.unm (s:=5) 12 [4,9,22]
   exact aHe n83 (u.fzS (g:=62))
 refine wa 7 773949 (λ a w=>∃ M1 Q H I,Sx (Frm.chg w0 G) 62 M M1 [Q,oneB none,oneB none,oneB none,oneB none,oneB none,oneB none,oneB none,oneB none,oneB none,oneB none,H,I,oneB none] [(0,dptr x0),(14,dt x0.out),(20,dt x0.log),(26,dt x0.left),(62,dfz c3)] [(4,11,dow (Ow.box (owGResult (Ow.row 3 (Ow.frz (α:=Int))) (Ow.row 3 (Ow.frz (α:=Int))) (Ow.row 160 (Ow.frz (α:=GEvent))) (Ow.row 139 (owGMod (Ow.row 3 (Ow.frz (α:=Int))) oAtt)))) H ⟨zI⟩),(5,12,dow (Ow.box (owGResult (Ow.row 3 (Ow.frz (α:=Int))) (Ow.row 3 (Ow.frz (α:=Int))) (Ow.row 160 (Ow.frz (α:=GEvent))) (Ow.row 139 (owGMod (Ow.row 3 (Ow.frz (α:=Int))) oAtt)))) I ⟨zI⟩),(9,0,dow (Ow.row 3 (Ow.frz (α:=Int))) Q x1)] a w) ?_ λ n56=>?_
 ·rintro _ _ ⟨_,Q,H,I,u⟩
  refine aH3 (i:=1) (j:=7) (k:=13) Z Z Z ?_ ?_ ?_
  ·refine u.segB 1 (sc Z (zO (α:=Int) (e:=3) Z)<|.nil) [0,14,20,26,62] [(4,11),(5,12),(9,0),(10,1)] λ _ _ u=>?_
   exact aHe n69 (u.fzS (g:=62))
  ·refine u.segB 1 (sc Z (zO (α:=GEvent) (e:=160) Z)<|.nil) [0,14,20,26,62] [(4,11),(5,12),(9,0),(16,2)] λ _ _ u=>?_
   exact aHe n77 (u.fzS (g:=62))
  ·refine u.segB 1 (sc Z (zO (α:=GMod) (e:=139) Z)<|.nil) [0,14,20,26,62] [(4,11),(5,12),(9,0),(22,3)] λ _ _ u=>?_
   have u:=u.tip0 (s:=22) (e':=139) (oy:=(owGMod (Ow.row 3 (Ow.frz (α:=Int))) oAtt)) 3 [4,5,9]
   exact aHe n83 (u.fzS (g:=62))
 refine aH4 (i:=1) (j:=7) (k:=13) (l:=19) Z Z Z Z ?_ ?_ ?_ ?_
 ·refine u.segB 1 (sc Z (zO (α:=Int) (e:=3) Z)<|.nil) [0,14,20,26,62] [(4,11),(9,0),(10,1)] λ _ _ u=>?_
  have u:=u.unm (s:=4) 11 [9,10]
  exact aHe n44 (u.fzS (g:=62))
 ·refine u.segB 1 (sc Z (zO (α:=GEvent) (e:=160) Z)<|.nil) [0,14,20,26,62] [(4,11),(9,0),(16,2)] λ _ _ u=>?_
  have u:=u.unm (s:=4) 11 [9,16]
  exact aHe n47 (u.fzS (g:=62))
 ·refine u.segB 1 (sc Z (zO (α:=GMod) (e:=139) Z)<|.nil) [0,14,20,26,62] [(4,11),(9,0),(22,3)] λ _ _ u=>?_
  have u:=u.tip0 (s:=22) (e':=139) (oy:=(owGMod (Ow.row 3 (Ow.frz (α:=Int))) oAtt)) 3 [4,9]
  have u:=u.unm (s:=4) 11 [9,22]
  exact aHe n51 (u.fzS (g:=62))
 ·refine u.alcW (ow:=(owGResult (Ow.row 3 (Ow.frz (α:=Int))) (Ow.row 3 (Ow.frz (α:=Int))) (Ow.row 160 (Ow.frz (α:=GEvent))) (Ow.row 139 (owGMod (Ow.row 3 (Ow.frz (α:=Int))) oAtt)))) 12 (owGResult.z Ow.row_z Ow.row_z Ow.row_z Ow.row_z) [0,14,20,26,62] [4,9] λ b423 _ _ _ u=>?_
  have u:=u.gn
  have u:=u.unm (s:=4) 11 [5,9]
  have u:=u.unm (s:=5) 12 [4,9]
  exact aHe n56 (u.fzS (g:=62))
def qJ(R:Rec)(x2:List GCmd)(s33:Machine×(List Int)×Int):Option ((Machine×(List Int)×Int)⊕(Machine×(List Int))):=
if(cmpI .lss s33.2.2 (x2.length:Int))=true then((atI x2 s33.2.2).bind λ v38=>
(wA R s33.1 v38).bind λ v50=>
(appO 8 s33.2.1 ([v50.2]:List Int)).bind λ v59=>
(i64 (s33.2.2+(1:Int))).bind λ v64=>
some (.inl (v50.1,v59,v64)))
else(some (.inr (s33.1,s33.2.1)))
def wQ(R:Rec)(x0:Tree)(x1:List Int)(x2:List GCmd)(x3:Int):Option GResult:=
(wx x0).bind λ v4=>
(gO ((!v4) == false) (wy x1)).bind λ v5=>
(gO (((!v4)||(!v5)) == false) (xS x2)).bind λ v6=>
(gO ((((!v4)||(!v5))||(!v6)) == false) (yg x3 (0:Int) (120:Int))).bind λ v7=>
if((((!v4)||(!v5))||(!v6))||(!v7))=true then(some (⟨[],[],[],[],0⟩:GResult))
else((jZ x0 x1 x3).bind λ v22=>
Option.bind (α:=Machine×(List Int)) (zH (λ s33=>qJ R x2 s33) (v22,[],(0:Int))) λ o28=>
(qI o28.1 o28.2).bind λ v76=>
some v76)
theorem XO(hR:R.ok){x0:Tree}(h:wQ R x0 x1 x2 x3=some r):FnN prog 13 [dt x0,dt x1,dt x2,dt x3] (.ow (owGResult (Ow.row 3 (Ow.frz (α:=Int))) (Ow.row 3 (Ow.frz (α:=Int))) (Ow.row 160 (Ow.frz (α:=GEvent))) (Ow.row 139 (owGMod (Ow.row 3 (Ow.frz (α:=Int))) oAtt))) r):=by
 refine fnN (fn:=f13) 6 func13 Z Z (λ M w0 _ j=>wqw (Ka ?_))
 refine j.segA 1 [1,2,3,4] [] λ _ _ j=>?_
 refine j.alcW (ow:=(owGResult (Ow.row 3 (Ow.frz (α:=Int))) (Ow.row 3 (Ow.frz (α:=Int))) (Ow.row 160 (Ow.frz (α:=GEvent))) (Ow.row 139 (owGMod (Ow.row 3 (Ow.frz (α:=Int))) oAtt)))) 4 (owGResult.z Ow.row_z Ow.row_z Ow.row_z Ow.row_z) [1,2,3,4] [] λ b2 _ _ _ j=>?_
 have j:=j.gn
 refine Kb ?_
 have⟨v4,p4,v5,p5,h⟩:=Kg h
 have⟨v6,p6,v7,p7,h⟩:=Kg h
 refine j.rgB (sZ 1 (r:=by exact sc Z (oK (Xl p4))<|sZ 3 (r:=by exact sg Z Z (λ hg=>oK (Xm (gh hg p5)))<|sZ 4 (r:=by exact sg Z Z (λ hg=>oK (XL (gh hg p6)))<|sZ 4 (r:=by exact sg Z Z (λ hg=>oK (wH (gh hg p7)))<|segZ))))) [1,2,3,4,30] [(8,4)] λ _ _ j=>?_
 refine j.cq h (λ h=>?_) λ h=>?_
 ·refine Ka ?_
  refine j.bldW (ow:=(owGResult (Ow.row 3 (Ow.frz (α:=Int))) (Ow.row 3 (Ow.frz (α:=Int))) (Ow.row 160 (Ow.frz (α:=GEvent))) (Ow.row 139 (owGMod (Ow.row 3 (Ow.frz (α:=Int))) oAtt)))) (parts:=[]) (ns:=[1,1,1,1,1]) (zs:=Xk) (x:=(⟨[],[],[],[],0⟩:GResult)) 0 [] (by simp) (((owGResult (Ow.row 3 (Ow.frz (α:=Int))) (Ow.row 3 (Ow.frz (α:=Int))) (Ow.row 160 (Ow.frz (α:=GEvent))) (Ow.row 139 (owGMod (Ow.row 3 (Ow.frz (α:=Int))) oAtt)))).more (owGResult.mk (x:=(⟨[],[],[],[],0⟩:GResult)) (Ow.row_z _ _) (Ow.row_z _ _) (Ow.row_z _ _) (Ow.row_z _ _) ⟨Z,trivial⟩ (λ b h1=>(λ h2=>h2.elim (λ h2=>h2.elim) (λ h2=>h2.elim (λ h2=>h2.elim) (λ h2=>h2.elim)))) (λ b h1=>(λ h2=>h2.elim (λ h2=>h2.elim) (λ h2=>h2.elim))) (λ b h1=>(λ h2=>h2.elim))) (λ b=>(λ hb=>hb.elim (λ hb=>hb.elim) (λ hb=>hb.elim (λ hb=>hb.elim) (λ hb=>hb.elim (λ hb=>hb.elim) (λ hb=>hb.elim)))))) [] [8] λ G15 _ _ j=>?_
  have j:=j.gs (Gs':=[G15,oneB none,oneB none,oneB none,(oneB (some b2)),oneB none])
  have j:=j.gs (Gs':=[G15,oneB none,oneB none,oneB none,(oneB (some b2)),oneB none])
  refine j.stO (sb:=8) (tv:=31) 4 0 (PV.root.box Z) (zN Z) [] [] λ _ _ j=>?_
  have j:=j.gn
  refine Kb ?_
  exact j.rnC 4 iI h
 refine Ka ?_
 refine j.segA 3 [2,32,33,34] [(8,4)] λ _ _ j=>?_
 have⟨v22,p22,h⟩:=bs h
 refine j.cN (l:=[.tmp 32,.tmp 33,.tmp 34]) 1 (.cons (tp Z) (.cons (tp Z) (.cons (tp Z) .nil))) (zbz p22) [2] [8] λ _ _ _ _ j=>?_
 have j:=j.gn
 refine j.nmB (s:=35) 1 [8] λ b25 j=>?_
 refine j.segA 1 [2] [(8,4),(9,1)] (λ _ _ j=>Kb ?_)
 refine j.rgB (sc Z (zO (α:=Int) (e:=3) Z)<|segZ) [2] [(8,4),(9,1),(10,2)] (λ _ _ j=>za ?_)
 have⟨o28,p28,k28⟩:=bs h
 refine wqj (λ a w=>∃ M1 Q W X Y A B,Sx (Frm.of w0) 53 M M1 [Q,W,X,Y,A,oneB B] [] [(8,4,dow (Ow.box (owGResult (Ow.row 3 (Ow.frz (α:=Int))) (Ow.row 3 (Ow.frz (α:=Int))) (Ow.row 160 (Ow.frz (α:=GEvent))) (Ow.row 139 (owGMod (Ow.row 3 (Ow.frz (α:=Int))) oAtt)))) A ⟨zI⟩),(9,1,dow (oMac []) W ⟨o28.1⟩),(10,2,dow (Ow.row 3 (Ow.frz (α:=Int))) X o28.2)] a w) ?_ ?_
 ·refine j.rgA [37,38,39] [(8,4),(9,1),(10,2)] λ _ _ j=>?_
  have j:=j.unm (s:=8) 4 [9,10]
  have j:=j.unm (s:=9) 1 [8,10]
  have j:=j.tipW (s:=10) 2 (hG:=iE) [8,9]
  refine wql p28 (λ s33 a w=>∃ M1 Q W X Y A B,Sx (Frm.of w0) 53 M M1 [Q,W,X,Y,A,oneB B] [(37,dt x2),(38,dt (x2.length:Int)),(39,dt s33.2.2)] [(8,4,dow (Ow.box (owGResult (Ow.row 3 (Ow.frz (α:=Int))) (Ow.row 3 (Ow.frz (α:=Int))) (Ow.row 160 (Ow.frz (α:=GEvent))) (Ow.row 139 (owGMod (Ow.row 3 (Ow.frz (α:=Int))) oAtt)))) A ⟨zI⟩),(9,1,dow (oMac []) W ⟨s33.1⟩),(10,2,dow (Ow.row 3 (Ow.frz (α:=Int))) X s33.2.1)] a w) fx ?_
  rintro s33 z33 _ _ ⟨_,Q,W,X,Y,A,B,j⟩ hs33 hx33
  have h:qJ R x2 s33=some z33:=hs33
  unfold qJ at h
  refine j.rgA [37,38,39,40] [(8,4),(9,1),(10,2)] λ _ _ j=>?_
  refine j.cq h (λ h=>?_) λ h=>?_
  ·refine Ka ?_
   have⟨v38,p38,h⟩:=bs h
   refine j.segA 2 [37,38,39,42] [(8,4),(9,1),(10,2)] λ _ _ j=>?_
   refine j.alA 5 zrGCmd [37,38,39,42] [8,9,10] λ b42 _ _ _ j=>?_
   have j:=j.gn
   refine j.stA 12 5 FldS.id (tp Z) [37,38,39] [8,9,10] (λ _ _ j=>Kb (Ka ?_))
   refine j.nmR (s:=10) 2 [8,9,12] λ g46 A46 _ hA46 j=>?_
   refine j.nmB (s:=9) 1 [8,10,12] λ b47 j=>?_
   refine j.segB 3 (sc Z (oM Z (tp Z))<|sc Z (oM Z (tp Z))<|sc Z (yV Z (tp Z))<|.nil) [37,38,39,45] [(8,4),(9,1),(10,2),(43,2),(44,1)] λ _ _ j=>?_
   have⟨v50,p50,h⟩:=bs h
   refine j.cSF (l:=[.tmp 45]) 1 (j.bkN (s:=9) Z iI) Z Z kN52 ((j.st.has 44 _ Z).1.trans (j.st.has 9 _ Z).1.symm) (by simp) (.cons (tp Z) .nil) (zaV hR p50) [37,38,39] Z [8,10,43] Z Z (by decide) λ G49 _ _ _ j=>?_
   have j:=j.gs (Gs':=[Q,G49,X,Y,A,oneB (some b42)])
   refine j.seg 1 (
     sc Z (qf (opds:=[.tmp 46]) Z Z Z (.cons (tp Z) .nil))<|.nil) [37,38,39,47] Z [(8,4),(9,1),(10,2),(43,2)] Z ⟨iI,⟨iI,⟨iI,iT⟩⟩⟩ (λ _ _ j=>?_)
   have j:=j.unm (s:=43) 2 [8,9]
   refine j.tipR (s:=43) 2 (by first | (simp;done) | exact oD rfl) [8,9] λ g56 j=>?_
   have⟨v59,p59,h⟩:=bs h
   refine j.apA 2 y7 p59 [37,38,39] [8,9] λ g58 _ _ _ j=>?_
   have j:=j.gn
   refine j.segA 1 [37,38,39] [(8,4),(9,1),(10,2)] (λ _ _ j=>Kb ?_)
   have⟨v64,p64,h⟩:=bs h
   refine j.rgA [37,38,39] [(8,4),(9,1),(10,2)] λ _ _ j=>?_
   have j:=j.unm (s:=9) 1 [8,10]
   have j:=j.tipW (s:=10) 2 [8,9]
   exact flz h
  have h:=lo h hx33
  cases h
  exact fz
 rintro _ _ ⟨_,Q,W,X,Y,A,B,j⟩
 have h:=k28
 refine Ka ?_
 refine j.nmB (s:=9) 1 [8,10] λ b71 j=>?_
 refine j.nmR (s:=10) 2 [8,9] λ g72 A72 _ hA72 j=>?_
 refine j.segA 2 [] [(8,4),(50,1),(51,2)] λ _ _ j=>?_
 have j:=j.unm (s:=51) 2 [8,50]
 have⟨v76,p76,h⟩:=bs h
 refine j.cTLb (sb:=51) (l:=[.tmp 50]) 2 Z Z kN53 Z iI (.cons (lendNT j.ob 2 1 iI (tp Z)) .nil) (Js p76) (owGResult.full (Zg XJ) (Zg XJ) (Zg zcA) (Zg (owGMod.full (Zg XJ) (Zg zc2)))) [] Z [8] Z Z λ _ _ _ _ j=>?_
 have j:=j.gn
 refine j.nmB (s:=8) 4 [52] λ b80 j=>?_
 refine j.stO (sb:=8) (tv:=52) 4 2 (PV.root.box Z) (zN Z) [] [] λ _ _ j=>?_
 have j:=j.gn
 refine Kb ?_
 exact j.rnC 4 iI h
end Go.Proofs.YtbbfcjifihknnaaGreatDoor
