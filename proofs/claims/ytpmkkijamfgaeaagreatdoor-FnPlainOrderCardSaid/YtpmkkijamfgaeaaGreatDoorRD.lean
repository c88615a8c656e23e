import Derived.Test.YtpmkkijamfgaeaaGreatDoorRB
import Derived.Test.YtpmkkijamfgaeaaGreatDoorProg
import Derived.Test.YtpmkkijamfgaeaaGreatDoorRA
namespace Go.Proofs.YtpmkkijamfgaeaaGreatDoor
open Go.RowKit
attribute [local irreducible] OpRel OpdR
set_option maxRecDepth 10000
theorem zJ:Tryz.prog.follows .mixedOrders=true:=by kernel_rfl
theorem jO(n lo up:Int):Fn Tryz.prog 70 [dt n,dt lo,dt up] (dt (inR n lo up)):=by
 refine yB (fn:=Tryz.f70) Tryz.func70 rfl (oD rfl) (λ M _ _ hm st0=>?_);refine wp_seq ?_;refine zl st0 [0,1,2,6] (λ _ _ _ st1=>?_);refine za (wp_seq ?_);refine zp st1 (sc rfl ((zg rfl (zb rfl)))
  (sc rfl ((zg rfl (zb rfl)))
  (sc rfl ((xJ rfl (by decide) (zb rfl) (zb rfl)))
  (sc rfl ((zg rfl (zb rfl)))
  (.cons rfl (by decide) (.guarded rfl rfl (by decide) rfl zv (λ hg=>zg rfl (zb rfl)))
  (.cons rfl (by decide) (.guarded rfl rfl (by decide) rfl zv (λ hg=>zg rfl (zb rfl)))
  (.cons rfl (by decide) (.guarded rfl rfl (by decide) rfl zv (λ hg=>xJ rfl (by decide) (zn hg rfl) (zn hg rfl)))
  (sc rfl ((xe rfl (zb rfl) (zb rfl)))
  (sc rfl ((zz rfl (zb rfl)))
  .nil))))))))) [0,1,2,6] (λ _ _ _ st2=>?_)
 refine za (wp_ret ?_);refine ye rfl (λ _ h=>h) st2 (t:=6) rfl ?_;rfl
theorem zcV(l:List Str)(s:Str):Fn Tryz.prog 143 [dt l,dt s] (dt (textAt l s)):=by
 refine yB (fn:=Tryz.f143) Tryz.func143 rfl (oD rfl) (λ M w0 _ hm st0=>?_);have hlen:=st0.lenL (s:=0) rfl;refine wp_seq ?_;refine zl st0 [0,1,4] (λ _ _ _ st1=>?_);refine za (wp_seq (wp_seq ?_));refine zl st1 [0,1,4,5] (λ _ _ _ st2=>?_);refine za (wp_block ?_);refine qk (ι:=Nat) (λ k a w=>St (Frm.of w0) 19 M [(0,dt l),(1,dt s),(5,dt (k:Int))] a w/\k<=l.length/\(l.take k).any (λ x=>decide (x=s))=false) (λ k=>l.length - k) 0 ?_ ?_
 ·
  exact⟨st2.pick (kc 0 rfl (kc 1 rfl (kc 5 rfl .nil))),Nat.zero_le _,by simp⟩
 ·
  rintro k a3 w3 ⟨st3,hk,hp⟩
  refine wp_seq (wp_seq ?_);refine zl st3 [0,1,5,9] (λ _ _ _ st4=>?_);refine za ?_;refine zI (c:=9) st4 rfl (λ h1=>?_) (λ h1=>?_)
  ·
   obtain⟨x,hx⟩:=XI h1;have hlt:=zA hx;refine wp_skip (za (wp_seq (wp_block (wp_seq ?_))));refine zp st4 (sc rfl ((zg rfl (zb rfl)))
    (sc rfl ((zg rfl (zb rfl)))
    (sc rfl ((yL rfl (by kernel_rfl) (zb rfl) (zb rfl) rfl (by assumption)))
    (sc rfl ((zr rfl (by kernel_rfl) (zb rfl)))
    (sc rfl ((zg rfl (zb rfl)))
    (sc rfl ((qQ rfl (zb rfl) (zb rfl)))
    .nil)))))) [0,1,5,9,17] (λ _ _ _ st5=>?_)
   refine za ?_;refine zI (c:=17) st5 rfl (λ h2=>?_) (λ h2=>?_)
   ·
    have ht:=h2;refine wp_seq ?_;refine zl st5 [0,1,4,5,9,17] (λ _ _ _ st6=>?_);refine za ?_;refine wp_ret (zt (ze (ze (zt (ze ?_)))));refine ye rfl (λ _ h=>h) st6 (t:=4) rfl ?_;exact(idx_hit hp hx ht).symm
   ·
    have hf:=h2;refine wp_skip (zf (za ?_));refine zp st5 (sc rfl ((zg rfl (zb rfl)))
     (sc rfl ((jy rfl (by decide) (zb rfl) zM (by simp only[arI];omega)))
     (sc rfl ((zz rfl (zb rfl)))
     .nil))) [0,1,5,9,17] (λ _ _ _ st7=>?_)
    refine za ⟨k+1,⟨st7.pick (kc 0 rfl (kc 1 rfl (kc 5 rfl .nil))),by omega,zaW hx hp hf⟩,by omega⟩
  ·
   have hend:=XJ h1;refine wp_exit (zh (zh (zy ?_)));refine za (wp_seq ?_);refine zl st4 [0,1,4,5,9] (λ _ _ _ st8=>?_);refine za (wp_ret ?_);refine ye rfl (λ _ h=>h) st8 (t:=4) rfl ?_;exact(idx_end hend hp).symm
theorem zcF(l:List Str)(s:Str):Fn Tryz.prog 91 [dt l,dt s] (dt (za0 l s)):=by
 refine yB (fn:=Tryz.f91) Tryz.func91 rfl (oD rfl) (λ M _ _ hm st0=>?_);refine wp_seq ?_;refine zl st0 [0,1,4] (λ _ _ _ st1=>?_);refine za (wp_seq ?_);refine zp st1 (sc rfl ((zg rfl (zb rfl)))
  (sc rfl ((zg rfl (zb rfl)))
  (sc rfl ((zB (l:=[.tmp 5,.tmp 6]) rfl (by kernel_rfl) (.cons (zb rfl) (.cons (zb rfl) .nil)) (zcV _ _)))
  (sc rfl ((xJ rfl (by decide) (zb rfl) zM))
  (sc rfl ((zz rfl (zb rfl)))
  .nil))))) [0,1,4] (λ _ _ _ st2=>?_)
 refine za (wp_ret ?_);refine ye rfl (λ _ h=>h) st2 (t:=4) rfl ?_;rfl
theorem jV(s:Str):Fn Tryz.prog 89 [dt s] (dt (zD s)):=by
 refine yB (fn:=Tryz.f89) Tryz.func89 rfl (oD rfl) (λ M w0 _ hm st0=>?_);have hlen:s.l.length<=9223372036854775807:=st0.lenS (s:=0) rfl;refine wp_seq ?_;refine zl st0 [0,2] (λ _ _ _ st1=>?_);refine za (wp_seq (wp_seq ?_));refine zp st1 (sc rfl ((zg rfl (zb rfl)))
  (sc rfl ((Jg rfl (by kernel_rfl) (zb rfl)))
  (sc rfl ((zB (l:=[.tmp 5,.const (.int .i64 1),.const (.int .i64 3)]) rfl (by kernel_rfl) (.cons (zb rfl) (.cons zM (.cons zM .nil))) (jO _ _ _)))
  (sc rfl ((ZQ rfl (zb rfl)))
  .nil)))) [0,2,7] (λ _ _ _ st2=>?_)
 refine za ?_;refine zI (c:=7) st2 rfl (λ h1=>?_) (λ h1=>?_)
 ·
  have h7:=h1;refine wp_seq ?_;refine zl st2 [0,2,7] (λ _ _ _ st3=>?_);refine za ?_;refine wp_ret (ze ?_);refine ye rfl (λ _ h=>h) st3 (t:=2) rfl ?_;unfold zD;rw[Bool.not_eq_true'] at h7;simp[h7]
 ·
  have h7:=h1;refine wp_skip (za (wp_seq (wp_seq ?_)));refine zl st2 [0,2,3,7] (λ _ _ _ st4=>?_);refine za (wp_block ?_);refine qk (ι:=Nat) (λ k a w=>St (Frm.of w0) 24 M [(0,dt s),(3,dt (k:Int))] a w/\k<=s.l.length/\(s.l.take k).all low=true) (λ k=>s.l.length - k) 0 ?_ ?_
  ·
   exact⟨st4.pick (kc 0 rfl (kc 3 rfl .nil)),Nat.zero_le _,by simp⟩
  ·
   rintro k a5 w5 ⟨st5,hk,hp⟩
   refine wp_seq (wp_seq ?_);refine zl st5 [0,3,11] (λ _ _ _ st6=>?_);refine za ?_;refine zI (c:=11) st6 rfl (λ h2=>?_) (λ h2=>?_)
   ·
    obtain⟨x,hx⟩:=idxS_of h2;have hlt:=zA hx;refine wp_skip (za (wp_seq (wp_block (wp_seq ?_))));refine zp st6 (sc rfl ((zg rfl (zb rfl)))
     (sc rfl ((zg rfl (zb rfl)))
     (sc rfl ((op_byte rfl (by kernel_rfl) (zb rfl) (zb rfl) (by assumption)))
     (sc rfl ((op_cmpB rfl (by decide) (zb rfl) (Y0 (by decide))))
     (sc rfl ((zg rfl (zb rfl)))
     (.cons rfl (by decide) (.guarded rfl rfl (by decide) rfl zv (λ hg=>zg rfl (zb rfl)))
     (.cons rfl (by decide) (.guarded rfl rfl (by decide) rfl zv (λ hg=>zg rfl (zb rfl)))
     (.cons rfl (by decide) (.guarded rfl rfl (by decide) rfl zv (λ hg=>op_byte rfl (by kernel_rfl) (zn hg rfl) (zn hg rfl) (by assumption)))
     (.cons rfl (by decide) (.guarded rfl rfl (by decide) rfl zv (λ hg=>op_cmpB rfl (by decide) (zn hg rfl) (Y0 (by decide))))
     (sc rfl ((ZO rfl (zb rfl) (zb rfl)))
     .nil)))))))))) [0,3,11,23] (λ _ _ _ st7=>?_)
    refine za ?_;refine zI (c:=23) st7 rfl (λ h3=>?_) (λ h3=>?_)
    ·
     have ht:=h3;refine wp_seq ?_;refine zl st7 [0,2,3,11,23] (λ _ _ _ st8=>?_);refine za ?_;refine wp_ret (zt (ze (ze (zt (ze ?_)))));refine ye rfl (λ _ h=>h) st8 (t:=2) rfl ?_;unfold zD;rw[all_fail (p:=low) hx (by unfold low;rw[ht];rfl)];simp
    ·
     have hf:=h3;refine wp_skip (zf (za ?_));refine zp st7 (sc rfl ((zg rfl (zb rfl)))
      (sc rfl ((jy rfl (by decide) (zb rfl) zM (by simp only[arI];omega)))
      (sc rfl ((zz rfl (zb rfl)))
      .nil))) [0,3,11,23] (λ _ _ _ st9=>?_)
     refine za ⟨k+1,⟨st9.pick (kc 0 rfl (kc 3 rfl .nil)),by omega,all_next hx hp (by unfold low;rw[hf];rfl)⟩,by omega⟩
   ·
    have hend:=endS_of h2;refine wp_exit (zh (zh (zy ?_)));refine za (wp_seq ?_);refine zl st6 [0,2,3,11] (λ _ _ _ st10=>?_);refine za (wp_ret ?_);refine ye rfl (λ _ h=>h) st10 (t:=2) rfl ?_;unfold zD;rw[all_end hend hp];rw[Bool.not_eq_false'] at h7;exact(by simpa using h7.symm)
theorem Z8(s:Str)(c:UInt8)(hs:mid s):Fn Tryz.prog 88 [dt s,dt c] (dt (zj s c)):=by
 refine yB (fn:=Tryz.f88) Tryz.func88 rfl (oD rfl) (λ M w0 _ hm st0=>?_);have hlen:s.l.length<=1099511627776:=hs;refine wp_seq ?_;refine zp st0 (sc rfl ((zz rfl (x8 (α:=Str))))
  .nil) [0,1,4] (λ _ _ _ st1=>?_)
 refine za (wp_seq ?_);refine zp st1 (sc rfl ((yZ (α:=Str) (e:=9) rfl (by kernel_rfl)))
  (sc rfl ((zz rfl (zb rfl)))
  .nil)) [0,1,4,5] (λ _ _ _ st2=>?_)
 refine za (wp_seq ?_);refine zl st2 [0,1,4,5,6] (λ _ _ _ st3=>?_);refine za (wp_seq (wp_seq ?_));refine zl st3 [0,1,4,5,6,7] (λ _ _ _ st4=>?_);refine za (wp_block ?_);refine qk (ι:=Nat×Nat) (λ p a w=>∃ g,TipOK (Frm.of w0) M g/\St (Frm.of w0) 35 (insO g M) [(0,dt s),(1,dt c),(5,dtip g 9 (xp c (s.l.take p.1)).1),(6,dt (p.2:Int)),(7,dt (p.1:Int))] a w/\p.1<=s.l.length/\p.2<=p.1/\(xp c (s.l.take p.1)).2=⟨(s.l.take p.1).drop p.2⟩/\(xp c (s.l.take p.1)).1.length<=p.1) (λ p=>s.l.length - p.1) (0,0) ?_ ?_
 ·
  exact⟨none,TipOK.none_,st4.ins0.pick (kc 0 rfl (kc 1 rfl (kc 5 rfl (kc 6 rfl (kc 7 rfl .nil))))),Nat.zero_le _,Nat.le_refl _,rfl,Nat.le_refl _⟩
 ·
  rintro ⟨k,b⟩ a5 w5 ⟨g5,hg5,st5,hk,hb,g2,g1⟩
  dsimp only at*;refine wp_seq (wp_seq ?_);refine zl st5 [0,1,5,6,7,12] (λ _ _ _ st6=>?_);refine za ?_;refine zI (c:=12) st6 rfl (λ h1=>?_) (λ h1=>?_)
  ·
   obtain⟨x,hx⟩:=idxS_of h1;have hlt:=zA hx;refine wp_skip (za (wp_seq (wp_block (wp_seq ?_))));refine zp st6 (sc rfl ((zg rfl (zb rfl)))
    (sc rfl ((zg rfl (zb rfl)))
    (sc rfl ((op_byte rfl (by kernel_rfl) (zb rfl) (zb rfl) (by assumption)))
    (sc rfl ((zg rfl (zb rfl)))
    (sc rfl ((op_cmpB rfl (by decide) (zb rfl) (zb rfl)))
    .nil))))) [0,1,5,6,7,12,19] (λ _ _ _ st7=>?_)
   refine za ?_;refine zI (c:=19) st7 rfl (λ h2=>?_) (λ h2=>?_)
   ·
    have ht:=h2;refine wp_seq (wp_region_list ?_);refine Zp 6 st7 (sc rfl ((zg rfl (zb rfl)))
     (sc rfl ((zg rfl (zb rfl)))
     (sc rfl ((zg rfl (zb rfl)))
     (sc rfl ((zg rfl (zb rfl)))
     (sc rfl ((op_cutLH rfl (by kernel_rfl) (zb rfl) (zb rfl) (zb rfl) (by omega) (by omega) (by omega)))
     (sc rfl ((yq (opds:=[.tmp 24]) rfl (by kernel_rfl) (by kernel_rfl) rfl rfl (by decide) (.cons (zb rfl) .nil)))
     .nil))))))
     (kc 0 rfl (kc 1 rfl (kc 5 rfl (kc 6 rfl (kc 7 rfl (kc 12 rfl (kc 19 rfl (kc 20 rfl (kc 25 rfl .nil))))))))) (λ _ _ _ st8=>?_)
    refine Yb (bytes:=16) (st8) rfl rfl rfl (by decide) (by kernel_rfl) rfl rfl yS (len1 (by omega)) (len1b (by omega)) (.cons (s:=0) rfl (λ _ _ h=>h) (.cons (s:=1) rfl (λ _ _ h=>h) (.cons (s:=6) rfl (λ _ _ h=>h) (.cons (s:=7) rfl (λ _ _ h=>h) (.cons (s:=12) rfl (λ _ _ h=>h) (.cons (s:=19) rfl (λ _ _ h=>h) .nil)))))) (hg5) (λ g9 _ _ hg9 st9=>?_);refine Zp 1 st9 (sc rfl ((zz rfl (zb rfl)))
     .nil)
     (kc 0 rfl (kc 1 rfl (kc 5 rfl (kc 6 rfl (kc 7 rfl (kc 12 rfl (kc 19 rfl .nil))))))) (λ _ _ _ st10=>?_)
    refine wpList_nil (za ?_);refine zp st10 (sc rfl ((zg rfl (zb rfl)))
     (sc rfl ((jy rfl (by decide) (zb rfl) zM (by simp only[arI];omega)))
     (sc rfl ((zz rfl (zb rfl)))
     .nil))) [0,1,5,6,7,12,19] (λ _ _ _ st11=>?_)
    refine zf (za ?_);refine zp st11 (sc rfl ((zg rfl (zb rfl)))
     (sc rfl ((jy rfl (by decide) (zb rfl) zM (by simp only[arI];omega)))
     (sc rfl ((zz rfl (zb rfl)))
     .nil))) [0,1,5,6,7,12,19] (λ _ _ _ st12=>?_)
    refine za ⟨(k+1,k+1),⟨g9,hg9,?_,by dsimp only;omega,by dsimp only;omega,split_hit2 hx ht hlt,by dsimp only;rw[zak hx ht g2,List.length_append];exact Nat.succ_le_succ g1⟩,by dsimp only;omega⟩;dsimp only;first | rw[zak hx ht g2] | rw[JS hx hf]
    exact st12.pick (kc 0 rfl (kc 1 rfl (kc 5 rfl (kc 6 rfl (kc 7 rfl .nil)))))
   ·
    have hf:=h2;refine wp_skip (zf (za ?_));refine zp st7 (sc rfl ((zg rfl (zb rfl)))
     (sc rfl ((jy rfl (by decide) (zb rfl) zM (by simp only[arI];omega)))
     (sc rfl ((zz rfl (zb rfl)))
     .nil))) [0,1,5,6,7,12,19] (λ _ _ _ st13=>?_)
    refine za ⟨(k+1,b),⟨g5,hg5,?_,by dsimp only;omega,by dsimp only;omega,split_miss2 hx hf g2 hb hlt,by dsimp only;rw[JS hx hf];omega⟩,by dsimp only;omega⟩;dsimp only;first | rw[zak hx ht g2] | rw[JS hx hf]
    exact st13.pick (kc 0 rfl (kc 1 rfl (kc 5 rfl (kc 6 rfl (kc 7 rfl .nil)))))
  ·
   have hend:=endS_of h1;refine wp_exit (zh (zh (zy ?_)));refine za (wp_seq (wp_region_list ?_));refine Zp 5 st6 (sc rfl ((zg rfl (zb rfl)))
    (sc rfl ((zg rfl (zb rfl)))
    (sc rfl ((zg rfl (zb rfl)))
    (sc rfl ((op_cutL rfl (by kernel_rfl) (zb rfl) (zb rfl) (by omega) (by omega)))
    (sc rfl ((yq (opds:=[.tmp 32]) rfl (by kernel_rfl) (by kernel_rfl) rfl rfl (by decide) (.cons (zb rfl) .nil)))
    .nil)))))
    (kc 0 rfl (kc 1 rfl (kc 5 rfl (kc 6 rfl (kc 7 rfl (kc 12 rfl (kc 29 rfl (kc 33 rfl .nil)))))))) (λ _ _ _ st14=>?_)
   refine Yb (bytes:=16) (st14) rfl rfl rfl (by decide) (by kernel_rfl) rfl rfl yS (len1 (by omega)) (len1b (by omega)) (.cons (s:=0) rfl (λ _ _ h=>h) (.cons (s:=1) rfl (λ _ _ h=>h) (.cons (s:=6) rfl (λ _ _ h=>h) (.cons (s:=7) rfl (λ _ _ h=>h) (.cons (s:=12) rfl (λ _ _ h=>h) .nil))))) (hg5) (λ g15 _ _ hg15 st15=>?_);refine Zp 1 st15 (sc rfl ((zz rfl (zb rfl)))
    .nil)
    (kc 0 rfl (kc 1 rfl (kc 4 rfl (kc 6 rfl (kc 7 rfl (kc 12 rfl .nil)))))) (λ _ _ _ st16=>?_)
   refine wpList_nil (za (wp_ret ?_));refine ret_tip rfl (hg15) (λ _ h=>h) st16 (t:=4) rfl ?_;exact split_end hend g2
theorem jW(s:Str)(hs:mid s):Fn Tryz.prog 40 [dt s] (dt (zd s)):=by
 refine yB (fn:=Tryz.f40) Tryz.func40 rfl (oD rfl) (λ M w0 _ hm st0=>?_);refine wp_seq ?_;refine zl st0 [0,2] (λ _ _ _ st1=>?_);refine za (wp_seq ?_);refine zp st1 (sc rfl ((zg rfl (zb rfl)))
  (sc rfl ((zB (l:=[.tmp 5,.const (.int .u8 46)]) rfl (by kernel_rfl) (.cons (zb rfl) (.cons (Y0 (by decide)) .nil)) (Z8 _ dot (by assumption))))
  (sc rfl ((zz rfl (zb rfl)))
  .nil))) [0,2,3] (λ _ _ _ st2=>?_)
 refine za (wp_seq (wp_seq ?_));refine zl st2 [0,2,3,4] (λ _ _ _ st3=>?_);refine za (wp_block ?_);refine qk (ι:=Nat) (λ k a w=>St (Frm.of w0) 22 M [(0,dt s),(3,dt (zj s dot)),(4,dt (k:Int))] a w/\k<=(zj s dot).length/\((zj s dot).take k).all zD=true) (λ k=>(zj s dot).length - k) 0 ?_ ?_
 ·
  exact⟨st3.pick (kc 0 rfl (kc 3 rfl (kc 4 rfl .nil))),Nat.zero_le _,by simp⟩
 ·
  rintro k a4 w4 ⟨st4,hk,hp⟩
  have hlen:=st4.lenL (s:=3) rfl;refine wp_seq (wp_seq ?_);refine zl st4 [0,3,4,10] (λ _ _ _ st5=>?_);refine za ?_;refine zI (c:=10) st5 rfl (λ h1=>?_) (λ h1=>?_)
  ·
   obtain⟨x,hx⟩:=XI h1;have hlt:=zA hx;refine wp_skip (za (wp_seq (wp_block (wp_seq ?_))));refine zp st5 (sc rfl ((zg rfl (zb rfl)))
    (sc rfl ((zg rfl (zb rfl)))
    (sc rfl ((yL rfl (by kernel_rfl) (zb rfl) (zb rfl) rfl (by assumption)))
    (sc rfl ((zr rfl (by kernel_rfl) (zb rfl)))
    (sc rfl ((zB (l:=[.tmp 16]) rfl (by kernel_rfl) (.cons (zb rfl) .nil) (jV _)))
    (sc rfl ((ZQ rfl (zb rfl)))
    .nil)))))) [0,3,4,10,18] (λ _ _ _ st6=>?_)
   refine za ?_;refine zI (c:=18) st6 rfl (λ h2=>?_) (λ h2=>?_)
   ·
    have ht:=h2;refine wp_seq ?_;refine zl st6 [0,2,3,4,10,18] (λ _ _ _ st7=>?_);refine za ?_;refine wp_ret (zt (ze (ze (zt (ze ?_)))));refine ye rfl (λ _ h=>h) st7 (t:=2) rfl ?_;unfold zd;rw[all_fail hx (by simpa using ht)];rfl
   ·
    have hf:=h2;refine wp_skip (zf (za ?_));refine zp st6 (sc rfl ((zg rfl (zb rfl)))
     (sc rfl ((jy rfl (by decide) (zb rfl) zM (by simp only[arI];omega)))
     (sc rfl ((zz rfl (zb rfl)))
     .nil))) [0,3,4,10,18] (λ _ _ _ st8=>?_)
    refine za ⟨k+1,⟨st8.pick (kc 0 rfl (kc 3 rfl (kc 4 rfl .nil))),by omega,all_next hx hp (by simpa using hf)⟩,by omega⟩
  ·
   have hend:=XJ h1;refine wp_exit (zh (zh (zy ?_)));refine za (wp_seq ?_);refine zl st5 [0,2,3,4,10] (λ _ _ _ st9=>?_);refine za (wp_ret ?_);refine ye rfl (λ _ h=>h) st9 (t:=2) rfl ?_;unfold zd;rw[all_end hend hp];rfl
theorem XA(s:Str)(hs:mid s):Fn Tryz.prog 140 [dt s] (dt (zu s)):=by
 refine yB (fn:=Tryz.f140) Tryz.func140 rfl (oD rfl) (λ M _ _ hm st0=>?_);refine wp_seq ?_;refine zl st0 [0,2] (λ _ _ _ st1=>?_);refine za (wp_seq ?_);refine zp st1 (sc rfl ((zg rfl (zb rfl)))
  (sc rfl ((qQ rfl (zb rfl) (zN (by decide))))
  (sc rfl ((zg rfl (zb rfl)))
  (.cons rfl (by decide) (.guarded rfl rfl (by decide) rfl zv (λ hg=>zg rfl (zb rfl)))
  (.cons rfl (by decide) (.guarded rfl rfl (by decide) rfl zv (λ hg=>zB (l:=[.tmp 6]) rfl (by kernel_rfl) (.cons (zn hg rfl) .nil) (jW _ hs)))
  (sc rfl ((ZO rfl (zb rfl) (zb rfl)))
  (sc rfl ((zz rfl (zb rfl)))
  .nil))))))) [0,2] (λ _ _ _ st2=>?_)
 refine za (wp_ret ?_);refine ye rfl (λ _ h=>h) st2 (t:=2) rfl ?_;rfl
open Go.RowKit
set_option maxRecDepth 10000
theorem Ji(l:List Str)(hl:jg l<=1152921504606846976):Fn Tryz.prog 92 [dt l] (dt (join l)):=by
 refine yB (fn:=Tryz.f92) Tryz.func92 rfl (oD rfl) (λ M w0 _ hm st0=>?_);have hlen:=st0.lenL (s:=0) rfl;refine wp_seq ?_;refine zl st0 [0,2] (λ _ _ _ st1=>?_);refine za (wp_seq ?_);refine zl st1 [0,2,3] (λ _ _ _ st2=>?_);refine za (wp_seq (wp_seq ?_));refine zl st2 [0,2,3,4] (λ _ _ _ st3=>?_);refine za (wp_block ?_);refine qk (ι:=Nat) (λ k a w=>St (Frm.of w0) 22 M [(0,dt l),(3,dt (ZI (l.take k)).1),(4,dt (k:Int))] a w/\k<=l.length) (λ k=>l.length - k) 0 ?_ ?_
 ·
  exact⟨st3.pick (kc 0 rfl (kc 3 rfl (kc 4 rfl .nil))),Nat.zero_le _⟩
 ·
  rintro k a4 w4 ⟨st4,hk⟩
  refine wp_seq (wp_seq ?_);refine zl st4 [0,3,4,8] (λ _ _ _ st5=>?_);refine za ?_;refine zI (c:=8) st5 rfl (λ h1=>?_) (λ h1=>?_)
  ·
   obtain⟨x,hx⟩:=XI h1;have hlt:=zA hx;have hroom:=join_room hx;refine wp_skip (za (wp_seq (wp_block (wp_seq (wp_seq ?_)))));refine zl st5 [0,3,4,8,12] (λ _ _ _ st6=>?_);refine za ?_;refine zI (c:=12) st6 rfl (λ h2=>?_) (λ h2=>?_)
   ·
    have ht:=h2;refine zp st6 (sc rfl ((zg rfl (zb rfl)))
     (sc rfl ((zaf rfl (zb rfl) (zN (by decide)) (by first | (unfold maxLen;omega) | (simp only[List.length_singleton];unfold maxLen;omega))))
     (sc rfl ((zz rfl (zb rfl)))
     .nil))) [0,3,4,8,12] (λ _ _ _ st7=>?_)
    refine za ?_;refine zp st7 (sc rfl ((zg rfl (zb rfl)))
     (sc rfl ((zg rfl (zb rfl)))
     (sc rfl ((zg rfl (zb rfl)))
     (sc rfl ((yL rfl (by kernel_rfl) (zb rfl) (zb rfl) rfl (by assumption)))
     (sc rfl ((zr rfl (by kernel_rfl) (zb rfl)))
     (sc rfl ((zaf rfl (zb rfl) (zb rfl) (by first | (unfold maxLen;omega) | (simp only[List.length_append,List.length_singleton];unfold maxLen;omega))))
     (sc rfl ((zz rfl (zb rfl)))
     .nil))))))) [0,3,4,8,12] (λ _ _ _ st8=>?_)
    refine zf (za ?_);refine zp st8 (sc rfl ((zg rfl (zb rfl)))
     (sc rfl ((jy rfl (by decide) (zb rfl) zM (by simp only[arI];omega)))
     (sc rfl ((zz rfl (zb rfl)))
     .nil))) [0,3,4,8,12] (λ _ _ _ st9=>?_)
    refine za ⟨k+1,⟨?_,by omega⟩,by omega⟩
    first | rw[zaY hx ht] | rw[Qr hx hf]
    exact st9.pick (kc 0 rfl (kc 3 rfl (kc 4 rfl .nil)))
   ·
    have hf:=h2;refine wp_skip (za ?_);refine zp st6 (sc rfl ((zg rfl (zb rfl)))
     (sc rfl ((zg rfl (zb rfl)))
     (sc rfl ((zg rfl (zb rfl)))
     (sc rfl ((yL rfl (by kernel_rfl) (zb rfl) (zb rfl) rfl (by assumption)))
     (sc rfl ((zr rfl (by kernel_rfl) (zb rfl)))
     (sc rfl ((zaf rfl (zb rfl) (zb rfl) (by first | (unfold maxLen;omega) | (simp only[List.length_append,List.length_singleton];unfold maxLen;omega))))
     (sc rfl ((zz rfl (zb rfl)))
     .nil))))))) [0,3,4,8,12] (λ _ _ _ st10=>?_)
    refine zf (za ?_);refine zp st10 (sc rfl ((zg rfl (zb rfl)))
     (sc rfl ((jy rfl (by decide) (zb rfl) zM (by simp only[arI];omega)))
     (sc rfl ((zz rfl (zb rfl)))
     .nil))) [0,3,4,8,12] (λ _ _ _ st11=>?_)
    refine za ⟨k+1,⟨?_,by omega⟩,by omega⟩
    first | rw[zaY hx ht] | rw[Qr hx hf]
    exact st11.pick (kc 0 rfl (kc 3 rfl (kc 4 rfl .nil)))
  ·
   have hend:=XJ h1;refine wp_exit (zh (zh (zy ?_)));refine za (wp_seq ?_);refine zl st5 [0,2,3,4,8] (λ _ _ _ st12=>?_);refine za (wp_ret ?_);refine ye rfl (λ _ h=>h) st12 (t:=2) rfl ?_;exact join_end hend
theorem zcW(s:Str)(hs:mid s):Fn Tryz.prog 96 [dt s] (dt (zk s)):=by
 refine yB (fn:=Tryz.f96) Tryz.func96 rfl (oD rfl) (λ M _ _ hm st0=>?_);have hlen:s.l.length<=1099511627776:=hs;have hne:=Wh s dot;have hroom:=Yc s dot;have hlr:=zaZ (zj s dot);refine wp_seq ?_;refine zl st0 [0,2] (λ _ _ _ st1=>?_);refine za (wp_seq ?_);refine zp st1 (sc rfl ((zg rfl (zb rfl)))
  (sc rfl ((zB (l:=[.tmp 4,.const (.int .u8 46)]) rfl (by kernel_rfl) (.cons (zb rfl) (.cons (Y0 (by decide)) .nil)) (Z8 _ dot (by assumption))))
  (sc rfl ((zz rfl (zb rfl)))
  .nil))) [0,2,3] (λ _ _ _ st2=>?_)
 refine za (wp_seq ?_);refine zp st2 (sc rfl ((zg rfl (zb rfl)))
  (sc rfl ((zg rfl (zb rfl)))
  (sc rfl ((WE rfl (by kernel_rfl) (zb rfl)))
  (sc rfl ((jy rfl (by decide) (zb rfl) zM (by simp only[arI];omega)))
  (sc rfl ((X8 rfl (by kernel_rfl) (zb rfl) (zb rfl) (j:=(zj s dot).length - 1) (by simp only[arI];omega) (by omega)))
  (sc rfl ((zB (l:=[.tmp 10]) rfl (by kernel_rfl) (.cons (zb rfl) .nil) (Ji _ (by have:=qr (zj s dot) ((zj s dot).length - 1);omega))))
  (sc rfl ((zz rfl (zb rfl)))
  .nil))))))) [0,2,3] (λ _ _ _ st3=>?_)
 refine za (wp_ret ?_);refine ye rfl (λ _ h=>h) st3 (t:=2) rfl ?_;rfl
theorem ZT(p s:Str)(hc:p.l.length+s.l.length<=1152921504606846976):Fn Tryz.prog 129 [dt p,dt s] (dt (child p s)):=by
 refine yB (fn:=Tryz.f129) Tryz.func129 rfl (oD rfl) (λ M _ _ hm st0=>?_);refine wp_seq ?_;refine zl st0 [0,1,4] (λ _ _ _ st1=>?_);refine za (wp_seq (wp_seq ?_));refine zl st1 [0,1,4,6] (λ _ _ _ st2=>?_);refine za ?_;refine zI (c:=6) st2 rfl (λ h1=>?_) (λ h1=>?_)
 ·
  have ht:=h1;refine wp_seq ?_;refine zl st2 [0,1,4,6] (λ _ _ _ st3=>?_);refine za ?_;refine wp_ret (ze ?_);refine ye rfl (λ _ h=>h) st3 (t:=4) rfl ?_;exact(if_pos (oD ht)).symm
 ·
  have hf:=h1;refine wp_skip (za (wp_seq ?_));refine zp st2 (sc rfl ((zg rfl (zb rfl)))
   (sc rfl ((zaf rfl (zb rfl) (zN (by decide)) (by first | (unfold maxLen;omega) | (simp only[List.length_singleton];unfold maxLen;omega))))
   (sc rfl ((zg rfl (zb rfl)))
   (sc rfl ((zaf rfl (zb rfl) (zb rfl) (by first | (unfold maxLen;omega) | (simp only[List.length_append,List.length_singleton];unfold maxLen;omega))))
   (sc rfl ((zz rfl (zb rfl)))
   .nil))))) [0,1,4,6] (λ _ _ _ st4=>?_)
  refine za (wp_ret ?_);refine ye rfl (λ _ h=>h) st4 (t:=4) rfl ?_;exact(if_neg (of_decide_eq_false hf)).symm
theorem spec_above_ok(s:Str)(hs:mid s):Fn Tryz.prog 42 [dt s] (dt (yJ s)):=by
 refine yB (fn:=Tryz.f42) Tryz.func42 rfl (oD rfl) (λ M w0 _ hm st0=>?_);have hroom:=Yc s dot;have hlen:=zaZ (zj s dot);have hms:s.l.length<=1099511627776:=hs;refine wp_seq ?_;refine zp st0 (sc rfl ((zz rfl (x8 (α:=Str))))
  .nil) [0,2] (λ _ _ _ st1=>?_)
 refine za (wp_seq ?_);refine zp st1 (sc rfl ((zg rfl (zb rfl)))
  (sc rfl ((zB (l:=[.tmp 6,.const (.int .u8 46)]) rfl (by kernel_rfl) (.cons (zb rfl) (.cons (Y0 (by decide)) .nil)) (Z8 _ dot (by assumption))))
  (sc rfl ((zz rfl (zb rfl)))
  .nil))) [0,2,3] (λ _ _ _ st2=>?_)
 refine za (wp_seq ?_);refine zp st2 (sc rfl ((yZ (α:=Str) (e:=9) rfl (by kernel_rfl)))
  (sc rfl ((zz rfl (zb rfl)))
  .nil)) [0,2,3,4] (λ _ _ _ st3=>?_)
 refine za (wp_seq (wp_seq ?_));refine zl st3 [0,2,3,4,5] (λ _ _ _ st4=>?_);refine za (wp_block ?_);refine qk (ι:=Nat) (λ k a w=>∃ g,TipOK (Frm.of w0) M g/\St (Frm.of w0) 23 (insO g M) [(0,dt s),(3,dt (zj s dot)),(4,dtip g 9 (qt (zj s dot) k)),(5,dt ((k+1:Nat):Int))] a w/\k<=(zj s dot).length) (λ k=>(zj s dot).length - k) 0 ?_ ?_
 ·
  exact⟨none,TipOK.none_,st4.ins0.pick (kc 0 rfl (kc 3 rfl (kc 4 rfl (kc 5 rfl .nil)))),Nat.zero_le _⟩
 ·
  rintro k a5 w5 ⟨g5,hg5,st5,hk⟩
  refine wp_seq (wp_seq ?_);refine zl st5 [0,3,4,5,12] (λ _ _ _ st6=>?_);refine za ?_;refine zI (c:=12) st6 rfl (λ h1=>?_) (λ h1=>?_)
  ·
   have hlt:k+1<=(zj s dot).length:=by have:=oD h1;omega
   have hal:=XU (zj s dot) k;have htk:=qr (zj s dot) (k+1);refine wp_skip (za (wp_seq (wp_block (wp_region_list ?_))));refine Zp 6 st6 (sc rfl ((zg rfl (zb rfl)))
    (sc rfl ((zg rfl (zb rfl)))
    (sc rfl ((zg rfl (zb rfl)))
    (sc rfl ((X8 rfl (by kernel_rfl) (zb rfl) (zb rfl) rfl (by omega)))
    (sc rfl ((zB (l:=[.tmp 18]) rfl (by kernel_rfl) (.cons (zb rfl) .nil) (Ji _ (by omega))))
    (sc rfl ((yq (opds:=[.tmp 19]) rfl (by kernel_rfl) (by kernel_rfl) rfl rfl (by decide) (.cons (zb rfl) .nil)))
    .nil))))))
    (kc 0 rfl (kc 3 rfl (kc 4 rfl (kc 5 rfl (kc 12 rfl (kc 15 rfl (kc 20 rfl .nil))))))) (λ _ _ _ st7=>?_)
   refine Yb (bytes:=16) (st7) rfl rfl rfl (by decide) (by kernel_rfl) rfl rfl yS (len1 (by omega)) (len1b (by omega)) (.cons (s:=0) rfl (λ _ _ h=>h) (.cons (s:=3) rfl (λ _ _ h=>h) (.cons (s:=5) rfl (λ _ _ h=>h) (.cons (s:=12) rfl (λ _ _ h=>h) .nil)))) (hg5) (λ g8 _ _ hg8 st8=>?_);refine Zp 1 st8 (sc rfl ((zz rfl (zb rfl)))
    .nil)
    (kc 0 rfl (kc 3 rfl (kc 4 rfl (kc 5 rfl (kc 12 rfl .nil))))) (λ _ _ _ st9=>?_)
   refine wpList_nil (zf (za ?_));refine zp st9 (sc rfl ((zg rfl (zb rfl)))
    (sc rfl ((jy rfl (by decide) (zb rfl) zM (by simp only[arI];omega)))
    (sc rfl ((zz rfl (zb rfl)))
    .nil))) [0,3,4,5,12] (λ _ _ _ st10=>?_)
   refine za ⟨k+1,⟨g8,hg8,?_,by omega⟩,by omega⟩;rw[Xk];exact st10.pick (kc 0 rfl (kc 3 rfl (kc 4 rfl (kc 5 rfl .nil))))
  ·
   have hend:(zj s dot).length<=k:=by have:=of_decide_eq_false h1;omega
   refine wp_exit (zh (zh (zy ?_)));refine za (wp_seq ?_);refine zl st6 [0,2,3,4,5,12] (λ _ _ _ st11=>?_);refine za (wp_ret ?_);refine ret_tip rfl (hg5) (λ _ h=>h) st11 (t:=2) rfl ?_;rw[yJ,Nat.le_antisymm hk hend]
theorem spec_under_ok(s p:Str)(hp:p.l.length<=1152921504606846976):Fn Tryz.prog 193 [dt s,dt p] (dt (under s p)):=by
 refine yB (fn:=Tryz.f193) Tryz.func193 rfl (oD rfl) (λ M _ _ hm st0=>?_);refine wp_seq ?_;refine zl st0 [0,1,4] (λ _ _ _ st1=>?_);refine za (wp_seq ?_);refine zp st1 (sc rfl ((zg rfl (zb rfl)))
  (sc rfl ((qQ rfl (zb rfl) (zN (by decide))))
  (sc rfl ((zg rfl (zb rfl)))
  (.cons rfl (by decide) (.guarded rfl rfl (by decide) rfl zv (λ hg=>zg rfl (zb rfl)))
  (.cons rfl (by decide) (.guarded rfl rfl (by decide) rfl zv (λ hg=>zg rfl (zb rfl)))
  (.cons rfl (by decide) (.guarded rfl rfl (by decide) rfl zv (λ hg=>qQ rfl (zn hg rfl) (zn hg rfl)))
  (sc rfl ((ZO rfl (zb rfl) (zb rfl)))
  (sc rfl ((zg rfl (zb rfl)))
  (.cons rfl (by decide) (.guarded rfl rfl (by decide) rfl zv (λ hg=>zg rfl (zb rfl)))
  (.cons rfl (by decide) (.guarded rfl rfl (by decide) rfl zv (λ hg=>Jg rfl (by kernel_rfl) (zn hg rfl)))
  (.cons rfl (by decide) (.guarded rfl rfl (by decide) rfl zv (λ hg=>zg rfl (zb rfl)))
  (.cons rfl (by decide) (.guarded rfl rfl (by decide) rfl zv (λ hg=>Jg rfl (by kernel_rfl) (zn hg rfl)))
  (.cons rfl (by decide) (.guarded rfl rfl (by decide) rfl zv (λ hg=>xJ rfl (by decide) (zn hg rfl) (zn hg rfl)))
  (.cons rfl (by decide) (.guarded rfl rfl (by decide) rfl zv (λ hg=>zg rfl (zn hg rfl)))
  (.cons rfl (by decide) (.guarded2 rfl rfl (by decide) rfl zv (λ hg=>zg rfl (zb rfl)))
  (.cons rfl (by decide) (.guarded2 rfl rfl (by decide) rfl zv (λ hg=>zg rfl (zb rfl)))
  (.cons rfl (by decide) (.guarded2 rfl rfl (by decide) rfl zv (λ hg=>Jg rfl (by kernel_rfl) (zn hg rfl)))
  (.cons rfl (by decide) (.guarded2 rfl rfl (by decide) rfl zv (λ hg=>jy rfl (by decide) (zn hg rfl) zM (by simp only[arI];omega)))
  (.cons rfl (by decide) (.guarded2 rfl rfl (by decide) rfl zv (λ hg=>op_cutH rfl (by kernel_rfl) (zn hg rfl) (zn hg rfl) (by simp only[arI];omega) (by simp only[arI];have:=oD (and_r hg);omega)))
  (.cons rfl (by decide) (.guarded2 rfl rfl (by decide) rfl zv (λ hg=>zg rfl (zb rfl)))
  (.cons rfl (by decide) (.guarded2 rfl rfl (by decide) rfl zv (λ hg=>zaf rfl (zn hg rfl) (zN (by decide)) (by first | (unfold maxLen;omega) | (simp only[List.length_singleton];unfold maxLen;omega))))
  (.cons rfl (by decide) (.guarded2 rfl rfl (by decide) rfl zv (λ hg=>qQ rfl (zn hg rfl) (zn hg rfl)))
  (.cons rfl (by decide) (.guarded rfl rfl (by decide) rfl zv (λ hg=>xe rfl (zn hg rfl) (JO hg rfl)))
  (sc rfl ((ZO rfl (zb rfl) (zb rfl)))
  (sc rfl ((zz rfl (zb rfl)))
  .nil))))))))))))))))))))))))) [0,1,4] (λ _ _ _ st2=>?_)
 refine za (wp_ret ?_);refine ye rfl (λ _ h=>h) st2 (t:=4) rfl ?_;exact under_of
theorem zaq(f:File)(hf:smFile f):Fn Tryz.prog 76 [dt f] (dt (xt f)):=by
 refine yB (fn:=Tryz.f76) Tryz.func76 rfl (oD rfl) (λ M _ _ hm st0=>?_);refine wp_seq ?_;refine zp st0 (sc rfl ((Y2 rfl (zb rfl)))
  (sc rfl ((zz rfl (zN (by decide))))
  .nil)) [0,1,2] (λ _ _ _ st1=>?_)
 refine za (wp_seq (wp_seq ?_));refine zl st1 [0,1,2,4] (λ _ _ _ st2=>?_);refine za ?_;refine zI (c:=4) st2 rfl (λ h1=>?_) (λ h1=>?_)
 ·
  have ht:=h1;refine wp_seq ?_;refine zl st2 [0,1,2,4] (λ _ _ _ st3=>?_);refine za ?_;refine wp_ret (ze ?_);refine ye rfl (λ _ h=>h) st3 (t:=2) rfl ?_;rw[xt,if_pos ht]
 ·
  have hff:=h1;refine wp_skip (za (wp_seq ?_));refine zp st2 (sc rfl ((zH File.fld1 rfl (by kernel_rfl) (zb rfl)))
   (sc rfl ((zr rfl (by kernel_rfl) (zb rfl)))
   (sc rfl ((zH File.fld2 rfl (by kernel_rfl) (zb rfl)))
   (sc rfl ((zr rfl (by kernel_rfl) (zb rfl)))
   (sc rfl ((zB (l:=[.tmp 8,.tmp 10]) rfl (by kernel_rfl) (.cons (zb rfl) (.cons (zb rfl) .nil)) (ZT _ _ (by have:=hf.1;have:=hf.2.1;omega))))
   (sc rfl ((zz rfl (zb rfl)))
   .nil)))))) [0,1,2,4] (λ _ _ _ st4=>?_)
  refine za (wp_ret ?_);refine ye rfl (λ _ h=>h) st4 (t:=2) rfl ?_;rw[xt,if_neg (by simp[hff])]
open Go.RowKit
set_option maxRecDepth 10000
theorem za4(s:Stmt)(hs:smStmt s):Fn Tryz.prog 164 [dt s] (dt (zX s)):=by
 refine yB (fn:=Tryz.f164) Tryz.func164 rfl (oD rfl) (λ M _ _ hm st0=>?_);refine wp_seq ?_;refine zp st0 (sc rfl ((Y2 rfl (zb rfl)))
  (sc rfl ((zz rfl X7))
  .nil)) [0,1,2] (λ _ _ _ st1=>?_)
 refine za (wp_seq (wp_seq ?_));refine zl st1 [0,1,2,4] (λ _ _ _ st2=>?_);refine za (wp_block (wp_seq ?_));refine zl st2 [0,1,2,4,5] (λ _ _ _ st3=>?_);refine za ?_;refine zI (c:=5) st3 rfl (λ h1=>?_) (λ h1=>?_)
 ·
  have k0:=h1;refine wp_seq ?_;refine zp st3 (sc rfl ((zH Stmt.fld1 rfl (by kernel_rfl) (zb rfl)))
   (sc rfl ((zr rfl (by kernel_rfl) (zb rfl)))
   (sc rfl ((zB (l:=[.tmp 8]) rfl (by kernel_rfl) (.cons (zb rfl) .nil) (jW _ (by have:=hs.1;unfold mid;omega))))
   (sc rfl ((zg rfl (zb rfl)))
   (.cons rfl (by decide) (.guarded rfl rfl (by decide) rfl zv (λ hg=>zH Stmt.fld2 rfl (by kernel_rfl) (zb rfl)))
   (.cons rfl (by decide) (.guarded rfl rfl (by decide) rfl zv (λ hg=>zr rfl (by kernel_rfl) (zn hg rfl)))
   (.cons rfl (by decide) (.guarded rfl rfl (by decide) rfl zv (λ hg=>xJ rfl (by decide) (zn hg rfl) zM))
   (sc rfl ((xe rfl (zb rfl) (zb rfl)))
   (sc rfl ((zg rfl (zb rfl)))
   (.cons rfl (by decide) (.guarded rfl rfl (by decide) rfl zv (λ hg=>zH Stmt.fld3 rfl (by kernel_rfl) (zb rfl)))
   (.cons rfl (by decide) (.guarded rfl rfl (by decide) rfl zv (λ hg=>zr rfl (by kernel_rfl) (zn hg rfl)))
   (.cons rfl (by decide) (.guarded rfl rfl (by decide) rfl zv (λ hg=>qQ rfl (zn hg rfl) (zN (by decide))))
   (sc rfl ((xe rfl (zb rfl) (zb rfl)))
   (sc rfl ((zg rfl (zb rfl)))
   (.cons rfl (by decide) (.guarded rfl rfl (by decide) rfl zv (λ hg=>zH Stmt.fld4 rfl (by kernel_rfl) (zb rfl)))
   (.cons rfl (by decide) (.guarded rfl rfl (by decide) rfl zv (λ hg=>zr rfl (by kernel_rfl) (zn hg rfl)))
   (.cons rfl (by decide) (.guarded rfl rfl (by decide) rfl zv (λ hg=>xJ rfl (by decide) (zn hg rfl) zM))
   (sc rfl ((xe rfl (zb rfl) (zb rfl)))
   (sc rfl ((zz rfl (zb rfl)))
   .nil))))))))))))))))))) [0,1,2,4,5] (λ _ _ _ st4=>?_)
  refine za ?_;refine wp_ret (zt (ze ?_));refine ye rfl (λ _ h=>h) st4 (t:=2) rfl ?_;rw[zX,if_pos k0]
 ·
  have k0:=h1;refine wp_seq ?_;refine zl st3 [0,1,2,4,5,25] (λ _ _ _ st5=>?_);refine za ?_;refine zI (c:=25) st5 rfl (λ h2=>?_) (λ h2=>?_)
  ·
   have k1:=h2;refine wp_seq ?_;refine zp st5 (sc rfl ((zH Stmt.fld1 rfl (by kernel_rfl) (zb rfl)))
    (sc rfl ((zr rfl (by kernel_rfl) (zb rfl)))
    (sc rfl ((zB (l:=[.tmp 28]) rfl (by kernel_rfl) (.cons (zb rfl) .nil) (XA _ (by have:=hs.1;unfold mid;omega))))
    (sc rfl ((zg rfl (zb rfl)))
    (.cons rfl (by decide) (.guarded rfl rfl (by decide) rfl zv (λ hg=>zH Stmt.fld2 rfl (by kernel_rfl) (zb rfl)))
    (.cons rfl (by decide) (.guarded rfl rfl (by decide) rfl zv (λ hg=>zr rfl (by kernel_rfl) (zn hg rfl)))
    (.cons rfl (by decide) (.guarded rfl rfl (by decide) rfl zv (λ hg=>zB (l:=[.tmp 32,.const (.int .i64 0),.const (.int .i64 3)]) rfl (by kernel_rfl) (.cons (zn hg rfl) (.cons zM (.cons zM .nil))) (jO _ _ _)))
    (sc rfl ((xe rfl (zb rfl) (zb rfl)))
    (sc rfl ((zg rfl (zb rfl)))
    (.cons rfl (by decide) (.guarded rfl rfl (by decide) rfl zv (λ hg=>zH Stmt.fld1 rfl (by kernel_rfl) (zb rfl)))
    (.cons rfl (by decide) (.guarded rfl rfl (by decide) rfl zv (λ hg=>zr rfl (by kernel_rfl) (zn hg rfl)))
    (.cons rfl (by decide) (.guarded rfl rfl (by decide) rfl zv (λ hg=>zae rfl (zn hg rfl) (zN (by decide))))
    (.cons rfl (by decide) (.guarded rfl rfl (by decide) rfl zv (λ hg=>zg rfl (zn hg rfl)))
    (.cons rfl (by decide) (.guarded2 rfl rfl (by decide) rfl zv (λ hg=>zH Stmt.fld2 rfl (by kernel_rfl) (zb rfl)))
    (.cons rfl (by decide) (.guarded2 rfl rfl (by decide) rfl zv (λ hg=>zr rfl (by kernel_rfl) (zn hg rfl)))
    (.cons rfl (by decide) (.guarded2 rfl rfl (by decide) rfl zv (λ hg=>xJ rfl (by decide) (zn hg rfl) zM))
    (.cons rfl (by decide) (.guarded rfl rfl (by decide) rfl zv (λ hg=>ZO rfl (zn hg rfl) (JO hg rfl)))
    (sc rfl ((xe rfl (zb rfl) (zb rfl)))
    (sc rfl ((zg rfl (zb rfl)))
    (.cons rfl (by decide) (.guarded rfl rfl (by decide) rfl zv (λ hg=>zH Stmt.fld3 rfl (by kernel_rfl) (zb rfl)))
    (.cons rfl (by decide) (.guarded rfl rfl (by decide) rfl zv (λ hg=>zr rfl (by kernel_rfl) (zn hg rfl)))
    (.cons rfl (by decide) (.guarded rfl rfl (by decide) rfl zv (λ hg=>zB (l:=[.tmp 47]) rfl (by kernel_rfl) (.cons (zn hg rfl) .nil) (jV _)))
    (sc rfl ((xe rfl (zb rfl) (zb rfl)))
    (sc rfl ((zg rfl (zb rfl)))
    (.cons rfl (by decide) (.guarded rfl rfl (by decide) rfl zv (λ hg=>zH Stmt.fld4 rfl (by kernel_rfl) (zb rfl)))
    (.cons rfl (by decide) (.guarded rfl rfl (by decide) rfl zv (λ hg=>zr rfl (by kernel_rfl) (zn hg rfl)))
    (.cons rfl (by decide) (.guarded rfl rfl (by decide) rfl zv (λ hg=>xJ rfl (by decide) (zn hg rfl) zM))
    (sc rfl ((xe rfl (zb rfl) (zb rfl)))
    (sc rfl ((zz rfl (zb rfl)))
    .nil))))))))))))))))))))))))))))) [0,1,2,4,5,25] (λ _ _ _ st6=>?_)
   refine za ?_;refine wp_ret (zt (ze ?_));refine ye rfl (λ _ h=>h) st6 (t:=2) rfl ?_;rw[zX,if_neg (by rw[k0];decide),if_pos k1]
  ·
   have k1:=h2;refine wp_seq ?_;refine zl st5 [0,1,2,4,5,25,55] (λ _ _ _ st7=>?_);refine za ?_;refine zI (c:=55) st7 rfl (λ h3=>?_) (λ h3=>?_)
   ·
    have k2:=h3;refine wp_seq ?_;refine zp st7 (sc rfl ((zH Stmt.fld1 rfl (by kernel_rfl) (zb rfl)))
     (sc rfl ((zr rfl (by kernel_rfl) (zb rfl)))
     (sc rfl ((zB (l:=[.tmp 58]) rfl (by kernel_rfl) (.cons (zb rfl) .nil) (jW _ (by have:=hs.1;unfold mid;omega))))
     (sc rfl ((zg rfl (zb rfl)))
     (.cons rfl (by decide) (.guarded rfl rfl (by decide) rfl zv (λ hg=>zH Stmt.fld2 rfl (by kernel_rfl) (zb rfl)))
     (.cons rfl (by decide) (.guarded rfl rfl (by decide) rfl zv (λ hg=>zr rfl (by kernel_rfl) (zn hg rfl)))
     (.cons rfl (by decide) (.guarded rfl rfl (by decide) rfl zv (λ hg=>xJ rfl (by decide) (zn hg rfl) zM))
     (sc rfl ((xe rfl (zb rfl) (zb rfl)))
     (sc rfl ((zg rfl (zb rfl)))
     (.cons rfl (by decide) (.guarded rfl rfl (by decide) rfl zv (λ hg=>zH Stmt.fld3 rfl (by kernel_rfl) (zb rfl)))
     (.cons rfl (by decide) (.guarded rfl rfl (by decide) rfl zv (λ hg=>zr rfl (by kernel_rfl) (zn hg rfl)))
     (.cons rfl (by decide) (.guarded rfl rfl (by decide) rfl zv (λ hg=>qQ rfl (zn hg rfl) (zN (by decide))))
     (sc rfl ((xe rfl (zb rfl) (zb rfl)))
     (sc rfl ((zg rfl (zb rfl)))
     (.cons rfl (by decide) (.guarded rfl rfl (by decide) rfl zv (λ hg=>zH Stmt.fld4 rfl (by kernel_rfl) (zb rfl)))
     (.cons rfl (by decide) (.guarded rfl rfl (by decide) rfl zv (λ hg=>zr rfl (by kernel_rfl) (zn hg rfl)))
     (.cons rfl (by decide) (.guarded rfl rfl (by decide) rfl zv (λ hg=>xJ rfl (by decide) (zn hg rfl) zM))
     (sc rfl ((xe rfl (zb rfl) (zb rfl)))
     (sc rfl ((zz rfl (zb rfl)))
     .nil))))))))))))))))))) [0,1,2,4,5,25,55] (λ _ _ _ st8=>?_)
    refine za ?_;refine wp_ret (zt (ze ?_));refine ye rfl (λ _ h=>h) st8 (t:=2) rfl ?_;rw[zX,if_neg (by rw[k0];decide),if_neg (by rw[k1];decide),if_pos k2]
   ·
    have k2:=h3;refine wp_seq ?_;refine zl st7 [0,1,2,4,5,25,55,75] (λ _ _ _ st9=>?_);refine za ?_;refine zI (c:=75) st9 rfl (λ h4=>?_) (λ h4=>?_)
    ·
     have k3:=h4;refine wp_seq ?_;refine zp st9 (sc rfl ((zH Stmt.fld1 rfl (by kernel_rfl) (zb rfl)))
      (sc rfl ((zr rfl (by kernel_rfl) (zb rfl)))
      (sc rfl ((qQ rfl (zb rfl) (zN (by decide))))
      (sc rfl ((zg rfl (zb rfl)))
      (.cons rfl (by decide) (.guarded rfl rfl (by decide) rfl zv (λ hg=>zH Stmt.fld2 rfl (by kernel_rfl) (zb rfl)))
      (.cons rfl (by decide) (.guarded rfl rfl (by decide) rfl zv (λ hg=>zr rfl (by kernel_rfl) (zn hg rfl)))
      (.cons rfl (by decide) (.guarded rfl rfl (by decide) rfl zv (λ hg=>xJ rfl (by decide) (zn hg rfl) zM))
      (sc rfl ((xe rfl (zb rfl) (zb rfl)))
      (sc rfl ((zg rfl (zb rfl)))
      (.cons rfl (by decide) (.guarded rfl rfl (by decide) rfl zv (λ hg=>zH Stmt.fld3 rfl (by kernel_rfl) (zb rfl)))
      (.cons rfl (by decide) (.guarded rfl rfl (by decide) rfl zv (λ hg=>zr rfl (by kernel_rfl) (zn hg rfl)))
      (.cons rfl (by decide) (.guarded rfl rfl (by decide) rfl zv (λ hg=>zB (l:=[.tmp 87]) rfl (by kernel_rfl) (.cons (zn hg rfl) .nil) (jV _)))
      (sc rfl ((xe rfl (zb rfl) (zb rfl)))
      (sc rfl ((zg rfl (zb rfl)))
      (.cons rfl (by decide) (.guarded rfl rfl (by decide) rfl zv (λ hg=>zH Stmt.fld4 rfl (by kernel_rfl) (zb rfl)))
      (.cons rfl (by decide) (.guarded rfl rfl (by decide) rfl zv (λ hg=>zr rfl (by kernel_rfl) (zn hg rfl)))
      (.cons rfl (by decide) (.guarded rfl rfl (by decide) rfl zv (λ hg=>zB (l:=[.tmp 92,.const (.int .i64 0),.const (.int .i64 99)]) rfl (by kernel_rfl) (.cons (zn hg rfl) (.cons zM (.cons zM .nil))) (jO _ _ _)))
      (sc rfl ((xe rfl (zb rfl) (zb rfl)))
      (sc rfl ((zz rfl (zb rfl)))
      .nil))))))))))))))))))) [0,1,2,4,5,25,55,75] (λ _ _ _ st10=>?_)
     refine za ?_;refine wp_ret (zt (ze ?_));refine ye rfl (λ _ h=>h) st10 (t:=2) rfl ?_;rw[zX,if_neg (by rw[k0];decide),if_neg (by rw[k1];decide),if_neg (by rw[k2];decide),if_pos k3]
    ·
     have k3:=h4;refine wp_seq ?_;refine zl st9 [0,1,2,4,5,25,55,75,95] (λ _ _ _ st11=>?_);refine za ?_;refine zI (c:=95) st11 rfl (λ h5=>?_) (λ h5=>?_)
     ·
      have k4:=h5;refine wp_seq ?_;refine zp st11 (sc rfl ((zH Stmt.fld1 rfl (by kernel_rfl) (zb rfl)))
       (sc rfl ((zr rfl (by kernel_rfl) (zb rfl)))
       (sc rfl ((qQ rfl (zb rfl) (zN (by decide))))
       (sc rfl ((zg rfl (zb rfl)))
       (.cons rfl (by decide) (.guarded rfl rfl (by decide) rfl zv (λ hg=>zH Stmt.fld2 rfl (by kernel_rfl) (zb rfl)))
       (.cons rfl (by decide) (.guarded rfl rfl (by decide) rfl zv (λ hg=>zr rfl (by kernel_rfl) (zn hg rfl)))
       (.cons rfl (by decide) (.guarded rfl rfl (by decide) rfl zv (λ hg=>xJ rfl (by decide) (zn hg rfl) zM))
       (sc rfl ((xe rfl (zb rfl) (zb rfl)))
       (sc rfl ((zg rfl (zb rfl)))
       (.cons rfl (by decide) (.guarded rfl rfl (by decide) rfl zv (λ hg=>zH Stmt.fld3 rfl (by kernel_rfl) (zb rfl)))
       (.cons rfl (by decide) (.guarded rfl rfl (by decide) rfl zv (λ hg=>zr rfl (by kernel_rfl) (zn hg rfl)))
       (.cons rfl (by decide) (.guarded rfl rfl (by decide) rfl zv (λ hg=>zB (l:=[.tmp 107]) rfl (by kernel_rfl) (.cons (zn hg rfl) .nil) (jV _)))
       (sc rfl ((xe rfl (zb rfl) (zb rfl)))
       (sc rfl ((zg rfl (zb rfl)))
       (.cons rfl (by decide) (.guarded rfl rfl (by decide) rfl zv (λ hg=>zH Stmt.fld4 rfl (by kernel_rfl) (zb rfl)))
       (.cons rfl (by decide) (.guarded rfl rfl (by decide) rfl zv (λ hg=>zr rfl (by kernel_rfl) (zn hg rfl)))
       (.cons rfl (by decide) (.guarded rfl rfl (by decide) rfl zv (λ hg=>xJ rfl (by decide) (zn hg rfl) zM))
       (sc rfl ((xe rfl (zb rfl) (zb rfl)))
       (sc rfl ((zz rfl (zb rfl)))
       .nil))))))))))))))))))) [0,1,2,4,5,25,55,75,95] (λ _ _ _ st12=>?_)
      refine za ?_;refine wp_ret (zt (ze ?_));refine ye rfl (λ _ h=>h) st12 (t:=2) rfl ?_;rw[zX,if_neg (by rw[k0];decide),if_neg (by rw[k1];decide),if_neg (by rw[k2];decide),if_neg (by rw[k3];decide),if_pos k4]
     ·
      have k4:=h5;refine wp_seq ?_;refine zl st11 [0,1,2,4,5,25,55,75,95,115] (λ _ _ _ st13=>?_);refine za ?_;refine zI (c:=115) st13 rfl (λ h6=>?_) (λ h6=>?_)
      ·
       have k5:=h6;refine wp_seq ?_;refine zp st13 (sc rfl ((zr rfl (by kernel_rfl) (zb rfl)))
        (sc rfl ((yA (parts:=[(0,.const (.int .i64 5))]) (ns:=[1,1,1,1,1]) (zs:=[[.int .i64 0],[.string ⟨⟨[]⟩⟩],[.int .i64 0],[.string ⟨⟨[]⟩⟩],[.int .i64 0]]) rfl rfl (by kernel_rfl) (by kernel_rfl) (λ w a hl=>by
    intro p hp;simp only[List.mem_cons,List.not_mem_nil,or_false] at hp;rcases hp with rfl
    ·
     exact
        ⟨by decide,rfl⟩) (λ w a hl=>Stmt.parts (x:=⟨5,⟨[]⟩,0,⟨[]⟩,0⟩) (OpdR.cells zM hl) jS ⟨rfl,trivial⟩ jS ⟨rfl,trivial⟩)))
        (sc rfl ((WV rfl (by kernel_rfl) (zb rfl) (zb rfl)))
        (sc rfl ((zz rfl (zb rfl)))
        .nil)))) [0,1,2,4,5,25,55,75,95,115] (λ _ _ _ st14=>?_)
       refine za ?_;refine wp_ret (zt (ze ?_));refine ye rfl (λ _ h=>h) st14 (t:=2) rfl ?_;rw[zX,if_neg (by rw[k0];decide),if_neg (by rw[k1];decide),if_neg (by rw[k2];decide),if_neg (by rw[k3];decide),if_neg (by rw[k4];decide),if_pos k5]
      ·
       have k5:=h6;refine wp_skip (zf (za (wp_seq ?_)));refine zl st13 [0,1,2,4,5,25,55,75,95,115] (λ _ _ _ st15=>?_);refine za (wp_ret ?_);refine ye rfl (λ _ h=>h) st15 (t:=2) rfl ?_;rw[zX,if_neg (by rw[k0];decide),if_neg (by rw[k1];decide),if_neg (by rw[k2];decide),if_neg (by rw[k3];decide),if_neg (by rw[k4];decide),if_neg (by rw[k5];decide)]
theorem za5(b:List Stmt)(hb:b.length<=1048576/\∀ s∈b,smStmt s):Fn Tryz.prog 124 [dt b] (dt (xz b)):=by
 refine yB (fn:=Tryz.f124) Tryz.func124 rfl (oD rfl) (λ M w0 _ hm st0=>?_);have hlen:=hb.1;refine wp_seq ?_;refine zl st0 [0,2] (λ _ _ _ st1=>?_);refine za (wp_seq (wp_seq ?_));refine zl st1 [0,2,3] (λ _ _ _ st2=>?_);refine za (wp_block ?_);refine qk (ι:=Nat) (λ k a w=>St (Frm.of w0) 19 M [(0,dt b),(3,dt (k:Int))] a w/\k<=b.length/\(b.take k).all zX=true) (λ k=>b.length - k) 0 ?_ ?_
 ·
  exact⟨st2.pick (kc 0 rfl (kc 3 rfl .nil)),Nat.zero_le _,by simp⟩
 ·
  rintro k a3 w3 ⟨st3,hk,hp⟩
  refine wp_seq (wp_seq ?_);refine zl st3 [0,3,7] (λ _ _ _ st4=>?_);refine za ?_;refine zI (c:=7) st4 rfl (λ h1=>?_) (λ h1=>?_)
  ·
   obtain⟨x,hx⟩:=XI h1;have hlt:=zA hx;refine wp_skip (za (wp_seq (wp_block (wp_seq ?_))));refine zp st4 (sc rfl ((zg rfl (zb rfl)))
    (sc rfl ((zg rfl (zb rfl)))
    (sc rfl ((yL rfl (by kernel_rfl) (zb rfl) (zb rfl) rfl (by assumption)))
    (sc rfl ((zr rfl (by kernel_rfl) (zb rfl)))
    (sc rfl ((zB (l:=[.tmp 13]) rfl (by kernel_rfl) (.cons (zb rfl) .nil) (za4 _ (hb.2 _ (List.mem_of_getElem? hx)))))
    (sc rfl ((ZQ rfl (zb rfl)))
    .nil)))))) [0,3,7,15] (λ _ _ _ st5=>?_)
   refine za ?_;refine zI (c:=15) st5 rfl (λ h2=>?_) (λ h2=>?_)
   ·
    have ht:=h2;refine wp_seq ?_;refine zl st5 [0,2,3,7,15] (λ _ _ _ st6=>?_);refine za ?_;refine wp_ret (zt (ze (ze (zt (ze ?_)))));refine ye rfl (λ _ h=>h) st6 (t:=2) rfl ?_;unfold xz;rw[all_fail hx (by simpa using ht)];rfl
   ·
    have hf:=h2;refine wp_skip (zf (za ?_));refine zp st5 (sc rfl ((zg rfl (zb rfl)))
     (sc rfl ((jy rfl (by decide) (zb rfl) zM (by simp only[arI];omega)))
     (sc rfl ((zz rfl (zb rfl)))
     .nil))) [0,3,7,15] (λ _ _ _ st7=>?_)
    refine za ⟨k+1,⟨st7.pick (kc 0 rfl (kc 3 rfl .nil)),by omega,all_next hx hp (by simpa using hf)⟩,by omega⟩
  ·
   have hend:=XJ h1;refine wp_exit (zh (zh (zy ?_)));refine za (wp_seq ?_);refine zl st4 [0,2,3,7] (λ _ _ _ st8=>?_);refine za (wp_ret ?_);refine ye rfl (λ _ h=>h) st8 (t:=2) rfl ?_;unfold xz;rw[all_end hend hp];rfl
theorem za6(f:File)(hf:smFile f):Fn Tryz.prog 85 [dt f] (dt (xV f)):=by
 refine yB (fn:=Tryz.f85) Tryz.func85 rfl (oD rfl) (λ M _ _ hm st0=>?_);refine wp_seq ?_;refine zp st0 (sc rfl ((Y2 rfl (zb rfl)))
  (sc rfl ((zz rfl X7))
  .nil)) [0,1,2] (λ _ _ _ st1=>?_)
 refine za (wp_seq (wp_seq ?_));refine zp st1 (sc rfl ((zH File.fld0 rfl (by kernel_rfl) (zb rfl)))
  (sc rfl ((zr rfl (by kernel_rfl) (zb rfl)))
  (sc rfl ((zB (l:=[.tmp 4,.const (.int .i64 0),.const (.int .i64 2)]) rfl (by kernel_rfl) (.cons (zb rfl) (.cons zM (.cons zM .nil))) (jO _ _ _)))
  (sc rfl ((ZQ rfl (zb rfl)))
  (sc rfl ((zg rfl (zb rfl)))
  (.cons rfl (by decide) (.guarded rfl rfl (by decide) rfl zv (λ hg=>zH File.fld4 rfl (by kernel_rfl) (zb rfl)))
  (.cons rfl (by decide) (.guarded rfl rfl (by decide) rfl zv (λ hg=>zr rfl (by kernel_rfl) (zn hg rfl)))
  (.cons rfl (by decide) (.guarded rfl rfl (by decide) rfl zv (λ hg=>zB (l:=[.tmp 9,.const (.int .i64 0),.const (.int .i64 99)]) rfl (by kernel_rfl) (.cons (zn hg rfl) (.cons zM (.cons zM .nil))) (jO _ _ _)))
  (.cons rfl (by decide) (.guarded rfl rfl (by decide) rfl zv (λ hg=>ZQ rfl (zn hg rfl)))
  (sc rfl ((ZO rfl (zb rfl) (zb rfl)))
  (sc rfl ((zg rfl (zb rfl)))
  (.cons rfl (by decide) (.guarded rfl rfl (by decide) rfl zv (λ hg=>zH File.fld1 rfl (by kernel_rfl) (zb rfl)))
  (.cons rfl (by decide) (.guarded rfl rfl (by decide) rfl zv (λ hg=>zr rfl (by kernel_rfl) (zn hg rfl)))
  (.cons rfl (by decide) (.guarded rfl rfl (by decide) rfl zv (λ hg=>zB (l:=[.tmp 15]) rfl (by kernel_rfl) (.cons (zn hg rfl) .nil) (XA _ (by have:=hf.1;unfold mid;omega))))
  (.cons rfl (by decide) (.guarded rfl rfl (by decide) rfl zv (λ hg=>ZQ rfl (zn hg rfl)))
  (sc rfl ((ZO rfl (zb rfl) (zb rfl)))
  (sc rfl ((zg rfl (zb rfl)))
  (.cons rfl (by decide) (.guarded rfl rfl (by decide) rfl zv (λ hg=>zH File.fld5 rfl (by kernel_rfl) (zb rfl)))
  (.cons rfl (by decide) (.guarded rfl rfl (by decide) rfl zv (λ hg=>zr rfl (by kernel_rfl) (zn hg rfl)))
  (.cons rfl (by decide) (.guarded rfl rfl (by decide) rfl zv (λ hg=>zB (l:=[.tmp 21]) rfl (by kernel_rfl) (.cons (zn hg rfl) .nil) (za5 _ ⟨hf.2.2.1,hf.2.2.2⟩)))
  (.cons rfl (by decide) (.guarded rfl rfl (by decide) rfl zv (λ hg=>ZQ rfl (zn hg rfl)))
  (sc rfl ((ZO rfl (zb rfl) (zb rfl)))
  .nil)))))))))))))))))))))) [0,1,2,24] (λ _ _ _ st2=>?_)
 refine za ?_;refine zI (c:=24) st2 rfl (λ h1=>?_) (λ h1=>?_)
 ·
  have g1:=h1;refine wp_seq ?_;refine zl st2 [0,1,2,24] (λ _ _ _ st3=>?_);refine za ?_;refine wp_ret (ze ?_);refine ye rfl (λ _ h=>h) st3 (t:=2) rfl ?_;rw[xV,if_pos g1]
 ·
  have g1:=h1;refine wp_skip (za (wp_seq (wp_seq ?_)));refine zl st2 [0,1,2,24,26] (λ _ _ _ st4=>?_);refine za ?_;refine zI (c:=26) st4 rfl (λ h2=>?_) (λ h2=>?_)
  ·
   have g2:=h2;refine wp_seq ?_;refine zp st4 (sc rfl ((zH File.fld1 rfl (by kernel_rfl) (zb rfl)))
    (sc rfl ((zr rfl (by kernel_rfl) (zb rfl)))
    (sc rfl ((zae rfl (zb rfl) (zN (by decide))))
    (sc rfl ((zg rfl (zb rfl)))
    (.cons rfl (by decide) (.guarded rfl rfl (by decide) rfl zv (λ hg=>zH File.fld2 rfl (by kernel_rfl) (zb rfl)))
    (.cons rfl (by decide) (.guarded rfl rfl (by decide) rfl zv (λ hg=>zr rfl (by kernel_rfl) (zn hg rfl)))
    (.cons rfl (by decide) (.guarded rfl rfl (by decide) rfl zv (λ hg=>qQ rfl (zn hg rfl) (zN (by decide))))
    (sc rfl ((xe rfl (zb rfl) (zb rfl)))
    (sc rfl ((zz rfl (zb rfl)))
    .nil))))))))) [0,1,2,24,26] (λ _ _ _ st5=>?_)
   refine za ?_;refine wp_ret (ze ?_);refine ye rfl (λ _ h=>h) st5 (t:=2) rfl ?_;rw[xV,if_neg (by rw[g1];decide),if_pos g2];rfl
  ·
   have g2:=h2;refine wp_skip (za (wp_seq ?_));refine zp st4 (sc rfl ((zH File.fld2 rfl (by kernel_rfl) (zb rfl)))
    (sc rfl ((zr rfl (by kernel_rfl) (zb rfl)))
    (sc rfl ((zB (l:=[.tmp 36]) rfl (by kernel_rfl) (.cons (zb rfl) .nil) (jV _)))
    (sc rfl ((zg rfl (zb rfl)))
    (.cons rfl (by decide) (.guarded rfl rfl (by decide) rfl zv (λ hg=>zH File.fld1 rfl (by kernel_rfl) (zb rfl)))
    (.cons rfl (by decide) (.guarded rfl rfl (by decide) rfl zv (λ hg=>zr rfl (by kernel_rfl) (zn hg rfl)))
    (.cons rfl (by decide) (.guarded rfl rfl (by decide) rfl zv (λ hg=>zH File.fld2 rfl (by kernel_rfl) (zb rfl)))
    (.cons rfl (by decide) (.guarded rfl rfl (by decide) rfl zv (λ hg=>zr rfl (by kernel_rfl) (zn hg rfl)))
    (.cons rfl (by decide) (.guarded rfl rfl (by decide) rfl zv (λ hg=>zB (l:=[.tmp 40,.tmp 42]) rfl (by kernel_rfl) (.cons (zn hg rfl) (.cons (zn hg rfl) .nil)) (ZT _ _ (by have:=hf.1;have:=hf.2.1;omega))))
    (.cons rfl (by decide) (.guarded rfl rfl (by decide) rfl zv (λ hg=>zB (l:=[.tmp 43]) rfl (by kernel_rfl) (.cons (zn hg rfl) .nil) (jW _ (child_mid (by have:=hf.1;have:=hf.2.1;omega)))))
    (sc rfl ((xe rfl (zb rfl) (zb rfl)))
    (sc rfl ((zz rfl (zb rfl)))
    .nil)))))))))))) [0,1,2,24,26] (λ _ _ _ st6=>?_)
   refine za (wp_ret ?_);refine ye rfl (λ _ h=>h) st6 (t:=2) rfl ?_;rw[xV,if_neg (by rw[g1];decide),if_neg (by rw[g2];decide)]
theorem zbQ(f g:File):Fn Tryz.prog 141 [dt f,dt g] (dt (xE f g)):=by
 refine yB (fn:=Tryz.f141) Tryz.func141 rfl (oD rfl) (λ M _ _ hm st0=>?_);refine wp_seq ?_;refine zp st0 (sc rfl ((Y2 rfl (zb rfl)))
  (sc rfl ((Y2 rfl (zb rfl)))
  (sc rfl ((zz rfl X7))
  .nil))) [0,1,2,3,4] (λ _ _ _ st1=>?_)
 refine za (wp_seq ?_);refine zp st1 (sc rfl ((zH File.fld0 rfl (by kernel_rfl) (zb rfl)))
  (sc rfl ((zr rfl (by kernel_rfl) (zb rfl)))
  (sc rfl ((zH File.fld0 rfl (by kernel_rfl) (zb rfl)))
  (sc rfl ((zr rfl (by kernel_rfl) (zb rfl)))
  (sc rfl ((xJ rfl (by decide) (zb rfl) (zb rfl)))
  (sc rfl ((zg rfl (zb rfl)))
  (.cons rfl (by decide) (.guarded rfl rfl (by decide) rfl zv (λ hg=>zH File.fld1 rfl (by kernel_rfl) (zb rfl)))
  (.cons rfl (by decide) (.guarded rfl rfl (by decide) rfl zv (λ hg=>zr rfl (by kernel_rfl) (zn hg rfl)))
  (.cons rfl (by decide) (.guarded rfl rfl (by decide) rfl zv (λ hg=>zH File.fld1 rfl (by kernel_rfl) (zb rfl)))
  (.cons rfl (by decide) (.guarded rfl rfl (by decide) rfl zv (λ hg=>zr rfl (by kernel_rfl) (zn hg rfl)))
  (.cons rfl (by decide) (.guarded rfl rfl (by decide) rfl zv (λ hg=>qQ rfl (zn hg rfl) (zn hg rfl)))
  (sc rfl ((xe rfl (zb rfl) (zb rfl)))
  (sc rfl ((zg rfl (zb rfl)))
  (.cons rfl (by decide) (.guarded rfl rfl (by decide) rfl zv (λ hg=>zH File.fld3 rfl (by kernel_rfl) (zb rfl)))
  (.cons rfl (by decide) (.guarded rfl rfl (by decide) rfl zv (λ hg=>zr rfl (by kernel_rfl) (zn hg rfl)))
  (.cons rfl (by decide) (.guarded rfl rfl (by decide) rfl zv (λ hg=>zH File.fld3 rfl (by kernel_rfl) (zb rfl)))
  (.cons rfl (by decide) (.guarded rfl rfl (by decide) rfl zv (λ hg=>zr rfl (by kernel_rfl) (zn hg rfl)))
  (.cons rfl (by decide) (.guarded rfl rfl (by decide) rfl zv (λ hg=>op_eqT rfl (by kernel_rfl) (zn hg rfl) (zn hg rfl)))
  (sc rfl ((xe rfl (zb rfl) (zb rfl)))
  (sc rfl ((zg rfl (zb rfl)))
  (.cons rfl (by decide) (.guarded rfl rfl (by decide) rfl zv (λ hg=>zH File.fld2 rfl (by kernel_rfl) (zb rfl)))
  (.cons rfl (by decide) (.guarded rfl rfl (by decide) rfl zv (λ hg=>zr rfl (by kernel_rfl) (zn hg rfl)))
  (.cons rfl (by decide) (.guarded rfl rfl (by decide) rfl zv (λ hg=>zH File.fld2 rfl (by kernel_rfl) (zb rfl)))
  (.cons rfl (by decide) (.guarded rfl rfl (by decide) rfl zv (λ hg=>zr rfl (by kernel_rfl) (zn hg rfl)))
  (.cons rfl (by decide) (.guarded rfl rfl (by decide) rfl zv (λ hg=>qQ rfl (zn hg rfl) (zn hg rfl)))
  (sc rfl ((xe rfl (zb rfl) (zb rfl)))
  (sc rfl ((zz rfl (zb rfl)))
  .nil))))))))))))))))))))))))))) [0,1,2,3,4] (λ _ _ _ st2=>?_)
 refine za (wp_ret ?_);refine ye rfl (λ _ h=>h) st2 (t:=4) rfl ?_;simp[xE,cmpI]
theorem YB(t:Tree)(f:File):Fn Tryz.prog 86 [dt t,dt f] (dt (xa t.files f)):=by
 refine yB (fn:=Tryz.f86) Tryz.func86 rfl (oD rfl) (λ M w0 _ hm st0=>?_);have hlen:=st0.fldL Tree.fld0 (s:=0) rfl;refine wp_seq ?_;refine Wa st0 (sc rfl ((Y2 rfl (zb rfl)))
  (sc rfl ((Y2 rfl (zb rfl)))
  (sc rfl ((zz rfl zM))
  .nil)))
  (kc 0 rfl (kc 1 rfl (kc 2 rfl (kc 3 rfl (kc 4 rfl .nil))))) (λ _ _ _ st1=>?_)
 refine za (wp_seq (wp_seq ?_));refine Wa st1 (sc rfl ((zz rfl zM))
  .nil)
  (kc 0 rfl (kc 1 rfl (kc 2 rfl (kc 3 rfl (kc 4 rfl (kc 5 rfl .nil)))))) (λ _ _ _ st2=>?_)
 refine za (wp_block ?_);refine qk (ι:=Nat) (λ k a w=>St (Frm.of w0) 21 M [(0,dt t),(1,dt f),(2,dptr t),(3,dptr f),(5,dt (k:Int))] a w/\k<=t.files.length/\(t.files.take k).any (λ x=>xE x f)=false) (λ k=>t.files.length - k) 0 ?_ ?_
 ·
  exact⟨st2.pick (kc 0 rfl (kc 1 rfl (kc 2 rfl (kc 3 rfl (kc 5 rfl .nil))))),Nat.zero_le _,by simp⟩
 ·
  rintro k a3 w3 ⟨st3,hk,hp⟩
  refine wp_seq (wp_seq ?_);refine Wa st3 (sc rfl ((zg rfl (zb rfl)))
   (sc rfl ((zH Tree.fld0 rfl (by kernel_rfl) (zb rfl)))
   (sc rfl ((zr rfl (by kernel_rfl) (zb rfl)))
   (sc rfl ((WE rfl (by kernel_rfl) (zb rfl)))
   (sc rfl ((xJ rfl (by decide) (zb rfl) (zb rfl)))
   .nil)))))
   (kc 0 rfl (kc 1 rfl (kc 2 rfl (kc 3 rfl (kc 5 rfl (kc 10 rfl .nil)))))) (λ _ _ _ st4=>?_)
  refine za ?_;refine zI (c:=10) st4 rfl (λ h1=>?_) (λ h1=>?_)
  ·
   obtain⟨x,hx⟩:=XI h1;have hlt:=zA hx;refine wp_skip (za (wp_seq (wp_block (wp_seq ?_))));refine Y4 zJ [[],[0],[],[0,1,2],[0,1,2,3],[],[0,1,2,3,4,5]] [[(2,nS)],[(13,0)],[(5,nS)],[(14,1),(15,2)],[(16,3)],[(3,nS)],[(17,4),(18,5)]] (by decide +kernel) st4 (D:=[_,_,_,_,_,_,_])
    (.cons rfl (by decide) rfl (.plain rfl (zH Tree.fld0 rfl (by kernel_rfl) (zb rfl)))
    (.cons rfl (by decide) rfl (.plain rfl (zr rfl (by kernel_rfl) (zb rfl)))
    (.cons rfl (by decide) rfl (.plain rfl (zg rfl (zb rfl)))
    (.cons rfl (by decide) rfl (.plain rfl (yL rfl (by kernel_rfl) (zb rfl) (zb rfl) rfl (by assumption)))
    (.cons rfl (by decide) rfl (.plain rfl (zr rfl (by kernel_rfl) (zb rfl)))
    (.cons rfl (by decide) rfl (.plain rfl (zr rfl (by kernel_rfl) (zb rfl)))
    (.cons rfl (by decide) rfl (.plain rfl (zB (l:=[.tmp 17,.tmp 18]) rfl (by kernel_rfl) (.cons (zb rfl) (.cons (zb rfl) .nil)) (zbQ _ _)))
    .nil)))))))
    (kc 0 rfl (kc 1 rfl (kc 2 rfl (kc 3 rfl (kc 5 rfl (kc 10 rfl (kc 19 rfl .nil))))))) (λ _ _ _ st5=>?_)
   refine za ?_;refine zI (c:=19) st5 rfl (λ h2=>?_) (λ h2=>?_)
   ·
    have ht:=h2;refine wp_seq ?_;refine zl st5 [0,1,2,3,4,5,10,19] (λ _ _ _ st6=>?_);refine za ?_;refine wp_ret (zt (ze (ze (zt (ze ?_)))));refine ye rfl (λ _ h=>h) st6 (t:=4) rfl ?_;exact(idx_hit hp hx ht).symm
   ·
    have hf:=h2;refine wp_skip (zf (za ?_));refine zp st5 (sc rfl ((zg rfl (zb rfl)))
     (sc rfl ((jy rfl (by decide) (zb rfl) zM (by simp only[arI];omega)))
     (sc rfl ((zz rfl (zb rfl)))
     .nil))) [0,1,2,3,5,10,19] (λ _ _ _ st7=>?_)
    refine za ⟨k+1,⟨st7.pick (kc 0 rfl (kc 1 rfl (kc 2 rfl (kc 3 rfl (kc 5 rfl .nil))))),by omega,zaW hx hp hf⟩,by omega⟩
  ·
   have hend:=XJ h1;refine wp_exit (zh (zh (zy ?_)));refine za (wp_seq ?_);refine zl st4 [0,1,2,3,4,5,10] (λ _ _ _ st8=>?_);refine za (wp_ret ?_);refine ye rfl (λ _ h=>h) st8 (t:=4) rfl ?_;exact(idx_end hend hp).symm
theorem spec_intAt_ok(l:List Int)(n:Int):Fn Tryz.prog 87 [dt l,dt n] (dt (intAt l n)):=by
 refine yB (fn:=Tryz.f87) Tryz.func87 rfl (oD rfl) (λ M w0 _ hm st0=>?_);have hlen:=st0.lenL (s:=0) rfl;refine wp_seq ?_;refine zl st0 [0,1,4] (λ _ _ _ st1=>?_);refine za (wp_seq (wp_seq ?_));refine zl st1 [0,1,4,5] (λ _ _ _ st2=>?_);refine za (wp_block ?_);refine qk (ι:=Nat) (λ k a w=>St (Frm.of w0) 19 M [(0,dt l),(1,dt n),(5,dt (k:Int))] a w/\k<=l.length/\(l.take k).any (λ x=>x == n)=false) (λ k=>l.length - k) 0 ?_ ?_
 ·
  exact⟨st2.pick (kc 0 rfl (kc 1 rfl (kc 5 rfl .nil))),Nat.zero_le _,by simp⟩
 ·
  rintro k a3 w3 ⟨st3,hk,hp⟩
  refine wp_seq (wp_seq ?_);refine zl st3 [0,1,5,9] (λ _ _ _ st4=>?_);refine za ?_;refine zI (c:=9) st4 rfl (λ h1=>?_) (λ h1=>?_)
  ·
   obtain⟨x,hx⟩:=XI h1;have hlt:=zA hx;refine wp_skip (za (wp_seq (wp_block (wp_seq ?_))));refine zp st4 (sc rfl ((zg rfl (zb rfl)))
    (sc rfl ((zg rfl (zb rfl)))
    (sc rfl ((yL rfl (by kernel_rfl) (zb rfl) (zb rfl) rfl (by assumption)))
    (sc rfl ((zr rfl (by kernel_rfl) (zb rfl)))
    (sc rfl ((zg rfl (zb rfl)))
    (sc rfl ((xJ rfl (by decide) (zb rfl) (zb rfl)))
    .nil)))))) [0,1,5,9,17] (λ _ _ _ st5=>?_)
   refine za ?_;refine zI (c:=17) st5 rfl (λ h2=>?_) (λ h2=>?_)
   ·
    have ht:=h2;refine wp_seq ?_;refine zl st5 [0,1,4,5,9,17] (λ _ _ _ st6=>?_);refine za ?_;refine wp_ret (zt (ze (ze (zt (ze ?_)))));refine ye rfl (λ _ h=>h) st6 (t:=4) rfl ?_;exact(idx_hit hp hx ht).symm
   ·
    have hf:=h2;refine wp_skip (zf (za ?_));refine zp st5 (sc rfl ((zg rfl (zb rfl)))
     (sc rfl ((jy rfl (by decide) (zb rfl) zM (by simp only[arI];omega)))
     (sc rfl ((zz rfl (zb rfl)))
     .nil))) [0,1,5,9,17] (λ _ _ _ st7=>?_)
    refine za ⟨k+1,⟨st7.pick (kc 0 rfl (kc 1 rfl (kc 5 rfl .nil))),by omega,zaW hx hp hf⟩,by omega⟩
  ·
   have hend:=XJ h1;refine wp_exit (zh (zh (zy ?_)));refine za (wp_seq ?_);refine zl st4 [0,1,4,5,9] (λ _ _ _ st8=>?_);refine za (wp_ret ?_);refine ye rfl (λ _ h=>h) st8 (t:=4) rfl ?_;exact(idx_end hend hp).symm
theorem JY  : Fn Tryz.prog 97 [] (dt Yd):=by
 refine yB (fn:=Tryz.f97) Tryz.func97 rfl (oD rfl) (λ M _ _ hm st0=>?_);refine wp_seq (wp_region_list ?_);refine Qp (n:=3) st0 rfl rfl rfl (by decide) (by kernel_rfl) .nil (λ b1 _ _ hb1 hn1 _ st1=>?_);refine wpList_nil (za (wp_seq (wp_region_list ?_)));refine Zp 2 st1 (sc rfl ((yq (opds:=[]) (α:=Int) rfl (by kernel_rfl) (by kernel_rfl) rfl rfl (by decide) .nil))
  (sc rfl ((yA (parts:=[(0,.const (.int .i64 0)),(1,.const (.int .i64 (-1))),(2,.tmp 1)]) (ns:=[1,1,1]) (zs:=[[.int .i64 0],[.int .i64 0],[.slice none 0 0]]) rfl rfl (by kernel_rfl) (by kernel_rfl) (λ w a hl=>by
    intro p hp;simp only[List.mem_cons,List.not_mem_nil,or_false] at hp;rcases hp with rfl | rfl | rfl
    ·
     exact⟨by decide,rfl⟩
    ·
     exact⟨by decide,rfl⟩
    ·
     exact⟨by decide,Rep.len (α:=(List Int)) (OpdR.cells (zb rfl) hl)⟩) (λ w a hl=>Spec.parts (x:=⟨0,-1,[]⟩) (OpdR.cells zM hl) (OpdR.cells zM hl) (OpdR.cells (zb rfl) hl))))
  .nil))
  (kc 0 rfl (kc 2 rfl .nil)) (λ _ _ _ st2=>?_)
 refine jT st2 rfl rfl rfl (by kernel_rfl) rfl hb1 (.inr rfl) rfl (zb rfl) .nil (λ _ st3=>?_);refine wpList_nil (za (wp_ret ?_));refine ret_box rfl (by kernel_rfl) st3 (t:=0) rfl (λ _ h=>(.inl h)) ?_;rfl
open Go.RowKit
set_option maxRecDepth 10000
theorem zcX(t:Tree)(root:Int)(p:Str)(hp:p.l.length<=1152921504606846976):Fn Tryz.prog 146 [dt t,dt root,dt p] (dt (Y6 t.files root p)):=by
 refine yB (fn:=Tryz.f146) Tryz.func146 rfl (oD rfl) (λ M w0 _ hm st0=>?_);have hlen:=st0.fldL Tree.fld0 (s:=0) rfl;refine wp_seq ?_;refine zp st0 (sc rfl ((Y2 rfl (zb rfl)))
  (sc rfl ((zz rfl X7))
  .nil)) [0,1,2,3,6] (λ _ _ _ st1=>?_)
 refine za (wp_seq (wp_seq ?_));refine zl st1 [0,1,2,3,6,7] (λ _ _ _ st2=>?_);refine za (wp_block ?_);refine qk (ι:=Nat) (λ k a w=>St (Frm.of w0) 44 M [(0,dt t),(1,dt root),(2,dt p),(3,dptr t),(7,dt (k:Int))] a w/\k<=t.files.length/\(t.files.take k).any (JV root p)=false) (λ k=>t.files.length - k) 0 ?_ ?_
 ·
  exact⟨st2.pick (kc 0 rfl (kc 1 rfl (kc 2 rfl (kc 3 rfl (kc 7 rfl .nil))))),Nat.zero_le _,by simp⟩
 ·
  rintro k a3 w3 ⟨st3,hk,hq⟩
  refine wp_seq (wp_seq ?_);refine zl st3 [0,1,2,3,7,12] (λ _ _ _ st4=>?_);refine za ?_;refine zI (c:=12) st4 rfl (λ h1=>?_) (λ h1=>?_)
  ·
   obtain⟨x,hx⟩:=XI h1;have hlt:=zA hx;refine wp_skip (za (wp_seq (wp_block (wp_seq ?_))));refine zp st4 (sc rfl ((zH Tree.fld0 rfl (by kernel_rfl) (zb rfl)))
    (sc rfl ((zr rfl (by kernel_rfl) (zb rfl)))
    (sc rfl ((zg rfl (zb rfl)))
    (sc rfl ((yL rfl (by kernel_rfl) (zb rfl) (zb rfl) rfl (by assumption)))
    (sc rfl ((zH File.fld0 rfl (by kernel_rfl) (zb rfl)))
    (sc rfl ((zr rfl (by kernel_rfl) (zb rfl)))
    (sc rfl ((zg rfl (zb rfl)))
    (sc rfl ((xJ rfl (by decide) (zb rfl) (zb rfl)))
    (sc rfl ((zg rfl (zb rfl)))
    (.cons rfl (by decide) (.guarded rfl rfl (by decide) rfl zv (λ hg=>zH Tree.fld0 rfl (by kernel_rfl) (zb rfl)))
    (.cons rfl (by decide) (.guarded rfl rfl (by decide) rfl zv (λ hg=>zr rfl (by kernel_rfl) (zn hg rfl)))
    (.cons rfl (by decide) (.guarded rfl rfl (by decide) rfl zv (λ hg=>zg rfl (zb rfl)))
    (.cons rfl (by decide) (.guarded rfl rfl (by decide) rfl zv (λ hg=>yL rfl (by kernel_rfl) (zn hg rfl) (zn hg rfl) rfl (by assumption)))
    (.cons rfl (by decide) (.guarded rfl rfl (by decide) rfl zv (λ hg=>zH File.fld1 rfl (by kernel_rfl) (zn hg rfl)))
    (.cons rfl (by decide) (.guarded rfl rfl (by decide) rfl zv (λ hg=>zr rfl (by kernel_rfl) (zn hg rfl)))
    (.cons rfl (by decide) (.guarded rfl rfl (by decide) rfl zv (λ hg=>zae rfl (zn hg rfl) (zN (by decide))))
    (sc rfl ((xe rfl (zb rfl) (zb rfl)))
    (sc rfl ((zg rfl (zb rfl)))
    (.cons rfl (by decide) (.guarded rfl rfl (by decide) rfl zv (λ hg=>zH Tree.fld0 rfl (by kernel_rfl) (zb rfl)))
    (.cons rfl (by decide) (.guarded rfl rfl (by decide) rfl zv (λ hg=>zr rfl (by kernel_rfl) (zn hg rfl)))
    (.cons rfl (by decide) (.guarded rfl rfl (by decide) rfl zv (λ hg=>zg rfl (zb rfl)))
    (.cons rfl (by decide) (.guarded rfl rfl (by decide) rfl zv (λ hg=>yL rfl (by kernel_rfl) (zn hg rfl) (zn hg rfl) rfl (by assumption)))
    (.cons rfl (by decide) (.guarded rfl rfl (by decide) rfl zv (λ hg=>zH File.fld1 rfl (by kernel_rfl) (zn hg rfl)))
    (.cons rfl (by decide) (.guarded rfl rfl (by decide) rfl zv (λ hg=>zr rfl (by kernel_rfl) (zn hg rfl)))
    (.cons rfl (by decide) (.guarded rfl rfl (by decide) rfl zv (λ hg=>zg rfl (zb rfl)))
    (.cons rfl (by decide) (.guarded rfl rfl (by decide) rfl zv (λ hg=>zB (l:=[.tmp 38,.tmp 39]) rfl (by kernel_rfl) (.cons (zn hg rfl) (.cons (zn hg rfl) .nil)) (spec_under_ok _ _ (by assumption))))
    (sc rfl ((xe rfl (zb rfl) (zb rfl)))
    .nil))))))))))))))))))))))))))) [0,1,2,3,7,12,41] (λ _ _ _ st5=>?_)
   refine za ?_;refine zI (c:=41) st5 rfl (λ h2=>?_) (λ h2=>?_)
   ·
    have ht:=h2;refine wp_seq ?_;refine zl st5 [0,1,2,3,6,7,12,41] (λ _ _ _ st6=>?_);refine za ?_;refine wp_ret (zt (ze (ze (zt (ze ?_)))));refine ye rfl (λ _ h=>h) st6 (t:=6) rfl ?_;rw[Y6,any_hit (p:=JV root p) hx ht];rfl
   ·
    have hf:=h2;refine wp_skip (zf (za ?_));refine zp st5 (sc rfl ((zg rfl (zb rfl)))
     (sc rfl ((jy rfl (by decide) (zb rfl) zM (by simp only[arI];omega)))
     (sc rfl ((zz rfl (zb rfl)))
     .nil))) [0,1,2,3,7,12,41] (λ _ _ _ st7=>?_)
    refine za ⟨k+1,⟨st7.pick (kc 0 rfl (kc 1 rfl (kc 2 rfl (kc 3 rfl (kc 7 rfl .nil))))),by omega,zaW (p:=JV root p) hx hq hf⟩,by omega⟩
  ·
   have hend:=XJ h1;refine wp_exit (zh (zh (zy ?_)));refine za (wp_seq ?_);refine zl st4 [0,1,2,3,6,7,12] (λ _ _ _ st8=>?_);refine za (wp_ret ?_);refine ye rfl (λ _ h=>h) st8 (t:=6) rfl ?_;rw[Y6,any_end hend hq];rfl
theorem za7(l:List Int):Fn Tryz.prog 39 [dt l] (dt (xA l)):=by
 refine yB (fn:=Tryz.f39) Tryz.func39 rfl (oD rfl) (λ M w0 _ hm st0=>?_);have hlen:=st0.lenL (s:=0) rfl;refine wp_seq ?_;refine zl st0 [0,2] (λ _ _ _ st1=>?_);refine za (wp_seq (wp_seq ?_));refine zl st1 [0,2,3] (λ _ _ _ st2=>?_);refine za (wp_block ?_);refine qk (ι:=Nat) (λ k a w=>St (Frm.of w0) 27 M [(0,dt l),(3,dt (k:Int))] a w/\k<=l.length/\JW l k=true) (λ k=>l.length - k) 0 ?_ ?_
 ·
  exact⟨st2.pick (kc 0 rfl (kc 3 rfl .nil)),Nat.zero_le _,rfl⟩
 ·
  rintro k a3 w3 ⟨st3,hk,hp⟩
  refine wp_seq (wp_seq ?_);refine zl st3 [0,3,7] (λ _ _ _ st4=>?_);refine za ?_;refine zI (c:=7) st4 rfl (λ h1=>?_) (λ h1=>?_)
  ·
   obtain⟨x,hx⟩:=XI h1;have hlt:=zA hx;refine wp_skip (za (wp_seq (wp_block (wp_seq ?_))));refine Y4 zJ [[],[],[0,1],[0,1,2],[0,1,2,3],[0,1,2,3,4],[0,1,2,3,4,5],[0,1,2,3,4,5,6],[0,1,2,3,4,5,6],[0,1,2,3,4,5,6,7,8],[0,1,2,3,4,5,6],[0,1,2,3,4,5,6],[0,1,2,3,4,5,6,10,11],[0,1,2,3,4,5,6,10,11,12],[0,1,2,3,4,5,6,7,8,9,10,11,12,13],[0,1,2,3,4,5,6,7,8,9,10,11,12,13,14],[0,1,2,3,4,5,6,7,8,9,10,11,12,13,14,15]] [[(0,nS)],[(3,nS)],[(10,0),(11,1)],[(12,2)],[(13,3)],[(14,4)],[(15,5)],[(0,nS),(16,6)],[(3,nS),(16,6)],[(17,7),(18,8),(16,6)],[(0,nS),(16,6)],[(3,nS),(16,6)],[(20,10),(21,11),(16,6)],[(22,12),(16,6)],[(19,9),(23,13),(16,6)],[(24,14),(16,6)],[(16,6),(25,15)]] (by decide +kernel) st4 (D:=[_,_,_,_,_,_,_,_,_,_,_,_,_,_,_,_,_])
    (.cons rfl (by decide) rfl (.plain rfl (zg rfl (zb rfl)))
    (.cons rfl (by decide) rfl (.plain rfl (zg rfl (zb rfl)))
    (.cons rfl (by decide) rfl (.plain rfl (yL rfl (by kernel_rfl) (zb rfl) (zb rfl) rfl (by assumption)))
    (.cons rfl (by decide) rfl (.plain rfl (zr rfl (by kernel_rfl) (zb rfl)))
    (.cons rfl (by decide) rfl (.plain rfl (zB (l:=[.tmp 13,.const (.int .i64 0),.const (.int .i64 2)]) rfl (by kernel_rfl) (.cons (zb rfl) (.cons zM (.cons zM .nil))) (jO _ _ _)))
    (.cons rfl (by decide) rfl (.plain rfl (ZQ rfl (zb rfl)))
    (.cons rfl (by decide) rfl (.plain rfl (zg rfl (zb rfl)))
    (.cons rfl (by decide) rfl (.guarded rfl rfl (by decide) rfl zv (λ hg=>zg rfl (zb rfl)))
    (.cons rfl (by decide) rfl (.guarded rfl rfl (by decide) rfl zv (λ hg=>zg rfl (zb rfl)))
    (.cons rfl (by decide) rfl (.guarded rfl rfl (by decide) rfl zv (λ hg=>X8 rfl (by kernel_rfl) (zn hg rfl) (zn hg rfl) rfl (by omega)))
    (.cons rfl (by decide) rfl (.guarded rfl rfl (by decide) rfl zv (λ hg=>zg rfl (zb rfl)))
    (.cons rfl (by decide) rfl (.guarded rfl rfl (by decide) rfl zv (λ hg=>zg rfl (zb rfl)))
    (.cons rfl (by decide) rfl (.guarded rfl rfl (by decide) rfl zv (λ hg=>yL rfl (by kernel_rfl) (zn hg rfl) (zn hg rfl) rfl (by assumption)))
    (.cons rfl (by decide) rfl (.guarded rfl rfl (by decide) rfl zv (λ hg=>zr rfl (by kernel_rfl) (zn hg rfl)))
    (.cons rfl (by decide) rfl (.guarded rfl rfl (by decide) rfl zv (λ hg=>zB (l:=[.tmp 19,.tmp 23]) rfl (by kernel_rfl) (.cons (zn hg rfl) (.cons (zn hg rfl) .nil)) (spec_intAt_ok _ _)))
    (.cons rfl (by decide) rfl (.guarded rfl rfl (by decide) rfl zv (λ hg=>xJ rfl (by decide) (zn hg rfl) zM))
    (.cons rfl (by decide) rfl (.plain rfl (ZO rfl (zb rfl) (zb rfl)))
    .nil)))))))))))))))))
    (kc 0 rfl (kc 3 rfl (kc 7 rfl (kc 26 rfl .nil)))) (λ _ _ _ st5=>?_)
   refine za ?_;refine zI (c:=26) st5 rfl (λ h2=>?_) (λ h2=>?_)
   ·
    have ht:=h2;refine wp_seq ?_;refine zl st5 [0,2,3,7,26] (λ _ _ _ st6=>?_);refine za ?_;refine wp_ret (zt (ze (ze (zt (ze ?_)))));refine ye rfl (λ _ h=>h) st6 (t:=2) rfl ?_;exact(validPath_bad hx ht).symm
   ·
    have hf:=h2;refine wp_skip (zf (za ?_));refine zp st5 (sc rfl ((zg rfl (zb rfl)))
     (sc rfl ((jy rfl (by decide) (zb rfl) zM (by simp only[arI];omega)))
     (sc rfl ((zz rfl (zb rfl)))
     .nil))) [0,3,7,26] (λ _ _ _ st7=>?_)
    refine za ⟨k+1,⟨st7.pick (kc 0 rfl (kc 3 rfl .nil)),by omega,pathTo_next hx hp hf⟩,by omega⟩
  ·
   have hend:=XJ h1;refine wp_exit (zh (zh (zy ?_)));refine za (wp_seq ?_);refine zl st4 [0,2,3,7] (λ _ _ _ st8=>?_);refine za (wp_ret ?_);refine ye rfl (λ _ h=>h) st8 (t:=2) rfl ?_;exact(validPath_end hend hk hp).symm
theorem za8(t:Tree)(ht:xg t):Fn Tryz.prog 38 [dt t] (dt (zw t)):=by
 refine yB (fn:=Tryz.f38) Tryz.func38 rfl (oD rfl) (λ M w0 _ hm st0=>?_);have hlen:=ht.1;refine wp_seq ?_;refine zp st0 (sc rfl ((Y2 rfl (zb rfl)))
  (sc rfl ((zz rfl X7))
  .nil)) [0,1,2] (λ _ _ _ st1=>?_)
 refine za (wp_seq (wp_seq ?_));refine zl st1 [0,1,2,3] (λ _ _ _ st2=>?_);refine za (wp_block ?_);refine qk (ι:=Nat) (λ k a w=>St (Frm.of w0) 33 M [(0,dt t),(1,dptr t),(3,dt (k:Int))] a w/\k<=t.files.length/\WO t.files k=true) (λ k=>t.files.length - k) 0 ?_ ?_
 ·
  exact⟨st2.pick (kc 0 rfl (kc 1 rfl (kc 3 rfl .nil))),Nat.zero_le _,rfl⟩
 ·
  rintro k a3 w3 ⟨st3,hk,hp⟩
  refine wp_seq (wp_seq ?_);refine zl st3 [0,1,3,8] (λ _ _ _ st4=>?_);refine za ?_;refine zI (c:=8) st4 rfl (λ h1=>?_) (λ h1=>?_)
  ·
   obtain⟨x,hx⟩:=XI h1;have hlt:=zA hx;refine wp_skip (za (wp_seq (wp_block (wp_seq ?_))));refine Y4 zJ [[],[0],[],[0,1,2],[0,1,2,3],[0,1,2,3,4],[0,1,2,3,4,5],[0,1,2,3,4,5,6],[0,1,2,3,4,5,6,7],[0,1,2,3,4,5,6,7],[0,1,2,3,4,5,6,7,9],[0,1,2,3,4,5,6,7],[0,1,2,3,4,5,6,7,9,10,11],[0,1,2,3,4,5,6,7,9,10,11,12],[0,1,2,3,4,5,6,7,8,9,10,11,12,13],[0,1,2,3,4,5,6,7],[0,1,2,3,4,5,6,7,8,9,10,11,12,13,14,15],[0,1,2,3,4,5,6,7,8,9,10,11,12,13,14,15,16]] [[(1,nS)],[(11,0)],[(3,nS)],[(12,1),(13,2)],[(14,3)],[(15,4)],[(16,5)],[(17,6)],[(1,nS),(18,7)],[(1,nS),(18,7)],[(20,9),(18,7)],[(3,nS),(18,7)],[(21,10),(22,11),(18,7)],[(23,12),(18,7)],[(19,8),(24,13),(18,7)],[(3,nS),(18,7)],[(25,14),(26,15),(18,7)],[(18,7),(27,16)]] (by decide +kernel) st4 (D:=[_,_,_,_,_,_,_,_,_,_,_,_,_,_,_,_,_,_])
    (.cons rfl (by decide) rfl (.plain rfl (zH Tree.fld0 rfl (by kernel_rfl) (zb rfl)))
    (.cons rfl (by decide) rfl (.plain rfl (zr rfl (by kernel_rfl) (zb rfl)))
    (.cons rfl (by decide) rfl (.plain rfl (zg rfl (zb rfl)))
    (.cons rfl (by decide) rfl (.plain rfl (yL rfl (by kernel_rfl) (zb rfl) (zb rfl) rfl (by assumption)))
    (.cons rfl (by decide) rfl (.plain rfl (zr rfl (by kernel_rfl) (zb rfl)))
    (.cons rfl (by decide) rfl (.plain rfl (zB (l:=[.tmp 15]) rfl (by kernel_rfl) (.cons (zb rfl) .nil) (za6 _ (ht.2 _ (List.mem_of_getElem? hx)))))
    (.cons rfl (by decide) rfl (.plain rfl (ZQ rfl (zb rfl)))
    (.cons rfl (by decide) rfl (.plain rfl (zg rfl (zb rfl)))
    (.cons rfl (by decide) rfl (.guarded rfl rfl (by decide) rfl zv (λ hg=>zr rfl (by kernel_rfl) (zb rfl)))
    (.cons rfl (by decide) rfl (.guarded rfl rfl (by decide) rfl zv (λ hg=>zH Tree.fld0 rfl (by kernel_rfl) (zb rfl)))
    (.cons rfl (by decide) rfl (.guarded rfl rfl (by decide) rfl zv (λ hg=>zr rfl (by kernel_rfl) (zn hg rfl)))
    (.cons rfl (by decide) rfl (.guarded rfl rfl (by decide) rfl zv (λ hg=>zg rfl (zb rfl)))
    (.cons rfl (by decide) rfl (.guarded rfl rfl (by decide) rfl zv (λ hg=>yL rfl (by kernel_rfl) (zn hg rfl) (zn hg rfl) rfl (by assumption)))
    (.cons rfl (by decide) rfl (.guarded rfl rfl (by decide) rfl zv (λ hg=>zr rfl (by kernel_rfl) (zn hg rfl)))
    (.cons rfl (by decide) rfl (.guarded rfl rfl (by decide) rfl zv (λ hg=>zB (l:=[.tmp 19,.tmp 24]) rfl (by kernel_rfl) (.cons (zn hg rfl) (.cons (zn hg rfl) .nil)) (YB _ _)))
    (.cons rfl (by decide) rfl (.guarded rfl rfl (by decide) rfl zv (λ hg=>zg rfl (zb rfl)))
    (.cons rfl (by decide) rfl (.guarded rfl rfl (by decide) rfl zv (λ hg=>xJ rfl (by decide) (zn hg rfl) (zn hg rfl)))
    (.cons rfl (by decide) rfl (.plain rfl (ZO rfl (zb rfl) (zb rfl)))
    .nil))))))))))))))))))
    (kc 0 rfl (kc 1 rfl (kc 3 rfl (kc 8 rfl (kc 28 rfl .nil))))) (λ _ _ _ st5=>?_)
   refine za ?_;refine zI (c:=28) st5 rfl (λ h2=>?_) (λ h2=>?_)
   ·
    have hq:=h2;refine wp_seq ?_;refine zl st5 [0,1,2,3,8,28] (λ _ _ _ st6=>?_);refine za ?_;refine wp_ret (zt (ze (ze (zt (ze ?_)))));refine ye rfl (λ _ h=>h) st6 (t:=2) rfl ?_;exact(validTree_bad hx hq).symm
   ·
    have hf:=h2;refine wp_skip (zf (za ?_));refine zp st5 (sc rfl ((zg rfl (zb rfl)))
     (sc rfl ((jy rfl (by decide) (zb rfl) zM (by simp only[arI];omega)))
     (sc rfl ((zz rfl (zb rfl)))
     .nil))) [0,1,3,8,28] (λ _ _ _ st7=>?_)
    refine za ⟨k+1,⟨st7.pick (kc 0 rfl (kc 1 rfl (kc 3 rfl .nil))),by omega,treeTo_next hx hp hf⟩,by omega⟩
  ·
   have hend:=XJ h1;refine wp_exit (zh (zh (zy ?_)));refine za (wp_seq ?_);refine zl st4 [0,1,2,3,8] (λ _ _ _ st8=>?_);refine za (wp_ret ?_);refine ye rfl (λ _ h=>h) st8 (t:=2) rfl ?_;exact(validTree_end hend hk hp)
open Go.RowKit
set_option maxRecDepth 10000
theorem zar(xs:List Str)(s:Str)(hx:xs.length<=8796093022200):zaj Tryz.prog 43 9 (xs) [dt s] (x9 xs s):=by
 refine zcR (fn:=Tryz.f43) Tryz.func43 rfl (oD rfl) (λ M g w0 _ htip hm st0=>?_);refine wp_seq ?_;refine zp st0 (sc rfl ((zz rfl (x8 (α:=Str))))
  .nil) [0,1,4] (λ _ _ _ st1=>?_)
 refine za (wp_seq (wp_seq ?_));refine zp st1 (sc rfl ((zg rfl (zb rfl)))
  (sc rfl ((zg rfl (zb rfl)))
  (sc rfl ((we (M0:=M) (l:=[.tmp 7,.tmp 8]) (λ _ h=>.inl h) rfl (by kernel_rfl) (.cons (opd2_tip (λ _ h=>.inl h) htip (zb rfl)) (.cons (jU (λ _ h=>.inl h) (zb rfl)) .nil)) (zcF _ _) qn))
  .nil))) [0,1,4,9] (λ _ _ _ st2=>?_)
 refine za ?_;refine zI (c:=9) st2 rfl (λ h1=>?_) (λ h1=>?_)
 ·
  have hin:=h1;refine wp_seq ?_;refine zl st2 [0,1,4,9] (λ _ _ _ st3=>?_);refine za ?_;refine wp_ret (ze ?_);refine ret_take rfl rfl htip (λ _ h=>h) st3 (t:=4) rfl ?_;rw[x9,if_pos hin]
 ·
  have hin:=h1;refine wp_skip (za (wp_seq ?_));refine zp st2 (sc rfl ((zg rfl (zb rfl)))
   (sc rfl ((Qo rfl (by kernel_rfl) (zb rfl)))
   (sc rfl ((zz rfl (zb rfl)))
   .nil))) [0,1,4,5,9] (λ _ _ _ st4=>?_)
  refine za (wp_seq (wp_block ?_));refine qk (ι:=Nat) (λ k a w=>St (Frm.take w0 g) 39 (insO g M) [(0,dtip g 9 (xs)),(1,dt s),(5,dt (k:Int))] a w/\k<=xs.length/\jA xs s k=jA xs s xs.length) (λ k=>k) xs.length ?_ ?_
  ·
   exact⟨st4.pick (kc 0 rfl (kc 1 rfl (kc 5 rfl .nil))),Nat.le_refl _,rfl⟩
  ·
   rintro k a5 w5 ⟨st5,hk,hp⟩
   obtain⟨y,hy⟩:=insGet hk;refine wp_seq (wp_seq ?_);refine zp st5 (sc rfl ((zg rfl (zb rfl)))
    (sc rfl ((xJ rfl (by decide) (zb rfl) zM))
    (sc rfl ((zg rfl (zb rfl)))
    (.cons rfl (by decide) (.guarded rfl rfl (by decide) rfl zv (λ hg=>zg rfl (zb rfl)))
    (.cons rfl (by decide) (.guarded rfl rfl (by decide) rfl zv (λ hg=>zg rfl (zb rfl)))
    (.cons rfl (by decide) (.guarded rfl rfl (by decide) rfl zv (λ hg=>jy rfl (by decide) (zn hg rfl) zM (by simp only[arI];omega)))
    (.cons rfl (by decide) (.guarded rfl rfl (by decide) rfl zv (λ hg=>zaU rfl (by kernel_rfl) (zn hg rfl) (zn hg rfl) (k:=k - 1) (by have:=gtz' hg;simp only[arI];omega) (hy (gtz' hg))))
    (.cons rfl (by decide) (.guarded rfl rfl (by decide) rfl zv (λ hg=>yf rfl (by kernel_rfl) (zn hg rfl)))
    (.cons rfl (by decide) (.guarded rfl rfl (by decide) rfl zv (λ hg=>zg rfl (zb rfl)))
    (.cons rfl (by decide) (.guarded rfl rfl (by decide) rfl zv (λ hg=>op_cmpS rfl (by decide) (zn hg rfl) (zn hg rfl)))
    (sc rfl ((xe rfl (zb rfl) (zb rfl)))
    .nil))))))))))) [0,1,5,23] (λ _ _ _ st6=>?_)
   refine za ?_;refine zI (c:=23) st6 rfl (λ h2=>?_) (λ h2=>?_)
   ·
    have htk:=h2;refine wp_skip (za (wp_block ?_));refine zp st6 (sc rfl ((zg rfl (zb rfl)))
     (sc rfl ((jy rfl (by decide) (zb rfl) zM (by simp only[arI];omega)))
     (sc rfl ((zz rfl (zb rfl)))
     .nil))) [0,1,5,23] (λ _ _ _ st7=>?_)
    refine zf ?_;refine za ⟨k - 1,⟨?_,by omega,(insPos_down hy htk).trans hp⟩,by have:=gtz htk;omega⟩;rw[show((k - 1:Nat):Int)=arI .sub k 1 from by have:=gtz htk;simp only[arI];omega];exact st7.pick (kc 0 rfl (kc 1 rfl (kc 5 rfl .nil)))
   ·
    have hend:=h2;refine wp_exit (zh (zh (zy ?_)));refine za (wp_seq (wp_region_list ?_));refine Zp 4 st6.ins0 (sc rfl ((yZ (α:=Str) (e:=9) rfl (by kernel_rfl))) (sc rfl ((zg rfl (zb rfl))) (sc rfl ((zg rfl (zb rfl))) (sc rfl ((op_sliceLT rfl (by kernel_rfl) (zb rfl) (zb rfl) rfl (by assumption))) .nil)))) (kc 0 rfl (kc 1 rfl (kc 5 rfl (kc 26 rfl (kc 29 rfl .nil))))) (λ _ _ _ st50=>?_);refine Yb (bytes:=16) st50 rfl rfl rfl (by decide) (by kernel_rfl) rfl rfl row_row (by simp;omega) (by simp;omega) (.cons (s:=0) rfl off_none (.cons (s:=1) rfl (λ _ _ h=>h) (.cons (s:=5) rfl (λ _ _ h=>h) .nil))) TipOK.none_ (λ g51 _ _ hg51 st51=>?_);refine Zp 1 st51 (sc rfl ((zz rfl (zb rfl))) .nil) (kc 0 rfl (kc 1 rfl (kc 5 rfl (kc 6 rfl .nil)))) (λ _ _ _ st52=>?_);refine wpList_nil (za (wp_seq ?_));have st53:=st52.congr (swap_tip (g:=g) (g2:=g51) (M:=M));refine wp_region_list ?_;refine Zp 5 st53 (sc rfl ((zg rfl (zb rfl))) (sc rfl ((zg rfl (zb rfl))) (sc rfl ((op_sliceHT rfl (by kernel_rfl) (zb rfl) (zb rfl) rfl (by assumption))) (sc rfl ((zg rfl (zb rfl))) (sc rfl ((yq (opds:=[.tmp 34]) rfl (by kernel_rfl) (by kernel_rfl) rfl rfl (by decide) (.cons (zb rfl) .nil))) .nil))))) (kc 1 rfl (kc 6 rfl (kc 33 rfl (kc 35 rfl .nil)))) (λ _ _ _ st54=>?_);refine Yb (bytes:=16) st54 rfl rfl rfl (by decide) (by kernel_rfl) rfl rfl yS (by simp;omega) (by simp;omega) (.cons (s:=1) rfl (λ _ _ h=>h) (.cons (s:=6) rfl (own_apart hg51) .nil)) (htip.apart hg51) (λ g55 _ _ hg55 st55=>?_);refine Zp 1 st55 (sc rfl ((zg rfl (zb rfl))) .nil) (kc 36 rfl (kc 37 rfl .nil)) (λ _ _ _ st56=>?_);refine Yb (bytes:=16) st56 rfl rfl rfl (by decide) (by kernel_rfl) rfl rfl row_tip (by simp;omega) (by simp;omega) .nil hg55 (λ g57 _ _ hg57 st57=>?_);refine Zp 1 st57 (sc rfl ((zz rfl (zb rfl))) .nil) (kc 4 rfl .nil) (λ _ _ _ st58=>?_);refine wpList_nil (za (wp_ret ?_));refine ret_take rfl rfl hg57 (λ _ h=>h.imp .inl id) st58 (t:=4) rfl ?_;rw[x9,if_neg (by rw[hin];decide),← hp,insPos_stop hy hend];simp
open Go.RowKit
set_option maxRecDepth 10000
theorem zcY(t:Tree)(roots:List Int)(p s:Str)(hr:roots.length<=1099511627776)(hp:p.l.length+s.l.length<=1152921504606846975):Fn Tryz.prog 98 [dt t,dt roots,dt p,dt s] (dt (wQ t.files roots p s)):=by
 refine yB (fn:=Tryz.f98) Tryz.func98 rfl (oD rfl) (λ M w0 _ hm st0=>?_);refine wp_seq (wp_region_list ?_);refine Zp 1 st0 (sc rfl ((Y2 rfl (zb rfl)))
  .nil)
  (kc 0 rfl (kc 1 rfl (kc 2 rfl (kc 3 rfl (kc 4 rfl .nil))))) (λ _ _ _ st1=>?_)
 refine Qp (n:=3) st1 rfl rfl rfl (by decide) (by kernel_rfl) (kc 0 rfl (kc 1 rfl (kc 2 rfl (kc 3 rfl (kc 4 rfl .nil))))) (λ b2 _ _ hb2 hn2 _ st2=>?_);refine wpList_nil (za (wp_seq ?_));refine zp st2 (sc rfl ((yZ (α:=Int) (e:=3) rfl (by kernel_rfl)))
  (sc rfl ((zz rfl (zb rfl)))
  .nil)) [0,1,2,3,4,8,9] (λ _ _ _ st3=>?_)
 refine za (wp_seq (wp_seq ?_));refine zl st3 [0,1,2,3,4,8,9,10] (λ _ _ _ st4=>?_);refine za (wp_block ?_);refine qk (ι:=Nat×List Int) (λ i a w=>∃ g,TipOK (Frm.of w0) (insO (some b2) M) g/\St (Frm.of w0) 80 (insO g (insO (some b2) M)) [(0,dt t),(1,dt roots),(2,dt p),(3,dt s),(4,dptr t),(8,draw (some b2) 3),(9,dtip g 3 i.2),(10,dt (i.1:Int))] a w/\i.1<=roots.length/\i.2.length<=i.1/\y6 t.files p s i.2 (roots.drop i.1)=y6 t.files p s [] roots) (λ i=>roots.length - i.1) (0,[]) ?_ ?_
 ·
  exact⟨none,TipOK.none_,st4.ins0.pick (kc 0 rfl (kc 1 rfl (kc 2 rfl (kc 3 rfl (kc 4 rfl (kc 8 rfl (kc 9 rfl (kc 10 rfl .nil)))))))),Nat.zero_le _,Nat.zero_le _,rfl⟩
 ·
  rintro ⟨k,acc⟩ a5 w5 ⟨g5,hg5,st5,hk,ha,hrun⟩
  dsimp only at*;refine wp_seq (wp_seq ?_);refine zl st5 [0,1,2,3,4,8,9,10,18] (λ _ _ _ st6=>?_);refine za ?_;refine zI (c:=18) st6 rfl (λ h1=>?_) (λ h1=>?_)
  ·
   obtain⟨x,hx⟩:=XI h1;have hlt:=zA hx;refine wp_skip (za (wp_seq (wp_block (wp_seq ?_))));refine Y4 zJ [[],[],[],[1,2],[1,2,3],[],[],[5,6],[0,1,2,3,4,5,6,7],[0,1,2,3,4,5,6,7,8]] [[(4,nS)],[(1,nS)],[(10,nS)],[(22,1),(23,2)],[(24,3)],[(2,nS)],[(3,nS)],[(26,5),(27,6)],[(21,0),(25,4),(28,7)],[(29,8)]] (by decide +kernel) st6 (D:=[_,_,_,_,_,_,_,_,_,_])
    (.cons rfl (by decide) rfl (.plain rfl (zr rfl (by kernel_rfl) (zb rfl)))
    (.cons rfl (by decide) rfl (.plain rfl (zg rfl (zb rfl)))
    (.cons rfl (by decide) rfl (.plain rfl (zg rfl (zb rfl)))
    (.cons rfl (by decide) rfl (.plain rfl (yL rfl (by kernel_rfl) (zb rfl) (zb rfl) rfl (by assumption)))
    (.cons rfl (by decide) rfl (.plain rfl (zr rfl (by kernel_rfl) (zb rfl)))
    (.cons rfl (by decide) rfl (.plain rfl (zg rfl (zb rfl)))
    (.cons rfl (by decide) rfl (.plain rfl (zg rfl (zb rfl)))
    (.cons rfl (by decide) rfl (.plain rfl (zB (l:=[.tmp 26,.tmp 27]) rfl (by kernel_rfl) (.cons (zb rfl) (.cons (zb rfl) .nil)) (ZT _ _ (by omega))))
    (.cons rfl (by decide) rfl (.plain rfl (zB (l:=[.tmp 21,.tmp 25,.tmp 28]) rfl (by kernel_rfl) (.cons (zb rfl) (.cons (zb rfl) (.cons (zb rfl) .nil))) (zcX _ _ _ (child_le hp))))
    (.cons rfl (by decide) rfl (.plain rfl (zz rfl (zb rfl)))
    .nil))))))))))
    (kc 0 rfl (kc 1 rfl (kc 2 rfl (kc 3 rfl (kc 4 rfl (kc 8 rfl (kc 9 rfl (kc 10 rfl (kc 11 rfl (kc 18 rfl .nil)))))))))) (λ _ _ _ st7=>?_)
   refine za (wp_seq ?_);refine Y4 zJ [[],[],[],[1,2],[1,2,3],[],[],[5,6],[1,2,3,4,5,6,7],[0,1,2,3,4,5,6,7,8],[0,1,2,3,4,5,6,7,8,9]] [[(4,nS)],[(1,nS)],[(10,nS)],[(31,1),(32,2)],[(33,3)],[(2,nS)],[(3,nS)],[(35,5),(36,6)],[(34,4),(37,7)],[(30,0),(38,8)],[(39,9)]] (by decide +kernel) st7 (D:=[_,_,_,_,_,_,_,_,_,_,_])
    (.cons rfl (by decide) rfl (.plain rfl (zr rfl (by kernel_rfl) (zb rfl)))
    (.cons rfl (by decide) rfl (.plain rfl (zg rfl (zb rfl)))
    (.cons rfl (by decide) rfl (.plain rfl (zg rfl (zb rfl)))
    (.cons rfl (by decide) rfl (.plain rfl (yL rfl (by kernel_rfl) (zb rfl) (zb rfl) rfl (by assumption)))
    (.cons rfl (by decide) rfl (.plain rfl (zr rfl (by kernel_rfl) (zb rfl)))
    (.cons rfl (by decide) rfl (.plain rfl (zg rfl (zb rfl)))
    (.cons rfl (by decide) rfl (.plain rfl (zg rfl (zb rfl)))
    (.cons rfl (by decide) rfl (.plain rfl (zB (l:=[.tmp 35,.tmp 36]) rfl (by kernel_rfl) (.cons (zb rfl) (.cons (zb rfl) .nil)) (ZT _ _ (by omega))))
    (.cons rfl (by decide) rfl (.plain rfl (yA (parts:=[(0,.tmp 34),(1,.tmp 37),(3,.const (.bool true))]) (ns:=[1,1,1,1,1,1]) (zs:=[[.int .i64 0],[.string ⟨⟨[]⟩⟩],[.string ⟨⟨[]⟩⟩],[.bool false],[.int .i64 0],[.slice none 0 0]]) rfl rfl (by kernel_rfl) (by kernel_rfl) (λ w a hl=>by
    intro p hp;simp only[List.mem_cons,List.not_mem_nil,or_false] at hp;rcases hp with rfl | rfl | rfl
    ·
     exact⟨by decide,Rep.len (α:=Int) (OpdR.cells (zb rfl) hl)⟩
    ·
     exact⟨by decide,Rep.len (α:=Str) (OpdR.cells (zb rfl) hl)⟩
    ·
     exact⟨by decide,rfl⟩) (λ w a hl=>File.parts (x:=⟨x,child p s,⟨[]⟩,true,0,[]⟩) (OpdR.cells (zb rfl) hl) (OpdR.cells (zb rfl) hl) jS (OpdR.cells X7 hl) ⟨rfl,trivial⟩ Y5)))
    (.cons rfl (by decide) rfl (.plain rfl (zB (l:=[.tmp 30,.tmp 38]) rfl (by kernel_rfl) (.cons (zb rfl) (.cons (zb rfl) .nil)) (YB _ _)))
    (.cons rfl (by decide) rfl (.plain rfl (zz rfl (zb rfl)))
    .nil)))))))))))
    (kc 0 rfl (kc 1 rfl (kc 2 rfl (kc 3 rfl (kc 4 rfl (kc 8 rfl (kc 9 rfl (kc 10 rfl (kc 11 rfl (kc 12 rfl (kc 18 rfl .nil))))))))))) (λ _ _ _ st8=>?_)
   refine za (wp_seq (wp_seq ?_));refine zp st8 (sc rfl ((zg rfl (zb rfl)))
    (sc rfl ((zg rfl (zb rfl)))
    (.cons rfl (by decide) (.guarded rfl rfl (by decide) rfl zv (λ hg=>zg rfl (zb rfl)))
    (.cons rfl (by decide) (.guarded rfl rfl (by decide) rfl zv (λ hg=>xJ rfl (by decide) (zn hg rfl) zM))
    (sc rfl ((xe rfl (zb rfl) (zb rfl)))
    .nil))))) [0,1,2,3,4,8,9,10,11,12,18,44] (λ _ _ _ st9=>?_)
   refine za ?_;refine zI (c:=44) st9 rfl (λ h2=>?_) (λ h2=>?_)
   ·
    have q1:=h2;refine wp_seq (wp_region_list ?_);refine Zp 7 st9 (sc rfl ((zg rfl (zb rfl)))
     (sc rfl ((zg rfl (zb rfl)))
     (sc rfl ((zg rfl (zb rfl)))
     (sc rfl ((yL rfl (by kernel_rfl) (zb rfl) (zb rfl) rfl (by assumption)))
     (sc rfl ((zr rfl (by kernel_rfl) (zb rfl)))
     (sc rfl ((yq (opds:=[.tmp 49]) rfl (by kernel_rfl) (by kernel_rfl) rfl rfl (by decide) (.cons (zb rfl) .nil)))
     (sc rfl ((yA (parts:=[(0,.const (.int .i64 2)),(1,.tmp 45),(2,.tmp 50)]) (ns:=[1,1,1]) (zs:=[[.int .i64 0],[.int .i64 0],[.slice none 0 0]]) rfl rfl (by kernel_rfl) (by kernel_rfl) (λ w a hl=>by
    intro p hp;simp only[List.mem_cons,List.not_mem_nil,or_false] at hp;rcases hp with rfl | rfl | rfl
    ·
     exact⟨by decide,rfl⟩
    ·
     exact⟨by decide,Rep.len (α:=Int) (OpdR.cells (zb rfl) hl)⟩
    ·
     exact⟨by decide,Rep.len (α:=(List Int)) (OpdR.cells (zb rfl) hl)⟩) (λ w a hl=>Spec.parts (x:=⟨2,xa t.files ⟨x,child p s,⟨[]⟩,true,0,[]⟩,[x]⟩) (OpdR.cells zM hl) (OpdR.cells (zb rfl) hl) (OpdR.cells (zb rfl) hl))))
     .nil)))))))
     (kc 0 rfl (kc 1 rfl (kc 2 rfl (kc 3 rfl (kc 4 rfl (kc 8 rfl (kc 9 rfl (kc 10 rfl (kc 11 rfl (kc 12 rfl (kc 18 rfl (kc 44 rfl (kc 51 rfl .nil))))))))))))) (λ _ _ _ st10=>?_)
    refine jT st10 rfl rfl rfl (by kernel_rfl) rfl hb2 (.inl (.inr rfl)) rfl (zb rfl) (.cons (s:=0) rfl (λ _ _ h=>h) (.cons (s:=1) rfl (λ _ _ h=>h) (.cons (s:=2) rfl (λ _ _ h=>h) (.cons (s:=3) rfl (λ _ _ h=>h) (.cons (s:=4) rfl (λ _ _ h=>h) (.cons (s:=9) rfl (tip_off hg5 (.inr rfl)) (.cons (s:=10) rfl (λ _ _ h=>h) (.cons (s:=11) rfl (λ _ _ h=>h) (.cons (s:=12) rfl (λ _ _ h=>h) (.cons (s:=18) rfl (λ _ _ h=>h) (.cons (s:=44) rfl (λ _ _ h=>h) .nil))))))))))) (λ _ st11=>?_);refine wpList_nil (za ?_);refine wp_ret (ze (zt (ze (ze (zt (ze ?_))))));refine ret_box rfl (by kernel_rfl) st11 (t:=8) rfl (λ _ h=>(.inl (.inl h))) ?_;rw[wQ,← hrun,Qs hx,y6,if_pos q1]
   ·
    have q1:=h2;refine wp_skip (za (wp_seq ?_));refine Y4 zJ [[],[],[],[1,2],[1,2,3],[],[],[1,2,3,4,5,6],[0,1,2,3,4,5,6,7],[0,1,2,3,4,5,6,7,8]] [[(4,nS)],[(1,nS)],[(10,nS)],[(53,1),(54,2)],[(55,3)],[(2,nS)],[(3,nS)],[(56,4),(57,5),(58,6)],[(52,0),(59,7)],[(60,8)]] (by decide +kernel) st9 (D:=[_,_,_,_,_,_,_,_,_,_])
     (.cons rfl (by decide) rfl (.plain rfl (zr rfl (by kernel_rfl) (zb rfl)))
     (.cons rfl (by decide) rfl (.plain rfl (zg rfl (zb rfl)))
     (.cons rfl (by decide) rfl (.plain rfl (zg rfl (zb rfl)))
     (.cons rfl (by decide) rfl (.plain rfl (yL rfl (by kernel_rfl) (zb rfl) (zb rfl) rfl (by assumption)))
     (.cons rfl (by decide) rfl (.plain rfl (zr rfl (by kernel_rfl) (zb rfl)))
     (.cons rfl (by decide) rfl (.plain rfl (zg rfl (zb rfl)))
     (.cons rfl (by decide) rfl (.plain rfl (zg rfl (zb rfl)))
     (.cons rfl (by decide) rfl (.plain rfl (yA (parts:=[(0,.tmp 56),(1,.tmp 57),(2,.tmp 58)]) (ns:=[1,1,1,1,1,1]) (zs:=[[.int .i64 0],[.string ⟨⟨[]⟩⟩],[.string ⟨⟨[]⟩⟩],[.bool false],[.int .i64 0],[.slice none 0 0]]) rfl rfl (by kernel_rfl) (by kernel_rfl) (λ w a hl=>by
    intro p hp;simp only[List.mem_cons,List.not_mem_nil,or_false] at hp;rcases hp with rfl | rfl | rfl
    ·
     exact⟨by decide,Rep.len (α:=Int) (OpdR.cells (zb rfl) hl)⟩
    ·
     exact⟨by decide,Rep.len (α:=Str) (OpdR.cells (zb rfl) hl)⟩
    ·
     exact⟨by decide,Rep.len (α:=Str) (OpdR.cells (zb rfl) hl)⟩) (λ w a hl=>File.parts (x:=⟨x,p,s,false,0,[]⟩) (OpdR.cells (zb rfl) hl) (OpdR.cells (zb rfl) hl) (OpdR.cells (zb rfl) hl) ⟨rfl,trivial⟩ ⟨rfl,trivial⟩ Y5)))
     (.cons rfl (by decide) rfl (.plain rfl (zB (l:=[.tmp 52,.tmp 59]) rfl (by kernel_rfl) (.cons (zb rfl) (.cons (zb rfl) .nil)) (YB _ _)))
     (.cons rfl (by decide) rfl (.plain rfl (zz rfl (zb rfl)))
     .nil))))))))))
     (kc 0 rfl (kc 1 rfl (kc 2 rfl (kc 3 rfl (kc 4 rfl (kc 8 rfl (kc 9 rfl (kc 10 rfl (kc 11 rfl (kc 12 rfl (kc 13 rfl (kc 18 rfl (kc 44 rfl .nil))))))))))))) (λ _ _ _ st12=>?_)
    refine za (wp_seq (wp_seq ?_));refine zl st12 [0,1,2,3,4,8,9,10,11,12,13,18,44,62] (λ _ _ _ st13=>?_);refine za ?_;refine zI (c:=62) st13 rfl (λ h3=>?_) (λ h3=>?_)
    ·
     have q2:=h3;refine wp_seq (wp_region_list ?_);refine Zp 3 st13 (sc rfl ((zg rfl (zb rfl)))
      (sc rfl ((yq (opds:=[]) (α:=Int) rfl (by kernel_rfl) (by kernel_rfl) rfl rfl (by decide) .nil))
      (sc rfl ((yA (parts:=[(0,.const (.int .i64 1)),(1,.tmp 63),(2,.tmp 64)]) (ns:=[1,1,1]) (zs:=[[.int .i64 0],[.int .i64 0],[.slice none 0 0]]) rfl rfl (by kernel_rfl) (by kernel_rfl) (λ w a hl=>by
    intro p hp;simp only[List.mem_cons,List.not_mem_nil,or_false] at hp;rcases hp with rfl | rfl | rfl
    ·
     exact⟨by decide,rfl⟩
    ·
     exact⟨by decide,Rep.len (α:=Int) (OpdR.cells (zb rfl) hl)⟩
    ·
     exact⟨by decide,Rep.len (α:=(List Int)) (OpdR.cells (zb rfl) hl)⟩) (λ w a hl=>Spec.parts (x:=⟨1,xa t.files ⟨x,p,s,false,0,[]⟩,[]⟩) (OpdR.cells zM hl) (OpdR.cells (zb rfl) hl) (OpdR.cells (zb rfl) hl))))
      .nil)))
      (kc 0 rfl (kc 1 rfl (kc 2 rfl (kc 3 rfl (kc 4 rfl (kc 8 rfl (kc 9 rfl (kc 10 rfl (kc 11 rfl (kc 12 rfl (kc 13 rfl (kc 18 rfl (kc 44 rfl (kc 62 rfl (kc 65 rfl .nil))))))))))))))) (λ _ _ _ st14=>?_)
     refine jT st14 rfl rfl rfl (by kernel_rfl) rfl hb2 (.inl (.inr rfl)) rfl (zb rfl) (.cons (s:=0) rfl (λ _ _ h=>h) (.cons (s:=1) rfl (λ _ _ h=>h) (.cons (s:=2) rfl (λ _ _ h=>h) (.cons (s:=3) rfl (λ _ _ h=>h) (.cons (s:=4) rfl (λ _ _ h=>h) (.cons (s:=9) rfl (tip_off hg5 (.inr rfl)) (.cons (s:=10) rfl (λ _ _ h=>h) (.cons (s:=11) rfl (λ _ _ h=>h) (.cons (s:=12) rfl (λ _ _ h=>h) (.cons (s:=13) rfl (λ _ _ h=>h) (.cons (s:=18) rfl (λ _ _ h=>h) (.cons (s:=44) rfl (λ _ _ h=>h) (.cons (s:=62) rfl (λ _ _ h=>h) .nil))))))))))))) (λ _ st15=>?_);refine wpList_nil (za ?_);refine wp_ret (ze (zt (ze (ze (zt (ze ?_))))));refine ret_box rfl (by kernel_rfl) st15 (t:=8) rfl (λ _ h=>(.inl (.inl h))) ?_;rw[wQ,← hrun,Qs hx,y6,if_neg (by rw[q1];decide),if_pos q2]
    ·
     have q2:=h3;refine wp_skip (za (wp_seq ?_));refine zl st13 [0,1,2,3,4,8,9,10,11,12,13,18,44,62,66] (λ _ _ _ st16=>?_);refine za ?_;refine zI (c:=66) st16 rfl (λ h4=>?_) (λ h4=>?_)
     ·
      have q3:=h4;refine wp_region_list ?_;refine Zp 6 st16 (sc rfl ((zg rfl (zb rfl)))
       (sc rfl ((zg rfl (zb rfl)))
       (sc rfl ((zg rfl (zb rfl)))
       (sc rfl ((yL rfl (by kernel_rfl) (zb rfl) (zb rfl) rfl (by assumption)))
       (sc rfl ((zr rfl (by kernel_rfl) (zb rfl)))
       (sc rfl ((yq (opds:=[.tmp 71]) rfl (by kernel_rfl) (by kernel_rfl) rfl rfl (by decide) (.cons (zb rfl) .nil)))
       .nil))))))
       (kc 0 rfl (kc 1 rfl (kc 2 rfl (kc 3 rfl (kc 4 rfl (kc 8 rfl (kc 9 rfl (kc 10 rfl (kc 11 rfl (kc 12 rfl (kc 13 rfl (kc 18 rfl (kc 44 rfl (kc 62 rfl (kc 66 rfl (kc 67 rfl (kc 72 rfl .nil))))))))))))))))) (λ _ _ _ st17=>?_)
      refine Yb (bytes:=8) (st17) rfl rfl rfl (by decide) (by kernel_rfl) rfl rfl yS (len1 (by omega)) (len1b (by omega)) (.cons (s:=0) rfl (λ _ _ h=>h) (.cons (s:=1) rfl (λ _ _ h=>h) (.cons (s:=2) rfl (λ _ _ h=>h) (.cons (s:=3) rfl (λ _ _ h=>h) (.cons (s:=4) rfl (λ _ _ h=>h) (.cons (s:=8) rfl (draw_off hg5 (.inr rfl)) (.cons (s:=10) rfl (λ _ _ h=>h) (.cons (s:=11) rfl (λ _ _ h=>h) (.cons (s:=12) rfl (λ _ _ h=>h) (.cons (s:=13) rfl (λ _ _ h=>h) (.cons (s:=18) rfl (λ _ _ h=>h) (.cons (s:=44) rfl (λ _ _ h=>h) (.cons (s:=62) rfl (λ _ _ h=>h) (.cons (s:=66) rfl (λ _ _ h=>h) .nil)))))))))))))) (hg5) (λ g18 _ _ hg18 st18=>?_);refine Zp 1 st18 (sc rfl ((zz rfl (zb rfl)))
       .nil)
       (kc 0 rfl (kc 1 rfl (kc 2 rfl (kc 3 rfl (kc 4 rfl (kc 8 rfl (kc 9 rfl (kc 10 rfl (kc 11 rfl (kc 12 rfl (kc 13 rfl (kc 18 rfl (kc 44 rfl (kc 62 rfl (kc 66 rfl .nil))))))))))))))) (λ _ _ _ st19=>?_)
      refine wpList_nil (zf (za ?_));refine zp st19 (sc rfl ((zg rfl (zb rfl)))
       (sc rfl ((jy rfl (by decide) (zb rfl) zM (by simp only[arI];omega)))
       (sc rfl ((zz rfl (zb rfl)))
       .nil))) [0,1,2,3,4,8,9,10,11,12,13,18,44,62,66] (λ _ _ _ st20=>?_)
      refine za ⟨(k+1,acc++[x]),⟨g18,hg18,st20.pick (kc 0 rfl (kc 1 rfl (kc 2 rfl (kc 3 rfl (kc 4 rfl (kc 8 rfl (kc 9 rfl (kc 10 rfl .nil)))))))),by dsimp only;omega,by dsimp only;rw[List.length_append];exact Nat.succ_le_succ ha,by dsimp only;rw[← hrun,Qs hx];exact(by rw[y6,if_neg (by rw[q1];decide),if_neg (by rw[q2];decide),if_pos q3])⟩,by dsimp only;omega⟩
     ·
      have q3:=h4;refine wp_skip (zf (za ?_));refine zp st16 (sc rfl ((zg rfl (zb rfl)))
       (sc rfl ((jy rfl (by decide) (zb rfl) zM (by simp only[arI];omega)))
       (sc rfl ((zz rfl (zb rfl)))
       .nil))) [0,1,2,3,4,8,9,10,11,12,13,18,44,62,66] (λ _ _ _ st21=>?_)
      refine za ⟨(k+1,acc),⟨g5,hg5,st21.pick (kc 0 rfl (kc 1 rfl (kc 2 rfl (kc 3 rfl (kc 4 rfl (kc 8 rfl (kc 9 rfl (kc 10 rfl .nil)))))))),by dsimp only;omega,by dsimp only;omega,by dsimp only;rw[← hrun,Qs hx];exact(by rw[y6,if_neg (by rw[q1];decide),if_neg (by rw[q2];decide),if_neg (by rw[q3];decide)])⟩,by dsimp only;omega⟩
  ·
   have hend:=XJ h1;refine wp_exit (zh (zh (zy ?_)));refine za (wp_seq (wp_seq ?_));refine zp st6 (sc rfl ((zg rfl (zb rfl)))
    (sc rfl ((Qo rfl (by kernel_rfl) (zb rfl)))
    (sc rfl ((xJ rfl (by decide) (zb rfl) zM))
    .nil))) [0,1,2,3,4,8,9,10,18,76] (λ _ _ _ st22=>?_)
   refine za ?_;refine zI (c:=76) st22 rfl (λ h5=>?_) (λ h5=>?_)
   ·
    have q4:=h5;refine wp_seq ?_;have st23:=st22.freeze hg5 (s:=9) rfl (.cons (s:=0) rfl (λ _ _ h=>h) (.cons (s:=1) rfl (λ _ _ h=>h) (.cons (s:=2) rfl (λ _ _ h=>h) (.cons (s:=3) rfl (λ _ _ h=>h) (.cons (s:=4) rfl (λ _ _ h=>h) (.cons (s:=8) rfl (draw_off hg5 (.inr rfl)) (.cons (s:=10) rfl (λ _ _ h=>h) (.cons (s:=18) rfl (λ _ _ h=>h) (.cons (s:=76) rfl (λ _ _ h=>h) .nil)))))))));refine wp_region_list ?_;refine Zp 2 st23 (sc rfl ((zg rfl (zb rfl)))
     (sc rfl ((yA (parts:=[(0,.const (.int .i64 3)),(1,.const (.int .i64 (-1))),(2,.tmp 77)]) (ns:=[1,1,1]) (zs:=[[.int .i64 0],[.int .i64 0],[.slice none 0 0]]) rfl rfl (by kernel_rfl) (by kernel_rfl) (λ w a hl=>by
    intro p hp;simp only[List.mem_cons,List.not_mem_nil,or_false] at hp;rcases hp with rfl | rfl | rfl
    ·
     exact⟨by decide,rfl⟩
    ·
     exact⟨by decide,rfl⟩
    ·
     exact⟨by decide,Rep.len (α:=(List Int)) (OpdR.cells (zb rfl) hl)⟩) (λ w a hl=>Spec.parts (x:=⟨3,-1,acc⟩) (OpdR.cells zM hl) (OpdR.cells zM hl) (OpdR.cells (zb rfl) hl))))
     .nil))
     (kc 0 rfl (kc 1 rfl (kc 2 rfl (kc 3 rfl (kc 4 rfl (kc 8 rfl (kc 9 rfl (kc 10 rfl (kc 18 rfl (kc 76 rfl (kc 78 rfl .nil))))))))))) (λ _ _ _ st24=>?_)
    refine jT st24 rfl rfl rfl (by kernel_rfl) rfl hb2 (.inr rfl) rfl (zb rfl) (.cons (s:=0) rfl (λ _ _ h=>h) (.cons (s:=1) rfl (λ _ _ h=>h) (.cons (s:=2) rfl (λ _ _ h=>h) (.cons (s:=3) rfl (λ _ _ h=>h) (.cons (s:=4) rfl (λ _ _ h=>h) (.cons (s:=9) rfl (λ _ _ h=>h) (.cons (s:=10) rfl (λ _ _ h=>h) (.cons (s:=18) rfl (λ _ _ h=>h) (.cons (s:=76) rfl (λ _ _ h=>h) .nil))))))))) (λ _ st25=>?_);refine wpList_nil (za ?_);refine wp_ret (ze ?_);refine ret_box rfl (by kernel_rfl) st25 (t:=8) rfl (λ _ h=>(.inl h)) ?_;rw[wQ,← hrun,List.drop_of_length_le hend,y6,if_pos q4]
   ·
    have q4:=h5;refine wp_skip (za (wp_seq (wp_region_list ?_)));refine Zp 1 st22 (sc rfl ((zB (l:=[]) rfl (by kernel_rfl) .nil (JY )))
     .nil)
     (kc 0 rfl (kc 1 rfl (kc 2 rfl (kc 3 rfl (kc 4 rfl (kc 8 rfl (kc 9 rfl (kc 10 rfl (kc 18 rfl (kc 76 rfl (kc 79 rfl .nil))))))))))) (λ _ _ _ st26=>?_)
    refine jT st26 rfl rfl rfl (by kernel_rfl) rfl hb2 (.inl (.inr rfl)) rfl (zb rfl) (.cons (s:=0) rfl (λ _ _ h=>h) (.cons (s:=1) rfl (λ _ _ h=>h) (.cons (s:=2) rfl (λ _ _ h=>h) (.cons (s:=3) rfl (λ _ _ h=>h) (.cons (s:=4) rfl (λ _ _ h=>h) (.cons (s:=9) rfl (tip_off hg5 (.inr rfl)) (.cons (s:=10) rfl (λ _ _ h=>h) (.cons (s:=18) rfl (λ _ _ h=>h) (.cons (s:=76) rfl (λ _ _ h=>h) .nil))))))))) (λ _ st27=>?_);refine wpList_nil (za (wp_ret ?_));refine ret_box rfl (by kernel_rfl) st27 (t:=8) rfl (λ _ h=>(.inl (.inl h))) ?_;rw[wQ,← hrun,List.drop_of_length_le hend,y6,if_neg (by rw[q4];decide)]
theorem spec_find_ok(t:Tree)(path:List Int)(s:Str)(hpl:path.length<=1099511627776)(hs:mid s):Fn Tryz.prog 48 [dt t,dt path,dt s] (dt (find t.files path s)):=by
 refine yB (fn:=Tryz.f48) Tryz.func48 rfl (oD rfl) (λ M w0 _ hm st0=>?_);have hroom:=Yc s dot;have hlr:=zaZ (zj s dot);have hms:s.l.length<=1099511627776:=hs;refine wp_seq (wp_region_list ?_);refine Zp 1 st0 (sc rfl ((Y2 rfl (zb rfl)))
  .nil)
  (kc 0 rfl (kc 1 rfl (kc 2 rfl (kc 3 rfl .nil)))) (λ _ _ _ st1=>?_)
 refine Qp (n:=3) st1 rfl rfl rfl (by decide) (by kernel_rfl) (kc 0 rfl (kc 1 rfl (kc 2 rfl (kc 3 rfl .nil)))) (λ b2 _ _ hb2 hn2 _ st2=>?_);refine wpList_nil (za (wp_seq ?_));refine zp st2 (sc rfl ((zg rfl (zb rfl)))
  (sc rfl ((zB (l:=[.tmp 10,.const (.int .u8 46)]) rfl (by kernel_rfl) (.cons (zb rfl) (.cons (Y0 (by decide)) .nil)) (Z8 _ dot (by assumption))))
  (sc rfl ((zz rfl (zb rfl)))
  .nil))) [0,1,2,3,6,7] (λ _ _ _ st3=>?_)
 refine za (wp_seq (wp_region_list ?_));refine Zp 2 st3 (sc rfl ((zg rfl (zb rfl)))
  (sc rfl ((yA (parts:=[(0,.const (.int .i64 3)),(1,.const (.int .i64 (-1))),(2,.tmp 12)]) (ns:=[1,1,1]) (zs:=[[.int .i64 0],[.int .i64 0],[.slice none 0 0]]) rfl rfl (by kernel_rfl) (by kernel_rfl) (λ w a hl=>by
    intro p hp;simp only[List.mem_cons,List.not_mem_nil,or_false] at hp;rcases hp with rfl | rfl | rfl
    ·
     exact⟨by decide,rfl⟩
    ·
     exact⟨by decide,rfl⟩
    ·
     exact⟨by decide,Rep.len (α:=(List Int)) (OpdR.cells (zb rfl) hl)⟩) (λ w a hl=>Spec.parts (x:=⟨3,-1,path⟩) (OpdR.cells zM hl) (OpdR.cells zM hl) (OpdR.cells (zb rfl) hl))))
  .nil))
  (kc 0 rfl (kc 1 rfl (kc 2 rfl (kc 3 rfl (kc 6 rfl (kc 7 rfl (kc 13 rfl .nil))))))) (λ _ _ _ st4=>?_)
 refine Qp (n:=3) st4 rfl rfl rfl (by decide) (by kernel_rfl) (kc 0 rfl (kc 1 rfl (kc 2 rfl (kc 3 rfl (kc 6 rfl (kc 7 rfl (kc 13 rfl .nil))))))) (λ b5 _ _ hb5 hn5 _ st5=>?_);refine jT st5 rfl rfl rfl (by kernel_rfl) rfl hb5 (.inr rfl) rfl (zb rfl) (.cons (s:=0) rfl (λ _ _ h=>h) (.cons (s:=1) rfl (λ _ _ h=>h) (.cons (s:=2) rfl (λ _ _ h=>h) (.cons (s:=3) rfl (λ _ _ h=>h) (.cons (s:=6) rfl (draw_ne' hn5 (.inr rfl)) (.cons (s:=7) rfl (λ _ _ h=>h) .nil)))))) (λ _ st6=>?_);refine wpList_nil (za (wp_seq (wp_seq ?_)));refine zl st6 [0,1,2,3,6,7,8,9] (λ _ _ _ st7=>?_);refine za (wp_block ?_);refine qk (ι:=Nat×Spec) (λ i a w=>St (Frm.of w0) 42 (insO (some b5) (insO (some b2) M)) [(0,dt t),(1,dt path),(2,dt s),(3,dptr t),(6,draw (some b2) 3),(7,dt (zj s dot)),(8,dbox (some b5) 0 i.2),(9,dt (i.1:Int))] a w/\i.1<=(zj s dot).length/\i.2.roots.length<=1099511627776/\xF t.files (zj s dot) i.1 i.2 ((zj s dot).drop i.1)=find t.files path s) (λ i=>(zj s dot).length - i.1) (0,⟨3,-1,path⟩) ?_ ?_
 ·
  exact⟨st7.pick (kc 0 rfl (kc 1 rfl (kc 2 rfl (kc 3 rfl (kc 6 rfl (kc 7 rfl (kc 8 rfl (kc 9 rfl .nil)))))))),Nat.zero_le _,hpl,rfl⟩
 ·
  rintro ⟨k,out⟩ a8 w8 ⟨st8,hk,ha,hrun⟩
  dsimp only at*;refine wp_seq (wp_seq ?_);refine zl st8 [0,1,2,3,6,7,8,9,17] (λ _ _ _ st9=>?_);refine za ?_;refine zI (c:=17) st9 rfl (λ h1=>?_) (λ h1=>?_)
  ·
   obtain⟨x,hx⟩:=XI h1;have hlt:=zA hx;have hj1:=join_le (zj s dot) k;have hj2:=part_le hx;have hj3:=qr (zj s dot) k;refine wp_skip (za (wp_seq (wp_block (wp_seq (wp_seq ?_)))));refine zp st9 (sc rfl ((xv Spec.fld0 rfl (by kernel_rfl) (zb rfl)))
    (sc rfl ((yf rfl (by kernel_rfl) (zb rfl)))
    (sc rfl ((xJ rfl (by decide) (zb rfl) zM))
    (sc rfl ((zg rfl (zb rfl)))
    (.cons rfl (by decide) (.guarded rfl rfl (by decide) rfl zv (λ hg=>xv Spec.fld0 rfl (by kernel_rfl) (zb rfl)))
    (.cons rfl (by decide) (.guarded rfl rfl (by decide) rfl zv (λ hg=>yf rfl (by kernel_rfl) (zn hg rfl)))
    (.cons rfl (by decide) (.guarded rfl rfl (by decide) rfl zv (λ hg=>xJ rfl (by decide) (zn hg rfl) zM))
    (sc rfl ((xe rfl (zb rfl) (zb rfl)))
    .nil)))))))) [0,1,2,3,6,7,8,9,17,27] (λ _ _ _ st10=>?_)
   refine za ?_;refine zI (c:=27) st10 rfl (λ h2=>?_) (λ h2=>?_)
   ·
    have q1:=h2;refine wp_seq (wp_region_list ?_);refine Zp 1 st10 (sc rfl ((zB (l:=[]) rfl (by kernel_rfl) .nil (JY )))
     .nil)
     (kc 0 rfl (kc 1 rfl (kc 2 rfl (kc 3 rfl (kc 6 rfl (kc 7 rfl (kc 8 rfl (kc 9 rfl (kc 17 rfl (kc 27 rfl (kc 28 rfl .nil))))))))))) (λ _ _ _ st11=>?_)
    refine jT st11 rfl rfl rfl (by kernel_rfl) rfl hb2 (.inl (.inr rfl)) rfl (zb rfl) (.cons (s:=0) rfl (λ _ _ h=>h) (.cons (s:=1) rfl (λ _ _ h=>h) (.cons (s:=2) rfl (λ _ _ h=>h) (.cons (s:=3) rfl (λ _ _ h=>h) (.cons (s:=7) rfl (λ _ _ h=>h) (.cons (s:=8) rfl (box_ne hn5 (.inr rfl)) (.cons (s:=9) rfl (λ _ _ h=>h) (.cons (s:=17) rfl (λ _ _ h=>h) (.cons (s:=27) rfl (λ _ _ h=>h) .nil))))))))) (λ _ st12=>?_);refine wpList_nil (za ?_);refine wp_ret (ze (zt (ze (ze (zt (ze ?_))))));refine ret_box rfl (by kernel_rfl) st12 (t:=6) rfl (λ _ h=>(.inl (.inl h))) ?_;rw[← hrun,Qs hx,xF,if_pos q1]
   ·
    have q1:=h2;refine wp_skip (za ?_);refine region_draw_n zJ 12 [[],[],[1],[],[],[3,4],[3,4,5],[],[],[7,8],[7,8,9],[0,1,2,3,4,5,6,7,8,9,10],[0,1,2,3,4,5,6,7,8,9,10,11]] [[(3,nS)],[(8,nS)],[(30,1)],[(7,nS)],[(9,nS)],[(32,3),(33,4)],[(34,5)],[(7,nS)],[(9,nS)],[(36,7),(37,8)],[(38,9)],[(29,0),(31,2),(35,6),(39,10)],[(8,nS),(40,11)]] (by decide +kernel) (by decide) st10 (D:=[_,_,_,_,_,_,_,_,_,_,_,_])
     (.cons rfl (by decide) rfl (.plain rfl (zr rfl (by kernel_rfl) (zb rfl)))
     (.cons rfl (by decide) rfl (.plain rfl (xv Spec.fld2 rfl (by kernel_rfl) (zb rfl)))
     (.cons rfl (by decide) rfl (.plain rfl (yf rfl (by kernel_rfl) (zb rfl)))
     (.cons rfl (by decide) rfl (.plain rfl (zg rfl (zb rfl)))
     (.cons rfl (by decide) rfl (.plain rfl (zg rfl (zb rfl)))
     (.cons rfl (by decide) rfl (.plain rfl (X8 rfl (by kernel_rfl) (zb rfl) (zb rfl) rfl (by omega)))
     (.cons rfl (by decide) rfl (.plain rfl (zB (l:=[.tmp 34]) rfl (by kernel_rfl) (.cons (zb rfl) .nil) (Ji _ (by omega))))
     (.cons rfl (by decide) rfl (.plain rfl (zg rfl (zb rfl)))
     (.cons rfl (by decide) rfl (.plain rfl (zg rfl (zb rfl)))
     (.cons rfl (by decide) rfl (.plain rfl (yL rfl (by kernel_rfl) (zb rfl) (zb rfl) rfl (by assumption)))
     (.cons rfl (by decide) rfl (.plain rfl (zr rfl (by kernel_rfl) (zb rfl)))
     (.cons rfl (by decide) rfl (.plain rfl (zB (l:=[.tmp 29,.tmp 31,.tmp 35,.tmp 39]) rfl (by kernel_rfl) (.cons (zb rfl) (.cons (zb rfl) (.cons (zb rfl) (.cons (zb rfl) .nil)))) (zcY _ _ _ _ ha (by omega))))
     .nil))))))))))))
     (kc 0 rfl (kc 1 rfl (kc 2 rfl (kc 3 rfl (kc 6 rfl (kc 7 rfl (kc 8 rfl (kc 9 rfl (kc 17 rfl (kc 27 rfl (kc 40 rfl .nil))))))))))) (λ _ _ _ st13=>?_)
    refine wpl_storeAt (sb:=8) st13 FldS.id rfl rfl rfl (by kernel_rfl) hb5 (.inr rfl) rfl (zb rfl) rfl (.cons (s:=0) rfl (λ _ _ h=>h) (.cons (s:=1) rfl (λ _ _ h=>h) (.cons (s:=2) rfl (λ _ _ h=>h) (.cons (s:=3) rfl (λ _ _ h=>h) (.cons (s:=6) rfl (draw_ne' hn5 (.inr rfl)) (.cons (s:=7) rfl (λ _ _ h=>h) (.cons (s:=9) rfl (λ _ _ h=>h) (.cons (s:=17) rfl (λ _ _ h=>h) (.cons (s:=27) rfl (λ _ _ h=>h) .nil))))))))) (λ _ st14=>?_);refine wpList_nil (zf (za ?_));refine zp st14 (sc rfl ((zg rfl (zb rfl)))
     (sc rfl ((jy rfl (by decide) (zb rfl) zM (by simp only[arI];omega)))
     (sc rfl ((zz rfl (zb rfl)))
     .nil))) [0,1,2,3,6,7,8,9,17,27] (λ _ _ _ st15=>?_)
    refine za ⟨(k+1,wQ t.files out.roots (join ((zj s dot).take k)) x),⟨st15.pick (kc 0 rfl (kc 1 rfl (kc 2 rfl (kc 3 rfl (kc 6 rfl (kc 7 rfl (kc 8 rfl (kc 9 rfl .nil)))))))),by dsimp only;omega,by dsimp only;have:=WF t.files (join ((zj s dot).take k)) x out.roots [];exact Nat.le_trans this (by simpa using ha),by dsimp only;rw[← hrun,Qs hx];exact(by rw[xF,if_neg (by rw[q1];decide)])⟩,by dsimp only;omega⟩
  ·
   have hend:=XJ h1;refine wp_exit (zh (zh (zy ?_)));refine za (wp_seq (wp_region_list ?_));refine Zp 1 st9 (sc rfl ((yf rfl (by kernel_rfl) (zb rfl)))
    .nil)
    (kc 0 rfl (kc 1 rfl (kc 2 rfl (kc 3 rfl (kc 6 rfl (kc 7 rfl (kc 8 rfl (kc 9 rfl (kc 17 rfl (kc 41 rfl .nil)))))))))) (λ _ _ _ st16=>?_)
   refine jT st16 rfl rfl rfl (by kernel_rfl) rfl hb2 (.inl (.inr rfl)) rfl (zb rfl) (.cons (s:=0) rfl (λ _ _ h=>h) (.cons (s:=1) rfl (λ _ _ h=>h) (.cons (s:=2) rfl (λ _ _ h=>h) (.cons (s:=3) rfl (λ _ _ h=>h) (.cons (s:=7) rfl (λ _ _ h=>h) (.cons (s:=8) rfl (box_ne hn5 (.inr rfl)) (.cons (s:=9) rfl (λ _ _ h=>h) (.cons (s:=17) rfl (λ _ _ h=>h) .nil)))))))) (λ _ st17=>?_);refine wpList_nil (za (wp_ret ?_));refine ret_box rfl (by kernel_rfl) st17 (t:=6) rfl (λ _ h=>(.inl (.inl h))) ?_;rw[← hrun,List.drop_of_length_le hend,xF]
open Go.RowKit
set_option maxRecDepth 10000
end Go.Proofs.YtpmkkijamfgaeaaGreatDoor
