import Derived.Test.YtdoidiipacdbpaaGreatDoorRB
import Derived.Test.YtdoidiipacdbpaaGreatDoorProg
import Derived.Test.YtdoidiipacdbpaaGreatDoorRA
namespace Go.Proofs.YtdoidiipacdbpaaGreatDoor
open Go.RowKit
attribute [local irreducible] OpRel OpdR
set_option maxRecDepth 10000
theorem zD:Tryz.prog.follows .mixedOrders=true:=by kernel_rfl
theorem jN(n lo up:Int):Fn Tryz.prog 92 [dt n,dt lo,dt up] (dt (inR n lo up)):=by
 refine xf (fn:=Tryz.f92) Tryz.func92 rfl (oD rfl) (λ M _ _ hm st0=>?_);refine wp_seq ?_;refine zn st0 [0,1,2,6] (λ _ _ _ st1=>?_);refine za (wp_seq ?_);refine zw st1 (sc rfl ((zj rfl (zb rfl)))
  (sc rfl ((zj rfl (zb rfl)))
  (sc rfl ((wK rfl (by decide) (zb rfl) (zb rfl)))
  (sc rfl ((zj rfl (zb rfl)))
  (.cons rfl (by decide) (.guarded rfl rfl (by decide) rfl zA (λ hg=>zj rfl (zb rfl)))
  (.cons rfl (by decide) (.guarded rfl rfl (by decide) rfl zA (λ hg=>zj rfl (zb rfl)))
  (.cons rfl (by decide) (.guarded rfl rfl (by decide) rfl zA (λ hg=>wK rfl (by decide) (ze hg rfl) (ze hg rfl)))
  (sc rfl ((yK rfl (zb rfl) (zb rfl)))
  (sc rfl ((zI rfl (zb rfl)))
  .nil))))))))) [0,1,2,6] (λ _ _ _ st2=>?_)
 refine za (wp_ret ?_);refine yu rfl (λ _ h=>h) st2 (t:=6) rfl ?_;rfl
theorem zby(l:List Str)(s:Str):Fn Tryz.prog 163 [dt l,dt s] (dt (textAt l s)):=by
 refine xf (fn:=Tryz.f163) Tryz.func163 rfl (oD rfl) (λ M w0 _ hm st0=>?_);have hlen:=st0.lenL (s:=0) rfl;refine wp_seq ?_;refine zn st0 [0,1,4] (λ _ _ _ st1=>?_);refine za (wp_seq (wp_seq ?_));refine zn st1 [0,1,4,5] (λ _ _ _ st2=>?_);refine za (wp_block ?_);refine Zf (ι:=Nat) (λ k a w=>St (Frm.of w0) 19 M [(0,dt l),(1,dt s),(5,dt (k:Int))] a w/\k<=l.length/\(l.take k).any (λ x=>decide (x=s))=false) (λ k=>l.length - k) 0 ?_ ?_
 ·
  exact⟨st2.pick (kc 0 rfl (kc 1 rfl (kc 5 rfl .nil))),Nat.zero_le _,by simp⟩
 ·
  rintro k a3 w3 ⟨st3,hk,hp⟩
  refine wp_seq (wp_seq ?_);refine zn st3 [0,1,5,9] (λ _ _ _ st4=>?_);refine za ?_;refine zP (c:=9) st4 rfl (λ h1=>?_) (λ h1=>?_)
  ·
   obtain⟨x,hx⟩:=XU h1;have hlt:=yg hx;refine wp_skip (za (wp_seq (wp_block (wp_seq ?_))));refine zw st4 (sc rfl ((zj rfl (zb rfl)))
    (sc rfl ((zj rfl (zb rfl)))
    (sc rfl ((ws rfl (by kernel_rfl) (zb rfl) (zb rfl) rfl (by assumption)))
    (sc rfl ((zp rfl (by kernel_rfl) (zb rfl)))
    (sc rfl ((zj rfl (zb rfl)))
    (sc rfl ((Zd rfl (zb rfl) (zb rfl)))
    .nil)))))) [0,1,5,9,17] (λ _ _ _ st5=>?_)
   refine za ?_;refine zP (c:=17) st5 rfl (λ h2=>?_) (λ h2=>?_)
   ·
    have ht:=h2;refine wp_seq ?_;refine zn st5 [0,1,4,5,9,17] (λ _ _ _ st6=>?_);refine za ?_;refine wp_ret (zt (zd (zd (zt (zd ?_)))));refine yu rfl (λ _ h=>h) st6 (t:=4) rfl ?_;exact(idx_hit hp hx ht).symm
   ·
    have hf:=h2;refine wp_skip (zg (za ?_));refine zw st5 (sc rfl ((zj rfl (zb rfl)))
     (sc rfl ((qN rfl (by decide) (zb rfl) z7 (by simp only[arI];omega)))
     (sc rfl ((zI rfl (zb rfl)))
     .nil))) [0,1,5,9,17] (λ _ _ _ st7=>?_)
    refine za ⟨k+1,⟨st7.pick (kc 0 rfl (kc 1 rfl (kc 5 rfl .nil))),by omega,QI hx hp hf⟩,by omega⟩
  ·
   have hend:=XV h1;refine wp_exit (zh (zh (zE ?_)));refine za (wp_seq ?_);refine zn st4 [0,1,4,5,9] (λ _ _ _ st8=>?_);refine za (wp_ret ?_);refine yu rfl (λ _ h=>h) st8 (t:=4) rfl ?_;exact(idx_end hend hp).symm
theorem zbn(l:List Str)(s:Str):Fn Tryz.prog 135 [dt l,dt s] (dt (xu l s)):=by
 refine xf (fn:=Tryz.f135) Tryz.func135 rfl (oD rfl) (λ M _ _ hm st0=>?_);refine wp_seq ?_;refine zn st0 [0,1,4] (λ _ _ _ st1=>?_);refine za (wp_seq ?_);refine zw st1 (sc rfl ((zj rfl (zb rfl)))
  (sc rfl ((zj rfl (zb rfl)))
  (sc rfl ((zo (l:=[.tmp 5,.tmp 6]) rfl (by kernel_rfl) (.cons (zb rfl) (.cons (zb rfl) .nil)) (zby _ _)))
  (sc rfl ((wK rfl (by decide) (zb rfl) z7))
  (sc rfl ((zI rfl (zb rfl)))
  .nil))))) [0,1,4] (λ _ _ _ st2=>?_)
 refine za (wp_ret ?_);refine yu rfl (λ _ h=>h) st2 (t:=4) rfl ?_;rfl
theorem jX(s:Str):Fn Tryz.prog 96 [dt s] (dt (zM s)):=by
 refine xf (fn:=Tryz.f96) Tryz.func96 rfl (oD rfl) (λ M w0 _ hm st0=>?_);have hlen:s.l.length<=9223372036854775807:=st0.lenS (s:=0) rfl;refine wp_seq ?_;refine zn st0 [0,2] (λ _ _ _ st1=>?_);refine za (wp_seq (wp_seq ?_));refine zw st1 (sc rfl ((zj rfl (zb rfl)))
  (sc rfl ((Xf rfl (by kernel_rfl) (zb rfl)))
  (sc rfl ((zo (l:=[.tmp 5,.const (.int .i64 1),.const (.int .i64 3)]) rfl (by kernel_rfl) (.cons (zb rfl) (.cons z7 (.cons z7 .nil))) (jN _ _ _)))
  (sc rfl ((yE rfl (zb rfl)))
  .nil)))) [0,2,7] (λ _ _ _ st2=>?_)
 refine za ?_;refine zP (c:=7) st2 rfl (λ h1=>?_) (λ h1=>?_)
 ·
  have h7:=h1;refine wp_seq ?_;refine zn st2 [0,2,7] (λ _ _ _ st3=>?_);refine za ?_;refine wp_ret (zd ?_);refine yu rfl (λ _ h=>h) st3 (t:=2) rfl ?_;unfold zM;rw[Bool.not_eq_true'] at h7;simp[h7]
 ·
  have h7:=h1;refine wp_skip (za (wp_seq (wp_seq ?_)));refine zn st2 [0,2,3,7] (λ _ _ _ st4=>?_);refine za (wp_block ?_);refine Zf (ι:=Nat) (λ k a w=>St (Frm.of w0) 24 M [(0,dt s),(3,dt (k:Int))] a w/\k<=s.l.length/\(s.l.take k).all low=true) (λ k=>s.l.length - k) 0 ?_ ?_
  ·
   exact⟨st4.pick (kc 0 rfl (kc 3 rfl .nil)),Nat.zero_le _,by simp⟩
  ·
   rintro k a5 w5 ⟨st5,hk,hp⟩
   refine wp_seq (wp_seq ?_);refine zn st5 [0,3,11] (λ _ _ _ st6=>?_);refine za ?_;refine zP (c:=11) st6 rfl (λ h2=>?_) (λ h2=>?_)
   ·
    obtain⟨x,hx⟩:=idxS_of h2;have hlt:=yg hx;refine wp_skip (za (wp_seq (wp_block (wp_seq ?_))));refine zw st6 (sc rfl ((zj rfl (zb rfl)))
     (sc rfl ((zj rfl (zb rfl)))
     (sc rfl ((op_byte rfl (by kernel_rfl) (zb rfl) (zb rfl) (by assumption)))
     (sc rfl ((op_cmpB rfl (by decide) (zb rfl) (Wu (by decide))))
     (sc rfl ((zj rfl (zb rfl)))
     (.cons rfl (by decide) (.guarded rfl rfl (by decide) rfl zA (λ hg=>zj rfl (zb rfl)))
     (.cons rfl (by decide) (.guarded rfl rfl (by decide) rfl zA (λ hg=>zj rfl (zb rfl)))
     (.cons rfl (by decide) (.guarded rfl rfl (by decide) rfl zA (λ hg=>op_byte rfl (by kernel_rfl) (ze hg rfl) (ze hg rfl) (by assumption)))
     (.cons rfl (by decide) (.guarded rfl rfl (by decide) rfl zA (λ hg=>op_cmpB rfl (by decide) (ze hg rfl) (Wu (by decide))))
     (sc rfl ((yU rfl (zb rfl) (zb rfl)))
     .nil)))))))))) [0,3,11,23] (λ _ _ _ st7=>?_)
    refine za ?_;refine zP (c:=23) st7 rfl (λ h3=>?_) (λ h3=>?_)
    ·
     have ht:=h3;refine wp_seq ?_;refine zn st7 [0,2,3,11,23] (λ _ _ _ st8=>?_);refine za ?_;refine wp_ret (zt (zd (zd (zt (zd ?_)))));refine yu rfl (λ _ h=>h) st8 (t:=2) rfl ?_;unfold zM;rw[all_fail (p:=low) hx (by unfold low;rw[ht];rfl)];simp
    ·
     have hf:=h3;refine wp_skip (zg (za ?_));refine zw st7 (sc rfl ((zj rfl (zb rfl)))
      (sc rfl ((qN rfl (by decide) (zb rfl) z7 (by simp only[arI];omega)))
      (sc rfl ((zI rfl (zb rfl)))
      .nil))) [0,3,11,23] (λ _ _ _ st9=>?_)
     refine za ⟨k+1,⟨st9.pick (kc 0 rfl (kc 3 rfl .nil)),by omega,all_next hx hp (by unfold low;rw[hf];rfl)⟩,by omega⟩
   ·
    have hend:=endS_of h2;refine wp_exit (zh (zh (zE ?_)));refine za (wp_seq ?_);refine zn st6 [0,2,3,11] (λ _ _ _ st10=>?_);refine za (wp_ret ?_);refine yu rfl (λ _ h=>h) st10 (t:=2) rfl ?_;unfold zM;rw[all_end hend hp];rw[Bool.not_eq_false'] at h7;exact(by simpa using h7.symm)
theorem Y8(s:Str)(c:UInt8)(hs:mid s):Fn Tryz.prog 95 [dt s,dt c] (dt (zu s c)):=by
 refine xf (fn:=Tryz.f95) Tryz.func95 rfl (oD rfl) (λ M w0 _ hm st0=>?_);have hlen:s.l.length<=1099511627776:=hs;refine wp_seq ?_;refine zw st0 (sc rfl ((zI rfl (jW (α:=Str))))
  .nil) [0,1,4] (λ _ _ _ st1=>?_)
 refine za (wp_seq ?_);refine zw st1 (sc rfl ((wT (α:=Str) (e:=9) rfl (by kernel_rfl)))
  (sc rfl ((zI rfl (zb rfl)))
  .nil)) [0,1,4,5] (λ _ _ _ st2=>?_)
 refine za (wp_seq ?_);refine zn st2 [0,1,4,5,6] (λ _ _ _ st3=>?_);refine za (wp_seq (wp_seq ?_));refine zn st3 [0,1,4,5,6,7] (λ _ _ _ st4=>?_);refine za (wp_block ?_);refine Zf (ι:=Nat×Nat) (λ p a w=>∃ g,TipOK (Frm.of w0) M g/\St (Frm.of w0) 35 (insO g M) [(0,dt s),(1,dt c),(5,dtip g 9 (xp c (s.l.take p.1)).1),(6,dt (p.2:Int)),(7,dt (p.1:Int))] a w/\p.1<=s.l.length/\p.2<=p.1/\(xp c (s.l.take p.1)).2=⟨(s.l.take p.1).drop p.2⟩/\(xp c (s.l.take p.1)).1.length<=p.1) (λ p=>s.l.length - p.1) (0,0) ?_ ?_
 ·
  exact⟨none,TipOK.none_,st4.ins0.pick (kc 0 rfl (kc 1 rfl (kc 5 rfl (kc 6 rfl (kc 7 rfl .nil))))),Nat.zero_le _,Nat.le_refl _,rfl,Nat.le_refl _⟩
 ·
  rintro ⟨k,b⟩ a5 w5 ⟨g5,hg5,st5,hk,hb,g2,g1⟩
  dsimp only at*;refine wp_seq (wp_seq ?_);refine zn st5 [0,1,5,6,7,12] (λ _ _ _ st6=>?_);refine za ?_;refine zP (c:=12) st6 rfl (λ h1=>?_) (λ h1=>?_)
  ·
   obtain⟨x,hx⟩:=idxS_of h1;have hlt:=yg hx;refine wp_skip (za (wp_seq (wp_block (wp_seq ?_))));refine zw st6 (sc rfl ((zj rfl (zb rfl)))
    (sc rfl ((zj rfl (zb rfl)))
    (sc rfl ((op_byte rfl (by kernel_rfl) (zb rfl) (zb rfl) (by assumption)))
    (sc rfl ((zj rfl (zb rfl)))
    (sc rfl ((op_cmpB rfl (by decide) (zb rfl) (zb rfl)))
    .nil))))) [0,1,5,6,7,12,19] (λ _ _ _ st7=>?_)
   refine za ?_;refine zP (c:=19) st7 rfl (λ h2=>?_) (λ h2=>?_)
   ·
    have ht:=h2;refine wp_seq (wp_region_list ?_);refine WT 6 st7 (sc rfl ((zj rfl (zb rfl)))
     (sc rfl ((zj rfl (zb rfl)))
     (sc rfl ((zj rfl (zb rfl)))
     (sc rfl ((zj rfl (zb rfl)))
     (sc rfl ((op_cutLH rfl (by kernel_rfl) (zb rfl) (zb rfl) (zb rfl) (by omega) (by omega) (by omega)))
     (sc rfl ((yG (opds:=[.tmp 24]) rfl (by kernel_rfl) (by kernel_rfl) rfl rfl (by decide) (.cons (zb rfl) .nil)))
     .nil))))))
     (kc 0 rfl (kc 1 rfl (kc 5 rfl (kc 6 rfl (kc 7 rfl (kc 12 rfl (kc 19 rfl (kc 20 rfl (kc 25 rfl .nil))))))))) (λ _ _ _ st8=>?_)
    refine YA (bytes:=16) (st8) rfl rfl rfl (by decide) (by kernel_rfl) rfl rfl wO (len1 (by omega)) (len1b (by omega)) (.cons (s:=0) rfl (λ _ _ h=>h) (.cons (s:=1) rfl (λ _ _ h=>h) (.cons (s:=6) rfl (λ _ _ h=>h) (.cons (s:=7) rfl (λ _ _ h=>h) (.cons (s:=12) rfl (λ _ _ h=>h) (.cons (s:=19) rfl (λ _ _ h=>h) .nil)))))) (hg5) (λ g9 _ _ hg9 st9=>?_);refine WT 1 st9 (sc rfl ((zI rfl (zb rfl)))
     .nil)
     (kc 0 rfl (kc 1 rfl (kc 5 rfl (kc 6 rfl (kc 7 rfl (kc 12 rfl (kc 19 rfl .nil))))))) (λ _ _ _ st10=>?_)
    refine wpList_nil (za ?_);refine zw st10 (sc rfl ((zj rfl (zb rfl)))
     (sc rfl ((qN rfl (by decide) (zb rfl) z7 (by simp only[arI];omega)))
     (sc rfl ((zI rfl (zb rfl)))
     .nil))) [0,1,5,6,7,12,19] (λ _ _ _ st11=>?_)
    refine zg (za ?_);refine zw st11 (sc rfl ((zj rfl (zb rfl)))
     (sc rfl ((qN rfl (by decide) (zb rfl) z7 (by simp only[arI];omega)))
     (sc rfl ((zI rfl (zb rfl)))
     .nil))) [0,1,5,6,7,12,19] (λ _ _ _ st12=>?_)
    refine za ⟨(k+1,k+1),⟨g9,hg9,?_,by dsimp only;omega,by dsimp only;omega,split_hit2 hx ht hlt,by dsimp only;rw[Qh hx ht g2,List.length_append];exact Nat.succ_le_succ g1⟩,by dsimp only;omega⟩;dsimp only;first | rw[Qh hx ht g2] | rw[W9 hx hf]
    exact st12.pick (kc 0 rfl (kc 1 rfl (kc 5 rfl (kc 6 rfl (kc 7 rfl .nil)))))
   ·
    have hf:=h2;refine wp_skip (zg (za ?_));refine zw st7 (sc rfl ((zj rfl (zb rfl)))
     (sc rfl ((qN rfl (by decide) (zb rfl) z7 (by simp only[arI];omega)))
     (sc rfl ((zI rfl (zb rfl)))
     .nil))) [0,1,5,6,7,12,19] (λ _ _ _ st13=>?_)
    refine za ⟨(k+1,b),⟨g5,hg5,?_,by dsimp only;omega,by dsimp only;omega,split_miss2 hx hf g2 hb hlt,by dsimp only;rw[W9 hx hf];omega⟩,by dsimp only;omega⟩;dsimp only;first | rw[Qh hx ht g2] | rw[W9 hx hf]
    exact st13.pick (kc 0 rfl (kc 1 rfl (kc 5 rfl (kc 6 rfl (kc 7 rfl .nil)))))
  ·
   have hend:=endS_of h1;refine wp_exit (zh (zh (zE ?_)));refine za (wp_seq (wp_region_list ?_));refine WT 5 st6 (sc rfl ((zj rfl (zb rfl)))
    (sc rfl ((zj rfl (zb rfl)))
    (sc rfl ((zj rfl (zb rfl)))
    (sc rfl ((op_cutL rfl (by kernel_rfl) (zb rfl) (zb rfl) (by omega) (by omega)))
    (sc rfl ((yG (opds:=[.tmp 32]) rfl (by kernel_rfl) (by kernel_rfl) rfl rfl (by decide) (.cons (zb rfl) .nil)))
    .nil)))))
    (kc 0 rfl (kc 1 rfl (kc 5 rfl (kc 6 rfl (kc 7 rfl (kc 12 rfl (kc 29 rfl (kc 33 rfl .nil)))))))) (λ _ _ _ st14=>?_)
   refine YA (bytes:=16) (st14) rfl rfl rfl (by decide) (by kernel_rfl) rfl rfl wO (len1 (by omega)) (len1b (by omega)) (.cons (s:=0) rfl (λ _ _ h=>h) (.cons (s:=1) rfl (λ _ _ h=>h) (.cons (s:=6) rfl (λ _ _ h=>h) (.cons (s:=7) rfl (λ _ _ h=>h) (.cons (s:=12) rfl (λ _ _ h=>h) .nil))))) (hg5) (λ g15 _ _ hg15 st15=>?_);refine WT 1 st15 (sc rfl ((zI rfl (zb rfl)))
    .nil)
    (kc 0 rfl (kc 1 rfl (kc 4 rfl (kc 6 rfl (kc 7 rfl (kc 12 rfl .nil)))))) (λ _ _ _ st16=>?_)
   refine wpList_nil (za (wp_ret ?_));refine ret_tip rfl (hg15) (λ _ h=>h) st16 (t:=4) rfl ?_;exact split_end hend g2
theorem jY(s:Str)(hs:mid s):Fn Tryz.prog 50 [dt s] (dt (zF s)):=by
 refine xf (fn:=Tryz.f50) Tryz.func50 rfl (oD rfl) (λ M w0 _ hm st0=>?_);refine wp_seq ?_;refine zn st0 [0,2] (λ _ _ _ st1=>?_);refine za (wp_seq ?_);refine zw st1 (sc rfl ((zj rfl (zb rfl)))
  (sc rfl ((zo (l:=[.tmp 5,.const (.int .u8 46)]) rfl (by kernel_rfl) (.cons (zb rfl) (.cons (Wu (by decide)) .nil)) (Y8 _ dot (by assumption))))
  (sc rfl ((zI rfl (zb rfl)))
  .nil))) [0,2,3] (λ _ _ _ st2=>?_)
 refine za (wp_seq (wp_seq ?_));refine zn st2 [0,2,3,4] (λ _ _ _ st3=>?_);refine za (wp_block ?_);refine Zf (ι:=Nat) (λ k a w=>St (Frm.of w0) 22 M [(0,dt s),(3,dt (zu s dot)),(4,dt (k:Int))] a w/\k<=(zu s dot).length/\((zu s dot).take k).all zM=true) (λ k=>(zu s dot).length - k) 0 ?_ ?_
 ·
  exact⟨st3.pick (kc 0 rfl (kc 3 rfl (kc 4 rfl .nil))),Nat.zero_le _,by simp⟩
 ·
  rintro k a4 w4 ⟨st4,hk,hp⟩
  have hlen:=st4.lenL (s:=3) rfl;refine wp_seq (wp_seq ?_);refine zn st4 [0,3,4,10] (λ _ _ _ st5=>?_);refine za ?_;refine zP (c:=10) st5 rfl (λ h1=>?_) (λ h1=>?_)
  ·
   obtain⟨x,hx⟩:=XU h1;have hlt:=yg hx;refine wp_skip (za (wp_seq (wp_block (wp_seq ?_))));refine zw st5 (sc rfl ((zj rfl (zb rfl)))
    (sc rfl ((zj rfl (zb rfl)))
    (sc rfl ((ws rfl (by kernel_rfl) (zb rfl) (zb rfl) rfl (by assumption)))
    (sc rfl ((zp rfl (by kernel_rfl) (zb rfl)))
    (sc rfl ((zo (l:=[.tmp 16]) rfl (by kernel_rfl) (.cons (zb rfl) .nil) (jX _)))
    (sc rfl ((yE rfl (zb rfl)))
    .nil)))))) [0,3,4,10,18] (λ _ _ _ st6=>?_)
   refine za ?_;refine zP (c:=18) st6 rfl (λ h2=>?_) (λ h2=>?_)
   ·
    have ht:=h2;refine wp_seq ?_;refine zn st6 [0,2,3,4,10,18] (λ _ _ _ st7=>?_);refine za ?_;refine wp_ret (zt (zd (zd (zt (zd ?_)))));refine yu rfl (λ _ h=>h) st7 (t:=2) rfl ?_;unfold zF;rw[all_fail hx (by simpa using ht)];rfl
   ·
    have hf:=h2;refine wp_skip (zg (za ?_));refine zw st6 (sc rfl ((zj rfl (zb rfl)))
     (sc rfl ((qN rfl (by decide) (zb rfl) z7 (by simp only[arI];omega)))
     (sc rfl ((zI rfl (zb rfl)))
     .nil))) [0,3,4,10,18] (λ _ _ _ st8=>?_)
    refine za ⟨k+1,⟨st8.pick (kc 0 rfl (kc 3 rfl (kc 4 rfl .nil))),by omega,all_next hx hp (by simpa using hf)⟩,by omega⟩
  ·
   have hend:=XV h1;refine wp_exit (zh (zh (zE ?_)));refine za (wp_seq ?_);refine zn st5 [0,2,3,4,10] (λ _ _ _ st9=>?_);refine za (wp_ret ?_);refine yu rfl (λ _ h=>h) st9 (t:=2) rfl ?_;unfold zF;rw[all_end hend hp];rfl
theorem Zp(s:Str)(hs:mid s):Fn Tryz.prog 131 [dt s] (dt (zy s)):=by
 refine xf (fn:=Tryz.f131) Tryz.func131 rfl (oD rfl) (λ M _ _ hm st0=>?_);refine wp_seq ?_;refine zn st0 [0,2] (λ _ _ _ st1=>?_);refine za (wp_seq ?_);refine zw st1 (sc rfl ((zj rfl (zb rfl)))
  (sc rfl ((Zd rfl (zb rfl) (zQ (by decide))))
  (sc rfl ((zj rfl (zb rfl)))
  (.cons rfl (by decide) (.guarded rfl rfl (by decide) rfl zA (λ hg=>zj rfl (zb rfl)))
  (.cons rfl (by decide) (.guarded rfl rfl (by decide) rfl zA (λ hg=>zo (l:=[.tmp 6]) rfl (by kernel_rfl) (.cons (ze hg rfl) .nil) (jY _ hs)))
  (sc rfl ((yU rfl (zb rfl) (zb rfl)))
  (sc rfl ((zI rfl (zb rfl)))
  .nil))))))) [0,2] (λ _ _ _ st2=>?_)
 refine za (wp_ret ?_);refine yu rfl (λ _ h=>h) st2 (t:=2) rfl ?_;rfl
open Go.RowKit
set_option maxRecDepth 10000
theorem QQ(l:List Str)(hl:ww l<=1152921504606846976):Fn Tryz.prog 98 [dt l] (dt (join l)):=by
 refine xf (fn:=Tryz.f98) Tryz.func98 rfl (oD rfl) (λ M w0 _ hm st0=>?_);have hlen:=st0.lenL (s:=0) rfl;refine wp_seq ?_;refine zn st0 [0,2] (λ _ _ _ st1=>?_);refine za (wp_seq ?_);refine zn st1 [0,2,3] (λ _ _ _ st2=>?_);refine za (wp_seq (wp_seq ?_));refine zn st2 [0,2,3,4] (λ _ _ _ st3=>?_);refine za (wp_block ?_);refine Zf (ι:=Nat) (λ k a w=>St (Frm.of w0) 22 M [(0,dt l),(3,dt (ZA (l.take k)).1),(4,dt (k:Int))] a w/\k<=l.length) (λ k=>l.length - k) 0 ?_ ?_
 ·
  exact⟨st3.pick (kc 0 rfl (kc 3 rfl (kc 4 rfl .nil))),Nat.zero_le _⟩
 ·
  rintro k a4 w4 ⟨st4,hk⟩
  refine wp_seq (wp_seq ?_);refine zn st4 [0,3,4,8] (λ _ _ _ st5=>?_);refine za ?_;refine zP (c:=8) st5 rfl (λ h1=>?_) (λ h1=>?_)
  ·
   obtain⟨x,hx⟩:=XU h1;have hlt:=yg hx;have hroom:=join_room hx;refine wp_skip (za (wp_seq (wp_block (wp_seq (wp_seq ?_)))));refine zn st5 [0,3,4,8,12] (λ _ _ _ st6=>?_);refine za ?_;refine zP (c:=12) st6 rfl (λ h2=>?_) (λ h2=>?_)
   ·
    have ht:=h2;refine zw st6 (sc rfl ((zj rfl (zb rfl)))
     (sc rfl ((Qb rfl (zb rfl) (zQ (by decide)) (by first | (unfold maxLen;omega) | (simp only[List.length_singleton];unfold maxLen;omega))))
     (sc rfl ((zI rfl (zb rfl)))
     .nil))) [0,3,4,8,12] (λ _ _ _ st7=>?_)
    refine za ?_;refine zw st7 (sc rfl ((zj rfl (zb rfl)))
     (sc rfl ((zj rfl (zb rfl)))
     (sc rfl ((zj rfl (zb rfl)))
     (sc rfl ((ws rfl (by kernel_rfl) (zb rfl) (zb rfl) rfl (by assumption)))
     (sc rfl ((zp rfl (by kernel_rfl) (zb rfl)))
     (sc rfl ((Qb rfl (zb rfl) (zb rfl) (by first | (unfold maxLen;omega) | (simp only[List.length_append,List.length_singleton];unfold maxLen;omega))))
     (sc rfl ((zI rfl (zb rfl)))
     .nil))))))) [0,3,4,8,12] (λ _ _ _ st8=>?_)
    refine zg (za ?_);refine zw st8 (sc rfl ((zj rfl (zb rfl)))
     (sc rfl ((qN rfl (by decide) (zb rfl) z7 (by simp only[arI];omega)))
     (sc rfl ((zI rfl (zb rfl)))
     .nil))) [0,3,4,8,12] (λ _ _ _ st9=>?_)
    refine za ⟨k+1,⟨?_,by omega⟩,by omega⟩
    first | rw[QK hx ht] | rw[JF hx hf]
    exact st9.pick (kc 0 rfl (kc 3 rfl (kc 4 rfl .nil)))
   ·
    have hf:=h2;refine wp_skip (za ?_);refine zw st6 (sc rfl ((zj rfl (zb rfl)))
     (sc rfl ((zj rfl (zb rfl)))
     (sc rfl ((zj rfl (zb rfl)))
     (sc rfl ((ws rfl (by kernel_rfl) (zb rfl) (zb rfl) rfl (by assumption)))
     (sc rfl ((zp rfl (by kernel_rfl) (zb rfl)))
     (sc rfl ((Qb rfl (zb rfl) (zb rfl) (by first | (unfold maxLen;omega) | (simp only[List.length_append,List.length_singleton];unfold maxLen;omega))))
     (sc rfl ((zI rfl (zb rfl)))
     .nil))))))) [0,3,4,8,12] (λ _ _ _ st10=>?_)
    refine zg (za ?_);refine zw st10 (sc rfl ((zj rfl (zb rfl)))
     (sc rfl ((qN rfl (by decide) (zb rfl) z7 (by simp only[arI];omega)))
     (sc rfl ((zI rfl (zb rfl)))
     .nil))) [0,3,4,8,12] (λ _ _ _ st11=>?_)
    refine za ⟨k+1,⟨?_,by omega⟩,by omega⟩
    first | rw[QK hx ht] | rw[JF hx hf]
    exact st11.pick (kc 0 rfl (kc 3 rfl (kc 4 rfl .nil)))
  ·
   have hend:=XV h1;refine wp_exit (zh (zh (zE ?_)));refine za (wp_seq ?_);refine zn st5 [0,2,3,4,8] (λ _ _ _ st12=>?_);refine za (wp_ret ?_);refine yu rfl (λ _ h=>h) st12 (t:=2) rfl ?_;exact join_end hend
theorem XZ(p s:Str)(hc:p.l.length+s.l.length<=1152921504606846976):Fn Tryz.prog 115 [dt p,dt s] (dt (child p s)):=by
 refine xf (fn:=Tryz.f115) Tryz.func115 rfl (oD rfl) (λ M _ _ hm st0=>?_);refine wp_seq ?_;refine zn st0 [0,1,4] (λ _ _ _ st1=>?_);refine za (wp_seq (wp_seq ?_));refine zn st1 [0,1,4,6] (λ _ _ _ st2=>?_);refine za ?_;refine zP (c:=6) st2 rfl (λ h1=>?_) (λ h1=>?_)
 ·
  have ht:=h1;refine wp_seq ?_;refine zn st2 [0,1,4,6] (λ _ _ _ st3=>?_);refine za ?_;refine wp_ret (zd ?_);refine yu rfl (λ _ h=>h) st3 (t:=4) rfl ?_;exact(if_pos (oD ht)).symm
 ·
  have hf:=h1;refine wp_skip (za (wp_seq ?_));refine zw st2 (sc rfl ((zj rfl (zb rfl)))
   (sc rfl ((Qb rfl (zb rfl) (zQ (by decide)) (by first | (unfold maxLen;omega) | (simp only[List.length_singleton];unfold maxLen;omega))))
   (sc rfl ((zj rfl (zb rfl)))
   (sc rfl ((Qb rfl (zb rfl) (zb rfl) (by first | (unfold maxLen;omega) | (simp only[List.length_append,List.length_singleton];unfold maxLen;omega))))
   (sc rfl ((zI rfl (zb rfl)))
   .nil))))) [0,1,4,6] (λ _ _ _ st4=>?_)
  refine za (wp_ret ?_);refine yu rfl (λ _ h=>h) st4 (t:=4) rfl ?_;exact(if_neg (of_decide_eq_false hf)).symm
theorem spec_above_ok(s:Str)(hs:mid s):Fn Tryz.prog 202 [dt s] (dt (above s)):=by
 refine xf (fn:=Tryz.f202) Tryz.func202 rfl (oD rfl) (λ M w0 _ hm st0=>?_);have hroom:=YC s dot;have hlen:=len_room (zu s dot);have hms:s.l.length<=1099511627776:=hs;refine wp_seq ?_;refine zw st0 (sc rfl ((zI rfl (jW (α:=Str))))
  .nil) [0,2] (λ _ _ _ st1=>?_)
 refine za (wp_seq ?_);refine zw st1 (sc rfl ((zj rfl (zb rfl)))
  (sc rfl ((zo (l:=[.tmp 6,.const (.int .u8 46)]) rfl (by kernel_rfl) (.cons (zb rfl) (.cons (Wu (by decide)) .nil)) (Y8 _ dot (by assumption))))
  (sc rfl ((zI rfl (zb rfl)))
  .nil))) [0,2,3] (λ _ _ _ st2=>?_)
 refine za (wp_seq ?_);refine zw st2 (sc rfl ((wT (α:=Str) (e:=9) rfl (by kernel_rfl)))
  (sc rfl ((zI rfl (zb rfl)))
  .nil)) [0,2,3,4] (λ _ _ _ st3=>?_)
 refine za (wp_seq (wp_seq ?_));refine zn st3 [0,2,3,4,5] (λ _ _ _ st4=>?_);refine za (wp_block ?_);refine Zf (ι:=Nat) (λ k a w=>∃ g,TipOK (Frm.of w0) M g/\St (Frm.of w0) 23 (insO g M) [(0,dt s),(3,dt (zu s dot)),(4,dtip g 9 (Y2 (zu s dot) k)),(5,dt ((k+1:Nat):Int))] a w/\k<=(zu s dot).length) (λ k=>(zu s dot).length - k) 0 ?_ ?_
 ·
  exact⟨none,TipOK.none_,st4.ins0.pick (kc 0 rfl (kc 3 rfl (kc 4 rfl (kc 5 rfl .nil)))),Nat.zero_le _⟩
 ·
  rintro k a5 w5 ⟨g5,hg5,st5,hk⟩
  refine wp_seq (wp_seq ?_);refine zn st5 [0,3,4,5,12] (λ _ _ _ st6=>?_);refine za ?_;refine zP (c:=12) st6 rfl (λ h1=>?_) (λ h1=>?_)
  ·
   have hlt:k+1<=(zu s dot).length:=by have:=oD h1;omega
   have hal:=QM (zu s dot) k;have htk:=Zn (zu s dot) (k+1);refine wp_skip (za (wp_seq (wp_block (wp_region_list ?_))));refine WT 6 st6 (sc rfl ((zj rfl (zb rfl)))
    (sc rfl ((zj rfl (zb rfl)))
    (sc rfl ((zj rfl (zb rfl)))
    (sc rfl ((Qd rfl (by kernel_rfl) (zb rfl) (zb rfl) rfl (by omega)))
    (sc rfl ((zo (l:=[.tmp 18]) rfl (by kernel_rfl) (.cons (zb rfl) .nil) (QQ _ (by omega))))
    (sc rfl ((yG (opds:=[.tmp 19]) rfl (by kernel_rfl) (by kernel_rfl) rfl rfl (by decide) (.cons (zb rfl) .nil)))
    .nil))))))
    (kc 0 rfl (kc 3 rfl (kc 4 rfl (kc 5 rfl (kc 12 rfl (kc 15 rfl (kc 20 rfl .nil))))))) (λ _ _ _ st7=>?_)
   refine YA (bytes:=16) (st7) rfl rfl rfl (by decide) (by kernel_rfl) rfl rfl wO (len1 (by omega)) (len1b (by omega)) (.cons (s:=0) rfl (λ _ _ h=>h) (.cons (s:=3) rfl (λ _ _ h=>h) (.cons (s:=5) rfl (λ _ _ h=>h) (.cons (s:=12) rfl (λ _ _ h=>h) .nil)))) (hg5) (λ g8 _ _ hg8 st8=>?_);refine WT 1 st8 (sc rfl ((zI rfl (zb rfl)))
    .nil)
    (kc 0 rfl (kc 3 rfl (kc 4 rfl (kc 5 rfl (kc 12 rfl .nil))))) (λ _ _ _ st9=>?_)
   refine wpList_nil (zg (za ?_));refine zw st9 (sc rfl ((zj rfl (zb rfl)))
    (sc rfl ((qN rfl (by decide) (zb rfl) z7 (by simp only[arI];omega)))
    (sc rfl ((zI rfl (zb rfl)))
    .nil))) [0,3,4,5,12] (λ _ _ _ st10=>?_)
   refine za ⟨k+1,⟨g8,hg8,?_,by omega⟩,by omega⟩;rw[aboveRun_next];exact st10.pick (kc 0 rfl (kc 3 rfl (kc 4 rfl (kc 5 rfl .nil))))
  ·
   have hend:(zu s dot).length<=k:=by have:=of_decide_eq_false h1;omega
   refine wp_exit (zh (zh (zE ?_)));refine za (wp_seq ?_);refine zn st6 [0,2,3,4,5,12] (λ _ _ _ st11=>?_);refine za (wp_ret ?_);refine ret_tip rfl (hg5) (λ _ h=>h) st11 (t:=2) rfl ?_;rw[above,Nat.le_antisymm hk hend]
theorem JX(s p:Str)(hp:p.l.length<=1152921504606846976):Fn Tryz.prog 126 [dt s,dt p] (dt (under s p)):=by
 refine xf (fn:=Tryz.f126) Tryz.func126 rfl (oD rfl) (λ M _ _ hm st0=>?_);refine wp_seq ?_;refine zn st0 [0,1,4] (λ _ _ _ st1=>?_);refine za (wp_seq ?_);refine zw st1 (sc rfl ((zj rfl (zb rfl)))
  (sc rfl ((Zd rfl (zb rfl) (zQ (by decide))))
  (sc rfl ((zj rfl (zb rfl)))
  (.cons rfl (by decide) (.guarded rfl rfl (by decide) rfl zA (λ hg=>zj rfl (zb rfl)))
  (.cons rfl (by decide) (.guarded rfl rfl (by decide) rfl zA (λ hg=>zj rfl (zb rfl)))
  (.cons rfl (by decide) (.guarded rfl rfl (by decide) rfl zA (λ hg=>Zd rfl (ze hg rfl) (ze hg rfl)))
  (sc rfl ((yU rfl (zb rfl) (zb rfl)))
  (sc rfl ((zj rfl (zb rfl)))
  (.cons rfl (by decide) (.guarded rfl rfl (by decide) rfl zA (λ hg=>zj rfl (zb rfl)))
  (.cons rfl (by decide) (.guarded rfl rfl (by decide) rfl zA (λ hg=>Xf rfl (by kernel_rfl) (ze hg rfl)))
  (.cons rfl (by decide) (.guarded rfl rfl (by decide) rfl zA (λ hg=>zj rfl (zb rfl)))
  (.cons rfl (by decide) (.guarded rfl rfl (by decide) rfl zA (λ hg=>Xf rfl (by kernel_rfl) (ze hg rfl)))
  (.cons rfl (by decide) (.guarded rfl rfl (by decide) rfl zA (λ hg=>wK rfl (by decide) (ze hg rfl) (ze hg rfl)))
  (.cons rfl (by decide) (.guarded rfl rfl (by decide) rfl zA (λ hg=>zj rfl (ze hg rfl)))
  (.cons rfl (by decide) (.guarded2 rfl rfl (by decide) rfl zA (λ hg=>zj rfl (zb rfl)))
  (.cons rfl (by decide) (.guarded2 rfl rfl (by decide) rfl zA (λ hg=>zj rfl (zb rfl)))
  (.cons rfl (by decide) (.guarded2 rfl rfl (by decide) rfl zA (λ hg=>Xf rfl (by kernel_rfl) (ze hg rfl)))
  (.cons rfl (by decide) (.guarded2 rfl rfl (by decide) rfl zA (λ hg=>qN rfl (by decide) (ze hg rfl) z7 (by simp only[arI];omega)))
  (.cons rfl (by decide) (.guarded2 rfl rfl (by decide) rfl zA (λ hg=>op_cutH rfl (by kernel_rfl) (ze hg rfl) (ze hg rfl) (by simp only[arI];omega) (by simp only[arI];have:=oD (and_r hg);omega)))
  (.cons rfl (by decide) (.guarded2 rfl rfl (by decide) rfl zA (λ hg=>zj rfl (zb rfl)))
  (.cons rfl (by decide) (.guarded2 rfl rfl (by decide) rfl zA (λ hg=>Qb rfl (ze hg rfl) (zQ (by decide)) (by first | (unfold maxLen;omega) | (simp only[List.length_singleton];unfold maxLen;omega))))
  (.cons rfl (by decide) (.guarded2 rfl rfl (by decide) rfl zA (λ hg=>Zd rfl (ze hg rfl) (ze hg rfl)))
  (.cons rfl (by decide) (.guarded rfl rfl (by decide) rfl zA (λ hg=>yK rfl (ze hg rfl) (zax hg rfl)))
  (sc rfl ((yU rfl (zb rfl) (zb rfl)))
  (sc rfl ((zI rfl (zb rfl)))
  .nil))))))))))))))))))))))))) [0,1,4] (λ _ _ _ st2=>?_)
 refine za (wp_ret ?_);refine yu rfl (λ _ h=>h) st2 (t:=4) rfl ?_;exact under_of
theorem Qk(f:File)(hf:smFile f):Fn Tryz.prog 71 [dt f] (dt (xT f)):=by
 refine xf (fn:=Tryz.f71) Tryz.func71 rfl (oD rfl) (λ M _ _ hm st0=>?_);refine wp_seq ?_;refine zw st0 (sc rfl ((Y6 rfl (zb rfl)))
  (sc rfl ((zI rfl (zQ (by decide))))
  .nil)) [0,1,2] (λ _ _ _ st1=>?_)
 refine za (wp_seq (wp_seq ?_));refine zn st1 [0,1,2,4] (λ _ _ _ st2=>?_);refine za ?_;refine zP (c:=4) st2 rfl (λ h1=>?_) (λ h1=>?_)
 ·
  have ht:=h1;refine wp_seq ?_;refine zn st2 [0,1,2,4] (λ _ _ _ st3=>?_);refine za ?_;refine wp_ret (zd ?_);refine yu rfl (λ _ h=>h) st3 (t:=2) rfl ?_;rw[xT,if_pos ht]
 ·
  have hff:=h1;refine wp_skip (za (wp_seq ?_));refine zw st2 (sc rfl ((zv File.fld1 rfl (by kernel_rfl) (zb rfl)))
   (sc rfl ((zp rfl (by kernel_rfl) (zb rfl)))
   (sc rfl ((zv File.fld2 rfl (by kernel_rfl) (zb rfl)))
   (sc rfl ((zp rfl (by kernel_rfl) (zb rfl)))
   (sc rfl ((zo (l:=[.tmp 8,.tmp 10]) rfl (by kernel_rfl) (.cons (zb rfl) (.cons (zb rfl) .nil)) (XZ _ _ (by have:=hf.1;have:=hf.2.1;omega))))
   (sc rfl ((zI rfl (zb rfl)))
   .nil)))))) [0,1,2,4] (λ _ _ _ st4=>?_)
  refine za (wp_ret ?_);refine yu rfl (λ _ h=>h) st4 (t:=2) rfl ?_;rw[xT,if_neg (by simp[hff])]
open Go.RowKit
set_option maxRecDepth 10000
theorem QR(s:Stmt)(hs:smStmt s):Fn Tryz.prog 179 [dt s] (dt (xJ s)):=by
 refine xf (fn:=Tryz.f179) Tryz.func179 rfl (oD rfl) (λ M _ _ hm st0=>?_);refine wp_seq ?_;refine zw st0 (sc rfl ((Y6 rfl (zb rfl)))
  (sc rfl ((zI rfl X8))
  .nil)) [0,1,2] (λ _ _ _ st1=>?_)
 refine za (wp_seq (wp_seq ?_));refine zn st1 [0,1,2,4] (λ _ _ _ st2=>?_);refine za (wp_block (wp_seq ?_));refine zn st2 [0,1,2,4,5] (λ _ _ _ st3=>?_);refine za ?_;refine zP (c:=5) st3 rfl (λ h1=>?_) (λ h1=>?_)
 ·
  have k0:=h1;refine wp_seq ?_;refine zw st3 (sc rfl ((zv Stmt.fld1 rfl (by kernel_rfl) (zb rfl)))
   (sc rfl ((zp rfl (by kernel_rfl) (zb rfl)))
   (sc rfl ((zo (l:=[.tmp 8]) rfl (by kernel_rfl) (.cons (zb rfl) .nil) (jY _ (by have:=hs.1;unfold mid;omega))))
   (sc rfl ((zj rfl (zb rfl)))
   (.cons rfl (by decide) (.guarded rfl rfl (by decide) rfl zA (λ hg=>zv Stmt.fld2 rfl (by kernel_rfl) (zb rfl)))
   (.cons rfl (by decide) (.guarded rfl rfl (by decide) rfl zA (λ hg=>zp rfl (by kernel_rfl) (ze hg rfl)))
   (.cons rfl (by decide) (.guarded rfl rfl (by decide) rfl zA (λ hg=>wK rfl (by decide) (ze hg rfl) z7))
   (sc rfl ((yK rfl (zb rfl) (zb rfl)))
   (sc rfl ((zj rfl (zb rfl)))
   (.cons rfl (by decide) (.guarded rfl rfl (by decide) rfl zA (λ hg=>zv Stmt.fld3 rfl (by kernel_rfl) (zb rfl)))
   (.cons rfl (by decide) (.guarded rfl rfl (by decide) rfl zA (λ hg=>zp rfl (by kernel_rfl) (ze hg rfl)))
   (.cons rfl (by decide) (.guarded rfl rfl (by decide) rfl zA (λ hg=>Zd rfl (ze hg rfl) (zQ (by decide))))
   (sc rfl ((yK rfl (zb rfl) (zb rfl)))
   (sc rfl ((zj rfl (zb rfl)))
   (.cons rfl (by decide) (.guarded rfl rfl (by decide) rfl zA (λ hg=>zv Stmt.fld4 rfl (by kernel_rfl) (zb rfl)))
   (.cons rfl (by decide) (.guarded rfl rfl (by decide) rfl zA (λ hg=>zp rfl (by kernel_rfl) (ze hg rfl)))
   (.cons rfl (by decide) (.guarded rfl rfl (by decide) rfl zA (λ hg=>wK rfl (by decide) (ze hg rfl) z7))
   (sc rfl ((yK rfl (zb rfl) (zb rfl)))
   (sc rfl ((zI rfl (zb rfl)))
   .nil))))))))))))))))))) [0,1,2,4,5] (λ _ _ _ st4=>?_)
  refine za ?_;refine wp_ret (zt (zd ?_));refine yu rfl (λ _ h=>h) st4 (t:=2) rfl ?_;rw[xJ,if_pos k0]
 ·
  have k0:=h1;refine wp_seq ?_;refine zn st3 [0,1,2,4,5,25] (λ _ _ _ st5=>?_);refine za ?_;refine zP (c:=25) st5 rfl (λ h2=>?_) (λ h2=>?_)
  ·
   have k1:=h2;refine wp_seq ?_;refine zw st5 (sc rfl ((zv Stmt.fld1 rfl (by kernel_rfl) (zb rfl)))
    (sc rfl ((zp rfl (by kernel_rfl) (zb rfl)))
    (sc rfl ((zo (l:=[.tmp 28]) rfl (by kernel_rfl) (.cons (zb rfl) .nil) (Zp _ (by have:=hs.1;unfold mid;omega))))
    (sc rfl ((zj rfl (zb rfl)))
    (.cons rfl (by decide) (.guarded rfl rfl (by decide) rfl zA (λ hg=>zv Stmt.fld2 rfl (by kernel_rfl) (zb rfl)))
    (.cons rfl (by decide) (.guarded rfl rfl (by decide) rfl zA (λ hg=>zp rfl (by kernel_rfl) (ze hg rfl)))
    (.cons rfl (by decide) (.guarded rfl rfl (by decide) rfl zA (λ hg=>zo (l:=[.tmp 32,.const (.int .i64 0),.const (.int .i64 3)]) rfl (by kernel_rfl) (.cons (ze hg rfl) (.cons z7 (.cons z7 .nil))) (jN _ _ _)))
    (sc rfl ((yK rfl (zb rfl) (zb rfl)))
    (sc rfl ((zj rfl (zb rfl)))
    (.cons rfl (by decide) (.guarded rfl rfl (by decide) rfl zA (λ hg=>zv Stmt.fld1 rfl (by kernel_rfl) (zb rfl)))
    (.cons rfl (by decide) (.guarded rfl rfl (by decide) rfl zA (λ hg=>zp rfl (by kernel_rfl) (ze hg rfl)))
    (.cons rfl (by decide) (.guarded rfl rfl (by decide) rfl zA (λ hg=>Wv rfl (ze hg rfl) (zQ (by decide))))
    (.cons rfl (by decide) (.guarded rfl rfl (by decide) rfl zA (λ hg=>zj rfl (ze hg rfl)))
    (.cons rfl (by decide) (.guarded2 rfl rfl (by decide) rfl zA (λ hg=>zv Stmt.fld2 rfl (by kernel_rfl) (zb rfl)))
    (.cons rfl (by decide) (.guarded2 rfl rfl (by decide) rfl zA (λ hg=>zp rfl (by kernel_rfl) (ze hg rfl)))
    (.cons rfl (by decide) (.guarded2 rfl rfl (by decide) rfl zA (λ hg=>wK rfl (by decide) (ze hg rfl) z7))
    (.cons rfl (by decide) (.guarded rfl rfl (by decide) rfl zA (λ hg=>yU rfl (ze hg rfl) (zax hg rfl)))
    (sc rfl ((yK rfl (zb rfl) (zb rfl)))
    (sc rfl ((zj rfl (zb rfl)))
    (.cons rfl (by decide) (.guarded rfl rfl (by decide) rfl zA (λ hg=>zv Stmt.fld3 rfl (by kernel_rfl) (zb rfl)))
    (.cons rfl (by decide) (.guarded rfl rfl (by decide) rfl zA (λ hg=>zp rfl (by kernel_rfl) (ze hg rfl)))
    (.cons rfl (by decide) (.guarded rfl rfl (by decide) rfl zA (λ hg=>zo (l:=[.tmp 47]) rfl (by kernel_rfl) (.cons (ze hg rfl) .nil) (jX _)))
    (sc rfl ((yK rfl (zb rfl) (zb rfl)))
    (sc rfl ((zj rfl (zb rfl)))
    (.cons rfl (by decide) (.guarded rfl rfl (by decide) rfl zA (λ hg=>zv Stmt.fld4 rfl (by kernel_rfl) (zb rfl)))
    (.cons rfl (by decide) (.guarded rfl rfl (by decide) rfl zA (λ hg=>zp rfl (by kernel_rfl) (ze hg rfl)))
    (.cons rfl (by decide) (.guarded rfl rfl (by decide) rfl zA (λ hg=>wK rfl (by decide) (ze hg rfl) z7))
    (sc rfl ((yK rfl (zb rfl) (zb rfl)))
    (sc rfl ((zI rfl (zb rfl)))
    .nil))))))))))))))))))))))))))))) [0,1,2,4,5,25] (λ _ _ _ st6=>?_)
   refine za ?_;refine wp_ret (zt (zd ?_));refine yu rfl (λ _ h=>h) st6 (t:=2) rfl ?_;rw[xJ,if_neg (by rw[k0];decide),if_pos k1]
  ·
   have k1:=h2;refine wp_seq ?_;refine zn st5 [0,1,2,4,5,25,55] (λ _ _ _ st7=>?_);refine za ?_;refine zP (c:=55) st7 rfl (λ h3=>?_) (λ h3=>?_)
   ·
    have k2:=h3;refine wp_seq ?_;refine zw st7 (sc rfl ((zv Stmt.fld1 rfl (by kernel_rfl) (zb rfl)))
     (sc rfl ((zp rfl (by kernel_rfl) (zb rfl)))
     (sc rfl ((zo (l:=[.tmp 58]) rfl (by kernel_rfl) (.cons (zb rfl) .nil) (jY _ (by have:=hs.1;unfold mid;omega))))
     (sc rfl ((zj rfl (zb rfl)))
     (.cons rfl (by decide) (.guarded rfl rfl (by decide) rfl zA (λ hg=>zv Stmt.fld2 rfl (by kernel_rfl) (zb rfl)))
     (.cons rfl (by decide) (.guarded rfl rfl (by decide) rfl zA (λ hg=>zp rfl (by kernel_rfl) (ze hg rfl)))
     (.cons rfl (by decide) (.guarded rfl rfl (by decide) rfl zA (λ hg=>wK rfl (by decide) (ze hg rfl) z7))
     (sc rfl ((yK rfl (zb rfl) (zb rfl)))
     (sc rfl ((zj rfl (zb rfl)))
     (.cons rfl (by decide) (.guarded rfl rfl (by decide) rfl zA (λ hg=>zv Stmt.fld3 rfl (by kernel_rfl) (zb rfl)))
     (.cons rfl (by decide) (.guarded rfl rfl (by decide) rfl zA (λ hg=>zp rfl (by kernel_rfl) (ze hg rfl)))
     (.cons rfl (by decide) (.guarded rfl rfl (by decide) rfl zA (λ hg=>Zd rfl (ze hg rfl) (zQ (by decide))))
     (sc rfl ((yK rfl (zb rfl) (zb rfl)))
     (sc rfl ((zj rfl (zb rfl)))
     (.cons rfl (by decide) (.guarded rfl rfl (by decide) rfl zA (λ hg=>zv Stmt.fld4 rfl (by kernel_rfl) (zb rfl)))
     (.cons rfl (by decide) (.guarded rfl rfl (by decide) rfl zA (λ hg=>zp rfl (by kernel_rfl) (ze hg rfl)))
     (.cons rfl (by decide) (.guarded rfl rfl (by decide) rfl zA (λ hg=>wK rfl (by decide) (ze hg rfl) z7))
     (sc rfl ((yK rfl (zb rfl) (zb rfl)))
     (sc rfl ((zI rfl (zb rfl)))
     .nil))))))))))))))))))) [0,1,2,4,5,25,55] (λ _ _ _ st8=>?_)
    refine za ?_;refine wp_ret (zt (zd ?_));refine yu rfl (λ _ h=>h) st8 (t:=2) rfl ?_;rw[xJ,if_neg (by rw[k0];decide),if_neg (by rw[k1];decide),if_pos k2]
   ·
    have k2:=h3;refine wp_seq ?_;refine zn st7 [0,1,2,4,5,25,55,75] (λ _ _ _ st9=>?_);refine za ?_;refine zP (c:=75) st9 rfl (λ h4=>?_) (λ h4=>?_)
    ·
     have k3:=h4;refine wp_seq ?_;refine zw st9 (sc rfl ((zv Stmt.fld1 rfl (by kernel_rfl) (zb rfl)))
      (sc rfl ((zp rfl (by kernel_rfl) (zb rfl)))
      (sc rfl ((Zd rfl (zb rfl) (zQ (by decide))))
      (sc rfl ((zj rfl (zb rfl)))
      (.cons rfl (by decide) (.guarded rfl rfl (by decide) rfl zA (λ hg=>zv Stmt.fld2 rfl (by kernel_rfl) (zb rfl)))
      (.cons rfl (by decide) (.guarded rfl rfl (by decide) rfl zA (λ hg=>zp rfl (by kernel_rfl) (ze hg rfl)))
      (.cons rfl (by decide) (.guarded rfl rfl (by decide) rfl zA (λ hg=>wK rfl (by decide) (ze hg rfl) z7))
      (sc rfl ((yK rfl (zb rfl) (zb rfl)))
      (sc rfl ((zj rfl (zb rfl)))
      (.cons rfl (by decide) (.guarded rfl rfl (by decide) rfl zA (λ hg=>zv Stmt.fld3 rfl (by kernel_rfl) (zb rfl)))
      (.cons rfl (by decide) (.guarded rfl rfl (by decide) rfl zA (λ hg=>zp rfl (by kernel_rfl) (ze hg rfl)))
      (.cons rfl (by decide) (.guarded rfl rfl (by decide) rfl zA (λ hg=>zo (l:=[.tmp 87]) rfl (by kernel_rfl) (.cons (ze hg rfl) .nil) (jX _)))
      (sc rfl ((yK rfl (zb rfl) (zb rfl)))
      (sc rfl ((zj rfl (zb rfl)))
      (.cons rfl (by decide) (.guarded rfl rfl (by decide) rfl zA (λ hg=>zv Stmt.fld4 rfl (by kernel_rfl) (zb rfl)))
      (.cons rfl (by decide) (.guarded rfl rfl (by decide) rfl zA (λ hg=>zp rfl (by kernel_rfl) (ze hg rfl)))
      (.cons rfl (by decide) (.guarded rfl rfl (by decide) rfl zA (λ hg=>zo (l:=[.tmp 92,.const (.int .i64 0),.const (.int .i64 99)]) rfl (by kernel_rfl) (.cons (ze hg rfl) (.cons z7 (.cons z7 .nil))) (jN _ _ _)))
      (sc rfl ((yK rfl (zb rfl) (zb rfl)))
      (sc rfl ((zI rfl (zb rfl)))
      .nil))))))))))))))))))) [0,1,2,4,5,25,55,75] (λ _ _ _ st10=>?_)
     refine za ?_;refine wp_ret (zt (zd ?_));refine yu rfl (λ _ h=>h) st10 (t:=2) rfl ?_;rw[xJ,if_neg (by rw[k0];decide),if_neg (by rw[k1];decide),if_neg (by rw[k2];decide),if_pos k3]
    ·
     have k3:=h4;refine wp_seq ?_;refine zn st9 [0,1,2,4,5,25,55,75,95] (λ _ _ _ st11=>?_);refine za ?_;refine zP (c:=95) st11 rfl (λ h5=>?_) (λ h5=>?_)
     ·
      have k4:=h5;refine wp_seq ?_;refine zw st11 (sc rfl ((zv Stmt.fld1 rfl (by kernel_rfl) (zb rfl)))
       (sc rfl ((zp rfl (by kernel_rfl) (zb rfl)))
       (sc rfl ((Zd rfl (zb rfl) (zQ (by decide))))
       (sc rfl ((zj rfl (zb rfl)))
       (.cons rfl (by decide) (.guarded rfl rfl (by decide) rfl zA (λ hg=>zv Stmt.fld2 rfl (by kernel_rfl) (zb rfl)))
       (.cons rfl (by decide) (.guarded rfl rfl (by decide) rfl zA (λ hg=>zp rfl (by kernel_rfl) (ze hg rfl)))
       (.cons rfl (by decide) (.guarded rfl rfl (by decide) rfl zA (λ hg=>wK rfl (by decide) (ze hg rfl) z7))
       (sc rfl ((yK rfl (zb rfl) (zb rfl)))
       (sc rfl ((zj rfl (zb rfl)))
       (.cons rfl (by decide) (.guarded rfl rfl (by decide) rfl zA (λ hg=>zv Stmt.fld3 rfl (by kernel_rfl) (zb rfl)))
       (.cons rfl (by decide) (.guarded rfl rfl (by decide) rfl zA (λ hg=>zp rfl (by kernel_rfl) (ze hg rfl)))
       (.cons rfl (by decide) (.guarded rfl rfl (by decide) rfl zA (λ hg=>zo (l:=[.tmp 107]) rfl (by kernel_rfl) (.cons (ze hg rfl) .nil) (jX _)))
       (sc rfl ((yK rfl (zb rfl) (zb rfl)))
       (sc rfl ((zj rfl (zb rfl)))
       (.cons rfl (by decide) (.guarded rfl rfl (by decide) rfl zA (λ hg=>zv Stmt.fld4 rfl (by kernel_rfl) (zb rfl)))
       (.cons rfl (by decide) (.guarded rfl rfl (by decide) rfl zA (λ hg=>zp rfl (by kernel_rfl) (ze hg rfl)))
       (.cons rfl (by decide) (.guarded rfl rfl (by decide) rfl zA (λ hg=>wK rfl (by decide) (ze hg rfl) z7))
       (sc rfl ((yK rfl (zb rfl) (zb rfl)))
       (sc rfl ((zI rfl (zb rfl)))
       .nil))))))))))))))))))) [0,1,2,4,5,25,55,75,95] (λ _ _ _ st12=>?_)
      refine za ?_;refine wp_ret (zt (zd ?_));refine yu rfl (λ _ h=>h) st12 (t:=2) rfl ?_;rw[xJ,if_neg (by rw[k0];decide),if_neg (by rw[k1];decide),if_neg (by rw[k2];decide),if_neg (by rw[k3];decide),if_pos k4]
     ·
      have k4:=h5;refine wp_seq ?_;refine zn st11 [0,1,2,4,5,25,55,75,95,115] (λ _ _ _ st13=>?_);refine za ?_;refine zP (c:=115) st13 rfl (λ h6=>?_) (λ h6=>?_)
      ·
       have k5:=h6;refine wp_seq ?_;refine zw st13 (sc rfl ((zp rfl (by kernel_rfl) (zb rfl)))
        (sc rfl ((yw (parts:=[(0,.const (.int .i64 5))]) (ns:=[1,1,1,1,1]) (zs:=[[.int .i64 0],[.string ⟨⟨[]⟩⟩],[.int .i64 0],[.string ⟨⟨[]⟩⟩],[.int .i64 0]]) rfl rfl (by kernel_rfl) (by kernel_rfl) (λ w a hl=>by
    intro p hp;simp only[List.mem_cons,List.not_mem_nil,or_false] at hp;rcases hp with rfl
    ·
     exact
        ⟨by decide,rfl⟩) (λ w a hl=>Stmt.parts (x:=⟨5,⟨[]⟩,0,⟨[]⟩,0⟩) (OpdR.cells z7 hl) qn ⟨rfl,trivial⟩ qn ⟨rfl,trivial⟩)))
        (sc rfl ((Wb rfl (by kernel_rfl) (zb rfl) (zb rfl)))
        (sc rfl ((zI rfl (zb rfl)))
        .nil)))) [0,1,2,4,5,25,55,75,95,115] (λ _ _ _ st14=>?_)
       refine za ?_;refine wp_ret (zt (zd ?_));refine yu rfl (λ _ h=>h) st14 (t:=2) rfl ?_;rw[xJ,if_neg (by rw[k0];decide),if_neg (by rw[k1];decide),if_neg (by rw[k2];decide),if_neg (by rw[k3];decide),if_neg (by rw[k4];decide),if_pos k5]
      ·
       have k5:=h6;refine wp_skip (zg (za (wp_seq ?_)));refine zn st13 [0,1,2,4,5,25,55,75,95,115] (λ _ _ _ st15=>?_);refine za (wp_ret ?_);refine yu rfl (λ _ h=>h) st15 (t:=2) rfl ?_;rw[xJ,if_neg (by rw[k0];decide),if_neg (by rw[k1];decide),if_neg (by rw[k2];decide),if_neg (by rw[k3];decide),if_neg (by rw[k4];decide),if_neg (by rw[k5];decide)]
theorem QS(b:List Stmt)(hb:b.length<=1048576/\∀ s∈b,smStmt s):Fn Tryz.prog 161 [dt b] (dt (ZB b)):=by
 refine xf (fn:=Tryz.f161) Tryz.func161 rfl (oD rfl) (λ M w0 _ hm st0=>?_);have hlen:=hb.1;refine wp_seq ?_;refine zn st0 [0,2] (λ _ _ _ st1=>?_);refine za (wp_seq (wp_seq ?_));refine zn st1 [0,2,3] (λ _ _ _ st2=>?_);refine za (wp_block ?_);refine Zf (ι:=Nat) (λ k a w=>St (Frm.of w0) 19 M [(0,dt b),(3,dt (k:Int))] a w/\k<=b.length/\(b.take k).all xJ=true) (λ k=>b.length - k) 0 ?_ ?_
 ·
  exact⟨st2.pick (kc 0 rfl (kc 3 rfl .nil)),Nat.zero_le _,by simp⟩
 ·
  rintro k a3 w3 ⟨st3,hk,hp⟩
  refine wp_seq (wp_seq ?_);refine zn st3 [0,3,7] (λ _ _ _ st4=>?_);refine za ?_;refine zP (c:=7) st4 rfl (λ h1=>?_) (λ h1=>?_)
  ·
   obtain⟨x,hx⟩:=XU h1;have hlt:=yg hx;refine wp_skip (za (wp_seq (wp_block (wp_seq ?_))));refine zw st4 (sc rfl ((zj rfl (zb rfl)))
    (sc rfl ((zj rfl (zb rfl)))
    (sc rfl ((ws rfl (by kernel_rfl) (zb rfl) (zb rfl) rfl (by assumption)))
    (sc rfl ((zp rfl (by kernel_rfl) (zb rfl)))
    (sc rfl ((zo (l:=[.tmp 13]) rfl (by kernel_rfl) (.cons (zb rfl) .nil) (QR _ (hb.2 _ (List.mem_of_getElem? hx)))))
    (sc rfl ((yE rfl (zb rfl)))
    .nil)))))) [0,3,7,15] (λ _ _ _ st5=>?_)
   refine za ?_;refine zP (c:=15) st5 rfl (λ h2=>?_) (λ h2=>?_)
   ·
    have ht:=h2;refine wp_seq ?_;refine zn st5 [0,2,3,7,15] (λ _ _ _ st6=>?_);refine za ?_;refine wp_ret (zt (zd (zd (zt (zd ?_)))));refine yu rfl (λ _ h=>h) st6 (t:=2) rfl ?_;unfold ZB;rw[all_fail hx (by simpa using ht)];rfl
   ·
    have hf:=h2;refine wp_skip (zg (za ?_));refine zw st5 (sc rfl ((zj rfl (zb rfl)))
     (sc rfl ((qN rfl (by decide) (zb rfl) z7 (by simp only[arI];omega)))
     (sc rfl ((zI rfl (zb rfl)))
     .nil))) [0,3,7,15] (λ _ _ _ st7=>?_)
    refine za ⟨k+1,⟨st7.pick (kc 0 rfl (kc 3 rfl .nil)),by omega,all_next hx hp (by simpa using hf)⟩,by omega⟩
  ·
   have hend:=XV h1;refine wp_exit (zh (zh (zE ?_)));refine za (wp_seq ?_);refine zn st4 [0,2,3,7] (λ _ _ _ st8=>?_);refine za (wp_ret ?_);refine yu rfl (λ _ h=>h) st8 (t:=2) rfl ?_;unfold ZB;rw[all_end hend hp];rfl
theorem QT(f:File)(hf:smFile f):Fn Tryz.prog 132 [dt f] (dt (yC f)):=by
 refine xf (fn:=Tryz.f132) Tryz.func132 rfl (oD rfl) (λ M _ _ hm st0=>?_);refine wp_seq ?_;refine zw st0 (sc rfl ((Y6 rfl (zb rfl)))
  (sc rfl ((zI rfl X8))
  .nil)) [0,1,2] (λ _ _ _ st1=>?_)
 refine za (wp_seq (wp_seq ?_));refine zw st1 (sc rfl ((zv File.fld0 rfl (by kernel_rfl) (zb rfl)))
  (sc rfl ((zp rfl (by kernel_rfl) (zb rfl)))
  (sc rfl ((zo (l:=[.tmp 4,.const (.int .i64 0),.const (.int .i64 2)]) rfl (by kernel_rfl) (.cons (zb rfl) (.cons z7 (.cons z7 .nil))) (jN _ _ _)))
  (sc rfl ((yE rfl (zb rfl)))
  (sc rfl ((zj rfl (zb rfl)))
  (.cons rfl (by decide) (.guarded rfl rfl (by decide) rfl zA (λ hg=>zv File.fld4 rfl (by kernel_rfl) (zb rfl)))
  (.cons rfl (by decide) (.guarded rfl rfl (by decide) rfl zA (λ hg=>zp rfl (by kernel_rfl) (ze hg rfl)))
  (.cons rfl (by decide) (.guarded rfl rfl (by decide) rfl zA (λ hg=>zo (l:=[.tmp 9,.const (.int .i64 0),.const (.int .i64 99)]) rfl (by kernel_rfl) (.cons (ze hg rfl) (.cons z7 (.cons z7 .nil))) (jN _ _ _)))
  (.cons rfl (by decide) (.guarded rfl rfl (by decide) rfl zA (λ hg=>yE rfl (ze hg rfl)))
  (sc rfl ((yU rfl (zb rfl) (zb rfl)))
  (sc rfl ((zj rfl (zb rfl)))
  (.cons rfl (by decide) (.guarded rfl rfl (by decide) rfl zA (λ hg=>zv File.fld1 rfl (by kernel_rfl) (zb rfl)))
  (.cons rfl (by decide) (.guarded rfl rfl (by decide) rfl zA (λ hg=>zp rfl (by kernel_rfl) (ze hg rfl)))
  (.cons rfl (by decide) (.guarded rfl rfl (by decide) rfl zA (λ hg=>zo (l:=[.tmp 15]) rfl (by kernel_rfl) (.cons (ze hg rfl) .nil) (Zp _ (by have:=hf.1;unfold mid;omega))))
  (.cons rfl (by decide) (.guarded rfl rfl (by decide) rfl zA (λ hg=>yE rfl (ze hg rfl)))
  (sc rfl ((yU rfl (zb rfl) (zb rfl)))
  (sc rfl ((zj rfl (zb rfl)))
  (.cons rfl (by decide) (.guarded rfl rfl (by decide) rfl zA (λ hg=>zv File.fld5 rfl (by kernel_rfl) (zb rfl)))
  (.cons rfl (by decide) (.guarded rfl rfl (by decide) rfl zA (λ hg=>zp rfl (by kernel_rfl) (ze hg rfl)))
  (.cons rfl (by decide) (.guarded rfl rfl (by decide) rfl zA (λ hg=>zo (l:=[.tmp 21]) rfl (by kernel_rfl) (.cons (ze hg rfl) .nil) (QS _ ⟨hf.2.2.1,hf.2.2.2⟩)))
  (.cons rfl (by decide) (.guarded rfl rfl (by decide) rfl zA (λ hg=>yE rfl (ze hg rfl)))
  (sc rfl ((yU rfl (zb rfl) (zb rfl)))
  .nil)))))))))))))))))))))) [0,1,2,24] (λ _ _ _ st2=>?_)
 refine za ?_;refine zP (c:=24) st2 rfl (λ h1=>?_) (λ h1=>?_)
 ·
  have g1:=h1;refine wp_seq ?_;refine zn st2 [0,1,2,24] (λ _ _ _ st3=>?_);refine za ?_;refine wp_ret (zd ?_);refine yu rfl (λ _ h=>h) st3 (t:=2) rfl ?_;rw[yC,if_pos g1]
 ·
  have g1:=h1;refine wp_skip (za (wp_seq (wp_seq ?_)));refine zn st2 [0,1,2,24,26] (λ _ _ _ st4=>?_);refine za ?_;refine zP (c:=26) st4 rfl (λ h2=>?_) (λ h2=>?_)
  ·
   have g2:=h2;refine wp_seq ?_;refine zw st4 (sc rfl ((zv File.fld1 rfl (by kernel_rfl) (zb rfl)))
    (sc rfl ((zp rfl (by kernel_rfl) (zb rfl)))
    (sc rfl ((Wv rfl (zb rfl) (zQ (by decide))))
    (sc rfl ((zj rfl (zb rfl)))
    (.cons rfl (by decide) (.guarded rfl rfl (by decide) rfl zA (λ hg=>zv File.fld2 rfl (by kernel_rfl) (zb rfl)))
    (.cons rfl (by decide) (.guarded rfl rfl (by decide) rfl zA (λ hg=>zp rfl (by kernel_rfl) (ze hg rfl)))
    (.cons rfl (by decide) (.guarded rfl rfl (by decide) rfl zA (λ hg=>Zd rfl (ze hg rfl) (zQ (by decide))))
    (sc rfl ((yK rfl (zb rfl) (zb rfl)))
    (sc rfl ((zI rfl (zb rfl)))
    .nil))))))))) [0,1,2,24,26] (λ _ _ _ st5=>?_)
   refine za ?_;refine wp_ret (zd ?_);refine yu rfl (λ _ h=>h) st5 (t:=2) rfl ?_;rw[yC,if_neg (by rw[g1];decide),if_pos g2];rfl
  ·
   have g2:=h2;refine wp_skip (za (wp_seq ?_));refine zw st4 (sc rfl ((zv File.fld2 rfl (by kernel_rfl) (zb rfl)))
    (sc rfl ((zp rfl (by kernel_rfl) (zb rfl)))
    (sc rfl ((zo (l:=[.tmp 36]) rfl (by kernel_rfl) (.cons (zb rfl) .nil) (jX _)))
    (sc rfl ((zj rfl (zb rfl)))
    (.cons rfl (by decide) (.guarded rfl rfl (by decide) rfl zA (λ hg=>zv File.fld1 rfl (by kernel_rfl) (zb rfl)))
    (.cons rfl (by decide) (.guarded rfl rfl (by decide) rfl zA (λ hg=>zp rfl (by kernel_rfl) (ze hg rfl)))
    (.cons rfl (by decide) (.guarded rfl rfl (by decide) rfl zA (λ hg=>zv File.fld2 rfl (by kernel_rfl) (zb rfl)))
    (.cons rfl (by decide) (.guarded rfl rfl (by decide) rfl zA (λ hg=>zp rfl (by kernel_rfl) (ze hg rfl)))
    (.cons rfl (by decide) (.guarded rfl rfl (by decide) rfl zA (λ hg=>zo (l:=[.tmp 40,.tmp 42]) rfl (by kernel_rfl) (.cons (ze hg rfl) (.cons (ze hg rfl) .nil)) (XZ _ _ (by have:=hf.1;have:=hf.2.1;omega))))
    (.cons rfl (by decide) (.guarded rfl rfl (by decide) rfl zA (λ hg=>zo (l:=[.tmp 43]) rfl (by kernel_rfl) (.cons (ze hg rfl) .nil) (jY _ (child_mid (by have:=hf.1;have:=hf.2.1;omega)))))
    (sc rfl ((yK rfl (zb rfl) (zb rfl)))
    (sc rfl ((zI rfl (zb rfl)))
    .nil)))))))))))) [0,1,2,24,26] (λ _ _ _ st6=>?_)
   refine za (wp_ret ?_);refine yu rfl (λ _ h=>h) st6 (t:=2) rfl ?_;rw[yC,if_neg (by rw[g1];decide),if_neg (by rw[g2];decide)]
theorem zaF(f g:File):Fn Tryz.prog 162 [dt f,dt g] (dt (xq f g)):=by
 refine xf (fn:=Tryz.f162) Tryz.func162 rfl (oD rfl) (λ M _ _ hm st0=>?_);refine wp_seq ?_;refine zw st0 (sc rfl ((Y6 rfl (zb rfl)))
  (sc rfl ((Y6 rfl (zb rfl)))
  (sc rfl ((zI rfl X8))
  .nil))) [0,1,2,3,4] (λ _ _ _ st1=>?_)
 refine za (wp_seq ?_);refine zw st1 (sc rfl ((zv File.fld0 rfl (by kernel_rfl) (zb rfl)))
  (sc rfl ((zp rfl (by kernel_rfl) (zb rfl)))
  (sc rfl ((zv File.fld0 rfl (by kernel_rfl) (zb rfl)))
  (sc rfl ((zp rfl (by kernel_rfl) (zb rfl)))
  (sc rfl ((wK rfl (by decide) (zb rfl) (zb rfl)))
  (sc rfl ((zj rfl (zb rfl)))
  (.cons rfl (by decide) (.guarded rfl rfl (by decide) rfl zA (λ hg=>zv File.fld1 rfl (by kernel_rfl) (zb rfl)))
  (.cons rfl (by decide) (.guarded rfl rfl (by decide) rfl zA (λ hg=>zp rfl (by kernel_rfl) (ze hg rfl)))
  (.cons rfl (by decide) (.guarded rfl rfl (by decide) rfl zA (λ hg=>zv File.fld1 rfl (by kernel_rfl) (zb rfl)))
  (.cons rfl (by decide) (.guarded rfl rfl (by decide) rfl zA (λ hg=>zp rfl (by kernel_rfl) (ze hg rfl)))
  (.cons rfl (by decide) (.guarded rfl rfl (by decide) rfl zA (λ hg=>Zd rfl (ze hg rfl) (ze hg rfl)))
  (sc rfl ((yK rfl (zb rfl) (zb rfl)))
  (sc rfl ((zj rfl (zb rfl)))
  (.cons rfl (by decide) (.guarded rfl rfl (by decide) rfl zA (λ hg=>zv File.fld3 rfl (by kernel_rfl) (zb rfl)))
  (.cons rfl (by decide) (.guarded rfl rfl (by decide) rfl zA (λ hg=>zp rfl (by kernel_rfl) (ze hg rfl)))
  (.cons rfl (by decide) (.guarded rfl rfl (by decide) rfl zA (λ hg=>zv File.fld3 rfl (by kernel_rfl) (zb rfl)))
  (.cons rfl (by decide) (.guarded rfl rfl (by decide) rfl zA (λ hg=>zp rfl (by kernel_rfl) (ze hg rfl)))
  (.cons rfl (by decide) (.guarded rfl rfl (by decide) rfl zA (λ hg=>op_eqT rfl (by kernel_rfl) (ze hg rfl) (ze hg rfl)))
  (sc rfl ((yK rfl (zb rfl) (zb rfl)))
  (sc rfl ((zj rfl (zb rfl)))
  (.cons rfl (by decide) (.guarded rfl rfl (by decide) rfl zA (λ hg=>zv File.fld2 rfl (by kernel_rfl) (zb rfl)))
  (.cons rfl (by decide) (.guarded rfl rfl (by decide) rfl zA (λ hg=>zp rfl (by kernel_rfl) (ze hg rfl)))
  (.cons rfl (by decide) (.guarded rfl rfl (by decide) rfl zA (λ hg=>zv File.fld2 rfl (by kernel_rfl) (zb rfl)))
  (.cons rfl (by decide) (.guarded rfl rfl (by decide) rfl zA (λ hg=>zp rfl (by kernel_rfl) (ze hg rfl)))
  (.cons rfl (by decide) (.guarded rfl rfl (by decide) rfl zA (λ hg=>Zd rfl (ze hg rfl) (ze hg rfl)))
  (sc rfl ((yK rfl (zb rfl) (zb rfl)))
  (sc rfl ((zI rfl (zb rfl)))
  .nil))))))))))))))))))))))))))) [0,1,2,3,4] (λ _ _ _ st2=>?_)
 refine za (wp_ret ?_);refine yu rfl (λ _ h=>h) st2 (t:=4) rfl ?_;simp[xq,cmpI]
theorem Je(t:Tree)(f:File):Fn Tryz.prog 133 [dt t,dt f] (dt (yh t.files f)):=by
 refine xf (fn:=Tryz.f133) Tryz.func133 rfl (oD rfl) (λ M w0 _ hm st0=>?_);have hlen:=st0.fldL Tree.fld0 (s:=0) rfl;refine wp_seq ?_;refine Xs st0 (sc rfl ((Y6 rfl (zb rfl)))
  (sc rfl ((Y6 rfl (zb rfl)))
  (sc rfl ((zI rfl z7))
  .nil)))
  (kc 0 rfl (kc 1 rfl (kc 2 rfl (kc 3 rfl (kc 4 rfl .nil))))) (λ _ _ _ st1=>?_)
 refine za (wp_seq (wp_seq ?_));refine Xs st1 (sc rfl ((zI rfl z7))
  .nil)
  (kc 0 rfl (kc 1 rfl (kc 2 rfl (kc 3 rfl (kc 4 rfl (kc 5 rfl .nil)))))) (λ _ _ _ st2=>?_)
 refine za (wp_block ?_);refine Zf (ι:=Nat) (λ k a w=>St (Frm.of w0) 21 M [(0,dt t),(1,dt f),(2,dptr t),(3,dptr f),(5,dt (k:Int))] a w/\k<=t.files.length/\(t.files.take k).any (λ x=>xq x f)=false) (λ k=>t.files.length - k) 0 ?_ ?_
 ·
  exact⟨st2.pick (kc 0 rfl (kc 1 rfl (kc 2 rfl (kc 3 rfl (kc 5 rfl .nil))))),Nat.zero_le _,by simp⟩
 ·
  rintro k a3 w3 ⟨st3,hk,hp⟩
  refine wp_seq (wp_seq ?_);refine Xs st3 (sc rfl ((zj rfl (zb rfl)))
   (sc rfl ((zv Tree.fld0 rfl (by kernel_rfl) (zb rfl)))
   (sc rfl ((zp rfl (by kernel_rfl) (zb rfl)))
   (sc rfl ((jJ rfl (by kernel_rfl) (zb rfl)))
   (sc rfl ((wK rfl (by decide) (zb rfl) (zb rfl)))
   .nil)))))
   (kc 0 rfl (kc 1 rfl (kc 2 rfl (kc 3 rfl (kc 5 rfl (kc 10 rfl .nil)))))) (λ _ _ _ st4=>?_)
  refine za ?_;refine zP (c:=10) st4 rfl (λ h1=>?_) (λ h1=>?_)
  ·
   obtain⟨x,hx⟩:=XU h1;have hlt:=yg hx;refine wp_skip (za (wp_seq (wp_block (wp_seq ?_))));refine Qf zD [[],[0],[],[0,1,2],[0,1,2,3],[],[0,1,2,3,4,5]] [[(2,nS)],[(13,0)],[(5,nS)],[(14,1),(15,2)],[(16,3)],[(3,nS)],[(17,4),(18,5)]] (by decide +kernel) st4 (D:=[_,_,_,_,_,_,_])
    (.cons rfl (by decide) rfl (.plain rfl (zv Tree.fld0 rfl (by kernel_rfl) (zb rfl)))
    (.cons rfl (by decide) rfl (.plain rfl (zp rfl (by kernel_rfl) (zb rfl)))
    (.cons rfl (by decide) rfl (.plain rfl (zj rfl (zb rfl)))
    (.cons rfl (by decide) rfl (.plain rfl (ws rfl (by kernel_rfl) (zb rfl) (zb rfl) rfl (by assumption)))
    (.cons rfl (by decide) rfl (.plain rfl (zp rfl (by kernel_rfl) (zb rfl)))
    (.cons rfl (by decide) rfl (.plain rfl (zp rfl (by kernel_rfl) (zb rfl)))
    (.cons rfl (by decide) rfl (.plain rfl (zo (l:=[.tmp 17,.tmp 18]) rfl (by kernel_rfl) (.cons (zb rfl) (.cons (zb rfl) .nil)) (zaF _ _)))
    .nil)))))))
    (kc 0 rfl (kc 1 rfl (kc 2 rfl (kc 3 rfl (kc 5 rfl (kc 10 rfl (kc 19 rfl .nil))))))) (λ _ _ _ st5=>?_)
   refine za ?_;refine zP (c:=19) st5 rfl (λ h2=>?_) (λ h2=>?_)
   ·
    have ht:=h2;refine wp_seq ?_;refine zn st5 [0,1,2,3,4,5,10,19] (λ _ _ _ st6=>?_);refine za ?_;refine wp_ret (zt (zd (zd (zt (zd ?_)))));refine yu rfl (λ _ h=>h) st6 (t:=4) rfl ?_;exact(idx_hit hp hx ht).symm
   ·
    have hf:=h2;refine wp_skip (zg (za ?_));refine zw st5 (sc rfl ((zj rfl (zb rfl)))
     (sc rfl ((qN rfl (by decide) (zb rfl) z7 (by simp only[arI];omega)))
     (sc rfl ((zI rfl (zb rfl)))
     .nil))) [0,1,2,3,5,10,19] (λ _ _ _ st7=>?_)
    refine za ⟨k+1,⟨st7.pick (kc 0 rfl (kc 1 rfl (kc 2 rfl (kc 3 rfl (kc 5 rfl .nil))))),by omega,QI hx hp hf⟩,by omega⟩
  ·
   have hend:=XV h1;refine wp_exit (zh (zh (zE ?_)));refine za (wp_seq ?_);refine zn st4 [0,1,2,3,4,5,10] (λ _ _ _ st8=>?_);refine za (wp_ret ?_);refine yu rfl (λ _ h=>h) st8 (t:=4) rfl ?_;exact(idx_end hend hp).symm
theorem spec_intAt_ok(l:List Int)(n:Int):Fn Tryz.prog 94 [dt l,dt n] (dt (intAt l n)):=by
 refine xf (fn:=Tryz.f94) Tryz.func94 rfl (oD rfl) (λ M w0 _ hm st0=>?_);have hlen:=st0.lenL (s:=0) rfl;refine wp_seq ?_;refine zn st0 [0,1,4] (λ _ _ _ st1=>?_);refine za (wp_seq (wp_seq ?_));refine zn st1 [0,1,4,5] (λ _ _ _ st2=>?_);refine za (wp_block ?_);refine Zf (ι:=Nat) (λ k a w=>St (Frm.of w0) 19 M [(0,dt l),(1,dt n),(5,dt (k:Int))] a w/\k<=l.length/\(l.take k).any (λ x=>x == n)=false) (λ k=>l.length - k) 0 ?_ ?_
 ·
  exact⟨st2.pick (kc 0 rfl (kc 1 rfl (kc 5 rfl .nil))),Nat.zero_le _,by simp⟩
 ·
  rintro k a3 w3 ⟨st3,hk,hp⟩
  refine wp_seq (wp_seq ?_);refine zn st3 [0,1,5,9] (λ _ _ _ st4=>?_);refine za ?_;refine zP (c:=9) st4 rfl (λ h1=>?_) (λ h1=>?_)
  ·
   obtain⟨x,hx⟩:=XU h1;have hlt:=yg hx;refine wp_skip (za (wp_seq (wp_block (wp_seq ?_))));refine zw st4 (sc rfl ((zj rfl (zb rfl)))
    (sc rfl ((zj rfl (zb rfl)))
    (sc rfl ((ws rfl (by kernel_rfl) (zb rfl) (zb rfl) rfl (by assumption)))
    (sc rfl ((zp rfl (by kernel_rfl) (zb rfl)))
    (sc rfl ((zj rfl (zb rfl)))
    (sc rfl ((wK rfl (by decide) (zb rfl) (zb rfl)))
    .nil)))))) [0,1,5,9,17] (λ _ _ _ st5=>?_)
   refine za ?_;refine zP (c:=17) st5 rfl (λ h2=>?_) (λ h2=>?_)
   ·
    have ht:=h2;refine wp_seq ?_;refine zn st5 [0,1,4,5,9,17] (λ _ _ _ st6=>?_);refine za ?_;refine wp_ret (zt (zd (zd (zt (zd ?_)))));refine yu rfl (λ _ h=>h) st6 (t:=4) rfl ?_;exact(idx_hit hp hx ht).symm
   ·
    have hf:=h2;refine wp_skip (zg (za ?_));refine zw st5 (sc rfl ((zj rfl (zb rfl)))
     (sc rfl ((qN rfl (by decide) (zb rfl) z7 (by simp only[arI];omega)))
     (sc rfl ((zI rfl (zb rfl)))
     .nil))) [0,1,5,9,17] (λ _ _ _ st7=>?_)
    refine za ⟨k+1,⟨st7.pick (kc 0 rfl (kc 1 rfl (kc 5 rfl .nil))),by omega,QI hx hp hf⟩,by omega⟩
  ·
   have hend:=XV h1;refine wp_exit (zh (zh (zE ?_)));refine za (wp_seq ?_);refine zn st4 [0,1,4,5,9] (λ _ _ _ st8=>?_);refine za (wp_ret ?_);refine yu rfl (λ _ h=>h) st8 (t:=4) rfl ?_;exact(idx_end hend hp).symm
theorem zbz  : Fn Tryz.prog 51 [] (dt Yf):=by
 refine xf (fn:=Tryz.f51) Tryz.func51 rfl (oD rfl) (λ M _ _ hm st0=>?_);refine wp_seq (wp_region_list ?_);refine wpl_alloc (n:=3) st0 rfl rfl rfl (by decide) (by kernel_rfl) .nil (λ b1 _ _ hb1 hn1 _ st1=>?_);refine wpList_nil (za (wp_seq (wp_region_list ?_)));refine WT 2 st1 (sc rfl ((yG (opds:=[]) (α:=Int) rfl (by kernel_rfl) (by kernel_rfl) rfl rfl (by decide) .nil))
  (sc rfl ((yw (parts:=[(0,.const (.int .i64 0)),(1,.const (.int .i64 (-1))),(2,.tmp 1)]) (ns:=[1,1,1]) (zs:=[[.int .i64 0],[.int .i64 0],[.slice none 0 0]]) rfl rfl (by kernel_rfl) (by kernel_rfl) (λ w a hl=>by
    intro p hp;simp only[List.mem_cons,List.not_mem_nil,or_false] at hp;rcases hp with rfl | rfl | rfl
    ·
     exact⟨by decide,rfl⟩
    ·
     exact⟨by decide,rfl⟩
    ·
     exact⟨by decide,Rep.len (α:=(List Int)) (OpdR.cells (zb rfl) hl)⟩) (λ w a hl=>Spec.parts (x:=⟨0,-1,[]⟩) (OpdR.cells z7 hl) (OpdR.cells z7 hl) (OpdR.cells (zb rfl) hl))))
  .nil))
  (kc 0 rfl (kc 2 rfl .nil)) (λ _ _ _ st2=>?_)
 refine wpl_storeNew st2 rfl rfl rfl (by kernel_rfl) rfl hb1 (.inr rfl) rfl (zb rfl) .nil (λ _ st3=>?_);refine wpList_nil (za (wp_ret ?_));refine ret_box rfl (by kernel_rfl) st3 (t:=0) rfl (λ _ h=>(.inl h)) ?_;rfl
open Go.RowKit
set_option maxRecDepth 10000
theorem zbA(t:Tree)(root:Int)(p:Str)(hp:p.l.length<=1152921504606846976):Fn Tryz.prog 136 [dt t,dt root,dt p] (dt (qe t.files root p)):=by
 refine xf (fn:=Tryz.f136) Tryz.func136 rfl (oD rfl) (λ M w0 _ hm st0=>?_);have hlen:=st0.fldL Tree.fld0 (s:=0) rfl;refine wp_seq ?_;refine zw st0 (sc rfl ((Y6 rfl (zb rfl)))
  (sc rfl ((zI rfl X8))
  .nil)) [0,1,2,3,6] (λ _ _ _ st1=>?_)
 refine za (wp_seq (wp_seq ?_));refine zn st1 [0,1,2,3,6,7] (λ _ _ _ st2=>?_);refine za (wp_block ?_);refine Zf (ι:=Nat) (λ k a w=>St (Frm.of w0) 44 M [(0,dt t),(1,dt root),(2,dt p),(3,dptr t),(7,dt (k:Int))] a w/\k<=t.files.length/\(t.files.take k).any (XX root p)=false) (λ k=>t.files.length - k) 0 ?_ ?_
 ·
  exact⟨st2.pick (kc 0 rfl (kc 1 rfl (kc 2 rfl (kc 3 rfl (kc 7 rfl .nil))))),Nat.zero_le _,by simp⟩
 ·
  rintro k a3 w3 ⟨st3,hk,hq⟩
  refine wp_seq (wp_seq ?_);refine zn st3 [0,1,2,3,7,12] (λ _ _ _ st4=>?_);refine za ?_;refine zP (c:=12) st4 rfl (λ h1=>?_) (λ h1=>?_)
  ·
   obtain⟨x,hx⟩:=XU h1;have hlt:=yg hx;refine wp_skip (za (wp_seq (wp_block (wp_seq ?_))));refine zw st4 (sc rfl ((zv Tree.fld0 rfl (by kernel_rfl) (zb rfl)))
    (sc rfl ((zp rfl (by kernel_rfl) (zb rfl)))
    (sc rfl ((zj rfl (zb rfl)))
    (sc rfl ((ws rfl (by kernel_rfl) (zb rfl) (zb rfl) rfl (by assumption)))
    (sc rfl ((zv File.fld0 rfl (by kernel_rfl) (zb rfl)))
    (sc rfl ((zp rfl (by kernel_rfl) (zb rfl)))
    (sc rfl ((zj rfl (zb rfl)))
    (sc rfl ((wK rfl (by decide) (zb rfl) (zb rfl)))
    (sc rfl ((zj rfl (zb rfl)))
    (.cons rfl (by decide) (.guarded rfl rfl (by decide) rfl zA (λ hg=>zv Tree.fld0 rfl (by kernel_rfl) (zb rfl)))
    (.cons rfl (by decide) (.guarded rfl rfl (by decide) rfl zA (λ hg=>zp rfl (by kernel_rfl) (ze hg rfl)))
    (.cons rfl (by decide) (.guarded rfl rfl (by decide) rfl zA (λ hg=>zj rfl (zb rfl)))
    (.cons rfl (by decide) (.guarded rfl rfl (by decide) rfl zA (λ hg=>ws rfl (by kernel_rfl) (ze hg rfl) (ze hg rfl) rfl (by assumption)))
    (.cons rfl (by decide) (.guarded rfl rfl (by decide) rfl zA (λ hg=>zv File.fld1 rfl (by kernel_rfl) (ze hg rfl)))
    (.cons rfl (by decide) (.guarded rfl rfl (by decide) rfl zA (λ hg=>zp rfl (by kernel_rfl) (ze hg rfl)))
    (.cons rfl (by decide) (.guarded rfl rfl (by decide) rfl zA (λ hg=>Wv rfl (ze hg rfl) (zQ (by decide))))
    (sc rfl ((yK rfl (zb rfl) (zb rfl)))
    (sc rfl ((zj rfl (zb rfl)))
    (.cons rfl (by decide) (.guarded rfl rfl (by decide) rfl zA (λ hg=>zv Tree.fld0 rfl (by kernel_rfl) (zb rfl)))
    (.cons rfl (by decide) (.guarded rfl rfl (by decide) rfl zA (λ hg=>zp rfl (by kernel_rfl) (ze hg rfl)))
    (.cons rfl (by decide) (.guarded rfl rfl (by decide) rfl zA (λ hg=>zj rfl (zb rfl)))
    (.cons rfl (by decide) (.guarded rfl rfl (by decide) rfl zA (λ hg=>ws rfl (by kernel_rfl) (ze hg rfl) (ze hg rfl) rfl (by assumption)))
    (.cons rfl (by decide) (.guarded rfl rfl (by decide) rfl zA (λ hg=>zv File.fld1 rfl (by kernel_rfl) (ze hg rfl)))
    (.cons rfl (by decide) (.guarded rfl rfl (by decide) rfl zA (λ hg=>zp rfl (by kernel_rfl) (ze hg rfl)))
    (.cons rfl (by decide) (.guarded rfl rfl (by decide) rfl zA (λ hg=>zj rfl (zb rfl)))
    (.cons rfl (by decide) (.guarded rfl rfl (by decide) rfl zA (λ hg=>zo (l:=[.tmp 38,.tmp 39]) rfl (by kernel_rfl) (.cons (ze hg rfl) (.cons (ze hg rfl) .nil)) (JX _ _ (by assumption))))
    (sc rfl ((yK rfl (zb rfl) (zb rfl)))
    .nil))))))))))))))))))))))))))) [0,1,2,3,7,12,41] (λ _ _ _ st5=>?_)
   refine za ?_;refine zP (c:=41) st5 rfl (λ h2=>?_) (λ h2=>?_)
   ·
    have ht:=h2;refine wp_seq ?_;refine zn st5 [0,1,2,3,6,7,12,41] (λ _ _ _ st6=>?_);refine za ?_;refine wp_ret (zt (zd (zd (zt (zd ?_)))));refine yu rfl (λ _ h=>h) st6 (t:=6) rfl ?_;rw[qe,any_hit (p:=XX root p) hx ht];rfl
   ·
    have hf:=h2;refine wp_skip (zg (za ?_));refine zw st5 (sc rfl ((zj rfl (zb rfl)))
     (sc rfl ((qN rfl (by decide) (zb rfl) z7 (by simp only[arI];omega)))
     (sc rfl ((zI rfl (zb rfl)))
     .nil))) [0,1,2,3,7,12,41] (λ _ _ _ st7=>?_)
    refine za ⟨k+1,⟨st7.pick (kc 0 rfl (kc 1 rfl (kc 2 rfl (kc 3 rfl (kc 7 rfl .nil))))),by omega,QI (p:=XX root p) hx hq hf⟩,by omega⟩
  ·
   have hend:=XV h1;refine wp_exit (zh (zh (zE ?_)));refine za (wp_seq ?_);refine zn st4 [0,1,2,3,6,7,12] (λ _ _ _ st8=>?_);refine za (wp_ret ?_);refine yu rfl (λ _ h=>h) st8 (t:=6) rfl ?_;rw[qe,any_end hend hq];rfl
theorem QU(l:List Int):Fn Tryz.prog 49 [dt l] (dt (ym l)):=by
 refine xf (fn:=Tryz.f49) Tryz.func49 rfl (oD rfl) (λ M w0 _ hm st0=>?_);have hlen:=st0.lenL (s:=0) rfl;refine wp_seq ?_;refine zn st0 [0,2] (λ _ _ _ st1=>?_);refine za (wp_seq (wp_seq ?_));refine zn st1 [0,2,3] (λ _ _ _ st2=>?_);refine za (wp_block ?_);refine Zf (ι:=Nat) (λ k a w=>St (Frm.of w0) 27 M [(0,dt l),(3,dt (k:Int))] a w/\k<=l.length/\XY l k=true) (λ k=>l.length - k) 0 ?_ ?_
 ·
  exact⟨st2.pick (kc 0 rfl (kc 3 rfl .nil)),Nat.zero_le _,rfl⟩
 ·
  rintro k a3 w3 ⟨st3,hk,hp⟩
  refine wp_seq (wp_seq ?_);refine zn st3 [0,3,7] (λ _ _ _ st4=>?_);refine za ?_;refine zP (c:=7) st4 rfl (λ h1=>?_) (λ h1=>?_)
  ·
   obtain⟨x,hx⟩:=XU h1;have hlt:=yg hx;refine wp_skip (za (wp_seq (wp_block (wp_seq ?_))));refine Qf zD [[],[],[0,1],[0,1,2],[0,1,2,3],[0,1,2,3,4],[0,1,2,3,4,5],[0,1,2,3,4,5,6],[0,1,2,3,4,5,6],[0,1,2,3,4,5,6,7,8],[0,1,2,3,4,5,6],[0,1,2,3,4,5,6],[0,1,2,3,4,5,6,10,11],[0,1,2,3,4,5,6,10,11,12],[0,1,2,3,4,5,6,7,8,9,10,11,12,13],[0,1,2,3,4,5,6,7,8,9,10,11,12,13,14],[0,1,2,3,4,5,6,7,8,9,10,11,12,13,14,15]] [[(0,nS)],[(3,nS)],[(10,0),(11,1)],[(12,2)],[(13,3)],[(14,4)],[(15,5)],[(0,nS),(16,6)],[(3,nS),(16,6)],[(17,7),(18,8),(16,6)],[(0,nS),(16,6)],[(3,nS),(16,6)],[(20,10),(21,11),(16,6)],[(22,12),(16,6)],[(19,9),(23,13),(16,6)],[(24,14),(16,6)],[(16,6),(25,15)]] (by decide +kernel) st4 (D:=[_,_,_,_,_,_,_,_,_,_,_,_,_,_,_,_,_])
    (.cons rfl (by decide) rfl (.plain rfl (zj rfl (zb rfl)))
    (.cons rfl (by decide) rfl (.plain rfl (zj rfl (zb rfl)))
    (.cons rfl (by decide) rfl (.plain rfl (ws rfl (by kernel_rfl) (zb rfl) (zb rfl) rfl (by assumption)))
    (.cons rfl (by decide) rfl (.plain rfl (zp rfl (by kernel_rfl) (zb rfl)))
    (.cons rfl (by decide) rfl (.plain rfl (zo (l:=[.tmp 13,.const (.int .i64 0),.const (.int .i64 2)]) rfl (by kernel_rfl) (.cons (zb rfl) (.cons z7 (.cons z7 .nil))) (jN _ _ _)))
    (.cons rfl (by decide) rfl (.plain rfl (yE rfl (zb rfl)))
    (.cons rfl (by decide) rfl (.plain rfl (zj rfl (zb rfl)))
    (.cons rfl (by decide) rfl (.guarded rfl rfl (by decide) rfl zA (λ hg=>zj rfl (zb rfl)))
    (.cons rfl (by decide) rfl (.guarded rfl rfl (by decide) rfl zA (λ hg=>zj rfl (zb rfl)))
    (.cons rfl (by decide) rfl (.guarded rfl rfl (by decide) rfl zA (λ hg=>Qd rfl (by kernel_rfl) (ze hg rfl) (ze hg rfl) rfl (by omega)))
    (.cons rfl (by decide) rfl (.guarded rfl rfl (by decide) rfl zA (λ hg=>zj rfl (zb rfl)))
    (.cons rfl (by decide) rfl (.guarded rfl rfl (by decide) rfl zA (λ hg=>zj rfl (zb rfl)))
    (.cons rfl (by decide) rfl (.guarded rfl rfl (by decide) rfl zA (λ hg=>ws rfl (by kernel_rfl) (ze hg rfl) (ze hg rfl) rfl (by assumption)))
    (.cons rfl (by decide) rfl (.guarded rfl rfl (by decide) rfl zA (λ hg=>zp rfl (by kernel_rfl) (ze hg rfl)))
    (.cons rfl (by decide) rfl (.guarded rfl rfl (by decide) rfl zA (λ hg=>zo (l:=[.tmp 19,.tmp 23]) rfl (by kernel_rfl) (.cons (ze hg rfl) (.cons (ze hg rfl) .nil)) (spec_intAt_ok _ _)))
    (.cons rfl (by decide) rfl (.guarded rfl rfl (by decide) rfl zA (λ hg=>wK rfl (by decide) (ze hg rfl) z7))
    (.cons rfl (by decide) rfl (.plain rfl (yU rfl (zb rfl) (zb rfl)))
    .nil)))))))))))))))))
    (kc 0 rfl (kc 3 rfl (kc 7 rfl (kc 26 rfl .nil)))) (λ _ _ _ st5=>?_)
   refine za ?_;refine zP (c:=26) st5 rfl (λ h2=>?_) (λ h2=>?_)
   ·
    have ht:=h2;refine wp_seq ?_;refine zn st5 [0,2,3,7,26] (λ _ _ _ st6=>?_);refine za ?_;refine wp_ret (zt (zd (zd (zt (zd ?_)))));refine yu rfl (λ _ h=>h) st6 (t:=2) rfl ?_;exact(validPath_bad hx ht).symm
   ·
    have hf:=h2;refine wp_skip (zg (za ?_));refine zw st5 (sc rfl ((zj rfl (zb rfl)))
     (sc rfl ((qN rfl (by decide) (zb rfl) z7 (by simp only[arI];omega)))
     (sc rfl ((zI rfl (zb rfl)))
     .nil))) [0,3,7,26] (λ _ _ _ st7=>?_)
    refine za ⟨k+1,⟨st7.pick (kc 0 rfl (kc 3 rfl .nil)),by omega,pathTo_next hx hp hf⟩,by omega⟩
  ·
   have hend:=XV h1;refine wp_exit (zh (zh (zE ?_)));refine za (wp_seq ?_);refine zn st4 [0,2,3,7] (λ _ _ _ st8=>?_);refine za (wp_ret ?_);refine yu rfl (λ _ h=>h) st8 (t:=2) rfl ?_;exact(validPath_end hend hk hp).symm
theorem QV(t:Tree)(ht:xc t):Fn Tryz.prog 93 [dt t] (dt (zR t)):=by
 refine xf (fn:=Tryz.f93) Tryz.func93 rfl (oD rfl) (λ M w0 _ hm st0=>?_);have hlen:=ht.1;refine wp_seq ?_;refine zw st0 (sc rfl ((Y6 rfl (zb rfl)))
  (sc rfl ((zI rfl X8))
  .nil)) [0,1,2] (λ _ _ _ st1=>?_)
 refine za (wp_seq (wp_seq ?_));refine zn st1 [0,1,2,3] (λ _ _ _ st2=>?_);refine za (wp_block ?_);refine Zf (ι:=Nat) (λ k a w=>St (Frm.of w0) 33 M [(0,dt t),(1,dptr t),(3,dt (k:Int))] a w/\k<=t.files.length/\XW t.files k=true) (λ k=>t.files.length - k) 0 ?_ ?_
 ·
  exact⟨st2.pick (kc 0 rfl (kc 1 rfl (kc 3 rfl .nil))),Nat.zero_le _,rfl⟩
 ·
  rintro k a3 w3 ⟨st3,hk,hp⟩
  refine wp_seq (wp_seq ?_);refine zn st3 [0,1,3,8] (λ _ _ _ st4=>?_);refine za ?_;refine zP (c:=8) st4 rfl (λ h1=>?_) (λ h1=>?_)
  ·
   obtain⟨x,hx⟩:=XU h1;have hlt:=yg hx;refine wp_skip (za (wp_seq (wp_block (wp_seq ?_))));refine Qf zD [[],[0],[],[0,1,2],[0,1,2,3],[0,1,2,3,4],[0,1,2,3,4,5],[0,1,2,3,4,5,6],[0,1,2,3,4,5,6,7],[0,1,2,3,4,5,6,7],[0,1,2,3,4,5,6,7,9],[0,1,2,3,4,5,6,7],[0,1,2,3,4,5,6,7,9,10,11],[0,1,2,3,4,5,6,7,9,10,11,12],[0,1,2,3,4,5,6,7,8,9,10,11,12,13],[0,1,2,3,4,5,6,7],[0,1,2,3,4,5,6,7,8,9,10,11,12,13,14,15],[0,1,2,3,4,5,6,7,8,9,10,11,12,13,14,15,16]] [[(1,nS)],[(11,0)],[(3,nS)],[(12,1),(13,2)],[(14,3)],[(15,4)],[(16,5)],[(17,6)],[(1,nS),(18,7)],[(1,nS),(18,7)],[(20,9),(18,7)],[(3,nS),(18,7)],[(21,10),(22,11),(18,7)],[(23,12),(18,7)],[(19,8),(24,13),(18,7)],[(3,nS),(18,7)],[(25,14),(26,15),(18,7)],[(18,7),(27,16)]] (by decide +kernel) st4 (D:=[_,_,_,_,_,_,_,_,_,_,_,_,_,_,_,_,_,_])
    (.cons rfl (by decide) rfl (.plain rfl (zv Tree.fld0 rfl (by kernel_rfl) (zb rfl)))
    (.cons rfl (by decide) rfl (.plain rfl (zp rfl (by kernel_rfl) (zb rfl)))
    (.cons rfl (by decide) rfl (.plain rfl (zj rfl (zb rfl)))
    (.cons rfl (by decide) rfl (.plain rfl (ws rfl (by kernel_rfl) (zb rfl) (zb rfl) rfl (by assumption)))
    (.cons rfl (by decide) rfl (.plain rfl (zp rfl (by kernel_rfl) (zb rfl)))
    (.cons rfl (by decide) rfl (.plain rfl (zo (l:=[.tmp 15]) rfl (by kernel_rfl) (.cons (zb rfl) .nil) (QT _ (ht.2 _ (List.mem_of_getElem? hx)))))
    (.cons rfl (by decide) rfl (.plain rfl (yE rfl (zb rfl)))
    (.cons rfl (by decide) rfl (.plain rfl (zj rfl (zb rfl)))
    (.cons rfl (by decide) rfl (.guarded rfl rfl (by decide) rfl zA (λ hg=>zp rfl (by kernel_rfl) (zb rfl)))
    (.cons rfl (by decide) rfl (.guarded rfl rfl (by decide) rfl zA (λ hg=>zv Tree.fld0 rfl (by kernel_rfl) (zb rfl)))
    (.cons rfl (by decide) rfl (.guarded rfl rfl (by decide) rfl zA (λ hg=>zp rfl (by kernel_rfl) (ze hg rfl)))
    (.cons rfl (by decide) rfl (.guarded rfl rfl (by decide) rfl zA (λ hg=>zj rfl (zb rfl)))
    (.cons rfl (by decide) rfl (.guarded rfl rfl (by decide) rfl zA (λ hg=>ws rfl (by kernel_rfl) (ze hg rfl) (ze hg rfl) rfl (by assumption)))
    (.cons rfl (by decide) rfl (.guarded rfl rfl (by decide) rfl zA (λ hg=>zp rfl (by kernel_rfl) (ze hg rfl)))
    (.cons rfl (by decide) rfl (.guarded rfl rfl (by decide) rfl zA (λ hg=>zo (l:=[.tmp 19,.tmp 24]) rfl (by kernel_rfl) (.cons (ze hg rfl) (.cons (ze hg rfl) .nil)) (Je _ _)))
    (.cons rfl (by decide) rfl (.guarded rfl rfl (by decide) rfl zA (λ hg=>zj rfl (zb rfl)))
    (.cons rfl (by decide) rfl (.guarded rfl rfl (by decide) rfl zA (λ hg=>wK rfl (by decide) (ze hg rfl) (ze hg rfl)))
    (.cons rfl (by decide) rfl (.plain rfl (yU rfl (zb rfl) (zb rfl)))
    .nil))))))))))))))))))
    (kc 0 rfl (kc 1 rfl (kc 3 rfl (kc 8 rfl (kc 28 rfl .nil))))) (λ _ _ _ st5=>?_)
   refine za ?_;refine zP (c:=28) st5 rfl (λ h2=>?_) (λ h2=>?_)
   ·
    have hq:=h2;refine wp_seq ?_;refine zn st5 [0,1,2,3,8,28] (λ _ _ _ st6=>?_);refine za ?_;refine wp_ret (zt (zd (zd (zt (zd ?_)))));refine yu rfl (λ _ h=>h) st6 (t:=2) rfl ?_;exact(validTree_bad hx hq).symm
   ·
    have hf:=h2;refine wp_skip (zg (za ?_));refine zw st5 (sc rfl ((zj rfl (zb rfl)))
     (sc rfl ((qN rfl (by decide) (zb rfl) z7 (by simp only[arI];omega)))
     (sc rfl ((zI rfl (zb rfl)))
     .nil))) [0,1,3,8,28] (λ _ _ _ st7=>?_)
    refine za ⟨k+1,⟨st7.pick (kc 0 rfl (kc 1 rfl (kc 3 rfl .nil))),by omega,treeTo_next hx hp hf⟩,by omega⟩
  ·
   have hend:=XV h1;refine wp_exit (zh (zh (zE ?_)));refine za (wp_seq ?_);refine zn st4 [0,1,2,3,8] (λ _ _ _ st8=>?_);refine za (wp_ret ?_);refine yu rfl (λ _ h=>h) st8 (t:=2) rfl ?_;exact(validTree_end hend hk hp)
open Go.RowKit
set_option maxRecDepth 10000
theorem Ql(xs:List Str)(s:Str)(hx:xs.length<=8796093022200):Qg Tryz.prog 128 9 (xs) [dt s] (wo xs s):=by
 refine zbv (fn:=Tryz.f128) Tryz.func128 rfl (oD rfl) (λ M g w0 _ htip hm st0=>?_);refine wp_seq ?_;refine zw st0 (sc rfl ((zI rfl (jW (α:=Str))))
  .nil) [0,1,4] (λ _ _ _ st1=>?_)
 refine za (wp_seq (wp_seq ?_));refine zw st1 (sc rfl ((zj rfl (zb rfl)))
  (sc rfl ((zj rfl (zb rfl)))
  (sc rfl ((W8 (M0:=M) (l:=[.tmp 7,.tmp 8]) (λ _ h=>.inl h) rfl (by kernel_rfl) (.cons (opd2_tip (λ _ h=>.inl h) htip (zb rfl)) (.cons (Ww (λ _ h=>.inl h) (zb rfl)) .nil)) (zbn _ _) flat_bool))
  .nil))) [0,1,4,9] (λ _ _ _ st2=>?_)
 refine za ?_;refine zP (c:=9) st2 rfl (λ h1=>?_) (λ h1=>?_)
 ·
  have hin:=h1;refine wp_seq ?_;refine zn st2 [0,1,4,9] (λ _ _ _ st3=>?_);refine za ?_;refine wp_ret (zd ?_);refine ret_take rfl rfl htip (λ _ h=>h) st3 (t:=4) rfl ?_;rw[wo,if_pos hin]
 ·
  have hin:=h1;refine wp_skip (za (wp_seq ?_));refine zw st2 (sc rfl ((zj rfl (zb rfl)))
   (sc rfl ((op_lenT rfl (by kernel_rfl) (zb rfl)))
   (sc rfl ((zI rfl (zb rfl)))
   .nil))) [0,1,4,5,9] (λ _ _ _ st4=>?_)
  refine za (wp_seq (wp_block ?_));refine Zf (ι:=Nat) (λ k a w=>St (Frm.take w0 g) 39 (insO g M) [(0,dtip g 9 (xs)),(1,dt s),(5,dt (k:Int))] a w/\k<=xs.length/\jB xs s k=jB xs s xs.length) (λ k=>k) xs.length ?_ ?_
  ·
   exact⟨st4.pick (kc 0 rfl (kc 1 rfl (kc 5 rfl .nil))),Nat.le_refl _,rfl⟩
  ·
   rintro k a5 w5 ⟨st5,hk,hp⟩
   obtain⟨y,hy⟩:=insGet hk;refine wp_seq (wp_seq ?_);refine zw st5 (sc rfl ((zj rfl (zb rfl)))
    (sc rfl ((wK rfl (by decide) (zb rfl) z7))
    (sc rfl ((zj rfl (zb rfl)))
    (.cons rfl (by decide) (.guarded rfl rfl (by decide) rfl zA (λ hg=>zj rfl (zb rfl)))
    (.cons rfl (by decide) (.guarded rfl rfl (by decide) rfl zA (λ hg=>zj rfl (zb rfl)))
    (.cons rfl (by decide) (.guarded rfl rfl (by decide) rfl zA (λ hg=>qN rfl (by decide) (ze hg rfl) z7 (by simp only[arI];omega)))
    (.cons rfl (by decide) (.guarded rfl rfl (by decide) rfl zA (λ hg=>QF rfl (by kernel_rfl) (ze hg rfl) (ze hg rfl) (k:=k - 1) (by have:=gtz' hg;simp only[arI];omega) (hy (gtz' hg))))
    (.cons rfl (by decide) (.guarded rfl rfl (by decide) rfl zA (λ hg=>zf rfl (by kernel_rfl) (ze hg rfl)))
    (.cons rfl (by decide) (.guarded rfl rfl (by decide) rfl zA (λ hg=>zj rfl (zb rfl)))
    (.cons rfl (by decide) (.guarded rfl rfl (by decide) rfl zA (λ hg=>op_cmpS rfl (by decide) (ze hg rfl) (ze hg rfl)))
    (sc rfl ((yK rfl (zb rfl) (zb rfl)))
    .nil))))))))))) [0,1,5,23] (λ _ _ _ st6=>?_)
   refine za ?_;refine zP (c:=23) st6 rfl (λ h2=>?_) (λ h2=>?_)
   ·
    have htk:=h2;refine wp_skip (za (wp_block ?_));refine zw st6 (sc rfl ((zj rfl (zb rfl)))
     (sc rfl ((qN rfl (by decide) (zb rfl) z7 (by simp only[arI];omega)))
     (sc rfl ((zI rfl (zb rfl)))
     .nil))) [0,1,5,23] (λ _ _ _ st7=>?_)
    refine zg ?_;refine za ⟨k - 1,⟨?_,by omega,(insPos_down hy htk).trans hp⟩,by have:=gtz htk;omega⟩;rw[show((k - 1:Nat):Int)=arI .sub k 1 from by have:=gtz htk;simp only[arI];omega];exact st7.pick (kc 0 rfl (kc 1 rfl (kc 5 rfl .nil)))
   ·
    have hend:=h2;refine wp_exit (zh (zh (zE ?_)));refine za (wp_seq (wp_region_list ?_));refine WT 4 st6.ins0 (sc rfl ((wT (α:=Str) (e:=9) rfl (by kernel_rfl))) (sc rfl ((zj rfl (zb rfl))) (sc rfl ((zj rfl (zb rfl))) (sc rfl ((op_sliceLT rfl (by kernel_rfl) (zb rfl) (zb rfl) rfl (by assumption))) .nil)))) (kc 0 rfl (kc 1 rfl (kc 5 rfl (kc 26 rfl (kc 29 rfl .nil))))) (λ _ _ _ st50=>?_);refine YA (bytes:=16) st50 rfl rfl rfl (by decide) (by kernel_rfl) rfl rfl row_row (by simp;omega) (by simp;omega) (.cons (s:=0) rfl off_none (.cons (s:=1) rfl (λ _ _ h=>h) (.cons (s:=5) rfl (λ _ _ h=>h) .nil))) TipOK.none_ (λ g51 _ _ hg51 st51=>?_);refine WT 1 st51 (sc rfl ((zI rfl (zb rfl))) .nil) (kc 0 rfl (kc 1 rfl (kc 5 rfl (kc 6 rfl .nil)))) (λ _ _ _ st52=>?_);refine wpList_nil (za (wp_seq ?_));have st53:=st52.congr (swap_tip (g:=g) (g2:=g51) (M:=M));refine wp_region_list ?_;refine WT 5 st53 (sc rfl ((zj rfl (zb rfl))) (sc rfl ((zj rfl (zb rfl))) (sc rfl ((op_sliceHT rfl (by kernel_rfl) (zb rfl) (zb rfl) rfl (by assumption))) (sc rfl ((zj rfl (zb rfl))) (sc rfl ((yG (opds:=[.tmp 34]) rfl (by kernel_rfl) (by kernel_rfl) rfl rfl (by decide) (.cons (zb rfl) .nil))) .nil))))) (kc 1 rfl (kc 6 rfl (kc 33 rfl (kc 35 rfl .nil)))) (λ _ _ _ st54=>?_);refine YA (bytes:=16) st54 rfl rfl rfl (by decide) (by kernel_rfl) rfl rfl wO (by simp;omega) (by simp;omega) (.cons (s:=1) rfl (λ _ _ h=>h) (.cons (s:=6) rfl (own_apart hg51) .nil)) (htip.apart hg51) (λ g55 _ _ hg55 st55=>?_);refine WT 1 st55 (sc rfl ((zj rfl (zb rfl))) .nil) (kc 36 rfl (kc 37 rfl .nil)) (λ _ _ _ st56=>?_);refine YA (bytes:=16) st56 rfl rfl rfl (by decide) (by kernel_rfl) rfl rfl row_tip (by simp;omega) (by simp;omega) .nil hg55 (λ g57 _ _ hg57 st57=>?_);refine WT 1 st57 (sc rfl ((zI rfl (zb rfl))) .nil) (kc 4 rfl .nil) (λ _ _ _ st58=>?_);refine wpList_nil (za (wp_ret ?_));refine ret_take rfl rfl hg57 (λ _ h=>h.imp .inl id) st58 (t:=4) rfl ?_;rw[wo,if_neg (by rw[hin];decide),← hp,insPos_stop hy hend];simp
open Go.RowKit
set_option maxRecDepth 10000
open Go.RowKit
set_option maxRecDepth 10000
end Go.Proofs.YtdoidiipacdbpaaGreatDoor
