import Derived.Test.YtnlhpkbphdbknaaGreatDoorRB
import Derived.Test.YtnlhpkbphdbknaaGreatDoorProg
import Derived.Test.YtnlhpkbphdbknaaGreatDoorRA
namespace Go.Proofs.YtnlhpkbphdbknaaGreatDoor
open Go.RowKit
attribute [local irreducible] OpRel OpdR
set_option maxRecDepth 10000
theorem zw:Tryz.prog.follows .mixedOrders=true:=by kernel_rfl
theorem jL(n lo up:Int):Fn Tryz.prog 73 [dt n,dt lo,dt up] (dt (inR n lo up)):=by
 refine xj (fn:=Tryz.f73) Tryz.func73 rfl (oD rfl) (λ M _ _ hm st0=>?_);refine wp_seq ?_;refine zm st0 [0,1,2,6] (λ _ _ _ st1=>?_);refine za (wp_seq ?_);refine zr st1 (sc rfl ((zh rfl (zb rfl)))
  (sc rfl ((zh rfl (zb rfl)))
  (sc rfl ((wJ rfl (by decide) (zb rfl) (zb rfl)))
  (sc rfl ((zh rfl (zb rfl)))
  (.cons rfl (by decide) (.guarded rfl rfl (by decide) rfl zx (λ hg=>zh rfl (zb rfl)))
  (.cons rfl (by decide) (.guarded rfl rfl (by decide) rfl zx (λ hg=>zh rfl (zb rfl)))
  (.cons rfl (by decide) (.guarded rfl rfl (by decide) rfl zx (λ hg=>wJ rfl (by decide) (ze hg rfl) (ze hg rfl)))
  (sc rfl ((yS rfl (zb rfl) (zb rfl)))
  (sc rfl ((zF rfl (zb rfl)))
  .nil))))))))) [0,1,2,6] (λ _ _ _ st2=>?_)
 refine za (wp_ret ?_);refine yz rfl (λ _ h=>h) st2 (t:=6) rfl ?_;rfl
theorem jV(s:Str):Fn Tryz.prog 98 [dt s] (dt (zC s)):=by
 refine xj (fn:=Tryz.f98) Tryz.func98 rfl (oD rfl) (λ M w0 _ hm st0=>?_);have hlen:s.l.length<=9223372036854775807:=st0.lenS (s:=0) rfl;refine wp_seq ?_;refine zm st0 [0,2] (λ _ _ _ st1=>?_);refine za (wp_seq (wp_seq ?_));refine zr st1 (sc rfl ((zh rfl (zb rfl)))
  (sc rfl ((Wo rfl (by kernel_rfl) (zb rfl)))
  (sc rfl ((zH (l:=[.tmp 5,.const (.int .i64 1),.const (.int .i64 3)]) rfl (by kernel_rfl) (.cons (zb rfl) (.cons zY (.cons zY .nil))) (jL _ _ _)))
  (sc rfl ((xS rfl (zb rfl)))
  .nil)))) [0,2,7] (λ _ _ _ st2=>?_)
 refine za ?_;refine zN (c:=7) st2 rfl (λ h1=>?_) (λ h1=>?_)
 ·
  have h7:=h1;refine wp_seq ?_;refine zm st2 [0,2,7] (λ _ _ _ st3=>?_);refine za ?_;refine wp_ret (zd ?_);refine yz rfl (λ _ h=>h) st3 (t:=2) rfl ?_;unfold zC;rw[Bool.not_eq_true'] at h7;simp[h7]
 ·
  have h7:=h1;refine wp_skip (za (wp_seq (wp_seq ?_)));refine zm st2 [0,2,3,7] (λ _ _ _ st4=>?_);refine za (wp_block ?_);refine ZM (ι:=Nat) (λ k a w=>St (Frm.of w0) 24 M [(0,dt s),(3,dt (k:Int))] a w/\k<=s.l.length/\(s.l.take k).all low=true) (λ k=>s.l.length - k) 0 ?_ ?_
  ·
   exact⟨st4.pick (kc 0 rfl (kc 3 rfl .nil)),Nat.zero_le _,by simp⟩
  ·
   rintro k a5 w5 ⟨st5,hk,hp⟩
   refine wp_seq (wp_seq ?_);refine zm st5 [0,3,11] (λ _ _ _ st6=>?_);refine za ?_;refine zN (c:=11) st6 rfl (λ h2=>?_) (λ h2=>?_)
   ·
    obtain⟨x,hx⟩:=idxS_of h2;have hlt:=zv hx;refine wp_skip (za (wp_seq (wp_block (wp_seq ?_))));refine zr st6 (sc rfl ((zh rfl (zb rfl)))
     (sc rfl ((zh rfl (zb rfl)))
     (sc rfl ((op_byte rfl (by kernel_rfl) (zb rfl) (zb rfl) (by assumption)))
     (sc rfl ((op_cmpB rfl (by decide) (zb rfl) (Yl (by decide))))
     (sc rfl ((zh rfl (zb rfl)))
     (.cons rfl (by decide) (.guarded rfl rfl (by decide) rfl zx (λ hg=>zh rfl (zb rfl)))
     (.cons rfl (by decide) (.guarded rfl rfl (by decide) rfl zx (λ hg=>zh rfl (zb rfl)))
     (.cons rfl (by decide) (.guarded rfl rfl (by decide) rfl zx (λ hg=>op_byte rfl (by kernel_rfl) (ze hg rfl) (ze hg rfl) (by assumption)))
     (.cons rfl (by decide) (.guarded rfl rfl (by decide) rfl zx (λ hg=>op_cmpB rfl (by decide) (ze hg rfl) (Yl (by decide))))
     (sc rfl ((wu rfl (zb rfl) (zb rfl)))
     .nil)))))))))) [0,3,11,23] (λ _ _ _ st7=>?_)
    refine za ?_;refine zN (c:=23) st7 rfl (λ h3=>?_) (λ h3=>?_)
    ·
     have ht:=h3;refine wp_seq ?_;refine zm st7 [0,2,3,11,23] (λ _ _ _ st8=>?_);refine za ?_;refine wp_ret (zo (zd (zd (zo (zd ?_)))));refine yz rfl (λ _ h=>h) st8 (t:=2) rfl ?_;unfold zC;rw[all_fail (p:=low) hx (by unfold low;rw[ht];rfl)];simp
    ·
     have hf:=h3;refine wp_skip (zf (za ?_));refine zr st7 (sc rfl ((zh rfl (zb rfl)))
      (sc rfl ((qz rfl (by decide) (zb rfl) zY (by simp only[arI];omega)))
      (sc rfl ((zF rfl (zb rfl)))
      .nil))) [0,3,11,23] (λ _ _ _ st9=>?_)
     refine za ⟨k+1,⟨st9.pick (kc 0 rfl (kc 3 rfl .nil)),by omega,all_next hx hp (by unfold low;rw[hf];rfl)⟩,by omega⟩
   ·
    have hend:=endS_of h2;refine wp_exit (zi (zi (zE ?_)));refine za (wp_seq ?_);refine zm st6 [0,2,3,11] (λ _ _ _ st10=>?_);refine za (wp_ret ?_);refine yz rfl (λ _ h=>h) st10 (t:=2) rfl ?_;unfold zC;rw[all_end hend hp];rw[Bool.not_eq_false'] at h7;exact(by simpa using h7.symm)
theorem ZO(s:Str)(c:UInt8)(hs:mid s):Fn Tryz.prog 97 [dt s,dt c] (dt (zq s c)):=by
 refine xj (fn:=Tryz.f97) Tryz.func97 rfl (oD rfl) (λ M w0 _ hm st0=>?_);have hlen:s.l.length<=1099511627776:=hs;refine wp_seq ?_;refine zr st0 (sc rfl ((zF rfl (qw (α:=Str))))
  .nil) [0,1,4] (λ _ _ _ st1=>?_)
 refine za (wp_seq ?_);refine zr st1 (sc rfl ((yp (α:=Str) (e:=9) rfl (by kernel_rfl)))
  (sc rfl ((zF rfl (zb rfl)))
  .nil)) [0,1,4,5] (λ _ _ _ st2=>?_)
 refine za (wp_seq ?_);refine zm st2 [0,1,4,5,6] (λ _ _ _ st3=>?_);refine za (wp_seq (wp_seq ?_));refine zm st3 [0,1,4,5,6,7] (λ _ _ _ st4=>?_);refine za (wp_block ?_);refine ZM (ι:=Nat×Nat) (λ p a w=>∃ g,TipOK (Frm.of w0) M g/\St (Frm.of w0) 35 (insO g M) [(0,dt s),(1,dt c),(5,dtip g 9 (xB c (s.l.take p.1)).1),(6,dt (p.2:Int)),(7,dt (p.1:Int))] a w/\p.1<=s.l.length/\p.2<=p.1/\(xB c (s.l.take p.1)).2=⟨(s.l.take p.1).drop p.2⟩/\(xB c (s.l.take p.1)).1.length<=p.1) (λ p=>s.l.length - p.1) (0,0) ?_ ?_
 ·
  exact⟨none,TipOK.none_,st4.ins0.pick (kc 0 rfl (kc 1 rfl (kc 5 rfl (kc 6 rfl (kc 7 rfl .nil))))),Nat.zero_le _,Nat.le_refl _,rfl,Nat.le_refl _⟩
 ·
  rintro ⟨k,b⟩ a5 w5 ⟨g5,hg5,st5,hk,hb,g2,g1⟩
  dsimp only at*;refine wp_seq (wp_seq ?_);refine zm st5 [0,1,5,6,7,12] (λ _ _ _ st6=>?_);refine za ?_;refine zN (c:=12) st6 rfl (λ h1=>?_) (λ h1=>?_)
  ·
   obtain⟨x,hx⟩:=idxS_of h1;have hlt:=zv hx;refine wp_skip (za (wp_seq (wp_block (wp_seq ?_))));refine zr st6 (sc rfl ((zh rfl (zb rfl)))
    (sc rfl ((zh rfl (zb rfl)))
    (sc rfl ((op_byte rfl (by kernel_rfl) (zb rfl) (zb rfl) (by assumption)))
    (sc rfl ((zh rfl (zb rfl)))
    (sc rfl ((op_cmpB rfl (by decide) (zb rfl) (zb rfl)))
    .nil))))) [0,1,5,6,7,12,19] (λ _ _ _ st7=>?_)
   refine za ?_;refine zN (c:=19) st7 rfl (λ h2=>?_) (λ h2=>?_)
   ·
    have ht:=h2;refine wp_seq (wp_region_list ?_);refine WE 6 st7 (sc rfl ((zh rfl (zb rfl)))
     (sc rfl ((zh rfl (zb rfl)))
     (sc rfl ((zh rfl (zb rfl)))
     (sc rfl ((zh rfl (zb rfl)))
     (sc rfl ((op_cutLH rfl (by kernel_rfl) (zb rfl) (zb rfl) (zb rfl) (by omega) (by omega) (by omega)))
     (sc rfl ((ym (opds:=[.tmp 24]) rfl (by kernel_rfl) (by kernel_rfl) rfl rfl (by decide) (.cons (zb rfl) .nil)))
     .nil))))))
     (kc 0 rfl (kc 1 rfl (kc 5 rfl (kc 6 rfl (kc 7 rfl (kc 12 rfl (kc 19 rfl (kc 20 rfl (kc 25 rfl .nil))))))))) (λ _ _ _ st8=>?_)
    refine JZ (bytes:=16) (st8) rfl rfl rfl (by decide) (by kernel_rfl) rfl rfl yt (len1 (by omega)) (len1b (by omega)) (.cons (s:=0) rfl (λ _ _ h=>h) (.cons (s:=1) rfl (λ _ _ h=>h) (.cons (s:=6) rfl (λ _ _ h=>h) (.cons (s:=7) rfl (λ _ _ h=>h) (.cons (s:=12) rfl (λ _ _ h=>h) (.cons (s:=19) rfl (λ _ _ h=>h) .nil)))))) (hg5) (λ g9 _ _ hg9 st9=>?_);refine WE 1 st9 (sc rfl ((zF rfl (zb rfl)))
     .nil)
     (kc 0 rfl (kc 1 rfl (kc 5 rfl (kc 6 rfl (kc 7 rfl (kc 12 rfl (kc 19 rfl .nil))))))) (λ _ _ _ st10=>?_)
    refine wpList_nil (za ?_);refine zr st10 (sc rfl ((zh rfl (zb rfl)))
     (sc rfl ((qz rfl (by decide) (zb rfl) zY (by simp only[arI];omega)))
     (sc rfl ((zF rfl (zb rfl)))
     .nil))) [0,1,5,6,7,12,19] (λ _ _ _ st11=>?_)
    refine zf (za ?_);refine zr st11 (sc rfl ((zh rfl (zb rfl)))
     (sc rfl ((qz rfl (by decide) (zb rfl) zY (by simp only[arI];omega)))
     (sc rfl ((zF rfl (zb rfl)))
     .nil))) [0,1,5,6,7,12,19] (λ _ _ _ st12=>?_)
    refine za ⟨(k+1,k+1),⟨g9,hg9,?_,by dsimp only;omega,by dsimp only;omega,split_hit2 hx ht hlt,by dsimp only;rw[J1 hx ht g2,List.length_append];exact Nat.succ_le_succ g1⟩,by dsimp only;omega⟩;dsimp only;first | rw[J1 hx ht g2] | rw[WQ hx hf]
    exact st12.pick (kc 0 rfl (kc 1 rfl (kc 5 rfl (kc 6 rfl (kc 7 rfl .nil)))))
   ·
    have hf:=h2;refine wp_skip (zf (za ?_));refine zr st7 (sc rfl ((zh rfl (zb rfl)))
     (sc rfl ((qz rfl (by decide) (zb rfl) zY (by simp only[arI];omega)))
     (sc rfl ((zF rfl (zb rfl)))
     .nil))) [0,1,5,6,7,12,19] (λ _ _ _ st13=>?_)
    refine za ⟨(k+1,b),⟨g5,hg5,?_,by dsimp only;omega,by dsimp only;omega,split_miss2 hx hf g2 hb hlt,by dsimp only;rw[WQ hx hf];omega⟩,by dsimp only;omega⟩;dsimp only;first | rw[J1 hx ht g2] | rw[WQ hx hf]
    exact st13.pick (kc 0 rfl (kc 1 rfl (kc 5 rfl (kc 6 rfl (kc 7 rfl .nil)))))
  ·
   have hend:=endS_of h1;refine wp_exit (zi (zi (zE ?_)));refine za (wp_seq (wp_region_list ?_));refine WE 5 st6 (sc rfl ((zh rfl (zb rfl)))
    (sc rfl ((zh rfl (zb rfl)))
    (sc rfl ((zh rfl (zb rfl)))
    (sc rfl ((op_cutL rfl (by kernel_rfl) (zb rfl) (zb rfl) (by omega) (by omega)))
    (sc rfl ((ym (opds:=[.tmp 32]) rfl (by kernel_rfl) (by kernel_rfl) rfl rfl (by decide) (.cons (zb rfl) .nil)))
    .nil)))))
    (kc 0 rfl (kc 1 rfl (kc 5 rfl (kc 6 rfl (kc 7 rfl (kc 12 rfl (kc 29 rfl (kc 33 rfl .nil)))))))) (λ _ _ _ st14=>?_)
   refine JZ (bytes:=16) (st14) rfl rfl rfl (by decide) (by kernel_rfl) rfl rfl yt (len1 (by omega)) (len1b (by omega)) (.cons (s:=0) rfl (λ _ _ h=>h) (.cons (s:=1) rfl (λ _ _ h=>h) (.cons (s:=6) rfl (λ _ _ h=>h) (.cons (s:=7) rfl (λ _ _ h=>h) (.cons (s:=12) rfl (λ _ _ h=>h) .nil))))) (hg5) (λ g15 _ _ hg15 st15=>?_);refine WE 1 st15 (sc rfl ((zF rfl (zb rfl)))
    .nil)
    (kc 0 rfl (kc 1 rfl (kc 4 rfl (kc 6 rfl (kc 7 rfl (kc 12 rfl .nil)))))) (λ _ _ _ st16=>?_)
   refine wpList_nil (za (wp_ret ?_));refine ret_tip rfl (hg15) (λ _ h=>h) st16 (t:=4) rfl ?_;exact split_end hend g2
theorem jW(s:Str)(hs:mid s):Fn Tryz.prog 59 [dt s] (dt (zg s)):=by
 refine xj (fn:=Tryz.f59) Tryz.func59 rfl (oD rfl) (λ M w0 _ hm st0=>?_);refine wp_seq ?_;refine zm st0 [0,2] (λ _ _ _ st1=>?_);refine za (wp_seq ?_);refine zr st1 (sc rfl ((zh rfl (zb rfl)))
  (sc rfl ((zH (l:=[.tmp 5,.const (.int .u8 46)]) rfl (by kernel_rfl) (.cons (zb rfl) (.cons (Yl (by decide)) .nil)) (ZO _ dot (by assumption))))
  (sc rfl ((zF rfl (zb rfl)))
  .nil))) [0,2,3] (λ _ _ _ st2=>?_)
 refine za (wp_seq (wp_seq ?_));refine zm st2 [0,2,3,4] (λ _ _ _ st3=>?_);refine za (wp_block ?_);refine ZM (ι:=Nat) (λ k a w=>St (Frm.of w0) 22 M [(0,dt s),(3,dt (zq s dot)),(4,dt (k:Int))] a w/\k<=(zq s dot).length/\((zq s dot).take k).all zC=true) (λ k=>(zq s dot).length - k) 0 ?_ ?_
 ·
  exact⟨st3.pick (kc 0 rfl (kc 3 rfl (kc 4 rfl .nil))),Nat.zero_le _,by simp⟩
 ·
  rintro k a4 w4 ⟨st4,hk,hp⟩
  have hlen:=st4.lenL (s:=3) rfl;refine wp_seq (wp_seq ?_);refine zm st4 [0,3,4,10] (λ _ _ _ st5=>?_);refine za ?_;refine zN (c:=10) st5 rfl (λ h1=>?_) (λ h1=>?_)
  ·
   obtain⟨x,hx⟩:=XH h1;have hlt:=zv hx;refine wp_skip (za (wp_seq (wp_block (wp_seq ?_))));refine zr st5 (sc rfl ((zh rfl (zb rfl)))
    (sc rfl ((zh rfl (zb rfl)))
    (sc rfl ((xf rfl (by kernel_rfl) (zb rfl) (zb rfl) rfl (by assumption)))
    (sc rfl ((zl rfl (by kernel_rfl) (zb rfl)))
    (sc rfl ((zH (l:=[.tmp 16]) rfl (by kernel_rfl) (.cons (zb rfl) .nil) (jV _)))
    (sc rfl ((xS rfl (zb rfl)))
    .nil)))))) [0,3,4,10,18] (λ _ _ _ st6=>?_)
   refine za ?_;refine zN (c:=18) st6 rfl (λ h2=>?_) (λ h2=>?_)
   ·
    have ht:=h2;refine wp_seq ?_;refine zm st6 [0,2,3,4,10,18] (λ _ _ _ st7=>?_);refine za ?_;refine wp_ret (zo (zd (zd (zo (zd ?_)))));refine yz rfl (λ _ h=>h) st7 (t:=2) rfl ?_;unfold zg;rw[all_fail hx (by simpa using ht)];rfl
   ·
    have hf:=h2;refine wp_skip (zf (za ?_));refine zr st6 (sc rfl ((zh rfl (zb rfl)))
     (sc rfl ((qz rfl (by decide) (zb rfl) zY (by simp only[arI];omega)))
     (sc rfl ((zF rfl (zb rfl)))
     .nil))) [0,3,4,10,18] (λ _ _ _ st8=>?_)
    refine za ⟨k+1,⟨st8.pick (kc 0 rfl (kc 3 rfl (kc 4 rfl .nil))),by omega,all_next hx hp (by simpa using hf)⟩,by omega⟩
  ·
   have hend:=XI h1;refine wp_exit (zi (zi (zE ?_)));refine za (wp_seq ?_);refine zm st5 [0,2,3,4,10] (λ _ _ _ st9=>?_);refine za (wp_ret ?_);refine yz rfl (λ _ h=>h) st9 (t:=2) rfl ?_;unfold zg;rw[all_end hend hp];rfl
theorem YI(s:Str)(hs:mid s):Fn Tryz.prog 135 [dt s] (dt (zu s)):=by
 refine xj (fn:=Tryz.f135) Tryz.func135 rfl (oD rfl) (λ M _ _ hm st0=>?_);refine wp_seq ?_;refine zm st0 [0,2] (λ _ _ _ st1=>?_);refine za (wp_seq ?_);refine zr st1 (sc rfl ((zh rfl (zb rfl)))
  (sc rfl ((qy rfl (zb rfl) (zO (by decide))))
  (sc rfl ((zh rfl (zb rfl)))
  (.cons rfl (by decide) (.guarded rfl rfl (by decide) rfl zx (λ hg=>zh rfl (zb rfl)))
  (.cons rfl (by decide) (.guarded rfl rfl (by decide) rfl zx (λ hg=>zH (l:=[.tmp 6]) rfl (by kernel_rfl) (.cons (ze hg rfl) .nil) (jW _ hs)))
  (sc rfl ((wu rfl (zb rfl) (zb rfl)))
  (sc rfl ((zF rfl (zb rfl)))
  .nil))))))) [0,2] (λ _ _ _ st2=>?_)
 refine za (wp_ret ?_);refine yz rfl (λ _ h=>h) st2 (t:=2) rfl ?_;rfl
open Go.RowKit
set_option maxRecDepth 10000
theorem spec_join_ok(l:List Str)(hl:ji l<=1152921504606846976):Fn Tryz.prog 101 [dt l] (dt (join l)):=by
 refine xj (fn:=Tryz.f101) Tryz.func101 rfl (oD rfl) (λ M w0 _ hm st0=>?_);have hlen:=st0.lenL (s:=0) rfl;refine wp_seq ?_;refine zm st0 [0,2] (λ _ _ _ st1=>?_);refine za (wp_seq ?_);refine zm st1 [0,2,3] (λ _ _ _ st2=>?_);refine za (wp_seq (wp_seq ?_));refine zm st2 [0,2,3,4] (λ _ _ _ st3=>?_);refine za (wp_block ?_);refine ZM (ι:=Nat) (λ k a w=>St (Frm.of w0) 22 M [(0,dt l),(3,dt (Zr (l.take k)).1),(4,dt (k:Int))] a w/\k<=l.length) (λ k=>l.length - k) 0 ?_ ?_
 ·
  exact⟨st3.pick (kc 0 rfl (kc 3 rfl (kc 4 rfl .nil))),Nat.zero_le _⟩
 ·
  rintro k a4 w4 ⟨st4,hk⟩
  refine wp_seq (wp_seq ?_);refine zm st4 [0,3,4,8] (λ _ _ _ st5=>?_);refine za ?_;refine zN (c:=8) st5 rfl (λ h1=>?_) (λ h1=>?_)
  ·
   obtain⟨x,hx⟩:=XH h1;have hlt:=zv hx;have hroom:=join_room hx;refine wp_skip (za (wp_seq (wp_block (wp_seq (wp_seq ?_)))));refine zm st5 [0,3,4,8,12] (λ _ _ _ st6=>?_);refine za ?_;refine zN (c:=12) st6 rfl (λ h2=>?_) (λ h2=>?_)
   ·
    have ht:=h2;refine zr st6 (sc rfl ((zh rfl (zb rfl)))
     (sc rfl ((JV rfl (zb rfl) (zO (by decide)) (by first | (unfold maxLen;omega) | (simp only[List.length_singleton];unfold maxLen;omega))))
     (sc rfl ((zF rfl (zb rfl)))
     .nil))) [0,3,4,8,12] (λ _ _ _ st7=>?_)
    refine za ?_;refine zr st7 (sc rfl ((zh rfl (zb rfl)))
     (sc rfl ((zh rfl (zb rfl)))
     (sc rfl ((zh rfl (zb rfl)))
     (sc rfl ((xf rfl (by kernel_rfl) (zb rfl) (zb rfl) rfl (by assumption)))
     (sc rfl ((zl rfl (by kernel_rfl) (zb rfl)))
     (sc rfl ((JV rfl (zb rfl) (zb rfl) (by first | (unfold maxLen;omega) | (simp only[List.length_append,List.length_singleton];unfold maxLen;omega))))
     (sc rfl ((zF rfl (zb rfl)))
     .nil))))))) [0,3,4,8,12] (λ _ _ _ st8=>?_)
    refine zf (za ?_);refine zr st8 (sc rfl ((zh rfl (zb rfl)))
     (sc rfl ((qz rfl (by decide) (zb rfl) zY (by simp only[arI];omega)))
     (sc rfl ((zF rfl (zb rfl)))
     .nil))) [0,3,4,8,12] (λ _ _ _ st9=>?_)
    refine za ⟨k+1,⟨?_,by omega⟩,by omega⟩
    first | rw[Qq hx ht] | rw[Jg hx hf]
    exact st9.pick (kc 0 rfl (kc 3 rfl (kc 4 rfl .nil)))
   ·
    have hf:=h2;refine wp_skip (za ?_);refine zr st6 (sc rfl ((zh rfl (zb rfl)))
     (sc rfl ((zh rfl (zb rfl)))
     (sc rfl ((zh rfl (zb rfl)))
     (sc rfl ((xf rfl (by kernel_rfl) (zb rfl) (zb rfl) rfl (by assumption)))
     (sc rfl ((zl rfl (by kernel_rfl) (zb rfl)))
     (sc rfl ((JV rfl (zb rfl) (zb rfl) (by first | (unfold maxLen;omega) | (simp only[List.length_append,List.length_singleton];unfold maxLen;omega))))
     (sc rfl ((zF rfl (zb rfl)))
     .nil))))))) [0,3,4,8,12] (λ _ _ _ st10=>?_)
    refine zf (za ?_);refine zr st10 (sc rfl ((zh rfl (zb rfl)))
     (sc rfl ((qz rfl (by decide) (zb rfl) zY (by simp only[arI];omega)))
     (sc rfl ((zF rfl (zb rfl)))
     .nil))) [0,3,4,8,12] (λ _ _ _ st11=>?_)
    refine za ⟨k+1,⟨?_,by omega⟩,by omega⟩
    first | rw[Qq hx ht] | rw[Jg hx hf]
    exact st11.pick (kc 0 rfl (kc 3 rfl (kc 4 rfl .nil)))
  ·
   have hend:=XI h1;refine wp_exit (zi (zi (zE ?_)));refine za (wp_seq ?_);refine zm st5 [0,2,3,4,8] (λ _ _ _ st12=>?_);refine za (wp_ret ?_);refine yz rfl (λ _ h=>h) st12 (t:=2) rfl ?_;exact join_end hend
theorem zbb(s:Str)(hs:mid s):Fn Tryz.prog 114 [dt s] (dt (zj s)):=by
 refine xj (fn:=Tryz.f114) Tryz.func114 rfl (oD rfl) (λ M _ _ hm st0=>?_);have hlen:s.l.length<=1099511627776:=hs;have hne:=X2 s dot;have hroom:=Y7 s dot;have hlr:=len_room (zq s dot);refine wp_seq ?_;refine zm st0 [0,2] (λ _ _ _ st1=>?_);refine za (wp_seq ?_);refine zr st1 (sc rfl ((zh rfl (zb rfl)))
  (sc rfl ((zH (l:=[.tmp 4,.const (.int .u8 46)]) rfl (by kernel_rfl) (.cons (zb rfl) (.cons (Yl (by decide)) .nil)) (ZO _ dot (by assumption))))
  (sc rfl ((zF rfl (zb rfl)))
  .nil))) [0,2,3] (λ _ _ _ st2=>?_)
 refine za (wp_seq ?_);refine zr st2 (sc rfl ((zh rfl (zb rfl)))
  (sc rfl ((zh rfl (zb rfl)))
  (sc rfl ((jQ rfl (by kernel_rfl) (zb rfl)))
  (sc rfl ((qz rfl (by decide) (zb rfl) zY (by simp only[arI];omega)))
  (sc rfl ((JX rfl (by kernel_rfl) (zb rfl) (zb rfl) (j:=(zq s dot).length - 1) (by simp only[arI];omega) (by omega)))
  (sc rfl ((zH (l:=[.tmp 10]) rfl (by kernel_rfl) (.cons (zb rfl) .nil) (spec_join_ok _ (by have:=Y6 (zq s dot) ((zq s dot).length - 1);omega))))
  (sc rfl ((zF rfl (zb rfl)))
  .nil))))))) [0,2,3] (λ _ _ _ st3=>?_)
 refine za (wp_ret ?_);refine yz rfl (λ _ h=>h) st3 (t:=2) rfl ?_;rfl
theorem ZD(p s:Str)(hc:p.l.length+s.l.length<=1152921504606846976):Fn Tryz.prog 105 [dt p,dt s] (dt (child p s)):=by
 refine xj (fn:=Tryz.f105) Tryz.func105 rfl (oD rfl) (λ M _ _ hm st0=>?_);refine wp_seq ?_;refine zm st0 [0,1,4] (λ _ _ _ st1=>?_);refine za (wp_seq (wp_seq ?_));refine zm st1 [0,1,4,6] (λ _ _ _ st2=>?_);refine za ?_;refine zN (c:=6) st2 rfl (λ h1=>?_) (λ h1=>?_)
 ·
  have ht:=h1;refine wp_seq ?_;refine zm st2 [0,1,4,6] (λ _ _ _ st3=>?_);refine za ?_;refine wp_ret (zd ?_);refine yz rfl (λ _ h=>h) st3 (t:=4) rfl ?_;exact(if_pos (oD ht)).symm
 ·
  have hf:=h1;refine wp_skip (za (wp_seq ?_));refine zr st2 (sc rfl ((zh rfl (zb rfl)))
   (sc rfl ((JV rfl (zb rfl) (zO (by decide)) (by first | (unfold maxLen;omega) | (simp only[List.length_singleton];unfold maxLen;omega))))
   (sc rfl ((zh rfl (zb rfl)))
   (sc rfl ((JV rfl (zb rfl) (zb rfl) (by first | (unfold maxLen;omega) | (simp only[List.length_append,List.length_singleton];unfold maxLen;omega))))
   (sc rfl ((zF rfl (zb rfl)))
   .nil))))) [0,1,4,6] (λ _ _ _ st4=>?_)
  refine za (wp_ret ?_);refine yz rfl (λ _ h=>h) st4 (t:=4) rfl ?_;exact(if_neg (of_decide_eq_false hf)).symm
theorem spec_last_ok(s:Str)(hs:mid s):Fn Tryz.prog 119 [dt s] (dt (xX s)):=by
 refine xj (fn:=Tryz.f119) Tryz.func119 rfl (oD rfl) (λ M _ _ hm st0=>?_);have hne:=X2 s dot;have hroom:=Y7 s dot;have hlen:=len_room (zq s dot);have hms:s.l.length<=1099511627776:=hs;refine wp_seq ?_;refine zm st0 [0,2] (λ _ _ _ st1=>?_);refine za (wp_seq ?_);refine zr st1 (sc rfl ((zh rfl (zb rfl)))
  (sc rfl ((zH (l:=[.tmp 4,.const (.int .u8 46)]) rfl (by kernel_rfl) (.cons (zb rfl) (.cons (Yl (by decide)) .nil)) (ZO _ dot (by assumption))))
  (sc rfl ((zF rfl (zb rfl)))
  .nil))) [0,2,3] (λ _ _ _ st2=>?_)
 refine za (wp_seq ?_);refine zr st2 (sc rfl ((zh rfl (zb rfl)))
  (sc rfl ((zh rfl (zb rfl)))
  (sc rfl ((jQ rfl (by kernel_rfl) (zb rfl)))
  (sc rfl ((qz rfl (by decide) (zb rfl) zY (by simp only[arI];omega)))
  (sc rfl ((xf rfl (by kernel_rfl) (zb rfl) (zb rfl) (k:=(zq s dot).length - 1) (by simp only[arI];omega) (last_get s)))
  (sc rfl ((zl rfl (by kernel_rfl) (zb rfl)))
  (sc rfl ((zF rfl (zb rfl)))
  .nil))))))) [0,2,3] (λ _ _ _ st3=>?_)
 refine za (wp_ret ?_);refine yz rfl (λ _ h=>h) st3 (t:=2) rfl ?_;rfl
theorem spec_under_ok(s p:Str)(hp:p.l.length<=1152921504606846976):Fn Tryz.prog 209 [dt s,dt p] (dt (under s p)):=by
 refine xj (fn:=Tryz.f209) Tryz.func209 rfl (oD rfl) (λ M _ _ hm st0=>?_);refine wp_seq ?_;refine zm st0 [0,1,4] (λ _ _ _ st1=>?_);refine za (wp_seq ?_);refine zr st1 (sc rfl ((zh rfl (zb rfl)))
  (sc rfl ((qy rfl (zb rfl) (zO (by decide))))
  (sc rfl ((zh rfl (zb rfl)))
  (.cons rfl (by decide) (.guarded rfl rfl (by decide) rfl zx (λ hg=>zh rfl (zb rfl)))
  (.cons rfl (by decide) (.guarded rfl rfl (by decide) rfl zx (λ hg=>zh rfl (zb rfl)))
  (.cons rfl (by decide) (.guarded rfl rfl (by decide) rfl zx (λ hg=>qy rfl (ze hg rfl) (ze hg rfl)))
  (sc rfl ((wu rfl (zb rfl) (zb rfl)))
  (sc rfl ((zh rfl (zb rfl)))
  (.cons rfl (by decide) (.guarded rfl rfl (by decide) rfl zx (λ hg=>zh rfl (zb rfl)))
  (.cons rfl (by decide) (.guarded rfl rfl (by decide) rfl zx (λ hg=>Wo rfl (by kernel_rfl) (ze hg rfl)))
  (.cons rfl (by decide) (.guarded rfl rfl (by decide) rfl zx (λ hg=>zh rfl (zb rfl)))
  (.cons rfl (by decide) (.guarded rfl rfl (by decide) rfl zx (λ hg=>Wo rfl (by kernel_rfl) (ze hg rfl)))
  (.cons rfl (by decide) (.guarded rfl rfl (by decide) rfl zx (λ hg=>wJ rfl (by decide) (ze hg rfl) (ze hg rfl)))
  (.cons rfl (by decide) (.guarded rfl rfl (by decide) rfl zx (λ hg=>zh rfl (ze hg rfl)))
  (.cons rfl (by decide) (.guarded2 rfl rfl (by decide) rfl zx (λ hg=>zh rfl (zb rfl)))
  (.cons rfl (by decide) (.guarded2 rfl rfl (by decide) rfl zx (λ hg=>zh rfl (zb rfl)))
  (.cons rfl (by decide) (.guarded2 rfl rfl (by decide) rfl zx (λ hg=>Wo rfl (by kernel_rfl) (ze hg rfl)))
  (.cons rfl (by decide) (.guarded2 rfl rfl (by decide) rfl zx (λ hg=>qz rfl (by decide) (ze hg rfl) zY (by simp only[arI];omega)))
  (.cons rfl (by decide) (.guarded2 rfl rfl (by decide) rfl zx (λ hg=>op_cutH rfl (by kernel_rfl) (ze hg rfl) (ze hg rfl) (by simp only[arI];omega) (by simp only[arI];have:=oD (and_r hg);omega)))
  (.cons rfl (by decide) (.guarded2 rfl rfl (by decide) rfl zx (λ hg=>zh rfl (zb rfl)))
  (.cons rfl (by decide) (.guarded2 rfl rfl (by decide) rfl zx (λ hg=>JV rfl (ze hg rfl) (zO (by decide)) (by first | (unfold maxLen;omega) | (simp only[List.length_singleton];unfold maxLen;omega))))
  (.cons rfl (by decide) (.guarded2 rfl rfl (by decide) rfl zx (λ hg=>qy rfl (ze hg rfl) (ze hg rfl)))
  (.cons rfl (by decide) (.guarded rfl rfl (by decide) rfl zx (λ hg=>yS rfl (ze hg rfl) (Y3 hg rfl)))
  (sc rfl ((wu rfl (zb rfl) (zb rfl)))
  (sc rfl ((zF rfl (zb rfl)))
  .nil))))))))))))))))))))))))) [0,1,4] (λ _ _ _ st2=>?_)
 refine za (wp_ret ?_);refine yz rfl (λ _ h=>h) st2 (t:=4) rfl ?_;exact under_of
theorem J4(f:File)(hf:smFile f):Fn Tryz.prog 66 [dt f] (dt (ZT f)):=by
 refine xj (fn:=Tryz.f66) Tryz.func66 rfl (oD rfl) (λ M _ _ hm st0=>?_);refine wp_seq ?_;refine zr st0 (sc rfl ((Y0 rfl (zb rfl)))
  (sc rfl ((zF rfl (zO (by decide))))
  .nil)) [0,1,2] (λ _ _ _ st1=>?_)
 refine za (wp_seq (wp_seq ?_));refine zm st1 [0,1,2,4] (λ _ _ _ st2=>?_);refine za ?_;refine zN (c:=4) st2 rfl (λ h1=>?_) (λ h1=>?_)
 ·
  have ht:=h1;refine wp_seq ?_;refine zm st2 [0,1,2,4] (λ _ _ _ st3=>?_);refine za ?_;refine wp_ret (zd ?_);refine yz rfl (λ _ h=>h) st3 (t:=2) rfl ?_;rw[ZT,if_pos ht]
 ·
  have hff:=h1;refine wp_skip (za (wp_seq ?_));refine zr st2 (sc rfl ((zt File.fld1 rfl (by kernel_rfl) (zb rfl)))
   (sc rfl ((zl rfl (by kernel_rfl) (zb rfl)))
   (sc rfl ((zt File.fld2 rfl (by kernel_rfl) (zb rfl)))
   (sc rfl ((zl rfl (by kernel_rfl) (zb rfl)))
   (sc rfl ((zH (l:=[.tmp 8,.tmp 10]) rfl (by kernel_rfl) (.cons (zb rfl) (.cons (zb rfl) .nil)) (ZD _ _ (by have:=hf.1;have:=hf.2.1;omega))))
   (sc rfl ((zF rfl (zb rfl)))
   .nil)))))) [0,1,2,4] (λ _ _ _ st4=>?_)
  refine za (wp_ret ?_);refine yz rfl (λ _ h=>h) st4 (t:=2) rfl ?_;rw[ZT,if_neg (by simp[hff])]
open Go.RowKit
set_option maxRecDepth 10000
theorem Qv(s:Stmt)(hs:smStmt s):Fn Tryz.prog 167 [dt s] (dt (zU s)):=by
 refine xj (fn:=Tryz.f167) Tryz.func167 rfl (oD rfl) (λ M _ _ hm st0=>?_);refine wp_seq ?_;refine zr st0 (sc rfl ((Y0 rfl (zb rfl)))
  (sc rfl ((zF rfl YZ))
  .nil)) [0,1,2] (λ _ _ _ st1=>?_)
 refine za (wp_seq (wp_seq ?_));refine zm st1 [0,1,2,4] (λ _ _ _ st2=>?_);refine za (wp_block (wp_seq ?_));refine zm st2 [0,1,2,4,5] (λ _ _ _ st3=>?_);refine za ?_;refine zN (c:=5) st3 rfl (λ h1=>?_) (λ h1=>?_)
 ·
  have k0:=h1;refine wp_seq ?_;refine zr st3 (sc rfl ((zt Stmt.fld1 rfl (by kernel_rfl) (zb rfl)))
   (sc rfl ((zl rfl (by kernel_rfl) (zb rfl)))
   (sc rfl ((zH (l:=[.tmp 8]) rfl (by kernel_rfl) (.cons (zb rfl) .nil) (jW _ (by have:=hs.1;unfold mid;omega))))
   (sc rfl ((zh rfl (zb rfl)))
   (.cons rfl (by decide) (.guarded rfl rfl (by decide) rfl zx (λ hg=>zt Stmt.fld2 rfl (by kernel_rfl) (zb rfl)))
   (.cons rfl (by decide) (.guarded rfl rfl (by decide) rfl zx (λ hg=>zl rfl (by kernel_rfl) (ze hg rfl)))
   (.cons rfl (by decide) (.guarded rfl rfl (by decide) rfl zx (λ hg=>wJ rfl (by decide) (ze hg rfl) zY))
   (sc rfl ((yS rfl (zb rfl) (zb rfl)))
   (sc rfl ((zh rfl (zb rfl)))
   (.cons rfl (by decide) (.guarded rfl rfl (by decide) rfl zx (λ hg=>zt Stmt.fld3 rfl (by kernel_rfl) (zb rfl)))
   (.cons rfl (by decide) (.guarded rfl rfl (by decide) rfl zx (λ hg=>zl rfl (by kernel_rfl) (ze hg rfl)))
   (.cons rfl (by decide) (.guarded rfl rfl (by decide) rfl zx (λ hg=>qy rfl (ze hg rfl) (zO (by decide))))
   (sc rfl ((yS rfl (zb rfl) (zb rfl)))
   (sc rfl ((zh rfl (zb rfl)))
   (.cons rfl (by decide) (.guarded rfl rfl (by decide) rfl zx (λ hg=>zt Stmt.fld4 rfl (by kernel_rfl) (zb rfl)))
   (.cons rfl (by decide) (.guarded rfl rfl (by decide) rfl zx (λ hg=>zl rfl (by kernel_rfl) (ze hg rfl)))
   (.cons rfl (by decide) (.guarded rfl rfl (by decide) rfl zx (λ hg=>wJ rfl (by decide) (ze hg rfl) zY))
   (sc rfl ((yS rfl (zb rfl) (zb rfl)))
   (sc rfl ((zF rfl (zb rfl)))
   .nil))))))))))))))))))) [0,1,2,4,5] (λ _ _ _ st4=>?_)
  refine za ?_;refine wp_ret (zo (zd ?_));refine yz rfl (λ _ h=>h) st4 (t:=2) rfl ?_;rw[zU,if_pos k0]
 ·
  have k0:=h1;refine wp_seq ?_;refine zm st3 [0,1,2,4,5,25] (λ _ _ _ st5=>?_);refine za ?_;refine zN (c:=25) st5 rfl (λ h2=>?_) (λ h2=>?_)
  ·
   have k1:=h2;refine wp_seq ?_;refine zr st5 (sc rfl ((zt Stmt.fld1 rfl (by kernel_rfl) (zb rfl)))
    (sc rfl ((zl rfl (by kernel_rfl) (zb rfl)))
    (sc rfl ((zH (l:=[.tmp 28]) rfl (by kernel_rfl) (.cons (zb rfl) .nil) (YI _ (by have:=hs.1;unfold mid;omega))))
    (sc rfl ((zh rfl (zb rfl)))
    (.cons rfl (by decide) (.guarded rfl rfl (by decide) rfl zx (λ hg=>zt Stmt.fld2 rfl (by kernel_rfl) (zb rfl)))
    (.cons rfl (by decide) (.guarded rfl rfl (by decide) rfl zx (λ hg=>zl rfl (by kernel_rfl) (ze hg rfl)))
    (.cons rfl (by decide) (.guarded rfl rfl (by decide) rfl zx (λ hg=>zH (l:=[.tmp 32,.const (.int .i64 0),.const (.int .i64 3)]) rfl (by kernel_rfl) (.cons (ze hg rfl) (.cons zY (.cons zY .nil))) (jL _ _ _)))
    (sc rfl ((yS rfl (zb rfl) (zb rfl)))
    (sc rfl ((zh rfl (zb rfl)))
    (.cons rfl (by decide) (.guarded rfl rfl (by decide) rfl zx (λ hg=>zt Stmt.fld1 rfl (by kernel_rfl) (zb rfl)))
    (.cons rfl (by decide) (.guarded rfl rfl (by decide) rfl zx (λ hg=>zl rfl (by kernel_rfl) (ze hg rfl)))
    (.cons rfl (by decide) (.guarded rfl rfl (by decide) rfl zx (λ hg=>Wn rfl (ze hg rfl) (zO (by decide))))
    (.cons rfl (by decide) (.guarded rfl rfl (by decide) rfl zx (λ hg=>zh rfl (ze hg rfl)))
    (.cons rfl (by decide) (.guarded2 rfl rfl (by decide) rfl zx (λ hg=>zt Stmt.fld2 rfl (by kernel_rfl) (zb rfl)))
    (.cons rfl (by decide) (.guarded2 rfl rfl (by decide) rfl zx (λ hg=>zl rfl (by kernel_rfl) (ze hg rfl)))
    (.cons rfl (by decide) (.guarded2 rfl rfl (by decide) rfl zx (λ hg=>wJ rfl (by decide) (ze hg rfl) zY))
    (.cons rfl (by decide) (.guarded rfl rfl (by decide) rfl zx (λ hg=>wu rfl (ze hg rfl) (Y3 hg rfl)))
    (sc rfl ((yS rfl (zb rfl) (zb rfl)))
    (sc rfl ((zh rfl (zb rfl)))
    (.cons rfl (by decide) (.guarded rfl rfl (by decide) rfl zx (λ hg=>zt Stmt.fld3 rfl (by kernel_rfl) (zb rfl)))
    (.cons rfl (by decide) (.guarded rfl rfl (by decide) rfl zx (λ hg=>zl rfl (by kernel_rfl) (ze hg rfl)))
    (.cons rfl (by decide) (.guarded rfl rfl (by decide) rfl zx (λ hg=>zH (l:=[.tmp 47]) rfl (by kernel_rfl) (.cons (ze hg rfl) .nil) (jV _)))
    (sc rfl ((yS rfl (zb rfl) (zb rfl)))
    (sc rfl ((zh rfl (zb rfl)))
    (.cons rfl (by decide) (.guarded rfl rfl (by decide) rfl zx (λ hg=>zt Stmt.fld4 rfl (by kernel_rfl) (zb rfl)))
    (.cons rfl (by decide) (.guarded rfl rfl (by decide) rfl zx (λ hg=>zl rfl (by kernel_rfl) (ze hg rfl)))
    (.cons rfl (by decide) (.guarded rfl rfl (by decide) rfl zx (λ hg=>wJ rfl (by decide) (ze hg rfl) zY))
    (sc rfl ((yS rfl (zb rfl) (zb rfl)))
    (sc rfl ((zF rfl (zb rfl)))
    .nil))))))))))))))))))))))))))))) [0,1,2,4,5,25] (λ _ _ _ st6=>?_)
   refine za ?_;refine wp_ret (zo (zd ?_));refine yz rfl (λ _ h=>h) st6 (t:=2) rfl ?_;rw[zU,if_neg (by rw[k0];decide),if_pos k1]
  ·
   have k1:=h2;refine wp_seq ?_;refine zm st5 [0,1,2,4,5,25,55] (λ _ _ _ st7=>?_);refine za ?_;refine zN (c:=55) st7 rfl (λ h3=>?_) (λ h3=>?_)
   ·
    have k2:=h3;refine wp_seq ?_;refine zr st7 (sc rfl ((zt Stmt.fld1 rfl (by kernel_rfl) (zb rfl)))
     (sc rfl ((zl rfl (by kernel_rfl) (zb rfl)))
     (sc rfl ((zH (l:=[.tmp 58]) rfl (by kernel_rfl) (.cons (zb rfl) .nil) (jW _ (by have:=hs.1;unfold mid;omega))))
     (sc rfl ((zh rfl (zb rfl)))
     (.cons rfl (by decide) (.guarded rfl rfl (by decide) rfl zx (λ hg=>zt Stmt.fld2 rfl (by kernel_rfl) (zb rfl)))
     (.cons rfl (by decide) (.guarded rfl rfl (by decide) rfl zx (λ hg=>zl rfl (by kernel_rfl) (ze hg rfl)))
     (.cons rfl (by decide) (.guarded rfl rfl (by decide) rfl zx (λ hg=>wJ rfl (by decide) (ze hg rfl) zY))
     (sc rfl ((yS rfl (zb rfl) (zb rfl)))
     (sc rfl ((zh rfl (zb rfl)))
     (.cons rfl (by decide) (.guarded rfl rfl (by decide) rfl zx (λ hg=>zt Stmt.fld3 rfl (by kernel_rfl) (zb rfl)))
     (.cons rfl (by decide) (.guarded rfl rfl (by decide) rfl zx (λ hg=>zl rfl (by kernel_rfl) (ze hg rfl)))
     (.cons rfl (by decide) (.guarded rfl rfl (by decide) rfl zx (λ hg=>qy rfl (ze hg rfl) (zO (by decide))))
     (sc rfl ((yS rfl (zb rfl) (zb rfl)))
     (sc rfl ((zh rfl (zb rfl)))
     (.cons rfl (by decide) (.guarded rfl rfl (by decide) rfl zx (λ hg=>zt Stmt.fld4 rfl (by kernel_rfl) (zb rfl)))
     (.cons rfl (by decide) (.guarded rfl rfl (by decide) rfl zx (λ hg=>zl rfl (by kernel_rfl) (ze hg rfl)))
     (.cons rfl (by decide) (.guarded rfl rfl (by decide) rfl zx (λ hg=>wJ rfl (by decide) (ze hg rfl) zY))
     (sc rfl ((yS rfl (zb rfl) (zb rfl)))
     (sc rfl ((zF rfl (zb rfl)))
     .nil))))))))))))))))))) [0,1,2,4,5,25,55] (λ _ _ _ st8=>?_)
    refine za ?_;refine wp_ret (zo (zd ?_));refine yz rfl (λ _ h=>h) st8 (t:=2) rfl ?_;rw[zU,if_neg (by rw[k0];decide),if_neg (by rw[k1];decide),if_pos k2]
   ·
    have k2:=h3;refine wp_seq ?_;refine zm st7 [0,1,2,4,5,25,55,75] (λ _ _ _ st9=>?_);refine za ?_;refine zN (c:=75) st9 rfl (λ h4=>?_) (λ h4=>?_)
    ·
     have k3:=h4;refine wp_seq ?_;refine zr st9 (sc rfl ((zt Stmt.fld1 rfl (by kernel_rfl) (zb rfl)))
      (sc rfl ((zl rfl (by kernel_rfl) (zb rfl)))
      (sc rfl ((qy rfl (zb rfl) (zO (by decide))))
      (sc rfl ((zh rfl (zb rfl)))
      (.cons rfl (by decide) (.guarded rfl rfl (by decide) rfl zx (λ hg=>zt Stmt.fld2 rfl (by kernel_rfl) (zb rfl)))
      (.cons rfl (by decide) (.guarded rfl rfl (by decide) rfl zx (λ hg=>zl rfl (by kernel_rfl) (ze hg rfl)))
      (.cons rfl (by decide) (.guarded rfl rfl (by decide) rfl zx (λ hg=>wJ rfl (by decide) (ze hg rfl) zY))
      (sc rfl ((yS rfl (zb rfl) (zb rfl)))
      (sc rfl ((zh rfl (zb rfl)))
      (.cons rfl (by decide) (.guarded rfl rfl (by decide) rfl zx (λ hg=>zt Stmt.fld3 rfl (by kernel_rfl) (zb rfl)))
      (.cons rfl (by decide) (.guarded rfl rfl (by decide) rfl zx (λ hg=>zl rfl (by kernel_rfl) (ze hg rfl)))
      (.cons rfl (by decide) (.guarded rfl rfl (by decide) rfl zx (λ hg=>zH (l:=[.tmp 87]) rfl (by kernel_rfl) (.cons (ze hg rfl) .nil) (jV _)))
      (sc rfl ((yS rfl (zb rfl) (zb rfl)))
      (sc rfl ((zh rfl (zb rfl)))
      (.cons rfl (by decide) (.guarded rfl rfl (by decide) rfl zx (λ hg=>zt Stmt.fld4 rfl (by kernel_rfl) (zb rfl)))
      (.cons rfl (by decide) (.guarded rfl rfl (by decide) rfl zx (λ hg=>zl rfl (by kernel_rfl) (ze hg rfl)))
      (.cons rfl (by decide) (.guarded rfl rfl (by decide) rfl zx (λ hg=>zH (l:=[.tmp 92,.const (.int .i64 0),.const (.int .i64 99)]) rfl (by kernel_rfl) (.cons (ze hg rfl) (.cons zY (.cons zY .nil))) (jL _ _ _)))
      (sc rfl ((yS rfl (zb rfl) (zb rfl)))
      (sc rfl ((zF rfl (zb rfl)))
      .nil))))))))))))))))))) [0,1,2,4,5,25,55,75] (λ _ _ _ st10=>?_)
     refine za ?_;refine wp_ret (zo (zd ?_));refine yz rfl (λ _ h=>h) st10 (t:=2) rfl ?_;rw[zU,if_neg (by rw[k0];decide),if_neg (by rw[k1];decide),if_neg (by rw[k2];decide),if_pos k3]
    ·
     have k3:=h4;refine wp_seq ?_;refine zm st9 [0,1,2,4,5,25,55,75,95] (λ _ _ _ st11=>?_);refine za ?_;refine zN (c:=95) st11 rfl (λ h5=>?_) (λ h5=>?_)
     ·
      have k4:=h5;refine wp_seq ?_;refine zr st11 (sc rfl ((zt Stmt.fld1 rfl (by kernel_rfl) (zb rfl)))
       (sc rfl ((zl rfl (by kernel_rfl) (zb rfl)))
       (sc rfl ((qy rfl (zb rfl) (zO (by decide))))
       (sc rfl ((zh rfl (zb rfl)))
       (.cons rfl (by decide) (.guarded rfl rfl (by decide) rfl zx (λ hg=>zt Stmt.fld2 rfl (by kernel_rfl) (zb rfl)))
       (.cons rfl (by decide) (.guarded rfl rfl (by decide) rfl zx (λ hg=>zl rfl (by kernel_rfl) (ze hg rfl)))
       (.cons rfl (by decide) (.guarded rfl rfl (by decide) rfl zx (λ hg=>wJ rfl (by decide) (ze hg rfl) zY))
       (sc rfl ((yS rfl (zb rfl) (zb rfl)))
       (sc rfl ((zh rfl (zb rfl)))
       (.cons rfl (by decide) (.guarded rfl rfl (by decide) rfl zx (λ hg=>zt Stmt.fld3 rfl (by kernel_rfl) (zb rfl)))
       (.cons rfl (by decide) (.guarded rfl rfl (by decide) rfl zx (λ hg=>zl rfl (by kernel_rfl) (ze hg rfl)))
       (.cons rfl (by decide) (.guarded rfl rfl (by decide) rfl zx (λ hg=>zH (l:=[.tmp 107]) rfl (by kernel_rfl) (.cons (ze hg rfl) .nil) (jV _)))
       (sc rfl ((yS rfl (zb rfl) (zb rfl)))
       (sc rfl ((zh rfl (zb rfl)))
       (.cons rfl (by decide) (.guarded rfl rfl (by decide) rfl zx (λ hg=>zt Stmt.fld4 rfl (by kernel_rfl) (zb rfl)))
       (.cons rfl (by decide) (.guarded rfl rfl (by decide) rfl zx (λ hg=>zl rfl (by kernel_rfl) (ze hg rfl)))
       (.cons rfl (by decide) (.guarded rfl rfl (by decide) rfl zx (λ hg=>wJ rfl (by decide) (ze hg rfl) zY))
       (sc rfl ((yS rfl (zb rfl) (zb rfl)))
       (sc rfl ((zF rfl (zb rfl)))
       .nil))))))))))))))))))) [0,1,2,4,5,25,55,75,95] (λ _ _ _ st12=>?_)
      refine za ?_;refine wp_ret (zo (zd ?_));refine yz rfl (λ _ h=>h) st12 (t:=2) rfl ?_;rw[zU,if_neg (by rw[k0];decide),if_neg (by rw[k1];decide),if_neg (by rw[k2];decide),if_neg (by rw[k3];decide),if_pos k4]
     ·
      have k4:=h5;refine wp_seq ?_;refine zm st11 [0,1,2,4,5,25,55,75,95,115] (λ _ _ _ st13=>?_);refine za ?_;refine zN (c:=115) st13 rfl (λ h6=>?_) (λ h6=>?_)
      ·
       have k5:=h6;refine wp_seq ?_;refine zr st13 (sc rfl ((zl rfl (by kernel_rfl) (zb rfl)))
        (sc rfl ((yH (parts:=[(0,.const (.int .i64 5))]) (ns:=[1,1,1,1,1]) (zs:=[[.int .i64 0],[.string ⟨⟨[]⟩⟩],[.int .i64 0],[.string ⟨⟨[]⟩⟩],[.int .i64 0]]) rfl rfl (by kernel_rfl) (by kernel_rfl) (λ w a hl=>by
    intro p hp;simp only[List.mem_cons,List.not_mem_nil,or_false] at hp;rcases hp with rfl
    ·
     exact
        ⟨by decide,rfl⟩) (λ w a hl=>Stmt.parts (x:=⟨5,⟨[]⟩,0,⟨[]⟩,0⟩) (OpdR.cells zY hl) jS ⟨rfl,trivial⟩ jS ⟨rfl,trivial⟩)))
        (sc rfl ((X1 rfl (by kernel_rfl) (zb rfl) (zb rfl)))
        (sc rfl ((zF rfl (zb rfl)))
        .nil)))) [0,1,2,4,5,25,55,75,95,115] (λ _ _ _ st14=>?_)
       refine za ?_;refine wp_ret (zo (zd ?_));refine yz rfl (λ _ h=>h) st14 (t:=2) rfl ?_;rw[zU,if_neg (by rw[k0];decide),if_neg (by rw[k1];decide),if_neg (by rw[k2];decide),if_neg (by rw[k3];decide),if_neg (by rw[k4];decide),if_pos k5]
      ·
       have k5:=h6;refine wp_skip (zf (za (wp_seq ?_)));refine zm st13 [0,1,2,4,5,25,55,75,95,115] (λ _ _ _ st15=>?_);refine za (wp_ret ?_);refine yz rfl (λ _ h=>h) st15 (t:=2) rfl ?_;rw[zU,if_neg (by rw[k0];decide),if_neg (by rw[k1];decide),if_neg (by rw[k2];decide),if_neg (by rw[k3];decide),if_neg (by rw[k4];decide),if_neg (by rw[k5];decide)]
theorem Qw(b:List Stmt)(hb:b.length<=1048576/\∀ s∈b,smStmt s):Fn Tryz.prog 136 [dt b] (dt (jK b)):=by
 refine xj (fn:=Tryz.f136) Tryz.func136 rfl (oD rfl) (λ M w0 _ hm st0=>?_);have hlen:=hb.1;refine wp_seq ?_;refine zm st0 [0,2] (λ _ _ _ st1=>?_);refine za (wp_seq (wp_seq ?_));refine zm st1 [0,2,3] (λ _ _ _ st2=>?_);refine za (wp_block ?_);refine ZM (ι:=Nat) (λ k a w=>St (Frm.of w0) 19 M [(0,dt b),(3,dt (k:Int))] a w/\k<=b.length/\(b.take k).all zU=true) (λ k=>b.length - k) 0 ?_ ?_
 ·
  exact⟨st2.pick (kc 0 rfl (kc 3 rfl .nil)),Nat.zero_le _,by simp⟩
 ·
  rintro k a3 w3 ⟨st3,hk,hp⟩
  refine wp_seq (wp_seq ?_);refine zm st3 [0,3,7] (λ _ _ _ st4=>?_);refine za ?_;refine zN (c:=7) st4 rfl (λ h1=>?_) (λ h1=>?_)
  ·
   obtain⟨x,hx⟩:=XH h1;have hlt:=zv hx;refine wp_skip (za (wp_seq (wp_block (wp_seq ?_))));refine zr st4 (sc rfl ((zh rfl (zb rfl)))
    (sc rfl ((zh rfl (zb rfl)))
    (sc rfl ((xf rfl (by kernel_rfl) (zb rfl) (zb rfl) rfl (by assumption)))
    (sc rfl ((zl rfl (by kernel_rfl) (zb rfl)))
    (sc rfl ((zH (l:=[.tmp 13]) rfl (by kernel_rfl) (.cons (zb rfl) .nil) (Qv _ (hb.2 _ (List.mem_of_getElem? hx)))))
    (sc rfl ((xS rfl (zb rfl)))
    .nil)))))) [0,3,7,15] (λ _ _ _ st5=>?_)
   refine za ?_;refine zN (c:=15) st5 rfl (λ h2=>?_) (λ h2=>?_)
   ·
    have ht:=h2;refine wp_seq ?_;refine zm st5 [0,2,3,7,15] (λ _ _ _ st6=>?_);refine za ?_;refine wp_ret (zo (zd (zd (zo (zd ?_)))));refine yz rfl (λ _ h=>h) st6 (t:=2) rfl ?_;unfold jK;rw[all_fail hx (by simpa using ht)];rfl
   ·
    have hf:=h2;refine wp_skip (zf (za ?_));refine zr st5 (sc rfl ((zh rfl (zb rfl)))
     (sc rfl ((qz rfl (by decide) (zb rfl) zY (by simp only[arI];omega)))
     (sc rfl ((zF rfl (zb rfl)))
     .nil))) [0,3,7,15] (λ _ _ _ st7=>?_)
    refine za ⟨k+1,⟨st7.pick (kc 0 rfl (kc 3 rfl .nil)),by omega,all_next hx hp (by simpa using hf)⟩,by omega⟩
  ·
   have hend:=XI h1;refine wp_exit (zi (zi (zE ?_)));refine za (wp_seq ?_);refine zm st4 [0,2,3,7] (λ _ _ _ st8=>?_);refine za (wp_ret ?_);refine yz rfl (λ _ h=>h) st8 (t:=2) rfl ?_;unfold jK;rw[all_end hend hp];rfl
theorem Qx(f:File)(hf:smFile f):Fn Tryz.prog 94 [dt f] (dt (wm f)):=by
 refine xj (fn:=Tryz.f94) Tryz.func94 rfl (oD rfl) (λ M _ _ hm st0=>?_);refine wp_seq ?_;refine zr st0 (sc rfl ((Y0 rfl (zb rfl)))
  (sc rfl ((zF rfl YZ))
  .nil)) [0,1,2] (λ _ _ _ st1=>?_)
 refine za (wp_seq (wp_seq ?_));refine zr st1 (sc rfl ((zt File.fld0 rfl (by kernel_rfl) (zb rfl)))
  (sc rfl ((zl rfl (by kernel_rfl) (zb rfl)))
  (sc rfl ((zH (l:=[.tmp 4,.const (.int .i64 0),.const (.int .i64 2)]) rfl (by kernel_rfl) (.cons (zb rfl) (.cons zY (.cons zY .nil))) (jL _ _ _)))
  (sc rfl ((xS rfl (zb rfl)))
  (sc rfl ((zh rfl (zb rfl)))
  (.cons rfl (by decide) (.guarded rfl rfl (by decide) rfl zx (λ hg=>zt File.fld4 rfl (by kernel_rfl) (zb rfl)))
  (.cons rfl (by decide) (.guarded rfl rfl (by decide) rfl zx (λ hg=>zl rfl (by kernel_rfl) (ze hg rfl)))
  (.cons rfl (by decide) (.guarded rfl rfl (by decide) rfl zx (λ hg=>zH (l:=[.tmp 9,.const (.int .i64 0),.const (.int .i64 99)]) rfl (by kernel_rfl) (.cons (ze hg rfl) (.cons zY (.cons zY .nil))) (jL _ _ _)))
  (.cons rfl (by decide) (.guarded rfl rfl (by decide) rfl zx (λ hg=>xS rfl (ze hg rfl)))
  (sc rfl ((wu rfl (zb rfl) (zb rfl)))
  (sc rfl ((zh rfl (zb rfl)))
  (.cons rfl (by decide) (.guarded rfl rfl (by decide) rfl zx (λ hg=>zt File.fld1 rfl (by kernel_rfl) (zb rfl)))
  (.cons rfl (by decide) (.guarded rfl rfl (by decide) rfl zx (λ hg=>zl rfl (by kernel_rfl) (ze hg rfl)))
  (.cons rfl (by decide) (.guarded rfl rfl (by decide) rfl zx (λ hg=>zH (l:=[.tmp 15]) rfl (by kernel_rfl) (.cons (ze hg rfl) .nil) (YI _ (by have:=hf.1;unfold mid;omega))))
  (.cons rfl (by decide) (.guarded rfl rfl (by decide) rfl zx (λ hg=>xS rfl (ze hg rfl)))
  (sc rfl ((wu rfl (zb rfl) (zb rfl)))
  (sc rfl ((zh rfl (zb rfl)))
  (.cons rfl (by decide) (.guarded rfl rfl (by decide) rfl zx (λ hg=>zt File.fld5 rfl (by kernel_rfl) (zb rfl)))
  (.cons rfl (by decide) (.guarded rfl rfl (by decide) rfl zx (λ hg=>zl rfl (by kernel_rfl) (ze hg rfl)))
  (.cons rfl (by decide) (.guarded rfl rfl (by decide) rfl zx (λ hg=>zH (l:=[.tmp 21]) rfl (by kernel_rfl) (.cons (ze hg rfl) .nil) (Qw _ ⟨hf.2.2.1,hf.2.2.2⟩)))
  (.cons rfl (by decide) (.guarded rfl rfl (by decide) rfl zx (λ hg=>xS rfl (ze hg rfl)))
  (sc rfl ((wu rfl (zb rfl) (zb rfl)))
  .nil)))))))))))))))))))))) [0,1,2,24] (λ _ _ _ st2=>?_)
 refine za ?_;refine zN (c:=24) st2 rfl (λ h1=>?_) (λ h1=>?_)
 ·
  have g1:=h1;refine wp_seq ?_;refine zm st2 [0,1,2,24] (λ _ _ _ st3=>?_);refine za ?_;refine wp_ret (zd ?_);refine yz rfl (λ _ h=>h) st3 (t:=2) rfl ?_;rw[wm,if_pos g1]
 ·
  have g1:=h1;refine wp_skip (za (wp_seq (wp_seq ?_)));refine zm st2 [0,1,2,24,26] (λ _ _ _ st4=>?_);refine za ?_;refine zN (c:=26) st4 rfl (λ h2=>?_) (λ h2=>?_)
  ·
   have g2:=h2;refine wp_seq ?_;refine zr st4 (sc rfl ((zt File.fld1 rfl (by kernel_rfl) (zb rfl)))
    (sc rfl ((zl rfl (by kernel_rfl) (zb rfl)))
    (sc rfl ((Wn rfl (zb rfl) (zO (by decide))))
    (sc rfl ((zh rfl (zb rfl)))
    (.cons rfl (by decide) (.guarded rfl rfl (by decide) rfl zx (λ hg=>zt File.fld2 rfl (by kernel_rfl) (zb rfl)))
    (.cons rfl (by decide) (.guarded rfl rfl (by decide) rfl zx (λ hg=>zl rfl (by kernel_rfl) (ze hg rfl)))
    (.cons rfl (by decide) (.guarded rfl rfl (by decide) rfl zx (λ hg=>qy rfl (ze hg rfl) (zO (by decide))))
    (sc rfl ((yS rfl (zb rfl) (zb rfl)))
    (sc rfl ((zF rfl (zb rfl)))
    .nil))))))))) [0,1,2,24,26] (λ _ _ _ st5=>?_)
   refine za ?_;refine wp_ret (zd ?_);refine yz rfl (λ _ h=>h) st5 (t:=2) rfl ?_;rw[wm,if_neg (by rw[g1];decide),if_pos g2];rfl
  ·
   have g2:=h2;refine wp_skip (za (wp_seq ?_));refine zr st4 (sc rfl ((zt File.fld2 rfl (by kernel_rfl) (zb rfl)))
    (sc rfl ((zl rfl (by kernel_rfl) (zb rfl)))
    (sc rfl ((zH (l:=[.tmp 36]) rfl (by kernel_rfl) (.cons (zb rfl) .nil) (jV _)))
    (sc rfl ((zh rfl (zb rfl)))
    (.cons rfl (by decide) (.guarded rfl rfl (by decide) rfl zx (λ hg=>zt File.fld1 rfl (by kernel_rfl) (zb rfl)))
    (.cons rfl (by decide) (.guarded rfl rfl (by decide) rfl zx (λ hg=>zl rfl (by kernel_rfl) (ze hg rfl)))
    (.cons rfl (by decide) (.guarded rfl rfl (by decide) rfl zx (λ hg=>zt File.fld2 rfl (by kernel_rfl) (zb rfl)))
    (.cons rfl (by decide) (.guarded rfl rfl (by decide) rfl zx (λ hg=>zl rfl (by kernel_rfl) (ze hg rfl)))
    (.cons rfl (by decide) (.guarded rfl rfl (by decide) rfl zx (λ hg=>zH (l:=[.tmp 40,.tmp 42]) rfl (by kernel_rfl) (.cons (ze hg rfl) (.cons (ze hg rfl) .nil)) (ZD _ _ (by have:=hf.1;have:=hf.2.1;omega))))
    (.cons rfl (by decide) (.guarded rfl rfl (by decide) rfl zx (λ hg=>zH (l:=[.tmp 43]) rfl (by kernel_rfl) (.cons (ze hg rfl) .nil) (jW _ (child_mid (by have:=hf.1;have:=hf.2.1;omega)))))
    (sc rfl ((yS rfl (zb rfl) (zb rfl)))
    (sc rfl ((zF rfl (zb rfl)))
    .nil)))))))))))) [0,1,2,24,26] (λ _ _ _ st6=>?_)
   refine za (wp_ret ?_);refine yz rfl (λ _ h=>h) st6 (t:=2) rfl ?_;rw[wm,if_neg (by rw[g1];decide),if_neg (by rw[g2];decide)]
theorem zaf(f g:File):Fn Tryz.prog 137 [dt f,dt g] (dt (we f g)):=by
 refine xj (fn:=Tryz.f137) Tryz.func137 rfl (oD rfl) (λ M _ _ hm st0=>?_);refine wp_seq ?_;refine zr st0 (sc rfl ((Y0 rfl (zb rfl)))
  (sc rfl ((Y0 rfl (zb rfl)))
  (sc rfl ((zF rfl YZ))
  .nil))) [0,1,2,3,4] (λ _ _ _ st1=>?_)
 refine za (wp_seq ?_);refine zr st1 (sc rfl ((zt File.fld0 rfl (by kernel_rfl) (zb rfl)))
  (sc rfl ((zl rfl (by kernel_rfl) (zb rfl)))
  (sc rfl ((zt File.fld0 rfl (by kernel_rfl) (zb rfl)))
  (sc rfl ((zl rfl (by kernel_rfl) (zb rfl)))
  (sc rfl ((wJ rfl (by decide) (zb rfl) (zb rfl)))
  (sc rfl ((zh rfl (zb rfl)))
  (.cons rfl (by decide) (.guarded rfl rfl (by decide) rfl zx (λ hg=>zt File.fld1 rfl (by kernel_rfl) (zb rfl)))
  (.cons rfl (by decide) (.guarded rfl rfl (by decide) rfl zx (λ hg=>zl rfl (by kernel_rfl) (ze hg rfl)))
  (.cons rfl (by decide) (.guarded rfl rfl (by decide) rfl zx (λ hg=>zt File.fld1 rfl (by kernel_rfl) (zb rfl)))
  (.cons rfl (by decide) (.guarded rfl rfl (by decide) rfl zx (λ hg=>zl rfl (by kernel_rfl) (ze hg rfl)))
  (.cons rfl (by decide) (.guarded rfl rfl (by decide) rfl zx (λ hg=>qy rfl (ze hg rfl) (ze hg rfl)))
  (sc rfl ((yS rfl (zb rfl) (zb rfl)))
  (sc rfl ((zh rfl (zb rfl)))
  (.cons rfl (by decide) (.guarded rfl rfl (by decide) rfl zx (λ hg=>zt File.fld3 rfl (by kernel_rfl) (zb rfl)))
  (.cons rfl (by decide) (.guarded rfl rfl (by decide) rfl zx (λ hg=>zl rfl (by kernel_rfl) (ze hg rfl)))
  (.cons rfl (by decide) (.guarded rfl rfl (by decide) rfl zx (λ hg=>zt File.fld3 rfl (by kernel_rfl) (zb rfl)))
  (.cons rfl (by decide) (.guarded rfl rfl (by decide) rfl zx (λ hg=>zl rfl (by kernel_rfl) (ze hg rfl)))
  (.cons rfl (by decide) (.guarded rfl rfl (by decide) rfl zx (λ hg=>op_eqT rfl (by kernel_rfl) (ze hg rfl) (ze hg rfl)))
  (sc rfl ((yS rfl (zb rfl) (zb rfl)))
  (sc rfl ((zh rfl (zb rfl)))
  (.cons rfl (by decide) (.guarded rfl rfl (by decide) rfl zx (λ hg=>zt File.fld2 rfl (by kernel_rfl) (zb rfl)))
  (.cons rfl (by decide) (.guarded rfl rfl (by decide) rfl zx (λ hg=>zl rfl (by kernel_rfl) (ze hg rfl)))
  (.cons rfl (by decide) (.guarded rfl rfl (by decide) rfl zx (λ hg=>zt File.fld2 rfl (by kernel_rfl) (zb rfl)))
  (.cons rfl (by decide) (.guarded rfl rfl (by decide) rfl zx (λ hg=>zl rfl (by kernel_rfl) (ze hg rfl)))
  (.cons rfl (by decide) (.guarded rfl rfl (by decide) rfl zx (λ hg=>qy rfl (ze hg rfl) (ze hg rfl)))
  (sc rfl ((yS rfl (zb rfl) (zb rfl)))
  (sc rfl ((zF rfl (zb rfl)))
  .nil))))))))))))))))))))))))))) [0,1,2,3,4] (λ _ _ _ st2=>?_)
 refine za (wp_ret ?_);refine yz rfl (λ _ h=>h) st2 (t:=4) rfl ?_;simp[we,cmpI]
theorem Z6(t:Tree)(f:File):Fn Tryz.prog 95 [dt t,dt f] (dt (xk t.files f)):=by
 refine xj (fn:=Tryz.f95) Tryz.func95 rfl (oD rfl) (λ M w0 _ hm st0=>?_);have hlen:=st0.fldL Tree.fld0 (s:=0) rfl;refine wp_seq ?_;refine Y2 st0 (sc rfl ((Y0 rfl (zb rfl)))
  (sc rfl ((Y0 rfl (zb rfl)))
  (sc rfl ((zF rfl zY))
  .nil)))
  (kc 0 rfl (kc 1 rfl (kc 2 rfl (kc 3 rfl (kc 4 rfl .nil))))) (λ _ _ _ st1=>?_)
 refine za (wp_seq (wp_seq ?_));refine Y2 st1 (sc rfl ((zF rfl zY))
  .nil)
  (kc 0 rfl (kc 1 rfl (kc 2 rfl (kc 3 rfl (kc 4 rfl (kc 5 rfl .nil)))))) (λ _ _ _ st2=>?_)
 refine za (wp_block ?_);refine ZM (ι:=Nat) (λ k a w=>St (Frm.of w0) 21 M [(0,dt t),(1,dt f),(2,dptr t),(3,dptr f),(5,dt (k:Int))] a w/\k<=t.files.length/\(t.files.take k).any (λ x=>we x f)=false) (λ k=>t.files.length - k) 0 ?_ ?_
 ·
  exact⟨st2.pick (kc 0 rfl (kc 1 rfl (kc 2 rfl (kc 3 rfl (kc 5 rfl .nil))))),Nat.zero_le _,by simp⟩
 ·
  rintro k a3 w3 ⟨st3,hk,hp⟩
  refine wp_seq (wp_seq ?_);refine Y2 st3 (sc rfl ((zh rfl (zb rfl)))
   (sc rfl ((zt Tree.fld0 rfl (by kernel_rfl) (zb rfl)))
   (sc rfl ((zl rfl (by kernel_rfl) (zb rfl)))
   (sc rfl ((jQ rfl (by kernel_rfl) (zb rfl)))
   (sc rfl ((wJ rfl (by decide) (zb rfl) (zb rfl)))
   .nil)))))
   (kc 0 rfl (kc 1 rfl (kc 2 rfl (kc 3 rfl (kc 5 rfl (kc 10 rfl .nil)))))) (λ _ _ _ st4=>?_)
  refine za ?_;refine zN (c:=10) st4 rfl (λ h1=>?_) (λ h1=>?_)
  ·
   obtain⟨x,hx⟩:=XH h1;have hlt:=zv hx;refine wp_skip (za (wp_seq (wp_block (wp_seq ?_))));refine Yo zw [[],[0],[],[0,1,2],[0,1,2,3],[],[0,1,2,3,4,5]] [[(2,nS)],[(13,0)],[(5,nS)],[(14,1),(15,2)],[(16,3)],[(3,nS)],[(17,4),(18,5)]] (by decide +kernel) st4 (D:=[_,_,_,_,_,_,_])
    (.cons rfl (by decide) rfl (.plain rfl (zt Tree.fld0 rfl (by kernel_rfl) (zb rfl)))
    (.cons rfl (by decide) rfl (.plain rfl (zl rfl (by kernel_rfl) (zb rfl)))
    (.cons rfl (by decide) rfl (.plain rfl (zh rfl (zb rfl)))
    (.cons rfl (by decide) rfl (.plain rfl (xf rfl (by kernel_rfl) (zb rfl) (zb rfl) rfl (by assumption)))
    (.cons rfl (by decide) rfl (.plain rfl (zl rfl (by kernel_rfl) (zb rfl)))
    (.cons rfl (by decide) rfl (.plain rfl (zl rfl (by kernel_rfl) (zb rfl)))
    (.cons rfl (by decide) rfl (.plain rfl (zH (l:=[.tmp 17,.tmp 18]) rfl (by kernel_rfl) (.cons (zb rfl) (.cons (zb rfl) .nil)) (zaf _ _)))
    .nil)))))))
    (kc 0 rfl (kc 1 rfl (kc 2 rfl (kc 3 rfl (kc 5 rfl (kc 10 rfl (kc 19 rfl .nil))))))) (λ _ _ _ st5=>?_)
   refine za ?_;refine zN (c:=19) st5 rfl (λ h2=>?_) (λ h2=>?_)
   ·
    have ht:=h2;refine wp_seq ?_;refine zm st5 [0,1,2,3,4,5,10,19] (λ _ _ _ st6=>?_);refine za ?_;refine wp_ret (zo (zd (zd (zo (zd ?_)))));refine yz rfl (λ _ h=>h) st6 (t:=4) rfl ?_;exact(idx_hit hp hx ht).symm
   ·
    have hf:=h2;refine wp_skip (zf (za ?_));refine zr st5 (sc rfl ((zh rfl (zb rfl)))
     (sc rfl ((qz rfl (by decide) (zb rfl) zY (by simp only[arI];omega)))
     (sc rfl ((zF rfl (zb rfl)))
     .nil))) [0,1,2,3,5,10,19] (λ _ _ _ st7=>?_)
    refine za ⟨k+1,⟨st7.pick (kc 0 rfl (kc 1 rfl (kc 2 rfl (kc 3 rfl (kc 5 rfl .nil))))),by omega,any_next hx hp hf⟩,by omega⟩
  ·
   have hend:=XI h1;refine wp_exit (zi (zi (zE ?_)));refine za (wp_seq ?_);refine zm st4 [0,1,2,3,4,5,10] (λ _ _ _ st8=>?_);refine za (wp_ret ?_);refine yz rfl (λ _ h=>h) st8 (t:=4) rfl ?_;exact(idx_end hend hp).symm
theorem spec_intAt_ok(l:List Int)(n:Int):Fn Tryz.prog 96 [dt l,dt n] (dt (intAt l n)):=by
 refine xj (fn:=Tryz.f96) Tryz.func96 rfl (oD rfl) (λ M w0 _ hm st0=>?_);have hlen:=st0.lenL (s:=0) rfl;refine wp_seq ?_;refine zm st0 [0,1,4] (λ _ _ _ st1=>?_);refine za (wp_seq (wp_seq ?_));refine zm st1 [0,1,4,5] (λ _ _ _ st2=>?_);refine za (wp_block ?_);refine ZM (ι:=Nat) (λ k a w=>St (Frm.of w0) 19 M [(0,dt l),(1,dt n),(5,dt (k:Int))] a w/\k<=l.length/\(l.take k).any (λ x=>x == n)=false) (λ k=>l.length - k) 0 ?_ ?_
 ·
  exact⟨st2.pick (kc 0 rfl (kc 1 rfl (kc 5 rfl .nil))),Nat.zero_le _,by simp⟩
 ·
  rintro k a3 w3 ⟨st3,hk,hp⟩
  refine wp_seq (wp_seq ?_);refine zm st3 [0,1,5,9] (λ _ _ _ st4=>?_);refine za ?_;refine zN (c:=9) st4 rfl (λ h1=>?_) (λ h1=>?_)
  ·
   obtain⟨x,hx⟩:=XH h1;have hlt:=zv hx;refine wp_skip (za (wp_seq (wp_block (wp_seq ?_))));refine zr st4 (sc rfl ((zh rfl (zb rfl)))
    (sc rfl ((zh rfl (zb rfl)))
    (sc rfl ((xf rfl (by kernel_rfl) (zb rfl) (zb rfl) rfl (by assumption)))
    (sc rfl ((zl rfl (by kernel_rfl) (zb rfl)))
    (sc rfl ((zh rfl (zb rfl)))
    (sc rfl ((wJ rfl (by decide) (zb rfl) (zb rfl)))
    .nil)))))) [0,1,5,9,17] (λ _ _ _ st5=>?_)
   refine za ?_;refine zN (c:=17) st5 rfl (λ h2=>?_) (λ h2=>?_)
   ·
    have ht:=h2;refine wp_seq ?_;refine zm st5 [0,1,4,5,9,17] (λ _ _ _ st6=>?_);refine za ?_;refine wp_ret (zo (zd (zd (zo (zd ?_)))));refine yz rfl (λ _ h=>h) st6 (t:=4) rfl ?_;exact(idx_hit hp hx ht).symm
   ·
    have hf:=h2;refine wp_skip (zf (za ?_));refine zr st5 (sc rfl ((zh rfl (zb rfl)))
     (sc rfl ((qz rfl (by decide) (zb rfl) zY (by simp only[arI];omega)))
     (sc rfl ((zF rfl (zb rfl)))
     .nil))) [0,1,5,9,17] (λ _ _ _ st7=>?_)
    refine za ⟨k+1,⟨st7.pick (kc 0 rfl (kc 1 rfl (kc 5 rfl .nil))),by omega,any_next hx hp hf⟩,by omega⟩
  ·
   have hend:=XI h1;refine wp_exit (zi (zi (zE ?_)));refine za (wp_seq ?_);refine zm st4 [0,1,4,5,9] (λ _ _ _ st8=>?_);refine za (wp_ret ?_);refine yz rfl (λ _ h=>h) st8 (t:=4) rfl ?_;exact(idx_end hend hp).symm
theorem WY  : Fn Tryz.prog 144 [] (dt Y8):=by
 refine xj (fn:=Tryz.f144) Tryz.func144 rfl (oD rfl) (λ M _ _ hm st0=>?_);refine wp_seq (wp_region_list ?_);refine wpl_alloc (n:=3) st0 rfl rfl rfl (by decide) (by kernel_rfl) .nil (λ b1 _ _ hb1 hn1 _ st1=>?_);refine wpList_nil (za (wp_seq (wp_region_list ?_)));refine WE 2 st1 (sc rfl ((ym (opds:=[]) (α:=Int) rfl (by kernel_rfl) (by kernel_rfl) rfl rfl (by decide) .nil))
  (sc rfl ((yH (parts:=[(0,.const (.int .i64 0)),(1,.const (.int .i64 (-1))),(2,.tmp 1)]) (ns:=[1,1,1]) (zs:=[[.int .i64 0],[.int .i64 0],[.slice none 0 0]]) rfl rfl (by kernel_rfl) (by kernel_rfl) (λ w a hl=>by
    intro p hp;simp only[List.mem_cons,List.not_mem_nil,or_false] at hp;rcases hp with rfl | rfl | rfl
    ·
     exact⟨by decide,rfl⟩
    ·
     exact⟨by decide,rfl⟩
    ·
     exact⟨by decide,Rep.len (α:=(List Int)) (OpdR.cells (zb rfl) hl)⟩) (λ w a hl=>Spec.parts (x:=⟨0,-1,[]⟩) (OpdR.cells zY hl) (OpdR.cells zY hl) (OpdR.cells (zb rfl) hl))))
  .nil))
  (kc 0 rfl (kc 2 rfl .nil)) (λ _ _ _ st2=>?_)
 refine Z5 st2 rfl rfl rfl (by kernel_rfl) rfl hb1 (.inr rfl) rfl (zb rfl) .nil (λ _ st3=>?_);refine wpList_nil (za (wp_ret ?_));refine ret_box rfl (by kernel_rfl) st3 (t:=0) rfl (λ _ h=>(.inl h)) ?_;rfl
open Go.RowKit
set_option maxRecDepth 10000
theorem zbc(t:Tree)(root:Int)(p:Str)(hp:p.l.length<=1152921504606846976):Fn Tryz.prog 194 [dt t,dt root,dt p] (dt (Yp t.files root p)):=by
 refine xj (fn:=Tryz.f194) Tryz.func194 rfl (oD rfl) (λ M w0 _ hm st0=>?_);have hlen:=st0.fldL Tree.fld0 (s:=0) rfl;refine wp_seq ?_;refine zr st0 (sc rfl ((Y0 rfl (zb rfl)))
  (sc rfl ((zF rfl YZ))
  .nil)) [0,1,2,3,6] (λ _ _ _ st1=>?_)
 refine za (wp_seq (wp_seq ?_));refine zm st1 [0,1,2,3,6,7] (λ _ _ _ st2=>?_);refine za (wp_block ?_);refine ZM (ι:=Nat) (λ k a w=>St (Frm.of w0) 44 M [(0,dt t),(1,dt root),(2,dt p),(3,dptr t),(7,dt (k:Int))] a w/\k<=t.files.length/\(t.files.take k).any (WT root p)=false) (λ k=>t.files.length - k) 0 ?_ ?_
 ·
  exact⟨st2.pick (kc 0 rfl (kc 1 rfl (kc 2 rfl (kc 3 rfl (kc 7 rfl .nil))))),Nat.zero_le _,by simp⟩
 ·
  rintro k a3 w3 ⟨st3,hk,hq⟩
  refine wp_seq (wp_seq ?_);refine zm st3 [0,1,2,3,7,12] (λ _ _ _ st4=>?_);refine za ?_;refine zN (c:=12) st4 rfl (λ h1=>?_) (λ h1=>?_)
  ·
   obtain⟨x,hx⟩:=XH h1;have hlt:=zv hx;refine wp_skip (za (wp_seq (wp_block (wp_seq ?_))));refine zr st4 (sc rfl ((zt Tree.fld0 rfl (by kernel_rfl) (zb rfl)))
    (sc rfl ((zl rfl (by kernel_rfl) (zb rfl)))
    (sc rfl ((zh rfl (zb rfl)))
    (sc rfl ((xf rfl (by kernel_rfl) (zb rfl) (zb rfl) rfl (by assumption)))
    (sc rfl ((zt File.fld0 rfl (by kernel_rfl) (zb rfl)))
    (sc rfl ((zl rfl (by kernel_rfl) (zb rfl)))
    (sc rfl ((zh rfl (zb rfl)))
    (sc rfl ((wJ rfl (by decide) (zb rfl) (zb rfl)))
    (sc rfl ((zh rfl (zb rfl)))
    (.cons rfl (by decide) (.guarded rfl rfl (by decide) rfl zx (λ hg=>zt Tree.fld0 rfl (by kernel_rfl) (zb rfl)))
    (.cons rfl (by decide) (.guarded rfl rfl (by decide) rfl zx (λ hg=>zl rfl (by kernel_rfl) (ze hg rfl)))
    (.cons rfl (by decide) (.guarded rfl rfl (by decide) rfl zx (λ hg=>zh rfl (zb rfl)))
    (.cons rfl (by decide) (.guarded rfl rfl (by decide) rfl zx (λ hg=>xf rfl (by kernel_rfl) (ze hg rfl) (ze hg rfl) rfl (by assumption)))
    (.cons rfl (by decide) (.guarded rfl rfl (by decide) rfl zx (λ hg=>zt File.fld1 rfl (by kernel_rfl) (ze hg rfl)))
    (.cons rfl (by decide) (.guarded rfl rfl (by decide) rfl zx (λ hg=>zl rfl (by kernel_rfl) (ze hg rfl)))
    (.cons rfl (by decide) (.guarded rfl rfl (by decide) rfl zx (λ hg=>Wn rfl (ze hg rfl) (zO (by decide))))
    (sc rfl ((yS rfl (zb rfl) (zb rfl)))
    (sc rfl ((zh rfl (zb rfl)))
    (.cons rfl (by decide) (.guarded rfl rfl (by decide) rfl zx (λ hg=>zt Tree.fld0 rfl (by kernel_rfl) (zb rfl)))
    (.cons rfl (by decide) (.guarded rfl rfl (by decide) rfl zx (λ hg=>zl rfl (by kernel_rfl) (ze hg rfl)))
    (.cons rfl (by decide) (.guarded rfl rfl (by decide) rfl zx (λ hg=>zh rfl (zb rfl)))
    (.cons rfl (by decide) (.guarded rfl rfl (by decide) rfl zx (λ hg=>xf rfl (by kernel_rfl) (ze hg rfl) (ze hg rfl) rfl (by assumption)))
    (.cons rfl (by decide) (.guarded rfl rfl (by decide) rfl zx (λ hg=>zt File.fld1 rfl (by kernel_rfl) (ze hg rfl)))
    (.cons rfl (by decide) (.guarded rfl rfl (by decide) rfl zx (λ hg=>zl rfl (by kernel_rfl) (ze hg rfl)))
    (.cons rfl (by decide) (.guarded rfl rfl (by decide) rfl zx (λ hg=>zh rfl (zb rfl)))
    (.cons rfl (by decide) (.guarded rfl rfl (by decide) rfl zx (λ hg=>zH (l:=[.tmp 38,.tmp 39]) rfl (by kernel_rfl) (.cons (ze hg rfl) (.cons (ze hg rfl) .nil)) (spec_under_ok _ _ (by assumption))))
    (sc rfl ((yS rfl (zb rfl) (zb rfl)))
    .nil))))))))))))))))))))))))))) [0,1,2,3,7,12,41] (λ _ _ _ st5=>?_)
   refine za ?_;refine zN (c:=41) st5 rfl (λ h2=>?_) (λ h2=>?_)
   ·
    have ht:=h2;refine wp_seq ?_;refine zm st5 [0,1,2,3,6,7,12,41] (λ _ _ _ st6=>?_);refine za ?_;refine wp_ret (zo (zd (zd (zo (zd ?_)))));refine yz rfl (λ _ h=>h) st6 (t:=6) rfl ?_;rw[Yp,any_hit (p:=WT root p) hx ht];rfl
   ·
    have hf:=h2;refine wp_skip (zf (za ?_));refine zr st5 (sc rfl ((zh rfl (zb rfl)))
     (sc rfl ((qz rfl (by decide) (zb rfl) zY (by simp only[arI];omega)))
     (sc rfl ((zF rfl (zb rfl)))
     .nil))) [0,1,2,3,7,12,41] (λ _ _ _ st7=>?_)
    refine za ⟨k+1,⟨st7.pick (kc 0 rfl (kc 1 rfl (kc 2 rfl (kc 3 rfl (kc 7 rfl .nil))))),by omega,any_next (p:=WT root p) hx hq hf⟩,by omega⟩
  ·
   have hend:=XI h1;refine wp_exit (zi (zi (zE ?_)));refine za (wp_seq ?_);refine zm st4 [0,1,2,3,6,7,12] (λ _ _ _ st8=>?_);refine za (wp_ret ?_);refine yz rfl (λ _ h=>h) st8 (t:=6) rfl ?_;rw[Yp,any_end hend hq];rfl
theorem Qy(l:List Int):Fn Tryz.prog 58 [dt l] (dt (wY l)):=by
 refine xj (fn:=Tryz.f58) Tryz.func58 rfl (oD rfl) (λ M w0 _ hm st0=>?_);have hlen:=st0.lenL (s:=0) rfl;refine wp_seq ?_;refine zm st0 [0,2] (λ _ _ _ st1=>?_);refine za (wp_seq (wp_seq ?_));refine zm st1 [0,2,3] (λ _ _ _ st2=>?_);refine za (wp_block ?_);refine ZM (ι:=Nat) (λ k a w=>St (Frm.of w0) 27 M [(0,dt l),(3,dt (k:Int))] a w/\k<=l.length/\WU l k=true) (λ k=>l.length - k) 0 ?_ ?_
 ·
  exact⟨st2.pick (kc 0 rfl (kc 3 rfl .nil)),Nat.zero_le _,rfl⟩
 ·
  rintro k a3 w3 ⟨st3,hk,hp⟩
  refine wp_seq (wp_seq ?_);refine zm st3 [0,3,7] (λ _ _ _ st4=>?_);refine za ?_;refine zN (c:=7) st4 rfl (λ h1=>?_) (λ h1=>?_)
  ·
   obtain⟨x,hx⟩:=XH h1;have hlt:=zv hx;refine wp_skip (za (wp_seq (wp_block (wp_seq ?_))));refine Yo zw [[],[],[0,1],[0,1,2],[0,1,2,3],[0,1,2,3,4],[0,1,2,3,4,5],[0,1,2,3,4,5,6],[0,1,2,3,4,5,6],[0,1,2,3,4,5,6,7,8],[0,1,2,3,4,5,6],[0,1,2,3,4,5,6],[0,1,2,3,4,5,6,10,11],[0,1,2,3,4,5,6,10,11,12],[0,1,2,3,4,5,6,7,8,9,10,11,12,13],[0,1,2,3,4,5,6,7,8,9,10,11,12,13,14],[0,1,2,3,4,5,6,7,8,9,10,11,12,13,14,15]] [[(0,nS)],[(3,nS)],[(10,0),(11,1)],[(12,2)],[(13,3)],[(14,4)],[(15,5)],[(0,nS),(16,6)],[(3,nS),(16,6)],[(17,7),(18,8),(16,6)],[(0,nS),(16,6)],[(3,nS),(16,6)],[(20,10),(21,11),(16,6)],[(22,12),(16,6)],[(19,9),(23,13),(16,6)],[(24,14),(16,6)],[(16,6),(25,15)]] (by decide +kernel) st4 (D:=[_,_,_,_,_,_,_,_,_,_,_,_,_,_,_,_,_])
    (.cons rfl (by decide) rfl (.plain rfl (zh rfl (zb rfl)))
    (.cons rfl (by decide) rfl (.plain rfl (zh rfl (zb rfl)))
    (.cons rfl (by decide) rfl (.plain rfl (xf rfl (by kernel_rfl) (zb rfl) (zb rfl) rfl (by assumption)))
    (.cons rfl (by decide) rfl (.plain rfl (zl rfl (by kernel_rfl) (zb rfl)))
    (.cons rfl (by decide) rfl (.plain rfl (zH (l:=[.tmp 13,.const (.int .i64 0),.const (.int .i64 2)]) rfl (by kernel_rfl) (.cons (zb rfl) (.cons zY (.cons zY .nil))) (jL _ _ _)))
    (.cons rfl (by decide) rfl (.plain rfl (xS rfl (zb rfl)))
    (.cons rfl (by decide) rfl (.plain rfl (zh rfl (zb rfl)))
    (.cons rfl (by decide) rfl (.guarded rfl rfl (by decide) rfl zx (λ hg=>zh rfl (zb rfl)))
    (.cons rfl (by decide) rfl (.guarded rfl rfl (by decide) rfl zx (λ hg=>zh rfl (zb rfl)))
    (.cons rfl (by decide) rfl (.guarded rfl rfl (by decide) rfl zx (λ hg=>JX rfl (by kernel_rfl) (ze hg rfl) (ze hg rfl) rfl (by omega)))
    (.cons rfl (by decide) rfl (.guarded rfl rfl (by decide) rfl zx (λ hg=>zh rfl (zb rfl)))
    (.cons rfl (by decide) rfl (.guarded rfl rfl (by decide) rfl zx (λ hg=>zh rfl (zb rfl)))
    (.cons rfl (by decide) rfl (.guarded rfl rfl (by decide) rfl zx (λ hg=>xf rfl (by kernel_rfl) (ze hg rfl) (ze hg rfl) rfl (by assumption)))
    (.cons rfl (by decide) rfl (.guarded rfl rfl (by decide) rfl zx (λ hg=>zl rfl (by kernel_rfl) (ze hg rfl)))
    (.cons rfl (by decide) rfl (.guarded rfl rfl (by decide) rfl zx (λ hg=>zH (l:=[.tmp 19,.tmp 23]) rfl (by kernel_rfl) (.cons (ze hg rfl) (.cons (ze hg rfl) .nil)) (spec_intAt_ok _ _)))
    (.cons rfl (by decide) rfl (.guarded rfl rfl (by decide) rfl zx (λ hg=>wJ rfl (by decide) (ze hg rfl) zY))
    (.cons rfl (by decide) rfl (.plain rfl (wu rfl (zb rfl) (zb rfl)))
    .nil)))))))))))))))))
    (kc 0 rfl (kc 3 rfl (kc 7 rfl (kc 26 rfl .nil)))) (λ _ _ _ st5=>?_)
   refine za ?_;refine zN (c:=26) st5 rfl (λ h2=>?_) (λ h2=>?_)
   ·
    have ht:=h2;refine wp_seq ?_;refine zm st5 [0,2,3,7,26] (λ _ _ _ st6=>?_);refine za ?_;refine wp_ret (zo (zd (zd (zo (zd ?_)))));refine yz rfl (λ _ h=>h) st6 (t:=2) rfl ?_;exact(validPath_bad hx ht).symm
   ·
    have hf:=h2;refine wp_skip (zf (za ?_));refine zr st5 (sc rfl ((zh rfl (zb rfl)))
     (sc rfl ((qz rfl (by decide) (zb rfl) zY (by simp only[arI];omega)))
     (sc rfl ((zF rfl (zb rfl)))
     .nil))) [0,3,7,26] (λ _ _ _ st7=>?_)
    refine za ⟨k+1,⟨st7.pick (kc 0 rfl (kc 3 rfl .nil)),by omega,pathTo_next hx hp hf⟩,by omega⟩
  ·
   have hend:=XI h1;refine wp_exit (zi (zi (zE ?_)));refine za (wp_seq ?_);refine zm st4 [0,2,3,7] (λ _ _ _ st8=>?_);refine za (wp_ret ?_);refine yz rfl (λ _ h=>h) st8 (t:=2) rfl ?_;exact(validPath_end hend hk hp).symm
theorem Qz(t:Tree)(ht:YN t):Fn Tryz.prog 57 [dt t] (dt (zR t)):=by
 refine xj (fn:=Tryz.f57) Tryz.func57 rfl (oD rfl) (λ M w0 _ hm st0=>?_);have hlen:=ht.1;refine wp_seq ?_;refine zr st0 (sc rfl ((Y0 rfl (zb rfl)))
  (sc rfl ((zF rfl YZ))
  .nil)) [0,1,2] (λ _ _ _ st1=>?_)
 refine za (wp_seq (wp_seq ?_));refine zm st1 [0,1,2,3] (λ _ _ _ st2=>?_);refine za (wp_block ?_);refine ZM (ι:=Nat) (λ k a w=>St (Frm.of w0) 33 M [(0,dt t),(1,dptr t),(3,dt (k:Int))] a w/\k<=t.files.length/\XJ t.files k=true) (λ k=>t.files.length - k) 0 ?_ ?_
 ·
  exact⟨st2.pick (kc 0 rfl (kc 1 rfl (kc 3 rfl .nil))),Nat.zero_le _,rfl⟩
 ·
  rintro k a3 w3 ⟨st3,hk,hp⟩
  refine wp_seq (wp_seq ?_);refine zm st3 [0,1,3,8] (λ _ _ _ st4=>?_);refine za ?_;refine zN (c:=8) st4 rfl (λ h1=>?_) (λ h1=>?_)
  ·
   obtain⟨x,hx⟩:=XH h1;have hlt:=zv hx;refine wp_skip (za (wp_seq (wp_block (wp_seq ?_))));refine Yo zw [[],[0],[],[0,1,2],[0,1,2,3],[0,1,2,3,4],[0,1,2,3,4,5],[0,1,2,3,4,5,6],[0,1,2,3,4,5,6,7],[0,1,2,3,4,5,6,7],[0,1,2,3,4,5,6,7,9],[0,1,2,3,4,5,6,7],[0,1,2,3,4,5,6,7,9,10,11],[0,1,2,3,4,5,6,7,9,10,11,12],[0,1,2,3,4,5,6,7,8,9,10,11,12,13],[0,1,2,3,4,5,6,7],[0,1,2,3,4,5,6,7,8,9,10,11,12,13,14,15],[0,1,2,3,4,5,6,7,8,9,10,11,12,13,14,15,16]] [[(1,nS)],[(11,0)],[(3,nS)],[(12,1),(13,2)],[(14,3)],[(15,4)],[(16,5)],[(17,6)],[(1,nS),(18,7)],[(1,nS),(18,7)],[(20,9),(18,7)],[(3,nS),(18,7)],[(21,10),(22,11),(18,7)],[(23,12),(18,7)],[(19,8),(24,13),(18,7)],[(3,nS),(18,7)],[(25,14),(26,15),(18,7)],[(18,7),(27,16)]] (by decide +kernel) st4 (D:=[_,_,_,_,_,_,_,_,_,_,_,_,_,_,_,_,_,_])
    (.cons rfl (by decide) rfl (.plain rfl (zt Tree.fld0 rfl (by kernel_rfl) (zb rfl)))
    (.cons rfl (by decide) rfl (.plain rfl (zl rfl (by kernel_rfl) (zb rfl)))
    (.cons rfl (by decide) rfl (.plain rfl (zh rfl (zb rfl)))
    (.cons rfl (by decide) rfl (.plain rfl (xf rfl (by kernel_rfl) (zb rfl) (zb rfl) rfl (by assumption)))
    (.cons rfl (by decide) rfl (.plain rfl (zl rfl (by kernel_rfl) (zb rfl)))
    (.cons rfl (by decide) rfl (.plain rfl (zH (l:=[.tmp 15]) rfl (by kernel_rfl) (.cons (zb rfl) .nil) (Qx _ (ht.2 _ (List.mem_of_getElem? hx)))))
    (.cons rfl (by decide) rfl (.plain rfl (xS rfl (zb rfl)))
    (.cons rfl (by decide) rfl (.plain rfl (zh rfl (zb rfl)))
    (.cons rfl (by decide) rfl (.guarded rfl rfl (by decide) rfl zx (λ hg=>zl rfl (by kernel_rfl) (zb rfl)))
    (.cons rfl (by decide) rfl (.guarded rfl rfl (by decide) rfl zx (λ hg=>zt Tree.fld0 rfl (by kernel_rfl) (zb rfl)))
    (.cons rfl (by decide) rfl (.guarded rfl rfl (by decide) rfl zx (λ hg=>zl rfl (by kernel_rfl) (ze hg rfl)))
    (.cons rfl (by decide) rfl (.guarded rfl rfl (by decide) rfl zx (λ hg=>zh rfl (zb rfl)))
    (.cons rfl (by decide) rfl (.guarded rfl rfl (by decide) rfl zx (λ hg=>xf rfl (by kernel_rfl) (ze hg rfl) (ze hg rfl) rfl (by assumption)))
    (.cons rfl (by decide) rfl (.guarded rfl rfl (by decide) rfl zx (λ hg=>zl rfl (by kernel_rfl) (ze hg rfl)))
    (.cons rfl (by decide) rfl (.guarded rfl rfl (by decide) rfl zx (λ hg=>zH (l:=[.tmp 19,.tmp 24]) rfl (by kernel_rfl) (.cons (ze hg rfl) (.cons (ze hg rfl) .nil)) (Z6 _ _)))
    (.cons rfl (by decide) rfl (.guarded rfl rfl (by decide) rfl zx (λ hg=>zh rfl (zb rfl)))
    (.cons rfl (by decide) rfl (.guarded rfl rfl (by decide) rfl zx (λ hg=>wJ rfl (by decide) (ze hg rfl) (ze hg rfl)))
    (.cons rfl (by decide) rfl (.plain rfl (wu rfl (zb rfl) (zb rfl)))
    .nil))))))))))))))))))
    (kc 0 rfl (kc 1 rfl (kc 3 rfl (kc 8 rfl (kc 28 rfl .nil))))) (λ _ _ _ st5=>?_)
   refine za ?_;refine zN (c:=28) st5 rfl (λ h2=>?_) (λ h2=>?_)
   ·
    have hq:=h2;refine wp_seq ?_;refine zm st5 [0,1,2,3,8,28] (λ _ _ _ st6=>?_);refine za ?_;refine wp_ret (zo (zd (zd (zo (zd ?_)))));refine yz rfl (λ _ h=>h) st6 (t:=2) rfl ?_;exact(validTree_bad hx hq).symm
   ·
    have hf:=h2;refine wp_skip (zf (za ?_));refine zr st5 (sc rfl ((zh rfl (zb rfl)))
     (sc rfl ((qz rfl (by decide) (zb rfl) zY (by simp only[arI];omega)))
     (sc rfl ((zF rfl (zb rfl)))
     .nil))) [0,1,3,8,28] (λ _ _ _ st7=>?_)
    refine za ⟨k+1,⟨st7.pick (kc 0 rfl (kc 1 rfl (kc 3 rfl .nil))),by omega,treeTo_next hx hp hf⟩,by omega⟩
  ·
   have hend:=XI h1;refine wp_exit (zi (zi (zE ?_)));refine za (wp_seq ?_);refine zm st4 [0,1,2,3,8] (λ _ _ _ st8=>?_);refine za (wp_ret ?_);refine yz rfl (λ _ h=>h) st8 (t:=2) rfl ?_;exact(validTree_end hend hk hp)
open Go.RowKit
set_option maxRecDepth 10000
open Go.RowKit
set_option maxRecDepth 10000
theorem zbd(t:Tree)(roots:List Int)(p s:Str)(hr:roots.length<=1099511627776)(hp:p.l.length+s.l.length<=1152921504606846975):Fn Tryz.prog 171 [dt t,dt roots,dt p,dt s] (dt (ju t.files roots p s)):=by
 refine xj (fn:=Tryz.f171) Tryz.func171 rfl (oD rfl) (λ M w0 _ hm st0=>?_);refine wp_seq (wp_region_list ?_);refine WE 1 st0 (sc rfl ((Y0 rfl (zb rfl)))
  .nil)
  (kc 0 rfl (kc 1 rfl (kc 2 rfl (kc 3 rfl (kc 4 rfl .nil))))) (λ _ _ _ st1=>?_)
 refine wpl_alloc (n:=3) st1 rfl rfl rfl (by decide) (by kernel_rfl) (kc 0 rfl (kc 1 rfl (kc 2 rfl (kc 3 rfl (kc 4 rfl .nil))))) (λ b2 _ _ hb2 hn2 _ st2=>?_);refine wpList_nil (za (wp_seq ?_));refine zr st2 (sc rfl ((yp (α:=Int) (e:=3) rfl (by kernel_rfl)))
  (sc rfl ((zF rfl (zb rfl)))
  .nil)) [0,1,2,3,4,8,9] (λ _ _ _ st3=>?_)
 refine za (wp_seq (wp_seq ?_));refine zm st3 [0,1,2,3,4,8,9,10] (λ _ _ _ st4=>?_);refine za (wp_block ?_);refine ZM (ι:=Nat×List Int) (λ i a w=>∃ g,TipOK (Frm.of w0) (insO (some b2) M) g/\St (Frm.of w0) 80 (insO g (insO (some b2) M)) [(0,dt t),(1,dt roots),(2,dt p),(3,dt s),(4,dptr t),(8,draw (some b2) 3),(9,dtip g 3 i.2),(10,dt (i.1:Int))] a w/\i.1<=roots.length/\i.2.length<=i.1/\ww t.files p s i.2 (roots.drop i.1)=ww t.files p s [] roots) (λ i=>roots.length - i.1) (0,[]) ?_ ?_
 ·
  exact⟨none,TipOK.none_,st4.ins0.pick (kc 0 rfl (kc 1 rfl (kc 2 rfl (kc 3 rfl (kc 4 rfl (kc 8 rfl (kc 9 rfl (kc 10 rfl .nil)))))))),Nat.zero_le _,Nat.zero_le _,rfl⟩
 ·
  rintro ⟨k,acc⟩ a5 w5 ⟨g5,hg5,st5,hk,ha,hrun⟩
  dsimp only at*;refine wp_seq (wp_seq ?_);refine zm st5 [0,1,2,3,4,8,9,10,18] (λ _ _ _ st6=>?_);refine za ?_;refine zN (c:=18) st6 rfl (λ h1=>?_) (λ h1=>?_)
  ·
   obtain⟨x,hx⟩:=XH h1;have hlt:=zv hx;refine wp_skip (za (wp_seq (wp_block (wp_seq ?_))));refine Yo zw [[],[],[],[1,2],[1,2,3],[],[],[5,6],[0,1,2,3,4,5,6,7],[0,1,2,3,4,5,6,7,8]] [[(4,nS)],[(1,nS)],[(10,nS)],[(22,1),(23,2)],[(24,3)],[(2,nS)],[(3,nS)],[(26,5),(27,6)],[(21,0),(25,4),(28,7)],[(29,8)]] (by decide +kernel) st6 (D:=[_,_,_,_,_,_,_,_,_,_])
    (.cons rfl (by decide) rfl (.plain rfl (zl rfl (by kernel_rfl) (zb rfl)))
    (.cons rfl (by decide) rfl (.plain rfl (zh rfl (zb rfl)))
    (.cons rfl (by decide) rfl (.plain rfl (zh rfl (zb rfl)))
    (.cons rfl (by decide) rfl (.plain rfl (xf rfl (by kernel_rfl) (zb rfl) (zb rfl) rfl (by assumption)))
    (.cons rfl (by decide) rfl (.plain rfl (zl rfl (by kernel_rfl) (zb rfl)))
    (.cons rfl (by decide) rfl (.plain rfl (zh rfl (zb rfl)))
    (.cons rfl (by decide) rfl (.plain rfl (zh rfl (zb rfl)))
    (.cons rfl (by decide) rfl (.plain rfl (zH (l:=[.tmp 26,.tmp 27]) rfl (by kernel_rfl) (.cons (zb rfl) (.cons (zb rfl) .nil)) (ZD _ _ (by omega))))
    (.cons rfl (by decide) rfl (.plain rfl (zH (l:=[.tmp 21,.tmp 25,.tmp 28]) rfl (by kernel_rfl) (.cons (zb rfl) (.cons (zb rfl) (.cons (zb rfl) .nil))) (zbc _ _ _ (child_le hp))))
    (.cons rfl (by decide) rfl (.plain rfl (zF rfl (zb rfl)))
    .nil))))))))))
    (kc 0 rfl (kc 1 rfl (kc 2 rfl (kc 3 rfl (kc 4 rfl (kc 8 rfl (kc 9 rfl (kc 10 rfl (kc 11 rfl (kc 18 rfl .nil)))))))))) (λ _ _ _ st7=>?_)
   refine za (wp_seq ?_);refine Yo zw [[],[],[],[1,2],[1,2,3],[],[],[5,6],[1,2,3,4,5,6,7],[0,1,2,3,4,5,6,7,8],[0,1,2,3,4,5,6,7,8,9]] [[(4,nS)],[(1,nS)],[(10,nS)],[(31,1),(32,2)],[(33,3)],[(2,nS)],[(3,nS)],[(35,5),(36,6)],[(34,4),(37,7)],[(30,0),(38,8)],[(39,9)]] (by decide +kernel) st7 (D:=[_,_,_,_,_,_,_,_,_,_,_])
    (.cons rfl (by decide) rfl (.plain rfl (zl rfl (by kernel_rfl) (zb rfl)))
    (.cons rfl (by decide) rfl (.plain rfl (zh rfl (zb rfl)))
    (.cons rfl (by decide) rfl (.plain rfl (zh rfl (zb rfl)))
    (.cons rfl (by decide) rfl (.plain rfl (xf rfl (by kernel_rfl) (zb rfl) (zb rfl) rfl (by assumption)))
    (.cons rfl (by decide) rfl (.plain rfl (zl rfl (by kernel_rfl) (zb rfl)))
    (.cons rfl (by decide) rfl (.plain rfl (zh rfl (zb rfl)))
    (.cons rfl (by decide) rfl (.plain rfl (zh rfl (zb rfl)))
    (.cons rfl (by decide) rfl (.plain rfl (zH (l:=[.tmp 35,.tmp 36]) rfl (by kernel_rfl) (.cons (zb rfl) (.cons (zb rfl) .nil)) (ZD _ _ (by omega))))
    (.cons rfl (by decide) rfl (.plain rfl (yH (parts:=[(0,.tmp 34),(1,.tmp 37),(3,.const (.bool true))]) (ns:=[1,1,1,1,1,1]) (zs:=[[.int .i64 0],[.string ⟨⟨[]⟩⟩],[.string ⟨⟨[]⟩⟩],[.bool false],[.int .i64 0],[.slice none 0 0]]) rfl rfl (by kernel_rfl) (by kernel_rfl) (λ w a hl=>by
    intro p hp;simp only[List.mem_cons,List.not_mem_nil,or_false] at hp;rcases hp with rfl | rfl | rfl
    ·
     exact⟨by decide,Rep.len (α:=Int) (OpdR.cells (zb rfl) hl)⟩
    ·
     exact⟨by decide,Rep.len (α:=Str) (OpdR.cells (zb rfl) hl)⟩
    ·
     exact⟨by decide,rfl⟩) (λ w a hl=>File.parts (x:=⟨x,child p s,⟨[]⟩,true,0,[]⟩) (OpdR.cells (zb rfl) hl) (OpdR.cells (zb rfl) hl) jS (OpdR.cells YZ hl) ⟨rfl,trivial⟩ wX)))
    (.cons rfl (by decide) rfl (.plain rfl (zH (l:=[.tmp 30,.tmp 38]) rfl (by kernel_rfl) (.cons (zb rfl) (.cons (zb rfl) .nil)) (Z6 _ _)))
    (.cons rfl (by decide) rfl (.plain rfl (zF rfl (zb rfl)))
    .nil)))))))))))
    (kc 0 rfl (kc 1 rfl (kc 2 rfl (kc 3 rfl (kc 4 rfl (kc 8 rfl (kc 9 rfl (kc 10 rfl (kc 11 rfl (kc 12 rfl (kc 18 rfl .nil))))))))))) (λ _ _ _ st8=>?_)
   refine za (wp_seq (wp_seq ?_));refine zr st8 (sc rfl ((zh rfl (zb rfl)))
    (sc rfl ((zh rfl (zb rfl)))
    (.cons rfl (by decide) (.guarded rfl rfl (by decide) rfl zx (λ hg=>zh rfl (zb rfl)))
    (.cons rfl (by decide) (.guarded rfl rfl (by decide) rfl zx (λ hg=>wJ rfl (by decide) (ze hg rfl) zY))
    (sc rfl ((yS rfl (zb rfl) (zb rfl)))
    .nil))))) [0,1,2,3,4,8,9,10,11,12,18,44] (λ _ _ _ st9=>?_)
   refine za ?_;refine zN (c:=44) st9 rfl (λ h2=>?_) (λ h2=>?_)
   ·
    have q1:=h2;refine wp_seq (wp_region_list ?_);refine WE 7 st9 (sc rfl ((zh rfl (zb rfl)))
     (sc rfl ((zh rfl (zb rfl)))
     (sc rfl ((zh rfl (zb rfl)))
     (sc rfl ((xf rfl (by kernel_rfl) (zb rfl) (zb rfl) rfl (by assumption)))
     (sc rfl ((zl rfl (by kernel_rfl) (zb rfl)))
     (sc rfl ((ym (opds:=[.tmp 49]) rfl (by kernel_rfl) (by kernel_rfl) rfl rfl (by decide) (.cons (zb rfl) .nil)))
     (sc rfl ((yH (parts:=[(0,.const (.int .i64 2)),(1,.tmp 45),(2,.tmp 50)]) (ns:=[1,1,1]) (zs:=[[.int .i64 0],[.int .i64 0],[.slice none 0 0]]) rfl rfl (by kernel_rfl) (by kernel_rfl) (λ w a hl=>by
    intro p hp;simp only[List.mem_cons,List.not_mem_nil,or_false] at hp;rcases hp with rfl | rfl | rfl
    ·
     exact⟨by decide,rfl⟩
    ·
     exact⟨by decide,Rep.len (α:=Int) (OpdR.cells (zb rfl) hl)⟩
    ·
     exact⟨by decide,Rep.len (α:=(List Int)) (OpdR.cells (zb rfl) hl)⟩) (λ w a hl=>Spec.parts (x:=⟨2,xk t.files ⟨x,child p s,⟨[]⟩,true,0,[]⟩,[x]⟩) (OpdR.cells zY hl) (OpdR.cells (zb rfl) hl) (OpdR.cells (zb rfl) hl))))
     .nil)))))))
     (kc 0 rfl (kc 1 rfl (kc 2 rfl (kc 3 rfl (kc 4 rfl (kc 8 rfl (kc 9 rfl (kc 10 rfl (kc 11 rfl (kc 12 rfl (kc 18 rfl (kc 44 rfl (kc 51 rfl .nil))))))))))))) (λ _ _ _ st10=>?_)
    refine Z5 st10 rfl rfl rfl (by kernel_rfl) rfl hb2 (.inl (.inr rfl)) rfl (zb rfl) (.cons (s:=0) rfl (λ _ _ h=>h) (.cons (s:=1) rfl (λ _ _ h=>h) (.cons (s:=2) rfl (λ _ _ h=>h) (.cons (s:=3) rfl (λ _ _ h=>h) (.cons (s:=4) rfl (λ _ _ h=>h) (.cons (s:=9) rfl (tip_off hg5 (.inr rfl)) (.cons (s:=10) rfl (λ _ _ h=>h) (.cons (s:=11) rfl (λ _ _ h=>h) (.cons (s:=12) rfl (λ _ _ h=>h) (.cons (s:=18) rfl (λ _ _ h=>h) (.cons (s:=44) rfl (λ _ _ h=>h) .nil))))))))))) (λ _ st11=>?_);refine wpList_nil (za ?_);refine wp_ret (zd (zo (zd (zd (zo (zd ?_))))));refine ret_box rfl (by kernel_rfl) st11 (t:=8) rfl (λ _ h=>(.inl (.inl h))) ?_;rw[ju,← hrun,drop_at hx,ww,if_pos q1]
   ·
    have q1:=h2;refine wp_skip (za (wp_seq ?_));refine Yo zw [[],[],[],[1,2],[1,2,3],[],[],[1,2,3,4,5,6],[0,1,2,3,4,5,6,7],[0,1,2,3,4,5,6,7,8]] [[(4,nS)],[(1,nS)],[(10,nS)],[(53,1),(54,2)],[(55,3)],[(2,nS)],[(3,nS)],[(56,4),(57,5),(58,6)],[(52,0),(59,7)],[(60,8)]] (by decide +kernel) st9 (D:=[_,_,_,_,_,_,_,_,_,_])
     (.cons rfl (by decide) rfl (.plain rfl (zl rfl (by kernel_rfl) (zb rfl)))
     (.cons rfl (by decide) rfl (.plain rfl (zh rfl (zb rfl)))
     (.cons rfl (by decide) rfl (.plain rfl (zh rfl (zb rfl)))
     (.cons rfl (by decide) rfl (.plain rfl (xf rfl (by kernel_rfl) (zb rfl) (zb rfl) rfl (by assumption)))
     (.cons rfl (by decide) rfl (.plain rfl (zl rfl (by kernel_rfl) (zb rfl)))
     (.cons rfl (by decide) rfl (.plain rfl (zh rfl (zb rfl)))
     (.cons rfl (by decide) rfl (.plain rfl (zh rfl (zb rfl)))
     (.cons rfl (by decide) rfl (.plain rfl (yH (parts:=[(0,.tmp 56),(1,.tmp 57),(2,.tmp 58)]) (ns:=[1,1,1,1,1,1]) (zs:=[[.int .i64 0],[.string ⟨⟨[]⟩⟩],[.string ⟨⟨[]⟩⟩],[.bool false],[.int .i64 0],[.slice none 0 0]]) rfl rfl (by kernel_rfl) (by kernel_rfl) (λ w a hl=>by
    intro p hp;simp only[List.mem_cons,List.not_mem_nil,or_false] at hp;rcases hp with rfl | rfl | rfl
    ·
     exact⟨by decide,Rep.len (α:=Int) (OpdR.cells (zb rfl) hl)⟩
    ·
     exact⟨by decide,Rep.len (α:=Str) (OpdR.cells (zb rfl) hl)⟩
    ·
     exact⟨by decide,Rep.len (α:=Str) (OpdR.cells (zb rfl) hl)⟩) (λ w a hl=>File.parts (x:=⟨x,p,s,false,0,[]⟩) (OpdR.cells (zb rfl) hl) (OpdR.cells (zb rfl) hl) (OpdR.cells (zb rfl) hl) ⟨rfl,trivial⟩ ⟨rfl,trivial⟩ wX)))
     (.cons rfl (by decide) rfl (.plain rfl (zH (l:=[.tmp 52,.tmp 59]) rfl (by kernel_rfl) (.cons (zb rfl) (.cons (zb rfl) .nil)) (Z6 _ _)))
     (.cons rfl (by decide) rfl (.plain rfl (zF rfl (zb rfl)))
     .nil))))))))))
     (kc 0 rfl (kc 1 rfl (kc 2 rfl (kc 3 rfl (kc 4 rfl (kc 8 rfl (kc 9 rfl (kc 10 rfl (kc 11 rfl (kc 12 rfl (kc 13 rfl (kc 18 rfl (kc 44 rfl .nil))))))))))))) (λ _ _ _ st12=>?_)
    refine za (wp_seq (wp_seq ?_));refine zm st12 [0,1,2,3,4,8,9,10,11,12,13,18,44,62] (λ _ _ _ st13=>?_);refine za ?_;refine zN (c:=62) st13 rfl (λ h3=>?_) (λ h3=>?_)
    ·
     have q2:=h3;refine wp_seq (wp_region_list ?_);refine WE 3 st13 (sc rfl ((zh rfl (zb rfl)))
      (sc rfl ((ym (opds:=[]) (α:=Int) rfl (by kernel_rfl) (by kernel_rfl) rfl rfl (by decide) .nil))
      (sc rfl ((yH (parts:=[(0,.const (.int .i64 1)),(1,.tmp 63),(2,.tmp 64)]) (ns:=[1,1,1]) (zs:=[[.int .i64 0],[.int .i64 0],[.slice none 0 0]]) rfl rfl (by kernel_rfl) (by kernel_rfl) (λ w a hl=>by
    intro p hp;simp only[List.mem_cons,List.not_mem_nil,or_false] at hp;rcases hp with rfl | rfl | rfl
    ·
     exact⟨by decide,rfl⟩
    ·
     exact⟨by decide,Rep.len (α:=Int) (OpdR.cells (zb rfl) hl)⟩
    ·
     exact⟨by decide,Rep.len (α:=(List Int)) (OpdR.cells (zb rfl) hl)⟩) (λ w a hl=>Spec.parts (x:=⟨1,xk t.files ⟨x,p,s,false,0,[]⟩,[]⟩) (OpdR.cells zY hl) (OpdR.cells (zb rfl) hl) (OpdR.cells (zb rfl) hl))))
      .nil)))
      (kc 0 rfl (kc 1 rfl (kc 2 rfl (kc 3 rfl (kc 4 rfl (kc 8 rfl (kc 9 rfl (kc 10 rfl (kc 11 rfl (kc 12 rfl (kc 13 rfl (kc 18 rfl (kc 44 rfl (kc 62 rfl (kc 65 rfl .nil))))))))))))))) (λ _ _ _ st14=>?_)
     refine Z5 st14 rfl rfl rfl (by kernel_rfl) rfl hb2 (.inl (.inr rfl)) rfl (zb rfl) (.cons (s:=0) rfl (λ _ _ h=>h) (.cons (s:=1) rfl (λ _ _ h=>h) (.cons (s:=2) rfl (λ _ _ h=>h) (.cons (s:=3) rfl (λ _ _ h=>h) (.cons (s:=4) rfl (λ _ _ h=>h) (.cons (s:=9) rfl (tip_off hg5 (.inr rfl)) (.cons (s:=10) rfl (λ _ _ h=>h) (.cons (s:=11) rfl (λ _ _ h=>h) (.cons (s:=12) rfl (λ _ _ h=>h) (.cons (s:=13) rfl (λ _ _ h=>h) (.cons (s:=18) rfl (λ _ _ h=>h) (.cons (s:=44) rfl (λ _ _ h=>h) (.cons (s:=62) rfl (λ _ _ h=>h) .nil))))))))))))) (λ _ st15=>?_);refine wpList_nil (za ?_);refine wp_ret (zd (zo (zd (zd (zo (zd ?_))))));refine ret_box rfl (by kernel_rfl) st15 (t:=8) rfl (λ _ h=>(.inl (.inl h))) ?_;rw[ju,← hrun,drop_at hx,ww,if_neg (by rw[q1];decide),if_pos q2]
    ·
     have q2:=h3;refine wp_skip (za (wp_seq ?_));refine zm st13 [0,1,2,3,4,8,9,10,11,12,13,18,44,62,66] (λ _ _ _ st16=>?_);refine za ?_;refine zN (c:=66) st16 rfl (λ h4=>?_) (λ h4=>?_)
     ·
      have q3:=h4;refine wp_region_list ?_;refine WE 6 st16 (sc rfl ((zh rfl (zb rfl)))
       (sc rfl ((zh rfl (zb rfl)))
       (sc rfl ((zh rfl (zb rfl)))
       (sc rfl ((xf rfl (by kernel_rfl) (zb rfl) (zb rfl) rfl (by assumption)))
       (sc rfl ((zl rfl (by kernel_rfl) (zb rfl)))
       (sc rfl ((ym (opds:=[.tmp 71]) rfl (by kernel_rfl) (by kernel_rfl) rfl rfl (by decide) (.cons (zb rfl) .nil)))
       .nil))))))
       (kc 0 rfl (kc 1 rfl (kc 2 rfl (kc 3 rfl (kc 4 rfl (kc 8 rfl (kc 9 rfl (kc 10 rfl (kc 11 rfl (kc 12 rfl (kc 13 rfl (kc 18 rfl (kc 44 rfl (kc 62 rfl (kc 66 rfl (kc 67 rfl (kc 72 rfl .nil))))))))))))))))) (λ _ _ _ st17=>?_)
      refine JZ (bytes:=8) (st17) rfl rfl rfl (by decide) (by kernel_rfl) rfl rfl yt (len1 (by omega)) (len1b (by omega)) (.cons (s:=0) rfl (λ _ _ h=>h) (.cons (s:=1) rfl (λ _ _ h=>h) (.cons (s:=2) rfl (λ _ _ h=>h) (.cons (s:=3) rfl (λ _ _ h=>h) (.cons (s:=4) rfl (λ _ _ h=>h) (.cons (s:=8) rfl (draw_off hg5 (.inr rfl)) (.cons (s:=10) rfl (λ _ _ h=>h) (.cons (s:=11) rfl (λ _ _ h=>h) (.cons (s:=12) rfl (λ _ _ h=>h) (.cons (s:=13) rfl (λ _ _ h=>h) (.cons (s:=18) rfl (λ _ _ h=>h) (.cons (s:=44) rfl (λ _ _ h=>h) (.cons (s:=62) rfl (λ _ _ h=>h) (.cons (s:=66) rfl (λ _ _ h=>h) .nil)))))))))))))) (hg5) (λ g18 _ _ hg18 st18=>?_);refine WE 1 st18 (sc rfl ((zF rfl (zb rfl)))
       .nil)
       (kc 0 rfl (kc 1 rfl (kc 2 rfl (kc 3 rfl (kc 4 rfl (kc 8 rfl (kc 9 rfl (kc 10 rfl (kc 11 rfl (kc 12 rfl (kc 13 rfl (kc 18 rfl (kc 44 rfl (kc 62 rfl (kc 66 rfl .nil))))))))))))))) (λ _ _ _ st19=>?_)
      refine wpList_nil (zf (za ?_));refine zr st19 (sc rfl ((zh rfl (zb rfl)))
       (sc rfl ((qz rfl (by decide) (zb rfl) zY (by simp only[arI];omega)))
       (sc rfl ((zF rfl (zb rfl)))
       .nil))) [0,1,2,3,4,8,9,10,11,12,13,18,44,62,66] (λ _ _ _ st20=>?_)
      refine za ⟨(k+1,acc++[x]),⟨g18,hg18,st20.pick (kc 0 rfl (kc 1 rfl (kc 2 rfl (kc 3 rfl (kc 4 rfl (kc 8 rfl (kc 9 rfl (kc 10 rfl .nil)))))))),by dsimp only;omega,by dsimp only;rw[List.length_append];exact Nat.succ_le_succ ha,by dsimp only;rw[← hrun,drop_at hx];exact(by rw[ww,if_neg (by rw[q1];decide),if_neg (by rw[q2];decide),if_pos q3])⟩,by dsimp only;omega⟩
     ·
      have q3:=h4;refine wp_skip (zf (za ?_));refine zr st16 (sc rfl ((zh rfl (zb rfl)))
       (sc rfl ((qz rfl (by decide) (zb rfl) zY (by simp only[arI];omega)))
       (sc rfl ((zF rfl (zb rfl)))
       .nil))) [0,1,2,3,4,8,9,10,11,12,13,18,44,62,66] (λ _ _ _ st21=>?_)
      refine za ⟨(k+1,acc),⟨g5,hg5,st21.pick (kc 0 rfl (kc 1 rfl (kc 2 rfl (kc 3 rfl (kc 4 rfl (kc 8 rfl (kc 9 rfl (kc 10 rfl .nil)))))))),by dsimp only;omega,by dsimp only;omega,by dsimp only;rw[← hrun,drop_at hx];exact(by rw[ww,if_neg (by rw[q1];decide),if_neg (by rw[q2];decide),if_neg (by rw[q3];decide)])⟩,by dsimp only;omega⟩
  ·
   have hend:=XI h1;refine wp_exit (zi (zi (zE ?_)));refine za (wp_seq (wp_seq ?_));refine zr st6 (sc rfl ((zh rfl (zb rfl)))
    (sc rfl ((op_lenT rfl (by kernel_rfl) (zb rfl)))
    (sc rfl ((wJ rfl (by decide) (zb rfl) zY))
    .nil))) [0,1,2,3,4,8,9,10,18,76] (λ _ _ _ st22=>?_)
   refine za ?_;refine zN (c:=76) st22 rfl (λ h5=>?_) (λ h5=>?_)
   ·
    have q4:=h5;refine wp_seq ?_;have st23:=st22.freeze hg5 (s:=9) rfl (.cons (s:=0) rfl (λ _ _ h=>h) (.cons (s:=1) rfl (λ _ _ h=>h) (.cons (s:=2) rfl (λ _ _ h=>h) (.cons (s:=3) rfl (λ _ _ h=>h) (.cons (s:=4) rfl (λ _ _ h=>h) (.cons (s:=8) rfl (draw_off hg5 (.inr rfl)) (.cons (s:=10) rfl (λ _ _ h=>h) (.cons (s:=18) rfl (λ _ _ h=>h) (.cons (s:=76) rfl (λ _ _ h=>h) .nil)))))))));refine wp_region_list ?_;refine WE 2 st23 (sc rfl ((zh rfl (zb rfl)))
     (sc rfl ((yH (parts:=[(0,.const (.int .i64 3)),(1,.const (.int .i64 (-1))),(2,.tmp 77)]) (ns:=[1,1,1]) (zs:=[[.int .i64 0],[.int .i64 0],[.slice none 0 0]]) rfl rfl (by kernel_rfl) (by kernel_rfl) (λ w a hl=>by
    intro p hp;simp only[List.mem_cons,List.not_mem_nil,or_false] at hp;rcases hp with rfl | rfl | rfl
    ·
     exact⟨by decide,rfl⟩
    ·
     exact⟨by decide,rfl⟩
    ·
     exact⟨by decide,Rep.len (α:=(List Int)) (OpdR.cells (zb rfl) hl)⟩) (λ w a hl=>Spec.parts (x:=⟨3,-1,acc⟩) (OpdR.cells zY hl) (OpdR.cells zY hl) (OpdR.cells (zb rfl) hl))))
     .nil))
     (kc 0 rfl (kc 1 rfl (kc 2 rfl (kc 3 rfl (kc 4 rfl (kc 8 rfl (kc 9 rfl (kc 10 rfl (kc 18 rfl (kc 76 rfl (kc 78 rfl .nil))))))))))) (λ _ _ _ st24=>?_)
    refine Z5 st24 rfl rfl rfl (by kernel_rfl) rfl hb2 (.inr rfl) rfl (zb rfl) (.cons (s:=0) rfl (λ _ _ h=>h) (.cons (s:=1) rfl (λ _ _ h=>h) (.cons (s:=2) rfl (λ _ _ h=>h) (.cons (s:=3) rfl (λ _ _ h=>h) (.cons (s:=4) rfl (λ _ _ h=>h) (.cons (s:=9) rfl (λ _ _ h=>h) (.cons (s:=10) rfl (λ _ _ h=>h) (.cons (s:=18) rfl (λ _ _ h=>h) (.cons (s:=76) rfl (λ _ _ h=>h) .nil))))))))) (λ _ st25=>?_);refine wpList_nil (za ?_);refine wp_ret (zd ?_);refine ret_box rfl (by kernel_rfl) st25 (t:=8) rfl (λ _ h=>(.inl h)) ?_;rw[ju,← hrun,List.drop_of_length_le hend,ww,if_pos q4]
   ·
    have q4:=h5;refine wp_skip (za (wp_seq (wp_region_list ?_)));refine WE 1 st22 (sc rfl ((zH (l:=[]) rfl (by kernel_rfl) .nil (WY )))
     .nil)
     (kc 0 rfl (kc 1 rfl (kc 2 rfl (kc 3 rfl (kc 4 rfl (kc 8 rfl (kc 9 rfl (kc 10 rfl (kc 18 rfl (kc 76 rfl (kc 79 rfl .nil))))))))))) (λ _ _ _ st26=>?_)
    refine Z5 st26 rfl rfl rfl (by kernel_rfl) rfl hb2 (.inl (.inr rfl)) rfl (zb rfl) (.cons (s:=0) rfl (λ _ _ h=>h) (.cons (s:=1) rfl (λ _ _ h=>h) (.cons (s:=2) rfl (λ _ _ h=>h) (.cons (s:=3) rfl (λ _ _ h=>h) (.cons (s:=4) rfl (λ _ _ h=>h) (.cons (s:=9) rfl (tip_off hg5 (.inr rfl)) (.cons (s:=10) rfl (λ _ _ h=>h) (.cons (s:=18) rfl (λ _ _ h=>h) (.cons (s:=76) rfl (λ _ _ h=>h) .nil))))))))) (λ _ st27=>?_);refine wpList_nil (za (wp_ret ?_));refine ret_box rfl (by kernel_rfl) st27 (t:=8) rfl (λ _ h=>(.inl (.inl h))) ?_;rw[ju,← hrun,List.drop_of_length_le hend,ww,if_neg (by rw[q4];decide)]
open Go.RowKit
set_option maxRecDepth 10000
end Go.Proofs.YtnlhpkbphdbknaaGreatDoor
