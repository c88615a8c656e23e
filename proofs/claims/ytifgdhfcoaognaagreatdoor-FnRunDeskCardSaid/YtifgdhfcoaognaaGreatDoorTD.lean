import Derived.Test.YtifgdhfcoaognaaGreatDoorTC
import Derived.Test.YtifgdhfcoaognaaGreatDoorTB
import Derived.Test.YtifgdhfcoaognaaGreatDoorProg
import Derived.Test.YtifgdhfcoaognaaGreatDoorTA
namespace Go.Proofs.YtifgdhfcoaognaaGreatDoor
open Go.RowKit
attribute [local irreducible] OpRel OpdR
set_option maxRecDepth 10000
theorem yc:Tryz.prog.follows .mixedOrders=true:=by kernel_rfl
theorem qg(n lo up:Int):Fn Tryz.prog 38 [dt n,dt lo,dt up] (dt (inR n lo up)):=by
 refine yU (fn:=Tryz.f38) Tryz.func38 Z (λ M _ _ hm st0=>?_);refine wqw ?_;refine zj st0 [0,1,2,6] (λ _ _ _ st1=>?_);refine zk st1 (sc Z (zr Z T)
  (sc Z (zr Z T)
  (sc Z (wQ Z T T)
  (sc Z (zr Z T)
  (sg Z Z (λ hg=>zr Z T)
  (sg Z Z (λ hg=>zr Z T)
  (sg Z Z (λ hg=>wQ Z V V)
  (sc Z (xk Z T T)
  (sc Z (yo Z T)
  .nil))))))))) [0,1,2,6] (λ _ _ _ st2=>?_)
 refine ym Z st2 (t:=6) Z ?_;rfl
theorem zef(l:List Str)(s:Str):Fn Tryz.prog 188 [dt l,dt s] (dt (textAt l s)):=by
 refine yU (fn:=Tryz.f188) Tryz.func188 Z (λ M w0 _ hm st0=>?_);have hlen:=st0.lenL (s:=0) Z;refine Kc ?_;refine zj st0 [0,1,4] (λ _ _ _ st1=>?_);refine za ?_;refine Kc ?_;refine Kc ?_;refine zj st1 [0,1,4,5] (λ _ _ _ st2=>?_);refine za ?_;refine wp_block ?_;refine jD (ι:=Nat) (λ k a w=>St (Frm.of w0) 19 M [(0,dt l),(1,dt s),(5,dt (k:Int))] a w/\k<=l.length/\(l.take k).any (λ x=>decide (x=s))=false) (λ k=>l.length - k) 0 ?_ ?_
 ·exact⟨st2.pick (pT [0,1,5]),Nat.zero_le _,by simp⟩
 ·rintro k a3 w3 ⟨st3,hk,hp⟩
  refine Kc ?_;refine Kc ?_;refine zj st3 [0,1,5,9] (λ _ _ _ st4=>?_);refine za ?_;refine zJ (c:=9) st4 Z (λ h1=>?_) λ h1=>?_
  ·obtain⟨x,hx⟩:=Y1 h1;have hlt:=zG hx;refine wp_skip ?_;refine za ?_;refine Kc ?_;refine wp_block ?_;refine Kc ?_;refine zk st4 (sp 2 (r:=by exact sc Z (yJ Z T T Z (by assumption))<|segA)) [0,1,5,9,17] (λ _ _ _ st5=>?_);refine za ?_;refine zJ (c:=17) st5 Z (λ h2=>?_) λ h2=>?_
   ·have ht:=h2;refine Kc ?_;refine zj st5 [0,1,4,5,9,17] (λ _ _ _ st6=>?_);refine za ?_;refine wp_ret (yq (zK (zK (yq (zK ?_)))));refine ym Z st6 (t:=4) Z ?_;exact(idx_hit hp hx ht).symm
   ·have hf:=h2;refine wp_skip ?_;refine z3 ?_;refine za ?_;refine zk st5 (sp 1 (r:=by exact sc Z (wN Z T zT (by simp only[arI];omega))<|segA)) [0,1,5,9,17] (λ _ _ _ st7=>?_);refine za ⟨k+1,⟨st7.pick (pT [0,1,5]),by omega,zbX hx hp hf⟩,by omega⟩
  ·have hend:=Y2 h1;refine wp_exit (zZ (zZ (y6 ?_)));refine za ?_;refine Kc ?_;refine zj st4 [0,1,4,5,9] (λ _ _ _ st8=>?_);refine za ?_;refine wp_ret ?_;refine ym Z st8 (t:=4) Z ?_;exact(idx_end hend hp).symm
theorem zdQ(l:List Str)(s:Str):Fn Tryz.prog 158 [dt l,dt s] (dt (zb0 l s)):=by
 refine yU (fn:=Tryz.f158) Tryz.func158 Z (λ M _ _ hm st0=>?_);refine wqw ?_;refine zj st0 [0,1,4] (λ _ _ _ st1=>?_);refine zk st1 (sp 2 (r:=by exact sc Z (zA (l:=[.tmp 5,.tmp 6]) Z (.cons T (.cons T .nil)) (zef _ _))<|segA)) [0,1,4] (λ _ _ _ st2=>?_);refine ym Z st2 (t:=4) Z ?_;rfl
theorem qw(s:Str):Fn Tryz.prog 83 [dt s] (dt (zD s)):=by
 refine yU (fn:=Tryz.f83) Tryz.func83 Z (λ M w0 _ hm st0=>?_);have hlen:s.l.length<=9223372036854775807:=st0.lenS (s:=0) Z;refine Kc ?_;refine zj st0 [0,2] (λ _ _ _ st1=>?_);refine za ?_;refine Kc ?_;refine Kc ?_;refine zk st1 (sp 2 (r:=by exact sc Z (zA (l:=[.tmp 5,.const (.int .i64 1),.const (.int .i64 3)]) Z (.cons T (.cons zT (.cons zT .nil))) (qg _ _ _))<|segA)) [0,2,7] (λ _ _ _ st2=>?_);refine za ?_;refine zJ (c:=7) st2 Z (λ h1=>?_) λ h1=>?_
 ·have h7:=h1;refine Kc ?_;refine zj st2 [0,2,7] (λ _ _ _ st3=>?_);refine za ?_;refine wp_ret (zK ?_);refine ym Z st3 (t:=2) Z ?_;unfold zD;rw[Bool.not_eq_true'] at h7;simp[h7]
 ·have h7:=h1;refine wp_skip ?_;refine za ?_;refine Kc ?_;refine Kc ?_;refine zj st2 [0,2,3,7] (λ _ _ _ st4=>?_);refine za ?_;refine wp_block ?_;refine jD (ι:=Nat) (λ k a w=>St (Frm.of w0) 24 M [(0,dt s),(3,dt (k:Int))] a w/\k<=s.l.length/\(s.l.take k).all low=true) (λ k=>s.l.length - k) 0 ?_ ?_
  ·exact⟨st4.pick (pT [0,3]),Nat.zero_le _,by simp⟩
  ·rintro k a5 w5 ⟨st5,hk,hp⟩
   refine Kc ?_;refine Kc ?_;refine zj st5 [0,3,11] (λ _ _ _ st6=>?_);refine za ?_;refine zJ (c:=11) st6 Z (λ h2=>?_) λ h2=>?_
   ·obtain⟨x,hx⟩:=idxS_of h2;have hlt:=zG hx;refine wp_skip ?_;refine za ?_;refine Kc ?_;refine wp_block ?_;refine Kc ?_;refine zk st6 (sc Z (zr Z T)
     (sc Z (zr Z T)
     (sc Z (op_byte Z T T (by assumption))
     (sc Z (op_cmpB Z T (We))
     (sc Z (zr Z T)
     (sg Z Z (λ hg=>zr Z T)
     (sg Z Z (λ hg=>zr Z T)
     (sg Z Z (λ hg=>op_byte Z V V (by assumption))
     (sg Z Z (λ hg=>op_cmpB Z V (We))
     (sc Z (Za Z T T)
     .nil)))))))))) [0,3,11,23] (λ _ _ _ st7=>?_)
    refine za ?_;refine zJ (c:=23) st7 Z (λ h3=>?_) λ h3=>?_
    ·have ht:=h3;refine Kc ?_;refine zj st7 [0,2,3,11,23] (λ _ _ _ st8=>?_);refine za ?_;refine wp_ret (yq (zK (zK (yq (zK ?_)))));refine ym Z st8 (t:=2) Z ?_;unfold zD;rw[all_fail (p:=low) hx (by unfold low;rw[ht];rfl)];simp
    ·have hf:=h3;refine wp_skip ?_;refine z3 ?_;refine za ?_;refine zk st7 (sp 1 (r:=by exact sc Z (wN Z T zT (by simp only[arI];omega))<|segA)) [0,3,11,23] (λ _ _ _ st9=>?_);refine za ⟨k+1,⟨st9.pick (pT [0,3]),by omega,all_next hx hp (by unfold low;rw[hf];rfl)⟩,by omega⟩
   ·have hend:=endS_of h2;refine wp_exit (zZ (zZ (y6 ?_)));refine za ?_;refine Kc ?_;refine zj st6 [0,2,3,11] (λ _ _ _ st10=>?_);refine za ?_;refine wp_ret ?_;refine ym Z st10 (t:=2) Z ?_;unfold zD;rw[all_end hend hp];rw[Bool.not_eq_false'] at h7;exact(by simpa using h7.symm)
theorem qh(s:Str)(c:UInt8)(hs:mid s):Fn Tryz.prog 40 [dt s,dt c] (dt (zi s c)):=by
 refine yU (fn:=Tryz.f40) Tryz.func40 Z (λ M w0 _ hm st0=>?_);have hlen:s.l.length<=1099511627776:=hs;refine Kc ?_;refine zk st0 (sc Z (yo Z (jC (α:=Str)))
  .nil) [0,1,4] (λ _ _ _ st1=>?_)
 refine za ?_;refine Kc ?_;refine zk st1 (sc Z (wA (α:=Str) (e:=9) Z)<|segA) [0,1,4,5] (λ _ _ _ st2=>?_);refine za ?_;refine Kc ?_;refine zj st2 [0,1,4,5,6] (λ _ _ _ st3=>?_);refine za ?_;refine Kc ?_;refine Kc ?_;refine zj st3 [0,1,4,5,6,7] (λ _ _ _ st4=>?_);refine za ?_;refine wp_block ?_;refine jD (ι:=Nat×Nat) (λ p a w=>∃ g,TipOK (Frm.of w0) M g/\St (Frm.of w0) 35 (insO g M) [(0,dt s),(1,dt c),(5,dtip g 9 (xV c (s.l.take p.1)).1),(6,dt (p.2:Int)),(7,dt (p.1:Int))] a w/\p.1<=s.l.length/\p.2<=p.1/\(xV c (s.l.take p.1)).2=⟨(s.l.take p.1).drop p.2⟩/\(xV c (s.l.take p.1)).1.length<=p.1) (λ p=>s.l.length - p.1) (0,0) ?_ ?_
 ·exact⟨none,TipOK.none_,st4.ins0.pick (pT [0,1,5,6,7]),Nat.zero_le _,Nat.le_refl _,Z,Nat.le_refl _⟩
 ·rintro ⟨k,b⟩ a5 w5 ⟨g5,hg5,st5,hk,hb,g2,g1⟩
  dsimp only at*;refine Kc ?_;refine Kc ?_;refine zj st5 [0,1,5,6,7,12] (λ _ _ _ st6=>?_);refine za ?_;refine zJ (c:=12) st6 Z (λ h1=>?_) λ h1=>?_
  ·obtain⟨x,hx⟩:=idxS_of h1;have hlt:=zG hx;refine wp_skip ?_;refine za ?_;refine Kc ?_;refine wp_block ?_;refine Kc ?_;refine zk st6 (sp 2 (r:=by exact sc Z (op_byte Z T T (by assumption))<|sp 1 (r:=by exact sc Z (op_cmpB Z T T)<|.nil))) [0,1,5,6,7,12,19] (λ _ _ _ st7=>?_);refine za ?_;refine zJ (c:=19) st7 Z (λ h2=>?_) λ h2=>?_
   ·have ht:=h2;refine Kc ?_;refine Ka ?_;refine Zb 6 st7 (sc Z (zr Z T)
     (sc Z (zr Z T)
     (sc Z (zr Z T)
     (sc Z (zr Z T)
     (sc Z (op_cutLH Z (by kernel_rfl) T T T (by omega) (by omega) (by omega))
     (sc Z (yf (opds:=[.tmp 24]) Z Z Z (.cons T .nil))
     .nil))))))
     (pT [0,1,5,6,7,12,19,20,25]) (λ _ _ _ st8=>?_)
    refine Z4 (bytes:=16) (st8) Z Z Z Z Z xv (len1 (by omega)) (len1b (by omega)) (.cons (s:=0) Z (λ _ _ h=>h) (.cons (s:=1) Z (λ _ _ h=>h) (.cons (s:=6) Z (λ _ _ h=>h) (.cons (s:=7) Z (λ _ _ h=>h) (.cons (s:=12) Z (λ _ _ h=>h) (.cons (s:=19) Z (λ _ _ h=>h) .nil)))))) (hg5) (λ g9 _ _ hg9 st9=>?_);refine Zb 1 st9 (sc Z (yo Z T)
     .nil)
     (pT [0,1,5,6,7,12,19]) (λ _ _ _ st10=>?_)
    refine Kb ?_;refine za ?_;refine zk st10 (sp 1 (r:=by exact sc Z (wN Z T zT (by simp only[arI];omega))<|segA)) [0,1,5,6,7,12,19] (λ _ _ _ st11=>?_);refine z3 ?_;refine za ?_;refine zk st11 (sp 1 (r:=by exact sc Z (wN Z T zT (by simp only[arI];omega))<|segA)) [0,1,5,6,7,12,19] (λ _ _ _ st12=>?_);refine za ⟨(k+1,k+1),⟨g9,hg9,?_,by dsimp only;omega,by dsimp only;omega,split_hit2 hx ht hlt,by dsimp only;rw[zbs hx ht g2,List.length_append];exact Nat.succ_le_succ g1⟩,by dsimp only;omega⟩;dsimp only;first | rw[zbs hx ht g2] | rw[QT hx hf]
    exact st12.pick (pT [0,1,5,6,7])
   ·have hf:=h2;refine wp_skip ?_;refine z3 ?_;refine za ?_;refine zk st7 (sp 1 (r:=by exact sc Z (wN Z T zT (by simp only[arI];omega))<|segA)) [0,1,5,6,7,12,19] (λ _ _ _ st13=>?_);refine za ⟨(k+1,b),⟨g5,hg5,?_,by dsimp only;omega,by dsimp only;omega,split_miss2 hx hf g2 hb hlt,by dsimp only;rw[QT hx hf];omega⟩,by dsimp only;omega⟩;dsimp only;first | rw[zbs hx ht g2] | rw[QT hx hf]
    exact st13.pick (pT [0,1,5,6,7])
  ·have hend:=endS_of h1;refine wp_exit (zZ (zZ (y6 ?_)));refine za ?_;refine Kc ?_;refine Ka ?_;refine Zb 5 st6 (sc Z (zr Z T)
    (sc Z (zr Z T)
    (sc Z (zr Z T)
    (sc Z (op_cutL Z (by kernel_rfl) T T (by omega) (by omega))
    (sc Z (yf (opds:=[.tmp 32]) Z Z Z (.cons T .nil))
    .nil)))))
    (pT [0,1,5,6,7,12,29,33]) (λ _ _ _ st14=>?_)
   refine Z4 (bytes:=16) (st14) Z Z Z Z Z xv (len1 (by omega)) (len1b (by omega)) (.cons (s:=0) Z (λ _ _ h=>h) (.cons (s:=1) Z (λ _ _ h=>h) (.cons (s:=6) Z (λ _ _ h=>h) (.cons (s:=7) Z (λ _ _ h=>h) (.cons (s:=12) Z (λ _ _ h=>h) .nil))))) (hg5) (λ g15 _ _ hg15 st15=>?_);refine Zb 1 st15 (sc Z (yo Z T)
    .nil)
    (pT [0,1,4,6,7,12]) (λ _ _ _ st16=>?_)
   refine Kb ?_;refine za ?_;refine wp_ret ?_;refine ret_tip Z (hg15) st16 (t:=4) Z ?_;exact split_end hend g2
theorem qy(s:Str)(hs:mid s):Fn Tryz.prog 47 [dt s] (dt (zf s)):=by
 refine yU (fn:=Tryz.f47) Tryz.func47 Z (λ M w0 _ hm st0=>?_);refine Kc ?_;refine zj st0 [0,2] (λ _ _ _ st1=>?_);refine za ?_;refine Kc ?_;refine zk st1 (sp 1 (r:=by exact sc Z (zA (l:=[.tmp 5,.const (.int .u8 46)]) Z (.cons T (.cons (We) .nil)) (qh _ dot (by assumption)))<|segA)) [0,2,3] (λ _ _ _ st2=>?_);refine za ?_;refine Kc ?_;refine Kc ?_;refine zj st2 [0,2,3,4] (λ _ _ _ st3=>?_);refine za ?_;refine wp_block ?_;refine jD (ι:=Nat) (λ k a w=>St (Frm.of w0) 22 M [(0,dt s),(3,dt (zi s dot)),(4,dt (k:Int))] a w/\k<=(zi s dot).length/\((zi s dot).take k).all zD=true) (λ k=>(zi s dot).length - k) 0 ?_ ?_
 ·exact⟨st3.pick (pT [0,3,4]),Nat.zero_le _,by simp⟩
 ·rintro k a4 w4 ⟨st4,hk,hp⟩
  have hlen:=st4.lenL (s:=3) Z;refine Kc ?_;refine Kc ?_;refine zj st4 [0,3,4,10] (λ _ _ _ st5=>?_);refine za ?_;refine zJ (c:=10) st5 Z (λ h1=>?_) λ h1=>?_
  ·obtain⟨x,hx⟩:=Y1 h1;have hlt:=zG hx;refine wp_skip ?_;refine za ?_;refine Kc ?_;refine wp_block ?_;refine Kc ?_;refine zk st5 (sp 2 (r:=by exact sc Z (yJ Z T T Z (by assumption))<|sp 1 (r:=by exact sc Z (zA (l:=[.tmp 16]) Z (.cons T .nil) (qw _))<|segA))) [0,3,4,10,18] (λ _ _ _ st6=>?_);refine za ?_;refine zJ (c:=18) st6 Z (λ h2=>?_) λ h2=>?_
   ·have ht:=h2;refine Kc ?_;refine zj st6 [0,2,3,4,10,18] (λ _ _ _ st7=>?_);refine za ?_;refine wp_ret (yq (zK (zK (yq (zK ?_)))));refine ym Z st7 (t:=2) Z ?_;unfold zf;rw[all_fail hx (by simpa using ht)];rfl
   ·have hf:=h2;refine wp_skip ?_;refine z3 ?_;refine za ?_;refine zk st6 (sp 1 (r:=by exact sc Z (wN Z T zT (by simp only[arI];omega))<|segA)) [0,3,4,10,18] (λ _ _ _ st8=>?_);refine za ⟨k+1,⟨st8.pick (pT [0,3,4]),by omega,all_next hx hp (by simpa using hf)⟩,by omega⟩
  ·have hend:=Y2 h1;refine wp_exit (zZ (zZ (y6 ?_)));refine za ?_;refine Kc ?_;refine zj st5 [0,2,3,4,10] (λ _ _ _ st9=>?_);refine za ?_;refine wp_ret ?_;refine ym Z st9 (t:=2) Z ?_;unfold zf;rw[all_end hend hp];rfl
theorem Z7(s:Str)(hs:mid s):Fn Tryz.prog 112 [dt s] (dt (zx s)):=by
 refine yU (fn:=Tryz.f112) Tryz.func112 Z (λ M _ _ hm st0=>?_);refine wqw ?_;refine zj st0 [0,2] (λ _ _ _ st1=>?_);refine zk st1 (sc Z (zr Z T)
  (sc Z (jx Z T (zt))
  (sc Z (zr Z T)
  (sg Z Z (λ hg=>zr Z T)
  (sg Z Z (λ hg=>zA (l:=[.tmp 6]) Z (.cons V .nil) (qy _ hs))
  (sc Z (Za Z T T)
  (sc Z (yo Z T)
  .nil))))))) [0,2] (λ _ _ _ st2=>?_)
 refine ym Z st2 (t:=2) Z ?_;rfl
theorem Wu(l:List Str)(hl:jh l<=1152921504606846976):Fn Tryz.prog 86 [dt l] (dt (join l)):=by
 refine yU (fn:=Tryz.f86) Tryz.func86 Z (λ M w0 _ hm st0=>?_);have hlen:=st0.lenL (s:=0) Z;refine Kc ?_;refine zj st0 [0,2] (λ _ _ _ st1=>?_);refine za ?_;refine Kc ?_;refine zj st1 [0,2,3] (λ _ _ _ st2=>?_);refine za ?_;refine Kc ?_;refine Kc ?_;refine zj st2 [0,2,3,4] (λ _ _ _ st3=>?_);refine za ?_;refine wp_block ?_;refine jD (ι:=Nat) (λ k a w=>St (Frm.of w0) 22 M [(0,dt l),(3,dt (Yk (l.take k)).1),(4,dt (k:Int))] a w/\k<=l.length) (λ k=>l.length - k) 0 ?_ ?_
 ·exact⟨st3.pick (pT [0,3,4]),Nat.zero_le _⟩
 ·rintro k a4 w4 ⟨st4,hk⟩
  refine Kc ?_;refine Kc ?_;refine zj st4 [0,3,4,8] (λ _ _ _ st5=>?_);refine za ?_;refine zJ (c:=8) st5 Z (λ h1=>?_) λ h1=>?_
  ·obtain⟨x,hx⟩:=Y1 h1;have hlt:=zG hx;have hroom:=join_room hx;refine wp_skip ?_;refine za ?_;refine Kc ?_;refine wp_block ?_;refine Kc ?_;refine Kc ?_;refine zj st5 [0,3,4,8,12] (λ _ _ _ st6=>?_);refine za ?_;refine zJ (c:=12) st6 Z (λ h2=>?_) λ h2=>?_
   ·have ht:=h2;refine zk st6 (sp 1 (r:=by exact sc Z (zbo Z T (zt) (by first | (unfold maxLen;omega) | (simp only[List.length_singleton];unfold maxLen;omega)))<|segA)) [0,3,4,8,12] (λ _ _ _ st7=>?_);refine za ?_;refine zk st7 (sp 3 (r:=by exact sc Z (yJ Z T T Z (by assumption))<|sp 1 (r:=by exact sc Z (zbo Z T T (by first | (unfold maxLen;omega) | (simp only[List.length_append,List.length_singleton];unfold maxLen;omega)))<|segA))) [0,3,4,8,12] (λ _ _ _ st8=>?_);refine z3 ?_;refine za ?_;refine zk st8 (sp 1 (r:=by exact sc Z (wN Z T zT (by simp only[arI];omega))<|segA)) [0,3,4,8,12] (λ _ _ _ st9=>?_);refine za ⟨k+1,⟨?_,by omega⟩,by omega⟩
    first | rw[zbZ hx ht] | rw[zaG hx hf]
    exact st9.pick (pT [0,3,4])
   ·have hf:=h2;refine wp_skip ?_;refine za ?_;refine zk st6 (sp 3 (r:=by exact sc Z (yJ Z T T Z (by assumption))<|sp 1 (r:=by exact sc Z (zbo Z T T (by first | (unfold maxLen;omega) | (simp only[List.length_append,List.length_singleton];unfold maxLen;omega)))<|segA))) [0,3,4,8,12] (λ _ _ _ st10=>?_);refine z3 ?_;refine za ?_;refine zk st10 (sp 1 (r:=by exact sc Z (wN Z T zT (by simp only[arI];omega))<|segA)) [0,3,4,8,12] (λ _ _ _ st11=>?_);refine za ⟨k+1,⟨?_,by omega⟩,by omega⟩
    first | rw[zbZ hx ht] | rw[zaG hx hf]
    exact st11.pick (pT [0,3,4])
  ·have hend:=Y2 h1;refine wp_exit (zZ (zZ (y6 ?_)));refine za ?_;refine Kc ?_;refine zj st5 [0,2,3,4,8] (λ _ _ _ st12=>?_);refine za ?_;refine wp_ret ?_;refine ym Z st12 (t:=2) Z ?_;exact join_end hend
theorem zeg(s:Str)(hs:mid s):Fn Tryz.prog 161 [dt s] (dt (zM s)):=by
 refine yU (fn:=Tryz.f161) Tryz.func161 Z (λ M _ _ hm st0=>?_);refine wqw ?_;have hlen:s.l.length<=1099511627776:=hs;have hne:=X7 s dot;have hroom:=qI s dot;have hlr:=JL (zi s dot);refine zj st0 [0,2] (λ _ _ _ st1=>?_);refine zk st1 (sp 1 (r:=by exact sc Z (zA (l:=[.tmp 4,.const (.int .u8 46)]) Z (.cons T (.cons (We) .nil)) (qh _ dot (by assumption)))<|segA)) [0,2,3] (λ _ _ _ st2=>?_);refine zk st2 (sp 3 (r:=by exact sc Z (wN Z T zT (by simp only[arI];omega))<|sc Z (WJ Z T T (j:=(zi s dot).length - 1) (by simp only[arI];omega) (by omega))<|sc Z (zA (l:=[.tmp 10]) Z (.cons T .nil) (Wu _ (by have:=Zc (zi s dot) ((zi s dot).length - 1);omega)))<|segA)) [0,2,3] (λ _ _ _ st3=>?_);refine ym Z st3 (t:=2) Z ?_;rfl
theorem YB(p s:Str)(hc:p.l.length+s.l.length<=1152921504606846976):Fn Tryz.prog 114 [dt p,dt s] (dt (child p s)):=by
 refine yU (fn:=Tryz.f114) Tryz.func114 Z (λ M _ _ hm st0=>?_);refine Kc ?_;refine zj st0 [0,1,4] (λ _ _ _ st1=>?_);refine za ?_;refine Kc ?_;refine Kc ?_;refine zj st1 [0,1,4,6] (λ _ _ _ st2=>?_);refine za ?_;refine zJ (c:=6) st2 Z (λ h1=>?_) λ h1=>?_
 ·have ht:=h1;refine Kc ?_;refine zj st2 [0,1,4,6] (λ _ _ _ st3=>?_);refine za ?_;refine wp_ret (zK ?_);refine ym Z st3 (t:=4) Z ?_;exact(Ke (oD ht)).symm
 ·have hf:=h1;refine wp_skip ?_;refine za ?_;refine Kc ?_;refine zk st2 (sp 1 (r:=by exact sc Z (zbo Z T (zt) (by first | (unfold maxLen;omega) | (simp only[List.length_singleton];unfold maxLen;omega)))<|sp 1 (r:=by exact sc rfl (zbo rfl (zb rfl) (zb rfl) (by first | (unfold maxLen;omega) | (simp only[List.length_append,List.length_singleton];unfold maxLen;omega)))<|segA))) [0,1,4,6] (λ _ _ _ st4=>?_);refine za ?_;refine wp_ret ?_;refine ym Z st4 (t:=4) Z ?_;exact(Kf (of_decide_eq_false hf)).symm
theorem spec_last_ok(s:Str)(hs:mid s):Fn Tryz.prog 166 [dt s] (dt (ji s)):=by
 refine yU (fn:=Tryz.f166) Tryz.func166 Z (λ M _ _ hm st0=>?_);refine wqw ?_;have hne:=X7 s dot;have hroom:=qI s dot;have hlen:=JL (zi s dot);have hms:s.l.length<=1099511627776:=hs;refine zj st0 [0,2] (λ _ _ _ st1=>?_);refine zk st1 (sp 1 (r:=by exact sc Z (zA (l:=[.tmp 4,.const (.int .u8 46)]) Z (.cons T (.cons (We) .nil)) (qh _ dot (by assumption)))<|segA)) [0,2,3] (λ _ _ _ st2=>?_);refine zk st2 (sp 3 (r:=by exact sc Z (wN Z T zT (by simp only[arI];omega))<|sc Z (yJ Z T T (k:=(zi s dot).length - 1) (by simp only[arI];omega) (last_get s))<|segA)) [0,2,3] (λ _ _ _ st3=>?_);refine ym Z st3 (t:=2) Z ?_;rfl
theorem za5(s:Str)(hs:mid s):Fn Tryz.prog 115 [dt s] (dt (wi s)):=by
 refine yU (fn:=Tryz.f115) Tryz.func115 Z (λ M w0 _ hm st0=>?_);have hroom:=qI s dot;have hlen:=JL (zi s dot);have hms:s.l.length<=1099511627776:=hs;refine Kc ?_;refine zk st0 (sc Z (yo Z (jC (α:=Str)))
  .nil) [0,2] (λ _ _ _ st1=>?_)
 refine za ?_;refine Kc ?_;refine zk st1 (sp 1 (r:=by exact sc Z (zA (l:=[.tmp 6,.const (.int .u8 46)]) Z (.cons T (.cons (We) .nil)) (qh _ dot (by assumption)))<|segA)) [0,2,3] (λ _ _ _ st2=>?_);refine za ?_;refine Kc ?_;refine zk st2 (sc Z (wA (α:=Str) (e:=9) Z)<|segA) [0,2,3,4] (λ _ _ _ st3=>?_);refine za ?_;refine Kc ?_;refine Kc ?_;refine zj st3 [0,2,3,4,5] (λ _ _ _ st4=>?_);refine za ?_;refine wp_block ?_;refine jD (ι:=Nat) (λ k a w=>∃ g,TipOK (Frm.of w0) M g/\St (Frm.of w0) 23 (insO g M) [(0,dt s),(3,dt (zi s dot)),(4,dtip g 9 (jR (zi s dot) k)),(5,dt ((k+1:Nat):Int))] a w/\k<=(zi s dot).length) (λ k=>(zi s dot).length - k) 0 ?_ ?_
 ·exact⟨none,TipOK.none_,st4.ins0.pick (pT [0,3,4,5]),Nat.zero_le _⟩
 ·rintro k a5 w5 ⟨g5,hg5,st5,hk⟩
  refine Kc ?_;refine Kc ?_;refine zj st5 [0,3,4,5,12] (λ _ _ _ st6=>?_);refine za ?_;refine zJ (c:=12) st6 Z (λ h1=>?_) λ h1=>?_
  ·have hlt:k+1<=(zi s dot).length:=by have:=oD h1;omega
   have hal:=Xk (zi s dot) k;have htk:=Zc (zi s dot) (k+1);refine wp_skip ?_;refine za ?_;refine Kc ?_;refine wp_block ?_;refine Ka ?_;refine Zb 6 st6 (sc Z (zr Z T)
    (sc Z (zr Z T)
    (sc Z (zr Z T)
    (sc Z (WJ Z T T Z (by omega))
    (sc Z (zA (l:=[.tmp 18]) Z (.cons T .nil) (Wu _ (by omega)))
    (sc Z (yf (opds:=[.tmp 19]) Z Z Z (.cons T .nil))
    .nil))))))
    (pT [0,3,4,5,12,15,20]) (λ _ _ _ st7=>?_)
   refine Z4 (bytes:=16) (st7) Z Z Z Z Z xv (len1 (by omega)) (len1b (by omega)) (.cons (s:=0) Z (λ _ _ h=>h) (.cons (s:=3) Z (λ _ _ h=>h) (.cons (s:=5) Z (λ _ _ h=>h) (.cons (s:=12) Z (λ _ _ h=>h) .nil)))) (hg5) (λ g8 _ _ hg8 st8=>?_);refine Zb 1 st8 (sc Z (yo Z T)
    .nil)
    (pT [0,3,4,5,12]) (λ _ _ _ st9=>?_)
   refine Kb ?_;refine z3 ?_;refine za ?_;refine zk st9 (sp 1 (r:=by exact sc Z (wN Z T zT (by simp only[arI];omega))<|segA)) [0,3,4,5,12] (λ _ _ _ st10=>?_);refine za ⟨k+1,⟨g8,hg8,?_,by omega⟩,by omega⟩;rw[Jr];exact st10.pick (pT [0,3,4,5])
  ·have hend:(zi s dot).length<=k:=by have:=of_decide_eq_false h1;omega
   refine wp_exit (zZ (zZ (y6 ?_)));refine za ?_;refine Kc ?_;refine zj st6 [0,2,3,4,5,12] (λ _ _ _ st11=>?_);refine za ?_;refine wp_ret ?_;refine ret_tip Z (hg5) st11 (t:=2) Z ?_;rw[wi,Nat.le_antisymm hk hend]
theorem za6(s p:Str)(hp:p.l.length<=1152921504606846976):Fn Tryz.prog 159 [dt s,dt p] (dt (under s p)):=by
 refine yU (fn:=Tryz.f159) Tryz.func159 Z (λ M _ _ hm st0=>?_);refine wqw ?_;refine zj st0 [0,1,4] (λ _ _ _ st1=>?_);refine zk st1 (sc Z (zr Z T)
  (sc Z (jx Z T (zt))
  (sc Z (zr Z T)
  (sg Z Z (λ hg=>zr Z T)
  (sg Z Z (λ hg=>zr Z T)
  (sg Z Z (λ hg=>jx Z V V)
  (sc Z (Za Z T T)
  (sc Z (zr Z T)
  (sg Z Z (λ hg=>zr Z T)
  (sg Z Z (λ hg=>op_lenS Z V)
  (sg Z Z (λ hg=>zr Z T)
  (sg Z Z (λ hg=>op_lenS Z V)
  (sg Z Z (λ hg=>wQ Z V V)
  (sg Z Z (λ hg=>zr Z V)
  (.cons Z (by decide) (.guarded2 Z Z (by decide) Z zC (λ hg=>zr Z T))
  (.cons Z (by decide) (.guarded2 Z Z (by decide) Z zC (λ hg=>zr Z T))
  (.cons Z (by decide) (.guarded2 Z Z (by decide) Z zC (λ hg=>op_lenS Z V))
  (.cons Z (by decide) (.guarded2 Z Z (by decide) Z zC (λ hg=>wN Z V zT (by simp only[arI];omega)))
  (.cons Z (by decide) (.guarded2 Z Z (by decide) Z zC (λ hg=>op_cutH Z (by kernel_rfl) V V (by simp only[arI];omega) (by simp only[arI];have:=oD (and_r hg);omega)))
  (.cons Z (by decide) (.guarded2 Z Z (by decide) Z zC (λ hg=>zr Z T))
  (.cons Z (by decide) (.guarded2 Z Z (by decide) Z zC (λ hg=>zbo Z V (zt) (by first | (unfold maxLen;omega) | (simp only[List.length_singleton];unfold maxLen;omega))))
  (.cons Z (by decide) (.guarded2 Z Z (by decide) Z zC (λ hg=>jx Z V V))
  (sg Z Z (λ hg=>xk Z V (zbq hg Z))
  (sc Z (Za Z T T)
  (sc Z (yo Z T)
  .nil))))))))))))))))))))))))) [0,1,4] (λ _ _ _ st2=>?_)
 refine ym Z st2 (t:=4) Z ?_;exact under_of
theorem WR(f:File)(hf:smFile f):Fn Tryz.prog 116 [dt f] (dt (zN f)):=by
 refine yU (fn:=Tryz.f116) Tryz.func116 Z (λ M _ _ hm st0=>?_);refine Kc ?_;refine zk st0 (sc Z (Yv Z T)<|segA) [0,1,2] (λ _ _ _ st1=>?_);refine za ?_;refine Kc ?_;refine Kc ?_;refine zj st1 [0,1,2,4] (λ _ _ _ st2=>?_);refine za ?_;refine zJ (c:=4) st2 Z (λ h1=>?_) λ h1=>?_
 ·have ht:=h1;refine Kc ?_;refine zj st2 [0,1,2,4] (λ _ _ _ st3=>?_);refine za ?_;refine wp_ret (zK ?_);refine ym Z st3 (t:=2) Z ?_;rw[zN,Ke ht]
 ·have hff:=h1;refine wp_skip ?_;refine za ?_;refine Kc ?_;refine zk st2 (sp 4 (r:=by exact sc Z (zA (l:=[.tmp 8,.tmp 10]) Z (.cons T (.cons T .nil)) (YB _ _ (by have:=hf.1;have:=hf.2.1;omega)))<|segA)) [0,1,2,4] (λ _ _ _ st4=>?_);refine za ?_;refine wp_ret ?_;refine ym Z st4 (t:=2) Z ?_;rw[zN,Kf (by simp[hff])]
theorem zb6(s:Stmt)(hs:smStmt s):Fn Tryz.prog 157 [dt s] (dt (zX s)):=by
 refine yU (fn:=Tryz.f157) Tryz.func157 Z (λ M _ _ hm st0=>?_);refine Kc ?_;refine zk st0 (sc Z (Yv Z T)<|segA) [0,1,2] (λ _ _ _ st1=>?_);refine za ?_;refine Kc ?_;refine Kc ?_;refine zj st1 [0,1,2,4] (λ _ _ _ st2=>?_);refine za ?_;refine wp_block ?_;refine Kc ?_;refine zj st2 [0,1,2,4,5] (λ _ _ _ st3=>?_);refine za ?_;refine zJ (c:=5) st3 Z (λ h1=>?_) λ h1=>?_
 ·have k0:=h1;refine Kc ?_;refine zk st3 (sc Z (zQ Stmt.fld1 Z T)
   (sc Z (zz Z T)
   (sc Z (zA (l:=[.tmp 8]) Z (.cons T .nil) (qy _ (by have:=hs.1;unfold mid;omega)))
   (sc Z (zr Z T)
   (sg Z Z (λ hg=>zQ Stmt.fld2 Z T)
   (sg Z Z (λ hg=>zz Z V)
   (sg Z Z (λ hg=>wQ Z V zT)
   (sc Z (xk Z T T)
   (sc Z (zr Z T)
   (sg Z Z (λ hg=>zQ Stmt.fld3 Z T)
   (sg Z Z (λ hg=>zz Z V)
   (sg Z Z (λ hg=>jx Z V (zt))
   (sc Z (xk Z T T)
   (sc Z (zr Z T)
   (sg Z Z (λ hg=>zQ Stmt.fld4 Z T)
   (sg Z Z (λ hg=>zz Z V)
   (sg Z Z (λ hg=>wQ Z V zT)
   (sc Z (xk Z T T)
   (sc Z (yo Z T)
   .nil))))))))))))))))))) [0,1,2,4,5] (λ _ _ _ st4=>?_)
  refine za ?_;refine wp_ret (yq (zK ?_));refine ym Z st4 (t:=2) Z ?_;rw[zX,Ke k0]
 ·have k0:=h1;refine Kc ?_;refine zj st3 [0,1,2,4,5,25] (λ _ _ _ st5=>?_);refine za ?_;refine zJ (c:=25) st5 Z (λ h2=>?_) λ h2=>?_
  ·have k1:=h2;refine Kc ?_;refine zk st5 (sc Z (zQ Stmt.fld1 Z T)
    (sc Z (zz Z T)
    (sc Z (zA (l:=[.tmp 28]) Z (.cons T .nil) (Z7 _ (by have:=hs.1;unfold mid;omega)))
    (sc Z (zr Z T)
    (sg Z Z (λ hg=>zQ Stmt.fld2 Z T)
    (sg Z Z (λ hg=>zz Z V)
    (sg Z Z (λ hg=>zA (l:=[.tmp 32,.const (.int .i64 0),.const (.int .i64 3)]) Z (.cons V (.cons zT (.cons zT .nil))) (qg _ _ _))
    (sc Z (xk Z T T)
    (sc Z (zr Z T)
    (sg Z Z (λ hg=>zQ Stmt.fld1 Z T)
    (sg Z Z (λ hg=>zz Z V)
    (sg Z Z (λ hg=>QO Z V (zt))
    (sg Z Z (λ hg=>zr Z V)
    (.cons Z (by decide) (.guarded2 Z Z (by decide) Z zC (λ hg=>zQ Stmt.fld2 Z T))
    (.cons Z (by decide) (.guarded2 Z Z (by decide) Z zC (λ hg=>zz Z V))
    (.cons Z (by decide) (.guarded2 Z Z (by decide) Z zC (λ hg=>wQ Z V zT))
    (sg Z Z (λ hg=>Za Z V (zbq hg Z))
    (sc Z (xk Z T T)
    (sc Z (zr Z T)
    (sg Z Z (λ hg=>zQ Stmt.fld3 Z T)
    (sg Z Z (λ hg=>zz Z V)
    (sg Z Z (λ hg=>zA (l:=[.tmp 47]) Z (.cons V .nil) (qw _))
    (sc Z (xk Z T T)
    (sc Z (zr Z T)
    (sg Z Z (λ hg=>zQ Stmt.fld4 Z T)
    (sg Z Z (λ hg=>zz Z V)
    (sg Z Z (λ hg=>wQ Z V zT)
    (sc Z (xk Z T T)
    (sc Z (yo Z T)
    .nil))))))))))))))))))))))))))))) [0,1,2,4,5,25] (λ _ _ _ st6=>?_)
   refine za ?_;refine wp_ret (yq (zK ?_));refine ym Z st6 (t:=2) Z ?_;rw[zX,Kf (by rw[k0];decide),Ke k1]
  ·have k1:=h2;refine Kc ?_;refine zj st5 [0,1,2,4,5,25,55] (λ _ _ _ st7=>?_);refine za ?_;refine zJ (c:=55) st7 Z (λ h3=>?_) λ h3=>?_
   ·have k2:=h3;refine Kc ?_;refine zk st7 (sc Z (zQ Stmt.fld1 Z T)
     (sc Z (zz Z T)
     (sc Z (zA (l:=[.tmp 58]) Z (.cons T .nil) (qy _ (by have:=hs.1;unfold mid;omega)))
     (sc Z (zr Z T)
     (sg Z Z (λ hg=>zQ Stmt.fld2 Z T)
     (sg Z Z (λ hg=>zz Z V)
     (sg Z Z (λ hg=>wQ Z V zT)
     (sc Z (xk Z T T)
     (sc Z (zr Z T)
     (sg Z Z (λ hg=>zQ Stmt.fld3 Z T)
     (sg Z Z (λ hg=>zz Z V)
     (sg Z Z (λ hg=>jx Z V (zt))
     (sc Z (xk Z T T)
     (sc Z (zr Z T)
     (sg Z Z (λ hg=>zQ Stmt.fld4 Z T)
     (sg Z Z (λ hg=>zz Z V)
     (sg Z Z (λ hg=>wQ Z V zT)
     (sc Z (xk Z T T)
     (sc Z (yo Z T)
     .nil))))))))))))))))))) [0,1,2,4,5,25,55] (λ _ _ _ st8=>?_)
    refine za ?_;refine wp_ret (yq (zK ?_));refine ym Z st8 (t:=2) Z ?_;rw[zX,Kf (by rw[k0];decide),Kf (by rw[k1];decide),Ke k2]
   ·have k2:=h3;refine Kc ?_;refine zj st7 [0,1,2,4,5,25,55,75] (λ _ _ _ st9=>?_);refine za ?_;refine zJ (c:=75) st9 Z (λ h4=>?_) λ h4=>?_
    ·have k3:=h4;refine Kc ?_;refine zk st9 (sc Z (zQ Stmt.fld1 Z T)
      (sc Z (zz Z T)
      (sc Z (jx Z T (zt))
      (sc Z (zr Z T)
      (sg Z Z (λ hg=>zQ Stmt.fld2 Z T)
      (sg Z Z (λ hg=>zz Z V)
      (sg Z Z (λ hg=>wQ Z V zT)
      (sc Z (xk Z T T)
      (sc Z (zr Z T)
      (sg Z Z (λ hg=>zQ Stmt.fld3 Z T)
      (sg Z Z (λ hg=>zz Z V)
      (sg Z Z (λ hg=>zA (l:=[.tmp 87]) Z (.cons V .nil) (qw _))
      (sc Z (xk Z T T)
      (sc Z (zr Z T)
      (sg Z Z (λ hg=>zQ Stmt.fld4 Z T)
      (sg Z Z (λ hg=>zz Z V)
      (sg Z Z (λ hg=>zA (l:=[.tmp 92,.const (.int .i64 0),.const (.int .i64 99)]) Z (.cons V (.cons zT (.cons zT .nil))) (qg _ _ _))
      (sc Z (xk Z T T)
      (sc Z (yo Z T)
      .nil))))))))))))))))))) [0,1,2,4,5,25,55,75] (λ _ _ _ st10=>?_)
     refine za ?_;refine wp_ret (yq (zK ?_));refine ym Z st10 (t:=2) Z ?_;rw[zX,Kf (by rw[k0];decide),Kf (by rw[k1];decide),Kf (by rw[k2];decide),Ke k3]
    ·have k3:=h4;refine Kc ?_;refine zj st9 [0,1,2,4,5,25,55,75,95] (λ _ _ _ st11=>?_);refine za ?_;refine zJ (c:=95) st11 Z (λ h5=>?_) λ h5=>?_
     ·have k4:=h5;refine Kc ?_;refine zk st11 (sc Z (zQ Stmt.fld1 Z T)
       (sc Z (zz Z T)
       (sc Z (jx Z T (zt))
       (sc Z (zr Z T)
       (sg Z Z (λ hg=>zQ Stmt.fld2 Z T)
       (sg Z Z (λ hg=>zz Z V)
       (sg Z Z (λ hg=>wQ Z V zT)
       (sc Z (xk Z T T)
       (sc Z (zr Z T)
       (sg Z Z (λ hg=>zQ Stmt.fld3 Z T)
       (sg Z Z (λ hg=>zz Z V)
       (sg Z Z (λ hg=>zA (l:=[.tmp 107]) Z (.cons V .nil) (qw _))
       (sc Z (xk Z T T)
       (sc Z (zr Z T)
       (sg Z Z (λ hg=>zQ Stmt.fld4 Z T)
       (sg Z Z (λ hg=>zz Z V)
       (sg Z Z (λ hg=>wQ Z V zT)
       (sc Z (xk Z T T)
       (sc Z (yo Z T)
       .nil))))))))))))))))))) [0,1,2,4,5,25,55,75,95] (λ _ _ _ st12=>?_)
      refine za ?_;refine wp_ret (yq (zK ?_));refine ym Z st12 (t:=2) Z ?_;rw[zX,Kf (by rw[k0];decide),Kf (by rw[k1];decide),Kf (by rw[k2];decide),Kf (by rw[k3];decide),Ke k4]
     ·have k4:=h5;refine Kc ?_;refine zj st11 [0,1,2,4,5,25,55,75,95,115] (λ _ _ _ st13=>?_);refine za ?_;refine zJ (c:=115) st13 Z (λ h6=>?_) λ h6=>?_
      ·have k5:=h6;refine Kc ?_;refine zk st13 (sp 1 (r:=by exact sc Z (yp (parts:=[(0,.const (.int .i64 5))]) (ns:=[1,1,1,1,1]) (zs:=[[.int .i64 0],[.string ⟨⟨[]⟩⟩],[.int .i64 0],[.string ⟨⟨[]⟩⟩],[.int .i64 0]]) Z Z (λ w a hl=>by
    intro p hp;simp only[List.mem_cons,List.not_mem_nil,or_false] at hp;rcases hp with rfl
    ·exact⟨by decide,Z⟩) (λ w a hl=>Stmt.parts (x:=⟨5,⟨[]⟩,0,⟨[]⟩,0⟩) (OpdR.cells zT hl) qt ⟨Z,trivial⟩ qt ⟨Z,trivial⟩))<|sc Z (JK Z T T)<|segA)) [0,1,2,4,5,25,55,75,95,115] (λ _ _ _ st14=>?_)
       refine za ?_;refine wp_ret (yq (zK ?_));refine ym Z st14 (t:=2) Z ?_;rw[zX,Kf (by rw[k0];decide),Kf (by rw[k1];decide),Kf (by rw[k2];decide),Kf (by rw[k3];decide),Kf (by rw[k4];decide),Ke k5]
      ·have k5:=h6;refine wp_skip ?_;refine z3 ?_;refine za ?_;refine Kc ?_;refine zj st13 [0,1,2,4,5,25,55,75,95,115] (λ _ _ _ st15=>?_);refine za ?_;refine wp_ret ?_;refine ym Z st15 (t:=2) Z ?_;rw[zX,Kf (by rw[k0];decide),Kf (by rw[k1];decide),Kf (by rw[k2];decide),Kf (by rw[k3];decide),Kf (by rw[k4];decide),Kf (by rw[k5];decide)]
theorem zb7(b:List Stmt)(hb:b.length<=1048576/\∀ s∈b,smStmt s):Fn Tryz.prog 113 [dt b] (dt (jr b)):=by
 refine yU (fn:=Tryz.f113) Tryz.func113 Z (λ M w0 _ hm st0=>?_);have hlen:=hb.1;refine Kc ?_;refine zj st0 [0,2] (λ _ _ _ st1=>?_);refine za ?_;refine Kc ?_;refine Kc ?_;refine zj st1 [0,2,3] (λ _ _ _ st2=>?_);refine za ?_;refine wp_block ?_;refine jD (ι:=Nat) (λ k a w=>St (Frm.of w0) 19 M [(0,dt b),(3,dt (k:Int))] a w/\k<=b.length/\(b.take k).all zX=true) (λ k=>b.length - k) 0 ?_ ?_
 ·exact⟨st2.pick (pT [0,3]),Nat.zero_le _,by simp⟩
 ·rintro k a3 w3 ⟨st3,hk,hp⟩
  refine Kc ?_;refine Kc ?_;refine zj st3 [0,3,7] (λ _ _ _ st4=>?_);refine za ?_;refine zJ (c:=7) st4 Z (λ h1=>?_) λ h1=>?_
  ·obtain⟨x,hx⟩:=Y1 h1;have hlt:=zG hx;refine wp_skip ?_;refine za ?_;refine Kc ?_;refine wp_block ?_;refine Kc ?_;refine zk st4 (sp 2 (r:=by exact sc Z (yJ Z T T Z (by assumption))<|sp 1 (r:=by exact sc Z (zA (l:=[.tmp 13]) Z (.cons T .nil) (zb6 _ (hb.2 _ (List.mem_of_getElem? hx))))<|segA))) [0,3,7,15] (λ _ _ _ st5=>?_);refine za ?_;refine zJ (c:=15) st5 Z (λ h2=>?_) λ h2=>?_
   ·have ht:=h2;refine Kc ?_;refine zj st5 [0,2,3,7,15] (λ _ _ _ st6=>?_);refine za ?_;refine wp_ret (yq (zK (zK (yq (zK ?_)))));refine ym Z st6 (t:=2) Z ?_;unfold jr;rw[all_fail hx (by simpa using ht)];rfl
   ·have hf:=h2;refine wp_skip ?_;refine z3 ?_;refine za ?_;refine zk st5 (sp 1 (r:=by exact sc Z (wN Z T zT (by simp only[arI];omega))<|segA)) [0,3,7,15] (λ _ _ _ st7=>?_);refine za ⟨k+1,⟨st7.pick (pT [0,3]),by omega,all_next hx hp (by simpa using hf)⟩,by omega⟩
  ·have hend:=Y2 h1;refine wp_exit (zZ (zZ (y6 ?_)));refine za ?_;refine Kc ?_;refine zj st4 [0,2,3,7] (λ _ _ _ st8=>?_);refine za ?_;refine wp_ret ?_;refine ym Z st8 (t:=2) Z ?_;unfold jr;rw[all_end hend hp];rfl
theorem zb8(f:File)(hf:smFile f):Fn Tryz.prog 81 [dt f] (dt (yC f)):=by
 refine yU (fn:=Tryz.f81) Tryz.func81 Z (λ M _ _ hm st0=>?_);refine Kc ?_;refine zk st0 (sc Z (Yv Z T)<|segA) [0,1,2] (λ _ _ _ st1=>?_);refine za ?_;refine Kc ?_;refine Kc ?_;refine zk st1 (sc Z (zQ File.fld0 Z T)
  (sc Z (zz Z T)
  (sc Z (zA (l:=[.tmp 4,.const (.int .i64 0),.const (.int .i64 2)]) Z (.cons T (.cons zT (.cons zT .nil))) (qg _ _ _))
  (sc Z (qe Z T)
  (sc Z (zr Z T)
  (sg Z Z (λ hg=>zQ File.fld4 Z T)
  (sg Z Z (λ hg=>zz Z V)
  (sg Z Z (λ hg=>zA (l:=[.tmp 9,.const (.int .i64 0),.const (.int .i64 99)]) Z (.cons V (.cons zT (.cons zT .nil))) (qg _ _ _))
  (sg Z Z (λ hg=>qe Z V)
  (sc Z (Za Z T T)
  (sc Z (zr Z T)
  (sg Z Z (λ hg=>zQ File.fld1 Z T)
  (sg Z Z (λ hg=>zz Z V)
  (sg Z Z (λ hg=>zA (l:=[.tmp 15]) Z (.cons V .nil) (Z7 _ (by have:=hf.1;unfold mid;omega)))
  (sg Z Z (λ hg=>qe Z V)
  (sc Z (Za Z T T)
  (sc Z (zr Z T)
  (sg Z Z (λ hg=>zQ File.fld5 Z T)
  (sg Z Z (λ hg=>zz Z V)
  (sg Z Z (λ hg=>zA (l:=[.tmp 21]) Z (.cons V .nil) (zb7 _ ⟨hf.2.2.1,hf.2.2.2⟩))
  (sg Z Z (λ hg=>qe Z V)
  (sc Z (Za Z T T)
  .nil)))))))))))))))))))))) [0,1,2,24] (λ _ _ _ st2=>?_)
 refine za ?_;refine zJ (c:=24) st2 Z (λ h1=>?_) λ h1=>?_
 ·have g1:=h1;refine Kc ?_;refine zj st2 [0,1,2,24] (λ _ _ _ st3=>?_);refine za ?_;refine wp_ret (zK ?_);refine ym Z st3 (t:=2) Z ?_;rw[yC,Ke g1]
 ·have g1:=h1;refine wp_skip ?_;refine za ?_;refine Kc ?_;refine Kc ?_;refine zj st2 [0,1,2,24,26] (λ _ _ _ st4=>?_);refine za ?_;refine zJ (c:=26) st4 Z (λ h2=>?_) λ h2=>?_
  ·have g2:=h2;refine Kc ?_;refine zk st4 (sc Z (zQ File.fld1 Z T)
    (sc Z (zz Z T)
    (sc Z (QO Z T (zt))
    (sc Z (zr Z T)
    (sg Z Z (λ hg=>zQ File.fld2 Z T)
    (sg Z Z (λ hg=>zz Z V)
    (sg Z Z (λ hg=>jx Z V (zt))
    (sc Z (xk Z T T)
    (sc Z (yo Z T)
    .nil))))))))) [0,1,2,24,26] (λ _ _ _ st5=>?_)
   refine za ?_;refine wp_ret (zK ?_);refine ym Z st5 (t:=2) Z ?_;rw[yC,Kf (by rw[g1];decide),Ke g2];rfl
  ·have g2:=h2;refine wp_skip ?_;refine za ?_;refine Kc ?_;refine zk st4 (sc Z (zQ File.fld2 Z T)
    (sc Z (zz Z T)
    (sc Z (zA (l:=[.tmp 36]) Z (.cons T .nil) (qw _))
    (sc Z (zr Z T)
    (sg Z Z (λ hg=>zQ File.fld1 Z T)
    (sg Z Z (λ hg=>zz Z V)
    (sg Z Z (λ hg=>zQ File.fld2 Z T)
    (sg Z Z (λ hg=>zz Z V)
    (sg Z Z (λ hg=>zA (l:=[.tmp 40,.tmp 42]) Z (.cons V (.cons V .nil)) (YB _ _ (by have:=hf.1;have:=hf.2.1;omega)))
    (sg Z Z (λ hg=>zA (l:=[.tmp 43]) Z (.cons V .nil) (qy _ (child_mid (by have:=hf.1;have:=hf.2.1;omega))))
    (sc Z (xk Z T T)
    (sc Z (yo Z T)
    .nil)))))))))))) [0,1,2,24,26] (λ _ _ _ st6=>?_)
   refine za ?_;refine wp_ret ?_;refine ym Z st6 (t:=2) Z ?_;rw[yC,Kf (by rw[g1];decide),Kf (by rw[g2];decide)]
theorem zcZ(f g:File):Fn Tryz.prog 92 [dt f,dt g] (dt (wC f g)):=by
 refine yU (fn:=Tryz.f92) Tryz.func92 Z (λ M _ _ hm st0=>?_);refine wqw ?_;refine zk st0 (sc Z (Yv Z T)<|sc Z (Yv Z T)<|segA) [0,1,2,3,4] (λ _ _ _ st1=>?_);refine zk st1 (sc Z (zQ File.fld0 Z T)
  (sc Z (zz Z T)
  (sc Z (zQ File.fld0 Z T)
  (sc Z (zz Z T)
  (sc Z (wQ Z T T)
  (sc Z (zr Z T)
  (sg Z Z (λ hg=>zQ File.fld1 Z T)
  (sg Z Z (λ hg=>zz Z V)
  (sg Z Z (λ hg=>zQ File.fld1 Z T)
  (sg Z Z (λ hg=>zz Z V)
  (sg Z Z (λ hg=>jx Z V V)
  (sc Z (xk Z T T)
  (sc Z (zr Z T)
  (sg Z Z (λ hg=>zQ File.fld3 Z T)
  (sg Z Z (λ hg=>zz Z V)
  (sg Z Z (λ hg=>zQ File.fld3 Z T)
  (sg Z Z (λ hg=>zz Z V)
  (sg Z Z (λ hg=>op_eqT Z V V)
  (sc Z (xk Z T T)
  (sc Z (zr Z T)
  (sg Z Z (λ hg=>zQ File.fld2 Z T)
  (sg Z Z (λ hg=>zz Z V)
  (sg Z Z (λ hg=>zQ File.fld2 Z T)
  (sg Z Z (λ hg=>zz Z V)
  (sg Z Z (λ hg=>jx Z V V)
  (sc Z (xk Z T T)
  (sc Z (yo Z T)
  .nil))))))))))))))))))))))))))) [0,1,2,3,4] (λ _ _ _ st2=>?_)
 refine ym Z st2 (t:=4) Z ?_;simp[wC,cmpI]
theorem Xp(t:Tree)(f:File):Fn Tryz.prog 57 [dt t,dt f] (dt (xB t.files f)):=by
 refine yU (fn:=Tryz.f57) Tryz.func57 Z (λ M w0 _ hm st0=>?_);have hlen:=st0.fldL Tree.fld0 (s:=0) Z;refine Kc ?_;refine zk st0 (sc Z (Yv Z T)<|sc Z (Yv Z T)<|segA) [0,1,2,3,4] (λ _ _ _ st1=>?_);refine za ?_;refine Kc ?_;refine Kc ?_;refine zk st1 (segA) [0,1,2,3,4,5] (λ _ _ _ st2=>?_);refine za ?_;refine wp_block ?_;refine jD (ι:=Nat) (λ k a w=>St (Frm.of w0) 21 M [(0,dt t),(1,dt f),(2,dptr t),(3,dptr f),(5,dt (k:Int))] a w/\k<=t.files.length/\(t.files.take k).any (λ x=>wC x f)=false) (λ k=>t.files.length - k) 0 ?_ ?_
 ·exact⟨st2.pick (pT [0,1,2,3,5]),Nat.zero_le _,by simp⟩
 ·rintro k a3 w3 ⟨st3,hk,hp⟩
  refine Kc ?_;refine Kc ?_;refine zk st3 (segA) [0,1,2,3,5,10] (λ _ _ _ st4=>?_);refine za ?_;refine zJ (c:=10) st4 Z (λ h1=>?_) λ h1=>?_
  ·obtain⟨x,hx⟩:=Y1 h1;have hlt:=zG hx;refine wp_skip ?_;refine za ?_;refine Kc ?_;refine wp_block ?_;refine Kc ?_;refine Y0 yc [[],[0],[],[0,1,2],[0,1,2,3],[],[0,1,2,3,4,5]] [[(2,nS)],[(13,0)],[(5,nS)],[(14,1),(15,2)],[(16,3)],[(3,nS)],[(17,4),(18,5)]] st4 (D:=[_,_,_,_,_,_,_])
    (rc Z Z (zQ Tree.fld0 Z T)
    (rc Z Z (zz Z T)
    (rc Z Z (zr Z T)
    (rc Z Z (yJ Z T T Z (by assumption))
    (rc Z Z (zz Z T)
    (rc Z Z (zz Z T)
    (rc Z Z (zA (l:=[.tmp 17,.tmp 18]) Z (.cons T (.cons T .nil)) (zcZ _ _))
    .nil)))))))
    (pT [0,1,2,3,5,10,19]) (λ _ _ _ st5=>?_)
   refine za ?_;refine zJ (c:=19) st5 Z (λ h2=>?_) λ h2=>?_
   ·have ht:=h2;refine Kc ?_;refine zj st5 [0,1,2,3,4,5,10,19] (λ _ _ _ st6=>?_);refine za ?_;refine wp_ret (yq (zK (zK (yq (zK ?_)))));refine ym Z st6 (t:=4) Z ?_;exact(idx_hit hp hx ht).symm
   ·have hf:=h2;refine wp_skip ?_;refine z3 ?_;refine za ?_;refine zk st5 (sp 1 (r:=by exact sc Z (wN Z T zT (by simp only[arI];omega))<|segA)) [0,1,2,3,5,10,19] (λ _ _ _ st7=>?_);refine za ⟨k+1,⟨st7.pick (pT [0,1,2,3,5]),by omega,zbX hx hp hf⟩,by omega⟩
  ·have hend:=Y2 h1;refine wp_exit (zZ (zZ (y6 ?_)));refine za ?_;refine Kc ?_;refine zj st4 [0,1,2,3,4,5,10] (λ _ _ _ st8=>?_);refine za ?_;refine wp_ret ?_;refine ym Z st8 (t:=4) Z ?_;exact(idx_end hend hp).symm
theorem spec_intAt_ok(l:List Int)(n:Int):Fn Tryz.prog 39 [dt l,dt n] (dt (intAt l n)):=by
 refine yU (fn:=Tryz.f39) Tryz.func39 Z (λ M w0 _ hm st0=>?_);have hlen:=st0.lenL (s:=0) Z;refine Kc ?_;refine zj st0 [0,1,4] (λ _ _ _ st1=>?_);refine za ?_;refine Kc ?_;refine Kc ?_;refine zj st1 [0,1,4,5] (λ _ _ _ st2=>?_);refine za ?_;refine wp_block ?_;refine jD (ι:=Nat) (λ k a w=>St (Frm.of w0) 19 M [(0,dt l),(1,dt n),(5,dt (k:Int))] a w/\k<=l.length/\(l.take k).any (λ x=>x == n)=false) (λ k=>l.length - k) 0 ?_ ?_
 ·exact⟨st2.pick (pT [0,1,5]),Nat.zero_le _,by simp⟩
 ·rintro k a3 w3 ⟨st3,hk,hp⟩
  refine Kc ?_;refine Kc ?_;refine zj st3 [0,1,5,9] (λ _ _ _ st4=>?_);refine za ?_;refine zJ (c:=9) st4 Z (λ h1=>?_) λ h1=>?_
  ·obtain⟨x,hx⟩:=Y1 h1;have hlt:=zG hx;refine wp_skip ?_;refine za ?_;refine Kc ?_;refine wp_block ?_;refine Kc ?_;refine zk st4 (sp 2 (r:=by exact sc Z (yJ Z T T Z (by assumption))<|segA)) [0,1,5,9,17] (λ _ _ _ st5=>?_);refine za ?_;refine zJ (c:=17) st5 Z (λ h2=>?_) λ h2=>?_
   ·have ht:=h2;refine Kc ?_;refine zj st5 [0,1,4,5,9,17] (λ _ _ _ st6=>?_);refine za ?_;refine wp_ret (yq (zK (zK (yq (zK ?_)))));refine ym Z st6 (t:=4) Z ?_;exact(idx_hit hp hx ht).symm
   ·have hf:=h2;refine wp_skip ?_;refine z3 ?_;refine za ?_;refine zk st5 (sp 1 (r:=by exact sc Z (wN Z T zT (by simp only[arI];omega))<|segA)) [0,1,5,9,17] (λ _ _ _ st7=>?_);refine za ⟨k+1,⟨st7.pick (pT [0,1,5]),by omega,zbX hx hp hf⟩,by omega⟩
  ·have hend:=Y2 h1;refine wp_exit (zZ (zZ (y6 ?_)));refine za ?_;refine Kc ?_;refine zj st4 [0,1,4,5,9] (λ _ _ _ st8=>?_);refine za ?_;refine wp_ret ?_;refine ym Z st8 (t:=4) Z ?_;exact(idx_end hend hp).symm
theorem WS  : Fn Tryz.prog 84 [] (dt Wg):=by
 refine yU (fn:=Tryz.f84) Tryz.func84 Z (λ M _ _ hm st0=>?_);refine wqw ?_;refine Ka ?_;refine zaF (n:=3) st0 Z Z Z .nil (λ b1 _ _ hb1 hn1 _ st1=>?_);refine Kb ?_;refine Ka ?_;refine Zb 2 st1 (sc Z (yf (opds:=[]) (α:=Int) Z Z Z .nil)
  (sc Z (yp (parts:=[(0,.const (.int .i64 0)),(1,.const (.int .i64 (-1))),(2,.tmp 1)]) (ns:=[1,1,1]) (zs:=[[.int .i64 0],[.int .i64 0],[.slice none 0 0]]) Z Z (λ w a hl=>by
    intro p hp;simp only[List.mem_cons,List.not_mem_nil,or_false] at hp;rcases hp with rfl | rfl | rfl
    ·exact⟨by decide,Z⟩
    ·exact⟨by decide,Z⟩
    ·exact⟨by decide,Rep.len (α:=(List Int)) (OpdR.cells T hl)⟩) (λ w a hl=>Spec.parts (x:=⟨0,-1,[]⟩) (OpdR.cells zT hl) (OpdR.cells zT hl) (OpdR.cells T hl)))
  .nil))
  (pT [0,2]) (λ _ _ _ st2=>?_)
 refine qu st2 Z Z Z Z hb1 (.inr Z) Z T .nil (λ _ st3=>?_);refine Kb ?_;refine ret_box Z st3 (t:=0) Z (λ _ h=>(.inl h)) ?_;rfl
theorem Q0(t:Tree)(root:Int)(p:Str)(hp:p.l.length<=1152921504606846976):Fn Tryz.prog 118 [dt t,dt root,dt p] (dt (Xl t.files root p)):=by
 refine yU (fn:=Tryz.f118) Tryz.func118 Z (λ M w0 _ hm st0=>?_);have hlen:=st0.fldL Tree.fld0 (s:=0) Z;refine Kc ?_;refine zk st0 (sc Z (Yv Z T)<|segA) [0,1,2,3,6] (λ _ _ _ st1=>?_);refine za ?_;refine Kc ?_;refine Kc ?_;refine zj st1 [0,1,2,3,6,7] (λ _ _ _ st2=>?_);refine za ?_;refine wp_block ?_;refine jD (ι:=Nat) (λ k a w=>St (Frm.of w0) 44 M [(0,dt t),(1,dt root),(2,dt p),(3,dptr t),(7,dt (k:Int))] a w/\k<=t.files.length/\(t.files.take k).any (QW root p)=false) (λ k=>t.files.length - k) 0 ?_ ?_
 ·exact⟨st2.pick (pT [0,1,2,3,7]),Nat.zero_le _,by simp⟩
 ·rintro k a3 w3 ⟨st3,hk,hq⟩
  refine Kc ?_;refine Kc ?_;refine zj st3 [0,1,2,3,7,12] (λ _ _ _ st4=>?_);refine za ?_;refine zJ (c:=12) st4 Z (λ h1=>?_) λ h1=>?_
  ·obtain⟨x,hx⟩:=Y1 h1;have hlt:=zG hx;refine wp_skip ?_;refine za ?_;refine Kc ?_;refine wp_block ?_;refine Kc ?_;refine zk st4 (sc Z (zQ Tree.fld0 Z T)
    (sc Z (zz Z T)
    (sc Z (zr Z T)
    (sc Z (yJ Z T T Z (by assumption))
    (sc Z (zQ File.fld0 Z T)
    (sc Z (zz Z T)
    (sc Z (zr Z T)
    (sc Z (wQ Z T T)
    (sc Z (zr Z T)
    (sg Z Z (λ hg=>zQ Tree.fld0 Z T)
    (sg Z Z (λ hg=>zz Z V)
    (sg Z Z (λ hg=>zr Z T)
    (sg Z Z (λ hg=>yJ Z V V Z (by assumption))
    (sg Z Z (λ hg=>zQ File.fld1 Z V)
    (sg Z Z (λ hg=>zz Z V)
    (sg Z Z (λ hg=>QO Z V (zt))
    (sc Z (xk Z T T)
    (sc Z (zr Z T)
    (sg Z Z (λ hg=>zQ Tree.fld0 Z T)
    (sg Z Z (λ hg=>zz Z V)
    (sg Z Z (λ hg=>zr Z T)
    (sg Z Z (λ hg=>yJ Z V V Z (by assumption))
    (sg Z Z (λ hg=>zQ File.fld1 Z V)
    (sg Z Z (λ hg=>zz Z V)
    (sg Z Z (λ hg=>zr Z T)
    (sg Z Z (λ hg=>zA (l:=[.tmp 38,.tmp 39]) Z (.cons V (.cons V .nil)) (za6 _ _ (by assumption)))
    (sc Z (xk Z T T)
    .nil))))))))))))))))))))))))))) [0,1,2,3,7,12,41] (λ _ _ _ st5=>?_)
   refine za ?_;refine zJ (c:=41) st5 Z (λ h2=>?_) λ h2=>?_
   ·have ht:=h2;refine Kc ?_;refine zj st5 [0,1,2,3,6,7,12,41] (λ _ _ _ st6=>?_);refine za ?_;refine wp_ret (yq (zK (zK (yq (zK ?_)))));refine ym Z st6 (t:=6) Z ?_;rw[Xl,any_hit (p:=QW root p) hx ht];rfl
   ·have hf:=h2;refine wp_skip ?_;refine z3 ?_;refine za ?_;refine zk st5 (sp 1 (r:=by exact sc Z (wN Z T zT (by simp only[arI];omega))<|segA)) [0,1,2,3,7,12,41] (λ _ _ _ st7=>?_);refine za ⟨k+1,⟨st7.pick (pT [0,1,2,3,7]),by omega,zbX (p:=QW root p) hx hq hf⟩,by omega⟩
  ·have hend:=Y2 h1;refine wp_exit (zZ (zZ (y6 ?_)));refine za ?_;refine Kc ?_;refine zj st4 [0,1,2,3,6,7,12] (λ _ _ _ st8=>?_);refine za ?_;refine wp_ret ?_;refine ym Z st8 (t:=6) Z ?_;rw[Xl,any_end hend hq];rfl
theorem Jh(l:List Int):Fn Tryz.prog 16 [dt l] (dt (yk l)):=by
 refine yU (fn:=Tryz.f16) Tryz.func16 Z (λ M w0 _ hm st0=>?_);have hlen:=st0.lenL (s:=0) Z;refine Kc ?_;refine zj st0 [0,2] (λ _ _ _ st1=>?_);refine za ?_;refine Kc ?_;refine Kc ?_;refine zj st1 [0,2,3] (λ _ _ _ st2=>?_);refine za ?_;refine wp_block ?_;refine jD (ι:=Nat) (λ k a w=>St (Frm.of w0) 27 M [(0,dt l),(3,dt (k:Int))] a w/\k<=l.length/\QX l k=true) (λ k=>l.length - k) 0 ?_ ?_
 ·exact⟨st2.pick (pT [0,3]),Nat.zero_le _,Z⟩
 ·rintro k a3 w3 ⟨st3,hk,hp⟩
  refine Kc ?_;refine Kc ?_;refine zj st3 [0,3,7] (λ _ _ _ st4=>?_);refine za ?_;refine zJ (c:=7) st4 Z (λ h1=>?_) λ h1=>?_
  ·obtain⟨x,hx⟩:=Y1 h1;have hlt:=zG hx;refine wp_skip ?_;refine za ?_;refine Kc ?_;refine wp_block ?_;refine Kc ?_;refine Y0 yc [[],[],[0,1],[0,1,2],[0,1,2,3],[0,1,2,3,4],[0,1,2,3,4,5],[0,1,2,3,4,5,6],[0,1,2,3,4,5,6],[0,1,2,3,4,5,6,7,8],[0,1,2,3,4,5,6],[0,1,2,3,4,5,6],[0,1,2,3,4,5,6,10,11],[0,1,2,3,4,5,6,10,11,12],[0,1,2,3,4,5,6,7,8,9,10,11,12,13],[0,1,2,3,4,5,6,7,8,9,10,11,12,13,14],[0,1,2,3,4,5,6,7,8,9,10,11,12,13,14,15]] [[(0,nS)],[(3,nS)],[(10,0),(11,1)],[(12,2)],[(13,3)],[(14,4)],[(15,5)],[(0,nS),(16,6)],[(3,nS),(16,6)],[(17,7),(18,8),(16,6)],[(0,nS),(16,6)],[(3,nS),(16,6)],[(20,10),(21,11),(16,6)],[(22,12),(16,6)],[(19,9),(23,13),(16,6)],[(24,14),(16,6)],[(16,6),(25,15)]] st4 (D:=[_,_,_,_,_,_,_,_,_,_,_,_,_,_,_,_,_])
    (rc Z Z (zr Z T)
    (rc Z Z (zr Z T)
    (rc Z Z (yJ Z T T Z (by assumption))
    (rc Z Z (zz Z T)
    (rc Z Z (zA (l:=[.tmp 13,.const (.int .i64 0),.const (.int .i64 2)]) Z (.cons T (.cons zT (.cons zT .nil))) (qg _ _ _))
    (rc Z Z (qe Z T)
    (rc Z Z (zr Z T)
    (.cons Z (by decide) Z (.guarded Z Z (by decide) Z zC (λ hg=>zr Z T))
    (.cons Z (by decide) Z (.guarded Z Z (by decide) Z zC (λ hg=>zr Z T))
    (.cons Z (by decide) Z (.guarded Z Z (by decide) Z zC (λ hg=>WJ Z V V Z (by omega)))
    (.cons Z (by decide) Z (.guarded Z Z (by decide) Z zC (λ hg=>zr Z T))
    (.cons Z (by decide) Z (.guarded Z Z (by decide) Z zC (λ hg=>zr Z T))
    (.cons Z (by decide) Z (.guarded Z Z (by decide) Z zC (λ hg=>yJ Z V V Z (by assumption)))
    (.cons Z (by decide) Z (.guarded Z Z (by decide) Z zC (λ hg=>zz Z V))
    (.cons Z (by decide) Z (.guarded Z Z (by decide) Z zC (λ hg=>zA (l:=[.tmp 19,.tmp 23]) Z (.cons V (.cons V .nil)) (spec_intAt_ok _ _)))
    (.cons Z (by decide) Z (.guarded Z Z (by decide) Z zC (λ hg=>wQ Z V zT))
    (rc Z Z (Za Z T T)
    .nil)))))))))))))))))
    (pT [0,3,7,26]) (λ _ _ _ st5=>?_)
   refine za ?_;refine zJ (c:=26) st5 Z (λ h2=>?_) λ h2=>?_
   ·have ht:=h2;refine Kc ?_;refine zj st5 [0,2,3,7,26] (λ _ _ _ st6=>?_);refine za ?_;refine wp_ret (yq (zK (zK (yq (zK ?_)))));refine ym Z st6 (t:=2) Z ?_;exact(validPath_bad hx ht).symm
   ·have hf:=h2;refine wp_skip ?_;refine z3 ?_;refine za ?_;refine zk st5 (sp 1 (r:=by exact sc Z (wN Z T zT (by simp only[arI];omega))<|segA)) [0,3,7,26] (λ _ _ _ st7=>?_);refine za ⟨k+1,⟨st7.pick (pT [0,3]),by omega,pathTo_next hx hp hf⟩,by omega⟩
  ·have hend:=Y2 h1;refine wp_exit (zZ (zZ (y6 ?_)));refine za ?_;refine Kc ?_;refine zj st4 [0,2,3,7] (λ _ _ _ st8=>?_);refine za ?_;refine wp_ret ?_;refine ym Z st8 (t:=2) Z ?_;exact(validPath_end hend hk hp).symm
theorem Ji(t:Tree)(ht:xw t):Fn Tryz.prog 43 [dt t] (dt (zB t)):=by
 refine yU (fn:=Tryz.f43) Tryz.func43 Z (λ M w0 _ hm st0=>?_);have hlen:=ht.1;refine Kc ?_;refine zk st0 (sc Z (Yv Z T)<|segA) [0,1,2] (λ _ _ _ st1=>?_);refine za ?_;refine Kc ?_;refine Kc ?_;refine zj st1 [0,1,2,3] (λ _ _ _ st2=>?_);refine za ?_;refine wp_block ?_;refine jD (ι:=Nat) (λ k a w=>St (Frm.of w0) 33 M [(0,dt t),(1,dptr t),(3,dt (k:Int))] a w/\k<=t.files.length/\Js t.files k=true) (λ k=>t.files.length - k) 0 ?_ ?_
 ·exact⟨st2.pick (pT [0,1,3]),Nat.zero_le _,Z⟩
 ·rintro k a3 w3 ⟨st3,hk,hp⟩
  refine Kc ?_;refine Kc ?_;refine zj st3 [0,1,3,8] (λ _ _ _ st4=>?_);refine za ?_;refine zJ (c:=8) st4 Z (λ h1=>?_) λ h1=>?_
  ·obtain⟨x,hx⟩:=Y1 h1;have hlt:=zG hx;refine wp_skip ?_;refine za ?_;refine Kc ?_;refine wp_block ?_;refine Kc ?_;refine Y0 yc [[],[0],[],[0,1,2],[0,1,2,3],[0,1,2,3,4],[0,1,2,3,4,5],[0,1,2,3,4,5,6],[0,1,2,3,4,5,6,7],[0,1,2,3,4,5,6,7],[0,1,2,3,4,5,6,7,9],[0,1,2,3,4,5,6,7],[0,1,2,3,4,5,6,7,9,10,11],[0,1,2,3,4,5,6,7,9,10,11,12],[0,1,2,3,4,5,6,7,8,9,10,11,12,13],[0,1,2,3,4,5,6,7],[0,1,2,3,4,5,6,7,8,9,10,11,12,13,14,15],[0,1,2,3,4,5,6,7,8,9,10,11,12,13,14,15,16]] [[(1,nS)],[(11,0)],[(3,nS)],[(12,1),(13,2)],[(14,3)],[(15,4)],[(16,5)],[(17,6)],[(1,nS),(18,7)],[(1,nS),(18,7)],[(20,9),(18,7)],[(3,nS),(18,7)],[(21,10),(22,11),(18,7)],[(23,12),(18,7)],[(19,8),(24,13),(18,7)],[(3,nS),(18,7)],[(25,14),(26,15),(18,7)],[(18,7),(27,16)]] st4 (D:=[_,_,_,_,_,_,_,_,_,_,_,_,_,_,_,_,_,_])
    (rc Z Z (zQ Tree.fld0 Z T)
    (rc Z Z (zz Z T)
    (rc Z Z (zr Z T)
    (rc Z Z (yJ Z T T Z (by assumption))
    (rc Z Z (zz Z T)
    (rc Z Z (zA (l:=[.tmp 15]) Z (.cons T .nil) (zb8 _ (ht.2 _ (List.mem_of_getElem? hx))))
    (rc Z Z (qe Z T)
    (rc Z Z (zr Z T)
    (.cons Z (by decide) Z (.guarded Z Z (by decide) Z zC (λ hg=>zz Z T))
    (.cons Z (by decide) Z (.guarded Z Z (by decide) Z zC (λ hg=>zQ Tree.fld0 Z T))
    (.cons Z (by decide) Z (.guarded Z Z (by decide) Z zC (λ hg=>zz Z V))
    (.cons Z (by decide) Z (.guarded Z Z (by decide) Z zC (λ hg=>zr Z T))
    (.cons Z (by decide) Z (.guarded Z Z (by decide) Z zC (λ hg=>yJ Z V V Z (by assumption)))
    (.cons Z (by decide) Z (.guarded Z Z (by decide) Z zC (λ hg=>zz Z V))
    (.cons Z (by decide) Z (.guarded Z Z (by decide) Z zC (λ hg=>zA (l:=[.tmp 19,.tmp 24]) Z (.cons V (.cons V .nil)) (Xp _ _)))
    (.cons Z (by decide) Z (.guarded Z Z (by decide) Z zC (λ hg=>zr Z T))
    (.cons Z (by decide) Z (.guarded Z Z (by decide) Z zC (λ hg=>wQ Z V V))
    (rc Z Z (Za Z T T)
    .nil))))))))))))))))))
    (pT [0,1,3,8,28]) (λ _ _ _ st5=>?_)
   refine za ?_;refine zJ (c:=28) st5 Z (λ h2=>?_) λ h2=>?_
   ·have hq:=h2;refine Kc ?_;refine zj st5 [0,1,2,3,8,28] (λ _ _ _ st6=>?_);refine za ?_;refine wp_ret (yq (zK (zK (yq (zK ?_)))));refine ym Z st6 (t:=2) Z ?_;exact(validTree_bad hx hq).symm
   ·have hf:=h2;refine wp_skip ?_;refine z3 ?_;refine za ?_;refine zk st5 (sp 1 (r:=by exact sc Z (wN Z T zT (by simp only[arI];omega))<|segA)) [0,1,3,8,28] (λ _ _ _ st7=>?_);refine za ⟨k+1,⟨st7.pick (pT [0,1,3]),by omega,treeTo_next hx hp hf⟩,by omega⟩
  ·have hend:=Y2 h1;refine wp_exit (zZ (zZ (y6 ?_)));refine za ?_;refine Kc ?_;refine zj st4 [0,1,2,3,8] (λ _ _ _ st8=>?_);refine za ?_;refine wp_ret ?_;refine ym Z st8 (t:=2) Z ?_;exact(validTree_end hend hk hp)
theorem zbA(xs:List Str)(s:Str)(hx:xs.length<=8796093022200):zbr Tryz.prog 117 9 (xs) [dt s] (x8 xs s):=by
 refine zec (fn:=Tryz.f117) Tryz.func117 Z (oD Z) (λ M g w0 _ htip hm st0=>?_);refine Kc ?_;refine zk st0 (sc Z (yo Z (jC (α:=Str)))
  .nil) [0,1,4] (λ _ _ _ st1=>?_)
 refine za ?_;refine Kc ?_;refine Kc ?_;refine zk st1 (sp 2 (r:=by exact sc Z (wB (M0:=M) (l:=[.tmp 7,.tmp 8]) (λ _ h=>.inl h) Z (.cons (opd2_tip (λ _ h=>.inl h) htip T) (.cons (qR (λ _ h=>.inl h) T) .nil)) (zdQ _ _) Y8)<|.nil)) [0,1,4,9] (λ _ _ _ st2=>?_);refine za ?_;refine zJ (c:=9) st2 Z (λ h1=>?_) λ h1=>?_
 ·have hin:=h1;refine Kc ?_;refine zj st2 [0,1,4,9] (λ _ _ _ st3=>?_);refine za ?_;refine wp_ret (zK ?_);refine ret_take Z Z htip (λ _ h=>h) st3 (t:=4) Z ?_;rw[x8,Ke hin]
 ·have hin:=h1;refine wp_skip ?_;refine za ?_;refine Kc ?_;refine zk st2 (sp 1 (r:=by exact sc Z (op_lenT Z T)<|segA)) [0,1,4,5,9] (λ _ _ _ st4=>?_);refine za ?_;refine Kc ?_;refine wp_block ?_;refine jD (ι:=Nat) (λ k a w=>St (Frm.take w0 g) 39 (insO g M) [(0,dtip g 9 (xs)),(1,dt s),(5,dt (k:Int))] a w/\k<=xs.length/\jS xs s k=jS xs s xs.length) (λ k=>k) xs.length ?_ ?_
  ·exact⟨st4.pick (pT [0,1,5]),Nat.le_refl _,Z⟩
  ·rintro k a5 w5 ⟨st5,hk,hp⟩
   obtain⟨y,hy⟩:=insGet hk;refine Kc ?_;refine Kc ?_;refine zk st5 (sc Z (zr Z T)
    (sc Z (wQ Z T zT)
    (sc Z (zr Z T)
    (sg Z Z (λ hg=>zr Z T)
    (sg Z Z (λ hg=>zr Z T)
    (sg Z Z (λ hg=>wN Z V zT (by simp only[arI];omega))
    (sg Z Z (λ hg=>zbV Z (by kernel_rfl) V V (k:=k - 1) (by have:=gtz' hg;simp only[arI];omega) (hy (gtz' hg)))
    (sg Z Z (λ hg=>yx Z V)
    (sg Z Z (λ hg=>zr Z T)
    (sg Z Z (λ hg=>op_cmpS Z V V)
    (sc Z (xk Z T T)
    .nil))))))))))) [0,1,5,23] (λ _ _ _ st6=>?_)
   refine za ?_;refine zJ (c:=23) st6 Z (λ h2=>?_) λ h2=>?_
   ·have htk:=h2;refine wp_skip ?_;refine za ?_;refine wp_block ?_;refine zk st6 (sp 1 (r:=by exact sc Z (wN Z T zT (by simp only[arI];omega))<|segA)) [0,1,5,23] (λ _ _ _ st7=>?_);refine z3 ?_;refine za ⟨k - 1,⟨?_,by omega,(insPos_down hy htk).trans hp⟩,by have:=gtz htk;omega⟩;rw[show((k - 1:Nat):Int)=arI .sub k 1 from by have:=gtz htk;simp only[arI];omega];exact st7.pick (pT [0,1,5])
   ·have hend:=h2;refine wp_exit (zZ (zZ (y6 ?_)));refine za ?_;refine Kc ?_;refine Ka ?_;refine Zb 4 st6.ins0 (sc Z (wA (α:=Str) (e:=9) Z) (sc Z (zr Z T) (sc Z (zr Z T) (sc Z (op_sliceLT Z T T Z (by assumption)) .nil)))) (pT [0,1,5,26,29]) (λ _ _ _ st50=>?_);refine Z4 (bytes:=16) st50 Z Z Z Z Z row_row (by simp;omega) (by simp;omega) (.cons (s:=0) Z off_none (.cons (s:=1) Z (λ _ _ h=>h) (.cons (s:=5) Z (λ _ _ h=>h) .nil))) TipOK.none_ (λ g51 _ _ hg51 st51=>?_);refine Zb 1 st51 (sc Z (yo Z T) .nil) (pT [0,1,5,6]) (λ _ _ _ st52=>?_);refine Kb ?_;refine za ?_;refine Kc ?_;have st53:=st52.congr (swap_tip (g:=g) (g2:=g51) (M:=M));refine Ka ?_;refine Zb 5 st53 (sc Z (zr Z T) (sc Z (zr Z T) (sc Z (op_sliceHT Z T T Z (by assumption)) (sc Z (zr Z T) (sc Z (yf (opds:=[.tmp 34]) Z Z Z (.cons T .nil)) .nil))))) (pT [1,6,33,35]) (λ _ _ _ st54=>?_);refine Z4 (bytes:=16) st54 Z Z Z Z Z xv (by simp;omega) (by simp;omega) (.cons (s:=1) Z (λ _ _ h=>h) (.cons (s:=6) Z (own_apart hg51) .nil)) (htip.apart hg51) (λ g55 _ _ hg55 st55=>?_);refine Zb 1 st55 (sc Z (zr Z T) .nil) (pT [36,37]) (λ _ _ _ st56=>?_);refine Z4 (bytes:=16) st56 Z Z Z Z Z row_tip (by simp;omega) (by simp;omega) .nil hg55 (λ g57 _ _ hg57 st57=>?_);refine Zb 1 st57 (sc Z (yo Z T) .nil) (pT [4]) (λ _ _ _ st58=>?_);refine Kb ?_;refine za ?_;refine wp_ret ?_;refine ret_take Z Z hg57 (λ _ h=>h.imp .inl id) st58 (t:=4) Z ?_;rw[x8,Kf (by rw[hin];decide),← hp,insPos_stop hy hend];simp
theorem spec_names_ok(t:Tree)(ht:xw t):FnOwn Tryz.prog 82 [dt t] 9 (names t):=by
 refine own_of_wp (fn:=Tryz.f82) Tryz.func82 Z (oD Z) (λ M w0 _ hm st0=>?_);have hlen:=ht.1;refine Kc ?_;refine zk st0 (sc Z (Yv Z T)
  (sc Z (yo Z (jC (α:=Str)))
  .nil)) [0,1,2] (λ _ _ _ st1=>?_)
 refine za ?_;refine Kc ?_;refine zk st1 (sc Z (wA (α:=Str) (e:=9) Z)<|segA) [0,1,2,3] (λ _ _ _ st2=>?_);refine za ?_;refine Kc ?_;refine Kc ?_;refine zj st2 [0,1,2,3,4] (λ _ _ _ st3=>?_);refine za ?_;refine wp_block ?_;refine jD (ι:=Nat) (λ k a w=>∃ g,TipOK (Frm.of w0) M g/\St (Frm.of w0) 35 (insO g M) [(0,dt t),(1,dptr t),(3,dtip g 9 (Zd (t.files.take k))),(4,dt (k:Int))] a w/\k<=t.files.length/\(Zd (t.files.take k)).length<=k*4194000) (λ k=>t.files.length - k) 0 ?_ ?_
 ·exact⟨none,TipOK.none_,st3.ins0.pick (pT [0,1,3,4]),Nat.zero_le _,Nat.zero_le _⟩
 ·rintro k a4 w4 ⟨g4,hg4,st4,hk,hn⟩
  refine Kc ?_;refine Kc ?_;refine zj st4 [0,1,3,4,12] (λ _ _ _ st5=>?_);refine za ?_;refine zJ (c:=12) st5 Z (λ h1=>?_) λ h1=>?_
  ·obtain⟨x,hx⟩:=Y1 h1;have hlt:=zG hx;have hsx:=ht.2 _ (List.mem_of_getElem? hx);have hal:=zdA hsx;refine wp_skip ?_;refine za ?_;refine Kc ?_;refine wp_block ?_;refine Kc ?_;refine zk st5 (sp 3 (r:=by exact sc Z (yJ Z T T Z (by assumption))<|sp 1 (r:=by exact sc Z (zA (l:=[.tmp 19]) Z (.cons T .nil) (WR _ (ht.2 _ (List.mem_of_getElem? hx))))<|sc Z (zA (l:=[.tmp 20]) Z (.cons T .nil) (za5 _ (module_mid (ht.2 _ (List.mem_of_getElem? hx)))))<|segA))) [0,1,3,4,5,12] (λ _ _ _ st6=>?_);refine za ?_;refine Kc ?_;refine zj st6 [0,1,3,4,5,6,12] (λ _ _ _ st7=>?_);refine za ?_;refine wp_block ?_;refine jD (ι:=Nat) (λ j a w=>∃ g,TipOK (Frm.of w0) M g/\St (Frm.of w0) 35 (insO g M) [(0,dt t),(1,dptr t),(3,dtip g 9 (((wi (zN x)).take j).foldl x8 (Zd (t.files.take k)))),(4,dt (k:Int)),(5,dt (wi (zN x))),(6,dt (j:Int))] a w/\j<=(wi (zN x)).length/\(((wi (zN x)).take j).foldl x8 (Zd (t.files.take k))).length<=k*4194000+j) (λ j=>(wi (zN x)).length - j) 0 ?_ ?_
   ·exact⟨g4,hg4,st7.pick (pT [0,1,3,4,5,6]),Nat.zero_le _,by rw[List.take_zero,List.foldl_nil,Nat.add_zero];exact hn⟩
   ·rintro j a8 w8 ⟨g8,hg8,st8,hj,hnj⟩
    refine Kc ?_;refine Kc ?_;refine zj st8 [0,1,3,4,5,6,25] (λ _ _ _ st9=>?_);refine za ?_;refine zJ (c:=25) st9 Z (λ h2=>?_) λ h2=>?_
    ·obtain⟨y,hy⟩:=Y1 h2;have hltj:=zG hy;refine wp_skip ?_;refine za ?_;refine Kc ?_;refine wp_block ?_;refine Ka ?_;refine Zb 5 st9 (sc Z (zr Z T)
      (sc Z (zr Z T)
      (sc Z (zr Z T)
      (sc Z (yJ Z T T Z (by assumption))
      (sc Z (zz Z T)
      .nil)))))
      (pT [0,1,3,4,5,6,25,28,32]) (λ _ _ _ st10=>?_)
     refine wpl_take (l:=[.tmp 32]) (st10) Z Z Z Z (.cons T .nil) (zbA _ _ (by omega)) (.cons (s:=0) Z (λ _ _ h=>h) (.cons (s:=1) Z (λ _ _ h=>h) (.cons (s:=4) Z (λ _ _ h=>h) (.cons (s:=5) Z (λ _ _ h=>h) (.cons (s:=6) Z (λ _ _ h=>h) (.cons (s:=25) Z (λ _ _ h=>h) .nil)))))) (hg8) (λ g11 _ _ hg11 st11=>?_);refine Zb 1 st11 (sc Z (yo Z T)
      .nil)
      (pT [0,1,3,4,5,6,25]) (λ _ _ _ st12=>?_)
     refine Kb ?_;refine z3 ?_;refine za ?_;refine zk st12 (sp 1 (r:=by exact sc Z (wN Z T zT (by simp only[arI];omega))<|segA)) [0,1,3,4,5,6,25] (λ _ _ _ st13=>?_);refine za ⟨j+1,⟨g11,hg11,?_,by omega,by rw[WO hy];have:=zdz (((wi (zN x)).take j).foldl x8 (Zd (t.files.take k))) y;omega⟩,by omega⟩;rw[WO hy];exact st13.pick (pT [0,1,3,4,5,6])
    ·have hendj:=Y2 h2;refine wp_exit (zZ (zZ (y6 ?_)));refine z3 ?_;refine za ?_;refine zk st9 (sp 1 (r:=by exact sc Z (wN Z T zT (by simp only[arI];omega))<|segA)) [0,1,3,4,5,6,25] (λ _ _ _ st14=>?_);refine za ⟨k+1,⟨g8,hg8,?_,by omega,by have:=za2 (wi (zN x)) (Zd (t.files.take k));rw[za3 hx];omega⟩,by omega⟩;rw[za3 hx,← foldl_end hendj];exact st14.pick (pT [0,1,3,4])
  ·have hend:=Y2 h1;refine wp_exit (zZ (zZ (y6 ?_)));refine za ?_;refine Kc ?_;refine zj st5 [0,1,2,3,4,12] (λ _ _ _ st15=>?_);refine za ?_;refine wp_ret ?_;refine ret_own Z (hg4) (λ _ h=>h) st15 (t:=2) Z ?_;rw[names,List.take_of_length_le hend]
theorem Q1(t:Tree)(roots:List Int)(p s:Str)(hr:roots.length<=1099511627776)(hp:p.l.length+s.l.length<=1152921504606846975):Fn Tryz.prog 85 [dt t,dt roots,dt p,dt s] (dt (jE t.files roots p s)):=by
 refine yU (fn:=Tryz.f85) Tryz.func85 Z (λ M w0 _ hm st0=>?_);refine Kc ?_;refine Ka ?_;refine Zb 1 st0 (sc Z (Yv Z T)
  .nil)
  (pT [0,1,2,3,4]) (λ _ _ _ st1=>?_)
 refine zaF (n:=3) st1 Z Z Z (pT [0,1,2,3,4]) (λ b2 _ _ hb2 hn2 _ st2=>?_);refine Kb ?_;refine za ?_;refine Kc ?_;refine zk st2 (sc Z (wA (α:=Int) (e:=3) Z)<|segA) [0,1,2,3,4,8,9] (λ _ _ _ st3=>?_);refine za ?_;refine Kc ?_;refine Kc ?_;refine zj st3 [0,1,2,3,4,8,9,10] (λ _ _ _ st4=>?_);refine za ?_;refine wp_block ?_;refine jD (ι:=Nat×List Int) (λ i a w=>∃ g,TipOK (Frm.of w0) (insO (some b2) M) g/\St (Frm.of w0) 80 (insO g (insO (some b2) M)) [(0,dt t),(1,dt roots),(2,dt p),(3,dt s),(4,dptr t),(8,draw (some b2) 3),(9,dtip g 3 i.2),(10,dt (i.1:Int))] a w/\i.1<=roots.length/\i.2.length<=i.1/\wR t.files p s i.2 (roots.drop i.1)=wR t.files p s [] roots) (λ i=>roots.length - i.1) (0,[]) ?_ ?_
 ·exact⟨none,TipOK.none_,st4.ins0.pick (pT [0,1,2,3,4,8,9,10]),Nat.zero_le _,Nat.zero_le _,Z⟩
 ·rintro ⟨k,acc⟩ a5 w5 ⟨g5,hg5,st5,hk,ha,hrun⟩
  dsimp only at*;refine Kc ?_;refine Kc ?_;refine zj st5 [0,1,2,3,4,8,9,10,18] (λ _ _ _ st6=>?_);refine za ?_;refine zJ (c:=18) st6 Z (λ h1=>?_) λ h1=>?_
  ·obtain⟨x,hx⟩:=Y1 h1;have hlt:=zG hx;refine wp_skip ?_;refine za ?_;refine Kc ?_;refine wp_block ?_;refine Kc ?_;refine Y0 yc [[],[],[],[1,2],[1,2,3],[],[],[5,6],[0,1,2,3,4,5,6,7],[0,1,2,3,4,5,6,7,8]] [[(4,nS)],[(1,nS)],[(10,nS)],[(22,1),(23,2)],[(24,3)],[(2,nS)],[(3,nS)],[(26,5),(27,6)],[(21,0),(25,4),(28,7)],[(29,8)]] st6 (D:=[_,_,_,_,_,_,_,_,_,_])
    (rc Z Z (zz Z T)
    (rc Z Z (zr Z T)
    (rc Z Z (zr Z T)
    (rc Z Z (yJ Z T T Z (by assumption))
    (rc Z Z (zz Z T)
    (rc Z Z (zr Z T)
    (rc Z Z (zr Z T)
    (rc Z Z (zA (l:=[.tmp 26,.tmp 27]) Z (.cons T (.cons T .nil)) (YB _ _ (by omega)))
    (rc Z Z (zA (l:=[.tmp 21,.tmp 25,.tmp 28]) Z (.cons T (.cons T (.cons T .nil))) (Q0 _ _ _ (child_le hp)))
    (rc Z Z (yo Z T)
    .nil))))))))))
    (pT [0,1,2,3,4,8,9,10,11,18]) (λ _ _ _ st7=>?_)
   refine za ?_;refine Kc ?_;refine Y0 yc [[],[],[],[1,2],[1,2,3],[],[],[5,6],[1,2,3,4,5,6,7],[0,1,2,3,4,5,6,7,8],[0,1,2,3,4,5,6,7,8,9]] [[(4,nS)],[(1,nS)],[(10,nS)],[(31,1),(32,2)],[(33,3)],[(2,nS)],[(3,nS)],[(35,5),(36,6)],[(34,4),(37,7)],[(30,0),(38,8)],[(39,9)]] st7 (D:=[_,_,_,_,_,_,_,_,_,_,_])
    (rc Z Z (zz Z T)
    (rc Z Z (zr Z T)
    (rc Z Z (zr Z T)
    (rc Z Z (yJ Z T T Z (by assumption))
    (rc Z Z (zz Z T)
    (rc Z Z (zr Z T)
    (rc Z Z (zr Z T)
    (rc Z Z (zA (l:=[.tmp 35,.tmp 36]) Z (.cons T (.cons T .nil)) (YB _ _ (by omega)))
    (rc Z Z (yp (parts:=[(0,.tmp 34),(1,.tmp 37),(3,.const (.bool true))]) (ns:=[1,1,1,1,1,1]) (zs:=[[.int .i64 0],[.string ⟨⟨[]⟩⟩],[.string ⟨⟨[]⟩⟩],[.bool false],[.int .i64 0],[.slice none 0 0]]) Z Z (λ w a hl=>by
    intro p hp;simp only[List.mem_cons,List.not_mem_nil,or_false] at hp;rcases hp with rfl | rfl | rfl
    ·exact⟨by decide,Rep.len (α:=Int) (OpdR.cells T hl)⟩
    ·exact⟨by decide,Rep.len (α:=Str) (OpdR.cells T hl)⟩
    ·exact⟨by decide,Z⟩) (λ w a hl=>File.parts (x:=⟨x,child p s,⟨[]⟩,true,0,[]⟩) (OpdR.cells T hl) (OpdR.cells T hl) qt (OpdR.cells opd_bool hl) ⟨Z,trivial⟩ Y7))
    (rc Z Z (zA (l:=[.tmp 30,.tmp 38]) Z (.cons T (.cons T .nil)) (Xp _ _))
    (rc Z Z (yo Z T)
    .nil)))))))))))
    (pT [0,1,2,3,4,8,9,10,11,12,18]) (λ _ _ _ st8=>?_)
   refine za ?_;refine Kc ?_;refine Kc ?_;refine zk st8 (sc Z (zr Z T)
    (sc Z (zr Z T)
    (sg Z Z (λ hg=>zr Z T)
    (sg Z Z (λ hg=>wQ Z V zT)
    (sc Z (xk Z T T)
    .nil))))) [0,1,2,3,4,8,9,10,11,12,18,44] (λ _ _ _ st9=>?_)
   refine za ?_;refine zJ (c:=44) st9 Z (λ h2=>?_) λ h2=>?_
   ·have q1:=h2;refine Kc ?_;refine Ka ?_;refine Zb 7 st9 (sc Z (zr Z T)
     (sc Z (zr Z T)
     (sc Z (zr Z T)
     (sc Z (yJ Z T T Z (by assumption))
     (sc Z (zz Z T)
     (sc Z (yf (opds:=[.tmp 49]) Z Z Z (.cons T .nil))
     (sc Z (yp (parts:=[(0,.const (.int .i64 2)),(1,.tmp 45),(2,.tmp 50)]) (ns:=[1,1,1]) (zs:=[[.int .i64 0],[.int .i64 0],[.slice none 0 0]]) Z Z (λ w a hl=>by
    intro p hp;simp only[List.mem_cons,List.not_mem_nil,or_false] at hp;rcases hp with rfl | rfl | rfl
    ·exact⟨by decide,Z⟩
    ·exact⟨by decide,Rep.len (α:=Int) (OpdR.cells T hl)⟩
    ·exact⟨by decide,Rep.len (α:=(List Int)) (OpdR.cells T hl)⟩) (λ w a hl=>Spec.parts (x:=⟨2,xB t.files ⟨x,child p s,⟨[]⟩,true,0,[]⟩,[x]⟩) (OpdR.cells zT hl) (OpdR.cells T hl) (OpdR.cells T hl)))
     .nil)))))))
     (pT [0,1,2,3,4,8,9,10,11,12,18,44,51]) (λ _ _ _ st10=>?_)
    refine qu st10 Z Z Z Z hb2 (.inl (.inr Z)) Z T (.cons (s:=0) Z (λ _ _ h=>h) (.cons (s:=1) Z (λ _ _ h=>h) (.cons (s:=2) Z (λ _ _ h=>h) (.cons (s:=3) Z (λ _ _ h=>h) (.cons (s:=4) Z (λ _ _ h=>h) (.cons (s:=9) Z (tip_off hg5 (.inr Z)) (.cons (s:=10) Z (λ _ _ h=>h) (.cons (s:=11) Z (λ _ _ h=>h) (.cons (s:=12) Z (λ _ _ h=>h) (.cons (s:=18) Z (λ _ _ h=>h) (.cons (s:=44) Z (λ _ _ h=>h) .nil))))))))))) (λ _ st11=>?_);refine Kb ?_;refine za ?_;refine wp_ret (zK (yq (zK (zK (yq (zK ?_))))));refine ret_box Z st11 (t:=8) Z (λ _ h=>(.inl (.inl h))) ?_;rw[jE,← hrun,zaH hx,wR,Ke q1]
   ·have q1:=h2;refine wp_skip ?_;refine za ?_;refine Kc ?_;refine Y0 yc [[],[],[],[1,2],[1,2,3],[],[],[1,2,3,4,5,6],[0,1,2,3,4,5,6,7],[0,1,2,3,4,5,6,7,8]] [[(4,nS)],[(1,nS)],[(10,nS)],[(53,1),(54,2)],[(55,3)],[(2,nS)],[(3,nS)],[(56,4),(57,5),(58,6)],[(52,0),(59,7)],[(60,8)]] st9 (D:=[_,_,_,_,_,_,_,_,_,_])
     (rc Z Z (zz Z T)
     (rc Z Z (zr Z T)
     (rc Z Z (zr Z T)
     (rc Z Z (yJ Z T T Z (by assumption))
     (rc Z Z (zz Z T)
     (rc Z Z (zr Z T)
     (rc Z Z (zr Z T)
     (rc Z Z (yp (parts:=[(0,.tmp 56),(1,.tmp 57),(2,.tmp 58)]) (ns:=[1,1,1,1,1,1]) (zs:=[[.int .i64 0],[.string ⟨⟨[]⟩⟩],[.string ⟨⟨[]⟩⟩],[.bool false],[.int .i64 0],[.slice none 0 0]]) Z Z (λ w a hl=>by
    intro p hp;simp only[List.mem_cons,List.not_mem_nil,or_false] at hp;rcases hp with rfl | rfl | rfl
    ·exact⟨by decide,Rep.len (α:=Int) (OpdR.cells T hl)⟩
    ·exact⟨by decide,Rep.len (α:=Str) (OpdR.cells T hl)⟩
    ·exact⟨by decide,Rep.len (α:=Str) (OpdR.cells T hl)⟩) (λ w a hl=>File.parts (x:=⟨x,p,s,false,0,[]⟩) (OpdR.cells T hl) (OpdR.cells T hl) (OpdR.cells T hl) ⟨Z,trivial⟩ ⟨Z,trivial⟩ Y7))
     (rc Z Z (zA (l:=[.tmp 52,.tmp 59]) Z (.cons T (.cons T .nil)) (Xp _ _))
     (rc Z Z (yo Z T)
     .nil))))))))))
     (pT [0,1,2,3,4,8,9,10,11,12,13,18,44]) (λ _ _ _ st12=>?_)
    refine za ?_;refine Kc ?_;refine Kc ?_;refine zj st12 [0,1,2,3,4,8,9,10,11,12,13,18,44,62] (λ _ _ _ st13=>?_);refine za ?_;refine zJ (c:=62) st13 Z (λ h3=>?_) λ h3=>?_
    ·have q2:=h3;refine Kc ?_;refine Ka ?_;refine Zb 3 st13 (sc Z (zr Z T)
      (sc Z (yf (opds:=[]) (α:=Int) Z Z Z .nil)
      (sc Z (yp (parts:=[(0,.const (.int .i64 1)),(1,.tmp 63),(2,.tmp 64)]) (ns:=[1,1,1]) (zs:=[[.int .i64 0],[.int .i64 0],[.slice none 0 0]]) Z Z (λ w a hl=>by
    intro p hp;simp only[List.mem_cons,List.not_mem_nil,or_false] at hp;rcases hp with rfl | rfl | rfl
    ·exact⟨by decide,Z⟩
    ·exact⟨by decide,Rep.len (α:=Int) (OpdR.cells T hl)⟩
    ·exact⟨by decide,Rep.len (α:=(List Int)) (OpdR.cells T hl)⟩) (λ w a hl=>Spec.parts (x:=⟨1,xB t.files ⟨x,p,s,false,0,[]⟩,[]⟩) (OpdR.cells zT hl) (OpdR.cells T hl) (OpdR.cells T hl)))
      .nil)))
      (pT [0,1,2,3,4,8,9,10,11,12,13,18,44,62,65]) (λ _ _ _ st14=>?_)
     refine qu st14 Z Z Z Z hb2 (.inl (.inr Z)) Z T (.cons (s:=0) Z (λ _ _ h=>h) (.cons (s:=1) Z (λ _ _ h=>h) (.cons (s:=2) Z (λ _ _ h=>h) (.cons (s:=3) Z (λ _ _ h=>h) (.cons (s:=4) Z (λ _ _ h=>h) (.cons (s:=9) Z (tip_off hg5 (.inr Z)) (.cons (s:=10) Z (λ _ _ h=>h) (.cons (s:=11) Z (λ _ _ h=>h) (.cons (s:=12) Z (λ _ _ h=>h) (.cons (s:=13) Z (λ _ _ h=>h) (.cons (s:=18) Z (λ _ _ h=>h) (.cons (s:=44) Z (λ _ _ h=>h) (.cons (s:=62) Z (λ _ _ h=>h) .nil))))))))))))) (λ _ st15=>?_);refine Kb ?_;refine za ?_;refine wp_ret (zK (yq (zK (zK (yq (zK ?_))))));refine ret_box Z st15 (t:=8) Z (λ _ h=>(.inl (.inl h))) ?_;rw[jE,← hrun,zaH hx,wR,Kf (by rw[q1];decide),Ke q2]
    ·have q2:=h3;refine wp_skip ?_;refine za ?_;refine Kc ?_;refine zj st13 [0,1,2,3,4,8,9,10,11,12,13,18,44,62,66] (λ _ _ _ st16=>?_);refine za ?_;refine zJ (c:=66) st16 Z (λ h4=>?_) λ h4=>?_
     ·have q3:=h4;refine Ka ?_;refine Zb 6 st16 (sc Z (zr Z T)
       (sc Z (zr Z T)
       (sc Z (zr Z T)
       (sc Z (yJ Z T T Z (by assumption))
       (sc Z (zz Z T)
       (sc Z (yf (opds:=[.tmp 71]) Z Z Z (.cons T .nil))
       .nil))))))
       (pT [0,1,2,3,4,8,9,10,11,12,13,18,44,62,66,67,72]) (λ _ _ _ st17=>?_)
      refine Z4 (bytes:=8) (st17) Z Z Z Z Z xv (len1 (by omega)) (len1b (by omega)) (.cons (s:=0) Z (λ _ _ h=>h) (.cons (s:=1) Z (λ _ _ h=>h) (.cons (s:=2) Z (λ _ _ h=>h) (.cons (s:=3) Z (λ _ _ h=>h) (.cons (s:=4) Z (λ _ _ h=>h) (.cons (s:=8) Z (draw_off hg5 (.inr Z)) (.cons (s:=10) Z (λ _ _ h=>h) (.cons (s:=11) Z (λ _ _ h=>h) (.cons (s:=12) Z (λ _ _ h=>h) (.cons (s:=13) Z (λ _ _ h=>h) (.cons (s:=18) Z (λ _ _ h=>h) (.cons (s:=44) Z (λ _ _ h=>h) (.cons (s:=62) Z (λ _ _ h=>h) (.cons (s:=66) Z (λ _ _ h=>h) .nil)))))))))))))) (hg5) (λ g18 _ _ hg18 st18=>?_);refine Zb 1 st18 (sc Z (yo Z T)
       .nil)
       (pT [0,1,2,3,4,8,9,10,11,12,13,18,44,62,66]) (λ _ _ _ st19=>?_)
      refine Kb ?_;refine z3 ?_;refine za ?_;refine zk st19 (sp 1 (r:=by exact sc Z (wN Z T zT (by simp only[arI];omega))<|segA)) [0,1,2,3,4,8,9,10,11,12,13,18,44,62,66] (λ _ _ _ st20=>?_);refine za ⟨(k+1,acc++[x]),⟨g18,hg18,st20.pick (pT [0,1,2,3,4,8,9,10]),by dsimp only;omega,by dsimp only;rw[List.length_append];exact Nat.succ_le_succ ha,by dsimp only;rw[← hrun,zaH hx];exact(by rw[wR,Kf (by rw[q1];decide),Kf (by rw[q2];decide),Ke q3])⟩,by dsimp only;omega⟩
     ·have q3:=h4;refine wp_skip ?_;refine z3 ?_;refine za ?_;refine zk st16 (sp 1 (r:=by exact sc Z (wN Z T zT (by simp only[arI];omega))<|segA)) [0,1,2,3,4,8,9,10,11,12,13,18,44,62,66] (λ _ _ _ st21=>?_);refine za ⟨(k+1,acc),⟨g5,hg5,st21.pick (pT [0,1,2,3,4,8,9,10]),by dsimp only;omega,by dsimp only;omega,by dsimp only;rw[← hrun,zaH hx];exact(by rw[wR,Kf (by rw[q1];decide),Kf (by rw[q2];decide),Kf (by rw[q3];decide)])⟩,by dsimp only;omega⟩
  ·have hend:=Y2 h1;refine wp_exit (zZ (zZ (y6 ?_)));refine za ?_;refine Kc ?_;refine Kc ?_;refine zk st6 (sp 1 (r:=by exact sc Z (op_lenT Z T)<|segA)) [0,1,2,3,4,8,9,10,18,76] (λ _ _ _ st22=>?_);refine za ?_;refine zJ (c:=76) st22 Z (λ h5=>?_) λ h5=>?_
   ·have q4:=h5;refine Kc ?_;have st23:=st22.freeze hg5 (s:=9) Z (.cons (s:=0) Z (λ _ _ h=>h) (.cons (s:=1) Z (λ _ _ h=>h) (.cons (s:=2) Z (λ _ _ h=>h) (.cons (s:=3) Z (λ _ _ h=>h) (.cons (s:=4) Z (λ _ _ h=>h) (.cons (s:=8) Z (draw_off hg5 (.inr Z)) (.cons (s:=10) Z (λ _ _ h=>h) (.cons (s:=18) Z (λ _ _ h=>h) (.cons (s:=76) Z (λ _ _ h=>h) .nil)))))))));refine Ka ?_;refine Zb 2 st23 (sc Z (zr Z T)
     (sc Z (yp (parts:=[(0,.const (.int .i64 3)),(1,.const (.int .i64 (-1))),(2,.tmp 77)]) (ns:=[1,1,1]) (zs:=[[.int .i64 0],[.int .i64 0],[.slice none 0 0]]) Z Z (λ w a hl=>by
    intro p hp;simp only[List.mem_cons,List.not_mem_nil,or_false] at hp;rcases hp with rfl | rfl | rfl
    ·exact⟨by decide,Z⟩
    ·exact⟨by decide,Z⟩
    ·exact⟨by decide,Rep.len (α:=(List Int)) (OpdR.cells T hl)⟩) (λ w a hl=>Spec.parts (x:=⟨3,-1,acc⟩) (OpdR.cells zT hl) (OpdR.cells zT hl) (OpdR.cells T hl)))
     .nil))
     (pT [0,1,2,3,4,8,9,10,18,76,78]) (λ _ _ _ st24=>?_)
    refine qu st24 Z Z Z Z hb2 (.inr Z) Z T (.cons (s:=0) Z (λ _ _ h=>h) (.cons (s:=1) Z (λ _ _ h=>h) (.cons (s:=2) Z (λ _ _ h=>h) (.cons (s:=3) Z (λ _ _ h=>h) (.cons (s:=4) Z (λ _ _ h=>h) (.cons (s:=9) Z (λ _ _ h=>h) (.cons (s:=10) Z (λ _ _ h=>h) (.cons (s:=18) Z (λ _ _ h=>h) (.cons (s:=76) Z (λ _ _ h=>h) .nil))))))))) (λ _ st25=>?_);refine Kb ?_;refine za ?_;refine wp_ret (zK ?_);refine ret_box Z st25 (t:=8) Z (λ _ h=>(.inl h)) ?_;rw[jE,← hrun,List.drop_of_length_le hend,wR,Ke q4]
   ·have q4:=h5;refine wp_skip ?_;refine za ?_;refine Kc ?_;refine Ka ?_;refine Zb 1 st22 (sc Z (zA (l:=[]) Z .nil (WS ))
     .nil)
     (pT [0,1,2,3,4,8,9,10,18,76,79]) (λ _ _ _ st26=>?_)
    refine qu st26 Z Z Z Z hb2 (.inl (.inr Z)) Z T (.cons (s:=0) Z (λ _ _ h=>h) (.cons (s:=1) Z (λ _ _ h=>h) (.cons (s:=2) Z (λ _ _ h=>h) (.cons (s:=3) Z (λ _ _ h=>h) (.cons (s:=4) Z (λ _ _ h=>h) (.cons (s:=9) Z (tip_off hg5 (.inr Z)) (.cons (s:=10) Z (λ _ _ h=>h) (.cons (s:=18) Z (λ _ _ h=>h) (.cons (s:=76) Z (λ _ _ h=>h) .nil))))))))) (λ _ st27=>?_);refine Kb ?_;refine za ?_;refine wp_ret ?_;refine ret_box Z st27 (t:=8) Z (λ _ h=>(.inl (.inl h))) ?_;rw[jE,← hrun,List.drop_of_length_le hend,wR,Kf (by rw[q4];decide)]
theorem zb9(t:Tree)(path:List Int)(s:Str)(hpl:path.length<=1099511627776)(hs:mid s):Fn Tryz.prog 49 [dt t,dt path,dt s] (dt (find t.files path s)):=by
 refine yU (fn:=Tryz.f49) Tryz.func49 Z (λ M w0 _ hm st0=>?_);have hroom:=qI s dot;have hlr:=JL (zi s dot);have hms:s.l.length<=1099511627776:=hs;refine Kc ?_;refine Ka ?_;refine Zb 1 st0 (sc Z (Yv Z T)
  .nil)
  (pT [0,1,2,3]) (λ _ _ _ st1=>?_)
 refine zaF (n:=3) st1 Z Z Z (pT [0,1,2,3]) (λ b2 _ _ hb2 hn2 _ st2=>?_);refine Kb ?_;refine za ?_;refine Kc ?_;refine zk st2 (sp 1 (r:=by exact sc Z (zA (l:=[.tmp 10,.const (.int .u8 46)]) Z (.cons T (.cons (We) .nil)) (qh _ dot (by assumption)))<|segA)) [0,1,2,3,6,7] (λ _ _ _ st3=>?_);refine za ?_;refine Kc ?_;refine Ka ?_;refine Zb 2 st3 (sc Z (zr Z T)
  (sc Z (yp (parts:=[(0,.const (.int .i64 3)),(1,.const (.int .i64 (-1))),(2,.tmp 12)]) (ns:=[1,1,1]) (zs:=[[.int .i64 0],[.int .i64 0],[.slice none 0 0]]) Z Z (λ w a hl=>by
    intro p hp;simp only[List.mem_cons,List.not_mem_nil,or_false] at hp;rcases hp with rfl | rfl | rfl
    ·exact⟨by decide,Z⟩
    ·exact⟨by decide,Z⟩
    ·exact⟨by decide,Rep.len (α:=(List Int)) (OpdR.cells T hl)⟩) (λ w a hl=>Spec.parts (x:=⟨3,-1,path⟩) (OpdR.cells zT hl) (OpdR.cells zT hl) (OpdR.cells T hl)))
  .nil))
  (pT [0,1,2,3,6,7,13]) (λ _ _ _ st4=>?_)
 refine zaF (n:=3) st4 Z Z Z (pT [0,1,2,3,6,7,13]) (λ b5 _ _ hb5 hn5 _ st5=>?_);refine qu st5 Z Z Z Z hb5 (.inr Z) Z T (.cons (s:=0) Z (λ _ _ h=>h) (.cons (s:=1) Z (λ _ _ h=>h) (.cons (s:=2) Z (λ _ _ h=>h) (.cons (s:=3) Z (λ _ _ h=>h) (.cons (s:=6) Z (draw_ne' hn5 (.inr Z)) (.cons (s:=7) Z (λ _ _ h=>h) .nil)))))) (λ _ st6=>?_);refine Kb ?_;refine za ?_;refine Kc ?_;refine Kc ?_;refine zj st6 [0,1,2,3,6,7,8,9] (λ _ _ _ st7=>?_);refine za ?_;refine wp_block ?_;refine jD (ι:=Nat×Spec) (λ i a w=>St (Frm.of w0) 42 (insO (some b5) (insO (some b2) M)) [(0,dt t),(1,dt path),(2,dt s),(3,dptr t),(6,draw (some b2) 3),(7,dt (zi s dot)),(8,dbox (some b5) 0 i.2),(9,dt (i.1:Int))] a w/\i.1<=(zi s dot).length/\i.2.roots.length<=1099511627776/\Ze t.files (zi s dot) i.1 i.2 ((zi s dot).drop i.1)=find t.files path s) (λ i=>(zi s dot).length - i.1) (0,⟨3,-1,path⟩) ?_ ?_
 ·exact⟨st7.pick (pT [0,1,2,3,6,7,8,9]),Nat.zero_le _,hpl,Z⟩
 ·rintro ⟨k,out⟩ a8 w8 ⟨st8,hk,ha,hrun⟩
  dsimp only at*;refine Kc ?_;refine Kc ?_;refine zj st8 [0,1,2,3,6,7,8,9,17] (λ _ _ _ st9=>?_);refine za ?_;refine zJ (c:=17) st9 Z (λ h1=>?_) λ h1=>?_
  ·obtain⟨x,hx⟩:=Y1 h1;have hlt:=zG hx;have hj1:=join_le (zi s dot) k;have hj2:=part_le hx;have hj3:=Zc (zi s dot) k;refine wp_skip ?_;refine za ?_;refine Kc ?_;refine wp_block ?_;refine Kc ?_;refine Kc ?_;refine zk st9 (sc Z (yM Spec.fld0 Z T)
    (sc Z (yx Z T)
    (sc Z (wQ Z T zT)
    (sc Z (zr Z T)
    (sg Z Z (λ hg=>yM Spec.fld0 Z T)
    (sg Z Z (λ hg=>yx Z V)
    (sg Z Z (λ hg=>wQ Z V zT)
    (sc Z (xk Z T T)
    .nil)))))))) [0,1,2,3,6,7,8,9,17,27] (λ _ _ _ st10=>?_)
   refine za ?_;refine zJ (c:=27) st10 Z (λ h2=>?_) λ h2=>?_
   ·have q1:=h2;refine Kc ?_;refine Ka ?_;refine Zb 1 st10 (sc Z (zA (l:=[]) Z .nil (WS ))
     .nil)
     (pT [0,1,2,3,6,7,8,9,17,27,28]) (λ _ _ _ st11=>?_)
    refine qu st11 Z Z Z Z hb2 (.inl (.inr Z)) Z T (.cons (s:=0) Z (λ _ _ h=>h) (.cons (s:=1) Z (λ _ _ h=>h) (.cons (s:=2) Z (λ _ _ h=>h) (.cons (s:=3) Z (λ _ _ h=>h) (.cons (s:=7) Z (λ _ _ h=>h) (.cons (s:=8) Z (box_ne hn5 (.inr Z)) (.cons (s:=9) Z (λ _ _ h=>h) (.cons (s:=17) Z (λ _ _ h=>h) (.cons (s:=27) Z (λ _ _ h=>h) .nil))))))))) (λ _ st12=>?_);refine Kb ?_;refine za ?_;refine wp_ret (zK (yq (zK (zK (yq (zK ?_))))));refine ret_box Z st12 (t:=6) Z (λ _ h=>(.inl (.inl h))) ?_;rw[← hrun,zaH hx,Ze,Ke q1]
   ·have q1:=h2;refine wp_skip ?_;refine za ?_;refine region_draw_n yc 12 [[],[],[1],[],[],[3,4],[3,4,5],[],[],[7,8],[7,8,9],[0,1,2,3,4,5,6,7,8,9,10],[0,1,2,3,4,5,6,7,8,9,10,11]] [[(3,nS)],[(8,nS)],[(30,1)],[(7,nS)],[(9,nS)],[(32,3),(33,4)],[(34,5)],[(7,nS)],[(9,nS)],[(36,7),(37,8)],[(38,9)],[(29,0),(31,2),(35,6),(39,10)],[(8,nS),(40,11)]] st10 (D:=[_,_,_,_,_,_,_,_,_,_,_,_])
     (rc Z Z (zz Z T)
     (rc Z Z (yM Spec.fld2 Z T)
     (rc Z Z (yx Z T)
     (rc Z Z (zr Z T)
     (rc Z Z (zr Z T)
     (rc Z Z (WJ Z T T Z (by omega))
     (rc Z Z (zA (l:=[.tmp 34]) Z (.cons T .nil) (Wu _ (by omega)))
     (rc Z Z (zr Z T)
     (rc Z Z (zr Z T)
     (rc Z Z (yJ Z T T Z (by assumption))
     (rc Z Z (zz Z T)
     (rc Z Z (zA (l:=[.tmp 29,.tmp 31,.tmp 35,.tmp 39]) Z (.cons T (.cons T (.cons T (.cons T .nil)))) (Q1 _ _ _ _ ha (by omega)))
     .nil))))))))))))
     (pT [0,1,2,3,6,7,8,9,17,27,40]) (λ _ _ _ st13=>?_)
    refine wpl_storeAt (sb:=8) st13 FldS.id Z Z Z hb5 (.inr Z) Z T Z (.cons (s:=0) Z (λ _ _ h=>h) (.cons (s:=1) Z (λ _ _ h=>h) (.cons (s:=2) Z (λ _ _ h=>h) (.cons (s:=3) Z (λ _ _ h=>h) (.cons (s:=6) Z (draw_ne' hn5 (.inr Z)) (.cons (s:=7) Z (λ _ _ h=>h) (.cons (s:=9) Z (λ _ _ h=>h) (.cons (s:=17) Z (λ _ _ h=>h) (.cons (s:=27) Z (λ _ _ h=>h) .nil))))))))) (λ _ st14=>?_);refine Kb ?_;refine z3 ?_;refine za ?_;refine zk st14 (sp 1 (r:=by exact sc Z (wN Z T zT (by simp only[arI];omega))<|segA)) [0,1,2,3,6,7,8,9,17,27] (λ _ _ _ st15=>?_);refine za ⟨(k+1,jE t.files out.roots (join ((zi s dot).take k)) x),⟨st15.pick (pT [0,1,2,3,6,7,8,9]),by dsimp only;omega,by dsimp only;have:=Je t.files (join ((zi s dot).take k)) x out.roots [];exact Nat.le_trans this (by simpa using ha),by dsimp only;rw[← hrun,zaH hx];exact(by rw[Ze,Kf (by rw[q1];decide)])⟩,by dsimp only;omega⟩
  ·have hend:=Y2 h1;refine wp_exit (zZ (zZ (y6 ?_)));refine za ?_;refine Kc ?_;refine Ka ?_;refine Zb 1 st9 (sc Z (yx Z T)
    .nil)
    (pT [0,1,2,3,6,7,8,9,17,41]) (λ _ _ _ st16=>?_)
   refine qu st16 Z Z Z Z hb2 (.inl (.inr Z)) Z T (.cons (s:=0) Z (λ _ _ h=>h) (.cons (s:=1) Z (λ _ _ h=>h) (.cons (s:=2) Z (λ _ _ h=>h) (.cons (s:=3) Z (λ _ _ h=>h) (.cons (s:=7) Z (λ _ _ h=>h) (.cons (s:=8) Z (box_ne hn5 (.inr Z)) (.cons (s:=9) Z (λ _ _ h=>h) (.cons (s:=17) Z (λ _ _ h=>h) .nil)))))))) (λ _ st17=>?_);refine Kb ?_;refine za ?_;refine wp_ret ?_;refine ret_box Z st17 (t:=6) Z (λ _ h=>(.inl (.inl h))) ?_;rw[← hrun,List.drop_of_length_le hend,Ze]
theorem zbB(t:Tree)(path:List Int)(ht:xw t)(hpl:path.length<=1099511627776):Fn Tryz.prog 45 [dt t,dt path] (dt (qJ t path)):=by
 refine yU (fn:=Tryz.f45) Tryz.func45 Z (λ M w0 _ hm st0=>?_);have hnl:=zcT ht;refine Kc ?_;refine zk st0 (sc Z (Yv Z T)
  (sc Z (yo Z (jC (α:=Str)))
  .nil)) [0,1,2,4] (λ _ _ _ st1=>?_)
 refine za ?_;refine Kc ?_;refine Kc ?_;refine zk st1 (sc Z (zz Z T)
  (sc Z (zA (l:=[.tmp 8]) Z (.cons T .nil) (Ji _ ht))
  (sc Z (qe Z T)
  (sc Z (zr Z T)
  (sg Z Z (λ hg=>zr Z T)
  (sg Z Z (λ hg=>zA (l:=[.tmp 12]) Z (.cons V .nil) (Jh _))
  (sg Z Z (λ hg=>qe Z V)
  (sc Z (Za Z T T)
  .nil)))))))) [0,1,2,4,15] (λ _ _ _ st2=>?_)
 refine za ?_;refine zJ (c:=15) st2 Z (λ h1=>?_) λ h1=>?_
 ·have q0:=h1;refine Kc ?_;refine zk st2 (sc Z (yo Z (jC (α:=Str)))
   .nil) [0,1,2,4,15] (λ _ _ _ st3=>?_)
  refine za ?_;refine wp_ret (zK ?_);refine ym Z st3 (t:=4) Z ?_;rw[qJ,Ke q0]
 ·have q0:=h1;refine wp_skip ?_;refine za ?_;refine Kc ?_;refine zk st2 (sc Z (wA (α:=Str) (e:=9) Z)<|segA) [0,1,2,4,5,15] (λ _ _ _ st4=>?_);refine za ?_;refine Kc ?_;refine zk st4 (sp 1 (r:=by exact sc Z (zA (l:=[.tmp 17]) Z (.cons T .nil) (spec_names_ok _ ht).fn)<|segA)) [0,1,2,4,5,6,15] (λ _ _ _ st5=>?_);refine za ?_;refine Kc ?_;refine Kc ?_;refine zj st5 [0,1,2,4,5,6,7,15] (λ _ _ _ st6=>?_);refine za ?_;refine wp_block ?_;refine jD (ι:=Nat) (λ k a w=>∃ g,TipOK (Frm.of w0) M g/\St (Frm.of w0) 42 (insO g M) [(0,dt t),(1,dt path),(2,dptr t),(5,dtip g 9 (((names t).take k).filter (Xm t.files path))),(6,dt (names t)),(7,dt (k:Int))] a w/\k<=(names t).length/\(((names t).take k).filter (Xm t.files path)).length<=k) (λ k=>(names t).length - k) 0 ?_ ?_
  ·exact⟨none,TipOK.none_,st6.ins0.pick (pT [0,1,2,5,6,7]),Nat.zero_le _,Nat.zero_le _⟩
  ·rintro k a7 w7 ⟨g7,hg7,st7,hk,hl⟩
   refine Kc ?_;refine Kc ?_;refine zj st7 [0,1,2,5,6,7,22] (λ _ _ _ st8=>?_);refine za ?_;refine zJ (c:=22) st8 Z (λ h2=>?_) λ h2=>?_
   ·obtain⟨x,hx⟩:=Y1 h2;have hlt:=zG hx;refine wp_skip ?_;refine za ?_;refine Kc ?_;refine wp_block ?_;refine Kc ?_;refine Y0 yc [[],[],[],[],[2,3],[2,3,4],[0,1,2,3,4,5],[0,1,2,3,4,5,6],[0,1,2,3,4,5,6,7]] [[(2,nS)],[(1,nS)],[(6,nS)],[(7,nS)],[(27,2),(28,3)],[(29,4)],[(25,0),(26,1),(30,5)],[(31,6)],[(32,7)]] st8 (D:=[_,_,_,_,_,_,_,_,_])
     (rc Z Z (zz Z T)
     (rc Z Z (zr Z T)
     (rc Z Z (zr Z T)
     (rc Z Z (zr Z T)
     (rc Z Z (yJ Z T T Z (by assumption))
     (rc Z Z (zz Z T)
     (rc Z Z (zA (l:=[.tmp 25,.tmp 26,.tmp 30]) Z (.cons T (.cons T (.cons T .nil))) (zb9 _ _ _ hpl (names_mid ht _ (List.mem_of_getElem? hx))))
     (rc Z Z (WA Spec.fld0 Z Z T)
     (rc Z Z (wQ Z T zT)
     .nil)))))))))
     (pT [0,1,2,5,6,7,22,33]) (λ _ _ _ st9=>?_)
    refine za ?_;refine zJ (c:=33) st9 Z (λ h3=>?_) λ h3=>?_
    ·have q1:=h3;refine Ka ?_;refine Zb 6 st9 (sc Z (zr Z T)
      (sc Z (zr Z T)
      (sc Z (zr Z T)
      (sc Z (yJ Z T T Z (by assumption))
      (sc Z (zz Z T)
      (sc Z (yf (opds:=[.tmp 38]) Z Z Z (.cons T .nil))
      .nil))))))
      (pT [0,1,2,5,6,7,22,33,34,39]) (λ _ _ _ st10=>?_)
     refine Z4 (bytes:=16) (st10) Z Z Z Z Z xv (len1 (by omega)) (len1b (by omega)) (.cons (s:=0) Z (λ _ _ h=>h) (.cons (s:=1) Z (λ _ _ h=>h) (.cons (s:=2) Z (λ _ _ h=>h) (.cons (s:=6) Z (λ _ _ h=>h) (.cons (s:=7) Z (λ _ _ h=>h) (.cons (s:=22) Z (λ _ _ h=>h) (.cons (s:=33) Z (λ _ _ h=>h) .nil))))))) (hg7) (λ g11 _ _ hg11 st11=>?_);refine Zb 1 st11 (sc Z (yo Z T)
      .nil)
      (pT [0,1,2,5,6,7,22,33]) (λ _ _ _ st12=>?_)
     refine Kb ?_;refine z3 ?_;refine za ?_;refine zk st12 (sp 1 (r:=by exact sc Z (wN Z T zT (by simp only[arI];omega))<|segA)) [0,1,2,5,6,7,22,33] (λ _ _ _ st13=>?_);refine za ⟨k+1,⟨g11,hg11,?_,by omega,Nat.le_trans (List.length_filter_le _ _) (by rw[List.length_take];omega)⟩,by omega⟩;rw[QS hx];first | rw[Ke (show Xm t.files path x=true from q1)] | rw[Kf (show ¬ Xm t.files path x=true by rw[show Xm t.files path x=false from q1];decide),List.append_nil]
     exact st13.pick (pT [0,1,2,5,6,7])
    ·have q1:=h3;refine wp_skip ?_;refine z3 ?_;refine za ?_;refine zk st9 (sp 1 (r:=by exact sc Z (wN Z T zT (by simp only[arI];omega))<|segA)) [0,1,2,5,6,7,22,33] (λ _ _ _ st14=>?_);refine za ⟨k+1,⟨g7,hg7,?_,by omega,Nat.le_trans (List.length_filter_le _ _) (by rw[List.length_take];omega)⟩,by omega⟩;rw[QS hx];first | rw[Ke (show Xm t.files path x=true from q1)] | rw[Kf (show ¬ Xm t.files path x=true by rw[show Xm t.files path x=false from q1];decide),List.append_nil]
     exact st14.pick (pT [0,1,2,5,6,7])
   ·have hend:=Y2 h2;refine wp_exit (zZ (zZ (y6 ?_)));refine za ?_;refine Kc ?_;refine zj st8 [0,1,2,4,5,6,7,22] (λ _ _ _ st15=>?_);refine za ?_;refine wp_ret ?_;refine ret_tip Z (hg7) st15 (t:=4) Z ?_;rw[qJ,Kf (by rw[q0];decide),List.take_of_length_le hend]
end Go.Proofs.YtifgdhfcoaognaaGreatDoor
