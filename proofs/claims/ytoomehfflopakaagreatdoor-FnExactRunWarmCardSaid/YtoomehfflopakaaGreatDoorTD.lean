import Derived.Test.YtoomehfflopakaaGreatDoorTC
namespace Go.Proofs.YtoomehfflopakaaGreatDoor
open Go.RowKit
attribute [local irreducible] eP eC
set_option maxRecDepth 10000
theorem zP:Tryz.prog.follows .mixedOrders=true:=by kernel_rfl
theorem qW(n lo up:Int):Fn Tryz.prog 32 [dt n,dt lo,dt up] (dt (eR n lo up)):=by
 refine xg (fn:=Tryz.f32) Tryz.func32 Z (λ M _ _ hm fK=>?_);refine gj ?_;refine zp fK [0,1,2,6] (λ _ _ _ st1=>?_);refine zr st1 (sc Z (zF Z T)
  (sc Z (zF Z T)
  (sc Z (qR Z T T)
  (sc Z (zF Z T)
  (sg Z Z (λ hg=>zF Z T)
  (sg Z Z (λ hg=>zF Z T)
  (sg Z Z (λ hg=>qR Z V V)
  (sc Z (xd Z T T)
  (sc Z (xw Z T)
  .nil))))))))) [0,1,2,6] (λ _ _ _ st2=>?_)
 refine yx Z st2 (t:=6) Z ?_;rfl
theorem Vl(l:List Str)(s:Str):Fn Tryz.prog 224 [dt l,dt s] (dt (vu l s)):=by
 refine xg (fn:=Tryz.f224) Tryz.func224 Z (λ M w0 _ hm fK=>?_);have hlen:=fK.rZ (s:=0) Z;refine Kc ?_;refine zp fK [0,1,4] (λ _ _ _ st1=>?_);refine za ?_;refine Kc ?_;refine Kc ?_;refine zp st1 [0,1,4,5] (λ _ _ _ st2=>?_);refine za ?_;refine aX ?_;refine Y0 (ι:=Nat) (λ k a w=>St (eG.of w0) 19 M [(0,dt l),(1,dt s),(5,dt (k:Int))] a w/\k<=l.length/\(l.take k).any (λ x=>decide (x=s))=false) (λ k=>l.length - k) 0 ?_ ?_
 .exact⟨st2.pick (pT [0,1,5]),aq _,by simp⟩
 .rintro k a3 w3 ⟨st3,hk,hp⟩
  refine Kc ?_;refine Kc ?_;refine zp st3 [0,1,5,9] (λ _ _ _ st4=>?_);refine za ?_;refine zT (c:=9) st4 Z (λ h1=>?_) λ h1=>?_
  .obtain⟨x,hx⟩:=Q9 h1;have hlt:=zJ hx;refine az ?_;refine za ?_;refine Kc ?_;refine aX ?_;refine Kc ?_;refine zr st4 (sp 2 (r:=by exact sc Z (wO Z T T Z (by assumption))<|gv)) [0,1,5,9,17] (λ _ _ _ st5=>?_);refine za ?_;refine zT (c:=17) st5 Z (λ h2=>?_) λ h2=>?_
   .have ht:=h2;refine Kc ?_;refine zp st5 [0,1,4,5,9,17] (λ _ _ _ st6=>?_);refine za ?_;refine wp_ret (wz (zS (zS (wz (zS ?_)))));refine yx Z st6 (t:=4) Z ?_;exact(Bt hp hx ht).symm
   .have hf:=h2;refine az ?_;refine yI ?_;refine za ?_;refine zr st5 (sp 1 (r:=by exact sc Z (Zw Z T yl (by simp only[gY];omega))<|gv)) [0,1,5,9,17] (λ _ _ _ st7=>?_);refine za ⟨k+1,⟨st7.pick (pT [0,1,5]),by omega,vX hx hp hf⟩,by omega⟩
  .have hend:=mZ h1;refine ch (yv (yv (xX ?_)));refine za ?_;refine Kc ?_;refine zp st4 [0,1,4,5,9] (λ _ _ _ st8=>?_);refine za ?_;refine wp_ret ?_;refine yx Z st8 (t:=4) Z ?_;exact(Bs hend hp).symm
theorem Vw(l:List Str)(s:Str):Fn Tryz.prog 206 [dt l,dt s] (dt (jB l s)):=by
 refine xg (fn:=Tryz.f206) Tryz.func206 Z (λ M _ _ hm fK=>?_);refine gj ?_;refine zp fK [0,1,4] (λ _ _ _ st1=>?_);refine zr st1 (sp 2 (r:=by exact sc Z (zy (l:=[.tmp 5,.tmp 6]) Z (.cons T (.cons T .nil)) (Vl _ _))<|gv)) [0,1,4] (λ _ _ _ st2=>?_);refine yx Z st2 (t:=4) Z ?_;rfl
theorem Zf(s:Str):Fn Tryz.prog 92 [dt s] (dt (fW s)):=by
 refine xg (fn:=Tryz.f92) Tryz.func92 Z (λ M w0 _ hm fK=>?_);have hlen:s.l.length<=9223372036854775807:=fK.LA (s:=0) Z;refine Kc ?_;refine zp fK [0,2] (λ _ _ _ st1=>?_);refine za ?_;refine Kc ?_;refine Kc ?_;refine zr st1 (sp 2 (r:=by exact sc Z (zy (l:=[.tmp 5,.const (.int .i64 1),.const (.int .i64 3)]) Z (.cons T (.cons yl (.cons yl .nil))) (qW _ _ _))<|gv)) [0,2,7] (λ _ _ _ st2=>?_);refine za ?_;refine zT (c:=7) st2 Z (λ h1=>?_) λ h1=>?_
 .have h7:=h1;refine Kc ?_;refine zp st2 [0,2,7] (λ _ _ _ st3=>?_);refine za ?_;refine wp_ret (zS ?_);refine yx Z st3 (t:=2) Z ?_;unfold fW;rw[cC] at h7;simp[h7]
 .have h7:=h1;refine az ?_;refine za ?_;refine Kc ?_;refine Kc ?_;refine zp st2 [0,2,3,7] (λ _ _ _ st4=>?_);refine za ?_;refine aX ?_;refine Y0 (ι:=Nat) (λ k a w=>St (eG.of w0) 24 M [(0,dt s),(3,dt (k:Int))] a w/\k<=s.l.length/\(s.l.take k).all low=true) (λ k=>s.l.length - k) 0 ?_ ?_
  .exact⟨st4.pick (pT [0,3]),aq _,by simp⟩
  .rintro k a5 w5 ⟨st5,hk,hp⟩
   refine Kc ?_;refine Kc ?_;refine zp st5 [0,3,11] (λ _ _ _ st6=>?_);refine za ?_;refine zT (c:=11) st6 Z (λ h2=>?_) λ h2=>?_
   .obtain⟨x,hx⟩:=Fs h2;have hlt:=zJ hx;refine az ?_;refine za ?_;refine Kc ?_;refine aX ?_;refine Kc ?_;refine zr st6 (sc Z (zF Z T)
     (sc Z (zF Z T)
     (sc Z (vi Z T T (by assumption))
     (sc Z (vj Z T (Q8))
     (sc Z (zF Z T)
     (sg Z Z (λ hg=>zF Z T)
     (sg Z Z (λ hg=>zF Z T)
     (sg Z Z (λ hg=>vi Z V V (by assumption))
     (sg Z Z (λ hg=>vj Z V (Q8))
     (sc Z (qe Z T T)
     .nil)))))))))) [0,3,11,23] (λ _ _ _ st7=>?_)
    refine za ?_;refine zT (c:=23) st7 Z (λ h3=>?_) λ h3=>?_
    .have ht:=h3;refine Kc ?_;refine zp st7 [0,2,3,11,23] (λ _ _ _ st8=>?_);refine za ?_;refine wp_ret (wz (zS (zS (wz (zS ?_)))));refine yx Z st8 (t:=2) Z ?_;unfold fW;rw[AW (p:=low) hx (by unfold low;rw[ht];rfl)];simp
    .have hf:=h3;refine az ?_;refine yI ?_;refine za ?_;refine zr st7 (sp 1 (r:=by exact sc Z (Zw Z T yl (by simp only[gY];omega))<|gv)) [0,3,11,23] (λ _ _ _ st9=>?_);refine za ⟨k+1,⟨st9.pick (pT [0,3]),by omega,AX hx hp (by unfold low;rw[hf];rfl)⟩,by omega⟩
   .have hend:=EW h2;refine ch (yv (yv (xX ?_)));refine za ?_;refine Kc ?_;refine zp st6 [0,2,3,11] (λ _ _ _ a8=>?_);refine za ?_;refine wp_ret ?_;refine yx Z a8 (t:=2) Z ?_;unfold fW;rw[AV hend hp];rw[dY] at h7;exact(by simpa using h7.symm)
theorem YA(s:Str)(c:UInt8)(hs:gM s):Fn Tryz.prog 95 [dt s,dt c] (dt (zC s c)):=by
 refine xg (fn:=Tryz.f95) Tryz.func95 Z (λ M w0 _ hm fK=>?_);have hlen:s.l.length<=1099511627776:=hs;refine Kc ?_;refine zr fK (sc Z (xw Z (wg (α:=Str)))
  .nil) [0,1,4] (λ _ _ _ st1=>?_)
 refine za ?_;refine Kc ?_;refine zr st1 (sc Z (xj (α:=Str) (e:=9) Z)<|gv) [0,1,4,5] (λ _ _ _ st2=>?_);refine za ?_;refine Kc ?_;refine zp st2 [0,1,4,5,6] (λ _ _ _ st3=>?_);refine za ?_;refine Kc ?_;refine Kc ?_;refine zp st3 [0,1,4,5,6,7] (λ _ _ _ st4=>?_);refine za ?_;refine aX ?_;refine Y0 (ι:=Nat×Nat) (λ p a w=>∃ g,kS (eG.of w0) M g/\St (eG.of w0) 35 (gp g M) [(0,dt s),(1,dt c),(5,eQ g 9 (wc c (s.l.take p.1)).1),(6,dt (p.2:Int)),(7,dt (p.1:Int))] a w/\p.1<=s.l.length/\p.2<=p.1/\(wc c (s.l.take p.1)).2=⟨(s.l.take p.1).drop p.2⟩/\(wc c (s.l.take p.1)).1.length<=p.1) (λ p=>s.l.length - p.1) (0,0) ?_ ?_
 .exact⟨none,kS.none_,st4.Ax.pick (pT [0,1,5,6,7]),aq _,al _,Z,al _⟩
 .rintro ⟨k,b⟩ a5 w5 ⟨g5,hg5,st5,hk,hb,g2,g1⟩
  dsimp only at*;refine Kc ?_;refine Kc ?_;refine zp st5 [0,1,5,6,7,12] (λ _ _ _ st6=>?_);refine za ?_;refine zT (c:=12) st6 Z (λ h1=>?_) λ h1=>?_
  .obtain⟨x,hx⟩:=Fs h1;have hlt:=zJ hx;refine az ?_;refine za ?_;refine Kc ?_;refine aX ?_;refine Kc ?_;refine zr st6 (sp 2 (r:=by exact sc Z (vi Z T T (by assumption))<|sp 1 (r:=by exact sc Z (vj Z T T)<|.nil))) [0,1,5,6,7,12,19] (λ _ _ _ st7=>?_);refine za ?_;refine zT (c:=19) st7 Z (λ h2=>?_) λ h2=>?_
   .have ht:=h2;refine Kc ?_;refine Ka ?_;refine mr 6 st7 (sc Z (zF Z T)
     (sc Z (zF Z T)
     (sc Z (zF Z T)
     (sc Z (zF Z T)
     (sc Z (RH Z T T T (by omega) (by omega) (by omega))
     (sc Z (wa (opds:=[.tmp 24]) Z Z Z (.cons T .nil))
     .nil))))))
     (pT [0,1,5,6,7,12,19,20,25]) (λ _ _ _ st8=>?_)
    refine W9 (bytes:=16) (st8) Z Z Z Z Z yW (BT (by omega)) (BU (by omega)) (.cons (s:=0) Z (λ _ _ h=>h) (.cons (s:=1) Z (λ _ _ h=>h) (.cons (s:=6) Z (λ _ _ h=>h) (.cons (s:=7) Z (λ _ _ h=>h) (.cons (s:=12) Z (λ _ _ h=>h) (.cons (s:=19) Z (λ _ _ h=>h) .nil)))))) (hg5) (λ g9 _ _ hg9 st9=>?_);refine mr 1 st9 (sc Z (xw Z T)
     .nil)
     (pT [0,1,5,6,7,12,19]) (λ _ _ _ a8=>?_)
    refine Kb ?_;refine za ?_;refine zr a8 (sp 1 (r:=by exact sc Z (Zw Z T yl (by simp only[gY];omega))<|gv)) [0,1,5,6,7,12,19] (λ _ _ _ a9=>?_);refine yI ?_;refine za ?_;refine zr a9 (sp 1 (r:=by exact sc Z (Zw Z T yl (by simp only[gY];omega))<|gv)) [0,1,5,6,7,12,19] (λ _ _ _ b3=>?_);refine za ⟨(k+1,k+1),⟨g9,hg9,?_,by dsimp only;omega,by dsimp only;omega,SX hx ht hlt,by dsimp only;rw[C5 hx ht g2,ao];exact Nat.succ_le_succ g1⟩,by dsimp only;omega⟩;dsimp only;first | rw[C5 hx ht g2] | rw[CR hx hf]
    exact b3.pick (pT [0,1,5,6,7])
   .have hf:=h2;refine az ?_;refine yI ?_;refine za ?_;refine zr st7 (sp 1 (r:=by exact sc Z (Zw Z T yl (by simp only[gY];omega))<|gv)) [0,1,5,6,7,12,19] (λ _ _ _ b5=>?_);refine za ⟨(k+1,b),⟨g5,hg5,?_,by dsimp only;omega,by dsimp only;omega,SY hx hf g2 hb hlt,by dsimp only;rw[CR hx hf];omega⟩,by dsimp only;omega⟩;dsimp only;first | rw[C5 hx ht g2] | rw[CR hx hf]
    exact b5.pick (pT [0,1,5,6,7])
  .have hend:=EW h1;refine ch (yv (yv (xX ?_)));refine za ?_;refine Kc ?_;refine Ka ?_;refine mr 5 st6 (sc Z (zF Z T)
    (sc Z (zF Z T)
    (sc Z (zF Z T)
    (sc Z (Gv Z (by kernel_rfl) T T (by omega) (by omega))
    (sc Z (wa (opds:=[.tmp 32]) Z Z Z (.cons T .nil))
    .nil)))))
    (pT [0,1,5,6,7,12,29,33]) (λ _ _ _ b6=>?_)
   refine W9 (bytes:=16) (b6) Z Z Z Z Z yW (BT (by omega)) (BU (by omega)) (.cons (s:=0) Z (λ _ _ h=>h) (.cons (s:=1) Z (λ _ _ h=>h) (.cons (s:=6) Z (λ _ _ h=>h) (.cons (s:=7) Z (λ _ _ h=>h) (.cons (s:=12) Z (λ _ _ h=>h) .nil))))) (hg5) (λ b9 _ _ hg15 b7=>?_);refine mr 1 b7 (sc Z (xw Z T)
    .nil)
    (pT [0,1,4,6,7,12]) (λ _ _ _ b8=>?_)
   refine Kb ?_;refine za ?_;refine wp_ret ?_;refine GK Z (hg15) b8 (t:=4) Z ?_;exact SV hend g2
theorem Zg(s:Str)(hs:gM s):Fn Tryz.prog 60 [dt s] (dt (zm s)):=by
 refine xg (fn:=Tryz.f60) Tryz.func60 Z (λ M w0 _ hm fK=>?_);refine Kc ?_;refine zp fK [0,2] (λ _ _ _ st1=>?_);refine za ?_;refine Kc ?_;refine zr st1 (sp 1 (r:=by exact sc Z (zy (l:=[.tmp 5,.const (.int .u8 46)]) Z (.cons T (.cons (Q8) .nil)) (YA _ dot (by assumption)))<|gv)) [0,2,3] (λ _ _ _ st2=>?_);refine za ?_;refine Kc ?_;refine Kc ?_;refine zp st2 [0,2,3,4] (λ _ _ _ st3=>?_);refine za ?_;refine aX ?_;refine Y0 (ι:=Nat) (λ k a w=>St (eG.of w0) 22 M [(0,dt s),(3,dt (zC s dot)),(4,dt (k:Int))] a w/\k<=(zC s dot).length/\((zC s dot).take k).all fW=true) (λ k=>(zC s dot).length - k) 0 ?_ ?_
 .exact⟨st3.pick (pT [0,3,4]),aq _,by simp⟩
 .rintro k a4 w4 ⟨st4,hk,hp⟩
  have hlen:=st4.rZ (s:=3) Z;refine Kc ?_;refine Kc ?_;refine zp st4 [0,3,4,10] (λ _ _ _ st5=>?_);refine za ?_;refine zT (c:=10) st5 Z (λ h1=>?_) λ h1=>?_
  .obtain⟨x,hx⟩:=Q9 h1;have hlt:=zJ hx;refine az ?_;refine za ?_;refine Kc ?_;refine aX ?_;refine Kc ?_;refine zr st5 (sp 2 (r:=by exact sc Z (wO Z T T Z (by assumption))<|sp 1 (r:=by exact sc Z (zy (l:=[.tmp 16]) Z (.cons T .nil) (Zf _))<|gv))) [0,3,4,10,18] (λ _ _ _ st6=>?_);refine za ?_;refine zT (c:=18) st6 Z (λ h2=>?_) λ h2=>?_
   .have ht:=h2;refine Kc ?_;refine zp st6 [0,2,3,4,10,18] (λ _ _ _ st7=>?_);refine za ?_;refine wp_ret (wz (zS (zS (wz (zS ?_)))));refine yx Z st7 (t:=2) Z ?_;unfold zm;rw[AW hx (by simpa using ht)];rfl
   .have hf:=h2;refine az ?_;refine yI ?_;refine za ?_;refine zr st6 (sp 1 (r:=by exact sc Z (Zw Z T yl (by simp only[gY];omega))<|gv)) [0,3,4,10,18] (λ _ _ _ st8=>?_);refine za ⟨k+1,⟨st8.pick (pT [0,3,4]),by omega,AX hx hp (by simpa using hf)⟩,by omega⟩
  .have hend:=mZ h1;refine ch (yv (yv (xX ?_)));refine za ?_;refine Kc ?_;refine zp st5 [0,2,3,4,10] (λ _ _ _ st9=>?_);refine za ?_;refine wp_ret ?_;refine yx Z st9 (t:=2) Z ?_;unfold zm;rw[AV hend hp];rfl
theorem Xe(s:Str)(hs:gM s):Fn Tryz.prog 91 [dt s] (dt (zi s)):=by
 refine xg (fn:=Tryz.f91) Tryz.func91 Z (λ M _ _ hm fK=>?_);refine gj ?_;refine zp fK [0,2] (λ _ _ _ st1=>?_);refine zr st1 (sc Z (zF Z T)
  (sc Z (YY Z T (yM))
  (sc Z (zF Z T)
  (sg Z Z (λ hg=>zF Z T)
  (sg Z Z (λ hg=>zy (l:=[.tmp 6]) Z (.cons V .nil) (Zg _ hs))
  (sc Z (qe Z T T)
  (sc Z (xw Z T)
  .nil))))))) [0,2] (λ _ _ _ st2=>?_)
 refine yx Z st2 (t:=2) Z ?_;rfl
theorem IV(l:List Str)(hl:jV l<=1152921504606846976):Fn Tryz.prog 147 [dt l] (dt (join l)):=by
 refine xg (fn:=Tryz.f147) Tryz.func147 Z (λ M w0 _ hm fK=>?_);have hlen:=fK.rZ (s:=0) Z;refine Kc ?_;refine zp fK [0,2] (λ _ _ _ st1=>?_);refine za ?_;refine Kc ?_;refine zp st1 [0,2,3] (λ _ _ _ st2=>?_);refine za ?_;refine Kc ?_;refine Kc ?_;refine zp st2 [0,2,3,4] (λ _ _ _ st3=>?_);refine za ?_;refine aX ?_;refine Y0 (ι:=Nat) (λ k a w=>St (eG.of w0) 22 M [(0,dt l),(3,dt (Xw (l.take k)).1),(4,dt (k:Int))] a w/\k<=l.length) (λ k=>l.length - k) 0 ?_ ?_
 .exact⟨st3.pick (pT [0,3,4]),aq _⟩
 .rintro k a4 w4 ⟨st4,hk⟩
  refine Kc ?_;refine Kc ?_;refine zp st4 [0,3,4,8] (λ _ _ _ st5=>?_);refine za ?_;refine zT (c:=8) st5 Z (λ h1=>?_) λ h1=>?_
  .obtain⟨x,hx⟩:=Q9 h1;have hlt:=zJ hx;have hroom:=OL hx;refine az ?_;refine za ?_;refine Kc ?_;refine aX ?_;refine Kc ?_;refine Kc ?_;refine zp st5 [0,3,4,8,12] (λ _ _ _ st6=>?_);refine za ?_;refine zT (c:=12) st6 Z (λ h2=>?_) λ h2=>?_
   .have ht:=h2;refine zr st6 (sp 1 (r:=by exact sc Z (pK Z T (yM) (by first | (unfold maxLen;omega) | (simp only[ao,bq];unfold maxLen;omega)))<|gv)) [0,3,4,8,12] (λ _ _ _ st7=>?_);refine za ?_;refine zr st7 (sp 3 (r:=by exact sc Z (wO Z T T Z (by assumption))<|sp 1 (r:=by exact sc Z (pK Z T T (by first | (unfold maxLen;omega) | (simp only[ao,bq];unfold maxLen;omega)))<|gv))) [0,3,4,8,12] (λ _ _ _ st8=>?_);refine yI ?_;refine za ?_;refine zr st8 (sp 1 (r:=by exact sc Z (Zw Z T yl (by simp only[gY];omega))<|gv)) [0,3,4,8,12] (λ _ _ _ st9=>?_);refine za ⟨k+1,⟨?_,by omega⟩,by omega⟩
    first | rw[Bv hx ht] | rw[Du hx hf]
    exact st9.pick (pT [0,3,4])
   .have hf:=h2;refine az ?_;refine za ?_;refine zr st6 (sp 3 (r:=by exact sc Z (wO Z T T Z (by assumption))<|sp 1 (r:=by exact sc Z (pK Z T T (by first | (unfold maxLen;omega) | (simp only[ao,bq];unfold maxLen;omega)))<|gv))) [0,3,4,8,12] (λ _ _ _ a8=>?_);refine yI ?_;refine za ?_;refine zr a8 (sp 1 (r:=by exact sc Z (Zw Z T yl (by simp only[gY];omega))<|gv)) [0,3,4,8,12] (λ _ _ _ a9=>?_);refine za ⟨k+1,⟨?_,by omega⟩,by omega⟩
    first | rw[Bv hx ht] | rw[Du hx hf]
    exact a9.pick (pT [0,3,4])
  .have hend:=mZ h1;refine ch (yv (yv (xX ?_)));refine za ?_;refine Kc ?_;refine zp st5 [0,2,3,4,8] (λ _ _ _ b3=>?_);refine za ?_;refine wp_ret ?_;refine yx Z b3 (t:=2) Z ?_;exact OK hend
theorem Vm(s:Str)(hs:gM s):Fn Tryz.prog 103 [dt s] (dt (yb s)):=by
 refine xg (fn:=Tryz.f103) Tryz.func103 Z (λ M _ _ hm fK=>?_);refine gj ?_;have hlen:s.l.length<=1099511627776:=hs;have hne:=rD s dot;have hroom:=Xb s dot;have hlr:=vY (zC s dot);refine zp fK [0,2] (λ _ _ _ st1=>?_);refine zr st1 (sp 1 (r:=by exact sc Z (zy (l:=[.tmp 4,.const (.int .u8 46)]) Z (.cons T (.cons (Q8) .nil)) (YA _ dot (by assumption)))<|gv)) [0,2,3] (λ _ _ _ st2=>?_);refine zr st2 (sp 3 (r:=by exact sc Z (Zw Z T yl (by simp only[gY];omega))<|sc Z (vI Z T T (j:=(zC s dot).length - 1) (by simp only[gY];omega) (by omega))<|sc Z (zy (l:=[.tmp 10]) Z (.cons T .nil) (IV _ (by have:=Xa (zC s dot) ((zC s dot).length - 1);omega)))<|gv)) [0,2,3] (λ _ _ _ st3=>?_);refine yx Z st3 (t:=2) Z ?_;rfl
theorem CB(p s:Str)(hc:p.l.length+s.l.length<=1152921504606846976):Fn Tryz.prog 93 [dt p,dt s] (dt (child p s)):=by
 refine xg (fn:=Tryz.f93) Tryz.func93 Z (λ M _ _ hm fK=>?_);refine Kc ?_;refine zp fK [0,1,4] (λ _ _ _ st1=>?_);refine za ?_;refine Kc ?_;refine Kc ?_;refine zp st1 [0,1,4,6] (λ _ _ _ st2=>?_);refine za ?_;refine zT (c:=6) st2 Z (λ h1=>?_) λ h1=>?_
 .have ht:=h1;refine Kc ?_;refine zp st2 [0,1,4,6] (λ _ _ _ st3=>?_);refine za ?_;refine wp_ret (zS ?_);refine yx Z st3 (t:=4) Z ?_;exact(Ke (oD ht)).symm
 .have hf:=h1;refine az ?_;refine za ?_;refine Kc ?_;refine zr st2 (sp 1 (r:=by exact sc Z (pK Z T (yM) (by first | (unfold maxLen;omega) | (simp only[ao,bq];unfold maxLen;omega)))<|sp 1 (r:=by exact sc rfl (pK rfl (zb rfl) (zb rfl) (by first | (unfold maxLen;omega) | (simp only[ao,bq];unfold maxLen;omega)))<|gv))) [0,1,4,6] (λ _ _ _ st4=>?_);refine za ?_;refine wp_ret ?_;refine yx Z st4 (t:=4) Z ?_;exact(Kf (bM hf)).symm
theorem SO(s:Str)(hs:gM s):Fn Tryz.prog 108 [dt s] (dt (qG s)):=by
 refine xg (fn:=Tryz.f108) Tryz.func108 Z (λ M _ _ hm fK=>?_);refine gj ?_;have hne:=rD s dot;have hroom:=Xb s dot;have hlen:=vY (zC s dot);have hms:s.l.length<=1099511627776:=hs;refine zp fK [0,2] (λ _ _ _ st1=>?_);refine zr st1 (sp 1 (r:=by exact sc Z (zy (l:=[.tmp 4,.const (.int .u8 46)]) Z (.cons T (.cons (Q8) .nil)) (YA _ dot (by assumption)))<|gv)) [0,2,3] (λ _ _ _ st2=>?_);refine zr st2 (sp 3 (r:=by exact sc Z (Zw Z T yl (by simp only[gY];omega))<|sc Z (wO Z T T (k:=(zC s dot).length - 1) (by simp only[gY];omega) (FZ s))<|gv)) [0,2,3] (λ _ _ _ st3=>?_);refine yx Z st3 (t:=2) Z ?_;rfl
theorem SJ(s:Str)(hs:gM s):Fn Tryz.prog 202 [dt s] (dt (nl s)):=by
 refine xg (fn:=Tryz.f202) Tryz.func202 Z (λ M w0 _ hm fK=>?_);have hroom:=Xb s dot;have hlen:=vY (zC s dot);have hms:s.l.length<=1099511627776:=hs;refine Kc ?_;refine zr fK (sc Z (xw Z (wg (α:=Str)))
  .nil) [0,2] (λ _ _ _ st1=>?_)
 refine za ?_;refine Kc ?_;refine zr st1 (sp 1 (r:=by exact sc Z (zy (l:=[.tmp 6,.const (.int .u8 46)]) Z (.cons T (.cons (Q8) .nil)) (YA _ dot (by assumption)))<|gv)) [0,2,3] (λ _ _ _ st2=>?_);refine za ?_;refine Kc ?_;refine zr st2 (sc Z (xj (α:=Str) (e:=9) Z)<|gv) [0,2,3,4] (λ _ _ _ st3=>?_);refine za ?_;refine Kc ?_;refine Kc ?_;refine zp st3 [0,2,3,4,5] (λ _ _ _ st4=>?_);refine za ?_;refine aX ?_;refine Y0 (ι:=Nat) (λ k a w=>∃ g,kS (eG.of w0) M g/\St (eG.of w0) 23 (gp g M) [(0,dt s),(3,dt (zC s dot)),(4,eQ g 9 (Wx (zC s dot) k)),(5,dt ((k+1:Nat):Int))] a w/\k<=(zC s dot).length) (λ k=>(zC s dot).length - k) 0 ?_ ?_
 .exact⟨none,kS.none_,st4.Ax.pick (pT [0,3,4,5]),aq _⟩
 .rintro k a5 w5 ⟨g5,hg5,st5,hk⟩
  refine Kc ?_;refine Kc ?_;refine zp st5 [0,3,4,5,12] (λ _ _ _ st6=>?_);refine za ?_;refine zT (c:=12) st6 Z (λ h1=>?_) λ h1=>?_
  .have hlt:k+1<=(zC s dot).length:=by have:=oD h1;omega
   have hal:=J8 (zC s dot) k;have htk:=Xa (zC s dot) (k+1);refine az ?_;refine za ?_;refine Kc ?_;refine aX ?_;refine Ka ?_;refine mr 6 st6 (sc Z (zF Z T)
    (sc Z (zF Z T)
    (sc Z (zF Z T)
    (sc Z (vI Z T T Z (by omega))
    (sc Z (zy (l:=[.tmp 18]) Z (.cons T .nil) (IV _ (by omega)))
    (sc Z (wa (opds:=[.tmp 19]) Z Z Z (.cons T .nil))
    .nil))))))
    (pT [0,3,4,5,12,15,20]) (λ _ _ _ st7=>?_)
   refine W9 (bytes:=16) (st7) Z Z Z Z Z yW (BT (by omega)) (BU (by omega)) (.cons (s:=0) Z (λ _ _ h=>h) (.cons (s:=3) Z (λ _ _ h=>h) (.cons (s:=5) Z (λ _ _ h=>h) (.cons (s:=12) Z (λ _ _ h=>h) .nil)))) (hg5) (λ g8 _ _ hg8 st8=>?_);refine mr 1 st8 (sc Z (xw Z T)
    .nil)
    (pT [0,3,4,5,12]) (λ _ _ _ st9=>?_)
   refine Kb ?_;refine yI ?_;refine za ?_;refine zr st9 (sp 1 (r:=by exact sc Z (Zw Z T yl (by simp only[gY];omega))<|gv)) [0,3,4,5,12] (λ _ _ _ a8=>?_);refine za ⟨k+1,⟨g8,hg8,?_,by omega⟩,by omega⟩;rw[Ih];exact a8.pick (pT [0,3,4,5])
  .have hend:(zC s dot).length<=k:=by have:=bM h1;omega
   refine ch (yv (yv (xX ?_)));refine za ?_;refine Kc ?_;refine zp st6 [0,2,3,4,5,12] (λ _ _ _ a9=>?_);refine za ?_;refine wp_ret ?_;refine GK Z (hg5) a9 (t:=2) Z ?_;rw[nl,ew hk hend]
theorem Ij(s p:Str)(hp:p.l.length<=1152921504606846976):Fn Tryz.prog 221 [dt s,dt p] (dt (under s p)):=by
 refine xg (fn:=Tryz.f221) Tryz.func221 Z (λ M _ _ hm fK=>?_);refine gj ?_;refine zp fK [0,1,4] (λ _ _ _ st1=>?_);refine zr st1 (sc Z (zF Z T)
  (sc Z (YY Z T (yM))
  (sc Z (zF Z T)
  (sg Z Z (λ hg=>zF Z T)
  (sg Z Z (λ hg=>zF Z T)
  (sg Z Z (λ hg=>YY Z V V)
  (sc Z (qe Z T T)
  (sc Z (zF Z T)
  (sg Z Z (λ hg=>zF Z T)
  (sg Z Z (λ hg=>rG Z V)
  (sg Z Z (λ hg=>zF Z T)
  (sg Z Z (λ hg=>rG Z V)
  (sg Z Z (λ hg=>qR Z V V)
  (sg Z Z (λ hg=>zF Z V)
  (.cons Z (by decide) (.guarded2 Z Z (by decide) Z zB (λ hg=>zF Z T))
  (.cons Z (by decide) (.guarded2 Z Z (by decide) Z zB (λ hg=>zF Z T))
  (.cons Z (by decide) (.guarded2 Z Z (by decide) Z zB (λ hg=>rG Z V))
  (.cons Z (by decide) (.guarded2 Z Z (by decide) Z zB (λ hg=>Zw Z V yl (by simp only[gY];omega)))
  (.cons Z (by decide) (.guarded2 Z Z (by decide) Z zB (λ hg=>Gu Z (by kernel_rfl) V V (by simp only[gY];omega) (by simp only[gY];have:=oD (MP hg);omega)))
  (.cons Z (by decide) (.guarded2 Z Z (by decide) Z zB (λ hg=>zF Z T))
  (.cons Z (by decide) (.guarded2 Z Z (by decide) Z zB (λ hg=>pK Z V (yM) (by first | (unfold maxLen;omega) | (simp only[ao,bq];unfold maxLen;omega))))
  (.cons Z (by decide) (.guarded2 Z Z (by decide) Z zB (λ hg=>YY Z V V))
  (sg Z Z (λ hg=>xd Z V (rQ hg Z))
  (sc Z (qe Z T T)
  (sc Z (xw Z T)
  .nil))))))))))))))))))))))))) [0,1,4] (λ _ _ _ st2=>?_)
 refine yx Z st2 (t:=4) Z ?_;exact TC
theorem UD(f:File)(hf:iC f):Fn Tryz.prog 189 [dt f] (dt (xe f)):=by
 refine xg (fn:=Tryz.f189) Tryz.func189 Z (λ M _ _ hm fK=>?_);refine Kc ?_;refine zr fK (sc Z (JT Z T)<|gv) [0,1,2] (λ _ _ _ st1=>?_);refine za ?_;refine Kc ?_;refine Kc ?_;refine zp st1 [0,1,2,4] (λ _ _ _ st2=>?_);refine za ?_;refine zT (c:=4) st2 Z (λ h1=>?_) λ h1=>?_
 .have ht:=h1;refine Kc ?_;refine zp st2 [0,1,2,4] (λ _ _ _ st3=>?_);refine za ?_;refine wp_ret (zS ?_);refine yx Z st3 (t:=2) Z ?_;rw[xe,Ke ht]
 .have hff:=h1;refine az ?_;refine za ?_;refine Kc ?_;refine zr st2 (sp 4 (r:=by exact sc Z (zy (l:=[.tmp 8,.tmp 10]) Z (.cons T (.cons T .nil)) (CB _ _ (by have:=hf.1;have:=hf.2.1;omega)))<|gv)) [0,1,2,4] (λ _ _ _ st4=>?_);refine za ?_;refine wp_ret ?_;refine yx Z st4 (t:=2) Z ?_;rw[xe,Kf (by simp[hff])]
theorem Ux(s:Stmt)(hs:lH s):Fn Tryz.prog 94 [dt s] (dt (zM s)):=by
 refine xg (fn:=Tryz.f94) Tryz.func94 Z (λ M _ _ hm fK=>?_);refine Kc ?_;refine zr fK (sc Z (JT Z T)<|gv) [0,1,2] (λ _ _ _ st1=>?_);refine za ?_;refine Kc ?_;refine Kc ?_;refine zp st1 [0,1,2,4] (λ _ _ _ st2=>?_);refine za ?_;refine aX ?_;refine Kc ?_;refine zp st2 [0,1,2,4,5] (λ _ _ _ st3=>?_);refine za ?_;refine zT (c:=5) st3 Z (λ h1=>?_) λ h1=>?_
 .have k0:=h1;refine Kc ?_;refine zr st3 (sc Z (zI Stmt.gA Z T)
   (sc Z (zG Z T)
   (sc Z (zy (l:=[.tmp 8]) Z (.cons T .nil) (Zg _ (by have:=hs.1;unfold gM;omega)))
   (sc Z (zF Z T)
   (sg Z Z (λ hg=>zI Stmt.iv Z T)
   (sg Z Z (λ hg=>zG Z V)
   (sg Z Z (λ hg=>qR Z V yl)
   (sc Z (xd Z T T)
   (sc Z (zF Z T)
   (sg Z Z (λ hg=>zI Stmt.iM Z T)
   (sg Z Z (λ hg=>zG Z V)
   (sg Z Z (λ hg=>YY Z V (yM))
   (sc Z (xd Z T T)
   (sc Z (zF Z T)
   (sg Z Z (λ hg=>zI Stmt.ls Z T)
   (sg Z Z (λ hg=>zG Z V)
   (sg Z Z (λ hg=>qR Z V yl)
   (sc Z (xd Z T T)
   (sc Z (xw Z T)
   .nil))))))))))))))))))) [0,1,2,4,5] (λ _ _ _ st4=>?_)
  refine za ?_;refine wp_ret (wz (zS ?_));refine yx Z st4 (t:=2) Z ?_;rw[zM,Ke k0]
 .have k0:=h1;refine Kc ?_;refine zp st3 [0,1,2,4,5,25] (λ _ _ _ st5=>?_);refine za ?_;refine zT (c:=25) st5 Z (λ h2=>?_) λ h2=>?_
  .have k1:=h2;refine Kc ?_;refine zr st5 (sc Z (zI Stmt.gA Z T)
    (sc Z (zG Z T)
    (sc Z (zy (l:=[.tmp 28]) Z (.cons T .nil) (Xe _ (by have:=hs.1;unfold gM;omega)))
    (sc Z (zF Z T)
    (sg Z Z (λ hg=>zI Stmt.iv Z T)
    (sg Z Z (λ hg=>zG Z V)
    (sg Z Z (λ hg=>zy (l:=[.tmp 32,.const (.int .i64 0),.const (.int .i64 3)]) Z (.cons V (.cons yl (.cons yl .nil))) (qW _ _ _))
    (sc Z (xd Z T T)
    (sc Z (zF Z T)
    (sg Z Z (λ hg=>zI Stmt.gA Z T)
    (sg Z Z (λ hg=>zG Z V)
    (sg Z Z (λ hg=>rP Z V (yM))
    (sg Z Z (λ hg=>zF Z V)
    (.cons Z (by decide) (.guarded2 Z Z (by decide) Z zB (λ hg=>zI Stmt.iv Z T))
    (.cons Z (by decide) (.guarded2 Z Z (by decide) Z zB (λ hg=>zG Z V))
    (.cons Z (by decide) (.guarded2 Z Z (by decide) Z zB (λ hg=>qR Z V yl))
    (sg Z Z (λ hg=>qe Z V (rQ hg Z))
    (sc Z (xd Z T T)
    (sc Z (zF Z T)
    (sg Z Z (λ hg=>zI Stmt.iM Z T)
    (sg Z Z (λ hg=>zG Z V)
    (sg Z Z (λ hg=>zy (l:=[.tmp 47]) Z (.cons V .nil) (Zf _))
    (sc Z (xd Z T T)
    (sc Z (zF Z T)
    (sg Z Z (λ hg=>zI Stmt.ls Z T)
    (sg Z Z (λ hg=>zG Z V)
    (sg Z Z (λ hg=>qR Z V yl)
    (sc Z (xd Z T T)
    (sc Z (xw Z T)
    .nil))))))))))))))))))))))))))))) [0,1,2,4,5,25] (λ _ _ _ st6=>?_)
   refine za ?_;refine wp_ret (wz (zS ?_));refine yx Z st6 (t:=2) Z ?_;rw[zM,Kf (by rw[k0];decide),Ke k1]
  .have k1:=h2;refine Kc ?_;refine zp st5 [0,1,2,4,5,25,55] (λ _ _ _ st7=>?_);refine za ?_;refine zT (c:=55) st7 Z (λ h3=>?_) λ h3=>?_
   .have k2:=h3;refine Kc ?_;refine zr st7 (sc Z (zI Stmt.gA Z T)
     (sc Z (zG Z T)
     (sc Z (zy (l:=[.tmp 58]) Z (.cons T .nil) (Zg _ (by have:=hs.1;unfold gM;omega)))
     (sc Z (zF Z T)
     (sg Z Z (λ hg=>zI Stmt.iv Z T)
     (sg Z Z (λ hg=>zG Z V)
     (sg Z Z (λ hg=>qR Z V yl)
     (sc Z (xd Z T T)
     (sc Z (zF Z T)
     (sg Z Z (λ hg=>zI Stmt.iM Z T)
     (sg Z Z (λ hg=>zG Z V)
     (sg Z Z (λ hg=>YY Z V (yM))
     (sc Z (xd Z T T)
     (sc Z (zF Z T)
     (sg Z Z (λ hg=>zI Stmt.ls Z T)
     (sg Z Z (λ hg=>zG Z V)
     (sg Z Z (λ hg=>qR Z V yl)
     (sc Z (xd Z T T)
     (sc Z (xw Z T)
     .nil))))))))))))))))))) [0,1,2,4,5,25,55] (λ _ _ _ st8=>?_)
    refine za ?_;refine wp_ret (wz (zS ?_));refine yx Z st8 (t:=2) Z ?_;rw[zM,Kf (by rw[k0];decide),Kf (by rw[k1];decide),Ke k2]
   .have k2:=h3;refine Kc ?_;refine zp st7 [0,1,2,4,5,25,55,75] (λ _ _ _ st9=>?_);refine za ?_;refine zT (c:=75) st9 Z (λ h4=>?_) λ h4=>?_
    .have k3:=h4;refine Kc ?_;refine zr st9 (sc Z (zI Stmt.gA Z T)
      (sc Z (zG Z T)
      (sc Z (YY Z T (yM))
      (sc Z (zF Z T)
      (sg Z Z (λ hg=>zI Stmt.iv Z T)
      (sg Z Z (λ hg=>zG Z V)
      (sg Z Z (λ hg=>qR Z V yl)
      (sc Z (xd Z T T)
      (sc Z (zF Z T)
      (sg Z Z (λ hg=>zI Stmt.iM Z T)
      (sg Z Z (λ hg=>zG Z V)
      (sg Z Z (λ hg=>zy (l:=[.tmp 87]) Z (.cons V .nil) (Zf _))
      (sc Z (xd Z T T)
      (sc Z (zF Z T)
      (sg Z Z (λ hg=>zI Stmt.ls Z T)
      (sg Z Z (λ hg=>zG Z V)
      (sg Z Z (λ hg=>zy (l:=[.tmp 92,.const (.int .i64 0),.const (.int .i64 99)]) Z (.cons V (.cons yl (.cons yl .nil))) (qW _ _ _))
      (sc Z (xd Z T T)
      (sc Z (xw Z T)
      .nil))))))))))))))))))) [0,1,2,4,5,25,55,75] (λ _ _ _ b3=>?_)
     refine za ?_;refine wp_ret (wz (zS ?_));refine yx Z b3 (t:=2) Z ?_;rw[zM,Kf (by rw[k0];decide),Kf (by rw[k1];decide),Kf (by rw[k2];decide),Ke k3]
    .have k3:=h4;refine Kc ?_;refine zp st9 [0,1,2,4,5,25,55,75,95] (λ _ _ _ a8=>?_);refine za ?_;refine zT (c:=95) a8 Z (λ h5=>?_) λ h5=>?_
     .have k4:=h5;refine Kc ?_;refine zr a8 (sc Z (zI Stmt.gA Z T)
       (sc Z (zG Z T)
       (sc Z (YY Z T (yM))
       (sc Z (zF Z T)
       (sg Z Z (λ hg=>zI Stmt.iv Z T)
       (sg Z Z (λ hg=>zG Z V)
       (sg Z Z (λ hg=>qR Z V yl)
       (sc Z (xd Z T T)
       (sc Z (zF Z T)
       (sg Z Z (λ hg=>zI Stmt.iM Z T)
       (sg Z Z (λ hg=>zG Z V)
       (sg Z Z (λ hg=>zy (l:=[.tmp 107]) Z (.cons V .nil) (Zf _))
       (sc Z (xd Z T T)
       (sc Z (zF Z T)
       (sg Z Z (λ hg=>zI Stmt.ls Z T)
       (sg Z Z (λ hg=>zG Z V)
       (sg Z Z (λ hg=>qR Z V yl)
       (sc Z (xd Z T T)
       (sc Z (xw Z T)
       .nil))))))))))))))))))) [0,1,2,4,5,25,55,75,95] (λ _ _ _ b5=>?_)
      refine za ?_;refine wp_ret (wz (zS ?_));refine yx Z b5 (t:=2) Z ?_;rw[zM,Kf (by rw[k0];decide),Kf (by rw[k1];decide),Kf (by rw[k2];decide),Kf (by rw[k3];decide),Ke k4]
     .have k4:=h5;refine Kc ?_;refine zp a8 [0,1,2,4,5,25,55,75,95,115] (λ _ _ _ a9=>?_);refine za ?_;refine zT (c:=115) a9 Z (λ h6=>?_) λ h6=>?_
      .have k5:=h6;refine Kc ?_;refine zr a9 (sp 1 (r:=by exact sc Z (yf (parts:=[(0,.const (.int .i64 5))]) (ns:=[1,1,1,1,1]) (zs:=[[.int .i64 0],[.string ⟨⟨[]⟩⟩],[.int .i64 0],[.string ⟨⟨[]⟩⟩],[.int .i64 0]]) Z Z (λ w a hl=>by
    intro p hp;simp only[aj,aF,bI] at hp;rcases hp with rfl
    .exact⟨by decide,Z⟩) (λ w a hl=>Stmt.parts (x:=⟨5,⟨[]⟩,0,⟨[]⟩,0⟩) (eC.cells yl hl) Qu ⟨Z,trivial⟩ Qu ⟨Z,trivial⟩))<|sc Z (Qk Z T T)<|gv)) [0,1,2,4,5,25,55,75,95,115] (λ _ _ _ b6=>?_)
       refine za ?_;refine wp_ret (wz (zS ?_));refine yx Z b6 (t:=2) Z ?_;rw[zM,Kf (by rw[k0];decide),Kf (by rw[k1];decide),Kf (by rw[k2];decide),Kf (by rw[k3];decide),Kf (by rw[k4];decide),Ke k5]
      .have k5:=h6;refine az ?_;refine yI ?_;refine za ?_;refine Kc ?_;refine zp a9 [0,1,2,4,5,25,55,75,95,115] (λ _ _ _ b7=>?_);refine za ?_;refine wp_ret ?_;refine yx Z b7 (t:=2) Z ?_;rw[zM,Kf (by rw[k0];decide),Kf (by rw[k1];decide),Kf (by rw[k2];decide),Kf (by rw[k3];decide),Kf (by rw[k4];decide),Kf (by rw[k5];decide)]
theorem Uy(b:List Stmt)(hb:b.length<=1048576/\∀ s∈b,lH s):Fn Tryz.prog 59 [dt b] (dt (gG b)):=by
 refine xg (fn:=Tryz.f59) Tryz.func59 Z (λ M w0 _ hm fK=>?_);have hlen:=hb.1;refine Kc ?_;refine zp fK [0,2] (λ _ _ _ st1=>?_);refine za ?_;refine Kc ?_;refine Kc ?_;refine zp st1 [0,2,3] (λ _ _ _ st2=>?_);refine za ?_;refine aX ?_;refine Y0 (ι:=Nat) (λ k a w=>St (eG.of w0) 19 M [(0,dt b),(3,dt (k:Int))] a w/\k<=b.length/\(b.take k).all zM=true) (λ k=>b.length - k) 0 ?_ ?_
 .exact⟨st2.pick (pT [0,3]),aq _,by simp⟩
 .rintro k a3 w3 ⟨st3,hk,hp⟩
  refine Kc ?_;refine Kc ?_;refine zp st3 [0,3,7] (λ _ _ _ st4=>?_);refine za ?_;refine zT (c:=7) st4 Z (λ h1=>?_) λ h1=>?_
  .obtain⟨x,hx⟩:=Q9 h1;have hlt:=zJ hx;refine az ?_;refine za ?_;refine Kc ?_;refine aX ?_;refine Kc ?_;refine zr st4 (sp 2 (r:=by exact sc Z (wO Z T T Z (by assumption))<|sp 1 (r:=by exact sc Z (zy (l:=[.tmp 13]) Z (.cons T .nil) (Ux _ (hb.2 _ (ae hx))))<|gv))) [0,3,7,15] (λ _ _ _ st5=>?_);refine za ?_;refine zT (c:=15) st5 Z (λ h2=>?_) λ h2=>?_
   .have ht:=h2;refine Kc ?_;refine zp st5 [0,2,3,7,15] (λ _ _ _ st6=>?_);refine za ?_;refine wp_ret (wz (zS (zS (wz (zS ?_)))));refine yx Z st6 (t:=2) Z ?_;unfold gG;rw[AW hx (by simpa using ht)];rfl
   .have hf:=h2;refine az ?_;refine yI ?_;refine za ?_;refine zr st5 (sp 1 (r:=by exact sc Z (Zw Z T yl (by simp only[gY];omega))<|gv)) [0,3,7,15] (λ _ _ _ st7=>?_);refine za ⟨k+1,⟨st7.pick (pT [0,3]),by omega,AX hx hp (by simpa using hf)⟩,by omega⟩
  .have hend:=mZ h1;refine ch (yv (yv (xX ?_)));refine za ?_;refine Kc ?_;refine zp st4 [0,2,3,7] (λ _ _ _ st8=>?_);refine za ?_;refine wp_ret ?_;refine yx Z st8 (t:=2) Z ?_;unfold gG;rw[AV hend hp];rfl
theorem Uz(f:File)(hf:iC f):Fn Tryz.prog 58 [dt f] (dt (z9 f)):=by
 refine xg (fn:=Tryz.f58) Tryz.func58 Z (λ M _ _ hm fK=>?_);refine Kc ?_;refine zr fK (sc Z (JT Z T)<|gv) [0,1,2] (λ _ _ _ st1=>?_);refine za ?_;refine Kc ?_;refine Kc ?_;refine zr st1 (sc Z (zI File.gD Z T)
  (sc Z (zG Z T)
  (sc Z (zy (l:=[.tmp 4,.const (.int .i64 0),.const (.int .i64 2)]) Z (.cons T (.cons yl (.cons yl .nil))) (qW _ _ _))
  (sc Z (ZQ Z T)
  (sc Z (zF Z T)
  (sg Z Z (λ hg=>zI File.ls Z T)
  (sg Z Z (λ hg=>zG Z V)
  (sg Z Z (λ hg=>zy (l:=[.tmp 9,.const (.int .i64 0),.const (.int .i64 99)]) Z (.cons V (.cons yl (.cons yl .nil))) (qW _ _ _))
  (sg Z Z (λ hg=>ZQ Z V)
  (sc Z (qe Z T T)
  (sc Z (zF Z T)
  (sg Z Z (λ hg=>zI File.gA Z T)
  (sg Z Z (λ hg=>zG Z V)
  (sg Z Z (λ hg=>zy (l:=[.tmp 15]) Z (.cons V .nil) (Xe _ (by have:=hf.1;unfold gM;omega)))
  (sg Z Z (λ hg=>ZQ Z V)
  (sc Z (qe Z T T)
  (sc Z (zF Z T)
  (sg Z Z (λ hg=>zI File.oY Z T)
  (sg Z Z (λ hg=>zG Z V)
  (sg Z Z (λ hg=>zy (l:=[.tmp 21]) Z (.cons V .nil) (Uy _ ⟨hf.2.2.1,hf.2.2.2⟩))
  (sg Z Z (λ hg=>ZQ Z V)
  (sc Z (qe Z T T)
  .nil)))))))))))))))))))))) [0,1,2,24] (λ _ _ _ st2=>?_)
 refine za ?_;refine zT (c:=24) st2 Z (λ h1=>?_) λ h1=>?_
 .have g1:=h1;refine Kc ?_;refine zp st2 [0,1,2,24] (λ _ _ _ st3=>?_);refine za ?_;refine wp_ret (zS ?_);refine yx Z st3 (t:=2) Z ?_;rw[z9,Ke g1]
 .have g1:=h1;refine az ?_;refine za ?_;refine Kc ?_;refine Kc ?_;refine zp st2 [0,1,2,24,26] (λ _ _ _ st4=>?_);refine za ?_;refine zT (c:=26) st4 Z (λ h2=>?_) λ h2=>?_
  .have g2:=h2;refine Kc ?_;refine zr st4 (sc Z (zI File.gA Z T)
    (sc Z (zG Z T)
    (sc Z (rP Z T (yM))
    (sc Z (zF Z T)
    (sg Z Z (λ hg=>zI File.iv Z T)
    (sg Z Z (λ hg=>zG Z V)
    (sg Z Z (λ hg=>YY Z V (yM))
    (sc Z (xd Z T T)
    (sc Z (xw Z T)
    .nil))))))))) [0,1,2,24,26] (λ _ _ _ st5=>?_)
   refine za ?_;refine wp_ret (zS ?_);refine yx Z st5 (t:=2) Z ?_;rw[z9,Kf (by rw[g1];decide),Ke g2];rfl
  .have g2:=h2;refine az ?_;refine za ?_;refine Kc ?_;refine zr st4 (sc Z (zI File.iv Z T)
    (sc Z (zG Z T)
    (sc Z (zy (l:=[.tmp 36]) Z (.cons T .nil) (Zf _))
    (sc Z (zF Z T)
    (sg Z Z (λ hg=>zI File.gA Z T)
    (sg Z Z (λ hg=>zG Z V)
    (sg Z Z (λ hg=>zI File.iv Z T)
    (sg Z Z (λ hg=>zG Z V)
    (sg Z Z (λ hg=>zy (l:=[.tmp 40,.tmp 42]) Z (.cons V (.cons V .nil)) (CB _ _ (by have:=hf.1;have:=hf.2.1;omega)))
    (sg Z Z (λ hg=>zy (l:=[.tmp 43]) Z (.cons V .nil) (Zg _ (Ni (by have:=hf.1;have:=hf.2.1;omega))))
    (sc Z (xd Z T T)
    (sc Z (xw Z T)
    .nil)))))))))))) [0,1,2,24,26] (λ _ _ _ st6=>?_)
   refine za ?_;refine wp_ret ?_;refine yx Z st6 (t:=2) Z ?_;rw[z9,Kf (by rw[g1];decide),Kf (by rw[g2];decide)]
theorem UJ(f g:File):Fn Tryz.prog 203 [dt f,dt g] (dt (wo f g)):=by
 refine xg (fn:=Tryz.f203) Tryz.func203 Z (λ M _ _ hm fK=>?_);refine gj ?_;refine zr fK (sc Z (JT Z T)<|sc Z (JT Z T)<|gv) [0,1,2,3,4] (λ _ _ _ st1=>?_);refine zr st1 (sc Z (zI File.gD Z T)
  (sc Z (zG Z T)
  (sc Z (zI File.gD Z T)
  (sc Z (zG Z T)
  (sc Z (qR Z T T)
  (sc Z (zF Z T)
  (sg Z Z (λ hg=>zI File.gA Z T)
  (sg Z Z (λ hg=>zG Z V)
  (sg Z Z (λ hg=>zI File.gA Z T)
  (sg Z Z (λ hg=>zG Z V)
  (sg Z Z (λ hg=>YY Z V V)
  (sc Z (xd Z T T)
  (sc Z (zF Z T)
  (sg Z Z (λ hg=>zI File.iM Z T)
  (sg Z Z (λ hg=>zG Z V)
  (sg Z Z (λ hg=>zI File.iM Z T)
  (sg Z Z (λ hg=>zG Z V)
  (sg Z Z (λ hg=>sN Z V V)
  (sc Z (xd Z T T)
  (sc Z (zF Z T)
  (sg Z Z (λ hg=>zI File.iv Z T)
  (sg Z Z (λ hg=>zG Z V)
  (sg Z Z (λ hg=>zI File.iv Z T)
  (sg Z Z (λ hg=>zG Z V)
  (sg Z Z (λ hg=>YY Z V V)
  (sc Z (xd Z T T)
  (sc Z (xw Z T)
  .nil))))))))))))))))))))))))))) [0,1,2,3,4] (λ _ _ _ st2=>?_)
 refine yx Z st2 (t:=4) Z ?_;simp[wo,ez]
theorem HM(t:Tree)(f:File):Fn Tryz.prog 182 [dt t,dt f] (dt (qU t.files f)):=by
 refine xg (fn:=Tryz.f182) Tryz.func182 Z (λ M w0 _ hm fK=>?_);have hlen:=fK.DO Tree.gD (s:=0) Z;refine Kc ?_;refine zr fK (sc Z (JT Z T)<|sc Z (JT Z T)<|gv) [0,1,2,3,4] (λ _ _ _ st1=>?_);refine za ?_;refine Kc ?_;refine Kc ?_;refine zr st1 (gv) [0,1,2,3,4,5] (λ _ _ _ st2=>?_);refine za ?_;refine aX ?_;refine Y0 (ι:=Nat) (λ k a w=>St (eG.of w0) 21 M [(0,dt t),(1,dt f),(2,eX t),(3,eX f),(5,dt (k:Int))] a w/\k<=t.files.length/\(t.files.take k).any (λ x=>wo x f)=false) (λ k=>t.files.length - k) 0 ?_ ?_
 .exact⟨st2.pick (pT [0,1,2,3,5]),aq _,by simp⟩
 .rintro k a3 w3 ⟨st3,hk,hp⟩
  refine Kc ?_;refine Kc ?_;refine zr st3 (gv) [0,1,2,3,5,10] (λ _ _ _ st4=>?_);refine za ?_;refine zT (c:=10) st4 Z (λ h1=>?_) λ h1=>?_
  .obtain⟨x,hx⟩:=Q9 h1;have hlt:=zJ hx;refine az ?_;refine za ?_;refine Kc ?_;refine aX ?_;refine Kc ?_;refine C3 zP [[],[0],[],[0,1,2],[0,1,2,3],[],[0,1,2,3,4,5]] [[(2,nS)],[(13,0)],[(5,nS)],[(14,1),(15,2)],[(16,3)],[(3,nS)],[(17,4),(18,5)]] st4 (D:=[_,_,_,_,_,_,_])
    (rc Z Z (zI Tree.gD Z T)
    (rc Z Z (zG Z T)
    (rc Z Z (zF Z T)
    (rc Z Z (wO Z T T Z (by assumption))
    (rc Z Z (zG Z T)
    (rc Z Z (zG Z T)
    (rc Z Z (zy (l:=[.tmp 17,.tmp 18]) Z (.cons T (.cons T .nil)) (UJ _ _))
    .nil)))))))
    (pT [0,1,2,3,5,10,19]) (λ _ _ _ st5=>?_)
   refine za ?_;refine zT (c:=19) st5 Z (λ h2=>?_) λ h2=>?_
   .have ht:=h2;refine Kc ?_;refine zp st5 [0,1,2,3,4,5,10,19] (λ _ _ _ st6=>?_);refine za ?_;refine wp_ret (wz (zS (zS (wz (zS ?_)))));refine yx Z st6 (t:=4) Z ?_;exact(Bt hp hx ht).symm
   .have hf:=h2;refine az ?_;refine yI ?_;refine za ?_;refine zr st5 (sp 1 (r:=by exact sc Z (Zw Z T yl (by simp only[gY];omega))<|gv)) [0,1,2,3,5,10,19] (λ _ _ _ st7=>?_);refine za ⟨k+1,⟨st7.pick (pT [0,1,2,3,5]),by omega,vX hx hp hf⟩,by omega⟩
  .have hend:=mZ h1;refine ch (yv (yv (xX ?_)));refine za ?_;refine Kc ?_;refine zp st4 [0,1,2,3,4,5,10] (λ _ _ _ st8=>?_);refine za ?_;refine wp_ret ?_;refine yx Z st8 (t:=4) Z ?_;exact(Bs hend hp).symm
theorem SN(l:List Int)(n:Int):Fn Tryz.prog 61 [dt l,dt n] (dt (ri l n)):=by
 refine xg (fn:=Tryz.f61) Tryz.func61 Z (λ M w0 _ hm fK=>?_);have hlen:=fK.rZ (s:=0) Z;refine Kc ?_;refine zp fK [0,1,4] (λ _ _ _ st1=>?_);refine za ?_;refine Kc ?_;refine Kc ?_;refine zp st1 [0,1,4,5] (λ _ _ _ st2=>?_);refine za ?_;refine aX ?_;refine Y0 (ι:=Nat) (λ k a w=>St (eG.of w0) 19 M [(0,dt l),(1,dt n),(5,dt (k:Int))] a w/\k<=l.length/\(l.take k).any (λ x=>x == n)=false) (λ k=>l.length - k) 0 ?_ ?_
 .exact⟨st2.pick (pT [0,1,5]),aq _,by simp⟩
 .rintro k a3 w3 ⟨st3,hk,hp⟩
  refine Kc ?_;refine Kc ?_;refine zp st3 [0,1,5,9] (λ _ _ _ st4=>?_);refine za ?_;refine zT (c:=9) st4 Z (λ h1=>?_) λ h1=>?_
  .obtain⟨x,hx⟩:=Q9 h1;have hlt:=zJ hx;refine az ?_;refine za ?_;refine Kc ?_;refine aX ?_;refine Kc ?_;refine zr st4 (sp 2 (r:=by exact sc Z (wO Z T T Z (by assumption))<|gv)) [0,1,5,9,17] (λ _ _ _ st5=>?_);refine za ?_;refine zT (c:=17) st5 Z (λ h2=>?_) λ h2=>?_
   .have ht:=h2;refine Kc ?_;refine zp st5 [0,1,4,5,9,17] (λ _ _ _ st6=>?_);refine za ?_;refine wp_ret (wz (zS (zS (wz (zS ?_)))));refine yx Z st6 (t:=4) Z ?_;exact(Bt hp hx ht).symm
   .have hf:=h2;refine az ?_;refine yI ?_;refine za ?_;refine zr st5 (sp 1 (r:=by exact sc Z (Zw Z T yl (by simp only[gY];omega))<|gv)) [0,1,5,9,17] (λ _ _ _ st7=>?_);refine za ⟨k+1,⟨st7.pick (pT [0,1,5]),by omega,vX hx hp hf⟩,by omega⟩
  .have hend:=mZ h1;refine ch (yv (yv (xX ?_)));refine za ?_;refine Kc ?_;refine zp st4 [0,1,4,5,9] (λ _ _ _ st8=>?_);refine za ?_;refine wp_ret ?_;refine yx Z st8 (t:=4) Z ?_;exact(Bs hend hp).symm
theorem Vn  : Fn Tryz.prog 149 [] (dt ot):=by
 refine xg (fn:=Tryz.f149) Tryz.func149 Z (λ M _ _ hm fK=>?_);refine gj ?_;refine Ka ?_;refine T0 (n:=3) fK Z Z Z .nil (λ b1 _ _ hb1 hn1 _ st1=>?_);refine Kb ?_;refine Ka ?_;refine mr 2 st1 (sc Z (wa (opds:=[]) (α:=Int) Z Z Z .nil)
  (sc Z (yf (parts:=[(0,.const (.int .i64 0)),(1,.const (.int .i64 (-1))),(2,.tmp 1)]) (ns:=[1,1,1]) (zs:=[[.int .i64 0],[.int .i64 0],[.slice none 0 0]]) Z Z (λ w a hl=>by
    intro p hp;simp only[aj,aF,bI] at hp;rcases hp with rfl | rfl | rfl
    .exact⟨by decide,Z⟩
    .exact⟨by decide,Z⟩
    .exact⟨by decide,ey.len (α:=(List Int)) (eC.cells T hl)⟩) (λ w a hl=>Spec.parts (x:=⟨0,-1,[]⟩) (eC.cells yl hl) (eC.cells yl hl) (eC.cells T hl)))
  .nil))
  (pT [0,2]) (λ _ _ _ st2=>?_)
 refine T1 st2 Z Z Z Z hb1 (.inr Z) Z T .nil (λ _ st3=>?_);refine Kb ?_;refine Sf Z st3 (t:=0) Z (λ _ h=>(.inl h)) ?_;rfl
theorem Vo(t:Tree)(root:Int)(p:Str)(hp:p.l.length<=1152921504606846976):Fn Tryz.prog 204 [dt t,dt root,dt p] (dt (na t.files root p)):=by
 refine xg (fn:=Tryz.f204) Tryz.func204 Z (λ M w0 _ hm fK=>?_);have hlen:=fK.DO Tree.gD (s:=0) Z;refine Kc ?_;refine zr fK (sc Z (JT Z T)<|gv) [0,1,2,3,6] (λ _ _ _ st1=>?_);refine za ?_;refine Kc ?_;refine Kc ?_;refine zp st1 [0,1,2,3,6,7] (λ _ _ _ st2=>?_);refine za ?_;refine aX ?_;refine Y0 (ι:=Nat) (λ k a w=>St (eG.of w0) 44 M [(0,dt t),(1,dt root),(2,dt p),(3,eX t),(7,dt (k:Int))] a w/\k<=t.files.length/\(t.files.take k).any (rR root p)=false) (λ k=>t.files.length - k) 0 ?_ ?_
 .exact⟨st2.pick (pT [0,1,2,3,7]),aq _,by simp⟩
 .rintro k a3 w3 ⟨st3,hk,hq⟩
  refine Kc ?_;refine Kc ?_;refine zp st3 [0,1,2,3,7,12] (λ _ _ _ st4=>?_);refine za ?_;refine zT (c:=12) st4 Z (λ h1=>?_) λ h1=>?_
  .obtain⟨x,hx⟩:=Q9 h1;have hlt:=zJ hx;refine az ?_;refine za ?_;refine Kc ?_;refine aX ?_;refine Kc ?_;refine zr st4 (sc Z (zI Tree.gD Z T)
    (sc Z (zG Z T)
    (sc Z (zF Z T)
    (sc Z (wO Z T T Z (by assumption))
    (sc Z (zI File.gD Z T)
    (sc Z (zG Z T)
    (sc Z (zF Z T)
    (sc Z (qR Z T T)
    (sc Z (zF Z T)
    (sg Z Z (λ hg=>zI Tree.gD Z T)
    (sg Z Z (λ hg=>zG Z V)
    (sg Z Z (λ hg=>zF Z T)
    (sg Z Z (λ hg=>wO Z V V Z (by assumption))
    (sg Z Z (λ hg=>zI File.gA Z V)
    (sg Z Z (λ hg=>zG Z V)
    (sg Z Z (λ hg=>rP Z V (yM))
    (sc Z (xd Z T T)
    (sc Z (zF Z T)
    (sg Z Z (λ hg=>zI Tree.gD Z T)
    (sg Z Z (λ hg=>zG Z V)
    (sg Z Z (λ hg=>zF Z T)
    (sg Z Z (λ hg=>wO Z V V Z (by assumption))
    (sg Z Z (λ hg=>zI File.gA Z V)
    (sg Z Z (λ hg=>zG Z V)
    (sg Z Z (λ hg=>zF Z T)
    (sg Z Z (λ hg=>zy (l:=[.tmp 38,.tmp 39]) Z (.cons V (.cons V .nil)) (Ij _ _ (by assumption)))
    (sc Z (xd Z T T)
    .nil))))))))))))))))))))))))))) [0,1,2,3,7,12,41] (λ _ _ _ st5=>?_)
   refine za ?_;refine zT (c:=41) st5 Z (λ h2=>?_) λ h2=>?_
   .have ht:=h2;refine Kc ?_;refine zp st5 [0,1,2,3,6,7,12,41] (λ _ _ _ st6=>?_);refine za ?_;refine wp_ret (wz (zS (zS (wz (zS ?_)))));refine yx Z st6 (t:=6) Z ?_;rw[na,MR (p:=rR root p) hx ht];rfl
   .have hf:=h2;refine az ?_;refine yI ?_;refine za ?_;refine zr st5 (sp 1 (r:=by exact sc Z (Zw Z T yl (by simp only[gY];omega))<|gv)) [0,1,2,3,7,12,41] (λ _ _ _ st7=>?_);refine za ⟨k+1,⟨st7.pick (pT [0,1,2,3,7]),by omega,vX (p:=rR root p) hx hq hf⟩,by omega⟩
  .have hend:=mZ h1;refine ch (yv (yv (xX ?_)));refine za ?_;refine Kc ?_;refine zp st4 [0,1,2,3,6,7,12] (λ _ _ _ st8=>?_);refine za ?_;refine wp_ret ?_;refine yx Z st8 (t:=6) Z ?_;rw[na,Ev hend hq];rfl
theorem UA(l:List Int):Fn Tryz.prog 31 [dt l] (dt (xY l)):=by
 refine xg (fn:=Tryz.f31) Tryz.func31 Z (λ M w0 _ hm fK=>?_);have hlen:=fK.rZ (s:=0) Z;refine Kc ?_;refine zp fK [0,2] (λ _ _ _ st1=>?_);refine za ?_;refine Kc ?_;refine Kc ?_;refine zp st1 [0,2,3] (λ _ _ _ st2=>?_);refine za ?_;refine aX ?_;refine Y0 (ι:=Nat) (λ k a w=>St (eG.of w0) 27 M [(0,dt l),(3,dt (k:Int))] a w/\k<=l.length/\nc l k=true) (λ k=>l.length - k) 0 ?_ ?_
 .exact⟨st2.pick (pT [0,3]),aq _,Z⟩
 .rintro k a3 w3 ⟨st3,hk,hp⟩
  refine Kc ?_;refine Kc ?_;refine zp st3 [0,3,7] (λ _ _ _ st4=>?_);refine za ?_;refine zT (c:=7) st4 Z (λ h1=>?_) λ h1=>?_
  .obtain⟨x,hx⟩:=Q9 h1;have hlt:=zJ hx;refine az ?_;refine za ?_;refine Kc ?_;refine aX ?_;refine Kc ?_;refine C3 zP [[],[],[0,1],[0,1,2],[0,1,2,3],[0,1,2,3,4],[0,1,2,3,4,5],[0,1,2,3,4,5,6],[0,1,2,3,4,5,6],[0,1,2,3,4,5,6,7,8],[0,1,2,3,4,5,6],[0,1,2,3,4,5,6],[0,1,2,3,4,5,6,10,11],[0,1,2,3,4,5,6,10,11,12],[0,1,2,3,4,5,6,7,8,9,10,11,12,13],[0,1,2,3,4,5,6,7,8,9,10,11,12,13,14],[0,1,2,3,4,5,6,7,8,9,10,11,12,13,14,15]] [[(0,nS)],[(3,nS)],[(10,0),(11,1)],[(12,2)],[(13,3)],[(14,4)],[(15,5)],[(0,nS),(16,6)],[(3,nS),(16,6)],[(17,7),(18,8),(16,6)],[(0,nS),(16,6)],[(3,nS),(16,6)],[(20,10),(21,11),(16,6)],[(22,12),(16,6)],[(19,9),(23,13),(16,6)],[(24,14),(16,6)],[(16,6),(25,15)]] st4 (D:=[_,_,_,_,_,_,_,_,_,_,_,_,_,_,_,_,_])
    (rc Z Z (zF Z T)
    (rc Z Z (zF Z T)
    (rc Z Z (wO Z T T Z (by assumption))
    (rc Z Z (zG Z T)
    (rc Z Z (zy (l:=[.tmp 13,.const (.int .i64 0),.const (.int .i64 2)]) Z (.cons T (.cons yl (.cons yl .nil))) (qW _ _ _))
    (rc Z Z (ZQ Z T)
    (rc Z Z (zF Z T)
    (.cons Z (by decide) Z (.guarded Z Z (by decide) Z zB (λ hg=>zF Z T))
    (.cons Z (by decide) Z (.guarded Z Z (by decide) Z zB (λ hg=>zF Z T))
    (.cons Z (by decide) Z (.guarded Z Z (by decide) Z zB (λ hg=>vI Z V V Z (by omega)))
    (.cons Z (by decide) Z (.guarded Z Z (by decide) Z zB (λ hg=>zF Z T))
    (.cons Z (by decide) Z (.guarded Z Z (by decide) Z zB (λ hg=>zF Z T))
    (.cons Z (by decide) Z (.guarded Z Z (by decide) Z zB (λ hg=>wO Z V V Z (by assumption)))
    (.cons Z (by decide) Z (.guarded Z Z (by decide) Z zB (λ hg=>zG Z V))
    (.cons Z (by decide) Z (.guarded Z Z (by decide) Z zB (λ hg=>zy (l:=[.tmp 19,.tmp 23]) Z (.cons V (.cons V .nil)) (SN _ _)))
    (.cons Z (by decide) Z (.guarded Z Z (by decide) Z zB (λ hg=>qR Z V yl))
    (rc Z Z (qe Z T T)
    .nil)))))))))))))))))
    (pT [0,3,7,26]) (λ _ _ _ st5=>?_)
   refine za ?_;refine zT (c:=26) st5 Z (λ h2=>?_) λ h2=>?_
   .have ht:=h2;refine Kc ?_;refine zp st5 [0,2,3,7,26] (λ _ _ _ st6=>?_);refine za ?_;refine wp_ret (wz (zS (zS (wz (zS ?_)))));refine yx Z st6 (t:=2) Z ?_;exact(TN hx ht).symm
   .have hf:=h2;refine az ?_;refine yI ?_;refine za ?_;refine zr st5 (sp 1 (r:=by exact sc Z (Zw Z T yl (by simp only[gY];omega))<|gv)) [0,3,7,26] (λ _ _ _ st7=>?_);refine za ⟨k+1,⟨st7.pick (pT [0,3]),by omega,R2 hx hp hf⟩,by omega⟩
  .have hend:=mZ h1;refine ch (yv (yv (xX ?_)));refine za ?_;refine Kc ?_;refine zp st4 [0,2,3,7] (λ _ _ _ st8=>?_);refine za ?_;refine wp_ret ?_;refine yx Z st8 (t:=2) Z ?_;exact(TO hend hk hp).symm
theorem UB(t:Tree)(ht:ja t):Fn Tryz.prog 145 [dt t] (dt (yh t)):=by
 refine xg (fn:=Tryz.f145) Tryz.func145 Z (λ M w0 _ hm fK=>?_);have hlen:=ht.1;refine Kc ?_;refine zr fK (sc Z (JT Z T)<|gv) [0,1,2] (λ _ _ _ st1=>?_);refine za ?_;refine Kc ?_;refine Kc ?_;refine zp st1 [0,1,2,3] (λ _ _ _ st2=>?_);refine za ?_;refine aX ?_;refine Y0 (ι:=Nat) (λ k a w=>St (eG.of w0) 33 M [(0,dt t),(1,eX t),(3,dt (k:Int))] a w/\k<=t.files.length/\Qy t.files k=true) (λ k=>t.files.length - k) 0 ?_ ?_
 .exact⟨st2.pick (pT [0,1,3]),aq _,Z⟩
 .rintro k a3 w3 ⟨st3,hk,hp⟩
  refine Kc ?_;refine Kc ?_;refine zp st3 [0,1,3,8] (λ _ _ _ st4=>?_);refine za ?_;refine zT (c:=8) st4 Z (λ h1=>?_) λ h1=>?_
  .obtain⟨x,hx⟩:=Q9 h1;have hlt:=zJ hx;refine az ?_;refine za ?_;refine Kc ?_;refine aX ?_;refine Kc ?_;refine C3 zP [[],[0],[],[0,1,2],[0,1,2,3],[0,1,2,3,4],[0,1,2,3,4,5],[0,1,2,3,4,5,6],[0,1,2,3,4,5,6,7],[0,1,2,3,4,5,6,7],[0,1,2,3,4,5,6,7,9],[0,1,2,3,4,5,6,7],[0,1,2,3,4,5,6,7,9,10,11],[0,1,2,3,4,5,6,7,9,10,11,12],[0,1,2,3,4,5,6,7,8,9,10,11,12,13],[0,1,2,3,4,5,6,7],[0,1,2,3,4,5,6,7,8,9,10,11,12,13,14,15],[0,1,2,3,4,5,6,7,8,9,10,11,12,13,14,15,16]] [[(1,nS)],[(11,0)],[(3,nS)],[(12,1),(13,2)],[(14,3)],[(15,4)],[(16,5)],[(17,6)],[(1,nS),(18,7)],[(1,nS),(18,7)],[(20,9),(18,7)],[(3,nS),(18,7)],[(21,10),(22,11),(18,7)],[(23,12),(18,7)],[(19,8),(24,13),(18,7)],[(3,nS),(18,7)],[(25,14),(26,15),(18,7)],[(18,7),(27,16)]] st4 (D:=[_,_,_,_,_,_,_,_,_,_,_,_,_,_,_,_,_,_])
    (rc Z Z (zI Tree.gD Z T)
    (rc Z Z (zG Z T)
    (rc Z Z (zF Z T)
    (rc Z Z (wO Z T T Z (by assumption))
    (rc Z Z (zG Z T)
    (rc Z Z (zy (l:=[.tmp 15]) Z (.cons T .nil) (Uz _ (ht.2 _ (ae hx))))
    (rc Z Z (ZQ Z T)
    (rc Z Z (zF Z T)
    (.cons Z (by decide) Z (.guarded Z Z (by decide) Z zB (λ hg=>zG Z T))
    (.cons Z (by decide) Z (.guarded Z Z (by decide) Z zB (λ hg=>zI Tree.gD Z T))
    (.cons Z (by decide) Z (.guarded Z Z (by decide) Z zB (λ hg=>zG Z V))
    (.cons Z (by decide) Z (.guarded Z Z (by decide) Z zB (λ hg=>zF Z T))
    (.cons Z (by decide) Z (.guarded Z Z (by decide) Z zB (λ hg=>wO Z V V Z (by assumption)))
    (.cons Z (by decide) Z (.guarded Z Z (by decide) Z zB (λ hg=>zG Z V))
    (.cons Z (by decide) Z (.guarded Z Z (by decide) Z zB (λ hg=>zy (l:=[.tmp 19,.tmp 24]) Z (.cons V (.cons V .nil)) (HM _ _)))
    (.cons Z (by decide) Z (.guarded Z Z (by decide) Z zB (λ hg=>zF Z T))
    (.cons Z (by decide) Z (.guarded Z Z (by decide) Z zB (λ hg=>qR Z V V))
    (rc Z Z (qe Z T T)
    .nil))))))))))))))))))
    (pT [0,1,3,8,28]) (λ _ _ _ st5=>?_)
   refine za ?_;refine zT (c:=28) st5 Z (λ h2=>?_) λ h2=>?_
   .have hq:=h2;refine Kc ?_;refine zp st5 [0,1,2,3,8,28] (λ _ _ _ st6=>?_);refine za ?_;refine wp_ret (wz (zS (zS (wz (zS ?_)))));refine yx Z st6 (t:=2) Z ?_;exact(TS hx hq).symm
   .have hf:=h2;refine az ?_;refine yI ?_;refine za ?_;refine zr st5 (sp 1 (r:=by exact sc Z (Zw Z T yl (by simp only[gY];omega))<|gv)) [0,1,3,8,28] (λ _ _ _ st7=>?_);refine za ⟨k+1,⟨st7.pick (pT [0,1,3]),by omega,TA hx hp hf⟩,by omega⟩
  .have hend:=mZ h1;refine ch (yv (yv (xX ?_)));refine za ?_;refine Kc ?_;refine zp st4 [0,1,2,3,8] (λ _ _ _ st8=>?_);refine za ?_;refine wp_ret ?_;refine yx Z st8 (t:=2) Z ?_;exact(TT hend hk hp)
theorem UE(xs:List Str)(s:Str)(hx:xs.length<=8796093022200):pL Tryz.prog 250 9 (xs) [dt s] (qa xs s):=by
 refine J' (fn:=Tryz.f250) Tryz.func250 Z (oD Z) (λ M g w0 _ htip hm fK=>?_);refine Kc ?_;refine zr fK (sc Z (xw Z (wg (α:=Str)))
  .nil) [0,1,4] (λ _ _ _ st1=>?_)
 refine za ?_;refine Kc ?_;refine Kc ?_;refine zr st1 (sp 2 (r:=by exact sc Z (yC (M0:=M) (l:=[.tmp 7,.tmp 8]) (λ _ h=>.inl h) Z (.cons (RU (λ _ h=>.inl h) htip T) (.cons (yG (λ _ h=>.inl h) T) .nil)) (Vw _ _) jh)<|.nil)) [0,1,4,9] (λ _ _ _ st2=>?_);refine za ?_;refine zT (c:=9) st2 Z (λ h1=>?_) λ h1=>?_
 .have hin:=h1;refine Kc ?_;refine zp st2 [0,1,4,9] (λ _ _ _ st3=>?_);refine za ?_;refine wp_ret (zS ?_);refine GJ Z Z htip (λ _ h=>h) st3 (t:=4) Z ?_;rw[qa,Ke hin]
 .have hin:=h1;refine az ?_;refine za ?_;refine Kc ?_;refine zr st2 (sp 1 (r:=by exact sc Z (rH Z T)<|gv)) [0,1,4,5,9] (λ _ _ _ st4=>?_);refine za ?_;refine Kc ?_;refine aX ?_;refine Y0 (ι:=Nat) (λ k a w=>St (eG.take w0 g) 39 (gp g M) [(0,eQ g 9 (xs)),(1,dt s),(5,dt (k:Int))] a w/\k<=xs.length/\qH xs s k=qH xs s xs.length) (λ k=>k) xs.length ?_ ?_
  .exact⟨st4.pick (pT [0,1,5]),al _,Z⟩
  .rintro k a5 w5 ⟨st5,hk,hp⟩
   obtain⟨y,hy⟩:=Ov hk;refine Kc ?_;refine Kc ?_;refine zr st5 (sc Z (zF Z T)
    (sc Z (qR Z T yl)
    (sc Z (zF Z T)
    (sg Z Z (λ hg=>zF Z T)
    (sg Z Z (λ hg=>zF Z T)
    (sg Z Z (λ hg=>Zw Z V yl (by simp only[gY];omega))
    (sg Z Z (λ hg=>IT Z (by kernel_rfl) V V (k:=k - 1) (by have:=Fi hg;simp only[gY];omega) (hy (Fi hg)))
    (sg Z Z (λ hg=>yV Z V)
    (sg Z Z (λ hg=>zF Z T)
    (sg Z Z (λ hg=>RG Z V V)
    (sc Z (xd Z T T)
    .nil))))))))))) [0,1,5,23] (λ _ _ _ st6=>?_)
   refine za ?_;refine zT (c:=23) st6 Z (λ h2=>?_) λ h2=>?_
   .have htk:=h2;refine az ?_;refine za ?_;refine aX ?_;refine zr st6 (sp 1 (r:=by exact sc Z (Zw Z T yl (by simp only[gY];omega))<|gv)) [0,1,5,23] (λ _ _ _ st7=>?_);refine yI ?_;refine za ⟨k - 1,⟨?_,by omega,(Ox hy htk).trans hp⟩,by have:=Bq htk;omega⟩;rw[show((k - 1:Nat):Int)=gY .sub k 1 from by have:=Bq htk;simp only[gY];omega];exact st7.pick (pT [0,1,5])
   .have hend:=h2;refine ch (yv (yv (xX ?_)));refine za ?_;refine Kc ?_;refine Ka ?_;refine mr 4 st6.Ax (sc Z (xj (α:=Str) (e:=9) Z) (sc Z (zF Z T) (sc Z (zF Z T) (sc Z (RT Z T T Z (by assumption)) .nil)))) (pT [0,1,5,26,29]) (λ _ _ _ a8=>?_);refine W9 (bytes:=16) a8 Z Z Z Z Z Sm (by simp;omega) (by simp;omega) (.cons (s:=0) Z Rz (.cons (s:=1) Z (λ _ _ h=>h) (.cons (s:=5) Z (λ _ _ h=>h) .nil))) kS.none_ (λ d1 _ _ hg51 a9=>?_);refine mr 1 a9 (sc Z (xw Z T) .nil) (pT [0,1,5,6]) (λ _ _ _ b3=>?_);refine Kb ?_;refine za ?_;refine Kc ?_;have b5:=b3.congr (Te (g:=g) (g2:=d1) (M:=M));refine Ka ?_;refine mr 5 b5 (sc Z (zF Z T) (sc Z (zF Z T) (sc Z (RS Z T T Z (by assumption)) (sc Z (zF Z T) (sc Z (wa (opds:=[.tmp 34]) Z Z Z (.cons T .nil)) .nil))))) (pT [1,6,33,35]) (λ _ _ _ b6=>?_);refine W9 (bytes:=16) b6 Z Z Z Z Z yW (by simp;omega) (by simp;omega) (.cons (s:=1) Z (λ _ _ h=>h) (.cons (s:=6) Z (RW hg51) .nil)) (htip.apart hg51) (λ d2 _ _ hg55 b7=>?_);refine mr 1 b7 (sc Z (zF Z T) .nil) (pT [36,37]) (λ _ _ _ b8=>?_);refine W9 (bytes:=16) b8 Z Z Z Z Z GS (by simp;omega) (by simp;omega) .nil hg55 (λ d3 _ _ hg57 b9=>?_);refine mr 1 b9 (sc Z (xw Z T) .nil) (pT [4]) (λ _ _ _ c8=>?_);refine Kb ?_;refine za ?_;refine wp_ret ?_;refine GJ Z Z hg57 (λ _ h=>h.imp .inl id) c8 (t:=4) Z ?_;rw[qa,Kf (by rw[hin];decide),<-hp,Oy hy hend];simp
