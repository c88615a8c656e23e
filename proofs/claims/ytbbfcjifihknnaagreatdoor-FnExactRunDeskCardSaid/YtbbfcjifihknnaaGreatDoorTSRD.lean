/-
  laws.
-/
import Derived.Test.YtbbfcjifihknnaaGreatDoorTSaRD
import Derived.Test.YtbbfcjifihknnaaGreatDoorTSbRD
import Derived.Test.YtbbfcjifihknnaaGreatDoorTB
import Derived.Test.YtbbfcjifihknnaaGreatDoorTLRD
import Derived.Test.YtbbfcjifihknnaaGreatDoorCards
import Derived.Test.YtbbfcjifihknnaaGreatDoorTie
import Derived.ProofKit
import Derived.LaidMore
import Derived.Lay
import Derived.OpenShut
import Derived.Stop.Joined
import Derived.SevenTiedAt
import Derived.OpenVars
namespace Go.Proofs.YtbbfcjifihknnaaGreatDoor
open Go.ChangeShapes Go.WideShapes Go.ChangeAt Go.RowKit
theorem ownRowRD:ownKnob Tryz.prog.godebug=none:=by kernel_rfl
theorem zcH:laidOutB Tryz.prog=true:=jf1RowRD
theorem oT9:Opn Tryz.prog 9 (Str):=Opn.str Tryz.underlying9 (by kernel_rfl)
theorem oT3:Opn Tryz.prog 3 (Int):=Opn.int Tryz.underlying3 (by kernel_rfl)
theorem oT25:Opn Tryz.prog 25 (List Int):=Opn.slice Tryz.underlying25 (by kernel_rfl) oT3
theorem oT64:Opn Tryz.prog 64 (List Str):=Opn.slice Tryz.underlying64 (by kernel_rfl) oT9
theorem Xv{H:Type}{enc:TypeId×Value->H}{P:Program}{w:World}{b:Nat}{sp:Nat->Bool}{hd:Bool}{t:TypeId}{ts:List TypeId}{vs:List Value}{ds:List (DataW H)}{ps:List MemPlace}(h:DataW.TrodAll enc P w b sp hd (t::ts) vs ds ps):
  ∃ v vs' d ds' p q,vs=v::vs'/\ds=d::ds'/\ps=p++q/\DataW.Trod enc P w b sp hd t v d p/\DataW.TrodAll enc P w b sp hd ts vs' ds' q:=by
 cases vs with
 | nil=>exact h.elim
 |
  cons v vs=>
  cases ds with
  | nil=>exact h.elim
  |
   cons d ds=>
   obtain⟨p,q,h1,h2,h3⟩:=h
   exact⟨v,vs,d,ds,p,q,rfl,rfl,h3,h1,h2⟩
theorem zdi{H:Type}{enc:TypeId×Value->H}{P:Program}{w:World}{b:Nat}{sp:Nat->Bool}{hd:Bool}{vs:List Value}{ds:List (DataW H)}{ps:List MemPlace}(h:DataW.TrodAll enc P w b sp hd [] vs ds ps):vs=[]/\ds=[]/\ps=[]:=by
 cases vs with
 |
  nil=>
  cases ds with
  | nil=>exact⟨rfl,rfl,h⟩
  | cons d ds=>exact h.elim
 | cons v vs=>exact h.elim
set_option maxRecDepth 100000 in
theorem liftedRowRD(os:Os)(started:os.Started)(H:Type)(enc:TypeId×Value->H):
  ReturnsInHanded {} Tryz.checked os 6 .any (λ w args=>(Rows.fnExactRunDeskSpec.pre enc Tryz.prog Tryz.f6 [] false w args/\laidMetH Tryz.prog Rows.fnExactRunDeskRow.laid w)/\sizedMet enc Tryz.prog Tryz.f6 (OpenSpec.ofChange Rows.fnExactRunDeskSpec) false w args)
   (Rows.fnExactRunDeskSpec.post enc Tryz.prog Tryz.f6 false true false false):=by
 refine returnsInHanded_of_change_and (C:=Tryz.checked) (X:=λ w _=>laidMetH Tryz.prog Rows.fnExactRunDeskRow.laid w) (λ _ _ _ hh h=>h.of_heap hh) ownRowRD started (by kernel_rfl) Tryz.func6
  (ChangeSpec.witness_shaped (enc:=enc) (C:=Tryz.checked) (os:=os) (X:=λ w _=>laidMetH Tryz.prog Rows.fnExactRunDeskRow.laid w) false (World.laidAll Tryz.prog os Rows.fnExactRunDeskRow.laid) #[.string ⟨#[]⟩,.slice none 0 0,.slice none 0 0] 8 (World.laidAll_os _ _ _) (World.shaped_of_ZipB (by kernel_rfl) (by kernel_rfl)) (by kernel_rfl) (by kernel_rfl) (by kernel_rfl)
   (by rw[MakeChecks.laidMetH_plain _ _ _ (by kernel_rfl)];exact laidMet_laidAll _ (by kernel_rfl) (by kernel_rfl))) ?_
 intro W base args ds gs before hval0 hW _ _ hX2 _
 have hval:∀ (j:Nat) t v,Tryz.f6.params[j]?=some t->args[j]?=some v->Value.okWide Tryz.prog W .any base t v:=hval0
 have hW':=hW
 obtain⟨p,q,hA0,hV,rfl,hfz,hnd⟩:=hW
 have hA:DataW.TrodAll enc Tryz.prog W 0 (λ _=>true) true Tryz.f6.params.toList args.toList ds p:=hA0
 rw[Tryz.params6] at hA hval
 obtain⟨args⟩:=args
 have hA1:DataW.TrodAll enc Tryz.prog W 0 (λ _=>true) true [9,25,64] args ds p:=hA
 clear hA hA0
 obtain⟨v0,vs0,d0,ds0,p0,q0,rfl,rfl,rfl,h0,k0⟩:=Xv hA1
 obtain⟨v1,vs1,d1,ds1,p1,q1,rfl,rfl,rfl,h1,k1⟩:=Xv k0
 obtain⟨v2,vs2,d2,ds2,p2,q2,rfl,rfl,rfl,h2,k2⟩:=Xv k1
 obtain⟨rfl,rfl,rfl⟩:=zdi k2
 have hV2:=hV
 obtain⟨_,_,_,_,e0,_,_,_,_,_,e1,_,rfl,_⟩:=trodVars_two hV
 obtain⟨a0,r0⟩:=oT9.rd h0 (mkv_string Tryz.underlying9 (hval 0 9 v0 rfl rfl))
 obtain⟨a1,r1⟩:=oT25.rd h1 (mkv_slice Tryz.underlying25 (hval 1 25 v1 rfl rfl))
 obtain⟨a2,r2⟩:=oT64.rd h2 (mkv_slice Tryz.underlying64 (hval 2 64 v2 rfl rfl))
 have hlt:∀ x∈p0++(p1++(p2++[])),x.block<W.heap.size:=λ x hx=>by
  have:=hW'.lt x (by
   simp only[List.mem_append,List.not_mem_nil,or_false] at hx ⊢
   rcases hx with h | h | h <;> simp[h])
  simpa using this
 refine((zaN a0 a1 a2) noB W [v0,v1,v2] (λ _ h=>h.elim) (.cons ⟨r0,gok_of hX2⟩ (.cons r1 (.cons r2 (.nil))))).mono λ e W' ⟨v,he,hx,hv⟩=>?_
 subst he
 obtain rfl:=xo.1 hv
 have stay:∀ {t:TypeId} {v:Value} {d:DataW H} {ps:List MemPlace},Tryz.prog.readableRec t=true->t<Tryz.prog.types.size->DataW.Trod enc Tryz.prog W 0 (λ _=>true) true t v d ps->(∀ x∈ps,x.block<W.heap.size)->DataW.Trod enc Tryz.prog W' 0 (λ b=>decide (b<W.heap.size)) true t v d ps:=
  λ hr ht h hl=>Below.trod zcH hr ht h hx hl
 refine⟨_,rfl,_,_,_,[],(p0++(p1++(p2++[]))),_,hW',trodAll_mk1 (shut_bool Tryz.underlying4 _),?_,Below.trodVars zcH hx (by kernel_rfl) hV2,hx.frame _,λ h=>by cases h⟩
 show DataW.TrodAll enc Tryz.prog W' 0 (λ b=>decide (b<W.heap.size)) true Tryz.f6.params.toList [v0,v1,v2] [d0,d1,d2] _
 rw[Tryz.params6]
 exact⟨p0,_,stay (by kernel_rfl) (of_decide_eq_true (by kernel_rfl)) h0 (λ x hx=>hlt x (List.mem_append_left _ hx)),⟨p1,_,stay (by kernel_rfl) (of_decide_eq_true (by kernel_rfl)) h1 (λ x hx=>hlt x (List.mem_append_right _ (List.mem_append_left _ hx))),⟨p2,_,stay (by kernel_rfl) (of_decide_eq_true (by kernel_rfl)) h2 (λ x hx=>hlt x (List.mem_append_right _ (List.mem_append_right _ (List.mem_append_left _ hx)))),rfl,rfl⟩,rfl⟩,rfl⟩
theorem yi{a b:Bool}(h:a=true)(k:b=true):(a&&b)=true:=by rw[h,k];rfl
theorem jfRowRD:joinedFacts Tryz.prog 6 Tryz.f6 Rows.fnExactRunDeskSpec Rows.fnExactRunDeskRow=true:=by
 unfold joinedFacts
 refine(yi (yi (yi (yi (yi (yi (yi (yi (yi (yi (yi (yi (yi (yi (yi (yi (yi (yi (yi (yi (yi (yi (yi (yi (yi (yi (yi (yi (yi (yi (yi jf0RowRD jf1RowRD) jf2RowRD) jf3RowRD) jf4RowRD) jf5RowRD) jf6RowRD) jf7RowRD) jf8RowRD) jf9RowRD) jf10RowRD) jf11RowRD) jf12RowRD) jf13RowRD) jf14RowRD) jf15RowRD) jf16RowRD) jf17RowRD) jf18RowRD) jf19RowRD) jf20RowRD) jf21RowRD) jf22RowRD) jf23RowRD) jf24RowRD) jf25RowRD) jf26RowRD) jf27RowRD) ?_) jf29RowRD) jf30RowRD) jf31RowRD)
 kernel_rfl
theorem Jx:Rows.FnExactRunDeskSaid:=
 OpenClaim.holds_of_wide 6 Tryz.f6 rfl rfl rfl rfl rfl rfl rfl ⟨rfl,rfl,rfl,rfl,rfl⟩ rfl rfl rfl rfl rfl (by kernel_rfl) Tryz.func6 jfRowRD
  (of_decide_eq_true (by kernel_rfl)) (by unfold Func.isWrapper;first | (rw[if_pos (by decide +kernel)];kernel_rfl) | (rw[if_neg (by decide +kernel)];exact⟨rfl,rfl⟩))
  (λ os started H enc _=>liftedRowRD os started H enc)
end Go.Proofs.YtbbfcjifihknnaaGreatDoor
