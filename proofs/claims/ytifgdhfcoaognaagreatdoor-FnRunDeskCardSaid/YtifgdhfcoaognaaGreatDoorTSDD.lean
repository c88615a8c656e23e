/-
  laws.
-/
import Derived.Test.YtifgdhfcoaognaaGreatDoorTSaDD
import Derived.Test.YtifgdhfcoaognaaGreatDoorTSbDD
import Derived.Test.YtifgdhfcoaognaaGreatDoorTB
import Derived.Test.YtifgdhfcoaognaaGreatDoorTLDD
import Derived.Test.YtifgdhfcoaognaaGreatDoorCards
import Derived.Test.YtifgdhfcoaognaaGreatDoorTie
import Derived.ProofKit
import Derived.LaidMore
import Derived.Lay
import Derived.OpenShut
import Derived.Stop.Joined
import Derived.SevenTiedAt
import Derived.OpenVars
namespace Go.Proofs.YtifgdhfcoaognaaGreatDoor
open Go.ChangeShapes Go.WideShapes Go.ChangeAt Go.RowKit
theorem ownRowDD:ownKnob Tryz.prog.godebug=none:=by kernel_rfl
theorem zcO:laidOutB Tryz.prog=true:=jf1RowDD
theorem oT5:Opn Tryz.prog 5 (UInt8):=Opn.u8 Tryz.underlying5 (by kernel_rfl)
theorem oT22:Opn Tryz.prog 22 (List UInt8):=Opn.slice Tryz.underlying22 (by kernel_rfl) oT5
theorem zcP{H:Type}{enc:TypeId×Value->H}{P:Program}{w:World}{b:Nat}{sp:Nat->Bool}{hd:Bool}{t:TypeId}{ts:List TypeId}{vs:List Value}{ds:List (DataW H)}{ps:List MemPlace}(h:DataW.TrodAll enc P w b sp hd (t::ts) vs ds ps):
  ∃ v vs' d ds' p q,vs=v::vs'/\ds=d::ds'/\ps=p++q/\DataW.Trod enc P w b sp hd t v d p/\DataW.TrodAll enc P w b sp hd ts vs' ds' q:=by
 cases vs with
 | nil=>exact h.elim
 |
  cons v vs=>
  cases ds with
  | nil=>exact h.elim
  |
   cons d ds=>
   obtain⟨p,q,h1,h2,h3⟩:=h
   exact⟨v,vs,d,ds,p,q,rfl,rfl,h3,h1,h2⟩
theorem zdw{H:Type}{enc:TypeId×Value->H}{P:Program}{w:World}{b:Nat}{sp:Nat->Bool}{hd:Bool}{vs:List Value}{ds:List (DataW H)}{ps:List MemPlace}(h:DataW.TrodAll enc P w b sp hd [] vs ds ps):vs=[]/\ds=[]/\ps=[]:=by
 cases vs with
 |
  nil=>
  cases ds with
  | nil=>exact⟨rfl,rfl,h⟩
  | cons d ds=>exact h.elim
 | cons v vs=>exact h.elim
set_option maxRecDepth 100000 in
theorem liftedRowDD(os:Os)(started:os.Started)(H:Type)(enc:TypeId×Value->H):
  ReturnsInHanded {} Tryz.checked os 3 .any (λ w args=>(Rows.fnRunDeskSpec.pre enc Tryz.prog Tryz.f3 [] false w args/\laidMetH Tryz.prog Rows.fnRunDeskRow.laid w)/\sizedMet enc Tryz.prog Tryz.f3 (OpenSpec.ofChange Rows.fnRunDeskSpec) false w args)
   (Rows.fnRunDeskSpec.post enc Tryz.prog Tryz.f3 false true false false):=by
 refine returnsInHanded_of_change_and (C:=Tryz.checked) (X:=λ w _=>laidMetH Tryz.prog Rows.fnRunDeskRow.laid w) (λ _ _ _ hh h=>h.of_heap hh) ownRowDD started (by kernel_rfl) Tryz.func3
  (ChangeSpec.witness_shaped (enc:=enc) (C:=Tryz.checked) (os:=os) (X:=λ w _=>laidMetH Tryz.prog Rows.fnRunDeskRow.laid w) false (World.laidAll Tryz.prog os Rows.fnRunDeskRow.laid) #[.slice none 0 0] 8 (World.laidAll_os _ _ _) (World.shaped_of_ZipB (by kernel_rfl) (by kernel_rfl)) (by kernel_rfl) (by kernel_rfl) (by kernel_rfl)
   (by rw[MakeChecks.laidMetH_plain _ _ _ (by kernel_rfl)];exact laidMet_laidAll _ (by kernel_rfl) (by kernel_rfl))) ?_
 intro W base args ds gs before hval0 hW _ _ hX2 _
 have hval:∀ (j:Nat) t v,Tryz.f3.params[j]?=some t->args[j]?=some v->Value.okWide Tryz.prog W .any base t v:=hval0
 have hW':=hW
 obtain⟨p,q,hA0,hV,rfl,hfz,hnd⟩:=hW
 have hA:DataW.TrodAll enc Tryz.prog W 0 (λ _=>true) true Tryz.f3.params.toList args.toList ds p:=hA0
 rw[Tryz.params3] at hA hval
 obtain⟨args⟩:=args
 have hA1:DataW.TrodAll enc Tryz.prog W 0 (λ _=>true) true [22] args ds p:=hA
 clear hA hA0
 obtain⟨v0,vs0,d0,ds0,p0,q0,rfl,rfl,rfl,h0,k0⟩:=zcP hA1
 obtain⟨rfl,rfl,rfl⟩:=zdw k0
 have hV2:=hV
 obtain⟨_,_,_,_,e0,_,_,_,_,_,e1,_,rfl,_⟩:=trodVars_two hV
 obtain⟨a0,r0⟩:=oT22.rd h0 (mkv_slice Tryz.underlying22 (hval 0 22 v0 rfl rfl))
 have hlt:∀ x∈p0++[],x.block<W.heap.size:=λ x hx=>by
  have:=hW'.lt x (by
   simp only[List.mem_append,List.not_mem_nil,or_false] at hx ⊢
   simp[hx])
  simpa using this
 refine((zeM a0) noB W [v0] (λ _ h=>h.elim) (.cons ⟨r0,gok_of hX2⟩ (.nil))).mono λ e W' ⟨v,he,hx,hv⟩=>?_
 subst he
 obtain rfl:=xz.1 hv
 have stay:∀ {t:TypeId} {v:Value} {d:DataW H} {ps:List MemPlace},Tryz.prog.readableRec t=true->t<Tryz.prog.types.size->DataW.Trod enc Tryz.prog W 0 (λ _=>true) true t v d ps->(∀ x∈ps,x.block<W.heap.size)->DataW.Trod enc Tryz.prog W' 0 (λ b=>decide (b<W.heap.size)) true t v d ps:=
  λ hr ht h hl=>Below.trod zcO hr ht h hx hl
 refine⟨_,rfl,_,_,_,[],(p0++[]),_,hW',trodAll_mk1 (shut_bool Tryz.underlying4 _),?_,Below.trodVars zcO hx (by kernel_rfl) hV2,hx.frame _,λ h=>by cases h⟩
 show DataW.TrodAll enc Tryz.prog W' 0 (λ b=>decide (b<W.heap.size)) true Tryz.f3.params.toList [v0] [d0] _
 rw[Tryz.params3]
 exact⟨p0,_,stay (by kernel_rfl) (of_decide_eq_true (by kernel_rfl)) h0 (λ x hx=>hlt x (List.mem_append_left _ hx)),rfl,rfl⟩
theorem yi{a b:Bool}(h:a=true)(k:b=true):(a&&b)=true:=by rw[h,k];rfl
theorem jfRowDD:joinedFacts Tryz.prog 3 Tryz.f3 Rows.fnRunDeskSpec Rows.fnRunDeskRow=true:=by
 unfold joinedFacts
 refine(yi (yi (yi (yi (yi (yi (yi (yi (yi (yi (yi (yi (yi (yi (yi (yi (yi (yi (yi (yi (yi (yi (yi (yi (yi (yi (yi (yi (yi (yi (yi jf0RowDD jf1RowDD) jf2RowDD) jf3RowDD) jf4RowDD) jf5RowDD) jf6RowDD) jf7RowDD) jf8RowDD) jf9RowDD) jf10RowDD) jf11RowDD) jf12RowDD) jf13RowDD) jf14RowDD) jf15RowDD) jf16RowDD) jf17RowDD) jf18RowDD) jf19RowDD) jf20RowDD) jf21RowDD) jf22RowDD) jf23RowDD) jf24RowDD) jf25RowDD) jf26RowDD) jf27RowDD) ?_) jf29RowDD) jf30RowDD) jf31RowDD)
 kernel_rfl
theorem zaV:Rows.FnRunDeskSaid:=
 OpenClaim.holds_of_wide 3 Tryz.f3 rfl rfl rfl rfl rfl rfl rfl ⟨rfl,rfl,rfl,rfl,rfl⟩ rfl rfl rfl rfl rfl (by kernel_rfl) Tryz.func3 jfRowDD
  (of_decide_eq_true (by kernel_rfl)) (by unfold Func.isWrapper;first | (rw[if_pos (by decide +kernel)];kernel_rfl) | (rw[if_neg (by decide +kernel)];exact⟨rfl,rfl⟩))
  (λ os started H enc _=>liftedRowDD os started H enc)
end Go.Proofs.YtifgdhfcoaognaaGreatDoor
