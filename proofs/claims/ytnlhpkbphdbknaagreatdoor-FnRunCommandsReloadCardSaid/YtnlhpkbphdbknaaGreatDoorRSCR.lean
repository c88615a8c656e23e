/-
  laws.
-/
import Derived.Test.YtnlhpkbphdbknaaGreatDoorRSaCR
import Derived.Test.YtnlhpkbphdbknaaGreatDoorRSbCR
import Derived.Test.YtnlhpkbphdbknaaGreatDoorRB
import Derived.Test.YtnlhpkbphdbknaaGreatDoorRLCR
import Derived.Test.YtnlhpkbphdbknaaGreatDoorCards
import Derived.Test.YtnlhpkbphdbknaaGreatDoorTie
import Derived.ProofKit
import Derived.LaidMore
import Derived.Lay
import Derived.OpenShut
import Derived.Stop.Joined
import Derived.SevenTiedAt
namespace Go.Proofs.YtnlhpkbphdbknaaGreatDoor
open Go.ChangeShapes Go.WideShapes Go.ChangeAt Go.RowKit
theorem ownRowCR:ownKnob Tryz.prog.godebug=none:=by kernel_rfl
theorem laidOutRowCR:laidOutB Tryz.prog=true:=jf1RowCR
theorem oT5:Opn Tryz.prog 5 (UInt8):=Opn.u8 Tryz.underlying5 (by kernel_rfl)
theorem oT22:Opn Tryz.prog 22 (List UInt8):=Opn.slice Tryz.underlying22 (by kernel_rfl) oT5
theorem Q6{H:Type}{enc:TypeId×Value->H}{P:Program}{w:World}{b:Nat}{sp:Nat->Bool}{hd:Bool}{t:TypeId}{ts:List TypeId}{vs:List Value}{ds:List (DataW H)}{ps:List MemPlace}(h:DataW.TrodAll enc P w b sp hd (t::ts) vs ds ps):
  ∃ v vs' d ds' p q,vs=v::vs'/\ds=d::ds'/\ps=p++q/\DataW.Trod enc P w b sp hd t v d p/\DataW.TrodAll enc P w b sp hd ts vs' ds' q:=by
 cases vs with
 | nil=>exact h.elim
 |
  cons v vs=>
  cases ds with
  | nil=>exact h.elim
  |
   cons d ds=>
   obtain⟨p,q,h1,h2,h3⟩:=h
   exact⟨v,vs,d,ds,p,q,rfl,rfl,h3,h1,h2⟩
theorem zaH{H:Type}{enc:TypeId×Value->H}{P:Program}{w:World}{b:Nat}{sp:Nat->Bool}{hd:Bool}{vs:List Value}{ds:List (DataW H)}{ps:List MemPlace}(h:DataW.TrodAll enc P w b sp hd [] vs ds ps):vs=[]/\ds=[]/\ps=[]:=by
 cases vs with
 |
  nil=>
  cases ds with
  | nil=>exact⟨rfl,rfl,h⟩
  | cons d ds=>exact h.elim
 | cons v vs=>exact h.elim
set_option maxRecDepth 100000 in
theorem liftedRowCR(os:Os)(started:os.Started)(H:Type)(enc:TypeId×Value->H):
  ReturnsInHanded {} Tryz.checked os 8 .any (λ w args=>(Rows.fnRunCommandsReloadSpec.pre enc Tryz.prog Tryz.f8 [] false w args/\laidMetH Tryz.prog Rows.fnRunCommandsReloadRow.laid w)/\sizedMet enc Tryz.prog Tryz.f8 (OpenSpec.ofChange Rows.fnRunCommandsReloadSpec) false w args)
   (Rows.fnRunCommandsReloadSpec.post enc Tryz.prog Tryz.f8 false true false false):=by
 refine returnsInHanded_of_change_and (C:=Tryz.checked) (X:=λ w _=>laidMetH Tryz.prog Rows.fnRunCommandsReloadRow.laid w) (λ _ _ _ hh h=>h.of_heap hh) ownRowCR started (by kernel_rfl) Tryz.func8
  (ChangeSpec.witness_shaped (enc:=enc) (C:=Tryz.checked) (os:=os) (X:=λ w _=>laidMetH Tryz.prog Rows.fnRunCommandsReloadRow.laid w) false (World.laidAll Tryz.prog os Rows.fnRunCommandsReloadRow.laid) #[.slice none 0 0] 8 (World.laidAll_os _ _ _) (World.shaped_of_ZipB (by kernel_rfl) (by kernel_rfl)) (by kernel_rfl) (by kernel_rfl) (by kernel_rfl)
   (by rw[MakeChecks.laidMetH_plain _ _ _ (by kernel_rfl)];exact laidMet_laidAll _ (by kernel_rfl) (by kernel_rfl))) ?_
 intro W base args ds gs before hval0 hW _ _ _ _
 have hval:∀ (j:Nat) t v,Tryz.f8.params[j]?=some t->args[j]?=some v->Value.okWide Tryz.prog W .any base t v:=hval0
 have hW':=hW
 obtain⟨p,q,hA0,hV,rfl,hfz,hnd⟩:=hW
 have hA:DataW.TrodAll enc Tryz.prog W 0 (λ _=>true) true Tryz.f8.params.toList args.toList ds p:=hA0
 rw[Tryz.params8] at hA hval
 obtain⟨args⟩:=args
 have hA1:DataW.TrodAll enc Tryz.prog W 0 (λ _=>true) true [22] args ds p:=hA
 clear hA hA0
 obtain⟨v0,vs0,d0,ds0,p0,q0,rfl,rfl,rfl,h0,k0⟩:=Q6 hA1
 obtain⟨rfl,rfl,rfl⟩:=zaH k0
 obtain⟨rfl,rfl⟩:=trodVars_none hV
 obtain⟨a0,r0⟩:=oT22.rd h0 (zae Tryz.underlying22 (hval 0 22 v0 rfl rfl))
 have hlt:∀ x∈p0++[],x.block<W.heap.size:=λ x hx=>by
  have:=hW'.lt x (by simpa using hx)
  simpa using this
 refine((XX a0) noB W [v0] (λ _ h=>h.elim) (.cons r0 (.nil))).mono λ e W' ⟨v,he,hx,hv⟩=>?_
 subst he
 obtain rfl:=y7.1 hv
 have stay:∀ {t:TypeId} {v:Value} {d:DataW H} {ps:List MemPlace},Tryz.prog.readableRec t=true->t<Tryz.prog.types.size->DataW.Trod enc Tryz.prog W 0 (λ _=>true) true t v d ps->(∀ x∈ps,x.block<W.heap.size)->DataW.Trod enc Tryz.prog W' 0 (λ b=>decide (b<W.heap.size)) true t v d ps:=
  λ hr ht h hl=>Below.trod laidOutRowCR hr ht h hx hl
 refine⟨_,rfl,_,_,_,[],(p0++[]),[],hW',trodAll_mk1 (shut_bool Tryz.underlying4 _),?_,rfl,hx.frame _,λ h=>by cases h⟩
 show DataW.TrodAll enc Tryz.prog W' 0 (λ b=>decide (b<W.heap.size)) true Tryz.f8.params.toList [v0] [d0] _
 rw[Tryz.params8]
 exact⟨p0,_,stay (by kernel_rfl) (of_decide_eq_true (by kernel_rfl)) h0 (λ x hx=>hlt x (List.mem_append_left _ hx)),rfl,rfl⟩
theorem yi{a b:Bool}(h:a=true)(k:b=true):(a&&b)=true:=by rw[h,k];rfl
theorem jfRowCR:joinedFacts Tryz.prog 8 Tryz.f8 Rows.fnRunCommandsReloadSpec Rows.fnRunCommandsReloadRow=true:=by
 unfold joinedFacts
 refine(yi (yi (yi (yi (yi (yi (yi (yi (yi (yi (yi (yi (yi (yi (yi (yi (yi (yi (yi (yi (yi (yi (yi (yi (yi (yi (yi (yi (yi (yi (yi jf0RowCR jf1RowCR) jf2RowCR) jf3RowCR) jf4RowCR) jf5RowCR) jf6RowCR) jf7RowCR) jf8RowCR) jf9RowCR) jf10RowCR) jf11RowCR) jf12RowCR) jf13RowCR) jf14RowCR) jf15RowCR) jf16RowCR) jf17RowCR) jf18RowCR) jf19RowCR) jf20RowCR) jf21RowCR) jf22RowCR) jf23RowCR) jf24RowCR) jf25RowCR) jf26RowCR) jf27RowCR) ?_) jf29RowCR) jf30RowCR) jf31RowCR)
 kernel_rfl
theorem YM:Rows.FnRunCommandsReloadSaid:=
 OpenClaim.holds_of_wide 8 Tryz.f8 rfl rfl rfl rfl rfl rfl rfl ⟨rfl,rfl,rfl,rfl,rfl⟩ rfl rfl rfl rfl rfl (by kernel_rfl) Tryz.func8 jfRowCR
  (of_decide_eq_true (by kernel_rfl)) (by unfold Func.isWrapper;first | (rw[if_pos (by decide +kernel)];kernel_rfl) | (rw[if_neg (by decide +kernel)];exact⟨rfl,rfl⟩))
  (λ os started H enc _=>liftedRowCR os started H enc)
end Go.Proofs.YtnlhpkbphdbknaaGreatDoor
