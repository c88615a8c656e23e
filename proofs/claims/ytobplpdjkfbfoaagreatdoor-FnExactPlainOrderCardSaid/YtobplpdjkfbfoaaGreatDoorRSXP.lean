/-
  laws.
-/
import Derived.Test.YtobplpdjkfbfoaaGreatDoorRSaXP
import Derived.Test.YtobplpdjkfbfoaaGreatDoorRSbXP
import Derived.Test.YtobplpdjkfbfoaaGreatDoorRB
import Derived.Test.YtobplpdjkfbfoaaGreatDoorRLXP
import Derived.Test.YtobplpdjkfbfoaaGreatDoorCards
import Derived.Test.YtobplpdjkfbfoaaGreatDoorTie
import Derived.ProofKit
import Derived.LaidMore
import Derived.Lay
import Derived.OpenShut
import Derived.Stop.Joined
import Derived.SevenTiedAt
namespace Go.Proofs.YtobplpdjkfbfoaaGreatDoor
open Go.ChangeShapes Go.WideShapes Go.ChangeAt Go.RowKit
theorem ownRowXP:ownKnob Tryz.prog.godebug=none:=by kernel_rfl
theorem laidOutRowXP:laidOutB Tryz.prog=true:=jf1RowXP
theorem oT3:Opn Tryz.prog 3 (Int):=Opn.int Tryz.underlying3 (by kernel_rfl)
theorem oT9:Opn Tryz.prog 9 (Str):=Opn.str Tryz.underlying9 (by kernel_rfl)
theorem oT4:Opn Tryz.prog 4 (Bool):=Opn.bool Tryz.underlying4 (by kernel_rfl)
theorem oT157:Opn Tryz.prog 157 (Stmt):=Opn.struct (β:=Int×Str×Int×Str×Int) (f:=λ(x:Stmt)=>(x.kind,x.module,x.level,x.name,x.value)) (λ b=>⟨b.1,b.2.1,b.2.2.1,b.2.2.2.1,b.2.2.2.2⟩) (λ _=>rfl) Tryz.underlying157 (by kernel_rfl) (OpnF.cons rfl oT3 (OpnF.cons rfl oT9 (OpnF.cons rfl oT3 (OpnF.cons rfl oT9 (OpnF.last rfl oT3)))))
theorem oT105:Opn Tryz.prog 105 (List Stmt):=Opn.slice Tryz.underlying105 (by kernel_rfl) oT157
theorem oT107:Opn Tryz.prog 107 (File):=Opn.struct (β:=Int×Str×Str×Bool×Int×List Stmt) (f:=λ(x:File)=>(x.root,x.pkg,x.name,x.init,x.stamp,x.body)) (λ b=>⟨b.1,b.2.1,b.2.2.1,b.2.2.2.1,b.2.2.2.2.1,b.2.2.2.2.2⟩) (λ _=>rfl) Tryz.underlying107 (by kernel_rfl) (OpnF.cons rfl oT3 (OpnF.cons rfl oT9 (OpnF.cons rfl oT9 (OpnF.cons rfl oT4 (OpnF.cons rfl oT3 (OpnF.last rfl oT105))))))
theorem oT39:Opn Tryz.prog 39 (List File):=Opn.slice Tryz.underlying39 (by kernel_rfl) oT107
theorem oT41:Opn Tryz.prog 41 (Tree):=Opn.struct (β:=List File) (f:=λ(x:Tree)=>x.files) (λ b=>⟨b⟩) (λ _=>rfl) Tryz.underlying41 (by kernel_rfl) (OpnF.last rfl oT39)
theorem oT26:Opn Tryz.prog 26 (List Int):=Opn.slice Tryz.underlying26 (by kernel_rfl) oT3
theorem ZV{H:Type}{enc:TypeId×Value->H}{P:Program}{w:World}{b:Nat}{sp:Nat->Bool}{hd:Bool}{t:TypeId}{ts:List TypeId}{vs:List Value}{ds:List (DataW H)}{ps:List MemPlace}(h:DataW.TrodAll enc P w b sp hd (t::ts) vs ds ps):
  ∃ v vs' d ds' p q,vs=v::vs'/\ds=d::ds'/\ps=p++q/\DataW.Trod enc P w b sp hd t v d p/\DataW.TrodAll enc P w b sp hd ts vs' ds' q:=by
 cases vs with
 | nil=>exact h.elim
 |
  cons v vs=>
  cases ds with
  | nil=>exact h.elim
  |
   cons d ds=>
   obtain⟨p,q,h1,h2,h3⟩:=h
   exact⟨v,vs,d,ds,p,q,rfl,rfl,h3,h1,h2⟩
theorem zaC{H:Type}{enc:TypeId×Value->H}{P:Program}{w:World}{b:Nat}{sp:Nat->Bool}{hd:Bool}{vs:List Value}{ds:List (DataW H)}{ps:List MemPlace}(h:DataW.TrodAll enc P w b sp hd [] vs ds ps):vs=[]/\ds=[]/\ps=[]:=by
 cases vs with
 |
  nil=>
  cases ds with
  | nil=>exact⟨rfl,rfl,h⟩
  | cons d ds=>exact h.elim
 | cons v vs=>exact h.elim
set_option maxRecDepth 100000 in
theorem liftedRowXP(os:Os)(started:os.Started)(H:Type)(enc:TypeId×Value->H):
  ReturnsInHanded {} Tryz.checked os 6 .any (λ w args=>(Rows.fnExactPlainOrderSpec.pre enc Tryz.prog Tryz.f6 [] false w args/\laidMetH Tryz.prog Rows.fnExactPlainOrderRow.laid w)/\sizedMet enc Tryz.prog Tryz.f6 (OpenSpec.ofChange Rows.fnExactPlainOrderSpec) false w args)
   (Rows.fnExactPlainOrderSpec.post enc Tryz.prog Tryz.f6 false true false false):=by
 refine returnsInHanded_of_change_and (C:=Tryz.checked) (X:=λ w _=>laidMetH Tryz.prog Rows.fnExactPlainOrderRow.laid w) (λ _ _ _ hh h=>h.of_heap hh) ownRowXP started (by kernel_rfl) Tryz.func6
  (ChangeSpec.witness_shaped (enc:=enc) (C:=Tryz.checked) (os:=os) (X:=λ w _=>laidMetH Tryz.prog Rows.fnExactPlainOrderRow.laid w) false (World.laidAll Tryz.prog os Rows.fnExactPlainOrderRow.laid) #[.agg #[.slice none 0 0],.slice none 0 0,.string ⟨#[]⟩] 8 (World.laidAll_os _ _ _) (World.shaped_of_ZipB (by kernel_rfl) (by kernel_rfl)) (by kernel_rfl) (by kernel_rfl) (by kernel_rfl)
   (by rw[MakeChecks.laidMetH_plain _ _ _ (by kernel_rfl)];exact laidMet_laidAll _ (by kernel_rfl) (by kernel_rfl))) ?_
 intro W base args ds gs before hval0 hW _ _ _ _
 have hval:∀ (j:Nat) t v,Tryz.f6.params[j]?=some t->args[j]?=some v->Value.okWide Tryz.prog W .any base t v:=hval0
 have hW':=hW
 obtain⟨p,q,hA0,hV,rfl,hfz,hnd⟩:=hW
 have hA:DataW.TrodAll enc Tryz.prog W 0 (λ _=>true) true Tryz.f6.params.toList args.toList ds p:=hA0
 rw[Tryz.params6] at hA hval
 obtain⟨args⟩:=args
 have hA1:DataW.TrodAll enc Tryz.prog W 0 (λ _=>true) true [41,26,9] args ds p:=hA
 clear hA hA0
 obtain⟨v0,vs0,d0,ds0,p0,q0,rfl,rfl,rfl,h0,k0⟩:=ZV hA1
 obtain⟨v1,vs1,d1,ds1,p1,q1,rfl,rfl,rfl,h1,k1⟩:=ZV k0
 obtain⟨v2,vs2,d2,ds2,p2,q2,rfl,rfl,rfl,h2,k2⟩:=ZV k1
 obtain⟨rfl,rfl,rfl⟩:=zaC k2
 obtain⟨rfl,rfl⟩:=trodVars_none hV
 obtain⟨a0,r0⟩:=oT41.rd h0 (za5 Tryz.underlying41 (hval 0 41 v0 rfl rfl))
 obtain⟨a1,r1⟩:=oT26.rd h1 (mkv_slice Tryz.underlying26 (hval 1 26 v1 rfl rfl))
 obtain⟨a2,r2⟩:=oT9.rd h2 (za6 Tryz.underlying9 (hval 2 9 v2 rfl rfl))
 have hlt:∀ x∈p0++(p1++(p2++[])),x.block<W.heap.size:=λ x hx=>by
  have:=hW'.lt x (by simpa using hx)
  simpa using this
 refine((WB a0 a1 a2) noB W [v0,v1,v2] (λ _ h=>h.elim) (.cons r0 (.cons r1 (.cons r2 (.nil))))).mono λ e W' ⟨v,he,hx,hv⟩=>?_
 subst he
 obtain rfl:=yi.1 hv
 have stay:∀ {t:TypeId} {v:Value} {d:DataW H} {ps:List MemPlace},Tryz.prog.readableRec t=true->t<Tryz.prog.types.size->DataW.Trod enc Tryz.prog W 0 (λ _=>true) true t v d ps->(∀ x∈ps,x.block<W.heap.size)->DataW.Trod enc Tryz.prog W' 0 (λ b=>decide (b<W.heap.size)) true t v d ps:=
  λ hr ht h hl=>Below.trod laidOutRowXP hr ht h hx hl
 refine⟨_,rfl,_,_,_,[],(p0++(p1++(p2++[]))),[],hW',trodAll_mk1 (shut_bool Tryz.underlying4 _),?_,rfl,hx.frame _,λ h=>by cases h⟩
 show DataW.TrodAll enc Tryz.prog W' 0 (λ b=>decide (b<W.heap.size)) true Tryz.f6.params.toList [v0,v1,v2] [d0,d1,d2] _
 rw[Tryz.params6]
 exact⟨p0,_,stay (by kernel_rfl) (of_decide_eq_true (by kernel_rfl)) h0 (λ x hx=>hlt x (List.mem_append_left _ hx)),⟨p1,_,stay (by kernel_rfl) (of_decide_eq_true (by kernel_rfl)) h1 (λ x hx=>hlt x (List.mem_append_right _ (List.mem_append_left _ hx))),⟨p2,_,stay (by kernel_rfl) (of_decide_eq_true (by kernel_rfl)) h2 (λ x hx=>hlt x (List.mem_append_right _ (List.mem_append_right _ (List.mem_append_left _ hx)))),rfl,rfl⟩,rfl⟩,rfl⟩
theorem zQ{a b:Bool}(h:a=true)(k:b=true):(a&&b)=true:=by rw[h,k];rfl
theorem jfRowXP:joinedFacts Tryz.prog 6 Tryz.f6 Rows.fnExactPlainOrderSpec Rows.fnExactPlainOrderRow=true:=by
 unfold joinedFacts
 refine(zQ (zQ (zQ (zQ (zQ (zQ (zQ (zQ (zQ (zQ (zQ (zQ (zQ (zQ (zQ (zQ (zQ (zQ (zQ (zQ (zQ (zQ (zQ (zQ (zQ (zQ (zQ (zQ (zQ (zQ (zQ jf0RowXP jf1RowXP) jf2RowXP) jf3RowXP) jf4RowXP) jf5RowXP) jf6RowXP) jf7RowXP) jf8RowXP) jf9RowXP) jf10RowXP) jf11RowXP) jf12RowXP) jf13RowXP) jf14RowXP) jf15RowXP) jf16RowXP) jf17RowXP) jf18RowXP) jf19RowXP) jf20RowXP) jf21RowXP) jf22RowXP) jf23RowXP) jf24RowXP) jf25RowXP) jf26RowXP) jf27RowXP) ?_) jf29RowXP) jf30RowXP) jf31RowXP)
 kernel_rfl
theorem YX:Rows.FnExactPlainOrderSaid:=
 OpenClaim.holds_of_wide 6 Tryz.f6 rfl rfl rfl rfl rfl rfl rfl ⟨rfl,rfl,rfl,rfl,rfl⟩ rfl rfl rfl rfl rfl (by kernel_rfl) Tryz.func6 jfRowXP
  (of_decide_eq_true (by kernel_rfl)) (by unfold Func.isWrapper;first | (rw[if_pos (by decide +kernel)];kernel_rfl) | (rw[if_neg (by decide +kernel)];exact⟨rfl,rfl⟩))
  (λ os started H enc _=>liftedRowXP os started H enc)
end Go.Proofs.YtobplpdjkfbfoaaGreatDoor
