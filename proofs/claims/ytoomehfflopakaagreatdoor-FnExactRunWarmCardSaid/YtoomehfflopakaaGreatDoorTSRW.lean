/-
  laws.
-/
import Derived.Test.YtoomehfflopakaaGreatDoorTSaRW
import Derived.Test.YtoomehfflopakaaGreatDoorTSbRW
import Derived.Test.YtoomehfflopakaaGreatDoorTB
import Derived.Test.YtoomehfflopakaaGreatDoorTLRW
import Derived.Test.YtoomehfflopakaaGreatDoorCards
import Derived.Test.YtoomehfflopakaaGreatDoorTie
import Derived.ProofKit
import Derived.LaidMore
import Derived.Lay
import Derived.OpenShut
import Derived.Stop.Joined
import Derived.SevenTiedAt
namespace Go.Proofs.YtoomehfflopakaaGreatDoor
open Go.ChangeShapes Go.WideShapes Go.ChangeAt Go.RowKit
theorem ownRowRW:ownKnob Tryz.prog.godebug=none:=by kernel_rfl
theorem laidOutRowRW:laidOutB Tryz.prog=true:=jf1RowRW
theorem oT3:Opn Tryz.prog 3 (Int):=Opn.int Tryz.underlying3 (by kernel_rfl)
theorem oT9:Opn Tryz.prog 9 (Str):=Opn.str Tryz.underlying9 (by kernel_rfl)
theorem oT4:Opn Tryz.prog 4 (Bool):=Opn.bool Tryz.underlying4 (by kernel_rfl)
theorem oT190:Opn Tryz.prog 190 (Stmt):=Opn.struct (β:=Int×Str×Int×Str×Int) (f:=λ(x:Stmt)=>(x.kind,x.module,x.level,x.name,x.value)) (λ b=>⟨b.1,b.2.1,b.2.2.1,b.2.2.2.1,b.2.2.2.2⟩) (λ _=>rfl) Tryz.underlying190 (by kernel_rfl) (OpnF.cons rfl oT3 (OpnF.cons rfl oT9 (OpnF.cons rfl oT3 (OpnF.cons rfl oT9 (OpnF.last rfl oT3)))))
theorem oT55:Opn Tryz.prog 55 (List Stmt):=Opn.slice Tryz.underlying55 (by kernel_rfl) oT190
theorem oT57:Opn Tryz.prog 57 (File):=Opn.struct (β:=Int×Str×Str×Bool×Int×List Stmt) (f:=λ(x:File)=>(x.root,x.pkg,x.name,x.init,x.stamp,x.body)) (λ b=>⟨b.1,b.2.1,b.2.2.1,b.2.2.2.1,b.2.2.2.2.1,b.2.2.2.2.2⟩) (λ _=>rfl) Tryz.underlying57 (by kernel_rfl) (OpnF.cons rfl oT3 (OpnF.cons rfl oT9 (OpnF.cons rfl oT9 (OpnF.cons rfl oT4 (OpnF.cons rfl oT3 (OpnF.last rfl oT55))))))
theorem oT59:Opn Tryz.prog 59 (GAct):=Opn.struct (β:=Int×File×Int×Str) (f:=λ(x:GAct)=>(x.kind,x.file,x.index,x.name)) (λ b=>⟨b.1,b.2.1,b.2.2.1,b.2.2.2⟩) (λ _=>rfl) Tryz.underlying59 (by kernel_rfl) (OpnF.cons rfl oT3 (OpnF.cons rfl oT57 (OpnF.cons rfl oT3 (OpnF.last rfl oT9))))
theorem oT22:Opn Tryz.prog 22 (List GAct):=Opn.slice Tryz.underlying22 (by kernel_rfl) oT59
theorem oT23:Opn Tryz.prog 23 (List Int):=Opn.slice Tryz.underlying23 (by kernel_rfl) oT3
theorem Y6{H:Type}{enc:TypeId×Value->H}{P:Program}{w:World}{b:Nat}{sp:Nat->Bool}{hd:Bool}{t:TypeId}{ts:List TypeId}{vs:List Value}{ds:List (DataW H)}{ps:List MemPlace}(h:DataW.TrodAll enc P w b sp hd (t::ts) vs ds ps):
  ∃ v vs' d ds' p q,vs=v::vs'/\ds=d::ds'/\ps=p++q/\DataW.Trod enc P w b sp hd t v d p/\DataW.TrodAll enc P w b sp hd ts vs' ds' q:=by
 cases vs with
 | nil=>exact h.elim
 |
  cons v vs=>
  cases ds with
  | nil=>exact h.elim
  |
   cons d ds=>
   obtain⟨p,q,h1,h2,h3⟩:=h
   exact⟨v,vs,d,ds,p,q,rfl,rfl,h3,h1,h2⟩
theorem zfc{H:Type}{enc:TypeId×Value->H}{P:Program}{w:World}{b:Nat}{sp:Nat->Bool}{hd:Bool}{vs:List Value}{ds:List (DataW H)}{ps:List MemPlace}(h:DataW.TrodAll enc P w b sp hd [] vs ds ps):vs=[]/\ds=[]/\ps=[]:=by
 cases vs with
 |
  nil=>
  cases ds with
  | nil=>exact⟨rfl,rfl,h⟩
  | cons d ds=>exact h.elim
 | cons v vs=>exact h.elim
set_option maxRecDepth 100000 in
theorem liftedRowRW(os:Os)(started:os.Started)(H:Type)(enc:TypeId×Value->H):
  ReturnsInHanded {} Tryz.checked os 4 .any (λ w args=>(Rows.fnExactRunWarmSpec.pre enc Tryz.prog Tryz.f4 [] false w args/\laidMetH Tryz.prog Rows.fnExactRunWarmRow.laid w)/\sizedMet enc Tryz.prog Tryz.f4 (OpenSpec.ofChange Rows.fnExactRunWarmSpec) false w args)
   (Rows.fnExactRunWarmSpec.post enc Tryz.prog Tryz.f4 false true false false):=by
 refine returnsInHanded_of_change_and (C:=Tryz.checked) (X:=λ w _=>laidMetH Tryz.prog Rows.fnExactRunWarmRow.laid w) (λ _ _ _ hh h=>h.of_heap hh) ownRowRW started (by kernel_rfl) Tryz.func4
  (ChangeSpec.witness_shaped (enc:=enc) (C:=Tryz.checked) (os:=os) (X:=λ w _=>laidMetH Tryz.prog Rows.fnExactRunWarmRow.laid w) false (World.laidAll Tryz.prog os Rows.fnExactRunWarmRow.laid) #[.slice none 0 0,.slice none 0 0,.int .i64 0,.int .i64 0] 8 (World.laidAll_os _ _ _) (World.shaped_of_ZipB (by kernel_rfl) (by kernel_rfl)) (by kernel_rfl) (by kernel_rfl) (by kernel_rfl)
   (by rw[MakeChecks.laidMetH_plain _ _ _ (by kernel_rfl)];exact laidMet_laidAll _ (by kernel_rfl) (by kernel_rfl))) ?_
 intro W base args ds gs before hval0 hW _ _ _ _
 have hval:∀ (j:Nat) t v,Tryz.f4.params[j]?=some t->args[j]?=some v->Value.okWide Tryz.prog W .any base t v:=hval0
 have hW':=hW
 obtain⟨p,q,hA0,hV,rfl,hfz,hnd⟩:=hW
 have hA:DataW.TrodAll enc Tryz.prog W 0 (λ _=>true) true Tryz.f4.params.toList args.toList ds p:=hA0
 rw[Tryz.params4] at hA hval
 obtain⟨args⟩:=args
 have hA1:DataW.TrodAll enc Tryz.prog W 0 (λ _=>true) true [22,23,3,3] args ds p:=hA
 clear hA hA0
 obtain⟨v0,vs0,d0,ds0,p0,q0,rfl,rfl,rfl,h0,k0⟩:=Y6 hA1
 obtain⟨v1,vs1,d1,ds1,p1,q1,rfl,rfl,rfl,h1,k1⟩:=Y6 k0
 obtain⟨v2,vs2,d2,ds2,p2,q2,rfl,rfl,rfl,h2,k2⟩:=Y6 k1
 obtain⟨v3,vs3,d3,ds3,p3,q3,rfl,rfl,rfl,h3,k3⟩:=Y6 k2
 obtain⟨rfl,rfl,rfl⟩:=zfc k3
 obtain⟨rfl,rfl⟩:=trodVars_none hV
 obtain⟨a0,r0⟩:=oT22.rd h0 (mkv_slice Tryz.underlying22 (hval 0 22 v0 rfl rfl))
 obtain⟨a1,r1⟩:=oT23.rd h1 (mkv_slice Tryz.underlying23 (hval 1 23 v1 rfl rfl))
 obtain⟨a2,r2⟩:=oT3.rd h2 (mkv_int Tryz.underlying3 (hval 2 3 v2 rfl rfl))
 obtain⟨a3,r3⟩:=oT3.rd h3 (mkv_int Tryz.underlying3 (hval 3 3 v3 rfl rfl))
 have hlt:∀ x∈p0++(p1++(p2++(p3++[]))),x.block<W.heap.size:=λ x hx=>by
  have:=hW'.lt x (by simpa using hx)
  simpa using this
 refine((zcw a0 a1 a2 a3) noB W [v0,v1,v2,v3] (λ _ h=>h.elim) (.cons r0 (.cons r1 (.cons r2 (.cons r3 (.nil)))))).mono λ e W' ⟨v,he,hx,hv⟩=>?_
 subst he
 obtain rfl:=xL.1 hv
 have stay:∀ {t:TypeId} {v:Value} {d:DataW H} {ps:List MemPlace},Tryz.prog.readableRec t=true->t<Tryz.prog.types.size->DataW.Trod enc Tryz.prog W 0 (λ _=>true) true t v d ps->(∀ x∈ps,x.block<W.heap.size)->DataW.Trod enc Tryz.prog W' 0 (λ b=>decide (b<W.heap.size)) true t v d ps:=
  λ hr ht h hl=>Below.trod laidOutRowRW hr ht h hx hl
 refine⟨_,rfl,_,_,_,[],(p0++(p1++(p2++(p3++[])))),[],hW',trodAll_mk1 (shut_bool Tryz.underlying4 _),?_,rfl,hx.frame _,λ h=>by cases h⟩
 show DataW.TrodAll enc Tryz.prog W' 0 (λ b=>decide (b<W.heap.size)) true Tryz.f4.params.toList [v0,v1,v2,v3] [d0,d1,d2,d3] _
 rw[Tryz.params4]
 exact⟨p0,_,stay (by kernel_rfl) (of_decide_eq_true (by kernel_rfl)) h0 (λ x hx=>hlt x (List.mem_append_left _ hx)),⟨p1,_,stay (by kernel_rfl) (of_decide_eq_true (by kernel_rfl)) h1 (λ x hx=>hlt x (List.mem_append_right _ (List.mem_append_left _ hx))),⟨p2,_,stay (by kernel_rfl) (of_decide_eq_true (by kernel_rfl)) h2 (λ x hx=>hlt x (List.mem_append_right _ (List.mem_append_right _ (List.mem_append_left _ hx)))),⟨p3,_,stay (by kernel_rfl) (of_decide_eq_true (by kernel_rfl)) h3 (λ x hx=>hlt x (List.mem_append_right _ (List.mem_append_right _ (List.mem_append_right _ (List.mem_append_left _ hx))))),rfl,rfl⟩,rfl⟩,rfl⟩,rfl⟩
theorem yp{a b:Bool}(h:a=true)(k:b=true):(a&&b)=true:=by rw[h,k];rfl
theorem jfRowRW:joinedFacts Tryz.prog 4 Tryz.f4 Rows.fnExactRunWarmSpec Rows.fnExactRunWarmRow=true:=by
 unfold joinedFacts
 refine(yp (yp (yp (yp (yp (yp (yp (yp (yp (yp (yp (yp (yp (yp (yp (yp (yp (yp (yp (yp (yp (yp (yp (yp (yp (yp (yp (yp (yp (yp (yp jf0RowRW jf1RowRW) jf2RowRW) jf3RowRW) jf4RowRW) jf5RowRW) jf6RowRW) jf7RowRW) jf8RowRW) jf9RowRW) jf10RowRW) jf11RowRW) jf12RowRW) jf13RowRW) jf14RowRW) jf15RowRW) jf16RowRW) jf17RowRW) jf18RowRW) jf19RowRW) jf20RowRW) jf21RowRW) jf22RowRW) jf23RowRW) jf24RowRW) jf25RowRW) jf26RowRW) jf27RowRW) ?_) jf29RowRW) jf30RowRW) jf31RowRW)
 kernel_rfl
theorem zap:Rows.FnExactRunWarmSaid:=
 OpenClaim.holds_of_wide 4 Tryz.f4 rfl rfl rfl rfl rfl rfl rfl ⟨rfl,rfl,rfl,rfl,rfl⟩ rfl rfl rfl rfl rfl (by kernel_rfl) Tryz.func4 jfRowRW
  (of_decide_eq_true (by kernel_rfl)) (by unfold Func.isWrapper;first | (rw[if_pos (by decide +kernel)];kernel_rfl) | (rw[if_neg (by decide +kernel)];exact⟨rfl,rfl⟩))
  (λ os started H enc _=>liftedRowRW os started H enc)
end Go.Proofs.YtoomehfflopakaaGreatDoor
