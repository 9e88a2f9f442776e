import Derived.Test.YthmnhjcmefjgjaaGreatDoorXAT
set_option linter.all false
set_option linter.unusedSectionVars false
set_option autoImplicit true
set_option relaxedAutoImplicit true
namespace Go.Proofs.YthmnhjcmefjgjaaGreatDoor
open Go Go.AM Go.ChangeShapes Go.WideShapes Go.ChangeAt Go.RowKit
set_option maxRecDepth 100000
theorem zJa (os:Os) (started:os.Started) (H:Type) (enc:TypeId×Value->H) :
  ReturnsInHanded {} Tryz.checked os 7 .any (fun w args=>(Rows.certCaughtSpec.pre enc Tryz.prog Tryz.f7 [] false w args/\laidMetH Tryz.prog Rows.certCaughtRow.laid w)/\sizedMet enc Tryz.prog Tryz.f7 (OpenSpec.ofChange Rows.certCaughtSpec) false w args)
   (Rows.certCaughtSpec.post enc Tryz.prog Tryz.f7 false true false false):=by
 refine returnsInHanded_of_change_and (C:=Tryz.checked) (X:=fun w _=>laidMetH Tryz.prog Rows.certCaughtRow.laid w) (fun _ _ _ hh h=>h.of_heap hh) zbb started (by kernel_rfl) Tryz.func7
  (ChangeSpec.witness_shaped (enc:=enc) (C:=Tryz.checked) (os:=os) (X:=fun w _=>laidMetH Tryz.prog Rows.certCaughtRow.laid w) false (World.laidAll Tryz.prog os Rows.certCaughtRow.laid)
   #[.agg #[.int .i64 0,.slice none 0 0,.slice none 0 0],.agg #[.int .i64 0,.slice none 0 0,.slice none 0 0],.agg #[.int .i64 0,.slice none 0 0],.int .i64 0,.int .i64 0] 8 (World.laidAll_os _ _ _)
   (World.shaped_of_ZipB (by kernel_rfl) (by kernel_rfl)) (by kernel_rfl) (by kernel_rfl) (by kernel_rfl)
   (by rw [MakeChecks.laidMetH_plain _ _ _ (by kernel_rfl)];exact laidMet_laidAll _ (by kernel_rfl) (by kernel_rfl))) ?_
 intro W base args ds gs before hval0 hW _ _ _ _
 have hval:∀ (j:Nat) t v,Tryz.f7.params[j]?=some t->args[j]?=some v->Value.okWide Tryz.prog W .any base t v:=hval0
 have hW':=hW
 obtain ⟨p,q,hA0,hV,rfl,hfz,hnd⟩:=hW
 have hA:DataW.TrodAll enc Tryz.prog W 0 (fun _=>true) true Tryz.f7.params.toList args.toList ds p:=hA0
 rw [Tryz.params7] at hA hval
 obtain ⟨v0,vs0,d0,ds0,p0,q0,hargs,rfl,rfl,h0,hA⟩:=trodAll_cons hA
 obtain ⟨v1,vs1,d1,ds1,p1,q1,rfl,rfl,rfl,h1,hA⟩:=trodAll_cons hA
 obtain ⟨v2,vs2,d2,ds2,p2,q2,rfl,rfl,rfl,h2,hA⟩:=trodAll_cons hA
 obtain ⟨v3,vs3,d3,ds3,p3,q3,rfl,rfl,rfl,h3,hA⟩:=trodAll_cons hA
 obtain ⟨v4,vs4,d4,ds4,p4,q4,rfl,rfl,rfl,h4,hA⟩:=trodAll_cons hA
 obtain ⟨rfl,rfl,rfl⟩:=trodAll_nil hA
 obtain rfl:args=#[v0,v1,v2,v3,v4]:=by cases args;simp_all
 obtain ⟨rfl,rfl⟩:=trodVars_none hV
 clear hA0 hval0 hargs
 simp only [List.append_nil] at hW'
 have hlt:∀ x∈p0++(p1++(p2++(p3++p4))),x.block<W.heap.size:=fun x hx=>hW'.lt x hx
 refine (zKq (hval 0 25 v0 rfl rfl) (hval 1 25 v1 rfl rfl) (hval 2 32 v2 rfl rfl) (hval 3 3 v3 rfl rfl) (hval 4 3 v4 rfl rfl) h0 h1 h2 h3 h4).mono fun e W' ⟨he,hb⟩=>?_
 subst he
 have e1:Rows.certCaughtSpec.fn H ([d0,d1,d2,d3,d4]++[])={ results:=[.lit (.bool true)],args:=[d0,d1,d2,d3,d4] }:=by simp [Rows.certCaughtSpec]
 refine ⟨_,rfl,_,_,_,[],p0++(p1++(p2++(p3++p4))),[],hW',?_,?_,?_,hb.frame _,(fun h=>by cases h)⟩
 ·rw [e1];exact trodAll_mk1 (shut_bool Tryz.underlying4 true)
 ·rw [e1]
  exact trodAll_cons_mk (Below.trod zFE (by kernel_rfl) (of_decide_eq_true (by kernel_rfl)) h0 hb (fun x hx=>hlt x (by simp [hx]))) (trodAll_cons_mk (Below.trod zFE (by kernel_rfl) (of_decide_eq_true (by kernel_rfl)) h1 hb (fun x hx=>hlt x (by simp [hx]))) (trodAll_cons_mk (Below.trod zFE (by kernel_rfl) (of_decide_eq_true (by kernel_rfl)) h2 hb (fun x hx=>hlt x (by simp [hx]))) (trodAll_cons_mk (Below.trod zFE (by kernel_rfl) (of_decide_eq_true (by kernel_rfl)) h3 hb (fun x hx=>hlt x (by simp [hx]))) (trodAll_mk1 (Below.trod zFE (by kernel_rfl) (of_decide_eq_true (by kernel_rfl)) h4 hb (fun x hx=>hlt x (by simp [hx])))))))
 ·rw [e1];rfl
theorem zEk {a b:Bool} (h:a=true) (k:b=true):(a&&b)=true:=by rw [h,k];rfl
theorem jq_all:joinedFacts Tryz.prog 7 Tryz.f7 Rows.certCaughtSpec Rows.certCaughtRow=true:=(zEk (zEk (zEk (zEk (zEk (zEk (zEk (zEk (zEk (zEk (zEk (zEk (zEk (zEk (zEk (zEk (zEk (zEk (zEk (zEk (zEk (zEk (zEk (zEk (zEk (zEk (zEk (zEk (zEk (zEk (zEk jq_0 jq_1) jq_2) jq_3) jq_4) jq_5) jq_6) jq_7) jq_8) jq_9) jq_10) jq_11) jq_12) jq_13) jq_14) jq_15) jq_16) jq_17) jq_18) jq_19) jq_20) jq_21) jq_22) jq_23) jq_24) jq_25) jq_26) jq_27) jq_28) jq_29) jq_30) jq_31)
theorem zGO:Rows.CertCaughtSaid:=
 OpenClaim.holds_of_wide 7 Tryz.f7 rfl rfl rfl rfl rfl rfl rfl ⟨rfl,rfl,rfl,rfl,rfl⟩ rfl rfl rfl rfl rfl (by kernel_rfl) Tryz.func7 jq_all
  (of_decide_eq_true (by kernel_rfl)) (by unfold Func.isWrapper;first|(rw [if_pos (by decide +kernel)];kernel_rfl)|(rw [if_neg (by decide +kernel)];exact ⟨rfl,rfl⟩))
  (fun os started H enc _=>zJa os started H enc)
end Go.Proofs.YthmnhjcmefjgjaaGreatDoor
