import Derived.Test.YthmnhjcmefjgjaaGreatDoorXAT
set_option linter.all false
set_option linter.unusedSectionVars false
set_option autoImplicit true
set_option relaxedAutoImplicit true
namespace Go.Proofs.YthmnhjcmefjgjaaGreatDoor
open Go Go.AM Go.ChangeShapes Go.WideShapes Go.ChangeAt Go.RowKit
set_option maxRecDepth 100000
theorem zD8 (os:Os) (started:os.Started) (H:Type) (enc:TypeId×Value->H) :
  ReturnsInHanded {} Tryz.checked os 10 .any (fun w args=>(Rows.certEquivalenceSpec.pre enc Tryz.prog Tryz.f10 [] false w args/\laidMetH Tryz.prog Rows.certEquivalenceRow.laid w)/\sizedMet enc Tryz.prog Tryz.f10 (OpenSpec.ofChange Rows.certEquivalenceSpec) false w args)
   (Rows.certEquivalenceSpec.post enc Tryz.prog Tryz.f10 false true false false):=by
 refine returnsInHanded_of_change_and (C:=Tryz.checked) (X:=fun w _=>laidMetH Tryz.prog Rows.certEquivalenceRow.laid w) (fun _ _ _ hh h=>h.of_heap hh) zda started (by kernel_rfl) Tryz.func10
  (ChangeSpec.witness_shaped (enc:=enc) (C:=Tryz.checked) (os:=os) (X:=fun w _=>laidMetH Tryz.prog Rows.certEquivalenceRow.laid w) false (World.laidAll Tryz.prog os Rows.certEquivalenceRow.laid)
   #[.agg #[.int .i64 0,.slice none 0 0,.slice none 0 0],.agg #[.int .i64 0,.slice none 0 0,.slice none 0 0],.agg #[.int .i64 0,.slice none 0 0,.slice none 0 0],.agg #[.int .i64 0,.slice none 0 0],.agg #[.int .i64 0,.slice none 0 0],.agg #[.int .i64 0,.slice none 0 0]] 8 (World.laidAll_os _ _ _)
   (World.shaped_of_ZipB (by kernel_rfl) (by kernel_rfl)) (by kernel_rfl) (by kernel_rfl) (by kernel_rfl)
   (by rw [MakeChecks.laidMetH_plain _ _ _ (by kernel_rfl)];exact laidMet_laidAll _ (by kernel_rfl) (by kernel_rfl))) ?_
 intro W base args ds gs before hval0 hW _ _ _ _
 have bU:∀ (j:Nat) t v,Tryz.f10.params[j]?=some t->args[j]?=some v->Value.okWide Tryz.prog W .any base t v:=hval0
 have hW':=hW
 obtain ⟨p,q,dV,hV,rfl,hfz,aZ⟩:=hW
 have hA:DataW.TrodAll enc Tryz.prog W 0 (fun _=>true) true Tryz.f10.params.toList args.toList ds p:=dV
 rw [Tryz.params10] at hA bU
 obtain ⟨v0,vs0,d0,ds0,p0,q0,ak,rfl,rfl,h0,hA⟩:=trodAll_cons hA
 obtain ⟨v1,vs1,d1,ds1,p1,q1,rfl,rfl,rfl,h1,hA⟩:=trodAll_cons hA
 obtain ⟨v2,vs2,d2,ds2,p2,q2,rfl,rfl,rfl,h2,hA⟩:=trodAll_cons hA
 obtain ⟨v3,vs3,d3,ds3,p3,q3,rfl,rfl,rfl,h3,hA⟩:=trodAll_cons hA
 obtain ⟨v4,vs4,d4,ds4,p4,q4,rfl,rfl,rfl,h4,hA⟩:=trodAll_cons hA
 obtain ⟨v5,vs5,d5,ds5,p5,q5,rfl,rfl,rfl,h5,hA⟩:=trodAll_cons hA
 obtain ⟨rfl,rfl,rfl⟩:=trodAll_nil hA
 obtain rfl:args=#[v0,v1,v2,v3,v4,v5]:=by cases args;simp_all
 obtain ⟨rfl,rfl⟩:=trodVars_none hV
 clear dV hval0 ak
 simp only [List.append_nil] at hW'
 have ab:∀ x∈p0++(p1++(p2++(p3++(p4++p5)))),x.block<W.heap.size:=fun x hx=>hW'.lt x hx
 refine (zEO (bU 0 25 v0 rfl rfl) (bU 1 25 v1 rfl rfl) (bU 2 25 v2 rfl rfl) (bU 3 32 v3 rfl rfl) (bU 4 32 v4 rfl rfl) (bU 5 32 v5 rfl rfl) h0 h1 h2 h3 h4 h5).mono fun e W' ⟨he,hb⟩=>?_
 subst he
 have e1:Rows.certEquivalenceSpec.fn H ([d0,d1,d2,d3,d4,d5]++[])={ results:=[.lit (.bool true)],args:=[d0,d1,d2,d3,d4,d5] }:=by simp [Rows.certEquivalenceSpec]
 refine ⟨_,rfl,_,_,_,[],p0++(p1++(p2++(p3++(p4++p5)))),[],hW',?_,?_,?_,hb.frame _,(fun h=>by cases h)⟩
 ·rw [e1];exact trodAll_mk1 (shut_bool Tryz.underlying4 true)
 ·rw [e1]
  exact trodAll_cons_mk (Below.trod zEe (by kernel_rfl) (of_decide_eq_true (by kernel_rfl)) h0 hb (fun x hx=>ab x (by simp [hx]))) (trodAll_cons_mk (Below.trod zEe (by kernel_rfl) (of_decide_eq_true (by kernel_rfl)) h1 hb (fun x hx=>ab x (by simp [hx]))) (trodAll_cons_mk (Below.trod zEe (by kernel_rfl) (of_decide_eq_true (by kernel_rfl)) h2 hb (fun x hx=>ab x (by simp [hx]))) (trodAll_cons_mk (Below.trod zEe (by kernel_rfl) (of_decide_eq_true (by kernel_rfl)) h3 hb (fun x hx=>ab x (by simp [hx]))) (trodAll_cons_mk (Below.trod zEe (by kernel_rfl) (of_decide_eq_true (by kernel_rfl)) h4 hb (fun x hx=>ab x (by simp [hx]))) (trodAll_mk1 (Below.trod zEe (by kernel_rfl) (of_decide_eq_true (by kernel_rfl)) h5 hb (fun x hx=>ab x (by simp [hx]))))))))
 ·rw [e1];rfl
theorem zBe {a b:Bool} (h:a=true) (k:b=true):(a&&b)=true:=by rw [h,k];rfl
theorem zl1:joinedFacts Tryz.prog 10 Tryz.f10 Rows.certEquivalenceSpec Rows.certEquivalenceRow=true:=(zBe (zBe (zBe (zBe (zBe (zBe (zBe (zBe (zBe (zBe (zBe (zBe (zBe (zBe (zBe (zBe (zBe (zBe (zBe (zBe (zBe (zBe (zBe (zBe (zBe (zBe (zBe (zBe (zBe (zBe (zBe jx_0 jx_1) jx_2) jx_3) jx_4) jx_5) jx_6) jx_7) jx_8) jx_9) zp8) zp7) zp6) zp5) zp4) zp3) zp2) zp1) zp0) zpz) zpy) zpx) zpw) zpv) zpu) zpt) zps) zpr) zpq) zpp) zpo) zpn)
theorem zEN:Rows.CertEquivalenceSaid:=
 OpenClaim.holds_of_wide 10 Tryz.f10 rfl rfl rfl rfl rfl rfl rfl ⟨rfl,rfl,rfl,rfl,rfl⟩ rfl rfl rfl rfl rfl (by kernel_rfl) Tryz.func10 zl1
  (of_decide_eq_true (by kernel_rfl)) (by unfold Func.isWrapper;first|(rw [if_pos (by decide +kernel)];kernel_rfl)|(rw [if_neg (by decide +kernel)];exact ⟨rfl,rfl⟩))
  (fun os started H enc _=>zD8 os started H enc)
end Go.Proofs.YthmnhjcmefjgjaaGreatDoor
