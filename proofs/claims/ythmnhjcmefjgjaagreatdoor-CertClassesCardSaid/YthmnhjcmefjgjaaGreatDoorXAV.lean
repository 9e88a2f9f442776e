import Derived.Test.YthmnhjcmefjgjaaGreatDoorXAU
set_option linter.all false
set_option linter.unusedSectionVars false
set_option autoImplicit true
set_option relaxedAutoImplicit true
set_option maxRecDepth 100000
set_option maxHeartbeats 1000000
namespace Go.Proofs.YthmnhjcmefjgjaaGreatDoor
open Go Go.AM Go.ChangeShapes Go.WideShapes Go.ChangeAt Go.RowKit
def zGB(os:Os)(started:os.Started)(H:Type)(enc:TypeId×Value->H) :
  ReturnsInHanded {} Tryz.checked os 6 .any (fun w args=>(Rows.certClassesSpec.pre enc Tryz.prog Tryz.f6 [] false w args/\laidMetH Tryz.prog Rows.certClassesRow.laid w)/\sizedMet enc Tryz.prog Tryz.f6 (OpenSpec.ofChange Rows.certClassesSpec) false w args)
   (Rows.certClassesSpec.post enc Tryz.prog Tryz.f6 false true false false):=by
 refine returnsInHanded_of_change_and (C:=Tryz.checked) (X:=fun w _=>laidMetH Tryz.prog Rows.certClassesRow.laid w) (fun _ _ _ hh h=>h.of_heap hh) zee started (by kernel_rfl) Tryz.func6
  (ChangeSpec.witness_shaped (enc:=enc) (C:=Tryz.checked) (os:=os) (X:=fun w _=>laidMetH Tryz.prog Rows.certClassesRow.laid w) false (World.laidAll Tryz.prog os Rows.certClassesRow.laid)
   #[.int .i64 0,.agg #[.int .i64 0,.slice none 0 0,.slice none 0 0],.agg #[.int .i64 0,.slice none 0 0,.slice none 0 0],.slice none 0 0] 8 (World.laidAll_os _ _ _)
   (World.shaped_of_ZipB (by kernel_rfl) (by kernel_rfl)) (by kernel_rfl) (by kernel_rfl) (by kernel_rfl)
   (by rw[MakeChecks.laidMetH_plain _ _ _ (by kernel_rfl)];exact laidMet_laidAll _ (by kernel_rfl) (by kernel_rfl))) ?_
 intro W base args ds gs before hval0 hW _ _ _ _;have cz:∀(j:Nat) t v,Tryz.f6.params[j]?=some t->args[j]?=some v->Value.okWide Tryz.prog W .any base t v:=hval0;have hW':=hW;obtain⟨p,q,d7,hV,rfl,hfz,aV⟩:=hW;have hA:DataW.TrodAll enc Tryz.prog W 0 (fun _=>true) true Tryz.f6.params.toList args.toList ds p:=d7;rw[Tryz.params6] at hA cz;obtain⟨v0,vs0,d0,ds0,p0,q0,am,rfl,rfl,h0,hA⟩:=trodAll_cons hA;obtain⟨v1,vs1,d1,ds1,p1,q1,rfl,rfl,rfl,h1,hA⟩:=trodAll_cons hA;obtain⟨v2,vs2,d2,ds2,p2,q2,rfl,rfl,rfl,h2,hA⟩:=trodAll_cons hA;obtain⟨v3,vs3,d3,ds3,p3,q3,rfl,rfl,rfl,h3,hA⟩:=trodAll_cons hA;obtain⟨rfl,rfl,rfl⟩:=trodAll_nil hA;obtain rfl:args=#[v0,v1,v2,v3]:=by cases args;simp_all
 obtain⟨rfl,rfl⟩:=trodVars_none hV;clear d7 hval0 am;simp only[List.append_nil] at hW';have ab:∀ x∈p0++(p1++(p2++p3)),x.block<W.heap.size:=fun x hx=>hW'.lt x hx;refine (zGo (cz 0 3 v0 rfl rfl) (cz 1 25 v1 rfl rfl) (cz 2 25 v2 rfl rfl) (cz 3 47 v3 rfl rfl) h0 h1 h2 h3).mono fun e W' ⟨he,hb⟩=>?_;subst he;have e1:Rows.certClassesSpec.fn H ([d0,d1,d2,d3]++[])={ results:=[.lit (.bool true)],args:=[d0,d1,d2,d3] }:=by simp[Rows.certClassesSpec]
 refine⟨_,rfl,_,_,_,[],p0++(p1++(p2++p3)),[],hW',?_,?_,?_,hb.frame _,(fun h=>by cases h)⟩
 ·rw[e1];exact trodAll_mk1 (shut_bool Tryz.underlying4 true)
 ·rw[e1];exact trodAll_cons_mk (Below.trod zHP (by kernel_rfl) (of_decide_eq_true (by kernel_rfl)) h0 hb (fun x hx=>ab x (by simp[hx]))) (trodAll_cons_mk (Below.trod zHP (by kernel_rfl) (of_decide_eq_true (by kernel_rfl)) h1 hb (fun x hx=>ab x (by simp[hx]))) (trodAll_cons_mk (Below.trod zHP (by kernel_rfl) (of_decide_eq_true (by kernel_rfl)) h2 hb (fun x hx=>ab x (by simp[hx]))) (trodAll_mk1 (Below.trod zHP (by kernel_rfl) (of_decide_eq_true (by kernel_rfl)) h3 hb (fun x hx=>ab x (by simp[hx]))))))
 ·rw[e1];rfl
def zBu{a b:Bool}(h:a=true)(k:b=true):(a&&b)=true:=by rw[h,k];rfl
def zn1:joinedFacts Tryz.prog 6 Tryz.f6 Rows.certClassesSpec Rows.certClassesRow=true:=(zBu (zBu (zBu (zBu (zBu (zBu (zBu (zBu (zBu (zBu (zBu (zBu (zBu (zBu (zBu (zBu (zBu (zBu (zBu (zBu (zBu (zBu (zBu (zBu (zBu (zBu (zBu (zBu (zBu (zBu (zBu jv_0 jv_1) jv_2) jv_3) jv_4) jv_5) jv_6) jv_7) jv_8) jv_9) zrv) zru) zrt) zrs) zrr) zrq) zrp) zro) zrn) zrm) zrl) zrk) zrj) zri) zrh) zrg) zrf) zre) zrd) zrc) zrb) zra)
def zGn:Rows.CertClassesSaid:=
 OpenClaim.holds_of_wide 6 Tryz.f6 rfl rfl rfl rfl rfl rfl rfl ⟨rfl,rfl,rfl,rfl,rfl⟩ rfl rfl rfl rfl rfl (by kernel_rfl) Tryz.func6 zn1
  (of_decide_eq_true (by kernel_rfl)) (by unfold Func.isWrapper;first|(rw[if_pos (by decide +kernel)];kernel_rfl)|(rw[if_neg (by decide +kernel)];exact⟨rfl,rfl⟩))
  (fun os started H enc _=>zGB os started H enc)
end Go.Proofs.YthmnhjcmefjgjaaGreatDoor
