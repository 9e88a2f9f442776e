import Derived.Test.YthmnhjcmefjgjaaGreatDoorXAT
set_option linter.all false
set_option linter.unusedSectionVars false
set_option autoImplicit true
set_option relaxedAutoImplicit true
set_option maxRecDepth 100000
set_option maxHeartbeats 1000000
namespace Go.Proofs.YthmnhjcmefjgjaaGreatDoor
open Go Go.AM Go.ChangeShapes Go.WideShapes Go.ChangeAt Go.RowKit
def zHH(os:Os)(started:os.Started)(H:Type)(enc:TypeId×Value->H) :
  ReturnsInHanded {} Tryz.checked os 9 .any (λ w args=>(Rows.certChecksSpec.pre enc Tryz.prog Tryz.f9 [] false w args/\laidMetH Tryz.prog Rows.certChecksRow.laid w)/\sizedMet enc Tryz.prog Tryz.f9 (OpenSpec.ofChange Rows.certChecksSpec) false w args)
   (Rows.certChecksSpec.post enc Tryz.prog Tryz.f9 false true false false):=by
 refine returnsInHanded_of_change_and (C:=Tryz.checked) (X:=λ w _=>laidMetH Tryz.prog Rows.certChecksRow.laid w) (λ _ _ _ hh h=>h.of_heap hh) zhj started (by kernel_rfl) Tryz.func9
  (ChangeSpec.witness_shaped (enc:=enc) (C:=Tryz.checked) (os:=os) (X:=λ w _=>laidMetH Tryz.prog Rows.certChecksRow.laid w) false (World.laidAll Tryz.prog os Rows.certChecksRow.laid)
   #[.agg #[iI 0,.slice none 0 0,.slice none 0 0],.agg #[iI 0,.slice none 0 0,.slice none 0 0],.agg #[iI 0,.slice none 0 0],.slice none 0 0] 8 (World.laidAll_os _ _ _)
   (World.shaped_of_ZipB (by kernel_rfl) (by kernel_rfl)) (by kernel_rfl) (by kernel_rfl) (by kernel_rfl)
   (by rw[MakeChecks.laidMetH_plain _ _ _ (by kernel_rfl)];exact laidMet_laidAll _ (by kernel_rfl) (by kernel_rfl))) ?_
 intro W base args ds gs before hval0 hW _ _ _ _;have aX:∀(j:Nat) t v,Tryz.f9.params[j]?=some t->args[j]?=some v->Value.okWide Tryz.prog W .any base t v:=hval0;have hW':=hW;obtain⟨p,q,fN,hV,rfl,hfz,bp⟩:=hW;have hA:DataW.TrodAll enc Tryz.prog W 0 (λ _=>true) true Tryz.f9.params.toList args.toList ds p:=fN;rw[Tryz.params9] at hA aX;obtain⟨v0,vs0,d0,ds0,p0,q0,ao,rfl,rfl,h0,hA⟩:=trodAll_cons hA;obtain⟨v1,vs1,d1,ds1,p1,q1,rfl,rfl,rfl,h1,hA⟩:=trodAll_cons hA;obtain⟨v2,vs2,d2,ds2,p2,q2,rfl,rfl,rfl,h2,hA⟩:=trodAll_cons hA;obtain⟨v3,vs3,d3,ds3,p3,q3,rfl,rfl,rfl,h3,hA⟩:=trodAll_cons hA;obtain⟨rfl,rfl,rfl⟩:=trodAll_nil hA;obtain rfl:args=#[v0,v1,v2,v3]:=by cases args;simp_all
 obtain⟨rfl,rfl⟩:=trodVars_none hV;clear fN hval0 ao;simp only[xCb] at hW';have ab:∀ x∈p0++(p1++(p2++p3)),x.block<W.heap.size:=λ x hx=>hW'.lt x hx;refine (zHs (aX 0 25 v0 rfl rfl) (aX 1 25 v1 rfl rfl) (aX 2 32 v2 rfl rfl) (aX 3 47 v3 rfl rfl) h0 h1 h2 h3).mono λ e W' ⟨he,hb⟩=>?_;subst he;have e1:Rows.certChecksSpec.fn H ([d0,d1,d2,d3]++[])={ results:=[.lit (.bool true)],args:=[d0,d1,d2,d3] }:=by simp[Rows.certChecksSpec]
 refine⟨_,rfl,_,_,_,[],p0++(p1++(p2++p3)),[],hW',?_,?_,?_,hb.frame _,(λ h=>by cases h)⟩
 ·rw[e1];exact trodAll_mk1 (shut_bool Tryz.underlying4 true)
 ·rw[e1];exact trodAll_cons_mk (Below.trod zH5 (by kernel_rfl) (xBm (by kernel_rfl)) h0 hb (λ x hx=>ab x (by simp[hx]))) (trodAll_cons_mk (Below.trod zH5 (by kernel_rfl) (xBm (by kernel_rfl)) h1 hb (λ x hx=>ab x (by simp[hx]))) (trodAll_cons_mk (Below.trod zH5 (by kernel_rfl) (xBm (by kernel_rfl)) h2 hb (λ x hx=>ab x (by simp[hx]))) (trodAll_mk1 (Below.trod zH5 (by kernel_rfl) (xBm (by kernel_rfl)) h3 hb (λ x hx=>ab x (by simp[hx]))))))
 ·rw[e1];rfl
def zB3{a b:Bool}(h:a=true)(k:b=true):(a&&b)=true:=by rw[h,k];rfl
def zsb:joinedFacts Tryz.prog 9 Tryz.f9 Rows.certChecksSpec Rows.certChecksRow=true:=(zB3 (zB3 (zB3 (zB3 (zB3 (zB3 (zB3 (zB3 (zB3 (zB3 (zB3 (zB3 (zB3 (zB3 (zB3 (zB3 (zB3 (zB3 (zB3 (zB3 (zB3 (zB3 (zB3 (zB3 (zB3 (zB3 (zB3 (zB3 (zB3 (zB3 (zB3 jj_0 jj_1) jj_2) jj_3) jj_4) jj_5) jj_6) jj_7) jj_8) jj_9) zw9) zw8) zw7) zw6) zw5) zw4) zw3) zw2) zw1) zw0) zwz) zwy) zwx) zww) zwv) zwu) zwt) zws) zwr) zwq) zwp) zwo)
def zHr:Rows.CertChecksSaid:=
 OpenClaim.holds_of_wide 9 Tryz.f9 rfl rfl rfl rfl rfl rfl rfl ⟨rfl,rfl,rfl,rfl,rfl⟩ rfl rfl rfl rfl rfl (by kernel_rfl) Tryz.func9 zsb
  (xBm (by kernel_rfl)) (by unfold Func.isWrapper;first|(rw[xDO (by decide +kernel)];kernel_rfl)|(rw[xDN (by decide +kernel)];exact⟨rfl,rfl⟩))
  (λ os started H enc _=>zHH os started H enc)
end Go.Proofs.YthmnhjcmefjgjaaGreatDoor
