import Derived.Test.YthmnhjcmefjgjaaGreatDoorXAO
set_option linter.all false
set_option linter.unusedSectionVars false
set_option autoImplicit true
set_option relaxedAutoImplicit true
namespace Go.Proofs
open Go Go.AM
set_option maxRecDepth 100000
noncomputable def ME0:Ent:=⟨15,[(jA #[j3,(jS 2 2),(jS 0 3)]),(jA #[j2,(jS 4 1),(jS 5 1)]),(jA #[j1,(jS 17 2)])],⟨(jN (jR [j0,j0,j2,j0,j1,j1,j2,j1,j1] 52) (jN (jR [j3,(jS 2 2),(jS 0 3)] 25) (jN (jR [j3,(jS 2 2),(jS 0 3)] 25) (jN (jR [j0,j0,j1,j1,j1,j2] 52) (jL (jR [j2,(jS 14 3)] 32)) .e) (jL (jR [j0,j0,j1,j1,j2,j0] 54))) (jN (jR [j0,j0,j1] 52) (jN (jR [(jI (-1)),jZ,j0,jZ] 36) (jL (jR [j0,j0,j1,j1] 54)) .e) (jL (jR [j2,(jS 11 3)] 32)))) (jN (jR [(jI (-1)),jZ,j0,jZ] 36) (jN (jR [j0,jZ] 36) (jN (jR [j3,(jS 9 2),(jS 7 2)] 25) (jL (jR [j2,(jS 14 3)] 32)) .e) (jL (jR [j2,(jS 11 3)] 32))) (jN (jR [j2,(jS 4 1),(jS 5 1)] 25) (jN (jR [j3,(jS 9 2),(jS 7 2)] 25) (jL (jR [j1,(jS 17 2)] 32)) .e) (jL (jR [j0,j0,j0,j1,j1,j2] 54))))),19,1⟩,(jI 360)⟩
theorem me_0:R0.call ME0.f ME0.a ME0.h=some [(ME0.v,ME0.h)]:=by kernel_rfl
noncomputable def ME1:Ent:=⟨15,[(jA #[j3,(jS 2 2),(jS 0 3)]),(jA #[j2,(jS 4 1),(jS 5 1)]),(jA #[j2,(jS 11 3)])],⟨(jN (jR [j0,j0,j2,j0,j1,j1,j2,j1,j1] 52) (jN (jR [j3,(jS 2 2),(jS 0 3)] 25) (jN (jR [j3,(jS 2 2),(jS 0 3)] 25) (jN (jR [j0,j0,j1,j1,j1,j2] 52) (jL (jR [j2,(jS 14 3)] 32)) .e) (jL (jR [j0,j0,j1,j1,j2,j0] 54))) (jN (jR [j0,j0,j1] 52) (jN (jR [(jI (-1)),jZ,j0,jZ] 36) (jL (jR [j0,j0,j1,j1] 54)) .e) (jL (jR [j2,(jS 11 3)] 32)))) (jN (jR [(jI (-1)),jZ,j0,jZ] 36) (jN (jR [j0,jZ] 36) (jN (jR [j3,(jS 9 2),(jS 7 2)] 25) (jL (jR [j2,(jS 14 3)] 32)) .e) (jL (jR [j2,(jS 11 3)] 32))) (jN (jR [j2,(jS 4 1),(jS 5 1)] 25) (jN (jR [j3,(jS 9 2),(jS 7 2)] 25) (jL (jR [j1,(jS 17 2)] 32)) .e) (jL (jR [j0,j0,j0,j1,j1,j2] 54))))),19,1⟩,j0⟩
theorem me_1:R0.call ME1.f ME1.a ME1.h=some [(ME1.v,ME1.h)]:=by kernel_rfl
noncomputable def ME2:Ent:=⟨15,[(jA #[j2,(jS 4 1),(jS 5 1)]),(jA #[j3,(jS 9 2),(jS 7 2)]),(jA #[j2,(jS 14 3)])],⟨(jN (jR [j0,j0,j2,j0,j1,j1,j2,j1,j1] 52) (jN (jR [j3,(jS 2 2),(jS 0 3)] 25) (jN (jR [j3,(jS 2 2),(jS 0 3)] 25) (jN (jR [j0,j0,j1,j1,j1,j2] 52) (jL (jR [j2,(jS 14 3)] 32)) .e) (jL (jR [j0,j0,j1,j1,j2,j0] 54))) (jN (jR [j0,j0,j1] 52) (jN (jR [(jI (-1)),jZ,j0,jZ] 36) (jL (jR [j0,j0,j1,j1] 54)) .e) (jL (jR [j2,(jS 11 3)] 32)))) (jN (jR [(jI (-1)),jZ,j0,jZ] 36) (jN (jR [j0,jZ] 36) (jN (jR [j3,(jS 9 2),(jS 7 2)] 25) (jL (jR [j2,(jS 14 3)] 32)) .e) (jL (jR [j2,(jS 11 3)] 32))) (jN (jR [j2,(jS 4 1),(jS 5 1)] 25) (jN (jR [j3,(jS 9 2),(jS 7 2)] 25) (jL (jR [j1,(jS 17 2)] 32)) .e) (jL (jR [j0,j0,j0,j1,j1,j2] 54))))),19,1⟩,j0⟩
theorem me_2:R0.call ME2.f ME2.a ME2.h=some [(ME2.v,ME2.h)]:=by kernel_rfl
noncomputable def ME3:Ent:=⟨15,[(jA #[j2,(jS 4 1),(jS 5 1)]),(jA #[j3,(jS 9 2),(jS 7 2)]),(jA #[j2,(jS 19 2)])],⟨(jN (jR [j0,j0,j2,j0,j1,j1,j2,j1,j1] 52) (jN (jR [j3,(jS 2 2),(jS 0 3)] 25) (jN (jR [j3,(jS 2 2),(jS 0 3)] 25) (jN (jR [j0,j0,j1,j1,j1,j2] 52) (jL (jR [j2,(jS 14 3)] 32)) .e) (jN (jR [j0,j0,j1,j1,j2,j0] 54) (jL (jR [j0,j0,j1,j2] 54)) .e)) (jN (jR [j0,j0,j1] 52) (jN (jR [(jI (-1)),jZ,j0,jZ] 36) (jL (jR [j0,j0,j1,j1] 54)) .e) (jL (jR [j2,(jS 11 3)] 32)))) (jN (jR [(jI (-1)),jZ,j0,jZ] 36) (jN (jR [j0,jZ] 36) (jN (jR [j3,(jS 9 2),(jS 7 2)] 25) (jL (jR [j2,(jS 14 3)] 32)) .e) (jN (jR [j2,(jS 11 3)] 32) (jL (jR [j2,(jS 19 2)] 32)) .e)) (jN (jR [j2,(jS 4 1),(jS 5 1)] 25) (jN (jR [j3,(jS 9 2),(jS 7 2)] 25) (jL (jR [j1,(jS 17 2)] 32)) .e) (jL (jR [j0,j0,j0,j1,j1,j2] 54))))),21,1⟩,(jI 360)⟩
theorem me_3:R0.call ME3.f ME3.a ME3.h=some [(ME3.v,ME3.h)]:=by kernel_rfl
noncomputable def MT:List Ent:=[ME0,ME1,ME2,ME3]
theorem mt_ok:∀ e∈MT,(recI E0).call e.f e.a e.h=some [(e.v,e.h)]:=by
 intro e he
 simp only [MT,List.mem_cons,List.not_mem_nil,or_false] at he
 rcases he with rfl|rfl|rfl|rfl
 ·exact (recI_call E0).2 ⟨3000,me_0⟩
 ·exact (recI_call E0).2 ⟨3000,me_1⟩
 ·exact (recI_call E0).2 ⟨3000,me_2⟩
 ·exact (recI_call E0).2 ⟨3000,me_3⟩
theorem sane_7:evC E0 (memoR MT (recN E0 3000)) none (sub B13 [1,1,1,1,1,1,1,0,0]) S7=some [⟨.normal,S8⟩]:=by kernel_rfl
theorem sane_9:evC E0 R0 none (sub B13 [1,1,1,1,1,1,1,1,0,0]) S9=some [⟨.normal,S10⟩]:=by kernel_rfl
theorem B13_eq:B13=.seq (sub B13 [0]) (.seq (sub B13 [1,0]) (.seq (sub B13 [1,1,0]) (.seq (sub B13 [1,1,1,0]) (.seq (sub B13 [1,1,1,1,0]) (.seq (sub B13 [1,1,1,1,1,0]) (.seq (sub B13 [1,1,1,1,1,1,0]) (.seq (.seq (sub B13 [1,1,1,1,1,1,1,0,0]) (sub B13 [1,1,1,1,1,1,1,0,1])) (.seq (.seq (sub B13 [1,1,1,1,1,1,1,1,0,0]) (sub B13 [1,1,1,1,1,1,1,1,0,1])) (.seq (sub B13 [1,1,1,1,1,1,1,1,1,0]) (.seq (sub B13 [1,1,1,1,1,1,1,1,1,1,0]) (.seq (sub B13 [1,1,1,1,1,1,1,1,1,1,1,0]) (sub B13 [1,1,1,1,1,1,1,1,1,1,1,1])))))))))))):=by kernel_rfl
theorem sane_ok:(recI E0).call 13 [] ⟨.e,0,UNK⟩=some [(.bool true,⟨.e,0,UNK⟩)]:=by
 have hf:E0.tab.fn.get 13=some Tryz.f13:=by kernel_rfl
 have hb:Tryz.f13.body=some (bodyOf Tryz.f13):=by kernel_rfl
 rw [fnCall_body hf hb (by kernel_rfl) (by kernel_rfl)]
 show settled ⟨.e,0,UNK⟩ UNK (AM.R.andThen (evC E0 (recI E0) none B13 S0) (endCall E0 Tryz.f13))=_
 rw [B13_eq]
 rw [seq_go (evC_recI sane_0)]
 rw [seq_go (evC_recI sane_1)]
 rw [seq_go (evC_recI sane_2)]
 rw [seq_go (evC_recI sane_3)]
 rw [seq_go (evC_recI sane_4)]
 rw [seq_go (evC_recI sane_5)]
 rw [seq_go (evC_recI sane_6)]
 rw [seq_go (show evC E0 (recI E0) none (.seq (sub B13 [1,1,1,1,1,1,1,0,0]) (sub B13 [1,1,1,1,1,1,1,0,1])) S7=some [⟨.normal,S9⟩] by rw [seq_go (evC_memo mt_ok sane_7)];exact evC_recI sane_8)]
 rw [seq_go (show evC E0 (recI E0) none (.seq (sub B13 [1,1,1,1,1,1,1,1,0,0]) (sub B13 [1,1,1,1,1,1,1,1,0,1])) S9=some [⟨.normal,S11⟩] by rw [seq_go (evC_recI sane_9)];exact evC_recI sane_10)]
 rw [seq_go (evC_recI sane_11)]
 rw [seq_go (evC_recI sane_12)]
 rw [seq_go (evC_recI sane_13)]
 have h14:=sane_14
 cases hX:evC E0 R0 none (sub B13 [1,1,1,1,1,1,1,1,1,1,1,1]) S14 with
 | none=>rw [hX] at h14;cases h14
 | some x=>rw [hX] at h14;rw [evC_recI hX];exact h14
end Go.Proofs
