import Derived.Test.YthmnhjcmefjgjaaGreatDoorXAQ
set_option linter.all false
set_option linter.unusedSectionVars false
set_option autoImplicit true
set_option relaxedAutoImplicit true
set_option maxRecDepth 100000
set_option maxHeartbeats 1000000
noncomputable section
namespace Go.Proofs
open Go Go.AM
def ME0:Ent:=⟨15,[q5,q14,q69],⟨(jN q9 (jN q10 q53 q81) (jN q11 q55 q86)),19,1⟩,(jI 360)⟩
def me_0:R0.call ME0.f ME0.a ME0.h=some [(ME0.v,ME0.h)]:=by kernel_rfl
def ME1:Ent:=⟨15,[q5,q14,q37],⟨(jN q9 (jN q10 q53 q81) (jN q11 q55 q86)),19,1⟩,j0⟩
def me_1:R0.call ME1.f ME1.a ME1.h=some [(ME1.v,ME1.h)]:=by kernel_rfl
def ME2:Ent:=⟨15,[q14,q26,q49],⟨(jN q9 (jN q10 q53 q81) (jN q11 q55 q86)),19,1⟩,j0⟩
def me_2:R0.call ME2.f ME2.a ME2.h=some [(ME2.v,ME2.h)]:=by kernel_rfl
def ME3:Ent:=⟨15,[q14,q26,q70],⟨(jN q9 (jN q10 q78 q81) (jN q11 q83 q86)),21,1⟩,(jI 360)⟩
def me_3:R0.call ME3.f ME3.a ME3.h=some [(ME3.v,ME3.h)]:=by kernel_rfl
def MT:List Ent:=[ME0,ME1,ME2,ME3]
def zwi:∀ e∈MT,(zc E0).call e.f e.a e.h=some [(e.v,e.h)]:=by
 intro e he;simp only[MT,xAQ,xCN,xDK] at he;rcases he with rfl|rfl|rfl|rfl
 ·exact (zCF E0).2 ⟨3000,me_0⟩
 ·exact (zCF E0).2 ⟨3000,me_1⟩
 ·exact (zCF E0).2 ⟨3000,me_2⟩
 ·exact (zCF E0).2 ⟨3000,me_3⟩
def zrz:evC E0 (zoy MT (zD4 E0 3000)) none (sub B13 [1,1,1,1,1,1,1,0,0]) S7=some [⟨.normal,S8⟩]:=by kernel_rfl
def zrx:evC E0 R0 none (sub B13 [1,1,1,1,1,1,1,1,0,0]) S9=some [⟨.normal,S10⟩]:=by kernel_rfl
def zvG:B13=.seq (sub B13 [0]) (.seq (sub B13 [1,0]) (.seq (sub B13 [1,1,0]) (.seq (sub B13 [1,1,1,0]) (.seq (sub B13 [1,1,1,1,0]) (.seq (sub B13 [1,1,1,1,1,0]) (.seq (sub B13 [1,1,1,1,1,1,0]) (.seq (.seq (sub B13 [1,1,1,1,1,1,1,0,0]) (sub B13 [1,1,1,1,1,1,1,0,1])) (.seq (.seq (sub B13 [1,1,1,1,1,1,1,1,0,0]) (sub B13 [1,1,1,1,1,1,1,1,0,1])) (.seq (sub B13 [1,1,1,1,1,1,1,1,1,0]) (.seq (sub B13 [1,1,1,1,1,1,1,1,1,1,0]) (.seq (sub B13 [1,1,1,1,1,1,1,1,1,1,1,0]) (sub B13 [1,1,1,1,1,1,1,1,1,1,1,1])))))))))))):=by kernel_rfl
def zoW:(zc E0).call 13 [] ⟨.e,0,UNK⟩=some [(.bool true,⟨.e,0,UNK⟩)]:=by
 have hf:E0.tab.fn.get 13=some Tryz.f13:=by kernel_rfl
 have hb:Tryz.f13.body=some (zW Tryz.f13):=by kernel_rfl
 rw[zB4 hf hb (by kernel_rfl) (by kernel_rfl)];show zEl ⟨.e,0,UNK⟩ UNK (AM.R.andThen (evC E0 (zc E0) none B13 S0) (zAU E0 Tryz.f13))=_;rw[zvG];rw[zDj (zBX zr6)];rw[zDj (zBX zr5)];rw[zDj (zBX zr4)];rw[zDj (zBX zr3)];rw[zDj (zBX zr2)];rw[zDj (zBX zr1)];rw[zDj (zBX zr0)];rw[zDj (show evC E0 (zc E0) none (.seq (sub B13 [1,1,1,1,1,1,1,0,0]) (sub B13 [1,1,1,1,1,1,1,0,1])) S7=some [⟨.normal,S9⟩] by rw[zDj (zh7 zwi zrz)];exact zBX zry)];rw[zDj (show evC E0 (zc E0) none (.seq (sub B13 [1,1,1,1,1,1,1,1,0,0]) (sub B13 [1,1,1,1,1,1,1,1,0,1])) S9=some [⟨.normal,S11⟩] by rw[zDj (zBX zrx)];exact zBX zob)];rw[zDj (zBX zoa)];rw[zDj (zBX zoZ)];rw[zDj (zBX zoY)];have h14:=zoX;cases hX:evC E0 R0 none (sub B13 [1,1,1,1,1,1,1,1,1,1,1,1]) S14 with
 | none=>rw[hX] at h14;cases h14
 | some x=>rw[hX] at h14;rw[zBX hX];exact h14
end Go.Proofs
