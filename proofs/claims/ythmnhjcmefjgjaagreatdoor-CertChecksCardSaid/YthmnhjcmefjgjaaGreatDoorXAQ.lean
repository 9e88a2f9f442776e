import Derived.Test.YthmnhjcmefjgjaaGreatDoorProg
import Derived.KernelRfl
import Derived.Test.YthmnhjcmefjgjaaGreatDoorXAP
import Derived.Test.YthmnhjcmefjgjaaGreatDoorXAD
set_option linter.all false
set_option linter.unusedSectionVars false
set_option autoImplicit true
set_option relaxedAutoImplicit true
set_option maxRecDepth 100000
set_option maxHeartbeats 1000000
noncomputable section
namespace Go.Proofs
open Go Go.AM
abbrev jI(n:Int):Value:=iI n
abbrev j0:Value:=iI 0
abbrev j1:Value:=iI 1
abbrev j2:Value:=iI 2
abbrev j3:Value:=iI 3
abbrev j4:Value:=iI 4
abbrev j5:Value:=iI 5
abbrev jS(b n:Nat):Value:=.slice (some ⟨b,0,none⟩) n n
abbrev jZ:Value:=.slice none 0 0
abbrev jP(b:Nat):Value:=.pointer (some ⟨b,0,none⟩)
abbrev jA(a:Array Value):Value:=.agg a
abbrev jR(l:List Value)(t:Nat):AObj:=rO l t
abbrev jL{α:Type}(x:α):Tr α:=.n (some x) .e .e
abbrev jN{α:Type}(x:α)(a b:Tr α):Tr α:=.n (some x) a b
abbrev jM{α:Type}(a b:Tr α):Tr α:=.n none a b
abbrev jE{α:Type}(b:Tr α):Tr α:=.n none .e b
abbrev jF:Value:=.bool false
abbrev q0:=jL jF
abbrev q1:=jL (jS 0 3)
abbrev q2:=jM q1 .e
abbrev q3:=jA #[j0,j1,j1]
abbrev q4:=jA #[j0,j0,j2]
abbrev q5:=jA #[j3,(jS 2 2),(jS 0 3)]
abbrev q6:=jM (jL q5) .e
abbrev q7:=jA #[j2,j1,j1]
abbrev q8:=jM (jL q7) .e
abbrev q9:=jR [j0,j0,j2,j0,j1,j1,j2,j1,j1] 52
abbrev q10:=jR [j3,(jS 2 2),(jS 0 3)] 25
abbrev q11:=jR [(jI (-1)),jZ,j0,jZ] 36
abbrev q12:=jA #[j0,j0,j1]
abbrev q13:=jE (jL q12)
abbrev q14:=jA #[j2,(jS 4 1),(jS 5 1)]
abbrev q15:=jM (jL q3) (jL q14)
abbrev q16:=jA #[j0,jZ]
abbrev q17:=jL (jS 5 1)
abbrev q18:=jM (jL q4) q17
abbrev q19:=jL (jS 4 1)
abbrev q20:=jM q19 .e
abbrev q21:=jR [j0,j0,j1] 52
abbrev q22:=jR [j0,jZ] 36
abbrev q23:=jR [j2,(jS 4 1),(jS 5 1)] 25
abbrev q24:=jA #[j1,j1,j2]
abbrev q25:=jN (jP 10) q13 (jM q1 (jL q24))
abbrev q26:=jA #[j3,(jS 9 2),(jS 7 2)]
abbrev q27:=jM (jL q16) (jL q26)
abbrev q28:=jL (jS 7 2)
abbrev q29:=jM (jL q5) q28
abbrev q30:=jM (jM (jL q7) (jL q12)) q20
abbrev q31:=jR [j0,j0,j1,j1,j1,j2] 52
abbrev q32:=jR [j3,(jS 9 2),(jS 7 2)] 25
abbrev q33:=jN q23 (jL q32) .e
abbrev q34:=jA #[j0,j0]
abbrev q35:=jM (jL q34) .e
abbrev q36:=jS 11 3
abbrev q37:=jA #[j2,q36]
abbrev q38:=jM (jN (jS 0 3) (jL q37) .e) (jL q24)
abbrev q39:=jA #[j2,j0]
abbrev q40:=jN q3 (jL q39) .e
abbrev q41:=jA #[j1,j1]
abbrev q42:=jN q4 (jL q41) .e
abbrev q43:=jM (jN q7 (jL q36) .e) (jL q12)
abbrev q44:=jR [j0,j0,j1,j1,j2,j0] 54
abbrev q45:=jR [j2,q36] 32
abbrev q46:=jN q21 (jL q11) (jL q45)
abbrev q47:=jA #[j1,j2]
abbrev q48:=jS 14 3
abbrev q49:=jA #[j2,q48]
abbrev q50:=jA #[j0,j1]
abbrev q51:=jR [j2,q48] 32
abbrev q52:=jN q31 (jL q51) .e
abbrev q53:=jN q10 q52 (jL q44)
abbrev q54:=jN q32 (jL q51) .e
abbrev q55:=jN q22 q54 (jL q45)
abbrev q56:=jR [j0,j0,j0,j1,j1,j2] 54
abbrev q57:=jN q34 q0 .e
abbrev q58:=jS 17 2
abbrev q59:=jS 19 2
abbrev q60:=jN q47 (jL q59) .e
abbrev q61:=jN q37 (jL q26) .e
abbrev q62:=jN q14 q0 .e
abbrev q63:=jN q24 q62 (jL q14)
abbrev q64:=jN q39 q0 .e
abbrev q65:=jL (jI 360)
abbrev q66:=jN q49 q65 .e
abbrev q67:=jN q34 (jL q34) .e
abbrev q68:=jN q41 q0 .e
abbrev q69:=jA #[j1,q58]
abbrev q70:=jA #[j2,q59]
abbrev q71:=jN q48 (jL q70) .e
abbrev q72:=jN j2 (jL j2) .e
abbrev q73:=jN q36 (jL q14) .e
abbrev q74:=jN q5 q0 .e
abbrev q75:=jN q12 q74 q0
abbrev q76:=jN q50 (jL q47) .e
abbrev q77:=jR [j0,j0,j1,j2] 54
abbrev q78:=jN q10 q52 (jN q44 (jL q77) .e)
abbrev q79:=jR [j0,j0,j1,j1] 54
abbrev q80:=jN q11 (jL q79) .e
abbrev q81:=jN q21 q80 (jL q45)
abbrev q82:=jR [j2,q59] 32
abbrev q83:=jN q22 q54 (jN q45 (jL q82) .e)
abbrev q84:=jR [j1,q58] 32
abbrev q85:=jN q32 (jL q84) .e
abbrev q86:=jN q23 q85 (jL q56)
abbrev q87:=jN q58 (jL (jS 21 5)) .e
abbrev q88:=jN j0 q65 .e
abbrev q89:=jN q12 q60 q88
abbrev q90:=jN jF (jL j2) .e
abbrev q91:=jN (jS 0 3) q61 q90
abbrev q92:=jN (jI 360) q0 .e
abbrev q93:=jN q3 q64 q92
abbrev q94:=jN jF q0 .e
abbrev q95:=jN q14 q66 q94
abbrev q96:=jN q14 (jL q14) .e
abbrev q97:=jN q16 q67 q96
abbrev q98:=jN q34 (jL q5) .e
abbrev q99:=jN q69 (jL j0) .e
abbrev zwY:=jN q4 q68 q99
abbrev zvL:=jN (jS 5 1) q71 q94
abbrev zyk:=jN q5 (jL q5) .e
abbrev zwX:=jN q5 q72 zyk
abbrev zwW:=jN j1 (jL j2) .e
abbrev zwV:=jN q7 q73 q94
abbrev zyj:=jN q37 (jL (jS 22 5)) .e
abbrev zwU:=jN (jS 4 1) q76 zyj
abbrev zwT:=jN q41 (jL q14) .e
abbrev zwS:=jR [j0,j1,j0,j0,j1] 3
abbrev zwR:=jR [j0,j1,j2,j0,j1] 3
abbrev zyi:=jM (jN q34 q0 (jL j0)) q87
abbrev zyh:=jN (jP 16) zyi q89
abbrev zyg:=jN q24 q62 (jN q14 (jL q37) .e)
abbrev zyf:=jA #[j2,(.slice (some ⟨55,0,none⟩) 5 18446744073709551618)]
abbrev zye:=jL (Value.tuple #[zyf,j0])
abbrev zyd:=jN q26 q98 (jN q49 zye .e)
abbrev zyc:=jM q97 zyd
abbrev zwQ:=jN (jS 7 2) zwW (jN q26 (jL q49) .e)
abbrev zyb:=jN q12 q74 (jN jF zye .e)
abbrev zya:=jN j2 zwT (jN j0 (jL zyf) .e)
abbrev zyZ:=jM zwU zya
abbrev zvK:=jL (jR [j0,j0] 54)
abbrev zsC:=jL (jR [j2,j0] 54)
abbrev zyY:=jL (jR [j1,j2] 54)
abbrev zwP:=jR [j2,(.slice (some ⟨55,0,none⟩) 5 18446744073709551618)] 32
abbrev zyX:=jL (jR [j1,j1] 54)
abbrev zyW:=jL zwP
abbrev zwO:=jN q10 (jN q10 (jN q31 (jN q51 zvK (jM .e .e)) (jN q45 (jL (.row [j2] 3 1 false)) (jL (.row [j0,j0,j0,j1,j1,j2,j2,j0,j2,j1] 54 2 false)))) (jN q44 (jN q77 (jL (jR [j1] 3)) zsC) (jN q45 zvK .e))) (jN q21 (jN q11 (jN q79 (jM .e .e) zyY) (jN zwP zyX zyW)) (jN q45 (jN zwS zyY (jM .e .e)) (jN zwP (jM .e .e) .e)))
abbrev zwN:=jN q22 (jN q32 (jN q51 (jL (jR [j0] 3)) zyX) (jN q51 zvK zyW)) (jN q45 (jN q82 (jL (.row [j0,j1] 3 1 false)) zsC) (jN q51 zvK .e))
abbrev zyV:=jL (jR [j0,j1] 54)
abbrev zwM:=jN q84 zyV (jM .e .e)
abbrev zwL:=jR [j2,q36,j2,q48] 32
abbrev zwK:=jN q56 (jN zwR (jL (jR [j2] 3)) (jL (jR [j2,j1] 54))) (jN (.map [(j0,(.slice (some ⟨36,0,none⟩) 2 18446744073709551617)),(j1,(.slice (some ⟨39,0,none⟩) 1 18446744073709551617))] 3) zyV .e)
abbrev zyU:=jN j0 (jN (jS 0 3) (jN q37 (jL q26) (jL (Value.string ⟨#[98,114,97,110,99,104,105,110,103,10,48,58,32,48,10,49,58,32,49,10,50,58,32,48,10]⟩))) q90) zyg
abbrev zyT:=jN j0 (jN q3 (jN q39 q0 (jL q37)) q92) q95
abbrev zyS:=jL (Value.tuple #[(Value.string ⟨#[98,114,97,110,99,104,105,110,103,10,48,58,32,48,10,49,58,32,49,10,50,58,32,48,10]⟩),j0])
abbrev zyR:=jN q4 (jN q41 q0 zyS) q99
abbrev zyQ:=jN q5 (jN j2 (jL j2) (jL j0)) zyk
abbrev zyP:=jN (Value.string ⟨#[98,114,97,110,99,104,105,110,103,10,48,58,32,48,10,49,58,32,49,10,50,58,32,48,10]⟩) (jN q7 (jN q36 (jL q14) zyS) q94) zyb
abbrev zyO:=jL (Value.tuple #[q16,(jI 363)])
def E0:Env:=zIl Tryz.prog [(172,1),(284,2)]
def B13:Code:=zW Tryz.f13
def R0:Rec:=zD4 E0 3000
def S0:St:=⟨⟨Tryz.f13.ntmps,.e⟩,⟨.e,0,UNK⟩,[]⟩
def S1:St:=⟨⟨150,q0⟩,⟨.e,0,18446744073709551616⟩,[]⟩
def S2:St:=⟨⟨150,(jN jF (jN (jP 3) (jE q2) (jM (jM (jL q3) .e) .e)) (jM (jM (jM (jL q4) .e) q6) (jM q8 .e)))⟩,⟨(jN q9 (jN q10 (jL q10) .e) (jL q11)),4,1⟩,[]⟩
def S3:St:=⟨⟨150,(jN jF (jN (jP 3) (jM q13 q2) (jM q15 (jM (jL q16) .e))) (jN (jP 6) (jM q18 q6) (jM q8 q20)))⟩,⟨(jN q9 (jN q10 (jL q10) (jL q21)) (jN q11 (jL q22) (jL q23))),7,1⟩,[]⟩
def S4:St:=⟨⟨150,(jN jF (jN (jP 3) q25 (jM q15 q27)) (jN (jP 6) (jM q18 q29) q30))⟩,⟨(jN q9 (jN q10 (jN q10 (jL q31) .e) (jN q21 (jL q11) .e)) (jN q11 (jN q22 (jL q32) .e) q33)),11,1⟩,[]⟩
def S5:St:=⟨⟨150,(jN jF (jN (jP 3) q25 (jN j2 q15 q27)) (jN (jP 6) (jN j1 q18 q29) q30))⟩,⟨(jN q9 (jN q10 (jN q10 (jL q31) .e) (jN q21 (jL q11) .e)) (jN q11 (jN q22 (jL q32) .e) q33)),11,1⟩,[]⟩
def S6:St:=⟨⟨150,(jN jF (jN (jP 3) (jN (jP 10) (jM q35 (jL q12)) q38) (jN j2 (jM q40 (jL q14)) q27)) (jN (jP 6) (jN j1 (jM q42 q17) q29) (jN (jP 13) q43 (jM q19 (jL j2)))))⟩,⟨(jN q9 (jN q10 (jN q10 (jL q31) (jL q44)) q46) (jN q11 (jN q22 (jL q32) (jL q45)) q33)),14,1⟩,[]⟩
def S7:St:=⟨⟨150,(jN jF (jN (jP 3) (jN (jP 10) (jN (jP 16) q35 (jN q12 (jL q47) .e)) q38) (jN j2 (jM q40 (jN q14 (jL q49) .e)) (jM (jN q16 (jL q34) .e) (jL q26)))) (jN (jP 6) (jN j1 (jM q42 (jN (jS 5 1) (jL q48) .e)) (jM (jN q5 (jL j2) .e) q28)) (jN (jP 13) q43 (jM (jN (jS 4 1) (jL q50) .e) (jL j2)))))⟩,⟨(jN q9 (jN q10 q53 q46) (jN q11 q55 (jN q23 (jL q32) (jL q56)))),17,1⟩,[]⟩
def S8:St:=⟨⟨150,(jN jF (jN (jP 3) (jN (jP 10) (jN (jP 16) (jM q57 (jL q58)) (jN q12 q60 (jL j0))) (jM (jN (jS 0 3) q61 q0) q63)) (jN j2 (jM (jN q3 q64 q65) (jN q14 q66 q0)) (jM (jN q16 q67 (jL q14)) (jN q26 (jL q34) (jL q49))))) (jN (jP 6) (jN j1 (jM (jN q4 q68 (jL q69)) (jN (jS 5 1) q71 q0)) (jM (jN q5 q72 (jL q5)) (jN (jS 7 2) (jL j1) (jL q26)))) (jN (jP 13) (jM (jN q7 q73 q0) q75) (jM (jN (jS 4 1) q76 (jL q37)) (jN j2 (jL q41) (jL j0))))))⟩,⟨(jN q9 (jN q10 q78 q81) (jN q11 q83 q86)),21,1⟩,[]⟩
def S9:St:=⟨⟨150,(jN jF (jN (jP 3) (jN (jP 10) (jN (jP 16) (jM q57 (jL q58)) (jN q12 q60 (jL j0))) (jM (jN (jS 0 3) q61 q0) q63)) (jN j2 (jM (jN q3 q64 q65) (jN q14 q66 q0)) (jM (jN q16 q67 (jL q14)) (jN q26 (jL q34) (jL q49))))) (jN (jP 6) (jN j1 (jM (jN q4 q68 (jL q69)) (jN (jS 5 1) q71 q0)) (jM (jN q5 q72 (jL q5)) (jN (jS 7 2) (jL j1) (jL q26)))) (jN (jP 13) (jM (jN q7 q73 q0) q75) (jM (jN (jS 4 1) q76 (jL q37)) (jN j2 (jL q41) (jL j0))))))⟩,⟨(jN q9 (jN q10 q78 q81) (jN q11 q83 q86)),21,1⟩,[]⟩
def S10:St:=⟨⟨150,(jN jF (jN (jP 3) (jN (jP 10) (jN (jP 16) (jM q57 q87) q89) (jM q91 q63)) (jN j2 (jM q93 q95) (jM q97 (jN q26 q98 (jL q49))))) (jN (jP 6) (jN j1 (jM zwY zvL) (jM zwX (jN (jS 7 2) zwW (jL q26)))) (jN (jP 13) (jM zwV q75) (jM zwU (jN j2 zwT (jL j0))))))⟩,⟨(jN q9 (jN q10 q78 (jN q21 q80 (jN q45 (jL zwS) .e))) (jN q11 q83 (jN q23 q85 (jN q56 (jL zwR) .e)))),23,1⟩,[]⟩
def S11:St:=⟨⟨150,(jN jF (jN (jP 3) (jN (jP 10) (jN (jP 16) (jM q57 q87) q89) (jM q91 q63)) (jN j2 (jM q93 q95) (jM q97 (jN q26 q98 (jL q49))))) (jN (jP 6) (jN j1 (jM zwY zvL) (jM zwX (jN (jS 7 2) zwW (jL q26)))) (jN (jP 13) (jM zwV q75) (jM zwU (jN j2 zwT (jL j0))))))⟩,⟨(jN q9 (jN q10 q78 (jN q21 q80 (jN q45 (jL zwS) .e))) (jN q11 q83 (jN q23 q85 (jN q56 (jL zwR) .e)))),23,1⟩,[]⟩
def S12:St:=⟨⟨150,(jN jF (jN (jP 3) (jN (jP 10) zyh (jM q91 zyg)) (jN j2 (jN j0 q93 q95) zyc)) (jN (jP 6) (jN j1 (jN (jP 57) zwY zvL) (jM zwX zwQ)) (jN (jP 13) (jM zwV zyb) zyZ)))⟩,⟨(jN q9 zwO (jN q11 zwN (jN q23 (jN q32 zwM (jN zwL zsC .e)) zwK))),58,1⟩,[]⟩
def S13:St:=⟨⟨150,(jN jF (jN (jP 3) (jN (jP 10) zyh zyU) (jN j2 zyT zyc)) (jN (jP 6) (jN j1 (jN (jP 57) zyR zvL) (jM zyQ zwQ)) (jN (jP 13) zyP zyZ)))⟩,⟨(jN q9 zwO (jN q11 zwN (jN q23 (jN q32 zwM (jN zwL zsC .e)) zwK))),58,1⟩,[]⟩
def S14:St:=⟨⟨150,(jN jF (jN (jP 3) (jN (jP 10) (jN (jP 16) zyi (jN q12 (jN q47 (jL q59) (jL q16)) q88)) zyU) (jN j2 zyT (jN (jI 363) (jN q16 (jN q34 (jL q34) zyO) q96) zyd))) (jN (jP 6) (jN j1 (jN (jP 57) zyR (jN (jS 5 1) (jN q48 (jL q70) (jL (jI 363))) q94)) (jN (jP 58) zyQ zwQ)) (jN (jP 13) zyP (jM (jN (jS 4 1) (jN q50 (jL q47) zyO) zyj) zya))))⟩,⟨(jN q9 zwO (jN q11 zwN (jN q23 (jN q32 zwM (jN zwL zsC (jL (jR [j0,jZ] 32)))) zwK))),59,1⟩,[]⟩
def zr6:evC E0 R0 none (sub B13 [0]) S0=some [⟨.normal,S1⟩]:=by kernel_rfl
def zr5:evC E0 R0 none (sub B13 [1,0]) S1=some [⟨.normal,S2⟩]:=by kernel_rfl
def zr4:evC E0 R0 none (sub B13 [1,1,0]) S2=some [⟨.normal,S3⟩]:=by kernel_rfl
def zr3:evC E0 R0 none (sub B13 [1,1,1,0]) S3=some [⟨.normal,S4⟩]:=by kernel_rfl
def zr2:evC E0 R0 none (sub B13 [1,1,1,1,0]) S4=some [⟨.normal,S5⟩]:=by kernel_rfl
def zr1:evC E0 R0 none (sub B13 [1,1,1,1,1,0]) S5=some [⟨.normal,S6⟩]:=by kernel_rfl
def zr0:evC E0 R0 none (sub B13 [1,1,1,1,1,1,0]) S6=some [⟨.normal,S7⟩]:=by kernel_rfl
def zry:evC E0 R0 none (sub B13 [1,1,1,1,1,1,1,0,1]) S8=some [⟨.normal,S9⟩]:=by kernel_rfl
def zob:evC E0 R0 none (sub B13 [1,1,1,1,1,1,1,1,0,1]) S10=some [⟨.normal,S11⟩]:=by kernel_rfl
def zoa:evC E0 R0 none (sub B13 [1,1,1,1,1,1,1,1,1,0]) S11=some [⟨.normal,S12⟩]:=by kernel_rfl
def zoZ:evC E0 R0 none (sub B13 [1,1,1,1,1,1,1,1,1,1,0]) S12=some [⟨.normal,S13⟩]:=by kernel_rfl
def zoY:evC E0 R0 none (sub B13 [1,1,1,1,1,1,1,1,1,1,1,0]) S13=some [⟨.normal,S14⟩]:=by kernel_rfl
def zoX:zEl ⟨.e,0,UNK⟩ UNK (AM.R.andThen (evC E0 R0 none (sub B13 [1,1,1,1,1,1,1,1,1,1,1,1]) S14) (zAU E0 Tryz.f13))=some [(.bool true,⟨.e,0,UNK⟩)]:=by kernel_rfl
end Go.Proofs
