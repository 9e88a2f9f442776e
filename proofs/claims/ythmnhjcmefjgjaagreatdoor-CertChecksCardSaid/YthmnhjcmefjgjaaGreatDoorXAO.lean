import Derived.Test.YthmnhjcmefjgjaaGreatDoorXAM
set_option linter.all false
set_option linter.unusedSectionVars false
set_option autoImplicit true
set_option relaxedAutoImplicit true
set_option maxRecDepth 100000
set_option maxHeartbeats 1000000
namespace Go.Proofs
open Go Go.AM
def Tryz.noEscape:∀ x w,(callFunc 172 #[x]).run Tryz.prog w=.ok (.value x) w:=by intro x w;kernel_rfl
def Tryz.indexByte:∀(s:ByteArray) (c:Int) w,(callFunc 284 #[.string s,.int .u8 c]).run Tryz.prog w=(Extern.BytealgIndexByte.indexByte #[.string s,.int .u8 c] >>= λ v=>pure (Next.value v)).run Tryz.prog w:=by intro s c w;kernel_rfl
def Tryz.ext_get{sum:FuncId->List Value->AH->Option (List (Value×AH))}(f:FuncId)(c:Nat)(h:(zIl Tryz.prog [(172,1),(284,2)] sum).tab.ext.get f=some c):(f=172/\c=1)\/(f=284/\c=2):=by
 have:=zXp _ h;simpa using this
def Tryz.extOK{sum:FuncId->List Value->AH->Option (List (Value×AH))}(bh:∀ f args h outs,sum f args h=some outs->(∀ lo σ w args',HR lo σ h w->VRs σ args args'->CallsIn Fence.wide 0 Tryz.prog f args'.toArray w (Ret (zFw lo σ w outs)))/\zCT h outs):zOp (zIl Tryz.prog [(172,1),(284,2)] sum):=by
 refine⟨bh,λ f c h=>?_,λ f h x w=>?_,λ f h s c w=>?_⟩
 ·rcases Tryz.ext_get f c h with ⟨_,rfl⟩|⟨_,rfl⟩
  ·exact .inl rfl
  ·exact .inr rfl
 ·rcases Tryz.ext_get f 1 h with ⟨rfl,_⟩|⟨_,h⟩
  ·exact Tryz.noEscape x w
  ·cases h
 ·rcases Tryz.ext_get f 2 h with ⟨_,h⟩|⟨rfl,_⟩
  ·cases h
  ·show (callFunc 284 _).run Tryz.prog w=_;rw[Tryz.indexByte];simp only[xCs,Lib.run_indexByteString,xBj,xCt,zM4]
end Go.Proofs
