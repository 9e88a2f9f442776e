import GoSem.Step
import Derived.RangeFuncIn
import Derived.RangeFuncLeaves
import Derived.RowKit
import Derived.Below
import Derived.Laws.CopyRow
import Derived.ChangeKeysEq
import Derived.Laws.Entries
import Derived.Orders
import Derived.Laws.Tables
set_option linter.all false
set_option linter.unusedSectionVars false
set_option autoImplicit true
set_option relaxedAutoImplicit true
namespace Go.Proofs
open Go
def xAR:=@List.take_append_of_le_length
def xAS:=@Array.getElem?_setIfInBounds
def xAT:=@Array.getD_eq_getD_getElem?
def xAU:=@List.drop_length_add_append
def xAV:=@Array.getElem?_eq_some_iff
def xAW:=@Array.toList_setIfInBounds
def xAX:=@List.getElem?_append_right
def xAY:=@Int.fdiv_eq_ediv_of_nonneg
def xAZ:=@List.drop_eq_getElem_cons
def xAa:=@Array.getElem?_eq_getElem
def xAb:=@List.getElem?_append_left
def xAc:=@List.getElem?_eq_some_iff
def xAd:=@Classical.byContradiction
def xAe:=@List.pairwise_iff_getElem
def xAf:=@List.getElem?_eq_none_iff
def xAg:=@List.getElem?_take_of_lt
def xAh:=@Bool.eq_false_or_eq_true
def xAi:=@Nat.lt_succ_iff_lt_or_eq
def xAj:=@List.getElem?_cons_succ
def xAk:=@decide_eq_false_iff_not
def xAl:=@List.getElem?_cons_zero
def xAm:=@List.length_eq_zero_iff
def xAn:=@List.filter_cons_of_neg
def xAo:=@List.filter_cons_of_pos
def xAp:=@Int.eq_ofNat_of_zero_le
def xAq:=@List.getElem?_replicate
def xAr:=@Option.bind_eq_some_iff
def xAs:=@List.drop_eq_nil_of_le
def xAt:=@List.getElem?_set_self
def xAu:=@Option.map_eq_some_iff
def xAv:=@List.drop_of_length_le
def xAw:=@Nat.eq_of_beq_eq_true
def xAx:=@List.getElem?_eq_none
def xAy:=@List.mem_iff_getElem?
def xAz:=@Array.getElem?_toList
def xBA:=@List.getElem?_toArray
def xBB:=@List.mem_append_right
def xBC:=@List.length_replicate
def xBD:=@List.take_append_drop
def xBE:=@List.getElem?_append
def xBF:=@Array.mem_toList_iff
def xBG:=@List.mem_cons_of_mem
def xBH:=@Nat.mul_le_mul_right
def xBI:=@List.mem_of_getElem?
def xBJ:=@Bool.or_eq_false_iff
def xBK:=@List.mem_append_left
def xBL:=@List.mem_of_mem_drop
def xBM:=@List.getElem?_set_ne
def xBN:=@List.getElem?_of_mem
def xBO:=@List.pairwise_append
def xBP:=@List.take_succ_cons
def xBQ:=@Array.length_toList
def xBR:=@Array.toList_append
def xBS:=@List.filter_eq_self
def xBT:=@List.map_congr_left
def xBU:=@List.flatMap_append
def xBV:=@List.mem_singleton
def xBW:=@List.getElem?_drop
def xBX:=@Bool.false_eq_true
def xBY:=@List.length_append
def xBZ:=@List.mem_cons_self
def xBa:=@Option.isSome_some
def xBb:=@Option.toList_none
def xBc:=@Option.toList_some
def xBd:=@Bool.false_ne_true
def xBe:=@of_decide_eq_false
def xBf:=@List.pairwise_cons
def xBg:=@Option.isSome_none
def xBh:=@List.filter_append
def xBi:=@List.getElem?_map
def xBj:=@Result.andThen_ok
def xBk:=@not_true_eq_false
def xBl:=@decide_eq_true_eq
def xBm:=@of_decide_eq_true
def xBn:=@Int.toNat_natCast
def xBo:=@List.ext_getElem?
def xBp:=@List.getElem?_set
def xBq:=@Bool.not_eq_true'
def xBr:=@List.nodup_append
def xBs:=@List.append_assoc
def xBt:=@List.size_toArray
def xBu:=@Value.slice.injEq
def xBv:=@List.flatMap_cons
def xBw:=@List.take_add_one
def xBx:=@not_false_eq_true
def xBy:=@List.flatten_cons
def xBz:=@List.pairwise_map
def xCA:=@Nat.lt_succ_self
def xCB:=@List.all_eq_true
def xCC:=@Array.toList_inj
def xCD:=@List.length_take
def xCE:=@List.length_drop
def xCF:=@List.getElem_mem
def xCG:=@List.length_cons
def xCH:=@Option.getD_some
def xCI:=@Option.bind_some
def xCJ:=@exists_eq_or_imp
def xCK:=@List.any_eq_true
def xCL:=@List.cons_append
def xCM:=@List.mem_flatMap
def xCN:=@List.not_mem_nil
def xCO:=@decide_eq_decide
def xCP:=@Nat.le_add_right
def xCQ:=@List.take_length
def xCR:=@List.length_nil
def xCS:=@Option.map_some
def xCT:=@Bool.eq_iff_iff
def xCU:=@List.mem_append
def xCV:=@List.nodup_cons
def xCW:=@List.mem_filter
def xCX:=@List.map_append
def xCY:=@List.length_map
def xCZ:=@Bool.or_eq_true
def xCa:=@List.nil_append
def xCb:=@List.append_nil
def xCc:=@Option.some.inj
def xCd:=@List.cons.injEq
def xCe:=@List.drop_zero
def xCf:=@Bool.false_and
def xCg:=@List.mem_cons
def xCh:=@Nat.add_assoc
def xCi:=@List.map_cons
def xCj:=@List.all_cons
def xCk:=@Bool.true_and
def xCl:=@Prod.mk.injEq
def xCm:=@Bool.and_self
def xCn:=@Bool.false_or
def xCo:=@Addr.mk.injEq
def xCp:=@Nat.beq_refl
def xCq:=@Nat.lt_or_ge
def xCr:=@Nat.le_of_eq
def xCs:=@Sem.run_bind
def xCt:=@Sem.run_pure
def xCu:=@Nat.add_zero
def xCv:=@List.mem_map
def xCw:=@getElem!_pos
def xCx:=@Nat.le_trans
def xCy:=@List.map_nil
def xCz:=@decide_false
def xDA:=@Int.zero_add
def xDB:=@Bool.true_or
def xDC:=@exists_congr
def xDD:=@Sem.run_ite
def xDE:=@Nat.add_mul
def xDF:=@Nat.zero_le
def xDG:=@decide_true
def xDH:=@Array.ext'
def xDI:=@if_false
def xDJ:=@true_and
def xDK:=@or_false
def xDL:=@and_true
def xDM:=@if_true
def xDN:=@if_neg
def xDO:=@if_pos
end Go.Proofs
namespace Go.Proofs
theorem xAA {α:Type _} {l:List α} {i:Nat} (h:i<l.length):l[i]?=some l[i]:=List.getElem?_eq_getElem h
theorem xAC {n m k:Nat}:n<m->m<=k->n<k:=Nat.lt_of_lt_of_le
theorem xAD {α:Type _} {i:Nat} {l:List α} (h:l.length<=i):l.take i=l:=List.take_of_length_le h
theorem xAE {α:Type _} {a b:α}:a∈[b] ↔ a=b:=xBV
theorem xAF (n:Nat):n<=n:=Nat.le_refl n
theorem xAG {α:Sort _} (a b:α):cond true a b=a:=cond_true a b
theorem xAH {α:Sort _} (a b:α):cond false a b=b:=cond_false a b
theorem xAI {p:Prop} [i:Decidable p]:¬p->decide p=false:=decide_eq_false
theorem xAJ {p:Prop} [i:Decidable p]:p->decide p=true:=decide_eq_true
theorem xAK (n:Nat):0+n=n:=Nat.zero_add n
theorem xAL:(!true)=false:=Bool.not_true
theorem xAM:(!false)=true:=Bool.not_false
theorem xAN {α:Type _} (a b:α):(some a=some b)=(a=b):=Option.some.injEq a b
theorem xAO {α:Type _} [BEq α] [ReflBEq α] (a:α):(a==a)=true:=beq_self_eq_true a
theorem xAP (a b:Bool):((a&&b)=true)=(a=true/\b=true):=Bool.and_eq_true a b
theorem xAQ {α:Type _} {b a:α} {l:List α}:a∈b::l ↔ a=b\/a∈l:=xCg
end Go.Proofs
set_option maxRecDepth 100000
set_option maxHeartbeats 1000000
noncomputable section
section
section
namespace Go.AM
open Go Go.Proofs
inductive Tr(α:Type) where
 | e
 | n (v:Option α) (l r:Tr α)
def Tr.get{α:Type}(t:Tr α):Nat->Option α:=
 Tr.rec (motive:=λ _=>Nat->Option α) (λ _=>none)
  (λ v _ _ gl gr k=>Bool.rec (motive:=λ _=>Option α) (Bool.rec (motive:=λ _=>Option α) (gr (Nat.sub (Nat.div k (nat_lit 2)) (nat_lit 1))) (gl (Nat.div k (nat_lit 2))) (Nat.beq (Nat.mod k (nat_lit 2)) (nat_lit 1))) v (Nat.beq k (nat_lit 0))) t
def Tr.set{α:Type}(f:Nat)(t:Tr α)(k:Nat)(x:Option α):Tr α:=
 Nat.rec (motive:=λ _=>Tr α->Nat->Tr α) (λ t _=>t)
  (λ _ ih t k=>Bool.rec (motive:=λ _=>Tr α)
   (Bool.rec (motive:=λ _=>Tr α)
    (Tr.rec (motive:=λ _=>Tr α) (.n none .e (ih .e (Nat.sub (Nat.div k (nat_lit 2)) (nat_lit 1)))) (λ v l r _ _=>.n v l (ih r (Nat.sub (Nat.div k (nat_lit 2)) (nat_lit 1)))) t)
    (Tr.rec (motive:=λ _=>Tr α) (.n none (ih .e (Nat.div k (nat_lit 2))) .e) (λ v l r _ _=>.n v (ih l (Nat.div k (nat_lit 2))) r) t)
    (Nat.beq (Nat.mod k (nat_lit 2)) (nat_lit 1)))
   (Tr.rec (motive:=λ _=>Tr α) (.n x .e .e) (λ _ l r _ _=>.n x l r) t)
   (Nat.beq k (nat_lit 0))) f t k
mutual
def zrL{α:Type}:List α->List α
 | []=>[]
 | a::aas=>a::zXq aas
def zXq{α:Type}:List α->List α
 | []=>[]
 | _::aas=>zrL aas
end
def Tr.ofList{α:Type}:Nat->List α->Tr α
 | 0,_=>.e
 | _,[]=>.e
 | f+1,a::aas=>.n (some a) (Tr.ofList f (zrL aas)) (Tr.ofList f (zXq aas))
structure TI where
 desc:TypeDesc
 size:Nat
 bytes:Nat
 zero:Option Value
 agg:Bool
structure Tab where
 ty:Tr TI
 fn:Tr Func
 ext:Tr Nat
structure Tm where
 n:Nat
 t:Tr Value
def Tm.get(T:Tm)(k:Nat):Value:=(T.t.get k).getD undef
def Tm.put(T:Tm)(k:Nat)(v:Value):Tm:=⟨T.n,T.t.set (k+1) k (some v)⟩
inductive AObj where
 | row (vs:List Value) (ty:TypeId) (es:Nat) (ro:Bool)
 | map (es:List (Value×Value)) (ver:Nat)
 | iter (m:Option Nat) (ver:Nat) (left:List (Value×Value)) (cur:Option (Value×Value))
 | loop (st:LoopState) (pend:Option Code) (T:Tm) (params:List Tmp) (assign body:Code) (d:Nat)
 | defd
structure AH where
 t:Tr AObj
 qa:Nat
 wm:Nat
def AH.get(h:AH)(b:Nat):Option AObj:=h.t.get b
def AH.new(h:AH)(o:AObj):AH:=⟨h.t.set (h.qa+1) h.qa (some o),h.qa+1,h.wm⟩
def AH.upd(h:AH)(b:Nat)(o:Option AObj):AH:=⟨h.t.set (b+1) b o,h.qa,cond (Nat.ble h.wm b) h.wm b⟩
def UNK:Nat:=2 ^ 64
def zAQ(P:Program){α:Type}:Sem α->Option α
 | .pure a=>some a
 | .program k=>zAQ P (k P)
 | .mark _ k=>zAQ P k
 | _=>none
def zEe:Nat->Value->Bool
 | _,.pointer (some _)=>false
 | _,.slice (some _) _ _=>false
 | _,.map (some _)=>false
 | _,.chan (some _)=>false
 | 0,.func _ _ _=>false
 | n+1,.func (.func _) a b=>a.toList.all (zEe n)&&b.toList.all (zEe n)
 | _+1,.func _ _ _=>false
 | 0,.iface _ _=>false
 | n+1,.iface _ v=>zEe n v
 | 0,.agg _=>false
 | n+1,.agg a=>a.toList.all (zEe n)
 | 0,.tuple _=>false
 | n+1,.tuple a=>a.toList.all (zEe n)
 | _,_=>true
def zm(v:Value):Bool:=match v with
 | .int _ _=>true
 | .bool _=>true
 | .string _=>true
 | v=>zEe 4 v
mutual
def veq:Nat->Value->Value->Bool
 | _,.bool a,.bool b=>a==b
 | _,.int k a,.int l b=>decide (k=l)&&decide (a=b)
 | _,.string a,.string b=>a==b
 | _,.pointer a,.pointer b=>decide (a=b)
 | _,.slice a n c,.slice b m d=>decide (a=b)&&Nat.beq n m&&Nat.beq c d
 | _,.map a,.map b=>decide (a=b)
 | _,.nilFunc,.nilFunc=>true
 | _,.nilIface,.nilIface=>true
 | f+1,.func g a b,.func g' a' b'=>decide (g=g')&&zHl f a.toList a'.toList&&zHl f b.toList b'.toList
 | f+1,.iface t v,.iface t' v'=>Nat.beq t t'&&veq f v v'
 | f+1,.agg a,.agg b=>zHl f a.toList b.toList
 | f+1,.tuple a,.tuple b=>zHl f a.toList b.toList
 | _,_,_=>false
def zHl:Nat->List Value->List Value->Bool
 | _,[],[]=>true
 | f+1,a::aas,b::bs=>veq f a b&&zHl f aas bs
 | _,_,_=>false
end
structure St where
 T:Tm
 h:AH
 defs:List Nat
inductive Ex where
 | normal
 | exit (id:Nat)
 | ret
structure Out where
 ex:Ex
 st:St
def zAj(T:Tm):Operand->Option Value
 | .tmp t=>some (T.get t)
 | .const v=>if zm v then some v else none
 | .global _=>none
 | .func f=>some (.func (.func f) #[] #[])
def rho(T:Tm):Operand->Value
 | .tmp t=>T.get t
 | .const v=>v
 | .global g=>.pointer (some ⟨g,0,none⟩)
 | .func f=>.func (.func f) #[] #[]
def zr(T:Tm):Operand->Bool
 | .tmp t=>zm (T.get t)
 | .const v=>zm v
 | .global _=>false
 | .func _=>true
abbrev R(α:Type):=Option (List α)
def one{α:Type}(a:α):R α:=some [a]
def bindL{α β:Type}(f:α->R β):List α->R β
 | []=>some []
 | a::aas=>match f a with
  | none=>none
  | some bs=>match bindL f aas with
   | none=>none
   | some cs=>some (bs++cs)
def R.andThen{α β:Type}(x:R α)(f:α->R β):R β:=
 match x with
 | none=>none
 | some [a]=>f a
 | some l=>bindL f l
structure Rec where
 call:FuncId->List Value->AH->R (Value×AH)
 loop:Option Nat->Code->St->R Out
 round:Nat->List Value->AH->R (Value×AH)
structure Env where
 prog:Program
 tab:Tab
 sum:FuncId->List Value->AH->Option (List (Value×AH))
section
variable (P:Env)
def zC6(t:TypeId):Option TI:=P.tab.ty.get t
def und(t:TypeId):Option TypeDesc:=match P.tab.ty.get t with
 | some i=>some i.desc
 | none=>none
def zAW(t:TypeId):Option Nat:=match P.tab.ty.get t with
 | some i=>some i.size
 | none=>none
def zC8(t:TypeId):Option TypeId:=match und P t with
 | some (.slice e)=>some e
 | _=>none
def zFU{α:Type}:Nat->List α->List α
 | 0,_=>[]
 | _+1,[]=>[]
 | n+1,a::aas=>a::zFU n aas
def zG3{α:Type}:Nat->List α->List α
 | 0,l=>l
 | _+1,[]=>[]
 | n+1,_::aas=>zG3 n aas
def zBU{α:Type}:List α->Nat
 | []=>0
 | _::aas=>zBU aas+1
def lnth{α:Type}:List α->Nat->Option α
 | [],_=>none
 | a::_,0=>some a
 | _::aas,n+1=>lnth aas n
def lput{α:Type}:List α->Nat->List α->List α
 | l,_,[]=>l
 | [],_,_=>[]
 | a::aas,o+1,ws=>a::lput aas o ws
 | _::aas,0,w::ws=>w::lput aas 0 ws
def zd(v:Value):List Value:=match v with
 | .agg cs=>cs.toList
 | v=>[v]
def zl(v:Value):Bool:=match v with
 | .agg _=>false
 | .tuple _=>false
 | _=>true
def zC1(t:TypeId)(v:Value)(h:AH):Option Value:=
 match v with
 | .pointer (some ⟨b,o,none⟩)=>
  match h.get b with
  | some (.row vs _ _ _)=>
   match zC6 P t with
   | some i=>if i.agg then (let cs:=zFU i.size (zG3 o vs);if Nat.beq (zBU cs) i.size then some (.agg ⟨cs⟩) else none) else lnth vs o
   | none=>none
  | _=>none
 | _=>none
def zJy(t:TypeId)(v x:Value)(h:AH):Option AH:=
 match v with
 | .pointer (some ⟨b,o,none⟩)=>
  match h.get b with
  | some (.row vs ty es false)=>
   let cs:=zd x
   match zAW P t with
   | some s=>if Nat.beq (zBU cs) s&&Nat.ble (o+s) (zBU vs)&&cs.all zl then some (h.upd b (some (.row (lput vs o cs) ty es false))) else none
   | none=>none
  | _=>none
 | _=>none
def zAh(t:TypeId):Option Value:=match P.tab.ty.get t with
 | some i=>i.zero
 | none=>none
def rep{α:Type}:Nat->List α->List α
 | 0,_=>[]
 | n+1,l=>l++rep n l
def newRow(cs:List Value)(ty:TypeId)(h:AH):Value×AH:=(.pointer (some ⟨h.qa,0,none⟩),h.new (.row cs ty 0 false))
def zBG(size:Nat)(v:Value)(h:AH):Option (Nat×List Value):=
 match v with
 | .slice none 0 _=>some (0,[])
 | .slice (some ⟨b,o,none⟩) n _=>
  match h.get b with
  | some (.row vs _ _ _)=>let cs:=zFU (n*size) (zG3 o vs);if Nat.beq (zBU cs) (n*size) then some (n,cs) else none
  | _=>if Nat.beq n 0 then some (0,[]) else none
 | .slice (some ⟨_,_,some _⟩) 0 _=>some (0,[])
 | .string s=>if Nat.beq size 1 then some (s.size,s.data.toList.map λ b=>.int .u8 b.toNat) else none
 | _=>none
def zE0(v:Value):Option Nat:=match v with
 | .int _ i=>match i with | .ofNat n=>some n|_=>none
 | _=>none
def zFb(d:TypeDesc):Bool:=match d with
 | .int _=>true
 | _=>false
def zF9(i:TI):Bool:=Nat.ble 1 i.size&&Nat.ble i.bytes 1000000&&(match i.zero with
 | some z=>Nat.beq (zBU (zd z)) i.size
 | none=>false)
def zA2(elem:TypeId)(size:Nat)(n:Nat)(cs:List Value)(h:AH):Option (Value×AH):=
 cond (Nat.ble n 1000000)
  (some (.slice (some ⟨h.qa,0,none⟩) n (UNK+size),h.new (.row cs elem size false))) none
def zFR(b o len n cap at_:Nat)(cs vs:List Value)(ty:TypeId)(es:Nat)(h:AH):Option (Value×AH):=
 cond (cs.all zl&&Nat.ble (at_+zBU cs) (zBU vs)) (some (.slice (some ⟨b,o,none⟩) (len+n) cap,h.upd b (some (.row (lput vs at_ cs) ty es false)))) none
def zEE(b:Nat)(elem:TypeId)(size:Nat)(n:Nat)(own cs:List Value)(h:AH):Option (Value×AH):=
 cond (cs.all zl) (zA2 elem size n (own++cs) (h.upd b none)) none
def zED(b o len cap:Nat)(elem:TypeId)(size n:Nat)(cs:List Value)(vs:List Value)(ty:TypeId)(es:Nat)(h:AH):Option (Value×AH):=
 cond (Nat.ble (o+(len+n)*size) (zBU vs)) (zFR b o len n cap (o+len*size) cs vs ty es h)
  (cond (Nat.beq (o+len*size) (zBU vs)) (zEE b elem size (len+n) (zFU (len*size) (zG3 o vs)) cs h) none)
def zCs(b o len cap:Nat)(elem:TypeId)(size n:Nat)(cs:List Value)(vs:List Value)(ty:TypeId)(es:Nat)(ro:Bool)(h:AH):Option (Value×AH):=
 match Nat.ble UNK cap with
 | true=>cond (Nat.beq cap (UNK+size)&&Nat.beq es size&&!ro&&Nat.beq ty elem) (zED b o len cap elem size n cs vs ty es h) none
 | false=>cond (Nat.ble (len+n) cap) (cond ro none (zFR b o len n cap (o+len*size) cs vs ty es h))
   (cond (Nat.beq (zBU (zFU (len*size) (zG3 o vs))) (len*size)) (zA2 elem size (len+n) (zFU (len*size) (zG3 o vs)++cs) h) none)
def zBj(elem:TypeId)(size:Nat)(s:Value)(n:Nat)(cs:List Value)(h:AH):Option (Value×AH):=
 match s with
 | .slice none 0 0=>cond (Nat.beq n 0) (some (s,h)) (zA2 elem size n cs h)
 | .slice (some ⟨b,o,none⟩) len cap=>
  cond (Nat.beq n 0) (cond (Nat.ble len cap) (some (s,h)) none) (match h.get b with
  | some (.row vs ty es ro)=>zCs b o len cap elem size n cs vs ty es ro h
  | _=>none)
 | _=>none
def zCQ(i:TI)(elem:TypeId)(s x:Value)(h:AH):Option (Value×AH):=match zBG i.size x h with
 | some (n,cs)=>cond (zF9 i) (zBj elem i.size s n cs h) none
 | none=>none
def zBD(argTypes:List TypeId)(s x:Value)(h:AH):Option (Value×AH):=
 match argTypes with
 | sT::xT::_=>(match zC8 P sT,und P xT with
  | some elem,some d=>cond (zFb d) none (match zC6 P elem with
   | some i=>zCQ i elem s x h
   | none=>none)
  | _,_=>none)
 | _=>none
def zGK(v:Option Value)(d:Nat):Option Nat:=match v with
 | some v=>zE0 v
 | none=>some d
def zGe(a:Option Addr)(k:Nat):Option Addr:=match a with
 | some a=>some ⟨a.block,a.off+k,none⟩
 | none=>none
def zhC(size:Nat)(a:Option Addr)(len cap l h:Nat):Option Value:=
 cond (Nat.ble l h) (match Nat.ble UNK cap with
  | true=>cond (a.isSome&&Nat.ble h len&&Nat.beq cap (UNK+size)) (cond (Nat.beq l 0) (some (.slice a h cap)) (cond (Nat.ble len l) none (some (.slice (zGe a (l*size)) (h-l) cap)))) none
  | false=>cond (Nat.ble h cap) (some (.slice (cond (Nat.beq cap l) a (zGe a (l*size))) (h-l) (cap-l))) none) none
def zys(size:Nat)(a:Option Addr)(len cap l h m:Nat):Option Value:=
 cond (Nat.ble l h&&Nat.ble h m&&cond (Nat.ble UNK cap) (a.isSome&&Nat.ble m len) (Nat.ble m cap)&&Nat.ble (m+1) UNK) (some (.slice (cond (Nat.beq m l) a (zGe a (l*size))) (h-l) (m-l))) none
def sliceS(elem:TypeId)(a:Option Addr)(len cap:Nat)(lo hi mx:Option Value):Option Value:=
 match zAW P elem,zGK lo 0,zGK hi len with
 | some size,some l,some h=>(match mx with
  | none=>zhC size a len cap l h
  | some m=>(match zE0 m with
   | some m=>zys size a len cap l h m
   | none=>none))
 | _,_,_=>none
def zmw(elem:TypeId)(a:Addr)(n:Nat)(lo hi mx:Option Value):Option Value:=
 match zAW P elem,zGK lo 0,zGK hi n,mx with
 | some size,some l,some h,none=>cond (Nat.ble l h&&Nat.ble h n&&Nat.ble (n+1) UNK) (some (.slice (cond (Nat.beq n l) (some a) (zGe (some a) (l*size))) (h-l) (n-l))) none
 | _,_,_,_=>none
def zEk(t:TypeId)(x:Value)(lo hi mx:Option Value):Option Value:=
 match und P t,x with
 | some (.slice elem),.slice a len cap=>sliceS P elem a len cap lo hi mx
 | some (.array n elem),.pointer (some a)=>zmw P elem a n lo hi mx
 | _,_=>none
def zD7(t:TypeId)(x i:Value):Option Value:=
 match und P t,x,zE0 i with
 | some (.slice elem),.slice (some a) len _,some k=>(match zAW P elem with
  | some size=>cond (Nat.ble (k+1) len) (some (.pointer (some ⟨a.block,a.off+k*size,none⟩))) none
  | none=>none)
 | some (.array len elem),.pointer (some a),some k=>(match zAW P elem with
  | some size=>cond (Nat.ble (k+1) len) (some (.pointer (some ⟨a.block,a.off+k*size,none⟩))) none
  | none=>none)
 | _,_,_=>none
def zHC(t:TypeId)(x:Value)(f:Nat):Option Value:=
 match und P t,x with
 | some (.struct fs),.pointer (some a)=>
  (match lnth fs.toList f with
  | some fd=>(match zAW P fd.type with
   | some (_+1)=>some (.pointer (some ⟨a.block,a.off+fd.offset,none⟩))
   | _=>none)
  | none=>none)
 | _,_=>none
def ieq:Int->Int->Bool
 | .ofNat m,.ofNat n=>Nat.beq m n
 | .negSucc m,.negSucc n=>Nat.beq m n
 | _,_=>false
def ile:Int->Int->Bool
 | .ofNat m,.ofNat n=>Nat.ble m n
 | .negSucc m,.negSucc n=>Nat.ble n m
 | .negSucc _,.ofNat _=>true
 | .ofNat _,.negSucc _=>false
def zCv(k:IntKind)(n:Int):Int:=
 match k,n with
 | .i64,.ofNat m=>if Nat.ble m 9223372036854775807 then .ofNat m else k.wrap (.ofNat m)
 | .i64,.negSucc m=>if Nat.ble m 9223372036854775807 then .negSucc m else k.wrap (.negSucc m)
 | _,n=>k.wrap n
def keq:IntKind->IntKind->Bool
 | .i64,.i64=>true
 | .u8,.u8=>true
 | a,b=>decide (a=b)
def zBE:List Value->List Value->Option Bool
 | [],[]=>some true
 | .int k a::aas,.int l b::bs=>if keq k l then (if ieq a b then zBE aas bs else match zBE aas bs with|some _=>some false|none=>none) else none
 | _,_=>none
def zCJ(kt:TypeId)(a b:Value):Option Bool:=
 match a,b with
 | .int k x,.int l y=>(match und P kt with
  | some (.int _)=>cond (keq k l) (some (ieq x y)) none
  | _=>none)
 | .agg x,.agg y=>(match und P kt with
  | some (.array n e)=>(match und P e,zAW P e with
   | some (.int _),some 1=>cond (Nat.beq (zBU x.toList) n) (zBE x.toList y.toList) none
   | _,_=>none)
  | _=>none)
 | _,_=>none
def zL5:List Value->Bool
 | []=>true
 | .int _ _::vs=>zL5 vs
 | _=>false
def zEn(kt:TypeId)(a:Value):Bool:=
 match a with
 | .int _ _=>(match und P kt with
  | some (.int _)=>true
  | _=>false)
 | .agg x=>(match und P kt with
  | some (.array n e)=>(match und P e,zAW P e with
   | some (.int _),some 1=>Nat.beq (zBU x.toList) n&&zL5 x.toList
   | _,_=>false)
  | _=>false)
 | _=>false
def zAe(kt:TypeId)(k:Value):List (Value×Value)->Option (Option Value)
 | []=>some none
 | (k',v)::es=>match zCJ P kt k k',zAe kt k es with
  | some true,some none=>some (some v)
  | some false,some r=>some r
  | _,_=>none
def klt:Value->Value->Bool
 | .int _ a,.int _ b=>decide (a<b)
 | .agg a,.agg b=>go a.toList b.toList
 | _,_=>false
where go:List Value->List Value->Bool
 | .int _ a::aas,.int _ b::bs=>decide (a<b)||(decide (a=b)&&go aas bs)
 | _,_=>false
def zBC(k v:Value):List (Value×Value)->List (Value×Value)
 | []=>[(k,v)]
 | (k',v')::es=>if klt k k' then (k,v)::(k',v')::es else (k',v')::zBC k v es
def zBx(kt:TypeId)(k v:Value):List (Value×Value)->Option (List (Value×Value))
 | []=>some []
 | (k',v')::es=>match zCJ P kt k k',zBx kt k v es with
  | some true,some r=>if veq 3 k k' then some ((k',v)::r) else none
  | some false,some r=>some ((k',v')::r)
  | _,_=>none
def zMs(t:TypeId):Option (TypeId×TypeId):=match und P t with
 | some (.map k e)=>some (k,e)
 | _=>none
def zEA(x:Value)(h:AH):Option (List (Value×Value)):=match x with
 | .map none=>some []
 | .map (some b)=>(match h.get b with|some (.map es _)=>some es|_=>none)
 | _=>none
def okV(ok:Bool)(v:Value)(is:Bool):Value:=cond ok (.tuple #[v,.bool is]) v
def zEt(et:TypeId)(ok:Bool)(r:Option (Option Value)):Option Value:=match r with
 | some (some v)=>some (okV ok v true)
 | some none=>(match zAh P et with
  | some z=>some (okV ok z false)
  | none=>none)
 | none=>none
def zFm(t:TypeId)(x k:Value)(ok:Bool)(h:AH):Option Value:=
 match zMs P t,zEA x h with
 | some (kt,et),some es=>cond (zEn P kt k) (zEt P et ok (zAe P kt k es)) none
 | _,_=>none
def zBe(kt:TypeId)(k v:Value)(es:List (Value×Value)):Option (List (Value×Value)):=match zAe P kt k es with
 | some (some _)=>zBx P kt k v es
 | some none=>some (zBC k v es)
 | none=>none
def zA8(t:TypeId)(m k v:Value)(h:AH):Option AH:=
 match zMs P t,m with
 | some (kt,_),.map (some b)=>
  (match h.get b with
  | some (.map es ver)=>cond (zEn P kt k&&zm k) (match zBe P kt k v es with
   | some es'=>some (h.upd b (some (.map es' (ver+1))))
   | none=>none) none
  | _=>none)
 | _,_=>none
def zLJ{α:Type}:List α->List α->List (α×List α)
 | _,[]=>[]
 | pre,a::aas=>(a,pre++aas)::zLJ (pre++[a]) aas
def zWs(it:Value)(isString:Bool)(h:AH):R (Value×AH):=
 match it,isString with
 | .pointer (some ⟨b,0,none⟩),false=>
  match h.get b with
  | some (.iter none _ _ _)=>one (.tuple #[.bool false],h)
  | some (.iter (some m) ver left _)=>
   match h.get m with
   | some (.map _ ver')=>
    if !Nat.beq ver ver' then none else
    match left with
    | []=>one (.tuple #[.bool false],h)
    | _=>some ((zLJ [] left).map λ (e,rest)=>(.tuple #[.bool true,e.1,e.2],h.upd b (some (.iter (some m) ver rest (some e)))))
   | _=>none
  | _=>none
 | _,_=>none
def zRd(it:Value)(h:AH):Option Value:=
 match it with
 | .pointer (some ⟨b,0,none⟩)=>
  match h.get b with
  | some (.iter (some m) ver _ (some e))=>
   match h.get m with
   | some (.map _ ver')=>if Nat.beq ver ver' then some (.tuple #[e.1,e.2]) else none
   | _=>none
  | _=>none
 | _=>none
def zsu(e:TypeId)(a b:Addr):Option Bool:=match zAW P e with
 | some (_+1)=>cond (Nat.beq a.block b.block) (some (Nat.beq a.off b.off)) none
 | _=>none
def eqV(t:TypeId)(x y:Value):Option Bool:=
 match und P t,x,y with
 | some (.pointer _),.pointer none,.pointer b=>some b.isNone
 | some (.pointer _),.pointer (some _),.pointer none=>some false
 | some (.pointer e),.pointer (some a),.pointer (some b)=>zsu P e a b
 | some (.slice _),.slice none _ _,.slice b _ _=>some b.isNone
 | some (.slice _),.slice (some _) _ _,.slice none _ _=>some false
 | some (.map _ _),.map none,.map b=>some b.isNone
 | some (.map _ _),.map (some _),.map none=>some false
 | some (.func _ _ _),.nilFunc,.nilFunc=>some true
 | some (.func _ _ _),.nilFunc,.func _ _ _=>some false
 | some (.func _ _ _),.func _ _ _,.nilFunc=>some false
 | _,_,_=>none
def zBu(T:Tm):List Operand->Option (List Value)
 | []=>some []
 | x::xs=>match zAj T x,zBu T xs with
  | some v,some vs=>some (v::vs)
  | _,_=>none
def zHn(T:Tm):List (Nat×Operand)->Option (List (Nat×Value))
 | []=>some []
 | (i,x)::xs=>match zAj T x,zHn T xs with
  | some v,some vs=>some ((i,v)::vs)
  | _,_=>none
def callFn(rec:Rec)(fn:Fn)(fs args cs:List Value)(h:AH):R (Value×AH):=
 match fn with
 | .func f=>rec.call f (fs++args++cs) h
 | .yield l=>rec.round l (fs++args) h
 | _=>none
def v1(x:Option Value)(h:AH):R (Value×AH):=match x with|some v=>one (v,h)|none=>none
def v2(x:Option (Value×AH)):R (Value×AH):=match x with|some r=>one r|none=>none
def u1(x:Option AH):R (Value×AH):=match x with|some h=>one (undef,h)|none=>none
def zYm(vs:List Value):Bool:=vs.all zm
def zRJ(op:BinOp)(k:IntKind)(a b:Int):Option Value:=
 match op with
 | .add=>some (.int k (zCv k (a+b)))
 | .sub=>some (.int k (zCv k (a-b)))
 | .mul=>some (.int k (zCv k (a*b)))
 | .eql=>some (.bool (ieq a b))
 | .neq=>some (.bool (!ieq a b))
 | .lss=>some (.bool (!ile b a))
 | .leq=>some (.bool (ile a b))
 | .gtr=>some (.bool (!ile a b))
 | .geq=>some (.bool (ile b a))
 | _=>none
def zo3(t:TypeId):Option Nat:=match und P t with
 | some (.array n e)=>(match und P e,zAW P e with|some (.int _),some 1=>some n|_,_=>none)
 | _=>none
def zHf(t:TypeId)(a b:List Value):Option Bool:=match zo3 P t with
 | some n=>cond (Nat.beq (zBU a) n) (zBE a b) none
 | none=>none
def zAJ(op:BinOp)(t:TypeId)(x y:Value):Option Value:=
 match x,y with
 | .int k a,.int l b=>cond (keq k l) (zRJ op k a b) none
 | .agg a,.agg b=>(match op,zHf P t a.toList b.toList with
  | .eql,some r=>some (.bool r)
  | .neq,some r=>some (.bool (!r))
  | _,_=>none)
 | _,_=>none
def zDg(op:UnOp)(x:Value):Option Value:=
 match op,x with
 | .not,.bool b=>some (.bool !b)
 | _,_=>none
def zPv(place:Nat->Option (Nat×Nat))(cells:List Value):List (Nat×Value)->Option (List Value)
 | []=>some cells
 | (i,v)::rest=>
  match place i with
  | none=>none
  | some (off,size)=>
   let cs:=zd v
   if Nat.beq (zBU cs) size&&Nat.ble (off+size) (zBU cells) then zPv place (lput cells off cs) rest else none
def zIc:List Field->Option (List (Nat×Nat))
 | []=>some []
 | f::fs=>match zAW P f.type,zIc fs with
  | some s,some ps=>some ((f.offset,s)::ps)
  | _,_=>none
def zYU(t:TypeId)(ps:List (Nat×Value)):Option Value:=
 match zAh P t,und P t with
 | some z,some (.struct fs)=>(match zIc P fs.toList with
  | some pl=>(match zPv (lnth pl) (zd z) ps with
   | some cs=>some (.agg ⟨cs⟩)
   | none=>none)
  | none=>none)
 | some z,some (.array _ e)=>(match zAW P e with
  | some s=>(match zPv (λ i=>some (i*s,s)) (zd z) ps with
   | some cs=>some (.agg ⟨cs⟩)
   | none=>none)
  | none=>none)
 | _,_=>none
def zD6(o:Op):Bool:=match o with
 | .select _ _=>false
 | _=>true
def zCG(T:Tm)(o:Oper):Option Value:=
 cond (o.op.operands.toList.all (zr T)&&zD6 o.op) (match zAQ P.prog (execOp (rho T) o) with
 | some (.value v)=>cond (zm v) (some v) none
 | _=>none) none
def zAz(x:Option Value):Option Value:=match x with
  | some (.pointer (some a))=>some (.pointer (some a))
  | some (.func (.func f) a b)=>some (.func (.func f) a b)
  | some (.func (.yield f) a b)=>some (.func (.yield f) a b)
  | _=>none
def zvM(neg:Bool)(t:TypeId)(x y:Option Value):Option Value:=match x,y with
  | some a,some b=>(match eqV P t a b with|some r=>some (.bool (xor neg r))|none=>none)
  | _,_=>none
def zH1(op:BinOp)(t:TypeId)(x y:Operand)(T:Tm)(o:Oper):Option Value:=
 cond (zr T x&&zr T y) (zCG P T o)
  (match op with
  | .eql=>zvM P false t (zAj T x) (zAj T y)
  | .neq=>zvM P true t (zAj T x) (zAj T y)
  | _=>none)
def zom(op:BinOp)(t:TypeId)(x y:Operand)(T:Tm)(o:Oper):Option Value:=
 match zAJ P op t (rho T x) (rho T y) with
  | some v=>some v
  | none=>zH1 P op t x y T o
def zS4(x:Operand)(T:Tm)(o:Oper):Option Value:=cond (zr T x) (zCG P T o) none
def pUn(op:UnOp)(x:Operand)(T:Tm)(o:Oper):Option Value:=match zDg op (rho T x) with
  | some v=>some v
  | none=>zS4 P x T o
def pPick(T:Tm)(c a b:Operand):Option Value:=match zAj T c with
  | some (.bool t)=>zAj T (cond t a b)
  | _=>none
def z6(i:Nat)(x:Option Value):Option Value:=match x with
  | some (.tuple vs)=>lnth vs.toList i
  | _=>none
def zAT(t:TypeId)(ps:Option (List (Nat×Value))):Option Value:=match ps with
  | some vs=>zYU P t vs
  | none=>none
def zhi(t:TypeId)(cs:List Value)(off:Nat):Option Value:=match zC6 P t with
  | some i=>cond i.agg (let c:=zFU i.size (zG3 off cs);cond (Nat.beq (zBU c) i.size) (some (.agg ⟨c⟩)) none) (lnth cs off)
  | none=>none
def zDP(t:TypeId)(f:Nat)(x:Option Value):Option Value:=match x,und P t with
  | some (.agg cs),some (.struct fs)=>(match lnth fs.toList f with
   | some fd=>zhi P fd.type cs.toList fd.offset
   | none=>none)
  | _,_=>none
def zne(s:ByteArray)(k:Option Nat):Option Value:=match k with
 | some k=>(match lnth s.data.toList k with|some b=>some (.int .u8 b.toNat)|none=>none)
 | none=>none
def znU(n:Nat)(e:TypeId)(cs:List Value)(k:Option Nat):Option Value:=match k,zAW P e with
 | some k,some s=>cond (Nat.ble (k+1) n) (zhi P e cs (k*s)) none
 | _,_=>none
def zBl(t:TypeId)(x i:Option Value):Option Value:=match x,i,und P t with
  | some (.string s),some v,some .string=>zne s (zE0 v)
  | some (.agg cs),some v,some (.array n e)=>znU P n e cs.toList (zE0 v)
  | _,_,_=>none
def zX(t:TypeId)(f:Nat)(x:Option Value):Option Value:=match x with
  | some v=>zHC P t v f
  | none=>none
def zV(t:TypeId)(x i:Option Value):Option Value:=match x,i with
  | some v,some j=>zD7 P t v j
  | _,_=>none
def zWl(t:TypeId)(x:Option Value)(lo hi mx:Option (List Value)):Option Value:=
  match x,lo,hi,mx with
  | some v,some l,some u,some m=>zEk P t v l.head? u.head? m.head?
  | _,_,_,_=>none
def zIe(t:TypeId)(x:Operand)(lo hi mx:Option Operand)(T:Tm)(o:Oper):Option Value:=
 cond (zr T x) (zCG P T o) (cond (mx.isSome&&hi.isNone) none <| zWl P t (zAj T x) (zBu T lo.toList) (zBu T hi.toList) (zBu T mx.toList))
def zAX(fn:Fn)(fs cs:Option (List Value)):Option Value:=match fn,fs,cs with
  | .func f,some a,some b=>some (.func (.func f) ⟨a⟩ ⟨b⟩)
  | _,_,_=>none
def zw(T:Tm)(o:Oper):Option Value:=
 match o.op with
 | .move x=>zAj T x
 | .assign x=>zAj T x
 | .pick c a b=>pPick T c a b
 | .nilCheck x=>zAz (zAj T x)
 | .binOp op t x y _=>zom P op t x y T o
 | .unOp op _ x=>pUn P op x T o
 | .makeInterface _ x=>zS4 P x T o
 | .extract x i=>z6 i (zAj T x)
 | .build t ps=>zAT P t (zHn T ps.toList)
 | .field t x f=>zDP P t f (zAj T x)
 | .index t x i=>zBl P t (zAj T x) (zAj T i)
 | .fieldAddr t x f=>zX P t f (zAj T x)
 | .indexAddr t x i=>zV P t (zAj T x) (zAj T i)
 | .slice t x lo hi mx=>zIe P t x lo hi mx T o
 | .makeFunc fn fs cs=>zAX fn (zBu T fs.toList) (zBu T cs.toList)
 | _=>none
def zb(t:TypeId)(h:AH)(a:Option Value):Option Value:=match a with
  | some v=>zC1 P t v h
  | none=>none
def zLu(src dst:TypeId)(x:Option Value)(h:AH):Option Value:=
  match und P src,und P dst,x with
  | some (.pointer t),some .unsafePointer,some (.pointer (some ⟨b,o,none⟩))=>
   (match h.get b,zAW P t with
   | some (.row vs _ 0 false),some s=>cond (Nat.beq s 0||Nat.ble (zBU vs) o) none (some (.pointer (some ⟨b,o,none⟩)))
   | _,_=>none)
  | some .unsafePointer,some (.pointer u),some (.pointer (some ⟨b,o,none⟩))=>
   (match h.get b,zAW P u with
   | some (.row vs ty 0 false),some _=>cond (liesAt P.prog P.prog.depth ty (zBU vs / P.prog.cellsOf ty) o u 1) (some (.pointer (some ⟨b,o,none⟩))) none
   | _,_=>none)
  | _,_,_=>none
def zof(src dst:TypeId)(x:Operand)(T:Tm)(o:Oper)(h:AH):Option Value:=
 cond (zr T x) (zCG P T o) (zLu P src dst (zAj T x) h)
def zAy(t:TypeId)(ok:Bool)(x k:Option Value)(h:AH):Option Value:=match x,k with
  | some m,some k=>zFm P t m k ok h
  | _,_=>none
def zC4(x:Option Value)(h:AH):Option Value:=match x with
  | some v=>zRd v h
  | none=>none
def zHI:List Value->Option (List UInt8)
 | []=>some []
 | .int .u8 i::vs=>(match zHI vs with|some l=>some (UInt8.ofNat i.toNat::l)|none=>none)
 | _=>none
def zvJ(ts:List TypeId):Option TypeDesc:=match ts with
 | t::_=>und P t
 | []=>none
def zyM(d:Option TypeDesc)(vs:List Value)(h:AH):Option Value:=match d,vs with
  | some (.slice _),[.slice _ n _]=>some (.int .i64 n)
  | some (.map _ _),[.map none]=>some (.int .i64 0)
  | some (.map _ _),[.map (some m)]=>(match h.get m with|some (.map es _)=>some (.int .i64 (zBU es))|_=>none)
  | _,_=>none
def zyN(d:Option TypeDesc)(vs:List Value):Option Value:=match d,vs with
  | some (.slice _),[.slice _ _ c]=>cond (Nat.ble UNK c) none (some (.int .i64 c))
  | _,_=>none
def zsB(vs:List Value):Option Value:=match vs with
  | [.slice (some a) n c]=>cond (Nat.beq n 0||Nat.beq c 0) none (some (.pointer (some a)))
  | _=>none
def zHz(b:Builtin)(c:Call)(o:Oper)(vs:List Value)(T:Tm)(h:AH):Option Value:=
  match zYm vs with
  | true=>zCG P T o
  | false=>match b with
   | .len=>zyM (zvJ P c.argTypes.toList) vs h
   | .cap=>zyN (zvJ P c.argTypes.toList) vs
   | .unsafeSliceData=>zsB vs
   | _=>none
def zh(T:Tm)(o:Oper)(h:AH):Option Value:=
 match o.op with
 | .load t a=>zb P t h (zAj T a)
 | .convert src dst x=>zof P src dst x T o h
 | .lookup t x k ok=>zAy P t ok (zAj T x) (zAj T k) h
 | .entry x=>zC4 (zAj T x) h
 | .call c=>(match c.callee with
  | .builtin b=>(match zBu T c.args.toList with|some vs=>zHz P b c o vs T h|none=>none)
  | _=>none)
 | _=>none
def zAm(t:TypeId)(h:AH)(z:Option Value):R (Value×AH):=match z with
  | some z=>one (newRow (zd z) t h)
  | none=>none
def zAM(t:TypeId)(h:AH)(a x:Option Value):R (Value×AH):=match a,x with
  | some v,some y=>u1 (zJy P t v y h)
  | _,_=>none
def zg(t:TypeId)(len:Nat)(ps:Option (List (Nat×Value)))(h:AH):R (Value×AH):=match ps,zC8 P t with
  | some vs,some e=>(match zAW P e,zAh P e with
   | some size,some z=>(match zPv (λ i=>some (i*size,size)) (rep len (zd z)) vs with
    | some cs=>cond (Nat.ble (len*size) 1000000&&Nat.ble len 1000000&&Nat.beq (zBU (zd z)) size) (one (.slice (some ⟨h.qa,0,none⟩) len len,h.new (.row cs e 0 false))) none
    | none=>none)
   | _,_=>none)
  | _,_=>none
def zAG(t:TypeId)(l c:Option Value)(h:AH):R (Value×AH):=match l,c,zC8 P t with
  | some a,some b,some e=>(match zE0 a,zE0 b,zC6 P e with
   | some n,some m,some i=>(match i.zero with
    | some z=>cond (Nat.ble n m&&Nat.ble m 1000000&&Nat.ble i.bytes 1000000&&Nat.beq (zBU (zd z)) i.size) (one (.slice (some ⟨h.qa,0,none⟩) n m,h.new (.row (rep m (zd z)) e 0 false))) none
    | none=>none)
   | _,_,_=>none)
  | _,_,_=>none
def zu(t:TypeId)(m k v:Option Value)(h:AH):R (Value×AH):=match m,k,v with
  | some m,some k,some v=>u1 (zA8 P t m k v h)
  | _,_,_=>none
def zCk(x:Option Value)(h:AH):R (Value×AH):=match x with
  | some (.map none)=>one (.pointer (some ⟨h.qa,0,none⟩),h.new (.iter none 0 [] none))
  | some (.map (some m))=>(match h.get m with
   | some (.map es ver)=>one (.pointer (some ⟨h.qa,0,none⟩),h.new (.iter (some m) ver es none))
   | _=>none)
  | _=>none
def zDs(s:Bool)(x:Option Value)(h:AH):R (Value×AH):=match x with
  | some v=>zWs v s h
  | none=>none
def zIE(e:TypeId)(b o n:Nat)(h:AH):R (Value×AH):=match zAh P e,zAW P e,h.get b with
 | some z,some size,some (.row vs ty es false)=>cond (Nat.ble (o+n*size) (zBU vs)&&(zd z).all zl&&Nat.beq (zBU (zd z)) size) (one (.tuple #[],h.upd b (some (.row (lput vs o (rep n (zd z))) ty es false)))) none
 | _,_,_=>none
def zIM(t:TypeId)(x:Value)(h:AH):R (Value×AH):=match zC8 P t,x with
 | some _,.slice none _ _=>one (.tuple #[],h)
 | some e,.slice (some ⟨b,o,none⟩) n _=>cond (Nat.beq n 0) (one (.tuple #[],h)) (zIE P e b o n h)
 | _,_=>none
def zP8(size b o k:Nat)(cs:List Value)(h:AH):R (Value×AH):=match h.get b with
 | some (.row vs ty es false)=>cond (Nat.ble (o+k*size) (zBU vs)&&cs.all zl) (one (.int .i64 k,h.upd b (some (.row (lput vs o (zFU (k*size) cs)) ty es false)))) none
 | _=>none
def zVv(t:TypeId)(d src:Value)(h:AH):R (Value×AH):=match zC8 P t,d with
 | some e,.slice (some ⟨b,o,none⟩) dn _=>(match zAW P e with
  | some size=>(match zBG size src h with
   | some (sn,cs)=>zP8 size b o (cond (Nat.ble sn dn) sn dn) cs h
   | none=>none)
  | none=>none)
 | _,_=>none
def zqS(pt ty:TypeId):Bool:=match und P pt with
 | some (.pointer e)=>(match zAW P e with
  | some 1=>Nat.beq ty e
  | _=>false)
 | _=>false
def zoE(pt:TypeId)(b o n:Nat)(h:AH):R (Value×AH):=match h.get b with
 | some (.row vs ty es false)=>(match zHI (zFU n (zG3 o vs)) with
  | some bs=>cond (Nat.beq (zBU bs) n&&Nat.ble 1 n&&Nat.ble n 9223372036854775807&&zqS P pt ty) (one (.string ⟨⟨bs⟩⟩,h.upd b (some (.row vs ty es true)))) none
  | none=>none)
 | _=>none
def zCB(pt:TypeId)(p n:Value)(h:AH):R (Value×AH):=match p,zE0 n with
  | .pointer (some ⟨b,o,none⟩),some n=>zoE P pt b o n h
  | _,_=>none
def zE8(b:Builtin)(c:Call)(vs:List Value)(h:AH):R (Value×AH):=
  match b,vs,c.argTypes.toList with
  | .append,[s,x],_=>v2 (zBD P c.argTypes.toList s x h)
  | .clear,[x],t::_=>zIM P t x h
  | .copy,[d,s],t::_=>zVv P t d s h
  | .unsafeString,[p,n],t::_=>zCB P t p n h
  | _,_,_=>none
def zAs(rec:Rec)(f:Option Value)(args:Option (List Value))(h:AH):R (Value×AH):=match f,args with
  | some (.func fn fs cs),some args=>callFn rec fn fs.toList args cs.toList h
  | _,_=>none
def wCall(rec:Rec)(c:Call)(T:Tm)(h:AH):R (Value×AH):=match c.callee with
  | .builtin b=>(match zBu T c.args.toList with|some vs=>zE8 P b c vs h|none=>none)
  | .value f=>zAs rec (zAj T f) (zBu T c.args.toList) h
  | _=>none
def evWrite(rec:Rec)(T:Tm)(o:Oper)(h:AH):R (Value×AH):=
 match o.op with
 | .alloc t=>zAm t h (zAh P t)
 | .box t x=>zAm t h (zAj T x)
 | .store t a x=>zAM P t h (zAj T a) (zAj T x)
 | .buildSlice t len ps=>zg P t len (zHn T ps.toList) h
 | .makeMap _ none=>one (.map (some h.qa),h.new (.map [] 0))
 | .makeSlice t l c=>zAG P t (zAj T l) (zAj T c) h
 | .mapUpdate t m k v=>zu P t (zAj T m) (zAj T k) (zAj T v) h
 | .insert t m k v=>zu P t (zAj T m) (zAj T k) (zAj T v) h
 | .range t x=>(match und P t with
  | some (.map _ _)=>zCk (zAj T x) h
  | _=>none)
 | .next x s=>zDs s (zAj T x) h
 | .call c=>wCall P rec c T h
 | _=>none
inductive Cl where
 | pure
 | read
 | write
def zs8(c:Callee):Cl:=match c with
 | .builtin b=>(match b with
  | .append=>.write
  | .clear=>.write
  | .copy=>.write
  | .unsafeString=>.write
  | .delete=>.write
  | _=>.read)
 | _=>.write
def cls(o:Op):Cl:=match o with
 | .load _ _=>.read
 | .convert _ _ _=>.read
 | .lookup _ _ _ _=>.read
 | .entry _=>.read
 | .alloc _=>.write
 | .box _ _=>.write
 | .store _ _ _=>.write
 | .buildSlice _ _ _=>.write
 | .makeMap _ _=>.write
 | .makeSlice _ _ _=>.write
 | .mapUpdate _ _ _ _=>.write
 | .insert _ _ _ _=>.write
 | .range _ _=>.write
 | .next _ _=>.write
 | .call c=>zs8 c.callee
 | _=>.pure
def evOp(rec:Rec)(T:Tm)(o:Oper)(h:AH):R (Value×AH):=
 match cls o.op with
 | .pure=>v1 (zw P T o) h
 | .read=>v1 (zh P T o h) h
 | .write=>evWrite P rec T o h
def zDL(o:Oper)(ops:List Oper)(T:Tm):Option Bool:=
 match o.guard with
 | none=>some true
 | some (j,want)=>match lnth ops j with
  | some oj=>match oj.dst with
   | some d=>(match T.get d with | .bool b=>some (b==want)|_=>some false)
   | none=>some false
  | none=>some false
def putDst(T:Tm)(d:Option Tmp)(v:Value):Tm:=match d with
 | some d=>T.put d v
 | none=>T
def zm6(T:Tm)(d:Option Tmp)(defs:List Nat)(x:Value×AH):St:=⟨putDst T d x.1,x.2,defs⟩
def evOps(rec:Rec)(all:List Oper):List Oper->St->R St
 | [],st=>one st
 | o::rest,st=>
  match zDL o all st.T with
  | some true=>R.andThen (evOp P rec st.T o st.h) λ x=>evOps rec all rest (zm6 st.T o.dst st.defs x)
  | some false=>evOps rec all rest ⟨putDst st.T o.dst undef,st.h,st.defs⟩
  | none=>none
structure PO where
 i:Nat
 o:Oper
 dep:Nat
 bef:Nat
structure Rd where
 i:Nat
 T:Tm
 o:Oper
 v:Value
def zDX:List Edge->Nat
 | []=>0
 | e::es=>cond (Region.binds .any e) (Nat.lor (2 ^ e.on) (zDX es)) (zDX es)
def zS8:List Nat->Nat->Nat
 | [],_=>0
 | a::_,0=>a
 | _::aas,n+1=>zS8 aas n
def zDc(acc:List Nat):List Edge->Nat
 | []=>0
 | e::es=>cond (Region.binds .any e) (Nat.lor (Nat.lor (2 ^ e.on) (zS8 acc e.on)) (zDc acc es)) (zDc acc es)
def prep:Nat->List Nat->List Oper->List PO
 | _,_,[]=>[]
 | i,acc,o::os=>⟨i,o,zDX o.after.toList,zDc acc o.after.toList⟩::prep (i+1) (acc++[zDc acc o.after.toList]) os
def zC5(m i:Nat):Bool:=Nat.beq (Nat.land (Nat.shiftRight m i) 1) 1
def zBk(p:PO)(done:Nat):Bool:=Nat.beq (Nat.land p.dep done) p.dep
def zBt(m i:Nat):Nat:=Nat.lor m (2 ^ i)
def zDW(T:Tm)(o:Oper)(h:AH):Option Value:=match cls o.op with
 | .pure=>zw P T o
 | .read=>zh P T o h
 | .write=>none
def zTz(p:PO)(T:Tm)(v:Value)(rds:List Rd):List Rd:=match cls p.o.op with
 | .read=>⟨p.i,T,p.o,v⟩::rds
 | _=>rds
def zEp(o:Op):Bool:=match cls o with
 | .write=>true
 | _=>false
structure Sw where
 T:Tm
 done:Nat
 rds:List Rd
 rest:List PO
def zsa(p:PO)(x:Option Sw):Option Sw:=match x with
 | some s=>some ⟨s.T,s.done,s.rds,p::s.rest⟩
 | none=>none
def zIQ(all:List Oper)(h:AH):List PO->Tm->Nat->List Rd->Option Sw
 | [],T,done,rds=>some ⟨T,done,rds,[]⟩
 | p::ps,T,done,rds=>
  cond (zBk p done&&!zEp p.o.op)
   (match zDL p.o all T with
   | some true=>(match zDW P T p.o h with
    | some v=>zIQ all h ps (putDst T p.o.dst v) (zBt done p.i) (zTz p T v rds)
    | none=>none)
   | some false=>zIQ all h ps (putDst T p.o.dst undef) (zBt done p.i) rds
   | none=>none)
   (zsa p (zIQ all h ps T done rds))
def zrK(bef:Nat)(h:AH)(r:Rd):Bool:=zC5 bef r.i||(match zh P r.T r.o h with|some v=>veq 100 v r.v|none=>false)
def zJL(bef:Nat)(rds:List Rd):List Rd:=rds.filter λ r=>!zC5 bef r.i
abbrev DK:=Tm->Nat->List Rd->List PO->AH->R St
def zXo(k:DK)(p:PO)(T:Tm)(done:Nat)(rds:List Rd)(rest:List PO)(x:Value×AH):R St:=
 cond (rds.all (zrK P p.bef x.2)) (k (putDst T p.o.dst x.1) (zBt done p.i) (zJL p.bef rds) rest x.2) none
def fire(rec:Rec)(all:List Oper)(k:DK)(p:PO)(T:Tm)(done:Nat)(rds:List Rd)(rest:List PO)(h:AH):R St:=
 match zDL p.o all T with
 | some true=>R.andThen (evWrite P rec T p.o h) (zXo P k p T done rds rest)
 | some false=>k (putDst T p.o.dst undef) (zBt done p.i) rds rest h
 | none=>none
def joinR(x y:R St):R St:=match x,y with
 | some a,some b=>some (a++b)
 | _,_=>none
def fires(rec:Rec)(all:List Oper)(k:DK)(T:Tm)(done:Nat)(rds:List Rd)(h:AH):List PO->List PO->R St
 | _,[]=>some []
 | pre,p::ps=>cond (zBk p done) (joinR (fire P rec all k p T done rds (pre++ps) h) (fires rec all k T done rds h (pre++[p]) ps)) (fires rec all k T done rds h (pre++[p]) ps)
def zMV(x:R St):R St:=match x with
 | some (a::aas)=>some (a::aas)
 | _=>none
def drawRun(rec:Rec)(all:List Oper)(defs:List Nat):Nat->DK
 | 0,_,_,_,_,_=>none
 | f+1,T,done,rds,rest,h=>match zIQ P all h rest T done rds with
  | none=>none
  | some s=>(match s.rest with
   | []=>one ⟨s.T,h,defs⟩
   | _=>zMV (fires P rec all (drawRun rec all defs f) s.T s.done s.rds h [] s.rest))
def evRegion(rec:Rec)(ops:List Oper)(draw:Bool)(st:St):R St:=match draw with
 | false=>evOps P rec ops ops st
 | true=>drawRun P rec ops st.defs (zBU ops+1) st.T 0 [] (prep 0 [] ops) st.h
def zBs(T:Tm):List Tmp->List Value->Option Tm
 | [],[]=>some T
 | t::ts,v::vs=>zBs (T.put t v) ts vs
 | _,_=>none
def outOf(st:St):R Out:=one ⟨.normal,st⟩
def thenC(f:St->R Out)(o:Out):R Out:=match o.ex with
 | .normal=>f o.st
 | _=>one o
def zDo(id:Nat)(o:Out):R Out:=match o.ex with
 | .exit id'=>cond (Nat.beq id' id) (one ⟨.normal,o.st⟩) (one o)
 | _=>one o
def zX0(t e:St->R Out)(c:Option Value)(st:St):R Out:=match c with
 | some (.bool b)=>cond b (t st) (e st)
 | _=>none
def znH(st:LoopState):Bool:=match st with
 | .busy=>true
 | _=>false
def zRI(pend:Option Code):Option Ex:=match pend with
 | none=>some .normal
 | some .ret=>some .ret
 | some (.exit id)=>some (.exit id)
 | _=>none
def zHE(l:Nat)(T:Tm)(defs:List Nat)(h:AH)(pend:Option Code)(o:AObj):R Out:=match zRI pend with
 | some ex=>one ⟨ex,⟨T,h.upd l (some o),defs⟩⟩
 | none=>none
def zBi(l:Nat)(T:Tm)(defs:List Nat)(h:AH):R Out:=
 match h.get l with
 | some (.loop st pend T' ps aas body d)=>cond (znH st) none (zHE l T defs h pend (.loop .exhausted pend T' ps aas body d))
 | _=>none
def zB5(rec:Rec)(f:FuncId)(fs cs:List Value)(ps:List Tmp)(aas body:Code)(d:Nat)(defs:List Nat)(T:Tm)(h1:AH):R Out:=
 R.andThen (rec.call f (fs++[.func (.yield h1.qa) #[] #[]]++cs) (h1.new (.loop .ready none T ps aas body d))) λ x=>zBi h1.qa T defs x.2
def zDQ(f:FuncId):Bool:=match P.tab.fn.get f with
 | some fn=>fn.body.isSome
 | none=>false
def zXV(l:Nat)(h:AH):Bool:=match h.get l with
 | some (.loop _ _ _ _ _ _ _)=>true
 | _=>false
def evRange(rec:Rec)(ro:Option Nat)(f:Option Value)(ps:List Tmp)(aas body:Code)(st:St):R Out:=
 match f with
 | some (.func (.func f) fs cs)=>cond (zDQ P f)
  (match ro with
  | none=>zB5 rec f fs.toList cs.toList ps aas body st.h.qa (st.h.qa::st.defs) st.T (st.h.new .defd)
  | some l=>cond (zXV l st.h) (zB5 rec f fs.toList cs.toList ps aas body 0 st.defs st.T st.h) none) none
 | _=>none
def evC(rec:Rec)(ro:Option Nat):Code->St->R Out
 | .skip,st=>outOf st
 | .region _ ops d,st=>R.andThen (evRegion P rec ops.toList d st) outOf
 | .seq a b,st=>R.andThen (evC rec ro a st) (thenC (evC rec ro b))
 | .cond c t e,st=>zX0 (evC rec ro t) (evC rec ro e) (zAj st.T c) st
 | .block id c,st=>R.andThen (evC rec ro c st) (zDo id)
 | .loop c,st=>R.andThen (evC rec ro c st) (thenC (rec.loop ro c))
 | .rangeFunc f ps aas body,st=>evRange P rec ro (zAj st.T f) ps.toList aas body st
 | .exit id,st=>one ⟨.exit id,st⟩
 | .label _,st=>outOf st
 | .ret,st=>one ⟨.ret,st⟩
 | _,_=>none
def zCp:List Value->Nat->Tr Value->Tr Value
 | [],_,t=>t
 | v::vs,k,t=>zCp vs (k+1) (t.set (k+1) k (some v))
def zCy(T:Tm)(h:AH):List ResultVar->Option (List Value)
 | []=>some []
 | .tmp t::rs=>(match zCy T h rs with|some vs=>some (T.get t::vs)|none=>none)
 | .cell a t::rs=>(match zC1 P t (T.get a) h,zCy T h rs with|some v,some vs=>some (v::vs)|_,_=>none)
def zFD(fn:Func)(T:Tm)(h:AH):Option Value:=match zCy P T h fn.results.toList with
 | some [v]=>some v
 | some vs=>some (.tuple ⟨vs⟩)
 | none=>none
def zBR:Nat->Value->List Nat
 | _,.pointer (some a)=>[a.block]
 | _,.slice (some a) _ _=>[a.block]
 | _,.map (some m)=>[m]
 | 0,_=>[]
 | n+1,.func _ a b=>(a.toList++b.toList).flatMap (zBR n)
 | n+1,.iface _ v=>zBR n v
 | n+1,.agg a=>a.toList.flatMap (zBR n)
 | n+1,.tuple a=>a.toList.flatMap (zBR n)
 | _,_=>[]
def zM7:AObj->List Nat
 | .row vs _ _ _=>vs.flatMap (zBR 4)
 | .map es _=>es.flatMap λ e=>zBR 4 e.2
 | _=>[]
def zBm(h:AH)(lo:Nat):Nat->List Nat->List Nat->List Nat
 | 0,_,done=>done
 | _,[],done=>done
 | f+1,b::bs,done=>
  if Nat.ble (b+1) lo||done.any (Nat.beq b) then zBm h lo f bs done else
  match h.get b with
  | some o=>zBm h lo f (zM7 o++bs) (b::done)
  | none=>zBm h lo f bs (b::done)
def zDl(h0 h:AH)(ids:List Nat):AH:={ t:=ids.foldr (λ b t=>t.set (b+1) b (h.get b)) h0.t,qa:=h.qa,wm:=h.wm }
def oeq:Option AObj->Option AObj->Bool
 | none,none=>true
 | some (.row a t n r),some (.row b u m s)=>zHl 1000 a b&&Nat.beq t u&&Nat.beq n m&&(r==s)
 | some (.map a v),some (.map b w)=>Nat.beq v w&&zHl 1000 (a.map (·.1)) (b.map (·.1))&&zHl 1000 (a.map (·.2)) (b.map (·.2))
 | _,_=>false
abbrev zK7:=Value×List Nat×AH
def kept(h0:AH)(x:Value×AH):zK7:=(x.1,zBm x.2 h0.qa 1000 (zBR 4 x.1) [],zDl h0 x.2 (zBm x.2 h0.qa 1000 (zBR 4 x.1) []))
def zmy(a b:zK7)(k:Nat):Bool:=a.2.1.any (Nat.beq k)&&oeq (a.2.2.get k) (b.2.2.get k)
def zL6(a b:zK7):Bool:=veq 1000 a.1 b.1&&Nat.beq a.2.2.qa b.2.2.qa&&b.2.1.all (zmy a b)
def zEd:List zK7->List zK7->List zK7
 | [],acc=>acc
 | x::rest,acc=>cond (acc.any (zL6 x)) (zEd rest acc) (zEd rest (acc++[x]))
def zEv(h0:AH)(x:Value×AH):Bool:=Nat.ble h0.qa x.2.wm
def zBf(h0:AH)(x:Value×AH):Value×AH:=cond (zEv h0 x&&zm x.1) (x.1,h0) x
def zCD(h0:AH)(outs:List (Value×AH)):List (Value×AH):=
 cond (outs.all (zEv h0)) ((zEd (outs.map (kept h0)) []).map λ k=>(k.1,k.2.2)) outs
def zEY(h0:AH)(outs:List (Value×AH)):List (Value×AH):=
 match outs with
 | [x]=>[zBf h0 x]
 | outs=>zCD h0 (outs.map (zBf h0))
def zFo:List UInt8->UInt8->Nat->Int
 | [],_,_=>-1
 | b::bs,c,i=>if Nat.beq b.toNat c.toNat then .ofNat i else zFo bs c (i+1)
def zPw(code:Option Nat)(args:List Value)(h:AH):R (Value×AH):=match code with
 | some 1=>(match args with|[x]=>one (x,h)|_=>none)
 | some 2=>(match args with|[.string s,.int .u8 c]=>one (.int .i64 (zFo s.data.toList (UInt8.ofNat c.toNat) 0),h)|_=>none)
 | _=>none
def zCI:List Nat->AH->Option AH
 | [],h=>some h
 | b::bs,h=>match h.get b with
  | some .defd=>zCI bs (h.upd b none)
  | _=>none
def zCM(fn:Func)(T:Tm)(h:Option AH):R (Value×AH):=match h with
 | some h=>v1 (zFD P fn T h) h
 | none=>none
def zAU(fn:Func)(o:Out):R (Value×AH):=match o.ex with
 | .exit _=>none
 | _=>zCM P fn o.st.T (zCI o.st.defs o.st.h)
def zg9(w:Nat)(x:Value×AH):Value×AH:=(x.1,⟨x.2.t,x.2.qa,cond (Nat.ble w x.2.wm) w x.2.wm⟩)
def zEl(h0:AH)(w:Nat)(outs:R (Value×AH)):R (Value×AH):=match outs with
 | none=>none
 | some outs=>some ((zEY h0 outs).map (zg9 w))
def zEV(rec:Rec)(fn:Func)(c:Code)(args:List Value)(h:AH)(h0:AH):R (Value×AH):=
 cond (Nat.ble (zBU args) fn.ntmps) (zEl h0 h.wm (R.andThen (evC P rec none c ⟨⟨fn.ntmps,zCp args 0 .e⟩,h0,[]⟩) (zAU P fn))) none
def fnCall(rec:Rec)(f:FuncId)(args:List Value)(h:AH):R (Value×AH):=
 match P.tab.fn.get f with
 | none=>none
 | some fn=>match fn.body with
  | none=>zPw (P.tab.ext.get f) args h
  | some c=>(match P.sum f args h with
   | some outs=>some outs
   | none=>zEV P rec fn c args h ⟨h.t,h.qa,Nat.add h.qa UNK⟩)
def zEo:Ex->Option Code
 | .normal=>none
 | .ret=>some .ret
 | .exit id=>some (.exit id)
def zCW(l:Nat)(h:AH)(f:LoopState->Option Code->LoopState×Option Code):Option AH:=match h.get l with
 | some (.loop st pend T ps aas body d)=>some (h.upd l (some (.loop (f st pend).1 (f st pend).2 T ps aas body d)))
 | _=>none
def zDG(jump:Option Code)(h:Option AH):R (Value×AH):=match h with
 | some h=>one (.bool jump.isNone,h)
 | none=>none
def endRound(l:Nat)(o:Out):R (Value×AH):=
 zDG (zEo o.ex) (zCW l o.st.h λ _ _=>(cond (zEo o.ex).isNone .ready .done,zEo o.ex))
def zLe(l:Nat)(h:AH):Bool:=match h.get l with
 | some (.loop .ready _ _ _ _ _ _)=>true
 | _=>false
def beginRound(rec:Rec)(l:Nat)(body:Code)(T:Tm)(defs:List Nat)(h:Option AH):R (Value×AH):=match h with
 | some h=>R.andThen (evC P rec (some l) body ⟨T,h,defs⟩) (endRound l)
 | none=>none
def zDk(rec:Rec)(l:Nat)(body:Code)(o:Out):R (Value×AH):=match o.ex with
 | .normal=>cond (zLe l o.st.h) (beginRound P rec l body o.st.T o.st.defs (zCW l o.st.h λ _ pend=>(.busy,pend))) none
 | _=>none
def zDC(rec:Rec)(l:Nat)(aas body:Code)(h:AH)(T:Option Tm):R (Value×AH):=match T with
 | none=>none
 | some T=>R.andThen (evC P rec (some l) aas ⟨T,h,[]⟩) (zDk P rec l body)
def roundCall(rec:Rec)(l:Nat)(args:List Value)(h:AH):R (Value×AH):=
 match h.get l with
 | some (.loop _ _ T ps aas body _)=>zDC P rec l aas body h (zBs T ps args)
 | _=>none
def loopCall(rec:Rec)(ro:Option Nat)(c:Code)(st:St):R Out:=R.andThen (evC P rec ro c st) (thenC (rec.loop ro c))
def zwm(rec:Rec):Rec:={ call:=fnCall P rec,loop:=loopCall P rec,round:=roundCall P rec }
def zD4:Nat->Rec
 | 0=>{ call:=λ _ _ _=>none,loop:=λ _ _ _=>none,round:=λ _ _ _=>none }
 | n+1=>zwm P (zD4 n)
end
end Go.AM
namespace Go.AM
def zvO(raw:Tr TypeInfo)(i:TypeInfo):TI:=
 match i.desc with
 | .named _ u=>match raw.get u with
  | some j=>⟨j.desc,i.size,i.bytes,i.zero,(match j.desc with | .struct _=>true | .array _ _=>true|_=>false)⟩
  | none=>⟨.invalid,i.size,i.bytes,i.zero,false⟩
 | .struct fs=>⟨.struct fs,i.size,i.bytes,i.zero,true⟩
 | .array n e=>⟨.array n e,i.size,i.bytes,i.zero,true⟩
 | d=>⟨d,i.size,i.bytes,i.zero,false⟩
def zIl(P:Program)(ext:List (FuncId×Nat))(sum:FuncId->List Value->AH->Option (List (Value×AH)):=λ _ _ _=>none):Env:=
 { prog:=P,sum:=sum,tab:={ ty:=Tr.ofList 40 (P.types.toList.map (zvO (Tr.ofList 40 P.types.toList))),fn:=Tr.ofList 40 P.funcs.toList,ext:=ext.foldr (λ (f,c) t=>t.set (f+1) f (some c)) .e } }
end Go.AM
namespace Go.AM
@[match_pattern] abbrev iI(a:Int):Go.Value:=.int .i64 a
@[match_pattern] abbrev rO(l:List Go.Value)(t:Nat):AObj:=.row l t 0 false
abbrev sP(b o:Nat):Option Go.Value:=some (.pointer (some ⟨b,o,none⟩))
end Go.AM
end
end
namespace Go.AM
open Go Go.Proofs Go.RowKit
theorem Tr.get_e{α:Type}(k:Nat):(Tr.e:Tr α).get k=none:=rfl
theorem zEB{α:Type}(x y:α)(b:Bool):Bool.rec (motive:=λ _=>α) x y b=cond b y x:=by cases b <;> rfl
theorem Tr.get_c{α:Type}(v:Option α)(l r:Tr α)(k:Nat) :
  (Tr.n v l r).get k=cond (Nat.beq k 0) v (cond (Nat.beq (k % 2) 1) (l.get (k / 2)) (r.get (k / 2-1))):=by
 rw[← zEB,← zEB];rfl
theorem Tr.set_e{α:Type}(f k:Nat)(x:Option α):Tr.set (f+1) .e k x=cond (Nat.beq k 0) (.n x .e .e) (cond (Nat.beq (k % 2) 1) (.n none (Tr.set f .e (k / 2) x) .e) (.n none .e (Tr.set f .e (k / 2-1) x))):=by
 rw[← zEB,← zEB];rfl
theorem Tr.set_n{α:Type}(f:Nat)(v:Option α)(l r:Tr α)(k:Nat)(x:Option α):Tr.set (f+1) (.n v l r) k x=cond (Nat.beq k 0) (.n x l r) (cond (Nat.beq (k % 2) 1) (.n v (Tr.set f l (k / 2) x) r) (.n v l (Tr.set f r (k / 2-1) x))):=by
 rw[← zEB,← zEB];rfl
theorem Tr.get_n{α:Type}(v:Option α)(l r:Tr α)(k:Nat) :
  (Tr.n v l r).get k=if k=0 then v else if k % 2=1 then l.get (k / 2) else r.get (k / 2-1):=by
 rw[Tr.get_c];by_cases h0:k=0
 ·subst h0;rfl
 ·have e0:Nat.beq k 0=false:=by cases k with|zero=>exact absurd rfl h0|succ k=>rfl
  rw[e0,xDN h0];by_cases h1:k % 2=1
  ·rw[xDO h1,h1];rfl
  ·have:k % 2=0:=by omega
   rw[xDN h1,this];rfl
theorem zBw{m n:Nat}(h:m≠n):Nat.beq m n=false:=by
 cases e:Nat.beq m n with
 | true=>exact absurd (xAw e) h
 | false=>rfl
theorem beq_true{m n:Nat}:Nat.beq m n=true ↔ m=n:=⟨xAw,λ h=>by subst h;exact xCp _⟩
theorem ble_true{m n:Nat}:Nat.ble m n=true ↔ m<=n:=⟨Nat.le_of_ble_eq_true,Nat.ble_eq_true_of_le⟩
theorem ble_false{m n:Nat}:Nat.ble m n=false ↔ n<m:=by
 constructor
 ·intro h;rcases xCq n m with h'|h'
  ·exact h'
  ·rw[ble_true.2 h'] at h;cases h
 ·intro h;cases e:Nat.ble m n with
  | true=>have:=ble_true.1 e;omega
  | false=>rfl
theorem Tr.get_set{α:Type}:∀(f:Nat) (t:Tr α) (k:Nat) (x:Option α) (j:Nat),k<f->(t.set f k x).get j=if j=k then x else t.get j:=by
 intro f
 induction f with
 | zero=>intro t k x j h;omega
 | succ f ih=>
  intro t k x j h;have step:∀(v:Option α) (l r:Tr α),(∀ j,(Tr.n v l r).get j=t.get j)->
    (cond (Nat.beq k 0) (Tr.n x l r) (cond (Nat.beq (k % 2) 1) (.n v (Tr.set f l (k / 2) x) r) (.n v l (Tr.set f r (k / 2-1) x)))).get j=if j=k then x else t.get j:=by
   intro v l r hv;by_cases h0:k=0
   ·subst h0;show (Tr.n x l r).get j=_;rw[Tr.get_n,← hv,Tr.get_n];split <;> rfl
   ·rw[zBw h0];simp only[xAH];by_cases h1:k % 2=1
    ·rw[beq_true.2 h1];simp only[xAG];rw[Tr.get_n,← hv,Tr.get_n];by_cases hj:j=0
     ·rw[xDO hj,xDO hj,xDN (by omega)]
     ·rw[xDN hj,xDN hj];by_cases fU:j % 2=1
      ·rw[xDO fU,xDO fU,ih _ _ _ _ (by omega)];by_cases e:j=k
       ·subst e;simp
       ·rw[xDN e,xDN (by omega)]
      ·rw[xDN fU,xDN fU,xDN (by omega)]
    ·rw[zBw h1];simp only[xAH];rw[Tr.get_n,← hv,Tr.get_n];by_cases hj:j=0
     ·rw[xDO hj,xDO hj,xDN (by omega)]
     ·rw[xDN hj,xDN hj];by_cases fU:j % 2=1
      ·rw[xDO fU,xDO fU,xDN (by omega)]
      ·rw[xDN fU,xDN fU,ih _ _ _ _ (by omega)];by_cases e:j=k
       ·subst e;simp
       ·rw[xDN e,xDN (by omega)]
  cases t with
  | e=>
   have:=step none .e .e (λ j=>by rw[Tr.get_n];split <;> (try split) <;> rfl);rw[Tr.set_e];exact this
  | n v l r=>rw[Tr.set_n];exact step v l r (λ _=>rfl)
mutual
theorem zQ3{α:Type}:∀(l:List α) (k:Nat),(zrL l)[k]?=l[2*k]?
 | [],k=>by simp[zrL]
 | a::aas,k=>by
  cases k with
  | zero=>simp[zrL]
  | succ k=>simp only[zrL,xAj];rw[zNE aas k];rw[show 2*(k+1)=(2*k+1)+1 by omega,xAj]
theorem zNE{α:Type}:∀(l:List α) (k:Nat),(zXq l)[k]?=l[2*k+1]?
 | [],k=>by simp[zXq]
 | _::aas,k=>by simp only[zXq,xAj];exact zQ3 aas k
end
theorem Tr.get_ofList{α:Type}:∀(f:Nat) (l:List α) (k:Nat) (a:α),(Tr.ofList f l).get k=some a->l[k]?=some a:=by
 intro f
 induction f with
 | zero=>intro l k a h;simp[Tr.ofList,Tr.get_e] at h
 | succ f ih=>
  intro l k a h;cases l with
  | nil=>simp[Tr.ofList,Tr.get_e] at h
  | cons x xs=>
   simp only[Tr.ofList] at h;rw[Tr.get_n] at h;by_cases h0:k=0
   ·subst h0;rw[xDO rfl] at h;simpa using h
   ·rw[xDN h0] at h;obtain⟨j,rfl⟩:∃ j,k=j+1:=⟨k-1,by omega⟩;rw[xAj];by_cases h1:(j+1) % 2=1
    ·rw[xDO h1] at h;have:=ih _ _ _ h;rw[zQ3] at this;rw[← this];congr 1;omega
    ·rw[xDN h1] at h;have:=ih _ _ _ h;rw[zNE] at this;rw[← this];congr 1;omega
theorem Tm.get_put(T:Tm)(d:Nat)(v:Value)(k:Nat):(T.put d v).get k=if k=d then v else T.get k:=by
 unfold Tm.get Tm.put;simp only;rw[Tr.get_set _ _ _ _ _ (xCA d)];split <;> rfl
@[simp] theorem Tm.n_put(T:Tm)(d:Nat)(v:Value):(T.put d v).n=T.n:=rfl
theorem AH.get_new(h:AH)(o:AObj)(b:Nat):(h.new o).get b=if b=h.qa then some o else h.get b:=by
 unfold AH.get AH.new;exact Tr.get_set _ _ _ _ _ (xCA _)
theorem AH.get_upd(h:AH)(c:Nat)(o:Option AObj)(b:Nat):(h.upd c o).get b=if b=c then o else h.get b:=by
 unfold AH.get AH.upd;exact Tr.get_set _ _ _ _ _ (xCA _)
@[simp] theorem AH.next_new(h:AH)(o:AObj):(h.new o).qa=h.qa+1:=rfl
@[simp] theorem AH.next_upd(h:AH)(c:Nat)(o:Option AObj):(h.upd c o).qa=h.qa:=rfl
theorem zAL{α:Type}:∀ l:List α,zBU l=l.length
 | []=>rfl
 | _::aas=>by simp[zBU,zAL aas]
theorem zAl{α:Type}:∀(n:Nat) (l:List α),zFU n l=l.take n
 | 0,l=>by simp[zFU]
 | _+1,[]=>rfl
 | n+1,a::aas=>by simp[zFU,zAl n aas]
theorem zAo{α:Type}:∀(n:Nat) (l:List α),zG3 n l=l.drop n
 | 0,l=>rfl
 | _+1,[]=>rfl
 | n+1,a::aas=>by simp[zG3,zAo n aas]
theorem zAI{α:Type}:∀(l:List α) (n:Nat),lnth l n=l[n]?
 | [],n=>by simp[lnth]
 | a::aas,0=>rfl
 | a::aas,n+1=>by simp[lnth,zAI aas n]
theorem zEJ{α:Type}:∀(l:List α) (o:Nat) (ws:List α),(lput l o ws).length=l.length
 | l,_,[]=>by cases l <;> simp[lput]
 | [],0,_::_=>rfl
 | [],_+1,_::_=>rfl
 | a::aas,o+1,w::ws=>by simp[lput,zEJ aas o (w::ws)]
 | _::aas,0,w::ws=>by simp[lput,zEJ aas 0 ws]
theorem zGQ{α:Type}:∀(l:List α) (o:Nat) (ws:List α) (k:Nat),o+ws.length<=l.length->
  (lput l o ws)[k]?=if o<=k/\k<o+ws.length then ws[k-o]? else l[k]?
 | l,o,[],k,_=>by
  have:¬ (o<=k/\k<o+([]:List α).length):=by rw[xCR];omega
  rw[xDN this];cases l with|nil=>rfl|cons a aas=>cases o <;> rfl
 | [],o,w::ws,k,h=>by simp at h
 | a::aas,o+1,w::ws,k,h=>by
  simp only[lput];cases k with
  | zero=>rw[xDN (by omega)];rfl
  | succ k=>
   rw[xAj,zGQ aas o (w::ws) k (by simp at h ⊢;omega),xAj];by_cases hc:o<=k/\k<o+(w::ws).length
   ·rw[xDO hc,xDO (by omega)];congr 1;omega
   ·rw[xDN hc,xDN (by omega)]
 | a::aas,0,w::ws,k,h=>by
  simp only[lput];cases k with
  | zero=>rw[xDO (by simp)];rfl
  | succ k=>
   rw[xAj,zGQ aas 0 ws k (by simp at h ⊢;omega),xAj];by_cases hc:0<=k/\k<0+ws.length
   ·rw[xDO hc,xDO (by simp;omega)];simp
   ·rw[xDN hc,xDN (by simp at hc ⊢;omega)]
structure Loc where
 blk:Nat
 base:Nat
 tot:Nat
 es:Nat
abbrev Sg:=Nat->Option Loc
def Sg.le(σ τ:Sg):Prop:=∀ b l,σ b=some l->τ b=some l
theorem Sg.le_refl(σ:Sg):Sg.le σ σ:=λ _ _ h=>h
theorem Sg.le_trans{σ τ υ:Sg}(h:Sg.le σ τ)(k:Sg.le τ υ):Sg.le σ υ:=λ b l e=>k b l (h b l e)
mutual
inductive VR(σ:Sg):Value->Value->Prop
 | bool (b:Bool):VR σ (.bool b) (.bool b)
 | int (k:IntKind) (n:Int):VR σ (.int k n) (.int k n)
 | float (k:FloatKind) (n:Nat):VR σ (.float k n) (.float k n)
 | complex (k:FloatKind) (m n:Nat):VR σ (.complex k m n) (.complex k m n)
 | string (s:ByteArray):VR σ (.string s) (.string s)
 | ptrN:VR σ (.pointer none) (.pointer none)
 | ptr {b:Nat} {l:Loc} (o:Nat) (h:σ b=some l):VR σ (.pointer (some ⟨b,o,none⟩)) (.pointer (some ⟨l.blk,l.base+o,none⟩))
 | sliceN (n c:Nat):VR σ (.slice none n c) (.slice none n c)
 | slice {b:Nat} {l:Loc} (o n c:Nat) (h:σ b=some l) (hc:c<UNK):VR σ (.slice (some ⟨b,o,none⟩) n c) (.slice (some ⟨l.blk,l.base+o,none⟩) n c)
 | sliceU {b:Nat} {l:Loc} (o n c:Nat) (h:σ b=some l) (hc:o+c*l.es=l.tot) (hn:n<=c) :
   VR σ (.slice (some ⟨b,o,none⟩) n (UNK+l.es)) (.slice (some ⟨l.blk,l.base+o,none⟩) n c)
 | sliceS (a:Addr):VR σ (.slice (some ⟨0,0,some 0⟩) 0 0) (.slice (some a) 0 0)
 | mapN:VR σ (.map none) (.map none)
 | map {m:Nat} {l:Loc} (h:σ m=some l):VR σ (.map (some m)) (.map (some l.blk))
 | chanN:VR σ (.chan none) (.chan none)
 | func (f:FuncId) {a a' b b':Array Value} (ha:VRs σ a.toList a'.toList) (hb:VRs σ b.toList b'.toList):VR σ (.func (.func f) a b) (.func (.func f) a' b')
 | yield {i:Nat} {l:Loc} (h:σ i=some l) {a a' b b':Array Value} (ha:VRs σ a.toList a'.toList) (hb:VRs σ b.toList b'.toList):VR σ (.func (.yield i) a b) (.func (.yield l.blk) a' b')
 | nilFunc:VR σ .nilFunc .nilFunc
 | nilIface:VR σ .nilIface .nilIface
 | iface (t:TypeId) {v v':Value} (h:VR σ v v'):VR σ (.iface t v) (.iface t v')
 | agg {a b:Array Value} (h:VRs σ a.toList b.toList):VR σ (.agg a) (.agg b)
 | tuple {a b:Array Value} (h:VRs σ a.toList b.toList):VR σ (.tuple a) (.tuple b)
inductive VRs(σ:Sg):List Value->List Value->Prop
 | nil:VRs σ [] []
 | cons {a b:Value} {aas bs:List Value} (h:VR σ a b) (hs:VRs σ aas bs):VRs σ (a::aas) (b::bs)
end
mutual
theorem VR.mono{σ τ:Sg}(le:Sg.le σ τ):∀ {v v':Value},VR σ v v'->VR τ v v'
 | _,_,.bool b=>.bool b
 | _,_,.int k n=>.int k n
 | _,_,.float k n=>.float k n
 | _,_,.complex k m n=>.complex k m n
 | _,_,.string s=>.string s
 | _,_,.ptrN=>.ptrN
 | _,_,.ptr o h=>.ptr o (le _ _ h)
 | _,_,.sliceN n c=>.sliceN n c
 | _,_,.slice o n c h hc=>.slice o n c (le _ _ h) hc
 | _,_,.sliceU o n c h hc hn=>.sliceU o n c (le _ _ h) hc hn
 | _,_,.sliceS a=>.sliceS a
 | _,_,.mapN=>.mapN
 | _,_,.map h=>.map (le _ _ h)
 | _,_,.chanN=>.chanN
 | _,_,.func f ha hb=>.func f (VRs.mono le ha) (VRs.mono le hb)
 | _,_,.yield h ha hb=>.yield (le _ _ h) (VRs.mono le ha) (VRs.mono le hb)
 | _,_,.nilFunc=>.nilFunc
 | _,_,.nilIface=>.nilIface
 | _,_,.iface t h=>.iface t (VR.mono le h)
 | _,_,.agg h=>.agg (VRs.mono le h)
 | _,_,.tuple h=>.tuple (VRs.mono le h)
theorem VRs.mono{σ τ:Sg}(le:Sg.le σ τ):∀ {v v':List Value},VRs σ v v'->VRs τ v v'
 | _,_,.nil=>.nil
 | _,_,.cons h hs=>.cons (VR.mono le h) (VRs.mono le hs)
end
theorem VRs.length{σ:Sg}:∀ {v v':List Value},VRs σ v v'->v.length=v'.length
 | _,_,.nil=>rfl
 | _,_,.cons _ hs=>by simp[VRs.length hs]
theorem VRs.get{σ:Sg}:∀ {v v':List Value},VRs σ v v'->∀ {k:Nat} {a:Value},v[k]?=some a->∃ b,v'[k]?=some b/\VR σ a b
 | _,_,.nil,k,a,h=>by simp at h
 | _,_,.cons h hs,0,a,e=>by simp at e;subst e;exact⟨_,rfl,h⟩
 | _,_,.cons h hs,k+1,a,e=>by simp only[xAj] at e ⊢;exact VRs.get hs e
theorem VRs.of_get{σ:Sg}:∀ {v v':List Value},v.length=v'.length->(∀(k:Nat) (a b:Value),v[k]?=some a->v'[k]?=some b->VR σ a b)->VRs σ v v'
 | [],[],_,_=>.nil
 | [],_::_,h,_=>by simp at h
 | _::_,[],h,_=>by simp at h
 | a::aas,b::bs,h,H=>.cons (H 0 a b rfl rfl) (VRs.of_get (by simpa using h) λ k x y hx hy=>H (k+1) x y (by simpa using hx) (by simpa using hy))
theorem VRs.append{σ:Sg}:∀ {v v' u u':List Value},VRs σ v v'->VRs σ u u'->VRs σ (v++u) (v'++u')
 | _,_,_,_,.nil,h=>h
 | _,_,_,_,.cons h hs,h2=>.cons h (VRs.append hs h2)
theorem VRs.take{σ:Sg}:∀(n:Nat) {v v':List Value},VRs σ v v'->VRs σ (v.take n) (v'.take n)
 | 0,_,_,_=>by simp;exact .nil
 | _+1,_,_,.nil=>.nil
 | n+1,_,_,.cons h hs=>.cons h (VRs.take n hs)
theorem VRs.drop{σ:Sg}:∀(n:Nat) {v v':List Value},VRs σ v v'->VRs σ (v.drop n) (v'.drop n)
 | 0,_,_,h=>h
 | _+1,_,_,.nil=>.nil
 | n+1,_,_,.cons _ hs=>VRs.drop n hs
theorem VRs.refl_of{σ:Sg}{l:List Value}(h:∀ v∈l,VR σ v v):VRs σ l l:=by
 induction l with
 | nil=>exact .nil
 | cons a aas ih=>exact .cons (h a (by simp)) (ih λ v hv=>h v (by simp[hv]))
theorem VR.of_flat{σ:Sg}:∀(n:Nat) (v:Value),zEe n v=true->VR σ v v:=by
 intro n
 induction n with
 | zero=>
  intro v h;cases v with
  | pointer a=>cases a with|none=>exact .ptrN|some a=>simp[zEe] at h
  | slice a n c=>cases a with|none=>exact .sliceN _ _|some a=>simp[zEe] at h
  | map a=>cases a with|none=>exact .mapN|some a=>simp[zEe] at h
  | chan a=>cases a with|none=>exact .chanN|some a=>simp[zEe] at h
  | func f a b=>simp[zEe] at h
  | iface t v=>simp[zEe] at h
  | agg a=>simp[zEe] at h
  | tuple a=>simp[zEe] at h
  | _=>constructor
 | succ n ih=>
  intro v h;cases v with
  | pointer a=>cases a with|none=>exact .ptrN|some a=>simp[zEe] at h
  | slice a n c=>cases a with|none=>exact .sliceN _ _|some a=>simp[zEe] at h
  | map a=>cases a with|none=>exact .mapN|some a=>simp[zEe] at h
  | chan a=>cases a with|none=>exact .chanN|some a=>simp[zEe] at h
  | func f a b=>
   cases f with
   | func f=>
    simp only[zEe,xAP,xCB] at h;exact .func f (VRs.refl_of λ v hv=>ih v (h.1 v hv)) (VRs.refl_of λ v hv=>ih v (h.2 v hv))
   | _=>simp[zEe] at h
  | iface t v=>exact .iface t (ih v (by simpa[zEe] using h))
  | agg a=>exact .agg (VRs.refl_of λ v hv=>ih v (by simp only[zEe,xCB] at h;exact h v hv))
  | tuple a=>exact .tuple (VRs.refl_of λ v hv=>ih v (by simp only[zEe,xCB] at h;exact h v hv))
  | _=>constructor
theorem zIw{v:Value}(h:zm v=true):zEe 4 v=true:=by
 unfold zm at h;split at h <;> first|rfl|exact h
theorem VR.of_isFlat{σ:Sg}{v:Value}(h:zm v=true):VR σ v v:=VR.of_flat 4 v (zIw h)
theorem VRs.eq_of{σ:Sg}:∀ {l l':List Value},VRs σ l l'->(∀ v∈l,∀ v',VR σ v v'->v'=v)->l'=l
 | _,_,.nil,_=>rfl
 | _,_,.cons h hs,H=>by rw[H _ (by simp) _ h,VRs.eq_of hs λ v hv=>H v (by simp[hv])]
theorem VR.eq_of_flat{σ:Sg}:∀(n:Nat) (v v':Value),zEe n v=true->VR σ v v'->v'=v:=by
 intro n
 induction n with
 | zero=>
  intro v v' h hv;cases hv <;> first|rfl|(simp[zEe] at h)
 | succ n ih=>
  intro v v' h hv;cases hv with
  | func f ha hb=>
   rename_i a a' b b';simp only[zEe,xAP,xCB] at h;have e1:a'.toList=a.toList:=VRs.eq_of ha λ v hv w hw=>ih v w (h.1 v hv) hw;have e2:b'.toList=b.toList:=VRs.eq_of hb λ v hv w hw=>ih v w (h.2 v hv) hw;rw[xCC.1 e1,xCC.1 e2]
  | iface t hv=>rw[ih _ _ (by simpa[zEe] using h) hv]
  | agg ha=>
   rename_i a a';simp only[zEe,xCB] at h;have e1:a'.toList=a.toList:=VRs.eq_of ha λ v hv w hw=>ih v w (h v hv) hw;rw[xCC.1 e1]
  | tuple ha=>
   rename_i a a';simp only[zEe,xCB] at h;have e1:a'.toList=a.toList:=VRs.eq_of ha λ v hv w hw=>ih v w (h v hv) hw;rw[xCC.1 e1]
  | _=>first|rfl|(simp[zEe] at h)
theorem VR.eq_of_isFlat{σ:Sg}{v v':Value}(h:zm v=true)(hv:VR σ v v'):v'=v:=VR.eq_of_flat 4 v v' (zIw h) hv
theorem VR.leaf{σ:Sg}{v v':Value}(h:VR σ v v'):zl v'=zl v:=by cases h <;> rfl
theorem VR.cells{σ:Sg}{v v':Value}(h:VR σ v v'):VRs σ (zd v) v'.cells.toList:=by
 cases h with
 | agg h=>exact h
 | bool b=>exact .cons (.bool b) .nil
 | int k n=>exact .cons (.int k n) .nil
 | float k n=>exact .cons (.float k n) .nil
 | complex k m n=>exact .cons (.complex k m n) .nil
 | string s=>exact .cons (.string s) .nil
 | ptrN=>exact .cons .ptrN .nil
 | ptr o h=>exact .cons (.ptr o h) .nil
 | sliceN n c=>exact .cons (.sliceN n c) .nil
 | slice o n c h hc=>exact .cons (.slice o n c h hc) .nil
 | sliceU o n c h hc hn=>exact .cons (.sliceU o n c h hc hn) .nil
 | sliceS a=>exact .cons (.sliceS a) .nil
 | mapN=>exact .cons .mapN .nil
 | map h=>exact .cons (.map h) .nil
 | chanN=>exact .cons .chanN .nil
 | func f ha hb=>exact .cons (.func f ha hb) .nil
 | yield h ha hb=>exact .cons (.yield h ha hb) .nil
 | nilFunc=>exact .cons .nilFunc .nil
 | nilIface=>exact .cons .nilIface .nil
 | iface t h=>exact .cons (.iface t h) .nil
 | tuple h=>exact .cons (.tuple h) .nil
structure TmR(σ:Sg)(T:Tm)(ts:Array Value):Prop where
 size:ts.size=T.n
 get:∀ k,VR σ (T.get k) (ts.getD k undef)
theorem TmR.mono{σ τ:Sg}(le:Sg.le σ τ){T:Tm}{ts:Array Value}(h:TmR σ T ts):TmR τ T ts:=⟨h.size,λ k=>(h.get k).mono le⟩
theorem TmR.put{σ:Sg}{T:Tm}{ts:Array Value}(h:TmR σ T ts){d:Nat}(hd:d<T.n){v v':Value}(hv:VR σ v v'):TmR σ (T.put d v) (ts.setIfInBounds d v'):=by
 refine⟨by simp[h.size],λ k=>?_⟩;rw[Tm.get_put];by_cases e:k=d
 ·subst e;rw[xDO rfl,xAT];simp[h.size,hd];exact hv
 ·rw[xDN e,xAT,Array.getElem?_setIfInBounds_ne (λ h=>e h.symm),← Array.getD_eq_getD_getElem?];exact h.get k
def zHT(n:Nat)(o:Oper):Bool:=match o.dst with
 | some d=>Nat.ble (d+1) n
 | none=>true
def zDz:List Operand->List Tmp
 | []=>[]
 | .tmp t::xs=>t::zDz xs
 | _::xs=>zDz xs
def zRQ(all:List Oper)(o:Oper):List Tmp:=match o.guard with
 | none=>[]
 | some (j,_)=>match lnth all j with
  | some q=>q.dst.toList
  | none=>[]
def ordered(p q:PO):Bool:=Nat.beq p.i q.i||zC5 p.bef q.i||zC5 q.bef p.i
def zBZ(q:PO)(t:Tmp):Bool:=match q.o.dst with
 | some d=>Nat.beq d t
 | none=>false
def zo9(p:PO):Bool:=match p.o.guard with
 | none=>true
 | some (j,_)=>zC5 p.bef j
def zFF(all:List Oper)(ps:List PO):Bool:=
 ps.all (λ p=>(zDz p.o.op.operands.toList++zRQ all p.o).all (λ t=>ps.all λ q=>!zBZ q t||ordered p q)&&zo9 p&&Nat.ble (p.dep+1) (2 ^ p.i) &&
  (match p.o.dst with|some d=>ps.all λ q=>!zBZ q d||Nat.beq p.i q.i|none=>true))
def fits(n:Nat):Code->Bool
 | .region _ ops draw=>ops.toList.all (zHT n)&&(!draw||zFF ops.toList (prep 0 [] ops.toList))
 | .seq a b=>fits n a&&fits n b
 | .cond _ a b=>fits n a&&fits n b
 | .block _ c=>fits n c
 | .loop c=>fits n c
 | .scope c=>fits n c
 | .rangeFunc _ ps a b=>ps.toList.all (λ d=>Nat.ble (d+1) n)&&fits n a&&fits n b
 | _=>true
def znG:AObj->Bool
 | .row _ _ _ ro=>ro
 | _=>false
structure RowR(σ:Sg)(vs:List Value)(ty es:Nat)(ro:Bool)(l:Loc)(cs:Array Value)(el:TypeId)(frz:Nat×Nat):Prop where
 size:l.base+vs.length<=cs.size
 cell:∀ i v,vs[i]?=some v->∃ v',cs[l.base+i]?=some v'/\VR σ v v'
 free:ro=false->frz=(0,0)
 elt:el=ty
 fixed:es=0->ro=false->l.base=0/\cs.size=vs.length
 grown:es≠0->l.es=es/\cs.size=l.base+l.tot
inductive EntsR(σ:Sg):List (Value×Value)->List MapEntry->Prop
 | nil:EntsR σ [] []
 | cons {k v:Value} {e:MapEntry} {es:List (Value×Value)} {fs:List MapEntry} (hk:VR σ k e.key) (hv:VR σ v e.val) (h:EntsR σ es fs):EntsR σ ((k,v)::es) (e::fs)
structure MapR(σ:Sg)(es:List (Value×Value))(ents:Array MapEntry)(clock:Nat):Prop where
 born:∀ e∈ents.toList,e.born<clock
 nodup:(ents.toList.map (·.born)).Nodup
 perm:∃ p:List MapEntry,p.Perm ents.toList/\EntsR σ es p
structure IterR(σ:Sg)(left:List (Value×Value))(cur:Option (Value×Value))(ents:Array MapEntry)(seen:Array Nat):Prop where
 left:∃ p:List MapEntry,p.Perm (ents.toList.filter λ e=>!seen.contains e.born)/\EntsR σ left p
 cur:∀ c,cur=some c->∃ e∈ents.toList,seen.back?=some e.born/\VR σ c.1 e.key/\VR σ c.2 e.val
def OR(σ:Sg)(h:AH)(o:AObj)(l:Loc)(w:World):Prop:=
 match o with
 | .row vs ty es ro=>∃ cs el frz,w.heap[l.blk]?=some (.cells cs el frz)/\RowR σ vs ty es ro l cs el frz
 | .map es _=>∃ ents clock,w.heap[l.blk]?=some (.map ents clock)/\MapR σ es ents clock
 | .iter none _ _ _=>∃ since seen last,w.heap[l.blk]?=some (.mapIter none since seen last)/\l.base=0
 | .iter (some m) ver left cur=>∃ lm since seen last,σ m=some lm/\(w.heap[l.blk]?=some (.mapIter (some lm.blk) since seen last)/\l.base=0) ∧
   ∀ es v',h.get m=some (.map es v')->ver<=v'/\(v'=ver->∃ ents,w.heap[lm.blk]?=some (.map ents since)/\last=since/\IterR σ left cur ents seen)
 | .loop st pend T ps aas body _=>∃ r:Loop,w.heap[l.blk]?=some (.loop r)/\r.state=st/\r.pending=pend/\r.params.toList=ps/\r.assign=aas/\r.body=body ∧
   TmR σ T r.tmps/\fits T.n aas=true/\fits T.n body=true/\ps.all (λ d=>Nat.ble (d+1) T.n)=true
 | .defd=>w.heap[l.blk]?=some (.deferred (some []))
structure HR(lo:Nat)(σ:Sg)(h:AH)(w:World):Prop where
 dom:∀ b l,σ b=some l->b<h.qa
 qb:∀ b,h.qa<=b->h.get b=none
 live:∀ b o,h.get b=some o->∃ l,σ b=some l/\OR σ h o l w/\(znG o=false->lo<=l.blk)
 inj:∀ b b' o o' l l',h.get b=some o->h.get b'=some o'->σ b=some l->σ b'=some l'->l.blk=l'.blk->b≠b'->znG o=true/\znG o'=true
 lo:lo<=w.heap.size
theorem EntsR.mono{σ τ:Sg}(le:Sg.le σ τ):∀ {es:List (Value×Value)} {fs:List MapEntry},EntsR σ es fs->EntsR τ es fs
 | _,_,.nil=>.nil
 | _,_,.cons hk hv h=>.cons (hk.mono le) (hv.mono le) (EntsR.mono le h)
theorem RowR.mono{σ τ:Sg}(le:Sg.le σ τ){vs ty es ro l cs el frz}(h:RowR σ vs ty es ro l cs el frz):RowR τ vs ty es ro l cs el frz:=
 ⟨h.size,λ i v e=>let ⟨v',a,b⟩:=h.cell i v e;⟨v',a,b.mono le⟩,h.free,h.elt,h.fixed,h.grown⟩
theorem MapR.mono{σ τ:Sg}(le:Sg.le σ τ){es ents clock}(h:MapR σ es ents clock):MapR τ es ents clock:=
 ⟨h.born,h.nodup,let ⟨p,a,b⟩:=h.perm;⟨p,a,b.mono le⟩⟩
theorem IterR.mono{σ τ:Sg}(le:Sg.le σ τ){left cur ents seen}(h:IterR σ left cur ents seen):IterR τ left cur ents seen:=
 ⟨let ⟨p,a,b⟩:=h.left;⟨p,a,b.mono le⟩,λ c e=>let ⟨x,a,b,k,v⟩:=h.cur c e;⟨x,a,b,k.mono le,v.mono le⟩⟩
theorem OR.mono{σ τ:Sg}{h h':AH}{o:AObj}{l:Loc}{w w':World}(H:OR σ h o l w)(le:Sg.le σ τ)(hb:w'.heap[l.blk]?=w.heap[l.blk]?)
  (hm:∀ m es v lm,h'.get m=some (.map es v)->σ m=some lm->h.get m=some (.map es v)/\w'.heap[lm.blk]?=w.heap[lm.blk]?):OR τ h' o l w':=by
 cases o with
 | row vs ty es ro=>obtain⟨cs,el,frz,a,b⟩:=H;exact⟨cs,el,frz,hb.trans a,b.mono le⟩
 | map es v=>obtain⟨ents,clock,a,b⟩:=H;exact⟨ents,clock,hb.trans a,b.mono le⟩
 | iter m ver left cur=>
  cases m with
  | none=>obtain⟨a,b,c,d,d0⟩:=H;exact⟨a,b,c,hb.trans d,d0⟩
  | some m=>
   obtain⟨lm,since,seen,last,a,b,c⟩:=H;refine⟨lm,since,seen,last,le _ _ a,⟨hb.trans b.1,b.2⟩,λ es v' e=>?_⟩;obtain⟨e1,e2⟩:=hm m es v' lm e a;obtain⟨c1,c2⟩:=c es v' e1;exact⟨c1,λ ev=>let ⟨ents,x,y,z⟩:=c2 ev;⟨ents,e2.trans x,y,z.mono le⟩⟩
 | loop st pend T ps aas body d=>obtain⟨r,a,b1,b2,b3,b4,b5,b6,b7⟩:=H;exact⟨r,hb.trans a,b1,b2,b3,b4,b5,b6.mono le,b7⟩
 | defd=>exact hb.trans H
def Sg.ext(σ:Sg)(b:Nat)(l:Loc):Sg:=λ c=>if c=b then some l else σ c
theorem Sg.le_ext{σ:Sg}{b:Nat}{l:Loc}(h:σ b=none):Sg.le σ (σ.ext b l):=by
 intro c m e;unfold Sg.ext;by_cases hc:c=b
 ·subst hc;rw[h] at e;cases e
 ·rw[xDN hc];exact e
@[simp] theorem Sg.ext_self(σ:Sg)(b:Nat)(l:Loc):(σ.ext b l) b=some l:=by simp[Sg.ext]
theorem HR.free{lo:Nat}{σ:Sg}{h:AH}{w:World}(H:HR lo σ h w):σ h.qa=none:=by
 cases e:σ h.qa with
 | none=>rfl
 | some l=>have:=H.dom _ _ e;omega
theorem zBI{w:World}{o:Obj}(k:Nat):(w.alloc o).heap[k]?=if k=w.heap.size then some o else w.heap[k]?:=by
 show (w.heap.push o)[k]?=_;rw[Array.getElem?_push]
theorem zJz(w:World)(o:Obj):(w.alloc o).heap.size=w.heap.size+1:=Array.size_push ..
theorem zDb{B:Nat}(w:World)(o:Obj)(hB:B<=w.heap.size):Below B w (w.alloc o):=
 ⟨rfl,rfl,rfl,by rw[zJz];omega,λ k hk=>by rw[zBI,xDN (by omega)]⟩
theorem zAd{w:World}{k:Nat}{o:Obj}(h:w.heap[k]?=some o):k<w.heap.size:=by
 rcases xCq k w.heap.size with h'|h'
 ·exact h'
 ·rw[Array.getElem?_eq_none h'] at h;cases h
theorem OR.blk_lt{σ:Sg}{h:AH}{o:AObj}{l:Loc}{w:World}(H:OR σ h o l w):l.blk<w.heap.size:=by
 cases o with
 | row vs ty es ro=>obtain⟨cs,el,frz,a,b⟩:=H;exact zAd a
 | map es v=>obtain⟨ents,clock,a,b⟩:=H;exact zAd a
 | iter m ver left cur=>
  cases m with
  | none=>obtain⟨a,b,c,d,_⟩:=H;exact zAd d
  | some m=>obtain⟨lm,since,seen,last,a,⟨b,_⟩,c⟩:=H;exact zAd b
 | loop st pend T ps aas body d=>obtain⟨r,a,_⟩:=H;exact zAd a
 | defd=>exact zAd H
theorem HR.new{lo:Nat}{σ:Sg}{h:AH}{w:World}(H:HR lo σ h w)(o:AObj)(ob:Obj)(l:Loc)(hl:l.blk=w.heap.size)
  (ho:OR (σ.ext h.qa l) (h.new o) o l (w.alloc ob)):HR lo (σ.ext h.qa l) (h.new o) (w.alloc ob):=by
 have le:Sg.le σ (σ.ext h.qa l):=Sg.le_ext H.free;have old:∀ k,k<w.heap.size->(w.alloc ob).heap[k]?=w.heap[k]?:=λ k hk=>by rw[zBI,xDN (by omega)]
 refine⟨?_,?_,?_,?_,?_⟩
 ·intro b m e;unfold Sg.ext at e;split at e
  ·rename_i hb;subst hb;simp
  ·have:=H.dom _ _ e;simp;omega
 ·intro b hb;rw[AH.get_new];simp at hb;rw[xDN (by omega)];exact H.qb b (by omega)
 ·intro b x e;rw[AH.get_new] at e;by_cases hb:b=h.qa
  ·subst hb;rw[xDO rfl] at e;cases e;exact⟨l,by simp,ho,λ _=>by rw[hl];exact H.lo⟩
  ·rw[xDN hb] at e;obtain⟨m,a,c,d⟩:=H.live b x e;refine⟨m,le _ _ a,c.mono le (old _ c.blk_lt) (λ i es v lm hi hs=>?_),d⟩;rw[AH.get_new] at hi;have ai:i≠h.qa:=by intro e;subst e;rw[H.free] at hs;cases hs
   rw[xDN ai] at hi;obtain⟨lm',a',c',_⟩:=H.live i _ hi;rw[hs] at a';cases a';exact⟨hi,old _ c'.blk_lt⟩
 ·intro b b' o1 o2 l1 l2 e1 e2 s1 s2 bU aj;rw[AH.get_new] at e1 e2;unfold Sg.ext at s1 s2;by_cases hb:b=h.qa
  ·subst hb;rw[xDO rfl] at s1;cases s1;rw[xDN (λ e=>aj e.symm)] at e2 s2;obtain⟨m,a,c,d⟩:=H.live b' _ e2;rw[s2] at a;cases a;have:=c.blk_lt;omega
  ·rw[xDN hb] at e1 s1;by_cases ar:b'=h.qa
   ·subst ar;rw[xDO rfl] at s2;cases s2;obtain⟨m,a,c,d⟩:=H.live b _ e1;rw[s1] at a;cases a;have:=c.blk_lt;omega
   ·rw[xDN ar] at e2 s2;exact H.inj b b' o1 o2 l1 l2 e1 e2 s1 s2 bU aj
 ·have:=H.lo;rw[zJz];omega
def World.put(w:World)(k:Nat)(o:Obj):World:={ w with heap:=w.heap.setIfInBounds k o }
theorem World.put_get{w:World}{k:Nat}{o:Obj}(hk:k<w.heap.size)(j:Nat):(World.put w k o).heap[j]?=if j=k then some o else w.heap[j]?:=by
 unfold World.put;simp only[xAS];by_cases e:k=j
 ·subst e;simp[hk]
 ·rw[xDN e,xDN (λ h=>e h.symm)]
theorem zEy{B:Nat}{w:World}{k:Nat}(o:Obj)(hB:B<=k):Below B w (World.put w k o):=by
 refine⟨rfl,rfl,rfl,xCr (by simp[World.put]),λ j hj=>?_⟩;unfold World.put;simp only[xAS];rw[xDN (by omega)]
theorem zHv(w:World)(k:Nat)(o:Obj):(World.put w k o).heap.size=w.heap.size:=by simp[World.put]
theorem OR.move{σ τ:Sg}{h h':AH}{o:AObj}{l:Loc}{w w':World}(H:OR σ h o l w)(le:Sg.le σ τ)(hb:w'.heap[l.blk]?=w.heap[l.blk]?)
  (hni:∀ m ver left cur,o≠.iter (some m) ver left cur):OR τ h' o l w':=by
 cases o with
 | row vs ty es ro=>obtain⟨cs,el,frz,a,b⟩:=H;exact⟨cs,el,frz,hb.trans a,b.mono le⟩
 | map es v=>obtain⟨ents,clock,a,b⟩:=H;exact⟨ents,clock,hb.trans a,b.mono le⟩
 | iter m ver left cur=>
  cases m with
  | none=>obtain⟨a,b,c,d,d0⟩:=H;exact⟨a,b,c,hb.trans d,d0⟩
  | some m=>exact absurd rfl (hni _ _ _ _)
 | loop st pend T ps aas body d=>obtain⟨r,a,b1,b2,b3,b4,b5,b6,b7⟩:=H;exact⟨r,hb.trans a,b1,b2,b3,b4,b5,b6.mono le,b7⟩
 | defd=>exact hb.trans H
theorem HR.upd{lo:Nat}{σ:Sg}{h:AH}{w:World}(H:HR lo σ h w){b:Nat}{o o':AObj}{l:Loc}(ob:Obj)(hb:h.get b=some o)(hs:σ b=some l)(eb:znG o=false)
  (hk:∀ es v,o'=.map es v->∃ es0 v0,o=.map es0 v0/\v0<v) (ho:OR σ (h.upd b (some o')) o' l (World.put w l.blk ob)):HR lo σ (h.upd b (some o')) (World.put w l.blk ob):=by
 obtain⟨l0,a0,c0,d0⟩:=H.live b o hb;rw[hs] at a0;cases a0;have ab:=c0.blk_lt;have old:∀ j,j≠l.blk->(World.put w l.blk ob).heap[j]?=w.heap[j]?:=λ j hj=>by rw[World.put_get ab,xDN hj]
 refine⟨?_,?_,?_,?_,?_⟩
 ·intro c m e;exact H.dom c m e
 ·intro c hc;rw[AH.get_upd,xDN]
  ·exact H.qb c hc
  ·intro e;subst e;rw[H.qb _ hc] at hb;cases hb
 ·intro c x e;rw[AH.get_upd] at e;by_cases hc:c=b
  ·subst hc;rw[xDO rfl] at e;cases e;exact⟨l,hs,ho,λ _=>d0 eb⟩
  ·rw[xDN hc] at e;obtain⟨m,a,k,d⟩:=H.live c x e;have aj:m.blk≠l.blk:=by
    intro hh;have:=(H.inj c b x o m l e hb a hs hh hc).2;rw[eb] at this;cases this
   refine⟨m,a,?_,d⟩;cases x with
   | iter mm ver left cur=>
    cases mm with
    | none=>obtain⟨q1,q2,q3,q4,q5⟩:=k;exact⟨q1,q2,q3,(old _ aj).trans q4,q5⟩
    | some mm=>
     obtain⟨lm,since,seen,last,k1,k2,k3⟩:=k;refine⟨lm,since,seen,last,k1,⟨(old _ aj).trans k2.1,k2.2⟩,λ es v' hg=>?_⟩;rw[AH.get_upd] at hg;by_cases kX:mm=b
     ·subst kX;rw[xDO rfl] at hg;cases hg;obtain⟨es0,v0,e0,hv⟩:=hk es v' rfl;subst e0;obtain⟨g1,g2⟩:=k3 es0 v0 hb;exact⟨by omega,λ ev=>by omega⟩
     ·rw[xDN kX] at hg;obtain⟨g1,g2⟩:=k3 es v' hg;refine⟨g1,λ ev=>?_⟩;obtain⟨ents,q1,q2,q3⟩:=g2 ev;have fz:lm.blk≠l.blk:=by
       intro hh;have:=(H.inj mm b _ o lm l hg hb k1 hs hh kX).2;rw[eb] at this;cases this
      exact⟨ents,(old _ fz).trans q1,q2,q3⟩
   | row=>exact OR.move k (Sg.le_refl σ) (old _ aj) (by intros;intro e;cases e)
   | map=>exact OR.move k (Sg.le_refl σ) (old _ aj) (by intros;intro e;cases e)
   | loop=>exact OR.move k (Sg.le_refl σ) (old _ aj) (by intros;intro e;cases e)
   | defd=>exact OR.move k (Sg.le_refl σ) (old _ aj) (by intros;intro e;cases e)
 ·intro c c' o1 o2 l1 l2 e1 e2 s1 s2 bU aj;rw[AH.get_upd] at e1 e2;by_cases hc:c=b
  ·subst hc;rw[xDN (λ e=>aj e.symm)] at e2;rw[xDO rfl] at e1;have:=(H.inj c c' o o2 l1 l2 hb e2 s1 s2 bU aj).1;rw[eb] at this;cases this
  ·rw[xDN hc] at e1;by_cases am:c'=b
   ·subst am;have:=(H.inj c c' o1 o l1 l2 e1 hb s1 s2 bU aj).2;rw[eb] at this;cases this
   ·rw[xDN am] at e2;exact H.inj c c' o1 o2 l1 l2 e1 e2 s1 s2 bU aj
 ·have:=H.lo;rw[zHv];exact this
theorem HR.kill{lo:Nat}{σ:Sg}{h:AH}{w:World}(H:HR lo σ h w)(b:Nat):HR lo σ (h.upd b none) w:=by
 have sub:∀ c x,(h.upd b none).get c=some x->h.get c=some x:=λ c x e=>by
  rw[AH.get_upd] at e;split at e
  ·cases e
  ·exact e
 refine⟨H.dom,λ c hc=>?_,λ c x e=>?_,λ c c' o1 o2 l1 l2 e1 e2=>H.inj c c' o1 o2 l1 l2 (sub _ _ e1) (sub _ _ e2),H.lo⟩
 ·rw[AH.get_upd];split
  ·rfl
  ·exact H.qb c hc
 ·obtain⟨l,a,k,d⟩:=H.live c x (sub c x e);refine⟨l,a,OR.mono k (Sg.le_refl σ) rfl (λ m es v lm hm _=>⟨sub _ _ hm,rfl⟩),d⟩
structure zCt(E:Env):Prop where
 ty:∀ t i,E.tab.ty.get t=some i->∃ info,E.prog.info? t=some info/\E.prog.underlying t=some i.desc/\info.size=i.size/\info.bytes=i.bytes/\info.zero=i.zero ∧
  i.agg=(match i.desc with | .struct _=>true | .array _ _=>true|_=>false)
 zero:∀ t i z,E.tab.ty.get t=some i->i.zero=some z->zEe 4 z=true
 fn:∀ f g,E.tab.fn.get f=some g->E.prog.funcs[f]?=some g/\(∀ c,g.body=some c->fits g.ntmps c=true)
 name:∀ f g c,E.tab.fn.get f=some g->g.body=some c->(g.name=="runtime.NumGoroutine")=false
 mixed:E.prog.follows .mixedOrders=true
 depth:2<=E.prog.depth
variable {E:Env} (hE:zCt E)
section types
include hE
theorem zBN{t:TypeId}{d:TypeDesc}(h:und E t=some d):E.prog.underlying t=some d:=by
 unfold und at h;split at h
 ·rename_i i hi;cases h;obtain⟨info,a,b,_⟩:=hE.ty t i hi;exact b
 ·cases h
theorem zCV{t:TypeId}{n:Nat}(h:zAW E t=some n):∃ info,E.prog.info? t=some info/\info.size=n:=by
 unfold zAW at h;split at h
 ·rename_i i hi;cases h;obtain⟨info,a,b,c,d,e,f⟩:=hE.ty t i hi;exact⟨info,a,c⟩
 ·cases h
theorem z8{t:TypeId}{n:Nat}(h:zAW E t=some n)(w:World):(sizeOf t).run E.prog w=.ok n w:=by
 obtain⟨info,a,b⟩:=zCV hE h;unfold sizeOf;rw[xCs,run_typeInfo w a];simp[b]
theorem zo{t:TypeId}{d:TypeDesc}(h:und E t=some d)(w:World):(underlying t).run E.prog w=.ok d w:=run_underlying (zBN hE h) w
theorem zGC{t:TypeId}{z:Value}(h:zAh E t=some z)(w:World):(zeroValue t).run E.prog w=.ok z w:=by
 unfold zAh at h;split at h
 ·rename_i i hi;obtain⟨info,a,b,c,d,e,f⟩:=hE.ty t i hi;unfold zeroValue;rw[xCs,run_typeInfo w a];simp[e,h]
 ·cases h
theorem zDJ{t:TypeId}{z:Value}(h:zAh E t=some z):zEe 4 z=true:=by
 unfold zAh at h;split at h
 ·rename_i i hi;exact hE.zero t i z hi h
 ·cases h
theorem zBv{t e:TypeId}(h:zC8 E t=some e):und E t=some (.slice e):=by
 unfold zC8 at h;split at h
 ·rename_i e' he;cases h;exact he
 ·cases h
end types
theorem zFs{w:World}{k:Nat}{cs:Array Value}{el:TypeId}{frz:Nat×Nat}(h:w.heap[k]?=some (.cells cs el frz))(o:Nat):w.cell? ⟨k,o,none⟩=cs[o]?:=by
 simp[World.cell?,h]
theorem zB0(b o i:Nat):(⟨b,o,none⟩:Addr).add i=⟨b,o+i,none⟩:=by
 unfold Addr.add;split <;> simp_all
theorem zG1{P:Program}{σ:Sg}{vs:List Value}{ty es:Nat}{ro:Bool}{l:Loc}{cs:Array Value}{el:TypeId}{frz:Nat×Nat}{w:World}
  (hw:w.heap[l.blk]?=some (.cells cs el frz)) (hr:RowR σ vs ty es ro l cs el frz) (o n:Nat) (hn:((vs.drop o).take n).length=n) :
  ∃ us:List Value,(loadCells ⟨l.blk,l.base+o,none⟩ n).run P w=.ok us.toArray w/\us.length=n/\VRs σ ((vs.drop o).take n) us:=by
 have hlen:n=0\/o+n<=vs.length:=by
  rw[xCD,xCE] at hn;omega
 let us:=(List.range n).map λ j=>cs.getD (l.base+o+j) undef
 have ac:∀ j,j<n->∃ v,vs[o+j]?=some v/\∃ v',cs[l.base+o+j]?=some v'/\VR σ v v':=by
  intro j hj;have:o+j<vs.length:=by omega
  obtain⟨v',a,b⟩:=hr.cell (o+j) vs[o+j] (xAA this);exact⟨_,xAA this,v',by rw[xCh];exact a,b⟩
 refine⟨us,?_,by simp[us],VRs.of_get (by simp[us,hn]) ?_⟩
 ·have:=run_loadCells (P:=P) w ⟨l.blk,l.base+o,none⟩ n (λ j=>cs.getD (l.base+o+j) undef) (λ j hj=>by
   rw[zB0,zFs hw];obtain⟨v,_,v',a,_⟩:=ac j hj;rw[a,xAT,a];rfl)
  exact this
 ·intro k a b ha hb;have hk:k<n:=by
   rcases xCq k n with h|h
   ·exact h
   ·rw[xAx (by rw[hn];exact h)] at ha;cases ha
  obtain⟨v,hv,v',aH,kG⟩:=ac k hk;rw[xAg hk,xBW,hv] at ha;cases ha;simp only[us,xBi,List.getElem?_range hk,xCS,xAN] at hb;rw[xAT,aH] at hb;simp at hb;rw[← hb];exact kG
include hE in
theorem zRC{lo:Nat}{σ:Sg}{h:AH}{w:World}(H:HR lo σ h w){t:TypeId}{v v' x:Value}(hv:VR σ v v')(hl:zC1 E t v h=some x) :
  ∃ x',(Instr.loadAt t v').run E.prog w=.ok x' w/\VR σ x x':=by
 unfold zC1 at hl;split at hl;rotate_left
 ·cases hl
 rename_i b o;cases hv with
 | ptr o hσ=>
 rename_i l;split at hl;rotate_left
 ·cases hl
 rename_i vs ty es ro hb;obtain⟨l',a,⟨cs,el,frz,hw,hr⟩,_⟩:=H.live b _ hb;rw[hσ] at a;cases a;split at hl;rotate_left
 ·cases hl
 rename_i i hi;obtain⟨info,i1,i2,i3,i4,i5,i6⟩:=hE.ty t i hi;unfold Instr.loadAt Instr.sureAddr loadVar;split at hl
 ·
  rename_i cD;simp only[zAl,zAo,zAL] at hl;split at hl;rotate_left
  ·cases hl
  rename_i hlen;cases hl;rw[beq_true] at hlen;obtain⟨us,u1,u2,u3⟩:=zG1 (P:=E.prog) hw hr o i.size hlen;refine⟨.agg us.toArray,?_,.agg (by simpa using u3)⟩;have jW:(isAgg t).run E.prog w=.ok true w:=by
   unfold isAgg;rw[xCs,run_underlying i2];simp only[xBj];cases eU:i.desc <;> rw[eU] at i6 <;> first|rfl|(rw[i6] at cD;cases cD)
  have hsz:(sizeOf t).run E.prog w=.ok i.size w:=z8 hE (by unfold zAW;unfold zC6 at hi;rw[hi]) w;simp only[xCs,xCt,xBj,jW,xDM,hsz,u1]
 ·rename_i cD;rw[zAI] at hl;obtain⟨x',c1,c2⟩:=hr.cell o x hl;refine⟨x',?_,c2⟩;have ac:w.cell? ⟨l.blk,l.base+o,none⟩=some x':=by rw[zFs hw];exact c1
  have jW:(isAgg t).run E.prog w=.ok false w:=by
   unfold isAgg;rw[xCs,run_underlying i2];simp only[xBj];cases eU:i.desc <;> rw[eU] at i6 <;> first|rfl|exact absurd i6 cD
  simp only[xCs,xCt,xBj,jW,xBX,xDI,run_load,ac]
theorem zLc{v:Value}(h:zl v=true):v.oneCell'=true:=by cases v <;> first|rfl|cases h
theorem zGt{w:World}{g:Nat}{cur cs:Array Value}{t:TypeId}{fr:Nat×Nat}(hg:w.heap[g]?=some (.cells cur t fr)):w.setRow g cs=World.put w g (.cells cs t fr):=by
 have ab:g<w.heap.size:=zAd hg;unfold World.setRow World.put
 congr 1
 apply Array.ext
 ·simp
 ·intro i h1 h2;rw[Array.getElem_modify];by_cases e:g=i
  ·subst e;have:w.heap[g]=.cells cur t fr:=(xAV.1 hg).2;simp[this]
  ·rw[Array.getElem_setIfInBounds]
   ·simp[e]
   ·simpa using h1
theorem zEG{P:Program}{σ:Sg}{vs us us':List Value}{ty es:Nat}{l:Loc}{cs:Array Value}{el:TypeId}{frz:Nat×Nat}{w:World}
  (hw:w.heap[l.blk]?=some (.cells cs el frz)) (hr:RowR σ vs ty es false l cs el frz) (o:Nat) (hu:VRs σ us us') (dq:us.all zl=true) (hn:o+us.length<=vs.length) :
  ∃ cs':Array Value,(storeCells ⟨l.blk,l.base+o,none⟩ us').run P w=.ok () (World.put w l.blk (.cells cs' el frz))/\RowR σ (lput vs o us) ty es false l cs' el frz:=by
 have hf:=hr.free rfl;subst hf;have hlen:=hu.length;have hb:l.base+o+0+us'.length<=cs.size:=by have:=hr.size;omega
 have h1:∀ v∈us',v.oneCell'=true:=by
  intro v hv;obtain⟨k,hk⟩:=xAy.1 hv;have ab:k<us.length:=by
   rcases xCq k us.length with h|h
   ·exact h
   ·rw[xAx (by omega)] at hk;cases hk
  obtain⟨b,cj,aN⟩:=hu.get (xAA ab);rw[hk] at cj;cases cj;apply zLc;rw[aN.leaf];exact xCB.1 dq _ (xCF ab)
 have bQ:=run_storeCells_at (P:=P) l.blk (l.base+o) el us' 0 cs w hw hb h1;rw[zGt hw] at bQ;refine⟨_,bQ,?_⟩;have hsz:(cs.toList.take (l.base+o+0)++us'++cs.toList.drop (l.base+o+0+us'.length)).toArray.size=cs.size:=by simp;omega
 refine⟨?_,?_,hr.free,hr.elt,?_,?_⟩
 ·rw[hsz,zEJ];exact hr.size
 ·intro i v hi;rw[zGQ _ _ _ _ hn] at hi;have jh:∀ j,(cs.toList.take (l.base+o+0)++us'++cs.toList.drop (l.base+o+0+us'.length))[j]? =
    if l.base+o<=j/\j<l.base+o+us'.length then us'[j-(l.base+o)]? else cs[j]?:=by
   intro j;rw[xBE,xBE,xBY,xCD];have hm:min (l.base+o+0) cs.toList.length=l.base+o:=by simp;omega
   rw[hm];by_cases h1:j<l.base+o+us'.length
   ·rw[xDO h1];by_cases h2:j<l.base+o
    ·rw[xDO h2,xDN (by omega),xAg (by omega),xAz]
    ·rw[xDN h2,xDO (by omega)]
   ·rw[xDN h1,xDN (by omega),xBW,xAz]
    congr 1;omega
  rw[xBA,jh];split at hi
  ·rename_i hc;rw[xDO (by omega)];obtain⟨b,cj,aN⟩:=hu.get hi;exact⟨b,by rw[← cj];congr 1;omega,aN⟩
  ·rename_i hc;have hiv:i<vs.length:=by
    rcases xCq i vs.length with h|h
    ·exact h
    ·rw[xAx h] at hi;cases hi
   rw[xDN (by omega)];exact hr.cell i v hi
 ·intro e r;obtain⟨a,b⟩:=hr.fixed e r;exact⟨a,by rw[hsz,zEJ];exact b⟩
 ·intro e;obtain⟨a,b⟩:=hr.grown e;exact⟨a,by rw[hsz];exact b⟩
theorem HR.updRow{lo:Nat}{σ:Sg}{h:AH}{w:World}(H:HR lo σ h w){b:Nat}{vs vs':List Value}{ty es:Nat}{ro':Bool}{l:Loc}{cs':Array Value}{el:TypeId}{frz:Nat×Nat}
  (hb:h.get b=some (.row vs ty es false)) (hs:σ b=some l) (hr:RowR σ vs' ty es ro' l cs' el frz) :
  HR lo σ (h.upd b (some (.row vs' ty es ro'))) (World.put w l.blk (.cells cs' el frz))/\Below lo w (World.put w l.blk (.cells cs' el frz)):=by
 obtain⟨l0,a0,c0,d0⟩:=H.live b _ hb;rw[hs] at a0;cases a0;refine⟨H.upd _ hb hs rfl (by intros;rename_i e;cases e) ?_,zEy _ (d0 rfl)⟩;exact⟨cs',el,frz,by rw[World.put_get c0.blk_lt,xDO rfl],hr⟩
include hE in
theorem zWA{lo:Nat}{σ:Sg}{h h':AH}{w:World}(H:HR lo σ h w){t:TypeId}{v v' x x':Value}(hv:VR σ v v')(hx:VR σ x x')(hl:zJy E t v x h=some h') :
  ∃ w',(Instr.storeAt t v' x').run E.prog w=.ok () w'/\HR lo σ h' w'/\Below lo w w':=by
 unfold zJy at hl;split at hl;rotate_left
 ·cases hl
 rename_i b o;cases hv with
 | ptr o hσ=>
 rename_i l;split at hl;rotate_left
 ·cases hl
 rename_i vs ty es hb;obtain⟨l',a,⟨cs,el,frz,hw,hr⟩,_⟩:=H.live b _ hb;rw[hσ] at a;cases a;simp only at hl;split at hl;rotate_left
 ·cases hl
 rename_i s hs;split at hl;rotate_left
 ·cases hl
 rename_i hc;simp only[xAP,beq_true,ble_true,zAL] at hc;obtain⟨⟨c1,c2⟩,c3⟩:=hc;cases hl;have cC:=hx.cells;obtain⟨cs',r1,r2⟩:=zEG (P:=E.prog) hw hr o cC c3 (by omega);obtain⟨q1,q2⟩:=H.updRow hb hσ r2;refine⟨_,?_,q1,q2⟩;unfold Instr.storeAt Instr.sureAddr storeVar;have hsz:x'.cells.size=s:=by have:=cC.length;simp at this;omega
 simp only[xCs,xCt,xBj,z8 hE hs,hsz,ne_eq,xBk,xDI,r1]
end Go.AM
namespace Go.AM
open Go Go.Proofs Go.RowKit
variable {E:Env} (hE:zCt E)
theorem zS1{P:Program}{α:Type}:∀ {s:Sem α} {a:α},zAQ P s=some a->∀ w,s.run P w=.ok a w:=by
 intro s
 induction s with
 | pure a=>intro b h w;simp only[zAQ,xAN] at h;subst h;rfl
 | program k ih=>intro b h w;simp only[zAQ] at h;exact ih P h w
 | mark m k ih=>intro b h w;simp only[zAQ] at h;exact ih h w
 | _=>intro b h;simp[zAQ] at h
def zJc(σ:Sg)(T:Tm)(a:Act)(xs:List Operand):Prop:=∀ t,Operand.tmp t∈xs->VR σ (T.get t) (a.tmps.getD t undef)
section
variable {σ:Sg} {T:Tm} {a:Act} {xs:List Operand}
theorem zAF(h:zJc σ T a xs){x:Operand}(hx:x∈xs){v:Value}(e:zAj T x=some v):VR σ v (a.eval x):=by
 cases x with
 | tmp t=>simp only[zAj,xAN] at e;subst e;exact h t hx
 | const c=>
  simp only[zAj] at e;split at e
  ·rename_i hc;cases e;exact VR.of_isFlat hc
  ·cases e
 | global g=>simp[zAj] at e
 | func f=>simp only[zAj,xAN] at e;subst e;exact .func f .nil .nil
theorem zJl(h:zJc σ T a xs){x:Operand}(hx:x∈xs)(e:zr T x=true):a.eval x=rho T x:=by
 cases x with
 | tmp t=>exact VR.eq_of_isFlat e (h t hx)
 | const c=>rfl
 | global g=>simp[zr] at e
 | func f=>rfl
theorem zFI(h:zJc σ T a xs):∀ {ys:List Operand},(∀ y∈ys,y∈xs)->∀ {vs:List Value},zBu T ys=some vs->VRs σ vs (ys.map a.eval)
 | [],_,vs,e=>by simp only[zBu,xAN] at e;subst e;exact .nil
 | y::ys,hy,vs,e=>by
  simp only[zBu] at e;split at e
  ·rename_i v vs' e1 e2;cases e;exact .cons (zAF h (hy y (by simp)) e1) (zFI h (λ z hz=>hy z (by simp[hz])) e2)
  ·cases e
inductive zKx(σ:Sg):List (Nat×Value)->List (Nat×Value)->Prop
 | nil:zKx σ [] []
 | cons (i:Nat) {v v':Value} {l l':List (Nat×Value)} (h:VR σ v v') (hs:zKx σ l l'):zKx σ ((i,v)::l) ((i,v')::l')
theorem zLT(h:zJc σ T a xs):∀ {ys:List (Nat×Operand)},(∀ y∈ys,y.2∈xs)->∀ {vs:List (Nat×Value)},zHn T ys=some vs->zKx σ vs (ys.map λ (i,x)=>(i,a.eval x))
 | [],_,vs,e=>by simp only[zHn,xAN] at e;subst e;exact .nil
 | (i,y)::ys,hy,vs,e=>by
  simp only[zHn] at e;split at e
  ·rename_i v vs' e1 e2;cases e;exact .cons i (zAF h (hy (i,y) (by simp)) e1) (zLT h (λ z hz=>hy z (by simp[hz])) e2)
  ·cases e
def zRz(P:Program)(o:Oper)(a:Act)(v:Value):Prop:=∀ w,(execOp a.eval o).run P w=.ok (.value v) w
theorem zCX(h:zJc σ T a xs){o:Oper}(ho:o.op.operands.toList=xs){v:Value}(e:zCG E T o=some v):∃ v',zRz E.prog o a v'/\VR σ v v':=by
 unfold zCG at e;cases hc:(o.op.operands.toList.all (zr T)&&zD6 o.op) with
 | false=>rw[hc] at e;cases e
 | true=>
  rw[hc] at e;simp only[xAP,xCB] at hc;simp only[xAG] at e;split at e
  ·rename_i u hu;cases hf:zm u with
   | false=>rw[hf] at e;cases e
   | true=>
    rw[hf] at e;simp only[xAG,xAN] at e;subst e;refine⟨u,λ w=>?_,VR.of_isFlat hf⟩;have gH:execOp a.eval o=execOp (rho T) o:=by
     refine execOp_congr o (λ cs b hs=>?_) (λ x hx=>zJl h ?_ (hc.1 x ?_))
     ·rw[hs] at hc;simp[zD6] at hc
     ·rw[← ho];exact xBF.2 hx
     ·exact xBF.2 hx
    rw[gH];exact zS1 hu w
  ·cases e
theorem zEL(a b:Int):ieq a b=(a==b):=by
 cases a <;> cases b <;> simp only[ieq]
 ·rw[xCT,beq_true,beq_iff_eq];exact⟨λ h=>congrArg _ h,λ h=>Int.ofNat.inj h⟩
 ·rw[eq_comm];rw[beq_eq_false_iff_ne];intro h;cases h
 ·rw[eq_comm];rw[beq_eq_false_iff_ne];intro h;cases h
 ·rw[xCT,beq_true,beq_iff_eq];exact⟨λ h=>congrArg _ h,λ h=>Int.negSucc.inj h⟩
theorem zFJ(m:Nat):Int.ofNat m=(m:Int):=rfl
theorem zG7(a b:Int):ile a b=decide (a<=b):=by
 cases a with
 | ofNat m=>cases b with
  | ofNat n=>simp only[ile];rw[xCT,ble_true];simp
  | negSucc n=>simp only[ile];rw[eq_comm,xAk,zFJ];intro h;omega
 | negSucc m=>cases b with
  | ofNat n=>simp only[ile];rw[eq_comm,xBl,zFJ];omega
  | negSucc n=>simp only[ile];rw[xCT,ble_true];simp;omega
theorem zLF(k:IntKind)(n:Int):zCv k n=k.wrap n:=by
 have key:∀ m:Int,-9223372036854775808<=m->m<=9223372036854775807->IntKind.wrap .i64 m=m:=by
  intro m h1 h2;rw[IntKind.wrap_i64];omega
 unfold zCv;split
 ·split
  ·rename_i h;rw[ble_true] at h;exact (key _ (by rw[zFJ];omega) (by rw[zFJ];omega)).symm
  ·rfl
 ·split
  ·rename_i h;rw[ble_true] at h;exact (key _ (by omega) (by omega)).symm
  ·rfl
 ·rfl
theorem zPj{k l:IntKind}(h:keq k l=true):k=l:=by
 unfold keq at h;split at h <;> first|rfl|exact xBm h
theorem zXX{P:Program}{op:BinOp}{k:IntKind}{x y:Int}{v:Value}(e:zRJ op k x y=some v)(t:TypeId)(w:World):(binOp op t (.int k x) (.int k y)).run P w=.ok v w:=by
 cases op <;> simp only[zRJ,xAN,reduceCtorEq] at e <;> subst e <;>
  simp[binOp,Op.intArith,Op.intCmp,zLF,zEL,zG7]
 all_goals first|(rw[xCT];simp;done)|omega|skip
theorem zDp:∀ {xs ys:List Value} {r:Bool},zBE xs ys=some r->(∀ v∈xs,∃ k n,v=.int k n)/\(∀ v∈ys,∃ k n,v=.int k n)/\xs.length=ys.length
 | [],[],r,_=>by simp
 | [],_::_,_,h=>by simp[zBE] at h
 | v::vs,[],_,h=>by cases v <;> simp[zBE] at h
 | v::vs,u::us,r,h=>by
  cases v <;> cases u <;> simp only[zBE,reduceCtorEq] at h;rename_i k n l m;split at h;rotate_left
  ·cases h
  have:∃ r',zBE vs us=some r':=by
   split at h
   ·exact⟨_,h⟩
   ·split at h
    ·rename_i r' cu;exact⟨_,cu⟩
    ·cases h
  obtain⟨r',cu⟩:=this;obtain⟨a,b,c⟩:=zDp cu;refine⟨λ v hv=>?_,λ v hv=>?_,by simp[c]⟩
  ·rcases xCg.1 hv with rfl|hv
   ·exact⟨_,_,rfl⟩
   ·exact a v hv
  ·rcases xCg.1 hv with rfl|hv
   ·exact⟨_,_,rfl⟩
   ·exact b v hv
theorem VRs.ints{σ:Sg}:∀ {xs xs':List Value},VRs σ xs xs'->(∀ v∈xs,∃ k n,v=.int k n)->xs'=xs
 | _,_,.nil,_=>rfl
 | a::aas,b::bs,.cons h hs,H=>by
  obtain⟨k,n,e⟩:=H a (xBZ ..);subst e;cases h;rw[VRs.ints hs λ v hv=>H v (xBG _ hv)]
theorem zEZ{P:Program}{e:TypeId}{kd:IntKind}(he:P.underlying e=some (.int kd))(hs:P.cellsOf e=1)(d:Nat) :
  ∀(n o:Nat) (xs ys:Array Value) (r:Bool),zBE ((xs.toList.drop o).take n) ((ys.toList.drop o).take n)=some r->o+n<=xs.size->o+n<=ys.size->∀ w:World,
   (Op.eqItems (d+1) e 1 xs ys (List.range' o n)).run P w=.ok r w
 | 0,o,xs,ys,r,h,_,_,w=>by simp[zBE] at h;subst h;simp[Op.eqItems]
 | n+1,o,xs,ys,r,h,h1,h2,w=>by
  have hx:o<xs.size:=by omega
  have hy:o<ys.size:=by omega
  rw[xAZ (l:=xs.toList) (by simpa using hx),xAZ (l:=ys.toList) (by simpa using hy)] at h;simp only[xBP,Array.getElem_toList] at h;have ex:∀ v,xs[o]=v->xs[o]?=some v:=λ v e=>by rw[xAa hx,e]
  have ey:∀ v,ys[o]=v->ys[o]?=some v:=λ v e=>by rw[xAa hy,e]
  generalize xs[o]=u at h ex;generalize ys[o]=v at h ey
  replace ex:=ex _ rfl
  replace ey:=ey _ rfl
  cases u <;> cases v <;> simp only[zBE,reduceCtorEq] at h;rename_i k m k' m';split at h;rotate_left
  ·cases h
  rename_i hk;obtain rfl:=zPj hk;have cD:(isAgg e).run P w=.ok false w:=by unfold isAgg;rw[xCs,run_underlying he];rfl
  have fc:∀(zs:Array Value) (z:Value),zs[o]?=some z->(part e zs (o*1)).run P w=.ok z w:=by
   intro zs z hz;unfold part;simp only[xCs,cD,xBj,xBX,xDI,Nat.mul_one,hz];rfl
  have dU:(Op.equalIn (d+1) e (.int k m) (.int k m')).run P w=.ok (m==m') w:=by
   simp[Op.equalIn,run_underlying he]
  simp only[List.range'_succ,Op.eqItems,xCs,fc xs _ ex,fc ys _ ey,xBj,dU];rw[zEL] at h;by_cases hm:(m==m')=true
  ·rw[xDO hm] at h;simp only[hm,xAL,xBX,xDI];exact zEZ he hs d n (o+1) xs ys r h (by omega) (by omega) w
  ·rw[xDN hm] at h;have eO:(m==m')=false:=by simpa using hm
   split at h
   ·cases h;simp[eO]
   ·cases h
include hE in
theorem zFZ{t e:TypeId}{n:Nat}{kd:IntKind}(ht:und E t=some (.array n e))(he:und E e=some (.int kd))(h1:zAW E e=some 1){xs ys:Array Value}{r:Bool}
  (hr:zBE xs.toList ys.toList=some r) (hn:xs.size=n) (w:World):(Op.equal t (.agg xs) (.agg ys)).run E.prog w=.ok r w:=by
 obtain⟨info,hi,hsz⟩:=zCV hE h1;have hc:E.prog.cellsOf e=1:=by simp[Program.cellsOf,hi,hsz]
 obtain⟨_,_,hlen⟩:=zDp hr;unfold Op.equal Op.maxDepth;rw[run_equalIn_array w 9999 xs ys (zBN hE ht) hi,hc,List.range_eq_range'];exact zEZ (zBN hE he) hc 9998 n 0 xs ys r (by rw[xCe,xCe,xAD (by simp;omega),xAD (by simp at hlen ⊢;omega)];exact hr) (by omega) (by simp at hlen;omega) w
theorem zHq{P:Program}{t e:TypeId}{n:Nat}{kd:IntKind}(ht:P.underlying t=some (.array n e))(he:P.underlying e=some (.int kd)):P.eqGuardType P.depth t=false:=by
 obtain⟨d,hd⟩:∃ d,P.depth=d+2:=⟨2*(P.types.size+Made.depth),by simp[Program.depth]⟩;rw[hd];simp[Program.eqGuardType,ht,he]
include hE in
theorem zXs{t:TypeId}{xs ys:Array Value}{r:Bool}(h:zHf E t xs.toList ys.toList=some r) :
  E.prog.eqGuardType E.prog.depth t=false/\(∀ w,(Op.equal t (.agg xs) (.agg ys)).run E.prog w=.ok r w)/\zBE xs.toList ys.toList=some r:=by
 unfold zHf zo3 at h;split at h;rotate_left
 ·cases h
 rename_i n hn;split at hn;rotate_left
 ·cases hn
 rename_i m e hm;split at hn;rotate_left
 ·cases hn
 rename_i kd he h1;cases hn;cases hc:Nat.beq (zBU xs.toList) n with
 | false=>rw[hc] at h;cases h
 | true=>
  rw[hc] at h;simp only[xAG] at h;rw[beq_true,zAL] at hc;exact⟨zHq (zBN hE hm) (zBN hE he),λ w=>zFZ hE hm he h1 h (by simpa using hc) w,h⟩
include hE in
theorem zTx{op:BinOp}{t:TypeId}{x y:Operand}(hx:x∈xs)(hy:y∈xs)(h:zJc σ T a xs){v:Value}(e:zAJ E op t (rho T x) (rho T y)=some v)
  {o:Oper} {yt:TypeId} (ho:o.op=.binOp op t x y yt):zRz E.prog o a v/\VR σ v v:=by
 have aX:∀ {z:Operand},z∈xs->∀ u,rho T z=u->(∃ k n,u=.int k n)\/(∃ c,u=.agg c/\∀ v∈c.toList,∃ k n,v=.int k n)->a.eval z=u:=by
  intro z hz u hu hc;have hv:VR σ u (a.eval z):=by
   cases z with
   | tmp t=>rw[← hu];exact h t hz
   | const c=>
    have:c=u:=hu;subst this;rcases hc with ⟨k,n,rfl⟩|⟨c,rfl,hc⟩
    ·exact .int k n
    ·exact .agg (VRs.refl_of λ v hv=>by obtain⟨k,n,rfl⟩:=hc v hv;exact .int k n)
   | global g=>
    have:Value.pointer (some ⟨g,0,none⟩)=u:=hu;rcases hc with ⟨k,n,rfl⟩|⟨c,rfl,hc⟩ <;> cases this
   | func f=>
    have:Value.func (.func f) #[] #[]=u:=hu;rcases hc with ⟨k,n,rfl⟩|⟨c,rfl,hc⟩ <;> cases this
  generalize a.eval z=q at hv ⊢;rcases hc with ⟨k,n,rfl⟩|⟨c,rfl,hc⟩
  ·cases hv;rfl
  ·cases hv with
   | agg hv=>rw[xCC.1 (VRs.ints hv hc)]
 unfold zAJ at e;split at e
 ·rename_i k m l n ex ey;cases hk:keq k l with
  | false=>rw[hk] at e;cases e
  | true=>
   rw[hk] at e;obtain rfl:=zPj hk;simp only[xAG] at e;have e1:=aX hx _ ex (.inl ⟨_,_,rfl⟩);have e2:=aX hy _ ey (.inl ⟨_,_,rfl⟩);refine⟨λ w=>?_,?_⟩
   ·have hr:=zXX (P:=E.prog) e t w;simp only[execOp,ho,e1,e2,xCs,eqGuard];have hg:∀(op:BinOp),(if (!match op with | .eql=>true | .neq=>true|_=>false)=true then (pure ():Sem Unit) else pure ()).run E.prog w=.ok () w:=by intro op;split <;> rfl
    split <;> simp[hr]
   ·cases op <;> simp only[zRJ,xAN,reduceCtorEq] at e <;> subst e <;> constructor
 ·rename_i c d ex ey;cases hr:zHf E t c.toList d.toList with
  | none=>rw[hr] at e;cases op <;> simp at e
  | some r=>
   obtain⟨g1,g2,g3⟩:=zXs hE hr;obtain⟨i1,i2,i3⟩:=zDp g3;have e1:=aX hx _ ex (.inr ⟨c,rfl,i1⟩);have e2:=aX hy _ ey (.inr ⟨d,rfl,i2⟩);rw[hr] at e;cases op <;> simp only[xAN,reduceCtorEq] at e <;> subst e
   all_goals
    refine⟨λ w=>?_,.bool _⟩;simp[execOp,ho,e1,e2,eqGuard,g1,binOp,g2]
 ·cases e
include hE in
theorem zst{x y x' y':Value}{r:Bool}{t:TypeId}(hx:VR σ x x')(hy:VR σ y y')(e:eqV E t x y=some r)(w:World) :
  (Op.equal t x' y').run E.prog w=.ok r w/\(∀ op,op=.eql\/op=.neq->∀ p q:Operand,(eqGuard op t p q x' y').run E.prog w=.ok () w):=by
 have eg:∀ u v:Value,(∀ c d,¬ (u=.agg c/\v=.agg d))->¬ (u=.nilIface/\v=.nilIface)->∀ op,op=.eql\/op=.neq->∀ p q:Operand,(eqGuard op t p q u v).run E.prog w=.ok () w:=by
  intro u v h1 h2 op hop p q;unfold eqGuard;rcases hop with rfl|rfl <;>
  ·simp only[xAL,xBX,xDI];split
   ·exact absurd ⟨rfl,rfl⟩ h2
   ·exact absurd ⟨rfl,rfl⟩ (h1 _ _)
   ·rfl
 unfold eqV at e;unfold Op.equal;obtain⟨dd,eU⟩:∃ dd,Op.maxDepth=dd+1:=⟨9999,rfl⟩;rw[eU];clear eU;split at e
 ·rename_i el b hu;cases e;cases hx;have hn:∃ b',y'=.pointer b'/\b'.isNone=b.isNone:=by cases hy <;> exact⟨_,rfl,rfl⟩
  obtain⟨b',rfl,ar⟩:=hn;exact⟨by simp[Op.equalIn,zo hE hu,ar],eg _ _ (by simp) (by simp)⟩
 ·rename_i el a hu;cases e;cases hy;have hn:∃ a',x'=.pointer (some a'):=by cases hx;exact⟨_,rfl⟩
  obtain⟨a',rfl⟩:=hn;exact⟨by simp[Op.equalIn,zo hE hu],eg _ _ (by simp) (by simp)⟩
 ·rename_i el a b hu;unfold zsu at e;split at e;rotate_left
  ·cases e
  rename_i s hs;cases hc:Nat.beq a.block b.block with
  | false=>rw[hc] at e;cases e
  | true=>
   rw[hc] at e;simp only[xAG,xAN] at e;rw[beq_true] at hc;cases hx with
   | ptr o1 h1=>
   cases hy with
   | ptr o2 h2=>
   simp only at hc;subst hc;rw[h1] at h2;cases h2;rename_i l;refine⟨?_,eg _ _ (by simp) (by simp)⟩;simp only[Op.equalIn,xCs,zo hE hu,xBj,z8 hE hs];rw[xDD,xDO (by omega)];unfold sameAddr;simp only[xAO,xDM,xCt]
   congr 1
   subst e;rw[xCT,beq_true,beq_iff_eq];simp
 ·rename_i el n c b m d hu;cases e;cases hx;have hn:∃ b' m' d',y'=.slice b' m' d'/\b'.isNone=b.isNone:=by cases hy <;> exact⟨_,_,_,rfl,rfl⟩
  obtain⟨b',m',d',rfl,ar⟩:=hn;exact⟨by simp[Op.equalIn,zo hE hu,ar],eg _ _ (by simp) (by simp)⟩
 ·rename_i el a n c m d hu;cases e;cases hy;have hn:∃ b' m' d',x'=.slice (some b') m' d':=by cases hx <;> exact⟨_,_,_,rfl⟩
  obtain⟨b',m',d',rfl⟩:=hn;exact⟨by simp[Op.equalIn,zo hE hu],eg _ _ (by simp) (by simp)⟩
 ·rename_i k el b hu;cases e;cases hx;have hn:∃ b',y'=.map b'/\b'.isNone=b.isNone:=by cases hy <;> exact⟨_,rfl,rfl⟩
  obtain⟨b',rfl,ar⟩:=hn;exact⟨by simp[Op.equalIn,zo hE hu,ar],eg _ _ (by simp) (by simp)⟩
 ·rename_i k el a hu;cases e;cases hy;have hn:∃ a',x'=.map (some a'):=by cases hx;exact⟨_,rfl⟩
  obtain⟨a',rfl⟩:=hn;exact⟨by simp[Op.equalIn,zo hE hu],eg _ _ (by simp) (by simp)⟩
 ·rename_i hu;cases e;cases hx;cases hy;exact⟨by simp[Op.equalIn,zo hE hu],eg _ _ (by simp) (by simp)⟩
 ·rename_i hu;cases e;cases hx;have hn:∃ f b c,y'=.func f b c:=by cases hy <;> exact⟨_,_,_,rfl⟩
  obtain⟨f,b,c,rfl⟩:=hn;exact⟨by simp[Op.equalIn,zo hE hu],eg _ _ (by simp) (by simp)⟩
 ·rename_i hu;cases e;cases hy;have hn:∃ f b c,x'=.func f b c:=by cases hx <;> exact⟨_,_,_,rfl⟩
  obtain⟨f,b,c,rfl⟩:=hn;exact⟨by simp[Op.equalIn,zo hE hu],eg _ _ (by simp) (by simp)⟩
 ·cases e
theorem VRs.lnth{u u':List Value}(h:VRs σ u u'){k:Nat}{v:Value}(e:AM.lnth u k=some v):∃ v',u'[k]?=some v'/\VR σ v v':=by
 rw[zAI] at e;exact h.get e
include hE in
theorem zQz{t:TypeId}{cs cs':List Value}(h:VRs σ cs cs'){off:Nat}{v:Value}(e:zhi E t cs off=some v) :
  ∃ v',(∀ w,(part t ⟨cs'⟩ off).run E.prog w=.ok v' w)/\VR σ v v':=by
 unfold zhi at e;split at e;rotate_left
 ·cases e
 rename_i i hi;obtain⟨info,i1,i2,i3,i4,i5,i6⟩:=hE.ty t i hi;cases cD:i.agg with
 | true=>
  rw[cD] at e;simp only[xAG,zAl,zAo,zAL] at e;cases hl:Nat.beq (((cs.drop off).take i.size).length) i.size with
  | false=>rw[hl] at e;cases e
  | true=>
   rw[hl] at e;simp only[xAG,xAN] at e;subst e;refine⟨.agg ⟨(cs'.drop off).take i.size⟩,λ w=>?_,.agg ((h.drop off).take i.size)⟩;have jW:(isAgg t).run E.prog w=.ok true w:=by
    unfold isAgg;rw[xCs,run_underlying i2];simp only[xBj];cases eU:i.desc <;> rw[eU] at i6 <;> first|rfl|(rw[i6] at cD;cases cD)
   have hsz:(sizeOf t).run E.prog w=.ok i.size w:=z8 hE (by unfold zAW;unfold zC6 at hi;rw[hi]) w;unfold part;simp only[xCs,jW,xBj,xDM,hsz,xCt]
   congr 2
   apply xDH;rw[Array.toList_extract];simp[List.extract_eq_take_drop]
 | false=>
  rw[cD] at e;simp only[xAH] at e;obtain⟨v',a1,a2⟩:=h.lnth e;refine⟨v',λ w=>?_,a2⟩;have jW:(isAgg t).run E.prog w=.ok false w:=by
   unfold isAgg;rw[xCs,run_underlying i2];simp only[xBj];cases eU:i.desc <;> rw[eU] at i6 <;> first|rfl|(rw[i6] at cD;cases cD)
  unfold part;simp only[xCs,jW,xBj,xBX,xDI];rw[show (⟨cs'⟩:Array Value)[off]?=some v' from by rw[← a1];simp];rfl
theorem zDA{v v':Value}{k:Nat}(h:VR σ v v')(e:zE0 v=some k):∃ kd,v'=.int kd (k:Int):=by
 unfold zE0 at e;split at e
 ·split at e
  ·cases e;cases h;exact⟨_,rfl⟩
  ·cases e
 ·cases e
include hE in
theorem zWn{t:TypeId}{f:Nat}{x x':Value}(h:VR σ x x'){v:Value}(e:zDP E t f (some x)=some v):∃ v',(∀ w,(Instr.field t x' f).run E.prog w=.ok v' w)/\VR σ v v':=by
 unfold zDP at e;split at e;rotate_left
 ·cases e
 rename_i cs fs h1 h2;cases h1;split at e;rotate_left
 ·cases e
 rename_i fd hfd;cases h with
 | agg h=>
 rename_i b;obtain⟨v',a1,a2⟩:=zQz hE h e;refine⟨v',λ w=>?_,a2⟩;unfold Instr.field;rw[zAI,xAz] at hfd;simp only[xCs,zo hE h2,xBj,hfd,asAgg,xCt];exact a1 w
include hE in
theorem zWm{t:TypeId}{x x' i i':Value}(h:VR σ x x')(hi:VR σ i i'){v:Value}(e:zBl E t (some x) (some i)=some v) :
  ∃ v',(∀ w,(Instr.index t x' i').run E.prog w=.ok v' w)/\VR σ v v':=by
 unfold zBl at e;split at e
 ·rename_i s j h1 h2 hu;cases h1;cases h2;unfold zne at e;split at e;rotate_left
  ·cases e
  rename_i k hk;obtain⟨kd,rfl⟩:=zDA hi hk;split at e;rotate_left
  ·cases e
  rename_i b hb;cases e;cases h;refine⟨_,λ w=>?_,.int _ _⟩;rw[zAI,xAz] at hb;have ar:s[k]?=some b:=hb;unfold Instr.index;simp[asIntOf,zo hE hu,ar]
 ·rename_i cs j n el h1 h2 hu;cases h1;cases h2;unfold znU at e;split at e;rotate_left
  ·cases e
  rename_i k s hk aV;obtain⟨kd,rfl⟩:=zDA hi hk;cases hc:Nat.ble (k+1) n with
  | false=>rw[hc] at e;cases e
  | true=>
   rw[hc] at e;simp only[xAG] at e;rw[ble_true] at hc;cases h with
   | agg h=>
   obtain⟨v',a1,a2⟩:=zQz hE h e;refine⟨v',λ w=>?_,a2⟩;unfold Instr.index;simp only[asIntOf,xCs,xCt,xBj,zo hE hu];rw[xDD,xDO (by omega)];simp only[xCs,z8 hE aV,xBj,xBn];exact a1 w
 ·cases e
include hE in
theorem zLq{t:TypeId}{f:Nat}{x x':Value}(h:VR σ x x'){v:Value}(e:zHC E t x f=some v):∃ v',(∀ w,(Instr.fieldAt t x' f).run E.prog w=.ok v' w)/\VR σ v v':=by
 unfold zHC at e;split at e;rotate_left
 ·cases e
 rename_i fs ad hu;split at e;rotate_left
 ·cases e
 rename_i fd hfd;split at e;rotate_left
 ·cases e
 rename_i s hs;cases e;cases h with
 | ptr o hσ=>
 rename_i b l;refine⟨_,λ w=>?_,.ptr (o+fd.offset) hσ⟩;rw[zAI,xAz] at hfd;unfold Instr.fieldAt Instr.sureAddr fieldPlace;simp only[xCs,zo hE hu,xBj,hfd,xCt,z8 hE hs];rw[xDD,xDN (by omega),xCt];simp only[xBj,zB0,xCh]
include hE in
theorem zLh{t:TypeId}{x x' i i':Value}(h:VR σ x x')(hi:VR σ i i'){v:Value}(e:zD7 E t x i=some v) :
  ∃ v',(∀ w,(Instr.indexAt t x' i').run E.prog w=.ok v' w)/\VR σ v v':=by
 unfold zD7 at e;split at e
 ·rename_i el ad len cap k hu hk;obtain⟨kd,rfl⟩:=zDA hi hk;split at e;rotate_left
  ·cases e
  rename_i size hs;cases hc:Nat.ble (k+1) len with
  | false=>rw[hc] at e;cases e
  | true=>
   rw[hc] at e;simp only[xAG,xAN] at e;subst e;rw[ble_true] at hc;have key:∀(b:Nat) (l:Loc) (o c:Nat),σ b=some l->ad=⟨b,o,none⟩->x'=.slice (some ⟨l.blk,l.base+o,none⟩) len c->
     ∃ v',(∀ w,(Instr.indexAt t x' (.int kd (k:Int))).run E.prog w=.ok v' w)/\VR σ (.pointer (some ⟨ad.block,ad.off+k*size,none⟩)) v':=by
    intro b l o c hσ e1 e2;subst e1;subst e2;refine⟨_,λ w=>?_,.ptr (o+k*size) hσ⟩;unfold Instr.indexAt;simp only[asIntOf,xCs,xCt,xBj,zo hE hu];rw[xDD,xDO (by omega)];simp only[xCs,z8 hE hs,xBj,xBn,xCt,zB0,xCh]
   cases h with
   | slice o n c hσ am=>exact key _ _ _ _ hσ rfl rfl
   | sliceU o n c hσ am hn=>exact key _ _ _ _ hσ rfl rfl
   | sliceS a=>omega
 ·rename_i n el ad k hu hk;obtain⟨kd,rfl⟩:=zDA hi hk;split at e;rotate_left
  ·cases e
  rename_i size hs;cases hc:Nat.ble (k+1) n with
  | false=>rw[hc] at e;cases e
  | true=>
   rw[hc] at e;simp only[xAG,xAN] at e;subst e;rw[ble_true] at hc;cases h with
   | ptr o hσ=>
   refine⟨_,λ w=>?_,.ptr (o+k*size) hσ⟩;unfold Instr.indexAt Instr.sureAddr;simp only[asIntOf,xCs,xCt,xBj,zo hE hu];rw[xDD,xDO (by omega)];simp only[xCs,z8 hE hs,xBj,xBn,xCt,zB0,xCh]
 ·cases e
end
end Go.AM
namespace Go.AM
open Go Go.Proofs Go.RowKit
variable {E:Env} (hE:zCt E) {σ:Sg} {T:Tm} {a:Act} {xs:List Operand}
inductive zSe(σ:Sg):Option Value->Option Value->Prop
 | none:zSe σ none none
 | some {v v':Value} (h:VR σ v v'):zSe σ (some v) (some v')
theorem zA9{P:Program}{kd:IntKind}{k y:Nat}(h:k<=y)(c:BoundsCode)(w:World):(Instr.sliceBound (.int kd (k:Int)) y c).run P w=.ok k w:=by
 unfold Instr.sliceBound;simp only[asIntOf,xCs,xCt,xBj];rw[xDD,xDO (by omega)];simp
theorem zH2{v v':Option Value}(h:zSe σ v v'){d k:Nat}(e:zGK v d=some k):(v'=none/\k=d)\/∃ kd,v'=some (.int kd (k:Int)):=by
 cases h with
 | none=>simp only[zGK,xAN] at e;exact .inl ⟨rfl,e.symm⟩
 | some h=>obtain⟨kd,rfl⟩:=zDA h e;exact .inr ⟨kd,rfl⟩
theorem zJG{P:Program}{lo hi lo' cV:Option Value}(hl:zSe σ lo lo')(hh:zSe σ hi cV){b:Bool}{len cap l h:Nat}(el:zGK lo 0=some l)(eh:zGK hi len=some h)(h1:l<=h)(h2:h<=cap)(w:World) :
  (Instr.sliceBounds b len cap lo' cV none).run P w=.ok (l,h,cap) w:=by
 unfold Instr.sliceBounds;rcases zH2 hl el with ⟨rfl,rfl⟩|⟨k1,rfl⟩ <;> rcases zH2 hh eh with ⟨rfl,rfl⟩|⟨k2,rfl⟩ <;>
  simp[zA9 h1,zA9 h2]
set_option linter.unusedSimpArgs false in
theorem zL2{P:Program}{lo hi lo' cV:Option Value}(hl:zSe σ lo lo')(hh:zSe σ hi cV){b:Bool}{len cap l h m:Nat}{km:IntKind}(el:zGK lo 0=some l)(eh:zGK hi len=some h)(hhi:hi≠none)(h1:l<=h)(h2:h<=m)(h3:m<=cap)(w:World) :
  (Instr.sliceBounds b len cap lo' cV (some (.int km (m:Int)))).run P w=.ok (l,h,m) w:=by
 unfold Instr.sliceBounds;rcases zH2 hl el with ⟨rfl,rfl⟩|⟨k1,rfl⟩ <;> rcases zH2 hh eh with ⟨rfl,rfl⟩|⟨k2,rfl⟩
 ·cases hh;exact absurd rfl hhi
 ·simp[zA9 h1,zA9 h2,zA9 h3]
 ·cases hh;exact absurd rfl hhi
 ·simp[zA9 h1,zA9 h2,zA9 h3]
theorem zBK{t el:TypeId}{P:Program}(hu:P.underlying t=some (.slice el)){size:Nat}(hs:∀ w,(sizeOf el).run P w=.ok size w){ad:Option Addr}{len cap l h m:Nat}{lo hi mx:Option Value}
  (hb:∀ w,(Instr.sliceBounds true len cap lo hi mx).run P w=.ok (l,h,m) w) (w:World) :
  (Instr.sliceAt t (.slice ad len cap) lo hi mx).run P w=.ok (.slice (if m=l then ad else ad.map (·.add (l*size))) (h-l) (m-l)) w:=by
 unfold Instr.sliceAt;simp only[xCs,run_underlying hu,xBj];unfold Instr.slice;simp only[xCs,run_underlying hu,xBj,hb w,hs w,xCt]
include hE in
theorem zWM{t el:TypeId}(hu:und E t=some (.slice el)){ad:Option Addr}{len cap:Nat}{x':Value}(h:VR σ (.slice ad len cap) x'){lo hi mx lo' cV mx':Option Value}(hl:zSe σ lo lo')(hh:zSe σ hi cV)(hm:zSe σ mx mx')
  (iM:mx≠none->hi≠none) {v:Value} (e:sliceS E el ad len cap lo hi mx=some v):∃ v',(∀ w,(Instr.sliceAt t x' lo' cV mx').run E.prog w=.ok v' w)/\VR σ v v':=by
 unfold sliceS at e;split at e;rotate_left
 ·cases e
 rename_i size l u hs el' eu;have dF:=zBN hE hu;have aV:=z8 hE hs;split at e
 ·
  cases hm;unfold zhC at e;cases hc:Nat.ble l u with
  | false=>rw[hc] at e;cases e
  | true=>
  rw[hc] at e;rw[ble_true] at hc;simp only[xAG] at e;cases h with
  | sliceN n c=>
   split at e
   ·simp at e
   ·rename_i cN;rw[ble_false] at cN;cases hc3:Nat.ble u cap with
    | false=>rw[hc3] at e;cases e
    | true=>
    rw[hc3] at e;rw[ble_true] at hc3;simp only[xAG,xAN] at e;have:=zJG (P:=E.prog) hl hh (b:=true) el' eu hc hc3;refine⟨_,λ w=>zBK dF aV this w,?_⟩;subst e;have e1:(if cap=l then (none:Option Addr) else (none:Option Addr).map (λ x=>x.add (l*size)))=none:=by split <;> rfl
    have e2:(cond (Nat.beq cap l) (none:Option Addr) (zGe none (l*size)))=none:=by cases Nat.beq cap l <;> rfl
    rw[e1,e2];exact .sliceN _ _
  | slice o n c hσ hcU=>
   rename_i b loc;split at e
   ·rename_i cN;rw[ble_true] at cN;omega
   ·cases hc3:Nat.ble u cap with
    | false=>rw[hc3] at e;cases e
    | true=>
    rw[hc3] at e;rw[ble_true] at hc3;simp only[xAG,xAN] at e;have:=zJG (P:=E.prog) hl hh (b:=true) el' eu hc hc3;refine⟨_,λ w=>zBK dF aV this w,?_⟩;subst e;by_cases an:cap=l
    ·rw[beq_true.2 an,xDO an];exact .slice o _ _ hσ (by omega)
    ·rw[zBw an,xDN an];simp only[xAH,zGe,xCS,zB0,xCh];exact .slice (o+l*size) _ _ hσ (by omega)
  | sliceS a=>
   split at e
   ·rename_i cN;rw[ble_true] at cN;unfold UNK at cN;omega
   ·cases hc3:Nat.ble u 0 with
    | false=>rw[hc3] at e;cases e
    | true=>
    rw[hc3] at e;rw[ble_true] at hc3;simp only[xAG,xAN] at e;obtain rfl:u=0:=by omega
    obtain rfl:l=0:=by omega
    have:=zJG (P:=E.prog) hl hh (b:=true) el' eu hc hc3;refine⟨_,λ w=>zBK dF aV this w,?_⟩;subst e;rw[xDO rfl];exact .sliceS a
  | sliceU o n c hσ hcU hn=>
   rename_i b loc;split at e;rotate_left
   ·rename_i cN;rw[ble_false] at cN;omega
   cases hc3:((some (⟨b,o,none⟩:Addr)).isSome&&Nat.ble u len&&Nat.beq (UNK+loc.es) (UNK+size)) with
   | false=>rw[hc3] at e;cases e
   | true=>
   rw[hc3] at e;simp only[xAG] at e;simp only[xAP,ble_true,beq_true,xBa,xDJ] at hc3;have cz:loc.es=size:=by omega
   have:=zJG (P:=E.prog) hl hh (b:=true) el' eu hc (show u<=c by omega);refine⟨_,λ w=>zBK dF aV this w,?_⟩;cases hc4:Nat.beq l 0 with
   | true=>
    rw[hc4] at e;simp only[xAG,xAN] at e;subst e;rw[beq_true] at hc4;subst hc4;have e1:(if c=0 then some (⟨loc.blk,loc.base+o,none⟩:Addr) else (some (⟨loc.blk,loc.base+o,none⟩:Addr)).map (·.add (0*size)))=some ⟨loc.blk,loc.base+o,none⟩:=by
     split
     ·rfl
     ·simp[zB0]
    rw[e1,Nat.sub_zero,Nat.sub_zero];exact .sliceU o u c hσ hcU (by omega)
   | false=>
    rw[hc4] at e;simp only[xAH] at e;cases ko:Nat.ble len l with
    | true=>rw[ko] at e;cases e
    | false=>
     rw[ko] at e;simp only[xAH,xAN] at e;rw[ble_false] at ko;subst e;rw[xDN (by omega)];simp only[zGe,xCS,zB0,xCh];refine .sliceU (o+l*size) (u-l) (c-l) hσ ?_ (by omega);rw[cz,Nat.sub_mul];rw[cz] at hcU;have:l*size<=c*size:=xBH _ (by omega);omega
 ·
  rename_i mm;split at e;rotate_left
  ·cases e
  rename_i m hmm;cases hm with
  | some hm=>
  obtain⟨km,rfl⟩:=zDA hm hmm;unfold zys at e;cases hc:(Nat.ble l u&&Nat.ble u m&&cond (Nat.ble UNK cap) (ad.isSome&&Nat.ble m len) (Nat.ble m cap)&&Nat.ble (m+1) UNK) with
  | false=>rw[hc] at e;cases e
  | true=>
  rw[hc] at e;simp only[xAG,xAN] at e;simp only[xAP,ble_true] at hc;obtain⟨⟨⟨h1,h2⟩,h3⟩,h4⟩:=hc;subst e;have iE:∀(b:Nat) (l0:Loc) (o:Nat),σ b=some l0->VR σ (.slice (cond (Nat.beq m l) (some ⟨b,o,none⟩) (zGe (some ⟨b,o,none⟩) (l*size))) (u-l) (m-l))
    (.slice (if m=l then some ⟨l0.blk,l0.base+o,none⟩ else (some (⟨l0.blk,l0.base+o,none⟩:Addr)).map (λ x=>x.add (l*size))) (u-l) (m-l)):=by
   intro b l0 o hσ;by_cases an:m=l
   ·rw[beq_true.2 an,xDO an];exact .slice o _ _ hσ (by omega)
   ·rw[zBw an,xDN an];simp only[xAH,zGe,xCS,zB0,xCh];exact .slice (o+l*size) _ _ hσ (by omega)
  cases h with
  | sliceN n c=>
   have h3':m<=cap:=by
    cases hU:Nat.ble UNK cap with
    | true=>rw[hU] at h3;simp at h3
    | false=>rw[hU] at h3;exact ble_true.1 h3
   have:=zL2 (P:=E.prog) hl hh (b:=true) el' eu (iM (by simp)) h1 h2 h3' (km:=km);refine⟨_,λ w=>zBK dF aV this w,?_⟩;have e1:(if m=l then (none:Option Addr) else (none:Option Addr).map (λ x=>x.add (l*size)))=none:=by split <;> rfl
   have e2:(cond (Nat.beq m l) (none:Option Addr) (zGe none (l*size)))=none:=by cases Nat.beq m l <;> rfl
   rw[e1,e2];exact .sliceN _ _
  | slice o n c hσ hcU=>
   rw[ble_false.2 hcU] at h3;have:=zL2 (P:=E.prog) hl hh (b:=true) el' eu (iM (by simp)) h1 h2 (ble_true.1 h3) (km:=km);exact⟨_,λ w=>zBK dF aV this w,iE _ _ _ hσ⟩
  | sliceS a=>
   have h3':m<=0:=by
    cases hU:Nat.ble UNK 0 with
    | true=>rw[ble_true] at hU;unfold UNK at hU;omega
    | false=>rw[hU] at h3;exact ble_true.1 h3
   obtain rfl:m=0:=by omega
   obtain rfl:u=0:=by omega
   obtain rfl:l=0:=by omega
   have:=zL2 (P:=E.prog) hl hh (b:=true) el' eu (iM (by simp)) h1 h2 h3' (km:=km);refine⟨_,λ w=>zBK dF aV this w,?_⟩;rw[xDO rfl];exact .sliceS a
  | sliceU o n c hσ hcU hn=>
   rw[ble_true.2 (by omega)] at h3;simp only[xAG,xAP,ble_true] at h3;have:=zL2 (P:=E.prog) hl hh (b:=true) el' eu (iM (by simp)) h1 h2 (show m<=c by omega) (km:=km);exact⟨_,λ w=>zBK dF aV this w,iE _ _ _ hσ⟩
include hE in
theorem zWL{t:TypeId}{x x':Value}(h:VR σ x x'){lo hi mx lo' cV mx':Option Value}(hl:zSe σ lo lo')(hh:zSe σ hi cV)(hm:zSe σ mx mx')
  (iM:mx≠none->hi≠none) {v:Value} (e:zEk E t x lo hi mx=some v):∃ v',(∀ w,(Instr.sliceAt t x' lo' cV mx').run E.prog w=.ok v' w)/\VR σ v v':=by
 unfold zEk at e;split at e
 ·rename_i el ad len cap hu;exact zWM hE hu h hl hh hm iM e
 ·rename_i n el ad hu;unfold zmw at e;split at e;rotate_left
  ·cases e
  rename_i size l u hs el' eu;cases hm;cases hc:(Nat.ble l u&&Nat.ble u n&&Nat.ble (n+1) UNK) with
  | false=>rw[hc] at e;cases e
  | true=>
  rw[hc] at e;simp only[xAG,xAN] at e;simp only[xAP,ble_true] at hc;obtain⟨hc,hn⟩:=hc;subst e;cases h with
  | ptr o hσ=>
  rename_i b loc;have hb:=zJG (P:=E.prog) hl hh (b:=false) el' eu hc.1 hc.2
  ·refine⟨.slice (some (if n=l then ⟨loc.blk,loc.base+o,none⟩ else (⟨loc.blk,loc.base+o,none⟩:Addr).add (l*size))) (u-l) (n-l),λ w=>?_,?_⟩
   ·unfold Instr.sliceAt Instr.sureAddr;simp only[xCs,zo hE hu,xBj,xCt,hb w,z8 hE hs]
   ·by_cases an:n=l
    ·rw[beq_true.2 an,xDO an];exact .slice o _ _ hσ (by omega)
    ·rw[zBw an,xDN an];simp only[xAH,zGe,zB0,xCh];exact .slice (o+l*size) _ _ hσ (by omega)
 ·cases e
end Go.AM
namespace Go.AM
open Go Go.Proofs Go.RowKit
variable {E:Env} (hE:zCt E) {σ:Sg} {T:Tm} {a:Act} {xs:List Operand}
theorem VRs.lput:∀ {l l' ws ws':List Value} (o:Nat),VRs σ l l'->VRs σ ws ws'->VRs σ (AM.lput l o ws) (AM.lput l' o ws')
 | _,_,_,_,o,hl,.nil=>by cases hl <;> cases o <;> simp only[AM.lput] <;> first|exact .nil|(constructor <;> assumption)
 | _,_,_,_,0,.nil,.cons _ _=>.nil
 | _,_,_,_,_+1,.nil,.cons _ _=>.nil
 | _,_,_,_,o+1,.cons h hs,.cons k ks=>.cons h (VRs.lput o hs (.cons k ks))
 | _,_,_,_,0,.cons _ hs,.cons k ks=>.cons k (VRs.lput 0 hs ks)
theorem zRT:∀(ws:List Value) (s o:Nat) (cells:Array Value),o+s+ws.length<=cells.size->
  ((ws.zipIdx s).foldl (λ cs (c,j)=>cs.setIfInBounds (o+j) c) cells).toList=lput cells.toList (o+s) ws
 | [],s,o,cells,_=>by
  simp only[List.zipIdx_nil,List.foldl_nil];cases cells.toList <;> cases (o+s) <;> rfl
 | w::ws,s,o,cells,h=>by
  simp only[List.zipIdx_cons,List.foldl_cons];rw[zRT ws (s+1) o _ (by simp at h ⊢;omega)];have ab:o+s<cells.toList.length:=by simp at h ⊢;omega
  apply xBo;intro k;rw[zGQ _ _ _ _ (by simp at h ⊢;omega),zGQ _ _ _ _ (by simp at h ⊢;omega)];simp only[xAW,xBp,xCG];by_cases h1:k=o+s
  ·subst h1;have e1:¬ (o+(s+1)<=o+s/\o+s<o+(s+1)+ws.length):=by omega
   have e2:o+s<=o+s/\o+s<o+s+(ws.length+1):=by omega
   simp only[e1,e2,xDI,xDM,ab,Nat.sub_self,xAl,and_self]
  ·have e3:¬ (o+s=k):=λ e=>h1 e.symm;by_cases h2:o+(s+1)<=k/\k<o+(s+1)+ws.length
   ·have e2:o+s<=k/\k<o+s+(ws.length+1):=by omega
    rw[xDO h2,xDO e2,show k-(o+s)=(k-(o+(s+1)))+1 by omega];rfl
   ·have e2:¬ (o+s<=k/\k<o+s+(ws.length+1)):=by omega
    rw[xDN h2,xDN e2,xDN e3]
theorem zLp{pl pl':Nat->Option (Nat×Nat)}(iH:∀ i p,pl i=some p->pl' i=some p):∀ {ps ps':List (Nat×Value)} {cells cs:List Value} {cells':Array Value},zKx σ ps ps'->VRs σ cells cells'.toList->
  zPv pl cells ps=some cs->∃ cs':Array Value,Instr.fill pl' cells' ps'=some cs'/\VRs σ cs cs'.toList
 | _,_,cells,cs,cells',.nil,hc,e=>by simp only[zPv,xAN] at e;subst e;exact⟨_,rfl,hc⟩
 | _,_,cells,cs,cells',.cons (v:=v) (v':=v') (l:=ps) (l':=ps') i hv hs,hc,e=>by
  simp only[zPv] at e;split at e
  ·cases e
  rename_i off size hp;split at e;rotate_left
  ·cases e
  rename_i bu;simp only[xAP,beq_true,ble_true,zAL] at bu;have h1:=hv.cells;have l1:=h1.length;have l2:=hc.length;simp only[xBQ] at l1 l2;have au:=zRT v'.cells.toList 0 off cells' (by simp;omega);simp only[xCu] at au;obtain⟨cs',q1,q2⟩:=zLp iH (cells':=((v'.cells.toList.zipIdx 0).foldl (λ cs (c,j)=>cs.setIfInBounds (off+j) c) cells')) hs (by rw[au];exact VRs.lput off hc h1) e;refine⟨cs',?_,q2⟩;simp only[Instr.fill,iH _ _ hp];rw[xDN (by simp;omega)];rw[← q1];rw[← Array.foldl_toList,Array.toList_zipIdx]
include hE in
theorem zMj:∀ {fs:List Field} {pl:List (Nat×Nat)},zIc E fs=some pl->fs.mapM (λ f=>(E.prog.info? f.type).map λ i=>(f.offset,i.size))=some pl
 | [],pl,h=>by simp only[zIc,xAN] at h;subst h;rfl
 | f::fs,pl,h=>by
  simp only[zIc] at h;split at h
  ·rename_i s ps hs dx;cases h;obtain⟨info,i1,i2⟩:=zCV hE hs;rw[List.mapM_cons,zMj dx,i1];simp[i2]
  ·cases h
include hE in
theorem zYT{t:TypeId}{ps ps':List (Nat×Value)}(hp:zKx σ ps ps'){v:Value}(e:zYU E t ps=some v) :
  ∃ v',(∀ w,(Instr.build t ⟨ps'⟩).run E.prog w=.ok v' w)/\VR σ v v':=by
 unfold zYU at e;split at e
 ·rename_i z fs hz hu;split at e;rotate_left
  ·cases e
  rename_i pl iH;split at e;rotate_left
  ·cases e
  rename_i cs aT;cases e;have hzc:VRs σ (zd z) z.cells.toList:=(VR.of_flat 4 z (zDJ hE hz)).cells;obtain⟨cs',q1,q2⟩:=zLp (pl':=λ i=>pl.toArray[i]?) (λ i p h=>by rw[zAI] at h;simpa using h) hp hzc aT;refine⟨.agg cs',λ w=>run_build w t ⟨ps'⟩ cs' ?_,.agg q2⟩;unfold zAh at hz;split at hz;rotate_left
  ·cases hz
  rename_i i hi;obtain⟨info,i1,i2,i3,i4,i5,i6⟩:=hE.ty t i hi;unfold Program.built;rw[i1,zBN hE hu];simp only[i5,hz,zMj hE iH];exact q1
 ·rename_i z n el hz hu;split at e;rotate_left
  ·cases e
  rename_i s hs;split at e;rotate_left
  ·cases e
  rename_i cs aT;cases e;have hzc:VRs σ (zd z) z.cells.toList:=(VR.of_flat 4 z (zDJ hE hz)).cells;obtain⟨cs',q1,q2⟩:=zLp (pl':=λ i=>some (i*s,s)) (λ i p h=>h) hp hzc aT;refine⟨.agg cs',λ w=>run_build w t ⟨ps'⟩ cs' ?_,.agg q2⟩;unfold zAh at hz;split at hz;rotate_left
  ·cases hz
  rename_i i hi;obtain⟨info,i1,i2,i3,i4,i5,i6⟩:=hE.ty t i hi;obtain⟨info2,j1,j2⟩:=zCV hE hs;unfold Program.built;rw[i1,zBN hE hu];simp only[i5,hz,j1,j2];exact q1
 ·cases e
theorem zPN(h:zJc σ T a xs){x:Option Operand}(hx:∀ y,x=some y->y∈xs){l:List Value}(e:zBu T x.toList=some l):zSe σ l.head? (x.map a.eval):=by
 cases x with
 | none=>simp only[xBb,zBu,xAN] at e;subst e;exact .none
 | some y=>
  simp only[xBc,zBu] at e;split at e
  ·rename_i v vs e1 e2;cases e;exact .some (zAF h (hx y rfl) e1)
  ·cases e
include hE in
theorem zNI{o:Oper}(h:zJc σ T a o.op.operands.toList){v:Value}(e:zw E T o=some v):∃ v',zRz E.prog o a v'/\VR σ v v':=by
 unfold zw at e;split at e
 ·
  rename_i x ho;refine⟨a.eval x,λ w=>?_,zAF h (by rw[ho];simp[Op.operands]) e⟩;simp[execOp,ho]
 ·rename_i x ho;refine⟨a.eval x,λ w=>?_,zAF h (by rw[ho];simp[Op.operands]) e⟩;simp[execOp,ho]
 ·
  rename_i c p q ho;unfold pPick at e;split at e;rotate_left
  ·cases e
  rename_i t ht;have hc:=zAF h (by rw[ho];simp[Op.operands]) ht;have dw:a.eval c=.bool t:=by generalize a.eval c=u at hc;cases hc;rfl
  cases t with
  | true=>
   refine⟨a.eval p,λ w=>?_,zAF h (by rw[ho];simp[Op.operands]) e⟩;simp[execOp,ho,dw,asBool]
  | false=>
   refine⟨a.eval q,λ w=>?_,zAF h (by rw[ho];simp[Op.operands]) e⟩;simp[execOp,ho,dw,asBool]
 ·
  rename_i x ho;cases hx:zAj T x with
  | none=>rw[hx] at e;simp[zAz] at e
  | some u=>
   rw[hx] at e;have hu:=zAF h (by rw[ho];simp[Op.operands]) hx;unfold zAz at e;split at e
   ·rename_i ad h2;cases h2;cases e;refine⟨a.eval x,λ w=>?_,hu⟩;generalize hq:a.eval x=q at hu;cases hu;simp[execOp,ho,hq]
   ·rename_i f p q h2;cases h2;cases e;refine⟨a.eval x,λ w=>?_,hu⟩;generalize hq:a.eval x=q at hu;cases hu;simp[execOp,ho,hq]
   ·rename_i f p q h2;cases h2;cases e;refine⟨a.eval x,λ w=>?_,hu⟩;generalize hq:a.eval x=q at hu;cases hu;simp[execOp,ho,hq]
   ·cases e
 ·
  rename_i op t x y yt ho;have hx:x∈o.op.operands.toList:=by rw[ho];simp[Op.operands]
  have hy:y∈o.op.operands.toList:=by rw[ho];simp[Op.operands]
  unfold zom at e;split at e
  ·rename_i u hu;cases e;obtain⟨q1,q2⟩:=zTx hE hx hy h hu ho;exact⟨_,q1,q2⟩
  ·unfold zH1 at e;cases hc:(zr T x&&zr T y) with
   | true=>rw[hc] at e;exact zCX h rfl e
   | false=>
    rw[hc] at e;simp only[xAH] at e;have key:∀ neg,(op=if neg then .neq else .eql)->zvM E neg t (zAj T x) (zAj T y)=some v->∃ v',zRz E.prog o a v'/\VR σ v v':=by
     intro neg hop e;unfold zvM at e;split at e;rotate_left
     ·cases e
     rename_i u1 u2 e1 e2;split at e;rotate_left
     ·cases e
     rename_i r hr;cases e;refine⟨_,λ w=>?_,.bool _⟩;obtain⟨q1,q2⟩:=zst hE (zAF h hx e1) (zAF h hy e2) hr w;have q3:=q2 op (by rw[hop];cases neg <;> simp) x y;have hbin:(binOp op t (a.eval x) (a.eval y)).run E.prog w=.ok (.bool (xor neg r)) w:=by
      have bZ:∀ u u' v v',VR σ u u'->VR σ v v'->eqV E t u v=some r->(binOp op t u' v').run E.prog w=((Op.equal t u' v').run E.prog w).andThen λ b w=>.ok (.bool (xor neg b)) w:=by
       intro u u' v v' hu hv he;unfold eqV at he;cases neg <;> simp only[xBX,xDI,xDM] at hop <;> subst hop <;>
       ·split at he <;> first
         | (cases he;done)
         | (cases hu <;> cases hv <;> simp[binOp])
      rw[bZ _ _ _ _ (zAF h hx e1) (zAF h hy e2) hr,q1];rfl
     simp only[execOp,ho,xCs,q3,hbin,xBj,xCt]
    split at e
    ·exact key false rfl e
    ·exact key true rfl e
    ·cases e
 ·
  rename_i op t x ho;unfold pUn at e;split at e
  ·rename_i u hu;cases e;unfold zDg at hu;split at hu
   ·rename_i b hb;cases hu;have hx:a.eval x=.bool b:=by
     cases x with
     | tmp k=>have:=h k (by rw[ho];simp[Op.operands]);simp only[rho] at hb;rw[hb] at this;generalize hq:a.tmps.getD k undef=q at this;cases this;exact hq
     | const c=>exact hb
     | global g=>cases hb
     | func f=>cases hb
    refine⟨_,λ w=>?_,.bool _⟩;simp[execOp,ho,hx,Op.unary]
   ·cases hu
  ·unfold zS4 at e;cases hc:zr T x with
   | true=>rw[hc] at e;exact zCX h rfl e
   | false=>rw[hc] at e;cases e
 ·
  rename_i t x ho;unfold zS4 at e;cases hc:zr T x with
  | true=>rw[hc] at e;exact zCX h rfl e
  | false=>rw[hc] at e;cases e
 ·
  rename_i x i ho;cases hx:zAj T x with
  | none=>rw[hx] at e;simp[z6] at e
  | some u=>
   rw[hx] at e;have hu:=zAF h (by rw[ho];simp[Op.operands]) hx;unfold z6 at e;split at e
   ·rename_i vs h2;cases h2;generalize hq:a.eval x=q at hu;cases hu with
    | tuple hu=>
    obtain⟨v',q1,q2⟩:=hu.lnth e;refine⟨v',λ w=>?_,q2⟩;rw[xAz] at q1;simp[execOp,ho,hq,Instr.extract,q1]
   ·cases e
 ·
  rename_i t ps ho;cases hx:zHn T ps.toList with
  | none=>rw[hx] at e;simp[zAT] at e
  | some vs=>
   rw[hx] at e;have hp:=zLT h (ys:=ps.toList) (λ y hy=>by rw[ho];simp only[Op.operands,xCv];exact⟨y,hy,rfl⟩) hx;obtain⟨v',q1,q2⟩:=zYT hE hp e;refine⟨v',λ w=>?_,q2⟩;have hq:=q1 w;have ay:(⟨ps.toList.map λ (i,x)=>(i,a.eval x)⟩:Array (Nat×Value))=ps.map λ (i,x)=>(i,a.eval x):=by
    apply xDH;simp
   rw[ay] at hq;simp only[execOp,ho,xCs,hq,xBj,xCt]
 ·
  rename_i t x f ho;cases hx:zAj T x with
  | none=>rw[hx] at e;simp[zDP] at e
  | some u=>
   rw[hx] at e;obtain⟨v',q1,q2⟩:=zWn hE (zAF h (by rw[ho];simp[Op.operands]) hx) e;exact⟨v',λ w=>by simp only[execOp,ho,xCs,q1 w,xBj,xCt],q2⟩
 ·
  rename_i t x i ho;cases hx:zAj T x with
  | none=>rw[hx] at e;simp[zBl] at e
  | some u=>
   cases hi:zAj T i with
   | none=>rw[hx,hi] at e;simp[zBl] at e
   | some j=>
    rw[hx,hi] at e;obtain⟨v',q1,q2⟩:=zWm hE (zAF h (by rw[ho];simp[Op.operands]) hx) (zAF h (by rw[ho];simp[Op.operands]) hi) e;exact⟨v',λ w=>by simp only[execOp,ho,xCs,q1 w,xBj,xCt],q2⟩
 ·
  rename_i t x f ho;cases hx:zAj T x with
  | none=>rw[hx] at e;simp[zX] at e
  | some u=>
   rw[hx] at e;obtain⟨v',q1,q2⟩:=zLq hE (zAF h (by rw[ho];simp[Op.operands]) hx) e;exact⟨v',λ w=>by simp only[execOp,ho,xCs,q1 w,xBj,xCt],q2⟩
 ·
  rename_i t x i ho;cases hx:zAj T x with
  | none=>rw[hx] at e;simp[zV] at e
  | some u=>
   cases hi:zAj T i with
   | none=>rw[hx,hi] at e;simp[zV] at e
   | some j=>
    rw[hx,hi] at e;obtain⟨v',q1,q2⟩:=zLh hE (zAF h (by rw[ho];simp[Op.operands]) hx) (zAF h (by rw[ho];simp[Op.operands]) hi) e;exact⟨v',λ w=>by simp only[execOp,ho,xCs,q1 w,xBj,xCt],q2⟩
 ·
  rename_i t x lo hi mx ho;unfold zIe at e;cases hc:zr T x with
  | true=>rw[hc] at e;exact zCX h rfl e
  | false=>
   rw[hc] at e;simp only[xAH] at e;cases cN:(mx.isSome&&hi.isNone) with
   | true=>rw[cN] at e;cases e
   | false=>
   rw[cN] at e;simp only[xAH] at e;unfold zWl at e;split at e;rotate_left
   ·cases e
   rename_i u l1 l2 l3 e1 e2 e3 e4;have mem:∀ y,(y=x\/lo=some y\/hi=some y\/mx=some y)->y∈o.op.operands.toList:=by
    intro y hy;rw[ho];simp only[Op.operands,xBR,xCU,Option.toList_toArray];rcases hy with rfl|rfl|rfl|rfl <;> simp
   have h1:=zPN h (x:=lo) (λ y hy=>mem y (.inr (.inl hy))) e2;have h2:=zPN h (x:=hi) (λ y hy=>mem y (.inr (.inr (.inl hy)))) e3;have h3:=zPN h (x:=mx) (λ y hy=>mem y (.inr (.inr (.inr hy)))) e4;have iM:l3.head?≠none->l2.head?≠none:=by
    cases mx with
    | none=>intro h';generalize l3.head?=q at h3 h';cases h3;exact absurd rfl h'
    | some m=>
     cases hi with
     | none=>simp at cN
     | some k=>intro _;generalize l2.head?=q at h2;cases h2;simp
   obtain⟨v',q1,q2⟩:=zWL hE (zAF h (mem x (.inl rfl)) e1) h1 h2 h3 iM e;exact⟨v',λ w=>by simp only[execOp,ho,xCs,q1 w,xBj,xCt],q2⟩
 ·
  rename_i fn fs cs ho;unfold zAX at e;split at e;rotate_left
  ·cases e
  rename_i f p q e1 e2;cases e;have h1:=zFI h (ys:=fs.toList) (λ y hy=>by rw[ho];simp only[Op.operands,xBR,xCU];exact .inl hy) e1;have h2:=zFI h (ys:=cs.toList) (λ y hy=>by rw[ho];simp only[Op.operands,xBR,xCU];exact .inr hy) e2;refine⟨.func (.func f) (fs.map a.eval) (cs.map a.eval),λ w=>?_,.func f (by simpa using h1) (by simpa using h2)⟩;simp[execOp,ho,Instr.makeFunc]
 ·cases e
end Go.AM
