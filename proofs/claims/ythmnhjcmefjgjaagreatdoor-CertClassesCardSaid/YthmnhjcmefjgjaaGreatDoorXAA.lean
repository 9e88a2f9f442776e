import GoSem.Step
import Derived.RangeFuncIn
import Derived.RangeFuncLeaves
import Derived.RowKit
import Derived.Below
import Derived.Laws.CopyRow
import Derived.ChangeKeysEq
import Derived.Laws.Entries
import Derived.Orders
set_option linter.all false
set_option linter.unusedSectionVars false
set_option autoImplicit true
set_option relaxedAutoImplicit true
namespace Go.Proofs
theorem xAA {α:Type _} {l:List α} {i:Nat} (h:i<l.length):l[i]?=some l[i]:=List.getElem?_eq_getElem h
theorem xAC {n m k:Nat}:n<m->m<=k->n<k:=Nat.lt_of_lt_of_le
theorem xAD {α:Type _} {i:Nat} {l:List α} (h:l.length<=i):l.take i=l:=List.take_of_length_le h
theorem xAE {α:Type _} {a b:α}:a∈[b] ↔ a=b:=List.mem_singleton
theorem xAF (n:Nat):n<=n:=Nat.le_refl n
theorem xAG {α:Sort _} (a b:α):cond true a b=a:=cond_true a b
theorem xAH {α:Sort _} (a b:α):cond false a b=b:=cond_false a b
theorem xAI {p:Prop} [i:Decidable p]:¬p->decide p=false:=decide_eq_false
theorem xAJ {p:Prop} [i:Decidable p]:p->decide p=true:=decide_eq_true
theorem xAK (n:Nat):0+n=n:=Nat.zero_add n
theorem xAL:(!true)=false:=Bool.not_true
theorem xAM:(!false)=true:=Bool.not_false
theorem xAN {α:Type _} (a b:α):(some a=some b)=(a=b):=Option.some.injEq a b
theorem xAO {α:Type _} [BEq α] [ReflBEq α] (a:α):(a==a)=true:=beq_self_eq_true a
theorem xAP (a b:Bool):((a&&b)=true)=(a=true/\b=true):=Bool.and_eq_true a b
theorem xAQ {α:Type _} {b a:α} {l:List α}:a∈b::l ↔ a=b\/a∈l:=List.mem_cons
end Go.Proofs
set_option maxRecDepth 100000
set_option maxHeartbeats 1000000
noncomputable section
section
section
namespace Go.AM
open Go Go.Proofs
inductive Tr(α:Type) where
 | e
 | n (v:Option α) (l r:Tr α)
def Tr.get{α:Type}(t:Tr α):Nat->Option α:=
 Tr.rec (motive:=fun _=>Nat->Option α) (fun _=>none)
  (fun v _ _ gl gr k=>Bool.rec (motive:=fun _=>Option α) (Bool.rec (motive:=fun _=>Option α) (gr (Nat.sub (Nat.div k (nat_lit 2)) (nat_lit 1))) (gl (Nat.div k (nat_lit 2))) (Nat.beq (Nat.mod k (nat_lit 2)) (nat_lit 1))) v (Nat.beq k (nat_lit 0))) t
def Tr.set{α:Type}(f:Nat)(t:Tr α)(k:Nat)(x:Option α):Tr α:=
 Nat.rec (motive:=fun _=>Tr α->Nat->Tr α) (fun t _=>t)
  (fun _ ih t k=>Bool.rec (motive:=fun _=>Tr α)
   (Bool.rec (motive:=fun _=>Tr α)
    (Tr.rec (motive:=fun _=>Tr α) (.n none .e (ih .e (Nat.sub (Nat.div k (nat_lit 2)) (nat_lit 1)))) (fun v l r _ _=>.n v l (ih r (Nat.sub (Nat.div k (nat_lit 2)) (nat_lit 1)))) t)
    (Tr.rec (motive:=fun _=>Tr α) (.n none (ih .e (Nat.div k (nat_lit 2))) .e) (fun v l r _ _=>.n v (ih l (Nat.div k (nat_lit 2))) r) t)
    (Nat.beq (Nat.mod k (nat_lit 2)) (nat_lit 1)))
   (Tr.rec (motive:=fun _=>Tr α) (.n x .e .e) (fun _ l r _ _=>.n x l r) t)
   (Nat.beq k (nat_lit 0))) f t k
mutual
def zmu{α:Type}:List α->List α
 | []=>[]
 | a::aas=>a::zVd aas
def zVd{α:Type}:List α->List α
 | []=>[]
 | _::aas=>zmu aas
end
def Tr.ofList{α:Type}:Nat->List α->Tr α
 | 0,_=>.e
 | _,[]=>.e
 | f+1,a::aas=>.n (some a) (Tr.ofList f (zmu aas)) (Tr.ofList f (zVd aas))
structure TI where
 desc:TypeDesc
 size:Nat
 bytes:Nat
 zero:Option Value
 agg:Bool
structure Tab where
 ty:Tr TI
 fn:Tr Func
 ext:Tr Nat
structure Tm where
 n:Nat
 t:Tr Value
def Tm.get(T:Tm)(k:Nat):Value:=(T.t.get k).getD undef
def Tm.put(T:Tm)(k:Nat)(v:Value):Tm:=⟨T.n,T.t.set (k+1) k (some v)⟩
inductive AObj where
 | row (vs:List Value) (ty:TypeId) (es:Nat) (ro:Bool)
 | map (es:List (Value×Value)) (ver:Nat)
 | iter (m:Option Nat) (ver:Nat) (left:List (Value×Value)) (cur:Option (Value×Value))
 | loop (st:LoopState) (pend:Option Code) (T:Tm) (params:List Tmp) (assign body:Code) (d:Nat)
 | defd
structure AH where
 t:Tr AObj
 qa:Nat
 wm:Nat
def AH.get(h:AH)(b:Nat):Option AObj:=h.t.get b
def AH.new(h:AH)(o:AObj):AH:=⟨h.t.set (h.qa+1) h.qa (some o),h.qa+1,h.wm⟩
def AH.upd(h:AH)(b:Nat)(o:Option AObj):AH:=⟨h.t.set (b+1) b o,h.qa,cond (Nat.ble h.wm b) h.wm b⟩
def UNK:Nat:=2 ^ 64
def zAU(P:Program){α:Type}:Sem α->Option α
 | .pure a=>some a
 | .program k=>zAU P (k P)
 | .mark _ k=>zAU P k
 | _=>none
def zEZ:Nat->Value->Bool
 | _,.pointer (some _)=>false
 | _,.slice (some _) _ _=>false
 | _,.map (some _)=>false
 | _,.chan (some _)=>false
 | 0,.func _ _ _=>false
 | n+1,.func (.func _) a b=>a.toList.all (zEZ n)&&b.toList.all (zEZ n)
 | _+1,.func _ _ _=>false
 | 0,.iface _ _=>false
 | n+1,.iface _ v=>zEZ n v
 | 0,.agg _=>false
 | n+1,.agg a=>a.toList.all (zEZ n)
 | 0,.tuple _=>false
 | n+1,.tuple a=>a.toList.all (zEZ n)
 | _,_=>true
def zg(v:Value):Bool:=match v with
 | .int _ _=>true
 | .bool _=>true
 | .string _=>true
 | v=>zEZ 4 v
mutual
def veq:Nat->Value->Value->Bool
 | _,.bool a,.bool b=>a==b
 | _,.int k a,.int l b=>decide (k=l)&&decide (a=b)
 | _,.string a,.string b=>a==b
 | _,.pointer a,.pointer b=>decide (a=b)
 | _,.slice a n c,.slice b m d=>decide (a=b)&&Nat.beq n m&&Nat.beq c d
 | _,.map a,.map b=>decide (a=b)
 | _,.nilFunc,.nilFunc=>true
 | _,.nilIface,.nilIface=>true
 | f+1,.func g a b,.func g' a' b'=>decide (g=g')&&zKP f a.toList a'.toList&&zKP f b.toList b'.toList
 | f+1,.iface t v,.iface t' v'=>Nat.beq t t'&&veq f v v'
 | f+1,.agg a,.agg b=>zKP f a.toList b.toList
 | f+1,.tuple a,.tuple b=>zKP f a.toList b.toList
 | _,_,_=>false
def zKP:Nat->List Value->List Value->Bool
 | _,[],[]=>true
 | f+1,a::aas,b::bs=>veq f a b&&zKP f aas bs
 | _,_,_=>false
end
structure St where
 T:Tm
 h:AH
 defs:List Nat
inductive Ex where
 | normal
 | exit (id:Nat)
 | ret
structure Out where
 ex:Ex
 st:St
def zAl(T:Tm):Operand->Option Value
 | .tmp t=>some (T.get t)
 | .const v=>if zg v then some v else none
 | .global _=>none
 | .func f=>some (.func (.func f) #[] #[])
def rho(T:Tm):Operand->Value
 | .tmp t=>T.get t
 | .const v=>v
 | .global g=>.pointer (some ⟨g,0,none⟩)
 | .func f=>.func (.func f) #[] #[]
def zl(T:Tm):Operand->Bool
 | .tmp t=>zg (T.get t)
 | .const v=>zg v
 | .global _=>false
 | .func _=>true
abbrev R(α:Type):=Option (List α)
def one{α:Type}(a:α):R α:=some [a]
def bindL{α β:Type}(f:α->R β):List α->R β
 | []=>some []
 | a::aas=>match f a with
  | none=>none
  | some bs=>match bindL f aas with
   | none=>none
   | some cs=>some (bs++cs)
def R.andThen{α β:Type}(x:R α)(f:α->R β):R β:=
 match x with
 | none=>none
 | some [a]=>f a
 | some l=>bindL f l
structure Rec where
 call:FuncId->List Value->AH->R (Value×AH)
 loop:Option Nat->Code->St->R Out
 round:Nat->List Value->AH->R (Value×AH)
structure Env where
 prog:Program
 tab:Tab
 sum:FuncId->List Value->AH->Option (List (Value×AH))
section
variable (P:Env)
def zCs(t:TypeId):Option TI:=P.tab.ty.get t
def und(t:TypeId):Option TypeDesc:=match P.tab.ty.get t with
 | some i=>some i.desc
 | none=>none
def zAg(t:TypeId):Option Nat:=match P.tab.ty.get t with
 | some i=>some i.size
 | none=>none
def zEc(t:TypeId):Option TypeId:=match und P t with
 | some (.slice e)=>some e
 | _=>none
def zE1{α:Type}:Nat->List α->List α
 | 0,_=>[]
 | _+1,[]=>[]
 | n+1,a::aas=>a::zE1 n aas
def zGW{α:Type}:Nat->List α->List α
 | 0,l=>l
 | _+1,[]=>[]
 | n+1,_::aas=>zGW n aas
def zBH{α:Type}:List α->Nat
 | []=>0
 | _::aas=>zBH aas+1
def lnth{α:Type}:List α->Nat->Option α
 | [],_=>none
 | a::_,0=>some a
 | _::aas,n+1=>lnth aas n
def lput{α:Type}:List α->Nat->List α->List α
 | l,_,[]=>l
 | [],_,_=>[]
 | a::aas,o+1,ws=>a::lput aas o ws
 | _::aas,0,w::ws=>w::lput aas 0 ws
def zj(v:Value):List Value:=match v with
 | .agg cs=>cs.toList
 | v=>[v]
def zq(v:Value):Bool:=match v with
 | .agg _=>false
 | .tuple _=>false
 | _=>true
def zE2(t:TypeId)(v:Value)(h:AH):Option Value:=
 match v with
 | .pointer (some ⟨b,o,none⟩)=>
  match h.get b with
  | some (.row vs _ _ _)=>
   match zCs P t with
   | some i=>if i.agg then (let cs:=zE1 i.size (zGW o vs);if Nat.beq (zBH cs) i.size then some (.agg ⟨cs⟩) else none) else lnth vs o
   | none=>none
  | _=>none
 | _=>none
def zJF(t:TypeId)(v x:Value)(h:AH):Option AH:=
 match v with
 | .pointer (some ⟨b,o,none⟩)=>
  match h.get b with
  | some (.row vs ty es false)=>
   let cs:=zj x
   match zAg P t with
   | some s=>if Nat.beq (zBH cs) s&&Nat.ble (o+s) (zBH vs)&&cs.all zq then some (h.upd b (some (.row (lput vs o cs) ty es false))) else none
   | none=>none
  | _=>none
 | _=>none
def zAL(t:TypeId):Option Value:=match P.tab.ty.get t with
 | some i=>i.zero
 | none=>none
def rep{α:Type}:Nat->List α->List α
 | 0,_=>[]
 | n+1,l=>l++rep n l
def newRow(cs:List Value)(ty:TypeId)(h:AH):Value×AH:=(.pointer (some ⟨h.qa,0,none⟩),h.new (.row cs ty 0 false))
def zA9(size:Nat)(v:Value)(h:AH):Option (Nat×List Value):=
 match v with
 | .slice none 0 _=>some (0,[])
 | .slice (some ⟨b,o,none⟩) n _=>
  match h.get b with
  | some (.row vs _ _ _)=>let cs:=zE1 (n*size) (zGW o vs);if Nat.beq (zBH cs) (n*size) then some (n,cs) else none
  | _=>if Nat.beq n 0 then some (0,[]) else none
 | .slice (some ⟨_,_,some _⟩) 0 _=>some (0,[])
 | .string s=>if Nat.beq size 1 then some (s.size,s.data.toList.map fun b=>.int .u8 b.toNat) else none
 | _=>none
def zEe(v:Value):Option Nat:=match v with
 | .int _ i=>match i with | .ofNat n=>some n|_=>none
 | _=>none
def zFB(d:TypeDesc):Bool:=match d with
 | .int _=>true
 | _=>false
def zFh(i:TI):Bool:=Nat.ble 1 i.size&&Nat.ble i.bytes 1000000&&(match i.zero with
 | some z=>Nat.beq (zBH (zj z)) i.size
 | none=>false)
def zAx(elem:TypeId)(size:Nat)(n:Nat)(cs:List Value)(h:AH):Option (Value×AH):=
 cond (Nat.ble n 1000000)
  (some (.slice (some ⟨h.qa,0,none⟩) n (UNK+size),h.new (.row cs elem size false))) none
def zEy(b o len n cap at_:Nat)(cs vs:List Value)(ty:TypeId)(es:Nat)(h:AH):Option (Value×AH):=
 cond (cs.all zq&&Nat.ble (at_+zBH cs) (zBH vs)) (some (.slice (some ⟨b,o,none⟩) (len+n) cap,h.upd b (some (.row (lput vs at_ cs) ty es false)))) none
def zDs(b:Nat)(elem:TypeId)(size:Nat)(n:Nat)(own cs:List Value)(h:AH):Option (Value×AH):=
 cond (cs.all zq) (zAx elem size n (own++cs) (h.upd b none)) none
def zDr(b o len cap:Nat)(elem:TypeId)(size n:Nat)(cs:List Value)(vs:List Value)(ty:TypeId)(es:Nat)(h:AH):Option (Value×AH):=
 cond (Nat.ble (o+(len+n)*size) (zBH vs)) (zEy b o len n cap (o+len*size) cs vs ty es h)
  (cond (Nat.beq (o+len*size) (zBH vs)) (zDs b elem size (len+n) (zE1 (len*size) (zGW o vs)) cs h) none)
def zCf(b o len cap:Nat)(elem:TypeId)(size n:Nat)(cs:List Value)(vs:List Value)(ty:TypeId)(es:Nat)(ro:Bool)(h:AH):Option (Value×AH):=
 match Nat.ble UNK cap with
 | true=>cond (Nat.beq cap (UNK+size)&&Nat.beq es size&&!ro&&Nat.beq ty elem) (zDr b o len cap elem size n cs vs ty es h) none
 | false=>cond (Nat.ble (len+n) cap) (cond ro none (zEy b o len n cap (o+len*size) cs vs ty es h))
   (cond (Nat.beq (zBH (zE1 (len*size) (zGW o vs))) (len*size)) (zAx elem size (len+n) (zE1 (len*size) (zGW o vs)++cs) h) none)
def zBb(elem:TypeId)(size:Nat)(s:Value)(n:Nat)(cs:List Value)(h:AH):Option (Value×AH):=
 match s with
 | .slice none 0 0=>cond (Nat.beq n 0) (some (s,h)) (zAx elem size n cs h)
 | .slice (some ⟨b,o,none⟩) len cap=>
  cond (Nat.beq n 0) (cond (Nat.ble len cap) (some (s,h)) none) (match h.get b with
  | some (.row vs ty es ro)=>zCf b o len cap elem size n cs vs ty es ro h
  | _=>none)
 | _=>none
def zCG(i:TI)(elem:TypeId)(s x:Value)(h:AH):Option (Value×AH):=match zA9 i.size x h with
 | some (n,cs)=>cond (zFh i) (zBb elem i.size s n cs h) none
 | none=>none
def zA8(argTypes:List TypeId)(s x:Value)(h:AH):Option (Value×AH):=
 match argTypes with
 | sT::xT::_=>(match zEc P sT,und P xT with
  | some elem,some d=>cond (zFB d) none (match zCs P elem with
   | some i=>zCG i elem s x h
   | none=>none)
  | _,_=>none)
 | _=>none
def zFs(v:Option Value)(d:Nat):Option Nat:=match v with
 | some v=>zEe v
 | none=>some d
def zF8(a:Option Addr)(k:Nat):Option Addr:=match a with
 | some a=>some ⟨a.block,a.off+k,none⟩
 | none=>none
def zeH(size:Nat)(a:Option Addr)(len cap l h:Nat):Option Value:=
 cond (Nat.ble l h) (match Nat.ble UNK cap with
  | true=>cond (a.isSome&&Nat.ble h len&&Nat.beq cap (UNK+size)) (cond (Nat.beq l 0) (some (.slice a h cap)) (cond (Nat.ble len l) none (some (.slice (zF8 a (l*size)) (h-l) cap)))) none
  | false=>cond (Nat.ble h cap) (some (.slice (cond (Nat.beq cap l) a (zF8 a (l*size))) (h-l) (cap-l))) none) none
def zsp(size:Nat)(a:Option Addr)(len cap l h m:Nat):Option Value:=
 cond (Nat.ble l h&&Nat.ble h m&&cond (Nat.ble UNK cap) (a.isSome&&Nat.ble m len) (Nat.ble m cap)&&Nat.ble (m+1) UNK) (some (.slice (cond (Nat.beq m l) a (zF8 a (l*size))) (h-l) (m-l))) none
def sliceS(elem:TypeId)(a:Option Addr)(len cap:Nat)(lo hi mx:Option Value):Option Value:=
 match zAg P elem,zFs lo 0,zFs hi len with
 | some size,some l,some h=>(match mx with
  | none=>zeH size a len cap l h
  | some m=>(match zEe m with
   | some m=>zsp size a len cap l h m
   | none=>none))
 | _,_,_=>none
def ziX(elem:TypeId)(a:Addr)(n:Nat)(lo hi mx:Option Value):Option Value:=
 match zAg P elem,zFs lo 0,zFs hi n,mx with
 | some size,some l,some h,none=>cond (Nat.ble l h&&Nat.ble h n&&Nat.ble (n+1) UNK) (some (.slice (cond (Nat.beq n l) (some a) (zF8 (some a) (l*size))) (h-l) (n-l))) none
 | _,_,_,_=>none
def zEQ(t:TypeId)(x:Value)(lo hi mx:Option Value):Option Value:=
 match und P t,x with
 | some (.slice elem),.slice a len cap=>sliceS P elem a len cap lo hi mx
 | some (.array n elem),.pointer (some a)=>ziX P elem a n lo hi mx
 | _,_=>none
def zDl(t:TypeId)(x i:Value):Option Value:=
 match und P t,x,zEe i with
 | some (.slice elem),.slice (some a) len _,some k=>(match zAg P elem with
  | some size=>cond (Nat.ble (k+1) len) (some (.pointer (some ⟨a.block,a.off+k*size,none⟩))) none
  | none=>none)
 | some (.array len elem),.pointer (some a),some k=>(match zAg P elem with
  | some size=>cond (Nat.ble (k+1) len) (some (.pointer (some ⟨a.block,a.off+k*size,none⟩))) none
  | none=>none)
 | _,_,_=>none
def zGi(t:TypeId)(x:Value)(f:Nat):Option Value:=
 match und P t,x with
 | some (.struct fs),.pointer (some a)=>
  (match lnth fs.toList f with
  | some fd=>(match zAg P fd.type with
   | some (_+1)=>some (.pointer (some ⟨a.block,a.off+fd.offset,none⟩))
   | _=>none)
  | none=>none)
 | _,_=>none
def ieq:Int->Int->Bool
 | .ofNat m,.ofNat n=>Nat.beq m n
 | .negSucc m,.negSucc n=>Nat.beq m n
 | _,_=>false
def ile:Int->Int->Bool
 | .ofNat m,.ofNat n=>Nat.ble m n
 | .negSucc m,.negSucc n=>Nat.ble n m
 | .negSucc _,.ofNat _=>true
 | .ofNat _,.negSucc _=>false
def zCM(k:IntKind)(n:Int):Int:=
 match k,n with
 | .i64,.ofNat m=>if Nat.ble m 9223372036854775807 then .ofNat m else k.wrap (.ofNat m)
 | .i64,.negSucc m=>if Nat.ble m 9223372036854775807 then .negSucc m else k.wrap (.negSucc m)
 | _,n=>k.wrap n
def keq:IntKind->IntKind->Bool
 | .i64,.i64=>true
 | .u8,.u8=>true
 | a,b=>decide (a=b)
def zBG:List Value->List Value->Option Bool
 | [],[]=>some true
 | .int k a::aas,.int l b::bs=>if keq k l then (if ieq a b then zBG aas bs else match zBG aas bs with|some _=>some false|none=>none) else none
 | _,_=>none
def zCA(kt:TypeId)(a b:Value):Option Bool:=
 match a,b with
 | .int k x,.int l y=>(match und P kt with
  | some (.int _)=>cond (keq k l) (some (ieq x y)) none
  | _=>none)
 | .agg x,.agg y=>(match und P kt with
  | some (.array n e)=>(match und P e,zAg P e with
   | some (.int _),some 1=>cond (Nat.beq (zBH x.toList) n) (zBG x.toList y.toList) none
   | _,_=>none)
  | _=>none)
 | _,_=>none
def zK5:List Value->Bool
 | []=>true
 | .int _ _::vs=>zK5 vs
 | _=>false
def zET(kt:TypeId)(a:Value):Bool:=
 match a with
 | .int _ _=>(match und P kt with
  | some (.int _)=>true
  | _=>false)
 | .agg x=>(match und P kt with
  | some (.array n e)=>(match und P e,zAg P e with
   | some (.int _),some 1=>Nat.beq (zBH x.toList) n&&zK5 x.toList
   | _,_=>false)
  | _=>false)
 | _=>false
def zAf(kt:TypeId)(k:Value):List (Value×Value)->Option (Option Value)
 | []=>some none
 | (k',v)::es=>match zCA P kt k k',zAf kt k es with
  | some true,some none=>some (some v)
  | some false,some r=>some r
  | _,_=>none
def klt:Value->Value->Bool
 | .int _ a,.int _ b=>decide (a<b)
 | .agg a,.agg b=>go a.toList b.toList
 | _,_=>false
where go:List Value->List Value->Bool
 | .int _ a::aas,.int _ b::bs=>decide (a<b)||(decide (a=b)&&go aas bs)
 | _,_=>false
def zA7(k v:Value):List (Value×Value)->List (Value×Value)
 | []=>[(k,v)]
 | (k',v')::es=>if klt k k' then (k,v)::(k',v')::es else (k',v')::zA7 k v es
def zBo(kt:TypeId)(k v:Value):List (Value×Value)->Option (List (Value×Value))
 | []=>some []
 | (k',v')::es=>match zCA P kt k k',zBo kt k v es with
  | some true,some r=>if veq 3 k k' then some ((k',v)::r) else none
  | some false,some r=>some ((k',v')::r)
  | _,_=>none
def zLo(t:TypeId):Option (TypeId×TypeId):=match und P t with
 | some (.map k e)=>some (k,e)
 | _=>none
def zDo(x:Value)(h:AH):Option (List (Value×Value)):=match x with
 | .map none=>some []
 | .map (some b)=>(match h.get b with|some (.map es _)=>some es|_=>none)
 | _=>none
def okV(ok:Bool)(v:Value)(is:Bool):Value:=cond ok (.tuple #[v,.bool is]) v
def zEY(et:TypeId)(ok:Bool)(r:Option (Option Value)):Option Value:=match r with
 | some (some v)=>some (okV ok v true)
 | some none=>(match zAL P et with
  | some z=>some (okV ok z false)
  | none=>none)
 | none=>none
def zFL(t:TypeId)(x k:Value)(ok:Bool)(h:AH):Option Value:=
 match zLo P t,zDo x h with
 | some (kt,et),some es=>cond (zET P kt k) (zEY P et ok (zAf P kt k es)) none
 | _,_=>none
def zBV(kt:TypeId)(k v:Value)(es:List (Value×Value)):Option (List (Value×Value)):=match zAf P kt k es with
 | some (some _)=>zBo P kt k v es
 | some none=>some (zA7 k v es)
 | none=>none
def zA4(t:TypeId)(m k v:Value)(h:AH):Option AH:=
 match zLo P t,m with
 | some (kt,_),.map (some b)=>
  (match h.get b with
  | some (.map es ver)=>cond (zET P kt k&&zg k) (match zBV P kt k v es with
   | some es'=>some (h.upd b (some (.map es' (ver+1))))
   | none=>none) none
  | _=>none)
 | _,_=>none
def zKR{α:Type}:List α->List α->List (α×List α)
 | _,[]=>[]
 | pre,a::aas=>(a,pre++aas)::zKR (pre++[a]) aas
def zUp(it:Value)(isString:Bool)(h:AH):R (Value×AH):=
 match it,isString with
 | .pointer (some ⟨b,0,none⟩),false=>
  match h.get b with
  | some (.iter none _ _ _)=>one (.tuple #[.bool false],h)
  | some (.iter (some m) ver left _)=>
   match h.get m with
   | some (.map _ ver')=>
    if !Nat.beq ver ver' then none else
    match left with
    | []=>one (.tuple #[.bool false],h)
    | _=>some ((zKR [] left).map fun (e,rest)=>(.tuple #[.bool true,e.1,e.2],h.upd b (some (.iter (some m) ver rest (some e)))))
   | _=>none
  | _=>none
 | _,_=>none
def zPz(it:Value)(h:AH):Option Value:=
 match it with
 | .pointer (some ⟨b,0,none⟩)=>
  match h.get b with
  | some (.iter (some m) ver _ (some e))=>
   match h.get m with
   | some (.map _ ver')=>if Nat.beq ver ver' then some (.tuple #[e.1,e.2]) else none
   | _=>none
  | _=>none
 | _=>none
def zoC(e:TypeId)(a b:Addr):Option Bool:=match zAg P e with
 | some (_+1)=>cond (Nat.beq a.block b.block) (some (Nat.beq a.off b.off)) none
 | _=>none
def eqV(t:TypeId)(x y:Value):Option Bool:=
 match und P t,x,y with
 | some (.pointer _),.pointer none,.pointer b=>some b.isNone
 | some (.pointer _),.pointer (some _),.pointer none=>some false
 | some (.pointer e),.pointer (some a),.pointer (some b)=>zoC P e a b
 | some (.slice _),.slice none _ _,.slice b _ _=>some b.isNone
 | some (.slice _),.slice (some _) _ _,.slice none _ _=>some false
 | some (.map _ _),.map none,.map b=>some b.isNone
 | some (.map _ _),.map (some _),.map none=>some false
 | some (.func _ _ _),.nilFunc,.nilFunc=>some true
 | some (.func _ _ _),.nilFunc,.func _ _ _=>some false
 | some (.func _ _ _),.func _ _ _,.nilFunc=>some false
 | _,_,_=>none
def zBl(T:Tm):List Operand->Option (List Value)
 | []=>some []
 | x::xs=>match zAl T x,zBl T xs with
  | some v,some vs=>some (v::vs)
  | _,_=>none
def zHE(T:Tm):List (Nat×Operand)->Option (List (Nat×Value))
 | []=>some []
 | (i,x)::xs=>match zAl T x,zHE T xs with
  | some v,some vs=>some ((i,v)::vs)
  | _,_=>none
def callFn(rec:Rec)(fn:Fn)(fs args cs:List Value)(h:AH):R (Value×AH):=
 match fn with
 | .func f=>rec.call f (fs++args++cs) h
 | .yield l=>rec.round l (fs++args) h
 | _=>none
def v1(x:Option Value)(h:AH):R (Value×AH):=match x with|some v=>one (v,h)|none=>none
def v2(x:Option (Value×AH)):R (Value×AH):=match x with|some r=>one r|none=>none
def u1(x:Option AH):R (Value×AH):=match x with|some h=>one (undef,h)|none=>none
def zWZ(vs:List Value):Bool:=vs.all zg
def zPi(op:BinOp)(k:IntKind)(a b:Int):Option Value:=
 match op with
 | .add=>some (.int k (zCM k (a+b)))
 | .sub=>some (.int k (zCM k (a-b)))
 | .mul=>some (.int k (zCM k (a*b)))
 | .eql=>some (.bool (ieq a b))
 | .neq=>some (.bool (!ieq a b))
 | .lss=>some (.bool (!ile b a))
 | .leq=>some (.bool (ile a b))
 | .gtr=>some (.bool (!ile a b))
 | .geq=>some (.bool (ile b a))
 | _=>none
def zkQ(t:TypeId):Option Nat:=match und P t with
 | some (.array n e)=>(match und P e,zAg P e with|some (.int _),some 1=>some n|_,_=>none)
 | _=>none
def zJo(t:TypeId)(a b:List Value):Option Bool:=match zkQ P t with
 | some n=>cond (Nat.beq (zBH a) n) (zBG a b) none
 | none=>none
def zC(op:BinOp)(t:TypeId)(x y:Value):Option Value:=
 match x,y with
 | .int k a,.int l b=>cond (keq k l) (zPi op k a b) none
 | .agg a,.agg b=>(match op,zJo P t a.toList b.toList with
  | .eql,some r=>some (.bool r)
  | .neq,some r=>some (.bool (!r))
  | _,_=>none)
 | _,_=>none
def zAY(op:UnOp)(x:Value):Option Value:=
 match op,x with
 | .not,.bool b=>some (.bool !b)
 | _,_=>none
def zOS(place:Nat->Option (Nat×Nat))(cells:List Value):List (Nat×Value)->Option (List Value)
 | []=>some cells
 | (i,v)::rest=>
  match place i with
  | none=>none
  | some (off,size)=>
   let cs:=zj v
   if Nat.beq (zBH cs) size&&Nat.ble (off+size) (zBH cells) then zOS place (lput cells off cs) rest else none
def zHt:List Field->Option (List (Nat×Nat))
 | []=>some []
 | f::fs=>match zAg P f.type,zHt fs with
  | some s,some ps=>some ((f.offset,s)::ps)
  | _,_=>none
def zWL(t:TypeId)(ps:List (Nat×Value)):Option Value:=
 match zAL P t,und P t with
 | some z,some (.struct fs)=>(match zHt P fs.toList with
  | some pl=>(match zOS (lnth pl) (zj z) ps with
   | some cs=>some (.agg ⟨cs⟩)
   | none=>none)
  | none=>none)
 | some z,some (.array _ e)=>(match zAg P e with
  | some s=>(match zOS (fun i=>some (i*s,s)) (zj z) ps with
   | some cs=>some (.agg ⟨cs⟩)
   | none=>none)
  | none=>none)
 | _,_=>none
def zDD(o:Op):Bool:=match o with
 | .select _ _=>false
 | _=>true
def zBY(T:Tm)(o:Oper):Option Value:=
 cond (o.op.operands.toList.all (zl T)&&zDD o.op) (match zAU P.prog (execOp (rho T) o) with
 | some (.value v)=>cond (zg v) (some v) none
 | _=>none) none
def zp(x:Option Value):Option Value:=match x with
  | some (.pointer (some a))=>some (.pointer (some a))
  | some (.func (.func f) a b)=>some (.func (.func f) a b)
  | some (.func (.yield f) a b)=>some (.func (.yield f) a b)
  | _=>none
def zqn(neg:Bool)(t:TypeId)(x y:Option Value):Option Value:=match x,y with
  | some a,some b=>(match eqV P t a b with|some r=>some (.bool (xor neg r))|none=>none)
  | _,_=>none
def zFo(op:BinOp)(t:TypeId)(x y:Operand)(T:Tm)(o:Oper):Option Value:=
 cond (zl T x&&zl T y) (zBY P T o)
  (match op with
  | .eql=>zqn P false t (zAl T x) (zAl T y)
  | .neq=>zqn P true t (zAl T x) (zAl T y)
  | _=>none)
def zig(op:BinOp)(t:TypeId)(x y:Operand)(T:Tm)(o:Oper):Option Value:=
 match zC P op t (rho T x) (rho T y) with
  | some v=>some v
  | none=>zFo P op t x y T o
def zQy(x:Operand)(T:Tm)(o:Oper):Option Value:=cond (zl T x) (zBY P T o) none
def pUn(op:UnOp)(x:Operand)(T:Tm)(o:Oper):Option Value:=match zAY op (rho T x) with
  | some v=>some v
  | none=>zQy P x T o
def pPick(T:Tm)(c a b:Operand):Option Value:=match zAl T c with
  | some (.bool t)=>zAl T (cond t a b)
  | _=>none
def zt(i:Nat)(x:Option Value):Option Value:=match x with
  | some (.tuple vs)=>lnth vs.toList i
  | _=>none
def zAu(t:TypeId)(ps:Option (List (Nat×Value))):Option Value:=match ps with
  | some vs=>zWL P t vs
  | none=>none
def zed(t:TypeId)(cs:List Value)(off:Nat):Option Value:=match zCs P t with
  | some i=>cond i.agg (let c:=zE1 i.size (zGW off cs);cond (Nat.beq (zBH c) i.size) (some (.agg ⟨c⟩)) none) (lnth cs off)
  | none=>none
def zLi(t:TypeId)(f:Nat)(x:Option Value):Option Value:=match x,und P t with
  | some (.agg cs),some (.struct fs)=>(match lnth fs.toList f with
   | some fd=>zed P fd.type cs.toList fd.offset
   | none=>none)
  | _,_=>none
def zi8(s:ByteArray)(k:Option Nat):Option Value:=match k with
 | some k=>(match lnth s.data.toList k with|some b=>some (.int .u8 b.toNat)|none=>none)
 | none=>none
def ziz(n:Nat)(e:TypeId)(cs:List Value)(k:Option Nat):Option Value:=match k,zAg P e with
 | some k,some s=>cond (Nat.ble (k+1) n) (zed P e cs (k*s)) none
 | _,_=>none
def zDC(t:TypeId)(x i:Option Value):Option Value:=match x,i,und P t with
  | some (.string s),some v,some .string=>zi8 s (zEe v)
  | some (.agg cs),some v,some (.array n e)=>ziz P n e cs.toList (zEe v)
  | _,_,_=>none
def zD(t:TypeId)(f:Nat)(x:Option Value):Option Value:=match x with
  | some v=>zGi P t v f
  | none=>none
def zE(t:TypeId)(x i:Option Value):Option Value:=match x,i with
  | some v,some j=>zDl P t v j
  | _,_=>none
def zUj(t:TypeId)(x:Option Value)(lo hi mx:Option (List Value)):Option Value:=
  match x,lo,hi,mx with
  | some v,some l,some u,some m=>zEQ P t v l.head? u.head? m.head?
  | _,_,_,_=>none
def zHv(t:TypeId)(x:Operand)(lo hi mx:Option Operand)(T:Tm)(o:Oper):Option Value:=
 cond (zl T x) (zBY P T o) (cond (mx.isSome&&hi.isNone) none <| zUj P t (zAl T x) (zBl T lo.toList) (zBl T hi.toList) (zBl T mx.toList))
def zBB(fn:Fn)(fs cs:Option (List Value)):Option Value:=match fn,fs,cs with
  | .func f,some a,some b=>some (.func (.func f) ⟨a⟩ ⟨b⟩)
  | _,_,_=>none
def ze(T:Tm)(o:Oper):Option Value:=
 match o.op with
 | .move x=>zAl T x
 | .assign x=>zAl T x
 | .pick c a b=>pPick T c a b
 | .nilCheck x=>zp (zAl T x)
 | .binOp op t x y _=>zig P op t x y T o
 | .unOp op _ x=>pUn P op x T o
 | .makeInterface _ x=>zQy P x T o
 | .extract x i=>zt i (zAl T x)
 | .build t ps=>zAu P t (zHE T ps.toList)
 | .field t x f=>zLi P t f (zAl T x)
 | .index t x i=>zDC P t (zAl T x) (zAl T i)
 | .fieldAddr t x f=>zD P t f (zAl T x)
 | .indexAddr t x i=>zE P t (zAl T x) (zAl T i)
 | .slice t x lo hi mx=>zHv P t x lo hi mx T o
 | .makeFunc fn fs cs=>zBB fn (zBl T fs.toList) (zBl T cs.toList)
 | _=>none
def zH(t:TypeId)(h:AH)(a:Option Value):Option Value:=match a with
  | some v=>zE2 P t v h
  | none=>none
def zKx(src dst:TypeId)(x:Option Value)(h:AH):Option Value:=
  match und P src,und P dst,x with
  | some (.pointer t),some .unsafePointer,some (.pointer (some ⟨b,o,none⟩))=>
   (match h.get b,zAg P t with
   | some (.row vs _ 0 false),some s=>cond (Nat.beq s 0||Nat.ble (zBH vs) o) none (some (.pointer (some ⟨b,o,none⟩)))
   | _,_=>none)
  | some .unsafePointer,some (.pointer u),some (.pointer (some ⟨b,o,none⟩))=>
   (match h.get b,zAg P u with
   | some (.row vs ty 0 false),some _=>cond (liesAt P.prog P.prog.depth ty (zBH vs / P.prog.cellsOf ty) o u 1) (some (.pointer (some ⟨b,o,none⟩))) none
   | _,_=>none)
  | _,_,_=>none
def zj1(src dst:TypeId)(x:Operand)(T:Tm)(o:Oper)(h:AH):Option Value:=
 cond (zl T x) (zBY P T o) (zKx P src dst (zAl T x) h)
def zBM(t:TypeId)(ok:Bool)(x k:Option Value)(h:AH):Option Value:=match x,k with
  | some m,some k=>zFL P t m k ok h
  | _,_=>none
def zHr(x:Option Value)(h:AH):Option Value:=match x with
  | some v=>zPz v h
  | none=>none
def zGp:List Value->Option (List UInt8)
 | []=>some []
 | .int .u8 i::vs=>(match zGp vs with|some l=>some (UInt8.ofNat i.toNat::l)|none=>none)
 | _=>none
def zqm(ts:List TypeId):Option TypeDesc:=match ts with
 | t::_=>und P t
 | []=>none
def zsi(d:Option TypeDesc)(vs:List Value)(h:AH):Option Value:=match d,vs with
  | some (.slice _),[.slice _ n _]=>some (.int .i64 n)
  | some (.map _ _),[.map none]=>some (.int .i64 0)
  | some (.map _ _),[.map (some m)]=>(match h.get m with|some (.map es _)=>some (.int .i64 (zBH es))|_=>none)
  | _,_=>none
def zsj(d:Option TypeDesc)(vs:List Value):Option Value:=match d,vs with
  | some (.slice _),[.slice _ _ c]=>cond (Nat.ble UNK c) none (some (.int .i64 c))
  | _,_=>none
def zne(vs:List Value):Option Value:=match vs with
  | [.slice (some a) n c]=>cond (Nat.beq n 0||Nat.beq c 0) none (some (.pointer (some a)))
  | _=>none
def zHM(b:Builtin)(c:Call)(o:Oper)(vs:List Value)(T:Tm)(h:AH):Option Value:=
  match zWZ vs with
  | true=>zBY P T o
  | false=>match b with
   | .len=>zsi (zqm P c.argTypes.toList) vs h
   | .cap=>zsj (zqm P c.argTypes.toList) vs
   | .unsafeSliceData=>zne vs
   | _=>none
def zQ(T:Tm)(o:Oper)(h:AH):Option Value:=
 match o.op with
 | .load t a=>zH P t h (zAl T a)
 | .convert src dst x=>zj1 P src dst x T o h
 | .lookup t x k ok=>zBM P t ok (zAl T x) (zAl T k) h
 | .entry x=>zHr (zAl T x) h
 | .call c=>(match c.callee with
  | .builtin b=>(match zBl T c.args.toList with|some vs=>zHM P b c o vs T h|none=>none)
  | _=>none)
 | _=>none
def zW(t:TypeId)(h:AH)(z:Option Value):R (Value×AH):=match z with
  | some z=>one (newRow (zj z) t h)
  | none=>none
def zb(t:TypeId)(h:AH)(a x:Option Value):R (Value×AH):=match a,x with
  | some v,some y=>u1 (zJF P t v y h)
  | _,_=>none
def zh(t:TypeId)(len:Nat)(ps:Option (List (Nat×Value)))(h:AH):R (Value×AH):=match ps,zEc P t with
  | some vs,some e=>(match zAg P e,zAL P e with
   | some size,some z=>(match zOS (fun i=>some (i*size,size)) (rep len (zj z)) vs with
    | some cs=>cond (Nat.ble (len*size) 1000000&&Nat.ble len 1000000&&Nat.beq (zBH (zj z)) size) (one (.slice (some ⟨h.qa,0,none⟩) len len,h.new (.row cs e 0 false))) none
    | none=>none)
   | _,_=>none)
  | _,_=>none
def zBL(t:TypeId)(l c:Option Value)(h:AH):R (Value×AH):=match l,c,zEc P t with
  | some a,some b,some e=>(match zEe a,zEe b,zCs P e with
   | some n,some m,some i=>(match i.zero with
    | some z=>cond (Nat.ble n m&&Nat.ble m 1000000&&Nat.ble i.bytes 1000000&&Nat.beq (zBH (zj z)) i.size) (one (.slice (some ⟨h.qa,0,none⟩) n m,h.new (.row (rep m (zj z)) e 0 false))) none
    | none=>none)
   | _,_,_=>none)
  | _,_,_=>none
def zAI(t:TypeId)(m k v:Option Value)(h:AH):R (Value×AH):=match m,k,v with
  | some m,some k,some v=>u1 (zA4 P t m k v h)
  | _,_,_=>none
def zGx(x:Option Value)(h:AH):R (Value×AH):=match x with
  | some (.map none)=>one (.pointer (some ⟨h.qa,0,none⟩),h.new (.iter none 0 [] none))
  | some (.map (some m))=>(match h.get m with
   | some (.map es ver)=>one (.pointer (some ⟨h.qa,0,none⟩),h.new (.iter (some m) ver es none))
   | _=>none)
  | _=>none
def zHB(s:Bool)(x:Option Value)(h:AH):R (Value×AH):=match x with
  | some v=>zUp v s h
  | none=>none
def zHX(e:TypeId)(b o n:Nat)(h:AH):R (Value×AH):=match zAL P e,zAg P e,h.get b with
 | some z,some size,some (.row vs ty es false)=>cond (Nat.ble (o+n*size) (zBH vs)&&(zj z).all zq&&Nat.beq (zBH (zj z)) size) (one (.tuple #[],h.upd b (some (.row (lput vs o (rep n (zj z))) ty es false)))) none
 | _,_,_=>none
def zHZ(t:TypeId)(x:Value)(h:AH):R (Value×AH):=match zEc P t,x with
 | some _,.slice none _ _=>one (.tuple #[],h)
 | some e,.slice (some ⟨b,o,none⟩) n _=>cond (Nat.beq n 0) (one (.tuple #[],h)) (zHX P e b o n h)
 | _,_=>none
def zOd(size b o k:Nat)(cs:List Value)(h:AH):R (Value×AH):=match h.get b with
 | some (.row vs ty es false)=>cond (Nat.ble (o+k*size) (zBH vs)&&cs.all zq) (one (.int .i64 k,h.upd b (some (.row (lput vs o (zE1 (k*size) cs)) ty es false)))) none
 | _=>none
def zTz(t:TypeId)(d src:Value)(h:AH):R (Value×AH):=match zEc P t,d with
 | some e,.slice (some ⟨b,o,none⟩) dn _=>(match zAg P e with
  | some size=>(match zA9 size src h with
   | some (sn,cs)=>zOd size b o (cond (Nat.ble sn dn) sn dn) cs h
   | none=>none)
  | none=>none)
 | _,_=>none
def zlm(pt ty:TypeId):Bool:=match und P pt with
 | some (.pointer e)=>(match zAg P e with
  | some 1=>Nat.beq ty e
  | _=>false)
 | _=>false
def zjd(pt:TypeId)(b o n:Nat)(h:AH):R (Value×AH):=match h.get b with
 | some (.row vs ty es false)=>(match zGp (zE1 n (zGW o vs)) with
  | some bs=>cond (Nat.beq (zBH bs) n&&Nat.ble 1 n&&Nat.ble n 9223372036854775807&&zlm P pt ty) (one (.string ⟨⟨bs⟩⟩,h.upd b (some (.row vs ty es true)))) none
  | none=>none)
 | _=>none
def zB1(pt:TypeId)(p n:Value)(h:AH):R (Value×AH):=match p,zEe n with
  | .pointer (some ⟨b,o,none⟩),some n=>zjd P pt b o n h
  | _,_=>none
def zEl(b:Builtin)(c:Call)(vs:List Value)(h:AH):R (Value×AH):=
  match b,vs,c.argTypes.toList with
  | .append,[s,x],_=>v2 (zA8 P c.argTypes.toList s x h)
  | .clear,[x],t::_=>zHZ P t x h
  | .copy,[d,s],t::_=>zTz P t d s h
  | .unsafeString,[p,n],t::_=>zB1 P t p n h
  | _,_,_=>none
def zT(rec:Rec)(f:Option Value)(args:Option (List Value))(h:AH):R (Value×AH):=match f,args with
  | some (.func fn fs cs),some args=>callFn rec fn fs.toList args cs.toList h
  | _,_=>none
def wCall(rec:Rec)(c:Call)(T:Tm)(h:AH):R (Value×AH):=match c.callee with
  | .builtin b=>(match zBl T c.args.toList with|some vs=>zEl P b c vs h|none=>none)
  | .value f=>zT rec (zAl T f) (zBl T c.args.toList) h
  | _=>none
def evWrite(rec:Rec)(T:Tm)(o:Oper)(h:AH):R (Value×AH):=
 match o.op with
 | .alloc t=>zW t h (zAL P t)
 | .box t x=>zW t h (zAl T x)
 | .store t a x=>zb P t h (zAl T a) (zAl T x)
 | .buildSlice t len ps=>zh P t len (zHE T ps.toList) h
 | .makeMap _ none=>one (.map (some h.qa),h.new (.map [] 0))
 | .makeSlice t l c=>zBL P t (zAl T l) (zAl T c) h
 | .mapUpdate t m k v=>zAI P t (zAl T m) (zAl T k) (zAl T v) h
 | .insert t m k v=>zAI P t (zAl T m) (zAl T k) (zAl T v) h
 | .range t x=>(match und P t with
  | some (.map _ _)=>zGx (zAl T x) h
  | _=>none)
 | .next x s=>zHB s (zAl T x) h
 | .call c=>wCall P rec c T h
 | _=>none
inductive Cl where
 | pure
 | read
 | write
def zoJ(c:Callee):Cl:=match c with
 | .builtin b=>(match b with
  | .append=>.write
  | .clear=>.write
  | .copy=>.write
  | .unsafeString=>.write
  | .delete=>.write
  | _=>.read)
 | _=>.write
def cls(o:Op):Cl:=match o with
 | .load _ _=>.read
 | .convert _ _ _=>.read
 | .lookup _ _ _ _=>.read
 | .entry _=>.read
 | .alloc _=>.write
 | .box _ _=>.write
 | .store _ _ _=>.write
 | .buildSlice _ _ _=>.write
 | .makeMap _ _=>.write
 | .makeSlice _ _ _=>.write
 | .mapUpdate _ _ _ _=>.write
 | .insert _ _ _ _=>.write
 | .range _ _=>.write
 | .next _ _=>.write
 | .call c=>zoJ c.callee
 | _=>.pure
def evOp(rec:Rec)(T:Tm)(o:Oper)(h:AH):R (Value×AH):=
 match cls o.op with
 | .pure=>v1 (ze P T o) h
 | .read=>v1 (zQ P T o h) h
 | .write=>evWrite P rec T o h
def zC6(o:Oper)(ops:List Oper)(T:Tm):Option Bool:=
 match o.guard with
 | none=>some true
 | some (j,want)=>match lnth ops j with
  | some oj=>match oj.dst with
   | some d=>(match T.get d with | .bool b=>some (b==want)|_=>some false)
   | none=>some false
  | none=>some false
def putDst(T:Tm)(d:Option Tmp)(v:Value):Tm:=match d with
 | some d=>T.put d v
 | none=>T
def zid(T:Tm)(d:Option Tmp)(defs:List Nat)(x:Value×AH):St:=⟨putDst T d x.1,x.2,defs⟩
def evOps(rec:Rec)(all:List Oper):List Oper->St->R St
 | [],st=>one st
 | o::rest,st=>
  match zC6 o all st.T with
  | some true=>R.andThen (evOp P rec st.T o st.h) fun x=>evOps rec all rest (zid st.T o.dst st.defs x)
  | some false=>evOps rec all rest ⟨putDst st.T o.dst undef,st.h,st.defs⟩
  | none=>none
structure PO where
 i:Nat
 o:Oper
 dep:Nat
 bef:Nat
structure Rd where
 i:Nat
 T:Tm
 o:Oper
 v:Value
def zDI:List Edge->Nat
 | []=>0
 | e::es=>cond (Region.binds .any e) (Nat.lor (2 ^ e.on) (zDI es)) (zDI es)
def zQ2:List Nat->Nat->Nat
 | [],_=>0
 | a::_,0=>a
 | _::aas,n+1=>zQ2 aas n
def zDM(acc:List Nat):List Edge->Nat
 | []=>0
 | e::es=>cond (Region.binds .any e) (Nat.lor (Nat.lor (2 ^ e.on) (zQ2 acc e.on)) (zDM acc es)) (zDM acc es)
def prep:Nat->List Nat->List Oper->List PO
 | _,_,[]=>[]
 | i,acc,o::os=>⟨i,o,zDI o.after.toList,zDM acc o.after.toList⟩::prep (i+1) (acc++[zDM acc o.after.toList]) os
def zCo(m i:Nat):Bool:=Nat.beq (Nat.land (Nat.shiftRight m i) 1) 1
def zBk(p:PO)(done:Nat):Bool:=Nat.beq (Nat.land p.dep done) p.dep
def zCK(m i:Nat):Nat:=Nat.lor m (2 ^ i)
def zDH(T:Tm)(o:Oper)(h:AH):Option Value:=match cls o.op with
 | .pure=>ze P T o
 | .read=>zQ P T o h
 | .write=>none
def zRi(p:PO)(T:Tm)(v:Value)(rds:List Rd):List Rd:=match cls p.o.op with
 | .read=>⟨p.i,T,p.o,v⟩::rds
 | _=>rds
def zGZ(o:Op):Bool:=match cls o with
 | .write=>true
 | _=>false
structure Sw where
 T:Tm
 done:Nat
 rds:List Rd
 rest:List PO
def znz(p:PO)(x:Option Sw):Option Sw:=match x with
 | some s=>some ⟨s.T,s.done,s.rds,p::s.rest⟩
 | none=>none
def zHf(all:List Oper)(h:AH):List PO->Tm->Nat->List Rd->Option Sw
 | [],T,done,rds=>some ⟨T,done,rds,[]⟩
 | p::ps,T,done,rds=>
  cond (zBk p done&&!zGZ p.o.op)
   (match zC6 p.o all T with
   | some true=>(match zDH P T p.o h with
    | some v=>zHf all h ps (putDst T p.o.dst v) (zCK done p.i) (zRi p T v rds)
    | none=>none)
   | some false=>zHf all h ps (putDst T p.o.dst undef) (zCK done p.i) rds
   | none=>none)
   (znz p (zHf all h ps T done rds))
def zmt(bef:Nat)(h:AH)(r:Rd):Bool:=zCo bef r.i||(match zQ P r.T r.o h with|some v=>veq 100 v r.v|none=>false)
def zIT(bef:Nat)(rds:List Rd):List Rd:=rds.filter fun r=>!zCo bef r.i
abbrev DK:=Tm->Nat->List Rd->List PO->AH->R St
def zVa(k:DK)(p:PO)(T:Tm)(done:Nat)(rds:List Rd)(rest:List PO)(x:Value×AH):R St:=
 cond (rds.all (zmt P p.bef x.2)) (k (putDst T p.o.dst x.1) (zCK done p.i) (zIT p.bef rds) rest x.2) none
def fire(rec:Rec)(all:List Oper)(k:DK)(p:PO)(T:Tm)(done:Nat)(rds:List Rd)(rest:List PO)(h:AH):R St:=
 match zC6 p.o all T with
 | some true=>R.andThen (evWrite P rec T p.o h) (zVa P k p T done rds rest)
 | some false=>k (putDst T p.o.dst undef) (zCK done p.i) rds rest h
 | none=>none
def joinR(x y:R St):R St:=match x,y with
 | some a,some b=>some (a++b)
 | _,_=>none
def fires(rec:Rec)(all:List Oper)(k:DK)(T:Tm)(done:Nat)(rds:List Rd)(h:AH):List PO->List PO->R St
 | _,[]=>some []
 | pre,p::ps=>cond (zBk p done) (joinR (fire P rec all k p T done rds (pre++ps) h) (fires rec all k T done rds h (pre++[p]) ps)) (fires rec all k T done rds h (pre++[p]) ps)
def zLU(x:R St):R St:=match x with
 | some (a::aas)=>some (a::aas)
 | _=>none
def drawRun(rec:Rec)(all:List Oper)(defs:List Nat):Nat->DK
 | 0,_,_,_,_,_=>none
 | f+1,T,done,rds,rest,h=>match zHf P all h rest T done rds with
  | none=>none
  | some s=>(match s.rest with
   | []=>one ⟨s.T,h,defs⟩
   | _=>zLU (fires P rec all (drawRun rec all defs f) s.T s.done s.rds h [] s.rest))
def evRegion(rec:Rec)(ops:List Oper)(draw:Bool)(st:St):R St:=match draw with
 | false=>evOps P rec ops ops st
 | true=>drawRun P rec ops st.defs (zBH ops+1) st.T 0 [] (prep 0 [] ops) st.h
def zBj(T:Tm):List Tmp->List Value->Option Tm
 | [],[]=>some T
 | t::ts,v::vs=>zBj (T.put t v) ts vs
 | _,_=>none
def outOf(st:St):R Out:=one ⟨.normal,st⟩
def thenC(f:St->R Out)(o:Out):R Out:=match o.ex with
 | .normal=>f o.st
 | _=>one o
def zDY(id:Nat)(o:Out):R Out:=match o.ex with
 | .exit id'=>cond (Nat.beq id' id) (one ⟨.normal,o.st⟩) (one o)
 | _=>one o
def zVp(t e:St->R Out)(c:Option Value)(st:St):R Out:=match c with
 | some (.bool b)=>cond b (t st) (e st)
 | _=>none
def zio(st:LoopState):Bool:=match st with
 | .busy=>true
 | _=>false
def zPh(pend:Option Code):Option Ex:=match pend with
 | none=>some .normal
 | some .ret=>some .ret
 | some (.exit id)=>some (.exit id)
 | _=>none
def zGl(l:Nat)(T:Tm)(defs:List Nat)(h:AH)(pend:Option Code)(o:AObj):R Out:=match zPh pend with
 | some ex=>one ⟨ex,⟨T,h.upd l (some o),defs⟩⟩
 | none=>none
def zBa(l:Nat)(T:Tm)(defs:List Nat)(h:AH):R Out:=
 match h.get l with
 | some (.loop st pend T' ps aas body d)=>cond (zio st) none (zGl l T defs h pend (.loop .exhausted pend T' ps aas body d))
 | _=>none
def zBx(rec:Rec)(f:FuncId)(fs cs:List Value)(ps:List Tmp)(aas body:Code)(d:Nat)(defs:List Nat)(T:Tm)(h1:AH):R Out:=
 R.andThen (rec.call f (fs++[.func (.yield h1.qa) #[] #[]]++cs) (h1.new (.loop .ready none T ps aas body d))) fun x=>zBa h1.qa T defs x.2
def zDF(f:FuncId):Bool:=match P.tab.fn.get f with
 | some fn=>fn.body.isSome
 | none=>false
def zVI(l:Nat)(h:AH):Bool:=match h.get l with
 | some (.loop _ _ _ _ _ _ _)=>true
 | _=>false
def evRange(rec:Rec)(ro:Option Nat)(f:Option Value)(ps:List Tmp)(aas body:Code)(st:St):R Out:=
 match f with
 | some (.func (.func f) fs cs)=>cond (zDF P f)
  (match ro with
  | none=>zBx rec f fs.toList cs.toList ps aas body st.h.qa (st.h.qa::st.defs) st.T (st.h.new .defd)
  | some l=>cond (zVI l st.h) (zBx rec f fs.toList cs.toList ps aas body 0 st.defs st.T st.h) none) none
 | _=>none
def evC(rec:Rec)(ro:Option Nat):Code->St->R Out
 | .skip,st=>outOf st
 | .region _ ops d,st=>R.andThen (evRegion P rec ops.toList d st) outOf
 | .seq a b,st=>R.andThen (evC rec ro a st) (thenC (evC rec ro b))
 | .cond c t e,st=>zVp (evC rec ro t) (evC rec ro e) (zAl st.T c) st
 | .block id c,st=>R.andThen (evC rec ro c st) (zDY id)
 | .loop c,st=>R.andThen (evC rec ro c st) (thenC (rec.loop ro c))
 | .rangeFunc f ps aas body,st=>evRange P rec ro (zAl st.T f) ps.toList aas body st
 | .exit id,st=>one ⟨.exit id,st⟩
 | .label _,st=>outOf st
 | .ret,st=>one ⟨.ret,st⟩
 | _,_=>none
def zCB:List Value->Nat->Tr Value->Tr Value
 | [],_,t=>t
 | v::vs,k,t=>zCB vs (k+1) (t.set (k+1) k (some v))
def zCj(T:Tm)(h:AH):List ResultVar->Option (List Value)
 | []=>some []
 | .tmp t::rs=>(match zCj T h rs with|some vs=>some (T.get t::vs)|none=>none)
 | .cell a t::rs=>(match zE2 P t (T.get a) h,zCj T h rs with|some v,some vs=>some (v::vs)|_,_=>none)
def zEp(fn:Func)(T:Tm)(h:AH):Option Value:=match zCj P T h fn.results.toList with
 | some [v]=>some v
 | some vs=>some (.tuple ⟨vs⟩)
 | none=>none
def zDm:Nat->Value->List Nat
 | _,.pointer (some a)=>[a.block]
 | _,.slice (some a) _ _=>[a.block]
 | _,.map (some m)=>[m]
 | 0,_=>[]
 | n+1,.func _ a b=>(a.toList++b.toList).flatMap (zDm n)
 | n+1,.iface _ v=>zDm n v
 | n+1,.agg a=>a.toList.flatMap (zDm n)
 | n+1,.tuple a=>a.toList.flatMap (zDm n)
 | _,_=>[]
def zer:AObj->List Nat
 | .row vs _ _ _=>vs.flatMap (zDm 4)
 | .map es _=>es.flatMap fun e=>zDm 4 e.2
 | _=>[]
def zEJ(h:AH)(lo:Nat):Nat->List Nat->List Nat->List Nat
 | 0,_,done=>done
 | _,[],done=>done
 | f+1,b::bs,done=>
  if Nat.ble (b+1) lo||done.any (Nat.beq b) then zEJ h lo f bs done else
  match h.get b with
  | some o=>zEJ h lo f (zer o++bs) (b::done)
  | none=>zEJ h lo f bs (b::done)
def zDV(h0 h:AH)(ids:List Nat):AH:={ t:=ids.foldr (fun b t=>t.set (b+1) b (h.get b)) h0.t,qa:=h.qa,wm:=h.wm }
def oeq:Option AObj->Option AObj->Bool
 | none,none=>true
 | some (.row a t n r),some (.row b u m s)=>zKP 1000 a b&&Nat.beq t u&&Nat.beq n m&&(r==s)
 | some (.map a v),some (.map b w)=>Nat.beq v w&&zKP 1000 (a.map (·.1)) (b.map (·.1))&&zKP 1000 (a.map (·.2)) (b.map (·.2))
 | _,_=>false
abbrev zKI:=Value×List Nat×AH
def kept(h0:AH)(x:Value×AH):zKI:=(x.1,zEJ x.2 h0.qa 1000 (zDm 4 x.1) [],zDV h0 x.2 (zEJ x.2 h0.qa 1000 (zDm 4 x.1) []))
def ziY(a b:zKI)(k:Nat):Bool:=a.2.1.any (Nat.beq k)&&oeq (a.2.2.get k) (b.2.2.get k)
def zK6(a b:zKI):Bool:=veq 1000 a.1 b.1&&Nat.beq a.2.2.qa b.2.2.qa&&b.2.1.all (ziY a b)
def zEK:List zKI->List zKI->List zKI
 | [],acc=>acc
 | x::rest,acc=>cond (acc.any (zK6 x)) (zEK rest acc) (zEK rest (acc++[x]))
def zD9(h0:AH)(x:Value×AH):Bool:=Nat.ble h0.qa x.2.wm
def zBQ(h0:AH)(x:Value×AH):Value×AH:=cond (zD9 h0 x&&zg x.1) (x.1,h0) x
def zB4(h0:AH)(outs:List (Value×AH)):List (Value×AH):=
 cond (outs.all (zD9 h0)) ((zEK (outs.map (kept h0)) []).map fun k=>(k.1,k.2.2)) outs
def zEF(h0:AH)(outs:List (Value×AH)):List (Value×AH):=
 match outs with
 | [x]=>[zBQ h0 x]
 | outs=>zB4 h0 (outs.map (zBQ h0))
def zFN:List UInt8->UInt8->Nat->Int
 | [],_,_=>-1
 | b::bs,c,i=>if Nat.beq b.toNat c.toNat then .ofNat i else zFN bs c (i+1)
def zOT(code:Option Nat)(args:List Value)(h:AH):R (Value×AH):=match code with
 | some 1=>(match args with|[x]=>one (x,h)|_=>none)
 | some 2=>(match args with|[.string s,.int .u8 c]=>one (.int .i64 (zFN s.data.toList (UInt8.ofNat c.toNat) 0),h)|_=>none)
 | _=>none
def zB9:List Nat->AH->Option AH
 | [],h=>some h
 | b::bs,h=>match h.get b with
  | some .defd=>zB9 bs (h.upd b none)
  | _=>none
def zCC(fn:Func)(T:Tm)(h:Option AH):R (Value×AH):=match h with
 | some h=>v1 (zEp P fn T h) h
 | none=>none
def zAW(fn:Func)(o:Out):R (Value×AH):=match o.ex with
 | .exit _=>none
 | _=>zCC P fn o.st.T (zB9 o.st.defs o.st.h)
def zUU(w:Nat)(x:Value×AH):Value×AH:=(x.1,⟨x.2.t,x.2.qa,cond (Nat.ble w x.2.wm) w x.2.wm⟩)
def zER(h0:AH)(w:Nat)(outs:R (Value×AH)):R (Value×AH):=match outs with
 | none=>none
 | some outs=>some ((zEF h0 outs).map (zUU w))
def zEC(rec:Rec)(fn:Func)(c:Code)(args:List Value)(h:AH)(h0:AH):R (Value×AH):=
 cond (Nat.ble (zBH args) fn.ntmps) (zER h0 h.wm (R.andThen (evC P rec none c ⟨⟨fn.ntmps,zCB args 0 .e⟩,h0,[]⟩) (zAW P fn))) none
def fnCall(rec:Rec)(f:FuncId)(args:List Value)(h:AH):R (Value×AH):=
 match P.tab.fn.get f with
 | none=>none
 | some fn=>match fn.body with
  | none=>zOT (P.tab.ext.get f) args h
  | some c=>(match P.sum f args h with
   | some outs=>some outs
   | none=>zEC P rec fn c args h ⟨h.t,h.qa,Nat.add h.qa UNK⟩)
def zEU:Ex->Option Code
 | .normal=>none
 | .ret=>some .ret
 | .exit id=>some (.exit id)
def zCO(l:Nat)(h:AH)(f:LoopState->Option Code->LoopState×Option Code):Option AH:=match h.get l with
 | some (.loop st pend T ps aas body d)=>some (h.upd l (some (.loop (f st pend).1 (f st pend).2 T ps aas body d)))
 | _=>none
def zC2(jump:Option Code)(h:Option AH):R (Value×AH):=match h with
 | some h=>one (.bool jump.isNone,h)
 | none=>none
def endRound(l:Nat)(o:Out):R (Value×AH):=
 zC2 (zEU o.ex) (zCO l o.st.h fun _ _=>(cond (zEU o.ex).isNone .ready .done,zEU o.ex))
def zKj(l:Nat)(h:AH):Bool:=match h.get l with
 | some (.loop .ready _ _ _ _ _ _)=>true
 | _=>false
def beginRound(rec:Rec)(l:Nat)(body:Code)(T:Tm)(defs:List Nat)(h:Option AH):R (Value×AH):=match h with
 | some h=>R.andThen (evC P rec (some l) body ⟨T,h,defs⟩) (endRound l)
 | none=>none
def zDU(rec:Rec)(l:Nat)(body:Code)(o:Out):R (Value×AH):=match o.ex with
 | .normal=>cond (zKj l o.st.h) (beginRound P rec l body o.st.T o.st.defs (zCO l o.st.h fun _ pend=>(.busy,pend))) none
 | _=>none
def zCx(rec:Rec)(l:Nat)(aas body:Code)(h:AH)(T:Option Tm):R (Value×AH):=match T with
 | none=>none
 | some T=>R.andThen (evC P rec (some l) aas ⟨T,h,[]⟩) (zDU P rec l body)
def roundCall(rec:Rec)(l:Nat)(args:List Value)(h:AH):R (Value×AH):=
 match h.get l with
 | some (.loop _ _ T ps aas body _)=>zCx P rec l aas body h (zBj T ps args)
 | _=>none
def loopCall(rec:Rec)(ro:Option Nat)(c:Code)(st:St):R Out:=R.andThen (evC P rec ro c st) (thenC (rec.loop ro c))
def zrY(rec:Rec):Rec:={ call:=fnCall P rec,loop:=loopCall P rec,round:=roundCall P rec }
def zDj:Nat->Rec
 | 0=>{ call:=fun _ _ _=>none,loop:=fun _ _ _=>none,round:=fun _ _ _=>none }
 | n+1=>zrY P (zDj n)
end
end Go.AM
namespace Go.AM
def zqo(raw:Tr TypeInfo)(i:TypeInfo):TI:=
 match i.desc with
 | .named _ u=>match raw.get u with
  | some j=>⟨j.desc,i.size,i.bytes,i.zero,(match j.desc with | .struct _=>true | .array _ _=>true|_=>false)⟩
  | none=>⟨.invalid,i.size,i.bytes,i.zero,false⟩
 | .struct fs=>⟨.struct fs,i.size,i.bytes,i.zero,true⟩
 | .array n e=>⟨.array n e,i.size,i.bytes,i.zero,true⟩
 | d=>⟨d,i.size,i.bytes,i.zero,false⟩
def zH1(P:Program)(ext:List (FuncId×Nat))(sum:FuncId->List Value->AH->Option (List (Value×AH)):=fun _ _ _=>none):Env:=
 { prog:=P,sum:=sum,tab:={ ty:=Tr.ofList 40 (P.types.toList.map (zqo (Tr.ofList 40 P.types.toList))),fn:=Tr.ofList 40 P.funcs.toList,ext:=ext.foldr (fun (f,c) t=>t.set (f+1) f (some c)) .e } }
end Go.AM
namespace Go.AM
@[match_pattern] abbrev iI(a:Int):Go.Value:=.int .i64 a
@[match_pattern] abbrev rO(l:List Go.Value)(t:Nat):AObj:=.row l t 0 false
abbrev sP(b o:Nat):Option Go.Value:=some (.pointer (some ⟨b,o,none⟩))
end Go.AM
end
end
namespace Go.AM
open Go Go.Proofs Go.RowKit
theorem Tr.get_e{α:Type}(k:Nat):(Tr.e:Tr α).get k=none:=rfl
theorem zDp{α:Type}(x y:α)(b:Bool):Bool.rec (motive:=fun _=>α) x y b=cond b y x:=by cases b <;> rfl
theorem Tr.get_c{α:Type}(v:Option α)(l r:Tr α)(k:Nat) :
  (Tr.n v l r).get k=cond (Nat.beq k 0) v (cond (Nat.beq (k % 2) 1) (l.get (k / 2)) (r.get (k / 2-1))):=by
 rw[← zDp,← zDp];rfl
theorem Tr.set_e{α:Type}(f k:Nat)(x:Option α):Tr.set (f+1) .e k x=cond (Nat.beq k 0) (.n x .e .e) (cond (Nat.beq (k % 2) 1) (.n none (Tr.set f .e (k / 2) x) .e) (.n none .e (Tr.set f .e (k / 2-1) x))):=by
 rw[← zDp,← zDp];rfl
theorem Tr.set_n{α:Type}(f:Nat)(v:Option α)(l r:Tr α)(k:Nat)(x:Option α):Tr.set (f+1) (.n v l r) k x=cond (Nat.beq k 0) (.n x l r) (cond (Nat.beq (k % 2) 1) (.n v (Tr.set f l (k / 2) x) r) (.n v l (Tr.set f r (k / 2-1) x))):=by
 rw[← zDp,← zDp];rfl
theorem Tr.get_n{α:Type}(v:Option α)(l r:Tr α)(k:Nat) :
  (Tr.n v l r).get k=if k=0 then v else if k % 2=1 then l.get (k / 2) else r.get (k / 2-1):=by
 rw[Tr.get_c];by_cases h0:k=0
 ·subst h0;rfl
 ·have e0:Nat.beq k 0=false:=by cases k with|zero=>exact absurd rfl h0|succ k=>rfl
  rw[e0,if_neg h0];by_cases h1:k % 2=1
  ·rw[if_pos h1,h1];rfl
  ·have:k % 2=0:=by omega
   rw[if_neg h1,this];rfl
theorem zBn{m n:Nat}(h:m≠n):Nat.beq m n=false:=by
 cases e:Nat.beq m n with
 | true=>exact absurd (Nat.eq_of_beq_eq_true e) h
 | false=>rfl
theorem beq_true{m n:Nat}:Nat.beq m n=true ↔ m=n:=⟨Nat.eq_of_beq_eq_true,fun h=>by subst h;exact Nat.beq_refl _⟩
theorem ble_true{m n:Nat}:Nat.ble m n=true ↔ m<=n:=⟨Nat.le_of_ble_eq_true,Nat.ble_eq_true_of_le⟩
theorem ble_false{m n:Nat}:Nat.ble m n=false ↔ n<m:=by
 constructor
 ·intro h;rcases Nat.lt_or_ge n m with h'|h'
  ·exact h'
  ·rw[ble_true.2 h'] at h;cases h
 ·intro h;cases e:Nat.ble m n with
  | true=>have:=ble_true.1 e;omega
  | false=>rfl
theorem Tr.get_set{α:Type}:∀(f:Nat) (t:Tr α) (k:Nat) (x:Option α) (j:Nat),k<f->(t.set f k x).get j=if j=k then x else t.get j:=by
 intro f
 induction f with
 | zero=>intro t k x j h;omega
 | succ f ih=>
  intro t k x j h;have step:∀(v:Option α) (l r:Tr α),(∀ j,(Tr.n v l r).get j=t.get j)->
    (cond (Nat.beq k 0) (Tr.n x l r) (cond (Nat.beq (k % 2) 1) (.n v (Tr.set f l (k / 2) x) r) (.n v l (Tr.set f r (k / 2-1) x)))).get j=if j=k then x else t.get j:=by
   intro v l r hv;by_cases h0:k=0
   ·subst h0;show (Tr.n x l r).get j=_;rw[Tr.get_n,← hv,Tr.get_n];split <;> rfl
   ·rw[zBn h0];simp only[xAH];by_cases h1:k % 2=1
    ·rw[beq_true.2 h1];simp only[xAG];rw[Tr.get_n,← hv,Tr.get_n];by_cases hj:j=0
     ·rw[if_pos hj,if_pos hj,if_neg (by omega)]
     ·rw[if_neg hj,if_neg hj];by_cases ea:j % 2=1
      ·rw[if_pos ea,if_pos ea,ih _ _ _ _ (by omega)];by_cases e:j=k
       ·subst e;simp
       ·rw[if_neg e,if_neg (by omega)]
      ·rw[if_neg ea,if_neg ea,if_neg (by omega)]
    ·rw[zBn h1];simp only[xAH];rw[Tr.get_n,← hv,Tr.get_n];by_cases hj:j=0
     ·rw[if_pos hj,if_pos hj,if_neg (by omega)]
     ·rw[if_neg hj,if_neg hj];by_cases ea:j % 2=1
      ·rw[if_pos ea,if_pos ea,if_neg (by omega)]
      ·rw[if_neg ea,if_neg ea,ih _ _ _ _ (by omega)];by_cases e:j=k
       ·subst e;simp
       ·rw[if_neg e,if_neg (by omega)]
  cases t with
  | e=>
   have:=step none .e .e (fun j=>by rw[Tr.get_n];split <;> (try split) <;> rfl);rw[Tr.set_e];exact this
  | n v l r=>rw[Tr.set_n];exact step v l r (fun _=>rfl)
mutual
theorem zPT{α:Type}:∀(l:List α) (k:Nat),(zmu l)[k]?=l[2*k]?
 | [],k=>by simp[zmu]
 | a::aas,k=>by
  cases k with
  | zero=>simp[zmu]
  | succ k=>simp only[zmu,List.getElem?_cons_succ];rw[zL4 aas k];rw[show 2*(k+1)=(2*k+1)+1 by omega,List.getElem?_cons_succ]
theorem zL4{α:Type}:∀(l:List α) (k:Nat),(zVd l)[k]?=l[2*k+1]?
 | [],k=>by simp[zVd]
 | _::aas,k=>by simp only[zVd,List.getElem?_cons_succ];exact zPT aas k
end
theorem Tr.get_ofList{α:Type}:∀(f:Nat) (l:List α) (k:Nat) (a:α),(Tr.ofList f l).get k=some a->l[k]?=some a:=by
 intro f
 induction f with
 | zero=>intro l k a h;simp[Tr.ofList,Tr.get_e] at h
 | succ f ih=>
  intro l k a h;cases l with
  | nil=>simp[Tr.ofList,Tr.get_e] at h
  | cons x xs=>
   simp only[Tr.ofList] at h;rw[Tr.get_n] at h;by_cases h0:k=0
   ·subst h0;rw[if_pos rfl] at h;simpa using h
   ·rw[if_neg h0] at h;obtain⟨j,rfl⟩:∃ j,k=j+1:=⟨k-1,by omega⟩;rw[List.getElem?_cons_succ];by_cases h1:(j+1) % 2=1
    ·rw[if_pos h1] at h;have:=ih _ _ _ h;rw[zPT] at this;rw[← this];congr 1;omega
    ·rw[if_neg h1] at h;have:=ih _ _ _ h;rw[zL4] at this;rw[← this];congr 1;omega
theorem Tm.get_put(T:Tm)(d:Nat)(v:Value)(k:Nat):(T.put d v).get k=if k=d then v else T.get k:=by
 unfold Tm.get Tm.put;simp only;rw[Tr.get_set _ _ _ _ _ (Nat.lt_succ_self d)];split <;> rfl
@[simp] theorem Tm.n_put(T:Tm)(d:Nat)(v:Value):(T.put d v).n=T.n:=rfl
theorem AH.get_new(h:AH)(o:AObj)(b:Nat):(h.new o).get b=if b=h.qa then some o else h.get b:=by
 unfold AH.get AH.new;exact Tr.get_set _ _ _ _ _ (Nat.lt_succ_self _)
theorem AH.get_upd(h:AH)(c:Nat)(o:Option AObj)(b:Nat):(h.upd c o).get b=if b=c then o else h.get b:=by
 unfold AH.get AH.upd;exact Tr.get_set _ _ _ _ _ (Nat.lt_succ_self _)
@[simp] theorem AH.next_new(h:AH)(o:AObj):(h.new o).qa=h.qa+1:=rfl
@[simp] theorem AH.next_upd(h:AH)(c:Nat)(o:Option AObj):(h.upd c o).qa=h.qa:=rfl
theorem zAR{α:Type}:∀ l:List α,zBH l=l.length
 | []=>rfl
 | _::aas=>by simp[zBH,zAR aas]
theorem zAo{α:Type}:∀(n:Nat) (l:List α),zE1 n l=l.take n
 | 0,l=>by simp[zE1]
 | _+1,[]=>rfl
 | n+1,a::aas=>by simp[zE1,zAo n aas]
theorem zAt{α:Type}:∀(n:Nat) (l:List α),zGW n l=l.drop n
 | 0,l=>rfl
 | _+1,[]=>rfl
 | n+1,a::aas=>by simp[zGW,zAt n aas]
theorem zA2{α:Type}:∀(l:List α) (n:Nat),lnth l n=l[n]?
 | [],n=>by simp[lnth]
 | a::aas,0=>rfl
 | a::aas,n+1=>by simp[lnth,zA2 aas n]
theorem zD0{α:Type}:∀(l:List α) (o:Nat) (ws:List α),(lput l o ws).length=l.length
 | l,_,[]=>by cases l <;> simp[lput]
 | [],0,_::_=>rfl
 | [],_+1,_::_=>rfl
 | a::aas,o+1,w::ws=>by simp[lput,zD0 aas o (w::ws)]
 | _::aas,0,w::ws=>by simp[lput,zD0 aas 0 ws]
theorem zFz{α:Type}:∀(l:List α) (o:Nat) (ws:List α) (k:Nat),o+ws.length<=l.length->
  (lput l o ws)[k]?=if o<=k/\k<o+ws.length then ws[k-o]? else l[k]?
 | l,o,[],k,_=>by
  have:¬ (o<=k/\k<o+([]:List α).length):=by rw[List.length_nil];omega
  rw[if_neg this];cases l with|nil=>rfl|cons a aas=>cases o <;> rfl
 | [],o,w::ws,k,h=>by simp at h
 | a::aas,o+1,w::ws,k,h=>by
  simp only[lput];cases k with
  | zero=>rw[if_neg (by omega)];rfl
  | succ k=>
   rw[List.getElem?_cons_succ,zFz aas o (w::ws) k (by simp at h ⊢;omega),List.getElem?_cons_succ];by_cases hc:o<=k/\k<o+(w::ws).length
   ·rw[if_pos hc,if_pos (by omega)];congr 1;omega
   ·rw[if_neg hc,if_neg (by omega)]
 | a::aas,0,w::ws,k,h=>by
  simp only[lput];cases k with
  | zero=>rw[if_pos (by simp)];rfl
  | succ k=>
   rw[List.getElem?_cons_succ,zFz aas 0 ws k (by simp at h ⊢;omega),List.getElem?_cons_succ];by_cases hc:0<=k/\k<0+ws.length
   ·rw[if_pos hc,if_pos (by simp;omega)];simp
   ·rw[if_neg hc,if_neg (by simp at hc ⊢;omega)]
structure Loc where
 blk:Nat
 base:Nat
 tot:Nat
 es:Nat
abbrev Sg:=Nat->Option Loc
def Sg.le(σ τ:Sg):Prop:=∀ b l,σ b=some l->τ b=some l
theorem Sg.le_refl(σ:Sg):Sg.le σ σ:=fun _ _ h=>h
theorem Sg.le_trans{σ τ υ:Sg}(h:Sg.le σ τ)(k:Sg.le τ υ):Sg.le σ υ:=fun b l e=>k b l (h b l e)
mutual
inductive VR(σ:Sg):Value->Value->Prop
 | bool (b:Bool):VR σ (.bool b) (.bool b)
 | int (k:IntKind) (n:Int):VR σ (.int k n) (.int k n)
 | float (k:FloatKind) (n:Nat):VR σ (.float k n) (.float k n)
 | complex (k:FloatKind) (m n:Nat):VR σ (.complex k m n) (.complex k m n)
 | string (s:ByteArray):VR σ (.string s) (.string s)
 | ptrN:VR σ (.pointer none) (.pointer none)
 | ptr {b:Nat} {l:Loc} (o:Nat) (h:σ b=some l):VR σ (.pointer (some ⟨b,o,none⟩)) (.pointer (some ⟨l.blk,l.base+o,none⟩))
 | sliceN (n c:Nat):VR σ (.slice none n c) (.slice none n c)
 | slice {b:Nat} {l:Loc} (o n c:Nat) (h:σ b=some l) (hc:c<UNK):VR σ (.slice (some ⟨b,o,none⟩) n c) (.slice (some ⟨l.blk,l.base+o,none⟩) n c)
 | sliceU {b:Nat} {l:Loc} (o n c:Nat) (h:σ b=some l) (hc:o+c*l.es=l.tot) (hn:n<=c) :
   VR σ (.slice (some ⟨b,o,none⟩) n (UNK+l.es)) (.slice (some ⟨l.blk,l.base+o,none⟩) n c)
 | sliceS (a:Addr):VR σ (.slice (some ⟨0,0,some 0⟩) 0 0) (.slice (some a) 0 0)
 | mapN:VR σ (.map none) (.map none)
 | map {m:Nat} {l:Loc} (h:σ m=some l):VR σ (.map (some m)) (.map (some l.blk))
 | chanN:VR σ (.chan none) (.chan none)
 | func (f:FuncId) {a a' b b':Array Value} (ha:VRs σ a.toList a'.toList) (hb:VRs σ b.toList b'.toList):VR σ (.func (.func f) a b) (.func (.func f) a' b')
 | yield {i:Nat} {l:Loc} (h:σ i=some l) {a a' b b':Array Value} (ha:VRs σ a.toList a'.toList) (hb:VRs σ b.toList b'.toList):VR σ (.func (.yield i) a b) (.func (.yield l.blk) a' b')
 | nilFunc:VR σ .nilFunc .nilFunc
 | nilIface:VR σ .nilIface .nilIface
 | iface (t:TypeId) {v v':Value} (h:VR σ v v'):VR σ (.iface t v) (.iface t v')
 | agg {a b:Array Value} (h:VRs σ a.toList b.toList):VR σ (.agg a) (.agg b)
 | tuple {a b:Array Value} (h:VRs σ a.toList b.toList):VR σ (.tuple a) (.tuple b)
inductive VRs(σ:Sg):List Value->List Value->Prop
 | nil:VRs σ [] []
 | cons {a b:Value} {aas bs:List Value} (h:VR σ a b) (hs:VRs σ aas bs):VRs σ (a::aas) (b::bs)
end
mutual
theorem VR.mono{σ τ:Sg}(le:Sg.le σ τ):∀ {v v':Value},VR σ v v'->VR τ v v'
 | _,_,.bool b=>.bool b
 | _,_,.int k n=>.int k n
 | _,_,.float k n=>.float k n
 | _,_,.complex k m n=>.complex k m n
 | _,_,.string s=>.string s
 | _,_,.ptrN=>.ptrN
 | _,_,.ptr o h=>.ptr o (le _ _ h)
 | _,_,.sliceN n c=>.sliceN n c
 | _,_,.slice o n c h hc=>.slice o n c (le _ _ h) hc
 | _,_,.sliceU o n c h hc hn=>.sliceU o n c (le _ _ h) hc hn
 | _,_,.sliceS a=>.sliceS a
 | _,_,.mapN=>.mapN
 | _,_,.map h=>.map (le _ _ h)
 | _,_,.chanN=>.chanN
 | _,_,.func f ha hb=>.func f (VRs.mono le ha) (VRs.mono le hb)
 | _,_,.yield h ha hb=>.yield (le _ _ h) (VRs.mono le ha) (VRs.mono le hb)
 | _,_,.nilFunc=>.nilFunc
 | _,_,.nilIface=>.nilIface
 | _,_,.iface t h=>.iface t (VR.mono le h)
 | _,_,.agg h=>.agg (VRs.mono le h)
 | _,_,.tuple h=>.tuple (VRs.mono le h)
theorem VRs.mono{σ τ:Sg}(le:Sg.le σ τ):∀ {v v':List Value},VRs σ v v'->VRs τ v v'
 | _,_,.nil=>.nil
 | _,_,.cons h hs=>.cons (VR.mono le h) (VRs.mono le hs)
end
theorem VRs.length{σ:Sg}:∀ {v v':List Value},VRs σ v v'->v.length=v'.length
 | _,_,.nil=>rfl
 | _,_,.cons _ hs=>by simp[VRs.length hs]
theorem VRs.get{σ:Sg}:∀ {v v':List Value},VRs σ v v'->∀ {k:Nat} {a:Value},v[k]?=some a->∃ b,v'[k]?=some b/\VR σ a b
 | _,_,.nil,k,a,h=>by simp at h
 | _,_,.cons h hs,0,a,e=>by simp at e;subst e;exact⟨_,rfl,h⟩
 | _,_,.cons h hs,k+1,a,e=>by simp only[List.getElem?_cons_succ] at e ⊢;exact VRs.get hs e
theorem VRs.of_get{σ:Sg}:∀ {v v':List Value},v.length=v'.length->(∀(k:Nat) (a b:Value),v[k]?=some a->v'[k]?=some b->VR σ a b)->VRs σ v v'
 | [],[],_,_=>.nil
 | [],_::_,h,_=>by simp at h
 | _::_,[],h,_=>by simp at h
 | a::aas,b::bs,h,H=>.cons (H 0 a b rfl rfl) (VRs.of_get (by simpa using h) fun k x y hx hy=>H (k+1) x y (by simpa using hx) (by simpa using hy))
theorem VRs.append{σ:Sg}:∀ {v v' u u':List Value},VRs σ v v'->VRs σ u u'->VRs σ (v++u) (v'++u')
 | _,_,_,_,.nil,h=>h
 | _,_,_,_,.cons h hs,h2=>.cons h (VRs.append hs h2)
theorem VRs.take{σ:Sg}:∀(n:Nat) {v v':List Value},VRs σ v v'->VRs σ (v.take n) (v'.take n)
 | 0,_,_,_=>by simp;exact .nil
 | _+1,_,_,.nil=>.nil
 | n+1,_,_,.cons h hs=>.cons h (VRs.take n hs)
theorem VRs.drop{σ:Sg}:∀(n:Nat) {v v':List Value},VRs σ v v'->VRs σ (v.drop n) (v'.drop n)
 | 0,_,_,h=>h
 | _+1,_,_,.nil=>.nil
 | n+1,_,_,.cons _ hs=>VRs.drop n hs
theorem VRs.refl_of{σ:Sg}{l:List Value}(h:∀ v∈l,VR σ v v):VRs σ l l:=by
 induction l with
 | nil=>exact .nil
 | cons a aas ih=>exact .cons (h a (by simp)) (ih fun v hv=>h v (by simp[hv]))
theorem VR.of_flat{σ:Sg}:∀(n:Nat) (v:Value),zEZ n v=true->VR σ v v:=by
 intro n
 induction n with
 | zero=>
  intro v h;cases v with
  | pointer a=>cases a with|none=>exact .ptrN|some a=>simp[zEZ] at h
  | slice a n c=>cases a with|none=>exact .sliceN _ _|some a=>simp[zEZ] at h
  | map a=>cases a with|none=>exact .mapN|some a=>simp[zEZ] at h
  | chan a=>cases a with|none=>exact .chanN|some a=>simp[zEZ] at h
  | func f a b=>simp[zEZ] at h
  | iface t v=>simp[zEZ] at h
  | agg a=>simp[zEZ] at h
  | tuple a=>simp[zEZ] at h
  | _=>constructor
 | succ n ih=>
  intro v h;cases v with
  | pointer a=>cases a with|none=>exact .ptrN|some a=>simp[zEZ] at h
  | slice a n c=>cases a with|none=>exact .sliceN _ _|some a=>simp[zEZ] at h
  | map a=>cases a with|none=>exact .mapN|some a=>simp[zEZ] at h
  | chan a=>cases a with|none=>exact .chanN|some a=>simp[zEZ] at h
  | func f a b=>
   cases f with
   | func f=>
    simp only[zEZ,xAP,List.all_eq_true] at h;exact .func f (VRs.refl_of fun v hv=>ih v (h.1 v hv)) (VRs.refl_of fun v hv=>ih v (h.2 v hv))
   | _=>simp[zEZ] at h
  | iface t v=>exact .iface t (ih v (by simpa[zEZ] using h))
  | agg a=>exact .agg (VRs.refl_of fun v hv=>ih v (by simp only[zEZ,List.all_eq_true] at h;exact h v hv))
  | tuple a=>exact .tuple (VRs.refl_of fun v hv=>ih v (by simp only[zEZ,List.all_eq_true] at h;exact h v hv))
  | _=>constructor
theorem zIA{v:Value}(h:zg v=true):zEZ 4 v=true:=by
 unfold zg at h;split at h <;> first|rfl|exact h
theorem VR.of_isFlat{σ:Sg}{v:Value}(h:zg v=true):VR σ v v:=VR.of_flat 4 v (zIA h)
theorem VRs.eq_of{σ:Sg}:∀ {l l':List Value},VRs σ l l'->(∀ v∈l,∀ v',VR σ v v'->v'=v)->l'=l
 | _,_,.nil,_=>rfl
 | _,_,.cons h hs,H=>by rw[H _ (by simp) _ h,VRs.eq_of hs fun v hv=>H v (by simp[hv])]
theorem VR.eq_of_flat{σ:Sg}:∀(n:Nat) (v v':Value),zEZ n v=true->VR σ v v'->v'=v:=by
 intro n
 induction n with
 | zero=>
  intro v v' h hv;cases hv <;> first|rfl|(simp[zEZ] at h)
 | succ n ih=>
  intro v v' h hv;cases hv with
  | func f ha hb=>
   rename_i a a' b b';simp only[zEZ,xAP,List.all_eq_true] at h;have e1:a'.toList=a.toList:=VRs.eq_of ha fun v hv w hw=>ih v w (h.1 v hv) hw;have e2:b'.toList=b.toList:=VRs.eq_of hb fun v hv w hw=>ih v w (h.2 v hv) hw;rw[Array.toList_inj.1 e1,Array.toList_inj.1 e2]
  | iface t hv=>rw[ih _ _ (by simpa[zEZ] using h) hv]
  | agg ha=>
   rename_i a a';simp only[zEZ,List.all_eq_true] at h;have e1:a'.toList=a.toList:=VRs.eq_of ha fun v hv w hw=>ih v w (h v hv) hw;rw[Array.toList_inj.1 e1]
  | tuple ha=>
   rename_i a a';simp only[zEZ,List.all_eq_true] at h;have e1:a'.toList=a.toList:=VRs.eq_of ha fun v hv w hw=>ih v w (h v hv) hw;rw[Array.toList_inj.1 e1]
  | _=>first|rfl|(simp[zEZ] at h)
theorem VR.eq_of_isFlat{σ:Sg}{v v':Value}(h:zg v=true)(hv:VR σ v v'):v'=v:=VR.eq_of_flat 4 v v' (zIA h) hv
theorem VR.leaf{σ:Sg}{v v':Value}(h:VR σ v v'):zq v'=zq v:=by cases h <;> rfl
theorem VR.cells{σ:Sg}{v v':Value}(h:VR σ v v'):VRs σ (zj v) v'.cells.toList:=by
 cases h with
 | agg h=>exact h
 | bool b=>exact .cons (.bool b) .nil
 | int k n=>exact .cons (.int k n) .nil
 | float k n=>exact .cons (.float k n) .nil
 | complex k m n=>exact .cons (.complex k m n) .nil
 | string s=>exact .cons (.string s) .nil
 | ptrN=>exact .cons .ptrN .nil
 | ptr o h=>exact .cons (.ptr o h) .nil
 | sliceN n c=>exact .cons (.sliceN n c) .nil
 | slice o n c h hc=>exact .cons (.slice o n c h hc) .nil
 | sliceU o n c h hc hn=>exact .cons (.sliceU o n c h hc hn) .nil
 | sliceS a=>exact .cons (.sliceS a) .nil
 | mapN=>exact .cons .mapN .nil
 | map h=>exact .cons (.map h) .nil
 | chanN=>exact .cons .chanN .nil
 | func f ha hb=>exact .cons (.func f ha hb) .nil
 | yield h ha hb=>exact .cons (.yield h ha hb) .nil
 | nilFunc=>exact .cons .nilFunc .nil
 | nilIface=>exact .cons .nilIface .nil
 | iface t h=>exact .cons (.iface t h) .nil
 | tuple h=>exact .cons (.tuple h) .nil
structure TmR(σ:Sg)(T:Tm)(ts:Array Value):Prop where
 size:ts.size=T.n
 get:∀ k,VR σ (T.get k) (ts.getD k undef)
theorem TmR.mono{σ τ:Sg}(le:Sg.le σ τ){T:Tm}{ts:Array Value}(h:TmR σ T ts):TmR τ T ts:=⟨h.size,fun k=>(h.get k).mono le⟩
theorem TmR.put{σ:Sg}{T:Tm}{ts:Array Value}(h:TmR σ T ts){d:Nat}(hd:d<T.n){v v':Value}(hv:VR σ v v'):TmR σ (T.put d v) (ts.setIfInBounds d v'):=by
 refine⟨by simp[h.size],fun k=>?_⟩;rw[Tm.get_put];by_cases e:k=d
 ·subst e;rw[if_pos rfl,Array.getD_eq_getD_getElem?];simp[h.size,hd];exact hv
 ·rw[if_neg e,Array.getD_eq_getD_getElem?,Array.getElem?_setIfInBounds_ne (fun h=>e h.symm),← Array.getD_eq_getD_getElem?];exact h.get k
def zG3(n:Nat)(o:Oper):Bool:=match o.dst with
 | some d=>Nat.ble (d+1) n
 | none=>true
def zE6:List Operand->List Tmp
 | []=>[]
 | .tmp t::xs=>t::zE6 xs
 | _::xs=>zE6 xs
def zPo(all:List Oper)(o:Oper):List Tmp:=match o.guard with
 | none=>[]
 | some (j,_)=>match lnth all j with
  | some q=>q.dst.toList
  | none=>[]
def ordered(p q:PO):Bool:=Nat.beq p.i q.i||zCo p.bef q.i||zCo q.bef p.i
def zBR(q:PO)(t:Tmp):Bool:=match q.o.dst with
 | some d=>Nat.beq d t
 | none=>false
def zkW(p:PO):Bool:=match p.o.guard with
 | none=>true
 | some (j,_)=>zCo p.bef j
def zEr(all:List Oper)(ps:List PO):Bool:=
 ps.all (fun p=>(zE6 p.o.op.operands.toList++zPo all p.o).all (fun t=>ps.all fun q=>!zBR q t||ordered p q)&&zkW p&&Nat.ble (p.dep+1) (2 ^ p.i) &&
  (match p.o.dst with|some d=>ps.all fun q=>!zBR q d||Nat.beq p.i q.i|none=>true))
def fits(n:Nat):Code->Bool
 | .region _ ops draw=>ops.toList.all (zG3 n)&&(!draw||zEr ops.toList (prep 0 [] ops.toList))
 | .seq a b=>fits n a&&fits n b
 | .cond _ a b=>fits n a&&fits n b
 | .block _ c=>fits n c
 | .loop c=>fits n c
 | .scope c=>fits n c
 | .rangeFunc _ ps a b=>ps.toList.all (fun d=>Nat.ble (d+1) n)&&fits n a&&fits n b
 | _=>true
def zin:AObj->Bool
 | .row _ _ _ ro=>ro
 | _=>false
structure RowR(σ:Sg)(vs:List Value)(ty es:Nat)(ro:Bool)(l:Loc)(cs:Array Value)(el:TypeId)(frz:Nat×Nat):Prop where
 size:l.base+vs.length<=cs.size
 cell:∀ i v,vs[i]?=some v->∃ v',cs[l.base+i]?=some v'/\VR σ v v'
 free:ro=false->frz=(0,0)
 elt:el=ty
 fixed:es=0->ro=false->l.base=0/\cs.size=vs.length
 grown:es≠0->l.es=es/\cs.size=l.base+l.tot
inductive EntsR(σ:Sg):List (Value×Value)->List MapEntry->Prop
 | nil:EntsR σ [] []
 | cons {k v:Value} {e:MapEntry} {es:List (Value×Value)} {fs:List MapEntry} (hk:VR σ k e.key) (hv:VR σ v e.val) (h:EntsR σ es fs):EntsR σ ((k,v)::es) (e::fs)
structure MapR(σ:Sg)(es:List (Value×Value))(ents:Array MapEntry)(clock:Nat):Prop where
 born:∀ e∈ents.toList,e.born<clock
 nodup:(ents.toList.map (·.born)).Nodup
 perm:∃ p:List MapEntry,p.Perm ents.toList/\EntsR σ es p
structure IterR(σ:Sg)(left:List (Value×Value))(cur:Option (Value×Value))(ents:Array MapEntry)(seen:Array Nat):Prop where
 left:∃ p:List MapEntry,p.Perm (ents.toList.filter fun e=>!seen.contains e.born)/\EntsR σ left p
 cur:∀ c,cur=some c->∃ e∈ents.toList,seen.back?=some e.born/\VR σ c.1 e.key/\VR σ c.2 e.val
def OR(σ:Sg)(h:AH)(o:AObj)(l:Loc)(w:World):Prop:=
 match o with
 | .row vs ty es ro=>∃ cs el frz,w.heap[l.blk]?=some (.cells cs el frz)/\RowR σ vs ty es ro l cs el frz
 | .map es _=>∃ ents clock,w.heap[l.blk]?=some (.map ents clock)/\MapR σ es ents clock
 | .iter none _ _ _=>∃ since seen last,w.heap[l.blk]?=some (.mapIter none since seen last)/\l.base=0
 | .iter (some m) ver left cur=>∃ lm since seen last,σ m=some lm/\(w.heap[l.blk]?=some (.mapIter (some lm.blk) since seen last)/\l.base=0) ∧
   ∀ es v',h.get m=some (.map es v')->ver<=v'/\(v'=ver->∃ ents,w.heap[lm.blk]?=some (.map ents since)/\last=since/\IterR σ left cur ents seen)
 | .loop st pend T ps aas body _=>∃ r:Loop,w.heap[l.blk]?=some (.loop r)/\r.state=st/\r.pending=pend/\r.params.toList=ps/\r.assign=aas/\r.body=body ∧
   TmR σ T r.tmps/\fits T.n aas=true/\fits T.n body=true/\ps.all (fun d=>Nat.ble (d+1) T.n)=true
 | .defd=>w.heap[l.blk]?=some (.deferred (some []))
structure HR(lo:Nat)(σ:Sg)(h:AH)(w:World):Prop where
 dom:∀ b l,σ b=some l->b<h.qa
 qb:∀ b,h.qa<=b->h.get b=none
 live:∀ b o,h.get b=some o->∃ l,σ b=some l/\OR σ h o l w/\(zin o=false->lo<=l.blk)
 inj:∀ b b' o o' l l',h.get b=some o->h.get b'=some o'->σ b=some l->σ b'=some l'->l.blk=l'.blk->b≠b'->zin o=true/\zin o'=true
 lo:lo<=w.heap.size
theorem EntsR.mono{σ τ:Sg}(le:Sg.le σ τ):∀ {es:List (Value×Value)} {fs:List MapEntry},EntsR σ es fs->EntsR τ es fs
 | _,_,.nil=>.nil
 | _,_,.cons hk hv h=>.cons (hk.mono le) (hv.mono le) (EntsR.mono le h)
theorem RowR.mono{σ τ:Sg}(le:Sg.le σ τ){vs ty es ro l cs el frz}(h:RowR σ vs ty es ro l cs el frz):RowR τ vs ty es ro l cs el frz:=
 ⟨h.size,fun i v e=>let ⟨v',a,b⟩:=h.cell i v e;⟨v',a,b.mono le⟩,h.free,h.elt,h.fixed,h.grown⟩
theorem MapR.mono{σ τ:Sg}(le:Sg.le σ τ){es ents clock}(h:MapR σ es ents clock):MapR τ es ents clock:=
 ⟨h.born,h.nodup,let ⟨p,a,b⟩:=h.perm;⟨p,a,b.mono le⟩⟩
theorem IterR.mono{σ τ:Sg}(le:Sg.le σ τ){left cur ents seen}(h:IterR σ left cur ents seen):IterR τ left cur ents seen:=
 ⟨let ⟨p,a,b⟩:=h.left;⟨p,a,b.mono le⟩,fun c e=>let ⟨x,a,b,k,v⟩:=h.cur c e;⟨x,a,b,k.mono le,v.mono le⟩⟩
theorem OR.mono{σ τ:Sg}{h h':AH}{o:AObj}{l:Loc}{w w':World}(H:OR σ h o l w)(le:Sg.le σ τ)(hb:w'.heap[l.blk]?=w.heap[l.blk]?)
  (hm:∀ m es v lm,h'.get m=some (.map es v)->σ m=some lm->h.get m=some (.map es v)/\w'.heap[lm.blk]?=w.heap[lm.blk]?):OR τ h' o l w':=by
 cases o with
 | row vs ty es ro=>obtain⟨cs,el,frz,a,b⟩:=H;exact⟨cs,el,frz,hb.trans a,b.mono le⟩
 | map es v=>obtain⟨ents,clock,a,b⟩:=H;exact⟨ents,clock,hb.trans a,b.mono le⟩
 | iter m ver left cur=>
  cases m with
  | none=>obtain⟨a,b,c,d,d0⟩:=H;exact⟨a,b,c,hb.trans d,d0⟩
  | some m=>
   obtain⟨lm,since,seen,last,a,b,c⟩:=H;refine⟨lm,since,seen,last,le _ _ a,⟨hb.trans b.1,b.2⟩,fun es v' e=>?_⟩;obtain⟨e1,e2⟩:=hm m es v' lm e a;obtain⟨c1,c2⟩:=c es v' e1;exact⟨c1,fun ev=>let ⟨ents,x,y,z⟩:=c2 ev;⟨ents,e2.trans x,y,z.mono le⟩⟩
 | loop st pend T ps aas body d=>obtain⟨r,a,b1,b2,b3,b4,b5,b6,b7⟩:=H;exact⟨r,hb.trans a,b1,b2,b3,b4,b5,b6.mono le,b7⟩
 | defd=>exact hb.trans H
def Sg.ext(σ:Sg)(b:Nat)(l:Loc):Sg:=fun c=>if c=b then some l else σ c
theorem Sg.le_ext{σ:Sg}{b:Nat}{l:Loc}(h:σ b=none):Sg.le σ (σ.ext b l):=by
 intro c m e;unfold Sg.ext;by_cases hc:c=b
 ·subst hc;rw[h] at e;cases e
 ·rw[if_neg hc];exact e
@[simp] theorem Sg.ext_self(σ:Sg)(b:Nat)(l:Loc):(σ.ext b l) b=some l:=by simp[Sg.ext]
theorem HR.free{lo:Nat}{σ:Sg}{h:AH}{w:World}(H:HR lo σ h w):σ h.qa=none:=by
 cases e:σ h.qa with
 | none=>rfl
 | some l=>have:=H.dom _ _ e;omega
theorem zBC{w:World}{o:Obj}(k:Nat):(w.alloc o).heap[k]?=if k=w.heap.size then some o else w.heap[k]?:=by
 show (w.heap.push o)[k]?=_;rw[Array.getElem?_push]
theorem zJG(w:World)(o:Obj):(w.alloc o).heap.size=w.heap.size+1:=Array.size_push ..
theorem zDL{B:Nat}(w:World)(o:Obj)(hB:B<=w.heap.size):Below B w (w.alloc o):=
 ⟨rfl,rfl,rfl,by rw[zJG];omega,fun k hk=>by rw[zBC,if_neg (by omega)]⟩
theorem zAr{w:World}{k:Nat}{o:Obj}(h:w.heap[k]?=some o):k<w.heap.size:=by
 rcases Nat.lt_or_ge k w.heap.size with h'|h'
 ·exact h'
 ·rw[Array.getElem?_eq_none h'] at h;cases h
theorem OR.blk_lt{σ:Sg}{h:AH}{o:AObj}{l:Loc}{w:World}(H:OR σ h o l w):l.blk<w.heap.size:=by
 cases o with
 | row vs ty es ro=>obtain⟨cs,el,frz,a,b⟩:=H;exact zAr a
 | map es v=>obtain⟨ents,clock,a,b⟩:=H;exact zAr a
 | iter m ver left cur=>
  cases m with
  | none=>obtain⟨a,b,c,d,_⟩:=H;exact zAr d
  | some m=>obtain⟨lm,since,seen,last,a,⟨b,_⟩,c⟩:=H;exact zAr b
 | loop st pend T ps aas body d=>obtain⟨r,a,_⟩:=H;exact zAr a
 | defd=>exact zAr H
theorem HR.new{lo:Nat}{σ:Sg}{h:AH}{w:World}(H:HR lo σ h w)(o:AObj)(ob:Obj)(l:Loc)(hl:l.blk=w.heap.size)
  (ho:OR (σ.ext h.qa l) (h.new o) o l (w.alloc ob)):HR lo (σ.ext h.qa l) (h.new o) (w.alloc ob):=by
 have le:Sg.le σ (σ.ext h.qa l):=Sg.le_ext H.free;have old:∀ k,k<w.heap.size->(w.alloc ob).heap[k]?=w.heap[k]?:=fun k hk=>by rw[zBC,if_neg (by omega)]
 refine⟨?_,?_,?_,?_,?_⟩
 ·intro b m e;unfold Sg.ext at e;split at e
  ·rename_i hb;subst hb;simp
  ·have:=H.dom _ _ e;simp;omega
 ·intro b hb;rw[AH.get_new];simp at hb;rw[if_neg (by omega)];exact H.qb b (by omega)
 ·intro b x e;rw[AH.get_new] at e;by_cases hb:b=h.qa
  ·subst hb;rw[if_pos rfl] at e;cases e;exact⟨l,by simp,ho,fun _=>by rw[hl];exact H.lo⟩
  ·rw[if_neg hb] at e;obtain⟨m,a,c,d⟩:=H.live b x e;refine⟨m,le _ _ a,c.mono le (old _ c.blk_lt) (fun i es v lm hi hs=>?_),d⟩;rw[AH.get_new] at hi;have ai:i≠h.qa:=by intro e;subst e;rw[H.free] at hs;cases hs
   rw[if_neg ai] at hi;obtain⟨lm',a',c',_⟩:=H.live i _ hi;rw[hs] at a';cases a';exact⟨hi,old _ c'.blk_lt⟩
 ·intro b b' o1 o2 l1 l2 e1 e2 s1 s2 be ah;rw[AH.get_new] at e1 e2;unfold Sg.ext at s1 s2;by_cases hb:b=h.qa
  ·subst hb;rw[if_pos rfl] at s1;cases s1;rw[if_neg (fun e=>ah e.symm)] at e2 s2;obtain⟨m,a,c,d⟩:=H.live b' _ e2;rw[s2] at a;cases a;have:=c.blk_lt;omega
  ·rw[if_neg hb] at e1 s1;by_cases ao:b'=h.qa
   ·subst ao;rw[if_pos rfl] at s2;cases s2;obtain⟨m,a,c,d⟩:=H.live b _ e1;rw[s1] at a;cases a;have:=c.blk_lt;omega
   ·rw[if_neg ao] at e2 s2;exact H.inj b b' o1 o2 l1 l2 e1 e2 s1 s2 be ah
 ·have:=H.lo;rw[zJG];omega
def World.put(w:World)(k:Nat)(o:Obj):World:={ w with heap:=w.heap.setIfInBounds k o }
theorem World.put_get{w:World}{k:Nat}{o:Obj}(hk:k<w.heap.size)(j:Nat):(World.put w k o).heap[j]?=if j=k then some o else w.heap[j]?:=by
 unfold World.put;simp only[Array.getElem?_setIfInBounds];by_cases e:k=j
 ·subst e;simp[hk]
 ·rw[if_neg e,if_neg (fun h=>e h.symm)]
theorem zEd{B:Nat}{w:World}{k:Nat}(o:Obj)(hB:B<=k):Below B w (World.put w k o):=by
 refine⟨rfl,rfl,rfl,Nat.le_of_eq (by simp[World.put]),fun j hj=>?_⟩;unfold World.put;simp only[Array.getElem?_setIfInBounds];rw[if_neg (by omega)]
theorem zPI(w:World)(k:Nat)(o:Obj):(World.put w k o).heap.size=w.heap.size:=by simp[World.put]
theorem OR.move{σ τ:Sg}{h h':AH}{o:AObj}{l:Loc}{w w':World}(H:OR σ h o l w)(le:Sg.le σ τ)(hb:w'.heap[l.blk]?=w.heap[l.blk]?)
  (hni:∀ m ver left cur,o≠.iter (some m) ver left cur):OR τ h' o l w':=by
 cases o with
 | row vs ty es ro=>obtain⟨cs,el,frz,a,b⟩:=H;exact⟨cs,el,frz,hb.trans a,b.mono le⟩
 | map es v=>obtain⟨ents,clock,a,b⟩:=H;exact⟨ents,clock,hb.trans a,b.mono le⟩
 | iter m ver left cur=>
  cases m with
  | none=>obtain⟨a,b,c,d,d0⟩:=H;exact⟨a,b,c,hb.trans d,d0⟩
  | some m=>exact absurd rfl (hni _ _ _ _)
 | loop st pend T ps aas body d=>obtain⟨r,a,b1,b2,b3,b4,b5,b6,b7⟩:=H;exact⟨r,hb.trans a,b1,b2,b3,b4,b5,b6.mono le,b7⟩
 | defd=>exact hb.trans H
theorem HR.upd{lo:Nat}{σ:Sg}{h:AH}{w:World}(H:HR lo σ h w){b:Nat}{o o':AObj}{l:Loc}(ob:Obj)(hb:h.get b=some o)(hs:σ b=some l)(c6:zin o=false)
  (hk:∀ es v,o'=.map es v->∃ es0 v0,o=.map es0 v0/\v0<v) (ho:OR σ (h.upd b (some o')) o' l (World.put w l.blk ob)):HR lo σ (h.upd b (some o')) (World.put w l.blk ob):=by
 obtain⟨l0,a0,c0,d0⟩:=H.live b o hb;rw[hs] at a0;cases a0;have ab:=c0.blk_lt;have old:∀ j,j≠l.blk->(World.put w l.blk ob).heap[j]?=w.heap[j]?:=fun j hj=>by rw[World.put_get ab,if_neg hj]
 refine⟨?_,?_,?_,?_,?_⟩
 ·intro c m e;exact H.dom c m e
 ·intro c hc;rw[AH.get_upd,if_neg]
  ·exact H.qb c hc
  ·intro e;subst e;rw[H.qb _ hc] at hb;cases hb
 ·intro c x e;rw[AH.get_upd] at e;by_cases hc:c=b
  ·subst hc;rw[if_pos rfl] at e;cases e;exact⟨l,hs,ho,fun _=>d0 c6⟩
  ·rw[if_neg hc] at e;obtain⟨m,a,k,d⟩:=H.live c x e;have ah:m.blk≠l.blk:=by
    intro hh;have:=(H.inj c b x o m l e hb a hs hh hc).2;rw[c6] at this;cases this
   refine⟨m,a,?_,d⟩;cases x with
   | iter mm ver left cur=>
    cases mm with
    | none=>obtain⟨q1,q2,q3,q4,q5⟩:=k;exact⟨q1,q2,q3,(old _ ah).trans q4,q5⟩
    | some mm=>
     obtain⟨lm,since,seen,last,k1,k2,k3⟩:=k;refine⟨lm,since,seen,last,k1,⟨(old _ ah).trans k2.1,k2.2⟩,fun es v' hg=>?_⟩;rw[AH.get_upd] at hg;by_cases jh:mm=b
     ·subst jh;rw[if_pos rfl] at hg;cases hg;obtain⟨es0,v0,e0,hv⟩:=hk es v' rfl;subst e0;obtain⟨g1,g2⟩:=k3 es0 v0 hb;exact⟨by omega,fun ev=>by omega⟩
     ·rw[if_neg jh] at hg;obtain⟨g1,g2⟩:=k3 es v' hg;refine⟨g1,fun ev=>?_⟩;obtain⟨ents,q1,q2,q3⟩:=g2 ev;have dX:lm.blk≠l.blk:=by
       intro hh;have:=(H.inj mm b _ o lm l hg hb k1 hs hh jh).2;rw[c6] at this;cases this
      exact⟨ents,(old _ dX).trans q1,q2,q3⟩
   | row=>exact OR.move k (Sg.le_refl σ) (old _ ah) (by intros;intro e;cases e)
   | map=>exact OR.move k (Sg.le_refl σ) (old _ ah) (by intros;intro e;cases e)
   | loop=>exact OR.move k (Sg.le_refl σ) (old _ ah) (by intros;intro e;cases e)
   | defd=>exact OR.move k (Sg.le_refl σ) (old _ ah) (by intros;intro e;cases e)
 ·intro c c' o1 o2 l1 l2 e1 e2 s1 s2 be ah;rw[AH.get_upd] at e1 e2;by_cases hc:c=b
  ·subst hc;rw[if_neg (fun e=>ah e.symm)] at e2;rw[if_pos rfl] at e1;have:=(H.inj c c' o o2 l1 l2 hb e2 s1 s2 be ah).1;rw[c6] at this;cases this
  ·rw[if_neg hc] at e1;by_cases aH:c'=b
   ·subst aH;have:=(H.inj c c' o1 o l1 l2 e1 hb s1 s2 be ah).2;rw[c6] at this;cases this
   ·rw[if_neg aH] at e2;exact H.inj c c' o1 o2 l1 l2 e1 e2 s1 s2 be ah
 ·have:=H.lo;rw[zPI];exact this
theorem HR.kill{lo:Nat}{σ:Sg}{h:AH}{w:World}(H:HR lo σ h w)(b:Nat):HR lo σ (h.upd b none) w:=by
 have sub:∀ c x,(h.upd b none).get c=some x->h.get c=some x:=fun c x e=>by
  rw[AH.get_upd] at e;split at e
  ·cases e
  ·exact e
 refine⟨H.dom,fun c hc=>?_,fun c x e=>?_,fun c c' o1 o2 l1 l2 e1 e2=>H.inj c c' o1 o2 l1 l2 (sub _ _ e1) (sub _ _ e2),H.lo⟩
 ·rw[AH.get_upd];split
  ·rfl
  ·exact H.qb c hc
 ·obtain⟨l,a,k,d⟩:=H.live c x (sub c x e);refine⟨l,a,OR.mono k (Sg.le_refl σ) rfl (fun m es v lm hm _=>⟨sub _ _ hm,rfl⟩),d⟩
structure zCg(E:Env):Prop where
 ty:∀ t i,E.tab.ty.get t=some i->∃ info,E.prog.info? t=some info/\E.prog.underlying t=some i.desc/\info.size=i.size/\info.bytes=i.bytes/\info.zero=i.zero ∧
  i.agg=(match i.desc with | .struct _=>true | .array _ _=>true|_=>false)
 zero:∀ t i z,E.tab.ty.get t=some i->i.zero=some z->zEZ 4 z=true
 fn:∀ f g,E.tab.fn.get f=some g->E.prog.funcs[f]?=some g/\(∀ c,g.body=some c->fits g.ntmps c=true)
 name:∀ f g c,E.tab.fn.get f=some g->g.body=some c->(g.name=="runtime.NumGoroutine")=false
 mixed:E.prog.follows .mixedOrders=true
 depth:2<=E.prog.depth
variable {E:Env} (hE:zCg E)
section types
include hE
theorem zBW{t:TypeId}{d:TypeDesc}(h:und E t=some d):E.prog.underlying t=some d:=by
 unfold und at h;split at h
 ·rename_i i hi;cases h;obtain⟨info,a,b,_⟩:=hE.ty t i hi;exact b
 ·cases h
theorem zCN{t:TypeId}{n:Nat}(h:zAg E t=some n):∃ info,E.prog.info? t=some info/\info.size=n:=by
 unfold zAg at h;split at h
 ·rename_i i hi;cases h;obtain⟨info,a,b,c,d,e,f⟩:=hE.ty t i hi;exact⟨info,a,c⟩
 ·cases h
theorem zAG{t:TypeId}{n:Nat}(h:zAg E t=some n)(w:World):(sizeOf t).run E.prog w=.ok n w:=by
 obtain⟨info,a,b⟩:=zCN hE h;unfold sizeOf;rw[Sem.run_bind,run_typeInfo w a];simp[b]
theorem zr{t:TypeId}{d:TypeDesc}(h:und E t=some d)(w:World):(underlying t).run E.prog w=.ok d w:=run_underlying (zBW hE h) w
theorem zFk{t:TypeId}{z:Value}(h:zAL E t=some z)(w:World):(zeroValue t).run E.prog w=.ok z w:=by
 unfold zAL at h;split at h
 ·rename_i i hi;obtain⟨info,a,b,c,d,e,f⟩:=hE.ty t i hi;unfold zeroValue;rw[Sem.run_bind,run_typeInfo w a];simp[e,h]
 ·cases h
theorem zC5{t:TypeId}{z:Value}(h:zAL E t=some z):zEZ 4 z=true:=by
 unfold zAL at h;split at h
 ·rename_i i hi;exact hE.zero t i z hi h
 ·cases h
theorem zBm{t e:TypeId}(h:zEc E t=some e):und E t=some (.slice e):=by
 unfold zEc at h;split at h
 ·rename_i e' he;cases h;exact he
 ·cases h
end types
theorem zFS{w:World}{k:Nat}{cs:Array Value}{el:TypeId}{frz:Nat×Nat}(h:w.heap[k]?=some (.cells cs el frz))(o:Nat):w.cell? ⟨k,o,none⟩=cs[o]?:=by
 simp[World.cell?,h]
theorem zBq(b o i:Nat):(⟨b,o,none⟩:Addr).add i=⟨b,o+i,none⟩:=by
 unfold Addr.add;split <;> simp_all
theorem zGU{P:Program}{σ:Sg}{vs:List Value}{ty es:Nat}{ro:Bool}{l:Loc}{cs:Array Value}{el:TypeId}{frz:Nat×Nat}{w:World}
  (hw:w.heap[l.blk]?=some (.cells cs el frz)) (hr:RowR σ vs ty es ro l cs el frz) (o n:Nat) (hn:((vs.drop o).take n).length=n) :
  ∃ us:List Value,(loadCells ⟨l.blk,l.base+o,none⟩ n).run P w=.ok us.toArray w/\us.length=n/\VRs σ ((vs.drop o).take n) us:=by
 have hlen:n=0\/o+n<=vs.length:=by
  rw[List.length_take,List.length_drop] at hn;omega
 let us:=(List.range n).map fun j=>cs.getD (l.base+o+j) undef
 have aj:∀ j,j<n->∃ v,vs[o+j]?=some v/\∃ v',cs[l.base+o+j]?=some v'/\VR σ v v':=by
  intro j hj;have:o+j<vs.length:=by omega
  obtain⟨v',a,b⟩:=hr.cell (o+j) vs[o+j] (xAA this);exact⟨_,xAA this,v',by rw[Nat.add_assoc];exact a,b⟩
 refine⟨us,?_,by simp[us],VRs.of_get (by simp[us,hn]) ?_⟩
 ·have:=run_loadCells (P:=P) w ⟨l.blk,l.base+o,none⟩ n (fun j=>cs.getD (l.base+o+j) undef) (fun j hj=>by
   rw[zBq,zFS hw];obtain⟨v,_,v',a,_⟩:=aj j hj;rw[a,Array.getD_eq_getD_getElem?,a];rfl)
  exact this
 ·intro k a b ha hb;have hk:k<n:=by
   rcases Nat.lt_or_ge k n with h|h
   ·exact h
   ·rw[List.getElem?_eq_none (by rw[hn];exact h)] at ha;cases ha
  obtain⟨v,hv,v',ay,iT⟩:=aj k hk;rw[List.getElem?_take_of_lt hk,List.getElem?_drop,hv] at ha;cases ha;simp only[us,List.getElem?_map,List.getElem?_range hk,Option.map_some,xAN] at hb;rw[Array.getD_eq_getD_getElem?,ay] at hb;simp at hb;rw[← hb];exact iT
include hE in
theorem zPa{lo:Nat}{σ:Sg}{h:AH}{w:World}(H:HR lo σ h w){t:TypeId}{v v' x:Value}(hv:VR σ v v')(hl:zE2 E t v h=some x) :
  ∃ x',(Instr.loadAt t v').run E.prog w=.ok x' w/\VR σ x x':=by
 unfold zE2 at hl;split at hl;rotate_left
 ·cases hl
 rename_i b o;cases hv with
 | ptr o hσ=>
 rename_i l;split at hl;rotate_left
 ·cases hl
 rename_i vs ty es ro hb;obtain⟨l',a,⟨cs,el,frz,hw,hr⟩,_⟩:=H.live b _ hb;rw[hσ] at a;cases a;split at hl;rotate_left
 ·cases hl
 rename_i i hi;obtain⟨info,i1,i2,i3,i4,i5,i6⟩:=hE.ty t i hi;unfold Instr.loadAt Instr.sureAddr loadVar;split at hl
 ·
  rename_i bA;simp only[zAo,zAt,zAR] at hl;split at hl;rotate_left
  ·cases hl
  rename_i hlen;cases hl;rw[beq_true] at hlen;obtain⟨us,u1,u2,u3⟩:=zGU (P:=E.prog) hw hr o i.size hlen;refine⟨.agg us.toArray,?_,.agg (by simpa using u3)⟩;have ix:(isAgg t).run E.prog w=.ok true w:=by
   unfold isAgg;rw[Sem.run_bind,run_underlying i2];simp only[Result.andThen_ok];cases dC:i.desc <;> rw[dC] at i6 <;> first|rfl|(rw[i6] at bA;cases bA)
  have hsz:(sizeOf t).run E.prog w=.ok i.size w:=zAG hE (by unfold zAg;unfold zCs at hi;rw[hi]) w;simp only[Sem.run_bind,Sem.run_pure,Result.andThen_ok,ix,if_true,hsz,u1]
 ·rename_i bA;rw[zA2] at hl;obtain⟨x',c1,c2⟩:=hr.cell o x hl;refine⟨x',?_,c2⟩;have aj:w.cell? ⟨l.blk,l.base+o,none⟩=some x':=by rw[zFS hw];exact c1
  have ix:(isAgg t).run E.prog w=.ok false w:=by
   unfold isAgg;rw[Sem.run_bind,run_underlying i2];simp only[Result.andThen_ok];cases dC:i.desc <;> rw[dC] at i6 <;> first|rfl|exact absurd i6 bA
  simp only[Sem.run_bind,Sem.run_pure,Result.andThen_ok,ix,Bool.false_eq_true,if_false,run_load,aj]
theorem zKh{v:Value}(h:zq v=true):v.oneCell'=true:=by cases v <;> first|rfl|cases h
theorem zGN{w:World}{g:Nat}{cur cs:Array Value}{t:TypeId}{fr:Nat×Nat}(hg:w.heap[g]?=some (.cells cur t fr)):w.setRow g cs=World.put w g (.cells cs t fr):=by
 have ab:g<w.heap.size:=zAr hg;unfold World.setRow World.put
 congr 1
 apply Array.ext
 ·simp
 ·intro i h1 h2;rw[Array.getElem_modify];by_cases e:g=i
  ·subst e;have:w.heap[g]=.cells cur t fr:=(Array.getElem?_eq_some_iff.1 hg).2;simp[this]
  ·rw[Array.getElem_setIfInBounds]
   ·simp[e]
   ·simpa using h1
theorem zDx{P:Program}{σ:Sg}{vs us us':List Value}{ty es:Nat}{l:Loc}{cs:Array Value}{el:TypeId}{frz:Nat×Nat}{w:World}
  (hw:w.heap[l.blk]?=some (.cells cs el frz)) (hr:RowR σ vs ty es false l cs el frz) (o:Nat) (hu:VRs σ us us') (ci:us.all zq=true) (hn:o+us.length<=vs.length) :
  ∃ cs':Array Value,(storeCells ⟨l.blk,l.base+o,none⟩ us').run P w=.ok () (World.put w l.blk (.cells cs' el frz))/\RowR σ (lput vs o us) ty es false l cs' el frz:=by
 have hf:=hr.free rfl;subst hf;have hlen:=hu.length;have hb:l.base+o+0+us'.length<=cs.size:=by have:=hr.size;omega
 have h1:∀ v∈us',v.oneCell'=true:=by
  intro v hv;obtain⟨k,hk⟩:=List.mem_iff_getElem?.1 hv;have ab:k<us.length:=by
   rcases Nat.lt_or_ge k us.length with h|h
   ·exact h
   ·rw[List.getElem?_eq_none (by omega)] at hk;cases hk
  obtain⟨b,bN,bz⟩:=hu.get (xAA ab);rw[hk] at bN;cases bN;apply zKh;rw[bz.leaf];exact List.all_eq_true.1 ci _ (List.getElem_mem ab)
 have aU:=run_storeCells_at (P:=P) l.blk (l.base+o) el us' 0 cs w hw hb h1;rw[zGN hw] at aU;refine⟨_,aU,?_⟩;have hsz:(cs.toList.take (l.base+o+0)++us'++cs.toList.drop (l.base+o+0+us'.length)).toArray.size=cs.size:=by simp;omega
 refine⟨?_,?_,hr.free,hr.elt,?_,?_⟩
 ·rw[hsz,zD0];exact hr.size
 ·intro i v hi;rw[zFz _ _ _ _ hn] at hi;have gT:∀ j,(cs.toList.take (l.base+o+0)++us'++cs.toList.drop (l.base+o+0+us'.length))[j]? =
    if l.base+o<=j/\j<l.base+o+us'.length then us'[j-(l.base+o)]? else cs[j]?:=by
   intro j;rw[List.getElem?_append,List.getElem?_append,List.length_append,List.length_take];have hm:min (l.base+o+0) cs.toList.length=l.base+o:=by simp;omega
   rw[hm];by_cases h1:j<l.base+o+us'.length
   ·rw[if_pos h1];by_cases h2:j<l.base+o
    ·rw[if_pos h2,if_neg (by omega),List.getElem?_take_of_lt (by omega),Array.getElem?_toList]
    ·rw[if_neg h2,if_pos (by omega)]
   ·rw[if_neg h1,if_neg (by omega),List.getElem?_drop,Array.getElem?_toList]
    congr 1;omega
  rw[List.getElem?_toArray,gT];split at hi
  ·rename_i hc;rw[if_pos (by omega)];obtain⟨b,bN,bz⟩:=hu.get hi;exact⟨b,by rw[← bN];congr 1;omega,bz⟩
  ·rename_i hc;have hiv:i<vs.length:=by
    rcases Nat.lt_or_ge i vs.length with h|h
    ·exact h
    ·rw[List.getElem?_eq_none h] at hi;cases hi
   rw[if_neg (by omega)];exact hr.cell i v hi
 ·intro e r;obtain⟨a,b⟩:=hr.fixed e r;exact⟨a,by rw[hsz,zD0];exact b⟩
 ·intro e;obtain⟨a,b⟩:=hr.grown e;exact⟨a,by rw[hsz];exact b⟩
theorem HR.updRow{lo:Nat}{σ:Sg}{h:AH}{w:World}(H:HR lo σ h w){b:Nat}{vs vs':List Value}{ty es:Nat}{ro':Bool}{l:Loc}{cs':Array Value}{el:TypeId}{frz:Nat×Nat}
  (hb:h.get b=some (.row vs ty es false)) (hs:σ b=some l) (hr:RowR σ vs' ty es ro' l cs' el frz) :
  HR lo σ (h.upd b (some (.row vs' ty es ro'))) (World.put w l.blk (.cells cs' el frz))/\Below lo w (World.put w l.blk (.cells cs' el frz)):=by
 obtain⟨l0,a0,c0,d0⟩:=H.live b _ hb;rw[hs] at a0;cases a0;refine⟨H.upd _ hb hs rfl (by intros;rename_i e;cases e) ?_,zEd _ (d0 rfl)⟩;exact⟨cs',el,frz,by rw[World.put_get c0.blk_lt,if_pos rfl],hr⟩
include hE in
theorem zUC{lo:Nat}{σ:Sg}{h h':AH}{w:World}(H:HR lo σ h w){t:TypeId}{v v' x x':Value}(hv:VR σ v v')(hx:VR σ x x')(hl:zJF E t v x h=some h') :
  ∃ w',(Instr.storeAt t v' x').run E.prog w=.ok () w'/\HR lo σ h' w'/\Below lo w w':=by
 unfold zJF at hl;split at hl;rotate_left
 ·cases hl
 rename_i b o;cases hv with
 | ptr o hσ=>
 rename_i l;split at hl;rotate_left
 ·cases hl
 rename_i vs ty es hb;obtain⟨l',a,⟨cs,el,frz,hw,hr⟩,_⟩:=H.live b _ hb;rw[hσ] at a;cases a;simp only at hl;split at hl;rotate_left
 ·cases hl
 rename_i s hs;split at hl;rotate_left
 ·cases hl
 rename_i hc;simp only[xAP,beq_true,ble_true,zAR] at hc;obtain⟨⟨c1,c2⟩,c3⟩:=hc;cases hl;have cQ:=hx.cells;obtain⟨cs',r1,r2⟩:=zDx (P:=E.prog) hw hr o cQ c3 (by omega);obtain⟨q1,q2⟩:=H.updRow hb hσ r2;refine⟨_,?_,q1,q2⟩;unfold Instr.storeAt Instr.sureAddr storeVar;have hsz:x'.cells.size=s:=by have:=cQ.length;simp at this;omega
 simp only[Sem.run_bind,Sem.run_pure,Result.andThen_ok,zAG hE hs,hsz,ne_eq,not_true_eq_false,if_false,r1]
end Go.AM
namespace Go.AM
open Go Go.Proofs Go.RowKit
variable {E:Env} (hE:zCg E)
theorem zQw{P:Program}{α:Type}:∀ {s:Sem α} {a:α},zAU P s=some a->∀ w,s.run P w=.ok a w:=by
 intro s
 induction s with
 | pure a=>intro b h w;simp only[zAU,xAN] at h;subst h;rfl
 | program k ih=>intro b h w;simp only[zAU] at h;exact ih P h w
 | mark m k ih=>intro b h w;simp only[zAU] at h;exact ih h w
 | _=>intro b h;simp[zAU] at h
def zIt(σ:Sg)(T:Tm)(a:Act)(xs:List Operand):Prop:=∀ t,Operand.tmp t∈xs->VR σ (T.get t) (a.tmps.getD t undef)
section
variable {σ:Sg} {T:Tm} {a:Act} {xs:List Operand}
theorem zAM(h:zIt σ T a xs){x:Operand}(hx:x∈xs){v:Value}(e:zAl T x=some v):VR σ v (a.eval x):=by
 cases x with
 | tmp t=>simp only[zAl,xAN] at e;subst e;exact h t hx
 | const c=>
  simp only[zAl] at e;split at e
  ·rename_i hc;cases e;exact VR.of_isFlat hc
  ·cases e
 | global g=>simp[zAl] at e
 | func f=>simp only[zAl,xAN] at e;subst e;exact .func f .nil .nil
theorem zI3(h:zIt σ T a xs){x:Operand}(hx:x∈xs)(e:zl T x=true):a.eval x=rho T x:=by
 cases x with
 | tmp t=>exact VR.eq_of_isFlat e (h t hx)
 | const c=>rfl
 | global g=>simp[zl] at e
 | func f=>rfl
theorem zEt(h:zIt σ T a xs):∀ {ys:List Operand},(∀ y∈ys,y∈xs)->∀ {vs:List Value},zBl T ys=some vs->VRs σ vs (ys.map a.eval)
 | [],_,vs,e=>by simp only[zBl,xAN] at e;subst e;exact .nil
 | y::ys,hy,vs,e=>by
  simp only[zBl] at e;split at e
  ·rename_i v vs' e1 e2;cases e;exact .cons (zAM h (hy y (by simp)) e1) (zEt h (fun z hz=>hy z (by simp[hz])) e2)
  ·cases e
inductive zJ1(σ:Sg):List (Nat×Value)->List (Nat×Value)->Prop
 | nil:zJ1 σ [] []
 | cons (i:Nat) {v v':Value} {l l':List (Nat×Value)} (h:VR σ v v') (hs:zJ1 σ l l'):zJ1 σ ((i,v)::l) ((i,v')::l')
theorem zKZ(h:zIt σ T a xs):∀ {ys:List (Nat×Operand)},(∀ y∈ys,y.2∈xs)->∀ {vs:List (Nat×Value)},zHE T ys=some vs->zJ1 σ vs (ys.map fun (i,x)=>(i,a.eval x))
 | [],_,vs,e=>by simp only[zHE,xAN] at e;subst e;exact .nil
 | (i,y)::ys,hy,vs,e=>by
  simp only[zHE] at e;split at e
  ·rename_i v vs' e1 e2;cases e;exact .cons i (zAM h (hy (i,y) (by simp)) e1) (zKZ h (fun z hz=>hy z (by simp[hz])) e2)
  ·cases e
def zQI(P:Program)(o:Oper)(a:Act)(v:Value):Prop:=∀ w,(execOp a.eval o).run P w=.ok (.value v) w
theorem zCP(h:zIt σ T a xs){o:Oper}(ho:o.op.operands.toList=xs){v:Value}(e:zBY E T o=some v):∃ v',zQI E.prog o a v'/\VR σ v v':=by
 unfold zBY at e;cases hc:(o.op.operands.toList.all (zl T)&&zDD o.op) with
 | false=>rw[hc] at e;cases e
 | true=>
  rw[hc] at e;simp only[xAP,List.all_eq_true] at hc;simp only[xAG] at e;split at e
  ·rename_i u hu;cases hf:zg u with
   | false=>rw[hf] at e;cases e
   | true=>
    rw[hf] at e;simp only[xAG,xAN] at e;subst e;refine⟨u,fun w=>?_,VR.of_isFlat hf⟩;have eT:execOp a.eval o=execOp (rho T) o:=by
     refine execOp_congr o (fun cs b hs=>?_) (fun x hx=>zI3 h ?_ (hc.1 x ?_))
     ·rw[hs] at hc;simp[zDD] at hc
     ·rw[← ho];exact Array.mem_toList_iff.2 hx
     ·exact Array.mem_toList_iff.2 hx
    rw[eT];exact zQw hu w
  ·cases e
theorem zEW(a b:Int):ieq a b=(a==b):=by
 cases a <;> cases b <;> simp only[ieq]
 ·rw[Bool.eq_iff_iff,beq_true,beq_iff_eq];exact⟨fun h=>congrArg _ h,fun h=>Int.ofNat.inj h⟩
 ·rw[eq_comm];rw[beq_eq_false_iff_ne];intro h;cases h
 ·rw[eq_comm];rw[beq_eq_false_iff_ne];intro h;cases h
 ·rw[Bool.eq_iff_iff,beq_true,beq_iff_eq];exact⟨fun h=>congrArg _ h,fun h=>Int.negSucc.inj h⟩
theorem zEu(m:Nat):Int.ofNat m=(m:Int):=rfl
theorem zGd(a b:Int):ile a b=decide (a<=b):=by
 cases a with
 | ofNat m=>cases b with
  | ofNat n=>simp only[ile];rw[Bool.eq_iff_iff,ble_true];simp
  | negSucc n=>simp only[ile];rw[eq_comm,decide_eq_false_iff_not,zEu];intro h;omega
 | negSucc m=>cases b with
  | ofNat n=>simp only[ile];rw[eq_comm,decide_eq_true_eq,zEu];omega
  | negSucc n=>simp only[ile];rw[Bool.eq_iff_iff,ble_true];simp;omega
theorem zFc(k:IntKind)(n:Int):zCM k n=k.wrap n:=by
 have key:∀ m:Int,-9223372036854775808<=m->m<=9223372036854775807->IntKind.wrap .i64 m=m:=by
  intro m h1 h2;rw[IntKind.wrap_i64];omega
 unfold zCM;split
 ·split
  ·rename_i h;rw[ble_true] at h;exact (key _ (by rw[zEu];omega) (by rw[zEu];omega)).symm
  ·rfl
 ·split
  ·rename_i h;rw[ble_true] at h;exact (key _ (by omega) (by omega)).symm
  ·rfl
 ·rfl
theorem zOJ{k l:IntKind}(h:keq k l=true):k=l:=by
 unfold keq at h;split at h <;> first|rfl|exact of_decide_eq_true h
theorem zVJ{P:Program}{op:BinOp}{k:IntKind}{x y:Int}{v:Value}(e:zPi op k x y=some v)(t:TypeId)(w:World):(binOp op t (.int k x) (.int k y)).run P w=.ok v w:=by
 cases op <;> simp only[zPi,xAN,reduceCtorEq] at e <;> subst e <;>
  simp[binOp,Op.intArith,Op.intCmp,zFc,zEW,zGd]
 all_goals first|(rw[Bool.eq_iff_iff];simp;done)|omega|skip
theorem zDZ:∀ {xs ys:List Value} {r:Bool},zBG xs ys=some r->(∀ v∈xs,∃ k n,v=.int k n)/\(∀ v∈ys,∃ k n,v=.int k n)/\xs.length=ys.length
 | [],[],r,_=>by simp
 | [],_::_,_,h=>by simp[zBG] at h
 | v::vs,[],_,h=>by cases v <;> simp[zBG] at h
 | v::vs,u::us,r,h=>by
  cases v <;> cases u <;> simp only[zBG,reduceCtorEq] at h;rename_i k n l m;split at h;rotate_left
  ·cases h
  have:∃ r',zBG vs us=some r':=by
   split at h
   ·exact⟨_,h⟩
   ·split at h
    ·rename_i r' bG;exact⟨_,bG⟩
    ·cases h
  obtain⟨r',bG⟩:=this;obtain⟨a,b,c⟩:=zDZ bG;refine⟨fun v hv=>?_,fun v hv=>?_,by simp[c]⟩
  ·rcases List.mem_cons.1 hv with rfl|hv
   ·exact⟨_,_,rfl⟩
   ·exact a v hv
  ·rcases List.mem_cons.1 hv with rfl|hv
   ·exact⟨_,_,rfl⟩
   ·exact b v hv
theorem VRs.ints{σ:Sg}:∀ {xs xs':List Value},VRs σ xs xs'->(∀ v∈xs,∃ k n,v=.int k n)->xs'=xs
 | _,_,.nil,_=>rfl
 | a::aas,b::bs,.cons h hs,H=>by
  obtain⟨k,n,e⟩:=H a (List.mem_cons_self ..);subst e;cases h;rw[VRs.ints hs fun v hv=>H v (List.mem_cons_of_mem _ hv)]
theorem zEG{P:Program}{e:TypeId}{kd:IntKind}(he:P.underlying e=some (.int kd))(hs:P.cellsOf e=1)(d:Nat) :
  ∀(n o:Nat) (xs ys:Array Value) (r:Bool),zBG ((xs.toList.drop o).take n) ((ys.toList.drop o).take n)=some r->o+n<=xs.size->o+n<=ys.size->∀ w:World,
   (Op.eqItems (d+1) e 1 xs ys (List.range' o n)).run P w=.ok r w
 | 0,o,xs,ys,r,h,_,_,w=>by simp[zBG] at h;subst h;simp[Op.eqItems]
 | n+1,o,xs,ys,r,h,h1,h2,w=>by
  have hx:o<xs.size:=by omega
  have hy:o<ys.size:=by omega
  rw[List.drop_eq_getElem_cons (l:=xs.toList) (by simpa using hx),List.drop_eq_getElem_cons (l:=ys.toList) (by simpa using hy)] at h;simp only[List.take_succ_cons,Array.getElem_toList] at h;have ex:∀ v,xs[o]=v->xs[o]?=some v:=fun v e=>by rw[Array.getElem?_eq_getElem hx,e]
  have ey:∀ v,ys[o]=v->ys[o]?=some v:=fun v e=>by rw[Array.getElem?_eq_getElem hy,e]
  generalize xs[o]=u at h ex;generalize ys[o]=v at h ey
  replace ex:=ex _ rfl
  replace ey:=ey _ rfl
  cases u <;> cases v <;> simp only[zBG,reduceCtorEq] at h;rename_i k m k' m';split at h;rotate_left
  ·cases h
  rename_i hk;obtain rfl:=zOJ hk;have bA:(isAgg e).run P w=.ok false w:=by unfold isAgg;rw[Sem.run_bind,run_underlying he];rfl
  have dM:∀(zs:Array Value) (z:Value),zs[o]?=some z->(part e zs (o*1)).run P w=.ok z w:=by
   intro zs z hz;unfold part;simp only[Sem.run_bind,bA,Result.andThen_ok,Bool.false_eq_true,if_false,Nat.mul_one,hz];rfl
  have di:(Op.equalIn (d+1) e (.int k m) (.int k m')).run P w=.ok (m==m') w:=by
   simp[Op.equalIn,run_underlying he]
  simp only[List.range'_succ,Op.eqItems,Sem.run_bind,dM xs _ ex,dM ys _ ey,Result.andThen_ok,di];rw[zEW] at h;by_cases hm:(m==m')=true
  ·rw[if_pos hm] at h;simp only[hm,xAL,Bool.false_eq_true,if_false];exact zEG he hs d n (o+1) xs ys r h (by omega) (by omega) w
  ·rw[if_neg hm] at h;have fg:(m==m')=false:=by simpa using hm
   split at h
   ·cases h;simp[fg]
   ·cases h
include hE in
theorem zE9{t e:TypeId}{n:Nat}{kd:IntKind}(ht:und E t=some (.array n e))(he:und E e=some (.int kd))(h1:zAg E e=some 1){xs ys:Array Value}{r:Bool}
  (hr:zBG xs.toList ys.toList=some r) (hn:xs.size=n) (w:World):(Op.equal t (.agg xs) (.agg ys)).run E.prog w=.ok r w:=by
 obtain⟨info,hi,hsz⟩:=zCN hE h1;have hc:E.prog.cellsOf e=1:=by simp[Program.cellsOf,hi,hsz]
 obtain⟨_,_,hlen⟩:=zDZ hr;unfold Op.equal Op.maxDepth;rw[run_equalIn_array w 9999 xs ys (zBW hE ht) hi,hc,List.range_eq_range'];exact zEG (zBW hE he) hc 9998 n 0 xs ys r (by rw[List.drop_zero,List.drop_zero,xAD (by simp;omega),xAD (by simp at hlen ⊢;omega)];exact hr) (by omega) (by simp at hlen;omega) w
theorem zHG{P:Program}{t e:TypeId}{n:Nat}{kd:IntKind}(ht:P.underlying t=some (.array n e))(he:P.underlying e=some (.int kd)):P.eqGuardType P.depth t=false:=by
 obtain⟨d,hd⟩:∃ d,P.depth=d+2:=⟨2*(P.types.size+Made.depth),by simp[Program.depth]⟩;rw[hd];simp[Program.eqGuardType,ht,he]
include hE in
theorem zVe{t:TypeId}{xs ys:Array Value}{r:Bool}(h:zJo E t xs.toList ys.toList=some r) :
  E.prog.eqGuardType E.prog.depth t=false/\(∀ w,(Op.equal t (.agg xs) (.agg ys)).run E.prog w=.ok r w)/\zBG xs.toList ys.toList=some r:=by
 unfold zJo zkQ at h;split at h;rotate_left
 ·cases h
 rename_i n hn;split at hn;rotate_left
 ·cases hn
 rename_i m e hm;split at hn;rotate_left
 ·cases hn
 rename_i kd he h1;cases hn;cases hc:Nat.beq (zBH xs.toList) n with
 | false=>rw[hc] at h;cases h
 | true=>
  rw[hc] at h;simp only[xAG] at h;rw[beq_true,zAR] at hc;exact⟨zHG (zBW hE hm) (zBW hE he),fun w=>zE9 hE hm he h1 h (by simpa using hc) w,h⟩
include hE in
theorem zRg{op:BinOp}{t:TypeId}{x y:Operand}(hx:x∈xs)(hy:y∈xs)(h:zIt σ T a xs){v:Value}(e:zC E op t (rho T x) (rho T y)=some v)
  {o:Oper} {yt:TypeId} (ho:o.op=.binOp op t x y yt):zQI E.prog o a v/\VR σ v v:=by
 have cz:∀ {z:Operand},z∈xs->∀ u,rho T z=u->(∃ k n,u=.int k n)\/(∃ c,u=.agg c/\∀ v∈c.toList,∃ k n,v=.int k n)->a.eval z=u:=by
  intro z hz u hu hc;have hv:VR σ u (a.eval z):=by
   cases z with
   | tmp t=>rw[← hu];exact h t hz
   | const c=>
    have:c=u:=hu;subst this;rcases hc with ⟨k,n,rfl⟩|⟨c,rfl,hc⟩
    ·exact .int k n
    ·exact .agg (VRs.refl_of fun v hv=>by obtain⟨k,n,rfl⟩:=hc v hv;exact .int k n)
   | global g=>
    have:Value.pointer (some ⟨g,0,none⟩)=u:=hu;rcases hc with ⟨k,n,rfl⟩|⟨c,rfl,hc⟩ <;> cases this
   | func f=>
    have:Value.func (.func f) #[] #[]=u:=hu;rcases hc with ⟨k,n,rfl⟩|⟨c,rfl,hc⟩ <;> cases this
  generalize a.eval z=q at hv ⊢;rcases hc with ⟨k,n,rfl⟩|⟨c,rfl,hc⟩
  ·cases hv;rfl
  ·cases hv with
   | agg hv=>rw[Array.toList_inj.1 (VRs.ints hv hc)]
 unfold zC at e;split at e
 ·rename_i k m l n ex ey;cases hk:keq k l with
  | false=>rw[hk] at e;cases e
  | true=>
   rw[hk] at e;obtain rfl:=zOJ hk;simp only[xAG] at e;have e1:=cz hx _ ex (.inl ⟨_,_,rfl⟩);have e2:=cz hy _ ey (.inl ⟨_,_,rfl⟩);refine⟨fun w=>?_,?_⟩
   ·have hr:=zVJ (P:=E.prog) e t w;simp only[execOp,ho,e1,e2,Sem.run_bind,eqGuard];have hg:∀(op:BinOp),(if (!match op with | .eql=>true | .neq=>true|_=>false)=true then (pure ():Sem Unit) else pure ()).run E.prog w=.ok () w:=by intro op;split <;> rfl
    split <;> simp[hr]
   ·cases op <;> simp only[zPi,xAN,reduceCtorEq] at e <;> subst e <;> constructor
 ·rename_i c d ex ey;cases hr:zJo E t c.toList d.toList with
  | none=>rw[hr] at e;cases op <;> simp at e
  | some r=>
   obtain⟨g1,g2,g3⟩:=zVe hE hr;obtain⟨i1,i2,i3⟩:=zDZ g3;have e1:=cz hx _ ex (.inr ⟨c,rfl,i1⟩);have e2:=cz hy _ ey (.inr ⟨d,rfl,i2⟩);rw[hr] at e;cases op <;> simp only[xAN,reduceCtorEq] at e <;> subst e
   all_goals
    refine⟨fun w=>?_,.bool _⟩;simp[execOp,ho,e1,e2,eqGuard,g1,binOp,g2]
 ·cases e
include hE in
theorem zoB{x y x' y':Value}{r:Bool}{t:TypeId}(hx:VR σ x x')(hy:VR σ y y')(e:eqV E t x y=some r)(w:World) :
  (Op.equal t x' y').run E.prog w=.ok r w/\(∀ op,op=.eql\/op=.neq->∀ p q:Operand,(eqGuard op t p q x' y').run E.prog w=.ok () w):=by
 have eg:∀ u v:Value,(∀ c d,¬ (u=.agg c/\v=.agg d))->¬ (u=.nilIface/\v=.nilIface)->∀ op,op=.eql\/op=.neq->∀ p q:Operand,(eqGuard op t p q u v).run E.prog w=.ok () w:=by
  intro u v h1 h2 op hop p q;unfold eqGuard;rcases hop with rfl|rfl <;>
  ·simp only[xAL,Bool.false_eq_true,if_false];split
   ·exact absurd ⟨rfl,rfl⟩ h2
   ·exact absurd ⟨rfl,rfl⟩ (h1 _ _)
   ·rfl
 unfold eqV at e;unfold Op.equal;obtain⟨dd,dC⟩:∃ dd,Op.maxDepth=dd+1:=⟨9999,rfl⟩;rw[dC];clear dC;split at e
 ·rename_i el b hu;cases e;cases hx;have hn:∃ b',y'=.pointer b'/\b'.isNone=b.isNone:=by cases hy <;> exact⟨_,rfl,rfl⟩
  obtain⟨b',rfl,ao⟩:=hn;exact⟨by simp[Op.equalIn,zr hE hu,ao],eg _ _ (by simp) (by simp)⟩
 ·rename_i el a hu;cases e;cases hy;have hn:∃ a',x'=.pointer (some a'):=by cases hx;exact⟨_,rfl⟩
  obtain⟨a',rfl⟩:=hn;exact⟨by simp[Op.equalIn,zr hE hu],eg _ _ (by simp) (by simp)⟩
 ·rename_i el a b hu;unfold zoC at e;split at e;rotate_left
  ·cases e
  rename_i s hs;cases hc:Nat.beq a.block b.block with
  | false=>rw[hc] at e;cases e
  | true=>
   rw[hc] at e;simp only[xAG,xAN] at e;rw[beq_true] at hc;cases hx with
   | ptr o1 h1=>
   cases hy with
   | ptr o2 h2=>
   simp only at hc;subst hc;rw[h1] at h2;cases h2;rename_i l;refine⟨?_,eg _ _ (by simp) (by simp)⟩;simp only[Op.equalIn,Sem.run_bind,zr hE hu,Result.andThen_ok,zAG hE hs];rw[Sem.run_ite,if_pos (by omega)];unfold sameAddr;simp only[xAO,if_true,Sem.run_pure]
   congr 1
   subst e;rw[Bool.eq_iff_iff,beq_true,beq_iff_eq];simp
 ·rename_i el n c b m d hu;cases e;cases hx;have hn:∃ b' m' d',y'=.slice b' m' d'/\b'.isNone=b.isNone:=by cases hy <;> exact⟨_,_,_,rfl,rfl⟩
  obtain⟨b',m',d',rfl,ao⟩:=hn;exact⟨by simp[Op.equalIn,zr hE hu,ao],eg _ _ (by simp) (by simp)⟩
 ·rename_i el a n c m d hu;cases e;cases hy;have hn:∃ b' m' d',x'=.slice (some b') m' d':=by cases hx <;> exact⟨_,_,_,rfl⟩
  obtain⟨b',m',d',rfl⟩:=hn;exact⟨by simp[Op.equalIn,zr hE hu],eg _ _ (by simp) (by simp)⟩
 ·rename_i k el b hu;cases e;cases hx;have hn:∃ b',y'=.map b'/\b'.isNone=b.isNone:=by cases hy <;> exact⟨_,rfl,rfl⟩
  obtain⟨b',rfl,ao⟩:=hn;exact⟨by simp[Op.equalIn,zr hE hu,ao],eg _ _ (by simp) (by simp)⟩
 ·rename_i k el a hu;cases e;cases hy;have hn:∃ a',x'=.map (some a'):=by cases hx;exact⟨_,rfl⟩
  obtain⟨a',rfl⟩:=hn;exact⟨by simp[Op.equalIn,zr hE hu],eg _ _ (by simp) (by simp)⟩
 ·rename_i hu;cases e;cases hx;cases hy;exact⟨by simp[Op.equalIn,zr hE hu],eg _ _ (by simp) (by simp)⟩
 ·rename_i hu;cases e;cases hx;have hn:∃ f b c,y'=.func f b c:=by cases hy <;> exact⟨_,_,_,rfl⟩
  obtain⟨f,b,c,rfl⟩:=hn;exact⟨by simp[Op.equalIn,zr hE hu],eg _ _ (by simp) (by simp)⟩
 ·rename_i hu;cases e;cases hy;have hn:∃ f b c,x'=.func f b c:=by cases hx <;> exact⟨_,_,_,rfl⟩
  obtain⟨f,b,c,rfl⟩:=hn;exact⟨by simp[Op.equalIn,zr hE hu],eg _ _ (by simp) (by simp)⟩
 ·cases e
theorem VRs.lnth{u u':List Value}(h:VRs σ u u'){k:Nat}{v:Value}(e:AM.lnth u k=some v):∃ v',u'[k]?=some v'/\VR σ v v':=by
 rw[zA2] at e;exact h.get e
include hE in
theorem zPO{t:TypeId}{cs cs':List Value}(h:VRs σ cs cs'){off:Nat}{v:Value}(e:zed E t cs off=some v) :
  ∃ v',(∀ w,(part t ⟨cs'⟩ off).run E.prog w=.ok v' w)/\VR σ v v':=by
 unfold zed at e;split at e;rotate_left
 ·cases e
 rename_i i hi;obtain⟨info,i1,i2,i3,i4,i5,i6⟩:=hE.ty t i hi;cases bA:i.agg with
 | true=>
  rw[bA] at e;simp only[xAG,zAo,zAt,zAR] at e;cases hl:Nat.beq (((cs.drop off).take i.size).length) i.size with
  | false=>rw[hl] at e;cases e
  | true=>
   rw[hl] at e;simp only[xAG,xAN] at e;subst e;refine⟨.agg ⟨(cs'.drop off).take i.size⟩,fun w=>?_,.agg ((h.drop off).take i.size)⟩;have ix:(isAgg t).run E.prog w=.ok true w:=by
    unfold isAgg;rw[Sem.run_bind,run_underlying i2];simp only[Result.andThen_ok];cases dC:i.desc <;> rw[dC] at i6 <;> first|rfl|(rw[i6] at bA;cases bA)
   have hsz:(sizeOf t).run E.prog w=.ok i.size w:=zAG hE (by unfold zAg;unfold zCs at hi;rw[hi]) w;unfold part;simp only[Sem.run_bind,ix,Result.andThen_ok,if_true,hsz,Sem.run_pure]
   congr 2
   apply Array.ext';rw[Array.toList_extract];simp[List.extract_eq_take_drop]
 | false=>
  rw[bA] at e;simp only[xAH] at e;obtain⟨v',a1,a2⟩:=h.lnth e;refine⟨v',fun w=>?_,a2⟩;have ix:(isAgg t).run E.prog w=.ok false w:=by
   unfold isAgg;rw[Sem.run_bind,run_underlying i2];simp only[Result.andThen_ok];cases dC:i.desc <;> rw[dC] at i6 <;> first|rfl|(rw[i6] at bA;cases bA)
  unfold part;simp only[Sem.run_bind,ix,Result.andThen_ok,Bool.false_eq_true,if_false];rw[show (⟨cs'⟩:Array Value)[off]?=some v' from by rw[← a1];simp];rfl
theorem zCu{v v':Value}{k:Nat}(h:VR σ v v')(e:zEe v=some k):∃ kd,v'=.int kd (k:Int):=by
 unfold zEe at e;split at e
 ·split at e
  ·cases e;cases h;exact⟨_,rfl⟩
  ·cases e
 ·cases e
include hE in
theorem zUl{t:TypeId}{f:Nat}{x x':Value}(h:VR σ x x'){v:Value}(e:zLi E t f (some x)=some v):∃ v',(∀ w,(Instr.field t x' f).run E.prog w=.ok v' w)/\VR σ v v':=by
 unfold zLi at e;split at e;rotate_left
 ·cases e
 rename_i cs fs h1 h2;cases h1;split at e;rotate_left
 ·cases e
 rename_i fd hfd;cases h with
 | agg h=>
 rename_i b;obtain⟨v',a1,a2⟩:=zPO hE h e;refine⟨v',fun w=>?_,a2⟩;unfold Instr.field;rw[zA2,Array.getElem?_toList] at hfd;simp only[Sem.run_bind,zr hE h2,Result.andThen_ok,hfd,asAgg,Sem.run_pure];exact a1 w
include hE in
theorem zUk{t:TypeId}{x x' i i':Value}(h:VR σ x x')(hi:VR σ i i'){v:Value}(e:zDC E t (some x) (some i)=some v) :
  ∃ v',(∀ w,(Instr.index t x' i').run E.prog w=.ok v' w)/\VR σ v v':=by
 unfold zDC at e;split at e
 ·rename_i s j h1 h2 hu;cases h1;cases h2;unfold zi8 at e;split at e;rotate_left
  ·cases e
  rename_i k hk;obtain⟨kd,rfl⟩:=zCu hi hk;split at e;rotate_left
  ·cases e
  rename_i b hb;cases e;cases h;refine⟨_,fun w=>?_,.int _ _⟩;rw[zA2,Array.getElem?_toList] at hb;have ao:s[k]?=some b:=hb;unfold Instr.index;simp[asIntOf,zr hE hu,ao]
 ·rename_i cs j n el h1 h2 hu;cases h1;cases h2;unfold ziz at e;split at e;rotate_left
  ·cases e
  rename_i k s hk aQ;obtain⟨kd,rfl⟩:=zCu hi hk;cases hc:Nat.ble (k+1) n with
  | false=>rw[hc] at e;cases e
  | true=>
   rw[hc] at e;simp only[xAG] at e;rw[ble_true] at hc;cases h with
   | agg h=>
   obtain⟨v',a1,a2⟩:=zPO hE h e;refine⟨v',fun w=>?_,a2⟩;unfold Instr.index;simp only[asIntOf,Sem.run_bind,Sem.run_pure,Result.andThen_ok,zr hE hu];rw[Sem.run_ite,if_pos (by omega)];simp only[Sem.run_bind,zAG hE aQ,Result.andThen_ok,Int.toNat_natCast];exact a1 w
 ·cases e
include hE in
theorem zKu{t:TypeId}{f:Nat}{x x':Value}(h:VR σ x x'){v:Value}(e:zGi E t x f=some v):∃ v',(∀ w,(Instr.fieldAt t x' f).run E.prog w=.ok v' w)/\VR σ v v':=by
 unfold zGi at e;split at e;rotate_left
 ·cases e
 rename_i fs ad hu;split at e;rotate_left
 ·cases e
 rename_i fd hfd;split at e;rotate_left
 ·cases e
 rename_i s hs;cases e;cases h with
 | ptr o hσ=>
 rename_i b l;refine⟨_,fun w=>?_,.ptr (o+fd.offset) hσ⟩;rw[zA2,Array.getElem?_toList] at hfd;unfold Instr.fieldAt Instr.sureAddr fieldPlace;simp only[Sem.run_bind,zr hE hu,Result.andThen_ok,hfd,Sem.run_pure,zAG hE hs];rw[Sem.run_ite,if_neg (by omega),Sem.run_pure];simp only[Result.andThen_ok,zBq,Nat.add_assoc]
include hE in
theorem zKm{t:TypeId}{x x' i i':Value}(h:VR σ x x')(hi:VR σ i i'){v:Value}(e:zDl E t x i=some v) :
  ∃ v',(∀ w,(Instr.indexAt t x' i').run E.prog w=.ok v' w)/\VR σ v v':=by
 unfold zDl at e;split at e
 ·rename_i el ad len cap k hu hk;obtain⟨kd,rfl⟩:=zCu hi hk;split at e;rotate_left
  ·cases e
  rename_i size hs;cases hc:Nat.ble (k+1) len with
  | false=>rw[hc] at e;cases e
  | true=>
   rw[hc] at e;simp only[xAG,xAN] at e;subst e;rw[ble_true] at hc;have key:∀(b:Nat) (l:Loc) (o c:Nat),σ b=some l->ad=⟨b,o,none⟩->x'=.slice (some ⟨l.blk,l.base+o,none⟩) len c->
     ∃ v',(∀ w,(Instr.indexAt t x' (.int kd (k:Int))).run E.prog w=.ok v' w)/\VR σ (.pointer (some ⟨ad.block,ad.off+k*size,none⟩)) v':=by
    intro b l o c hσ e1 e2;subst e1;subst e2;refine⟨_,fun w=>?_,.ptr (o+k*size) hσ⟩;unfold Instr.indexAt;simp only[asIntOf,Sem.run_bind,Sem.run_pure,Result.andThen_ok,zr hE hu];rw[Sem.run_ite,if_pos (by omega)];simp only[Sem.run_bind,zAG hE hs,Result.andThen_ok,Int.toNat_natCast,Sem.run_pure,zBq,Nat.add_assoc]
   cases h with
   | slice o n c hσ aH=>exact key _ _ _ _ hσ rfl rfl
   | sliceU o n c hσ aH hn=>exact key _ _ _ _ hσ rfl rfl
   | sliceS a=>omega
 ·rename_i n el ad k hu hk;obtain⟨kd,rfl⟩:=zCu hi hk;split at e;rotate_left
  ·cases e
  rename_i size hs;cases hc:Nat.ble (k+1) n with
  | false=>rw[hc] at e;cases e
  | true=>
   rw[hc] at e;simp only[xAG,xAN] at e;subst e;rw[ble_true] at hc;cases h with
   | ptr o hσ=>
   refine⟨_,fun w=>?_,.ptr (o+k*size) hσ⟩;unfold Instr.indexAt Instr.sureAddr;simp only[asIntOf,Sem.run_bind,Sem.run_pure,Result.andThen_ok,zr hE hu];rw[Sem.run_ite,if_pos (by omega)];simp only[Sem.run_bind,zAG hE hs,Result.andThen_ok,Int.toNat_natCast,Sem.run_pure,zBq,Nat.add_assoc]
 ·cases e
end
end Go.AM
namespace Go.AM
open Go Go.Proofs Go.RowKit
variable {E:Env} (hE:zCg E) {σ:Sg} {T:Tm} {a:Act} {xs:List Operand}
inductive zQb(σ:Sg):Option Value->Option Value->Prop
 | none:zQb σ none none
 | some {v v':Value} (h:VR σ v v'):zQb σ (some v) (some v')
theorem zA5{P:Program}{kd:IntKind}{k y:Nat}(h:k<=y)(c:BoundsCode)(w:World):(Instr.sliceBound (.int kd (k:Int)) y c).run P w=.ok k w:=by
 unfold Instr.sliceBound;simp only[asIntOf,Sem.run_bind,Sem.run_pure,Result.andThen_ok];rw[Sem.run_ite,if_pos (by omega)];simp
theorem zHO{v v':Option Value}(h:zQb σ v v'){d k:Nat}(e:zFs v d=some k):(v'=none/\k=d)\/∃ kd,v'=some (.int kd (k:Int)):=by
 cases h with
 | none=>simp only[zFs,xAN] at e;exact .inl ⟨rfl,e.symm⟩
 | some h=>obtain⟨kd,rfl⟩:=zCu h e;exact .inr ⟨kd,rfl⟩
theorem zIP{P:Program}{lo hi lo' cu:Option Value}(hl:zQb σ lo lo')(hh:zQb σ hi cu){b:Bool}{len cap l h:Nat}(el:zFs lo 0=some l)(eh:zFs hi len=some h)(h1:l<=h)(h2:h<=cap)(w:World) :
  (Instr.sliceBounds b len cap lo' cu none).run P w=.ok (l,h,cap) w:=by
 unfold Instr.sliceBounds;rcases zHO hl el with ⟨rfl,rfl⟩|⟨k1,rfl⟩ <;> rcases zHO hh eh with ⟨rfl,rfl⟩|⟨k2,rfl⟩ <;>
  simp[zA5 h1,zA5 h2]
set_option linter.unusedSimpArgs false in
theorem zK2{P:Program}{lo hi lo' cu:Option Value}(hl:zQb σ lo lo')(hh:zQb σ hi cu){b:Bool}{len cap l h m:Nat}{km:IntKind}(el:zFs lo 0=some l)(eh:zFs hi len=some h)(hhi:hi≠none)(h1:l<=h)(h2:h<=m)(h3:m<=cap)(w:World) :
  (Instr.sliceBounds b len cap lo' cu (some (.int km (m:Int)))).run P w=.ok (l,h,m) w:=by
 unfold Instr.sliceBounds;rcases zHO hl el with ⟨rfl,rfl⟩|⟨k1,rfl⟩ <;> rcases zHO hh eh with ⟨rfl,rfl⟩|⟨k2,rfl⟩
 ·cases hh;exact absurd rfl hhi
 ·simp[zA5 h1,zA5 h2,zA5 h3]
 ·cases hh;exact absurd rfl hhi
 ·simp[zA5 h1,zA5 h2,zA5 h3]
theorem zBD{t el:TypeId}{P:Program}(hu:P.underlying t=some (.slice el)){size:Nat}(hs:∀ w,(sizeOf el).run P w=.ok size w){ad:Option Addr}{len cap l h m:Nat}{lo hi mx:Option Value}
  (hb:∀ w,(Instr.sliceBounds true len cap lo hi mx).run P w=.ok (l,h,m) w) (w:World) :
  (Instr.sliceAt t (.slice ad len cap) lo hi mx).run P w=.ok (.slice (if m=l then ad else ad.map (·.add (l*size))) (h-l) (m-l)) w:=by
 unfold Instr.sliceAt;simp only[Sem.run_bind,run_underlying hu,Result.andThen_ok];unfold Instr.slice;simp only[Sem.run_bind,run_underlying hu,Result.andThen_ok,hb w,hs w,Sem.run_pure]
include hE in
theorem zUM{t el:TypeId}(hu:und E t=some (.slice el)){ad:Option Addr}{len cap:Nat}{x':Value}(h:VR σ (.slice ad len cap) x'){lo hi mx lo' cu mx':Option Value}(hl:zQb σ lo lo')(hh:zQb σ hi cu)(hm:zQb σ mx mx')
  (fZ:mx≠none->hi≠none) {v:Value} (e:sliceS E el ad len cap lo hi mx=some v):∃ v',(∀ w,(Instr.sliceAt t x' lo' cu mx').run E.prog w=.ok v' w)/\VR σ v v':=by
 unfold sliceS at e;split at e;rotate_left
 ·cases e
 rename_i size l u hs el' eu;have dH:=zBW hE hu;have aQ:=zAG hE hs;split at e
 ·
  cases hm;unfold zeH at e;cases hc:Nat.ble l u with
  | false=>rw[hc] at e;cases e
  | true=>
  rw[hc] at e;rw[ble_true] at hc;simp only[xAG] at e;cases h with
  | sliceN n c=>
   split at e
   ·simp at e
   ·rename_i hc2;rw[ble_false] at hc2;cases hc3:Nat.ble u cap with
    | false=>rw[hc3] at e;cases e
    | true=>
    rw[hc3] at e;rw[ble_true] at hc3;simp only[xAG,xAN] at e;have:=zIP (P:=E.prog) hl hh (b:=true) el' eu hc hc3;refine⟨_,fun w=>zBD dH aQ this w,?_⟩;subst e;have e1:(if cap=l then (none:Option Addr) else (none:Option Addr).map (fun x=>x.add (l*size)))=none:=by split <;> rfl
    have e2:(cond (Nat.beq cap l) (none:Option Addr) (zF8 none (l*size)))=none:=by cases Nat.beq cap l <;> rfl
    rw[e1,e2];exact .sliceN _ _
  | slice o n c hσ hcU=>
   rename_i b loc;split at e
   ·rename_i hc2;rw[ble_true] at hc2;omega
   ·cases hc3:Nat.ble u cap with
    | false=>rw[hc3] at e;cases e
    | true=>
    rw[hc3] at e;rw[ble_true] at hc3;simp only[xAG,xAN] at e;have:=zIP (P:=E.prog) hl hh (b:=true) el' eu hc hc3;refine⟨_,fun w=>zBD dH aQ this w,?_⟩;subst e;by_cases aG:cap=l
    ·rw[beq_true.2 aG,if_pos aG];exact .slice o _ _ hσ (by omega)
    ·rw[zBn aG,if_neg aG];simp only[xAH,zF8,Option.map_some,zBq,Nat.add_assoc];exact .slice (o+l*size) _ _ hσ (by omega)
  | sliceS a=>
   split at e
   ·rename_i hc2;rw[ble_true] at hc2;unfold UNK at hc2;omega
   ·cases hc3:Nat.ble u 0 with
    | false=>rw[hc3] at e;cases e
    | true=>
    rw[hc3] at e;rw[ble_true] at hc3;simp only[xAG,xAN] at e;obtain rfl:u=0:=by omega
    obtain rfl:l=0:=by omega
    have:=zIP (P:=E.prog) hl hh (b:=true) el' eu hc hc3;refine⟨_,fun w=>zBD dH aQ this w,?_⟩;subst e;rw[if_pos rfl];exact .sliceS a
  | sliceU o n c hσ hcU hn=>
   rename_i b loc;split at e;rotate_left
   ·rename_i hc2;rw[ble_false] at hc2;omega
   cases hc3:((some (⟨b,o,none⟩:Addr)).isSome&&Nat.ble u len&&Nat.beq (UNK+loc.es) (UNK+size)) with
   | false=>rw[hc3] at e;cases e
   | true=>
   rw[hc3] at e;simp only[xAG] at e;simp only[xAP,ble_true,beq_true,Option.isSome_some,true_and] at hc3;have bu:loc.es=size:=by omega
   have:=zIP (P:=E.prog) hl hh (b:=true) el' eu hc (show u<=c by omega);refine⟨_,fun w=>zBD dH aQ this w,?_⟩;cases hc4:Nat.beq l 0 with
   | true=>
    rw[hc4] at e;simp only[xAG,xAN] at e;subst e;rw[beq_true] at hc4;subst hc4;have e1:(if c=0 then some (⟨loc.blk,loc.base+o,none⟩:Addr) else (some (⟨loc.blk,loc.base+o,none⟩:Addr)).map (·.add (0*size)))=some ⟨loc.blk,loc.base+o,none⟩:=by
     split
     ·rfl
     ·simp[zBq]
    rw[e1,Nat.sub_zero,Nat.sub_zero];exact .sliceU o u c hσ hcU (by omega)
   | false=>
    rw[hc4] at e;simp only[xAH] at e;cases hc5:Nat.ble len l with
    | true=>rw[hc5] at e;cases e
    | false=>
     rw[hc5] at e;simp only[xAH,xAN] at e;rw[ble_false] at hc5;subst e;rw[if_neg (by omega)];simp only[zF8,Option.map_some,zBq,Nat.add_assoc];refine .sliceU (o+l*size) (u-l) (c-l) hσ ?_ (by omega);rw[bu,Nat.sub_mul];rw[bu] at hcU;have:l*size<=c*size:=Nat.mul_le_mul_right _ (by omega);omega
 ·
  rename_i mm;split at e;rotate_left
  ·cases e
  rename_i m hmm;cases hm with
  | some hm=>
  obtain⟨km,rfl⟩:=zCu hm hmm;unfold zsp at e;cases hc:(Nat.ble l u&&Nat.ble u m&&cond (Nat.ble UNK cap) (ad.isSome&&Nat.ble m len) (Nat.ble m cap)&&Nat.ble (m+1) UNK) with
  | false=>rw[hc] at e;cases e
  | true=>
  rw[hc] at e;simp only[xAG,xAN] at e;simp only[xAP,ble_true] at hc;obtain⟨⟨⟨h1,h2⟩,h3⟩,h4⟩:=hc;subst e;have fS:∀(b:Nat) (l0:Loc) (o:Nat),σ b=some l0->VR σ (.slice (cond (Nat.beq m l) (some ⟨b,o,none⟩) (zF8 (some ⟨b,o,none⟩) (l*size))) (u-l) (m-l))
    (.slice (if m=l then some ⟨l0.blk,l0.base+o,none⟩ else (some (⟨l0.blk,l0.base+o,none⟩:Addr)).map (fun x=>x.add (l*size))) (u-l) (m-l)):=by
   intro b l0 o hσ;by_cases aG:m=l
   ·rw[beq_true.2 aG,if_pos aG];exact .slice o _ _ hσ (by omega)
   ·rw[zBn aG,if_neg aG];simp only[xAH,zF8,Option.map_some,zBq,Nat.add_assoc];exact .slice (o+l*size) _ _ hσ (by omega)
  cases h with
  | sliceN n c=>
   have h3':m<=cap:=by
    cases hU:Nat.ble UNK cap with
    | true=>rw[hU] at h3;simp at h3
    | false=>rw[hU] at h3;exact ble_true.1 h3
   have:=zK2 (P:=E.prog) hl hh (b:=true) el' eu (fZ (by simp)) h1 h2 h3' (km:=km);refine⟨_,fun w=>zBD dH aQ this w,?_⟩;have e1:(if m=l then (none:Option Addr) else (none:Option Addr).map (fun x=>x.add (l*size)))=none:=by split <;> rfl
   have e2:(cond (Nat.beq m l) (none:Option Addr) (zF8 none (l*size)))=none:=by cases Nat.beq m l <;> rfl
   rw[e1,e2];exact .sliceN _ _
  | slice o n c hσ hcU=>
   rw[ble_false.2 hcU] at h3;have:=zK2 (P:=E.prog) hl hh (b:=true) el' eu (fZ (by simp)) h1 h2 (ble_true.1 h3) (km:=km);exact⟨_,fun w=>zBD dH aQ this w,fS _ _ _ hσ⟩
  | sliceS a=>
   have h3':m<=0:=by
    cases hU:Nat.ble UNK 0 with
    | true=>rw[ble_true] at hU;unfold UNK at hU;omega
    | false=>rw[hU] at h3;exact ble_true.1 h3
   obtain rfl:m=0:=by omega
   obtain rfl:u=0:=by omega
   obtain rfl:l=0:=by omega
   have:=zK2 (P:=E.prog) hl hh (b:=true) el' eu (fZ (by simp)) h1 h2 h3' (km:=km);refine⟨_,fun w=>zBD dH aQ this w,?_⟩;rw[if_pos rfl];exact .sliceS a
  | sliceU o n c hσ hcU hn=>
   rw[ble_true.2 (by omega)] at h3;simp only[xAG,xAP,ble_true] at h3;have:=zK2 (P:=E.prog) hl hh (b:=true) el' eu (fZ (by simp)) h1 h2 (show m<=c by omega) (km:=km);exact⟨_,fun w=>zBD dH aQ this w,fS _ _ _ hσ⟩
include hE in
theorem zUL{t:TypeId}{x x':Value}(h:VR σ x x'){lo hi mx lo' cu mx':Option Value}(hl:zQb σ lo lo')(hh:zQb σ hi cu)(hm:zQb σ mx mx')
  (fZ:mx≠none->hi≠none) {v:Value} (e:zEQ E t x lo hi mx=some v):∃ v',(∀ w,(Instr.sliceAt t x' lo' cu mx').run E.prog w=.ok v' w)/\VR σ v v':=by
 unfold zEQ at e;split at e
 ·rename_i el ad len cap hu;exact zUM hE hu h hl hh hm fZ e
 ·rename_i n el ad hu;unfold ziX at e;split at e;rotate_left
  ·cases e
  rename_i size l u hs el' eu;cases hm;cases hc:(Nat.ble l u&&Nat.ble u n&&Nat.ble (n+1) UNK) with
  | false=>rw[hc] at e;cases e
  | true=>
  rw[hc] at e;simp only[xAG,xAN] at e;simp only[xAP,ble_true] at hc;obtain⟨hc,hn⟩:=hc;subst e;cases h with
  | ptr o hσ=>
  rename_i b loc;have hb:=zIP (P:=E.prog) hl hh (b:=false) el' eu hc.1 hc.2
  ·refine⟨.slice (some (if n=l then ⟨loc.blk,loc.base+o,none⟩ else (⟨loc.blk,loc.base+o,none⟩:Addr).add (l*size))) (u-l) (n-l),fun w=>?_,?_⟩
   ·unfold Instr.sliceAt Instr.sureAddr;simp only[Sem.run_bind,zr hE hu,Result.andThen_ok,Sem.run_pure,hb w,zAG hE hs]
   ·by_cases aG:n=l
    ·rw[beq_true.2 aG,if_pos aG];exact .slice o _ _ hσ (by omega)
    ·rw[zBn aG,if_neg aG];simp only[xAH,zF8,zBq,Nat.add_assoc];exact .slice (o+l*size) _ _ hσ (by omega)
 ·cases e
end Go.AM
