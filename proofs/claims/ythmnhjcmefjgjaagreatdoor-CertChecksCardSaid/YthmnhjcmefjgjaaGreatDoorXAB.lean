import Derived.Laws.Append
import Derived.Laws.AppendOwn
import Derived.Lib.UnsafeStr
import Derived.OrdersIn
import Derived.Test.YthmnhjcmefjgjaaGreatDoorXAA
set_option linter.all false
set_option linter.unusedSectionVars false
set_option autoImplicit true
set_option relaxedAutoImplicit true
set_option maxRecDepth 100000
set_option maxHeartbeats 1000000
namespace Go.AM
open Go Go.Proofs Go.RowKit
variable {E:Env} (hE:zCt E) {σ:Sg} {T:Tm} {a:Act} {xs:List Operand}
theorem zE3:∀ {l:List Value},zL5 l=true->∀ v∈l,∃ k n,v=.int k n
 | [],_,v,hv=>by cases hv
 | x::l,h,v,hv=>by
  cases x <;> simp only[zL5,xBX] at h;rcases xCg.1 hv with rfl|hv
  ·exact⟨_,_,rfl⟩
  ·exact zE3 h v hv
theorem zD2{P:Program}{e:TypeId}{kd:IntKind}(he:P.underlying e=some (.int kd)){info:TypeInfo}(hi:P.info? e=some info)(h1:info.size=1)(em:Bool)(n:Nat)(cs:Array Value) :
  ∀(len o:Nat),o+len<=cs.size->(∀ v∈cs.toList,∃ k n,v=.int k n)->∀ w:World,
   (forIn (List.range' o len) PUnit.unit λ i (_:PUnit)=>(do Instr.checkKey em (n+1) e (← part e cs (i*(← sizeOf e)));pure (ForInStep.yield PUnit.unit):Sem (ForInStep PUnit))).run P w=.ok PUnit.unit w
 | 0,o,_,_,w=>by simp
 | len+1,o,h,H,w=>by
  have ho:o<cs.size:=by omega
  obtain⟨k,m,jy⟩:=H cs[o] (by simp);have cD:(isAgg e).run P w=.ok false w:=by unfold isAgg;rw[xCs,run_underlying he];rfl
  have hsz:(sizeOf e).run P w=.ok 1 w:=by unfold sizeOf;rw[xCs,run_typeInfo w hi];simp[h1]
  have fc:(part e cs (o*1)).run P w=.ok (.int k m) w:=by
   unfold part;simp only[xCs,cD,xBj,xBX,xDI,Nat.mul_one];rw[xAa ho,jy];rfl
  have hck:(Instr.checkKey em (n+1) e (.int k m)).run P w=.ok () w:=by
   simp[Instr.checkKey,run_underlying he]
  simp only[List.range'_succ,List.forIn_cons,xCs,hsz,xBj,fc,hck,xCt];exact zD2 he hi h1 em n cs len (o+1) (by omega) H w
include hE in
theorem zLd{kt:TypeId}{k:Value}(h:zEn E kt k=true):(∀ em w,(Instr.checkKey em 10000 kt k).run E.prog w=.ok () w)/\∀ k',VR σ k k'->k'=k:=by
 unfold zEn at h;split at h
 ·rename_i kd n;split at h
  ·rename_i kd' hu;refine⟨λ em w=>?_,λ k' hk=>by cases hk;rfl⟩;obtain⟨d,hd⟩:∃ d,10000=d+1:=⟨9999,rfl⟩;rw[hd];simp[Instr.checkKey,zo hE hu]
  ·cases h
 ·rename_i cs;split at h;rotate_left
  ·cases h
  rename_i n e hu;split at h;rotate_left
  ·cases h
  rename_i kd he hs;simp only[xAP,beq_true,zAL] at h;have aD:=zE3 h.2;refine⟨λ em w=>?_,λ k' hk=>?_⟩
  ·obtain⟨d,hd⟩:∃ d,10000=d+1+1:=⟨9998,rfl⟩;rw[hd];obtain⟨info,i1,i2⟩:=zCV hE hs;have hl:=zD2 (zBN hE he) i1 i2 em d cs n 0 (by have:=h.1;simp at this;omega) aD w;rw[Instr.checkKey];simp only[xCs,zo hE hu,xBj];simp only[Std.Legacy.Range.forIn_eq_forIn_range',Std.Legacy.Range.size,Nat.sub_zero,Nat.add_one_sub_one,Nat.div_one];rw[hl];rfl
  ·cases hk with
   | agg hk=>rw[xCC.1 (VRs.ints hk aD)]
 ·cases h
include hE in
theorem zCg{kt:TypeId}{k k':Value}{r:Bool}(h:zCJ E kt k k'=some r)(_hk:∃ kd,und E kt=some (.int kd)\/∃ n e,und E kt=some (.array n e)) :
  (∀ w,(Op.equal kt k k').run E.prog w=.ok r w)/\(∀ u,VR σ k' u->u=k') ∧
  (∀ kd,und E kt=some (.int kd)->Instr.sameNow (.int kd) k k'=some r)/\(∀ n e,und E kt=some (.array n e)->Instr.sameNow (.array n e) k k'=none):=by
 unfold zCJ at h;split at h
 ·rename_i kk x l y;split at h;rotate_left
  ·cases h
  rename_i kd hu;cases hq:keq kk l with
  | false=>rw[hq] at h;cases h
  | true=>
  rw[hq] at h;obtain rfl:=zPj hq;simp only[xAG,xAN] at h;rw[zEL] at h;refine⟨λ w=>?_,λ u dF=>by cases dF;rfl,λ kd' hkd=>?_,λ n e he=>?_⟩
  ·unfold Op.equal;obtain⟨dd,eU⟩:∃ dd,Op.maxDepth=dd+1:=⟨9999,rfl⟩;rw[eU];simp[Op.equalIn,zo hE hu,h]
  ·simp[Instr.sameNow,h]
  ·rw[hu] at he;cases he
 ·rename_i c d;split at h;rotate_left
  ·cases h
  rename_i n e hu;split at h;rotate_left
  ·cases h
  rename_i kd he hs;cases hq:Nat.beq (zBU c.toList) n with
  | false=>rw[hq] at h;cases h
  | true=>
  rw[hq] at h;simp only[xAG] at h;rw[beq_true,zAL] at hq;obtain⟨q1,q2,q3⟩:=zDp h;refine⟨λ w=>zFZ hE hu he hs h (by simpa using hq) w,λ u dF=>?_,λ kd' hkd=>?_,λ n e he=>?_⟩
  ·cases dF with
   | agg dF=>rw[xCC.1 (VRs.ints dF q2)]
  ·rw[hu] at hkd;cases hkd
  ·rfl
 ·cases h
theorem zGT{P:Program}{kt:TypeId}{k:Value}{β:MapEntry->Bool}:∀ {L:List MapEntry} (i:Nat) (w:World),(∀ e∈L,∀ w,(Op.equal kt k e.key).run P w=.ok (β e) w)->
  ∃ r,(Instr.findAsking kt k L i).run P w=.ok r w/\(match r with|none=>∀ e∈L,β e=false|some (j,v)=>∃ e m,j=i+m/\L[m]?=some e/\β e=true/\v=e.val)
 | [],i,w,H=>⟨none,by simp[Instr.findAsking],by simp⟩
 | e::L,i,w,H=>by
  have h1:=H e (by simp) w;cases hb:β e with
  | true=>
   refine⟨some (i,e.val),?_,e,0,by omega,rfl,hb,rfl⟩;simp[Instr.findAsking,h1,hb]
  | false=>
   obtain⟨r,r1,r2⟩:=zGT (L:=L) (i+1) w λ e' he=>H e' (xBG _ he);refine⟨r,by simp[Instr.findAsking,h1,hb,r1],?_⟩;cases r with
   | none=>
    intro e' he;rcases xCg.1 he with rfl|he
    ·exact hb
    ·exact r2 e' he
   | some p=>
    obtain⟨j,v⟩:=p;obtain⟨e',m,q1,q2,q3,q4⟩:=r2;exact⟨e',m+1,by omega,by simpa using q2,q3,q4⟩
theorem zKh{d:TypeDesc}{k:Value}{β:MapEntry->Bool}:∀ {L:List MapEntry} (i:Nat),(∀ e∈L,Instr.sameNow d k e.key=some (β e))->
  ∃ r,Instr.findNow d k L i=some r/\(match r with|none=>∀ e∈L,β e=false|some (j,v)=>∃ e m,j=i+m/\L[m]?=some e/\β e=true/\v=e.val)
 | [],i,H=>⟨none,rfl,by simp⟩
 | e::L,i,H=>by
  have h1:=H e (by simp);cases hb:β e with
  | true=>
   rw[hb] at h1;exact⟨some (i,e.val),by simp[Instr.findNow,h1],e,0,by omega,rfl,hb,rfl⟩
  | false=>
   rw[hb] at h1;obtain⟨r,r1,r2⟩:=zKh (L:=L) (i+1) λ e' he=>H e' (xBG _ he);refine⟨r,by simp[Instr.findNow,h1,r1],?_⟩;cases r with
   | none=>
    intro e' he;rcases xCg.1 he with rfl|he
    ·exact hb
    ·exact r2 e' he
   | some p=>
    obtain⟨j,v⟩:=p;obtain⟨e',m,q1,q2,q3,q4⟩:=r2;exact⟨e',m+1,by omega,by simpa using q2,q3,q4⟩
theorem zG4{kt:TypeId}{k:Value}(h:zEn E kt k=true):(∃ kd,und E kt=some (.int kd))\/(∃ n e,und E kt=some (.array n e)):=by
 unfold zEn at h;split at h
 ·split at h
  ·rename_i kd hu;exact .inl ⟨_,hu⟩
  ·cases h
 ·split at h
  ·rename_i n e hu;exact .inr ⟨_,_,hu⟩
  ·cases h
 ·cases h
include hE in
theorem zTq{kt:TypeId}{k:Value}(hk:zEn E kt k=true){β:MapEntry->Bool}{L:List MapEntry}(H:∀ e∈L,zCJ E kt k e.key=some (β e))(w:World) :
  ∃ r,(Instr.findKey kt k L).run E.prog w=.ok r w/\(match r with|none=>∀ e∈L,β e=false|some (j,v)=>∃ e,L[j]?=some e/\β e=true/\v=e.val):=by
 have strip:∀ r:Option (Nat×Value),(match r with|none=>∀ e∈L,β e=false|some (j,v)=>∃ e m,j=0+m/\L[m]?=some e/\β e=true/\v=e.val)->
   (match r with|none=>∀ e∈L,β e=false|some (j,v)=>∃ e,L[j]?=some e/\β e=true/\v=e.val):=by
  intro r hr;cases r with
  | none=>exact hr
  | some p=>obtain⟨j,v⟩:=p;obtain⟨e,m,q1,q2,q3,q4⟩:=hr;exact⟨e,by rw[q1,xAK];exact q2,q3,q4⟩
 rcases zG4 hk with ⟨kd,hu⟩|⟨n,e,hu⟩
 ·obtain⟨r,r1,r2⟩:=zKh (d:=.int kd) (k:=k) (β:=β) (L:=L) 0 λ e he=>(zCg (σ:=λ _=>none) hE (H e he) ⟨kd,.inl hu⟩).2.2.1 kd hu;refine⟨r,?_,strip r r2⟩;unfold Instr.findKey;simp[zo hE hu,r1]
 ·cases L with
  | nil=>
   refine⟨none,?_,by simp⟩;unfold Instr.findKey;simp[zo hE hu,Instr.findNow]
  | cons x L=>
   obtain⟨r,r1,r2⟩:=zGT (P:=E.prog) (kt:=kt) (k:=k) (β:=β) (L:=x::L) 0 w λ e he=>(zCg (σ:=λ _=>none) hE (H e he) ⟨.i64,.inr ⟨_,_,hu⟩⟩).1;refine⟨r,?_,strip r r2⟩;have hs:=(zCg (σ:=λ _=>none) hE (H x (by simp)) ⟨.i64,.inr ⟨_,_,hu⟩⟩).2.2.2 n e hu;unfold Instr.findKey;simp[zo hE hu,Instr.findNow,hs,r1]
theorem zCi{kt:TypeId}{k:Value}:∀ {es:List (Value×Value)} {r:Option Value},zAe E kt k es=some r->
  (∀ p∈es,∃ b,zCJ E kt k p.1=some b)/\(r=none->∀ p∈es,zCJ E kt k p.1=some false)/\(∀ v,r=some v->(∃ p∈es,zCJ E kt k p.1=some true)/\∀ p∈es,zCJ E kt k p.1=some true->p.2=v)
 | [],r,h=>by simp only[zAe,xAN] at h;subst h;simp
 | (k',v)::es,r,h=>by
  simp only[zAe] at h;split at h
  ·rename_i h1 h2;cases h;obtain⟨a1,a2,a3⟩:=zCi h2;refine⟨λ p hp=>?_,by simp,λ u hu=>?_⟩
   ·rcases xCg.1 hp with rfl|hp
    ·exact⟨_,h1⟩
    ·exact a1 p hp
   ·cases hu;refine⟨⟨(k',v),by simp,h1⟩,λ p hp gW=>?_⟩;rcases xCg.1 hp with rfl|hp
    ·rfl
    ·rw[a2 rfl p hp] at gW;cases gW
  ·rename_i r' h1 h2;cases h;obtain⟨a1,a2,a3⟩:=zCi h2;refine⟨λ p hp=>?_,λ hr p hp=>?_,λ u hu=>?_⟩
   ·rcases xCg.1 hp with rfl|hp
    ·exact⟨_,h1⟩
    ·exact a1 p hp
   ·rcases xCg.1 hp with rfl|hp
    ·exact h1
    ·exact a2 hr p hp
   ·obtain⟨⟨p,q1,q2⟩,q3⟩:=a3 u hu;refine⟨⟨p,by simp[q1],q2⟩,λ p hp gW=>?_⟩;rcases xCg.1 hp with rfl|hp
    ·rw[h1] at gW;cases gW
    ·exact q3 p hp gW
  ·cases h
theorem EntsR.mem:∀ {es:List (Value×Value)} {L:List MapEntry},EntsR σ es L->∀ e∈L,∃ p∈es,VR σ p.1 e.key/\VR σ p.2 e.val
 | _,_,.nil,e,he=>by cases he
 | _,_,.cons hk hv h,e,he=>by
  rcases xCg.1 he with rfl|he
  ·exact⟨(_,_),xBZ ..,hk,hv⟩
  ·obtain⟨p,q1,q2⟩:=EntsR.mem h e he;exact⟨p,by simp[q1],q2⟩
theorem EntsR.mem':∀ {es:List (Value×Value)} {L:List MapEntry},EntsR σ es L->∀ p∈es,∃ e∈L,VR σ p.1 e.key/\VR σ p.2 e.val
 | _,_,.nil,e,he=>by cases he
 | _,_,.cons hk hv h,p,hp=>by
  rcases xCg.1 hp with rfl|hp
  ·exact⟨_,by simp,hk,hv⟩
  ·obtain⟨e,q1,q2⟩:=EntsR.mem' h p hp;exact⟨e,by simp[q1],q2⟩
include hE in
theorem zLo{kt:TypeId}{k:Value}(hk:zEn E kt k=true){es:List (Value×Value)}{ents:Array MapEntry}{clock:Nat}(hm:MapR σ es ents clock){r:Option Value}(e:zAe E kt k es=some r)(w:World) :
  ∃ r',(Instr.findKey kt k ents.toList).run E.prog w=.ok r' w/\(match r,r' with
   | none,none=>True
   | some v,some (i,v')=>VR σ v v'/\∃ x,ents[i]?=some x/\x.val=v'/\zCJ E kt k x.key=some true
   | _,_=>False):=by
 obtain⟨a1,a2,a3⟩:=zCi e;obtain⟨p,hp,hpe⟩:=hm.perm;have ht:∃ kd,und E kt=some (.int kd)\/∃ n e,und E kt=some (.array n e):=by
  rcases zG4 hk with ⟨kd,h⟩|h
  ·exact⟨kd,.inl h⟩
  ·exact⟨.i64,.inr h⟩
 have key:∀ x∈ents.toList,∃ q∈es,VR σ q.2 x.val/\zCJ E kt k x.key=zCJ E kt k q.1:=by
  intro x hx;obtain⟨q,q1,q2,q3⟩:=hpe.mem x (hp.mem_iff.2 hx);obtain⟨b,hb⟩:=a1 q q1;have:=(zCg (σ:=σ) hE hb ht).2.1 _ q2;exact⟨q,q1,q3,by rw[this]⟩
 obtain⟨r',r1,r2⟩:=zTq hE hk (β:=λ x=>(zCJ E kt k x.key).getD false) (L:=ents.toList) (λ x hx=>by
  obtain⟨q,q1,q2,q3⟩:=key x hx;obtain⟨b,hb⟩:=a1 q q1;rw[q3,hb];rfl) w
 refine⟨r',r1,?_⟩;cases r with
 | none=>
  cases r' with
  | none=>trivial
  | some pr=>
   obtain⟨i,v'⟩:=pr;obtain⟨x,x1,x2,x3⟩:=r2;obtain⟨q,q1,q2,q3⟩:=key x (xBI x1);rw[q3,a2 rfl q q1] at x2;cases x2
 | some v=>
  obtain⟨⟨q0,q01,q02⟩,q03⟩:=a3 v rfl;cases r' with
  | none=>
   obtain⟨x,x1,x2,x3⟩:=hpe.mem' q0 q01;have:=r2 x (hp.mem_iff.1 x1);have hx:=(zCg (σ:=σ) hE q02 ht).2.1 _ x2;rw[hx,q02] at this;cases this
  | some pr=>
   obtain⟨i,v'⟩:=pr;obtain⟨x,x1,x2,x3⟩:=r2;obtain⟨q,q1,q2,q3⟩:=key x (xBI x1);obtain⟨b,hb⟩:=a1 q q1;rw[q3,hb] at x2;simp only[xCH] at x2;subst x2;have:=q03 q q1 hb;subst this;exact⟨by rw[x3];exact q2,x,by rw[xAz] at x1;exact x1,x3.symm,by rw[q3,hb]⟩
theorem zBH{P:Program}{w:World}{k:Nat}{o:Obj}(h:w.heap[k]?=some o)(hc:∀ c e f,o≠.cells c e f):(getObj k).run P w=.ok o w:=by
 unfold getObj;simp only[Sem.run,h]
 try (cases o <;> first|rfl|exact absurd rfl (hc _ _ _))
theorem zFB{P:Program}{w:World}{k:Nat}{o:Obj}(o':Obj)(h:w.heap[k]?=some o)(hc:∀ c e f,o≠.cells c e f):(setObj k o').run P w=.ok () (World.put w k o'):=by
 unfold setObj;simp only[Sem.run,h]
 try (cases o <;> first|rfl|exact absurd rfl (hc _ _ _))
def zDE(et kt:TypeId)(k:Value)(ok:Bool)(ents:Array MapEntry):Sem Value:=do
 Instr.checkKey ents.isEmpty 10000 kt k
 let (v,ok') ← match ← Instr.findKey kt k ents.toList with
  | some (_,v)=>pure (v,true)
  | none=>pure (← zeroValue et,false)
 pure (if ok then .tuple #[v,.bool ok'] else v)
theorem zm9{v v':Value}(h:VR σ v v')(ok is:Bool):VR σ (okV ok v is) (if ok then .tuple #[v',.bool is] else v'):=by
 cases ok with
 | true=>exact .tuple (.cons h (.cons (.bool _) .nil))
 | false=>exact h
include hE in
theorem zLa{kt et:TypeId}{k:Value}(iO:zEn E kt k=true){es:List (Value×Value)}{ents:Array MapEntry}{clock:Nat}(hm:MapR σ es ents clock){ok:Bool}{v:Value}
  (e:zEt E et ok (zAe E kt k es)=some v) (w:World):∃ v',(zDE et kt k ok ents).run E.prog w=.ok v' w/\VR σ v v':=by
 obtain⟨ck,_⟩:=zLd (σ:=σ) hE iO;unfold zEt at e;split at e
 ·rename_i u hu;cases e;obtain⟨r',r1,r2⟩:=zLo hE iO hm hu w;cases r' with
  | none=>exact r2.elim
  | some p=>
   obtain⟨i,v'⟩:=p;refine⟨_,?_,zm9 r2.1 ok true⟩;unfold zDE;simp[ck,r1]
 ·rename_i hu;split at e;rotate_left
  ·cases e
  rename_i z hz;cases e;obtain⟨r',r1,r2⟩:=zLo hE iO hm hu w;cases r' with
  | some p=>exact r2.elim
  | none=>
   refine⟨_,?_,zm9 (VR.of_flat 4 z (zDJ hE hz)) ok false⟩;unfold zDE;simp[ck,r1,zGC hE hz]
 ·cases e
include hE in
theorem zTA{lo:Nat}{h:AH}{w:World}(H:HR lo σ h w){t:TypeId}{x x' k k':Value}(hx:VR σ x x')(hk:VR σ k k'){ok:Bool}{v:Value}(e:zFm E t x k ok h=some v) :
  ∃ v',(Instr.lookup t x' k' ok).run E.prog w=.ok v' w/\VR σ v v':=by
 unfold zFm at e;split at e;rotate_left
 ·cases e
 rename_i kt et es hke cz;cases iO:zEn E kt k with
 | false=>rw[iO] at e;cases e
 | true=>
 rw[iO] at e;simp only[xAG] at e;obtain⟨ck,eH⟩:=zLd (σ:=σ) hE iO;have:=eH _ hk;subst this;have hu:und E t=some (.map kt et):=by
  unfold zMs at hke;split at hke
  ·rename_i k0 e0 h0;cases hke;exact h0
  ·cases hke
 have core:∀(ents:Array MapEntry) (clock:Nat),MapR σ es ents clock->(Instr.lookup t x' k' ok).run E.prog w=(zDE et kt k' ok ents).run E.prog w->
   ∃ v',(Instr.lookup t x' k' ok).run E.prog w=.ok v' w/\VR σ v v':=by
  intro ents clock hm hr;obtain⟨v',q1,q2⟩:=zLa hE iO hm e w;exact⟨v',hr.trans q1,q2⟩
 unfold zEA at cz;split at cz
 ·cases cz;cases hx;refine core #[] 0 ⟨by simp,by simp,[],by simp,.nil⟩ ?_;unfold Instr.lookup zDE;simp only[xCs,zo hE hu,xBj,xCt];rfl
 ·rename_i b;split at cz;rotate_left
  ·cases cz
  rename_i es0 ver hb;cases cz;cases hx with
  | map hσ=>
  obtain⟨l,a1,⟨ents,clock,m1,m2⟩,_⟩:=H.live b _ hb;rw[hσ] at a1;cases a1;refine core ents clock m2 ?_;unfold Instr.lookup zDE;simp only[xCs,zo hE hu,xBj,zBH m1 (by intros;intro h;cases h),xCt];rfl
 ·cases cz
theorem zXt{P:Program}{lo:Nat}{h:AH}{w:World}(H:HR lo σ h w){x x':Value}(hx:VR σ x x'){v:Value}(e:zRd x h=some v) :
  ∃ v',(Instr.entry x').run P w=.ok v' w/\VR σ v v':=by
 unfold zRd at e;split at e;rotate_left
 ·cases e
 rename_i b;split at e;rotate_left
 ·cases e
 rename_i m ver left c hb;split at e;rotate_left
 ·cases e
 rename_i es ver' hm;split at e;rotate_left
 ·cases e
 rename_i hv;cases e;rw[beq_true] at hv;subst hv;cases hx with
 | ptr o hσ=>
 rename_i l;obtain⟨l',a1,a2,_⟩:=H.live b _ hb;rw[hσ] at a1;cases a1;obtain⟨lm,since,seen,last,b1,⟨b2,b0⟩,b3⟩:=a2;obtain⟨c1,c2⟩:=b3 es ver hm;obtain⟨ents,d1,d2,d3⟩:=c2 rfl;obtain⟨l2,f1,⟨ents2,clock,f2,f3⟩,_⟩:=H.live m _ hm;rw[b1] at f1;cases f1;rw[d1] at f2;cases f2;obtain⟨x,x1,x2,x3,x4⟩:=d3.cur _ rfl;subst d2;rw[b0];have lI:ents.find? (·.born==x.born)=some x:=by
  have bp:=f3.nodup;rw[← Array.find?_toList];have:∀(L:List MapEntry),(L.map (·.born)).Nodup->x∈L->L.find? (·.born==x.born)=some x:=by
   intro L
   induction L with
   | nil=>intro _ h;cases h
   | cons y L ih=>
    intro hn hx;simp only[xCi,xCV] at hn;rcases xCg.1 hx with rfl|hx
    ·simp
    ·have aj:¬ y.born=x.born:=by
      intro e;exact hn.1 (e ▸ xCv.2 ⟨x,hx,rfl⟩)
     rw[List.find?_cons_of_neg (by simpa using aj)];exact ih hn.2 hx
  exact this _ bp x1
 refine⟨.tuple #[x.key,x.val],?_,.tuple (.cons x3 (.cons x4 .nil))⟩;unfold Instr.entry;simp[zBH b2 (by intros;intro h;cases h),zBH d1 (by intros;intro h;cases h),x2,lI]
end Go.AM
namespace Go.AM
open Go Go.Proofs Go.RowKit
variable {E:Env} (hE:zCt E) {σ:Sg} {T:Tm} {a:Act} {xs:List Operand}
theorem zDh{w:World}{k:Nat}{cs:Array Value}{el:TypeId}{frz:Nat×Nat}(h:w.heap[k]?=some (.cells cs el frz)):w.shape? k=some (el,cs.size):=by
 simp[World.shape?,h]
theorem zSy{P:Program}{w:World}{k:Nat}{cs:Array Value}{el:TypeId}{frz:Nat×Nat}(h:w.heap[k]?=some (.cells cs el frz)):(viewAt k).run P w=.ok none w:=by
 unfold viewAt;simp[zDh h]
theorem zJ3{P:Program}{w:World}{ad:Addr}{cs:Array Value}{el:TypeId}{frz:Nat×Nat}(h:w.heap[ad.block]?=some (.cells cs el frz)):(Conv.seenAt ad).run P w=.ok ad w:=by
 unfold Conv.seenAt;simp[zSy h]
theorem zPG{P:Program}{w:World}{k:Nat}{cs:Array Value}{el:TypeId}{frz:Nat×Nat}(h:w.heap[k]?=some (.cells cs el frz)):(cellsIn k).run P w=.ok (some cs.size) w:=by
 unfold cellsIn;simp[zDh h]
include hE in
theorem zTr{lo:Nat}{h:AH}{w:World}(H:HR lo σ h w){src dst:TypeId}{x x':Value}(hx:VR σ x x'){v:Value}(e:zLu E src dst (some x) h=some v) :
  (convert src dst x').run E.prog w=.ok x' w/\VR σ v x':=by
 unfold zLu at e;split at e
 ·rename_i t b o h1 h2 h3;cases h3;split at e;rotate_left
  ·cases e
  rename_i vs ty s hb hs;cases hx with
  | ptr o hσ=>
  rename_i l;cases hc:(Nat.beq s 0||Nat.ble (zBU vs) o) with
  | true=>rw[hc] at e;cases e
  | false=>
  rw[hc] at e;simp only[xAH,xAN] at e;subst e;simp only[xBJ,ble_false,zAL] at hc;have kS:s≠0:=by intro e;subst e;simp at hc
  obtain⟨l',a1,⟨cs,el,frz,r1,r2⟩,_⟩:=H.live b _ hb;rw[hσ] at a1;cases a1;obtain⟨f1,f2⟩:=r2.fixed rfl rfl;have f3:=r2.elt;refine⟨?_,.ptr o hσ⟩;unfold convert;simp only[xCs,zo hE h1,zo hE h2,xBj];unfold Conv.unsafePointer;have gh:(Conv.seenAt ⟨l.blk,l.base+o,none⟩).run E.prog w=.ok ⟨l.blk,l.base+o,none⟩ w:=zJ3 r1;have ab:l.base+o<cs.size:=by omega
  simp only[xCs,zo hE h1,zo hE h2,xBj,gh,zPG r1,z8 hE hs];rw[xDD,xDN]
  ·rfl
  ·simp[kS];omega
 ·rename_i u b o h1 h2 h3;cases h3;split at e;rotate_left
  ·cases e
  rename_i vs ty su hb hsu;cases hx with
  | ptr o hσ=>
  rename_i l;cases hc:liesAt E.prog E.prog.depth ty (zBU vs / E.prog.cellsOf ty) o u 1 with
  | false=>rw[hc] at e;cases e
  | true=>
  rw[hc] at e;simp only[xAG,xAN] at e;subst e;obtain⟨l',a1,⟨cs,el,frz,r1,r2⟩,_⟩:=H.live b _ hb;rw[hσ] at a1;cases a1;obtain⟨f1,f2⟩:=r2.fixed rfl rfl;have f3:=r2.elt;refine⟨?_,.ptr o hσ⟩;have gt:liesAt E.prog E.prog.depth el (cs.size / E.prog.cellsOf el) (l.base+o) u 1=true:=by
   rw[f1,f2,f3,xAK,← zAL];exact hc
  unfold convert;simp only[xCs,zo hE h1,zo hE h2,xBj];have gh:(Conv.seenAt ⟨l.blk,l.base+o,none⟩).run E.prog w=.ok ⟨l.blk,l.base+o,none⟩ w:=zJ3 r1;have hvar:(variablesAt ⟨l.blk,l.base+o,none⟩ u 1).run E.prog w=.ok true w:=by
   unfold variablesAt;simp[zDh r1,gt]
  unfold Conv.unsafePointer;simp only[xCs,zo hE h1,zo hE h2,xBj,gh,hvar,z8 hE hsu,xCt,Bool.or_true,xDM]
 ·cases e
theorem zGD{P:Program}(ts:Array TypeId)(ty:TypeId)(ad:Addr)(n c:Nat)(h:c≠0)(w:World) :
  (Builtin.unsafeSliceData_ ts ty #[.slice (some ad) n c]).run P w=.ok (.pointer (some ad)) w:=by
 show (if c≠0 then (pure (.pointer (some ad)):Sem Value) else _).run P w=_;rw[xDD,xDO h];rfl
theorem zHd{o:Oper}{c:Call}{b:Builtin}(ho:o.op=.call c)(hb:c.callee=.builtin b)(ρ:Operand->Value) :
  execOp ρ o=builtin b c.argTypes o.type (c.args.map λ | .const _=>true|_=>false) (c.args.map ρ):=by
 simp only[execOp,ho,resolve,hb,pure_bind];rfl
include hE in
theorem zPK{lo:Nat}{h:AH}{w:World}(H:HR lo σ h w){o:Oper}{c:Call}{b:Builtin}(ho:o.op=.call c)(hb:c.callee=.builtin b)(hT:zJc σ T a o.op.operands.toList)
  {vs:List Value} (cO:zBu T c.args.toList=some vs) {v:Value} (e:zHz E b c o vs T h=some v):∃ v',(execOp a.eval o).run E.prog w=.ok (.value v') w/\VR σ v v':=by
 have ao:=zFI hT (ys:=c.args.toList) (λ y hy=>by rw[ho];simp only[Op.operands,Call.operands,hb,xBR,xCU];exact .inr hy) cO;unfold zHz at e;cases hf:zYm vs with
 | true=>
  rw[hf] at e;obtain⟨v',q1,q2⟩:=zCX hT rfl e;exact⟨v',q1 w,q2⟩
 | false=>
 rw[hf] at e;clear hf;simp only at e;rw[zHd ho hb];have ay:(c.args.map a.eval).toList=c.args.toList.map a.eval:=by simp
 generalize hA:c.args.map a.eval=A at ay ⊢;rw[← ay] at ao;have ty0:∀ d,zvJ E c.argTypes.toList=some d->∃ t,c.argTypes[0]?=some t/\und E t=some d:=by
  intro d hd;unfold zvJ at hd;split at hd
  ·rename_i t ts dX;exact⟨t,by rw[← Array.getElem?_toList,dX];rfl,hd⟩
  ·cases hd
 split at e
 ·
  unfold zyM at e;split at e
  ·rename_i el ad n cp hd;cases e;obtain⟨t,t1,t2⟩:=ty0 _ hd;generalize hL:A.toList=L at ao;cases ao with
   | cons h1 h2=>
   cases h2;rename_i u;have fN:A[0]?=some u:=by rw[← Array.getElem?_toList,hL];rfl
   have hu:∃ ad' cp',u=.slice ad' n cp':=by cases h1 <;> exact⟨_,_,rfl⟩
   obtain⟨ad',cp',rfl⟩:=hu;refine⟨_,?_,.int _ _⟩;simp[builtin,Builtin.len_,t1,fN,zo hE t2,goInt]
  ·rename_i k el hd;cases e;obtain⟨t,t1,t2⟩:=ty0 _ hd;generalize hL:A.toList=L at ao;cases ao with
   | cons h1 h2=>
   cases h2;rename_i u;have fN:A[0]?=some u:=by rw[← Array.getElem?_toList,hL];rfl
   cases h1;refine⟨_,?_,.int _ _⟩;simp[builtin,Builtin.len_,t1,fN,zo hE t2,goInt]
  ·rename_i k el m hd;split at e;rotate_left
   ·cases e
   rename_i es ver hm;cases e;obtain⟨t,t1,t2⟩:=ty0 _ hd;generalize hL:A.toList=L at ao;cases ao with
   | cons h1 h2=>
   cases h2;rename_i u;have fN:A[0]?=some u:=by rw[← Array.getElem?_toList,hL];rfl
   cases h1 with
   | map hσ=>
   obtain⟨l',a1,⟨ents,clock,m1,m2⟩,_⟩:=H.live m _ hm;rw[hσ] at a1;cases a1;have hlen:zBU es=ents.size:=by
    obtain⟨p,p1,p2⟩:=m2.perm;have hl:∀ {es:List (Value×Value)} {L:List MapEntry},EntsR σ es L->es.length=L.length:=by
     intro es L hE
     induction hE with
     | nil=>rfl
     | cons _ _ _ ih=>simp[ih]
    rw[zAL,hl p2,p1.length_eq];simp
   refine⟨.int .i64 (ents.size:Int),?_,by rw[hlen];exact .int _ _⟩;simp[builtin,Builtin.len_,t1,fN,zo hE t2,goInt,zBH m1 (by intros;intro h;cases h)]
  ·cases e
 ·
  unfold zyN at e;split at e
  ·rename_i el ad n cp hd;cases hc:Nat.ble UNK cp with
   | true=>rw[hc] at e;cases e
   | false=>
   rw[hc] at e;simp only[xAH,xAN] at e;subst e;rw[ble_false] at hc;obtain⟨t,t1,t2⟩:=ty0 _ hd;generalize hL:A.toList=L at ao;cases ao with
   | cons h1 h2=>
   cases h2;rename_i u;have fN:A[0]?=some u:=by rw[← Array.getElem?_toList,hL];rfl
   have hu:∃ ad',u=.slice ad' n cp:=by
    cases h1 with
    | sliceN=>exact⟨_,rfl⟩
    | slice=>exact⟨_,rfl⟩
    | sliceS=>exact⟨_,rfl⟩
    | sliceU=>omega
   obtain⟨ad',rfl⟩:=hu;refine⟨_,?_,.int _ _⟩;simp[builtin,Builtin.cap_,t1,fN,zo hE t2,goInt]
  ·cases e
 ·
  unfold zsB at e;split at e
  ·rename_i ad n cp;cases hc:(Nat.beq n 0||Nat.beq cp 0) with
   | true=>rw[hc] at e;cases e
   | false=>
   rw[hc] at e;simp only[xAH,xAN] at e;subst e;simp only[xBJ] at hc;have cJ:n≠0:=by intro e;subst e;simp at hc
   have eB:cp≠0:=by intro e;subst e;simp at hc
   generalize hL:A.toList=L at ao;cases ao with
   | cons h1 h2=>
   cases h2;rename_i u;have fN:A=#[u]:=by apply xDH;rw[hL]
   cases h1 with
   | slice o n c hσ hcU=>
    refine⟨_,?_,.ptr o hσ⟩;simp only[builtin,fN,xCs,zGD _ _ _ _ _ eB,xBj,xCt]
   | sliceS a=>exact absurd rfl cJ
   | sliceU o n c hσ hcU hn=>
    refine⟨_,?_,.ptr o hσ⟩;have:c≠0:=by omega
    simp only[builtin,fN,xCs,zGD _ _ _ _ _ this,xBj,xCt]
  ·cases e
 ·cases e
include hE in
theorem zNF{lo:Nat}{h:AH}{w:World}(H:HR lo σ h w){o:Oper}(hT:zJc σ T a o.op.operands.toList){v:Value}(e:zh E T o h=some v) :
  ∃ v',(execOp a.eval o).run E.prog w=.ok (.value v') w/\VR σ v v':=by
 unfold zh at e;split at e
 ·
  rename_i t x ho;cases hx:zAj T x with
  | none=>rw[hx] at e;simp[zb] at e
  | some u=>
   rw[hx] at e;obtain⟨v',q1,q2⟩:=zRC hE H (zAF hT (by rw[ho];simp[Op.operands]) hx) e;exact⟨v',by simp only[execOp,ho,xCs,q1,xBj,xCt],q2⟩
 ·
  rename_i src dst x ho;unfold zof at e;cases hc:zr T x with
  | true=>
   rw[hc] at e;obtain⟨v',q1,q2⟩:=zCX hT rfl e;exact⟨v',q1 w,q2⟩
  | false=>
   rw[hc] at e;simp only[xAH] at e;cases hx:zAj T x with
   | none=>rw[hx] at e;simp[zLu] at e
   | some u=>
    rw[hx] at e;obtain⟨q1,q2⟩:=zTr hE H (zAF hT (by rw[ho];simp[Op.operands]) hx) e;exact⟨_,by simp only[execOp,ho,xCs,q1,xBj,xCt],q2⟩
 ·
  rename_i t x k ok ho;unfold zAy at e;split at e;rotate_left
  ·cases e
  rename_i u1 u2 e1 e2;obtain⟨v',q1,q2⟩:=zTA hE H (zAF hT (by rw[ho];simp[Op.operands]) e1) (zAF hT (by rw[ho];simp[Op.operands]) e2) e;exact⟨v',by simp only[execOp,ho,xCs,q1,xBj,xCt],q2⟩
 ·
  rename_i x ho;unfold zC4 at e;split at e;rotate_left
  ·cases e
  rename_i u e1;obtain⟨v',q1,q2⟩:=zXt (P:=E.prog) H (zAF hT (by rw[ho];simp[Op.operands]) e1) e;exact⟨v',by simp only[execOp,ho,xCs,q1,xBj,xCt],q2⟩
 ·
  rename_i c ho;split at e;rotate_left
  ·cases e
  rename_i b hb;split at e;rotate_left
  ·cases e
  rename_i vs cO;exact zPK hE H ho hb hT cO e
 ·cases e
end Go.AM
namespace Go.AM
open Go Go.Proofs Go.RowKit
variable {E:Env} (hE:zCt E) {σ:Sg} {T:Tm} {a:Act} {xs:List Operand} {lo:Nat} {h:AH} {w:World}
def Done(P:Program)(lo:Nat)(σ:Sg)(o:Oper)(a:Act)(w:World)(outs:List (Value×AH)):Prop:=
 ∃ x∈outs,∃ nx v' w' τ,(execOp a.eval o).run P w=.ok nx w'/\(nx=.value v'\/(nx=.skip/\v'=undef))/\Sg.le σ τ/\HR lo τ x.2 w'/\VR τ x.1 v'/\Below lo w w'
theorem Done.one{P:Program}{o:Oper}{v:Value}{h':AH}{nx:Next}{v':Value}{w':World}{τ:Sg}(r:(execOp a.eval o).run P w=.ok nx w')(hn:nx=.value v'\/(nx=.skip/\v'=undef))
  (le:Sg.le σ τ) (H:HR lo τ h' w') (hv:VR τ v v') (hb:Below lo w w'):Done P lo σ o a w [(v,h')]:=
 ⟨(v,h'),by simp,nx,v',w',τ,r,hn,le,H,hv,hb⟩
theorem zGJ(H:HR lo σ h w){vs:List Value}{cs:Array Value}(hv:VRs σ vs cs.toList)(ty es tot:Nat)(cz:es≠0->cs.size=tot)(jJ:vs.length<=cs.size) :
  HR lo (σ.ext h.qa ⟨w.heap.size,0,tot,es⟩) (h.new (.row vs ty es false)) (w.alloc (.cells cs ty))/\Sg.le σ (σ.ext h.qa ⟨w.heap.size,0,tot,es⟩)/\Below lo w (w.alloc (.cells cs ty)):=by
 have le:Sg.le σ (σ.ext h.qa ⟨w.heap.size,0,tot,es⟩):=Sg.le_ext H.free;refine⟨H.new _ _ _ rfl ?_,le,zDb w _ H.lo⟩;refine⟨cs,ty,(0,0),by rw[zBI,xDO rfl],?_,?_,λ _=>rfl,rfl,?_,?_⟩
 ·simpa using jJ
 ·intro i v hi;obtain⟨b,q1,q2⟩:=hv.get hi;exact⟨b,by simpa using q1,q2.mono le⟩
 ·intro _ _;exact⟨rfl,by have:=hv.length;simpa using this.symm⟩
 ·intro e;exact⟨rfl,by simpa using cz e⟩
include hE in
theorem zVx(H:HR lo σ h w){o:Oper}{t:TypeId}(ho:o.op=.alloc t){outs:List (Value×AH)}(e:zAm t h (zAh E t)=some outs):Done E.prog lo σ o a w outs:=by
 unfold zAm at e;split at e;rotate_left
 ·cases e
 rename_i z hz;cases e;have fZ:VR σ z z:=VR.of_flat 4 z (zDJ hE hz);obtain⟨q1,q2,q3⟩:=zGJ H fZ.cells t 0 0 (by simp) (xCr (fZ.cells.length.trans xBQ));refine Done.one (nx:=.value (.pointer (some ⟨w.heap.size,0,none⟩))) ?_ (.inl rfl) q2 q1 (.ptr (l:=⟨w.heap.size,0,0,0⟩) 0 (Sg.ext_self ..)) q3;simp[execOp,ho,Instr.alloc,zGC hE hz,newVar,Go.newRow]
theorem zoB{P:Program}(H:HR lo σ h w){o:Oper}{t:TypeId}{x:Operand}(ho:o.op=.box t x)(hT:zJc σ T a o.op.operands.toList){outs:List (Value×AH)}(e:zAm t h (zAj T x)=some outs):Done P lo σ o a w outs:=by
 unfold zAm at e;split at e;rotate_left
 ·cases e
 rename_i z hz;cases e;have fZ:VR σ z (a.eval x):=zAF hT (by rw[ho];simp[Op.operands]) hz;obtain⟨q1,q2,q3⟩:=zGJ H fZ.cells t 0 0 (by simp) (xCr (fZ.cells.length.trans xBQ));refine Done.one (nx:=.value (.pointer (some ⟨w.heap.size,0,none⟩))) ?_ (.inl rfl) q2 q1 (.ptr (l:=⟨w.heap.size,0,0,0⟩) 0 (Sg.ext_self ..)) q3;simp[execOp,ho,Instr.box,newVar,Go.newRow]
include hE in
theorem zVt(H:HR lo σ h w){o:Oper}{t:TypeId}{x y:Operand}(ho:o.op=.store t x y)(hT:zJc σ T a o.op.operands.toList){outs:List (Value×AH)}(e:zAM E t h (zAj T x) (zAj T y)=some outs):Done E.prog lo σ o a w outs:=by
 unfold zAM at e;split at e;rotate_left
 ·cases e
 rename_i u v hu hv;unfold u1 at e;split at e;rotate_left
 ·cases e
 rename_i h' hh;cases e;obtain⟨w',q1,q2,q3⟩:=zWA hE H (zAF hT (by rw[ho];simp[Op.operands]) hu) (zAF hT (by rw[ho];simp[Op.operands]) hv) hh;refine Done.one (nx:=.skip) ?_ (.inr ⟨rfl,rfl⟩) (Sg.le_refl σ) q2 (.tuple .nil) q3;simp only[execOp,ho,xCs,q1,xBj,xCt]
theorem zWU{α:Type}:∀(n:Nat) (l:List α) (k:Nat),k<n*l.length->(rep n l)[k]?=l[k % l.length]?
 | 0,l,k,h=>by simp at h
 | n+1,l,k,h=>by
  simp only[rep];by_cases hk:k<l.length
  ·rw[xAb hk,Nat.mod_eq_of_lt hk]
  ·have hm:(n+1)*l.length=n*l.length+l.length:=Nat.succ_mul n l.length;rw[xAX (by omega),zWU n l _ (by omega),← Nat.mod_eq_sub_mod (by omega)]
theorem zDD{α:Type}:∀(n:Nat) (l:List α),(rep n l).length=n*l.length
 | 0,l=>by simp[rep]
 | n+1,l=>by simp[rep,zDD n l,Nat.succ_mul];omega
theorem zDI(z:Value):zd z=z.cells.toList:=by cases z <;> rfl
theorem zLE{z:Value}{size:Nat}(hz:(zd z).length=size)(n:Nat)(h0:n*size≠0):((Array.range (n*size)).map (z.cells[· % z.cells.size]!)).toList=rep n (zd z):=by
 have hc:=zDI z;have hsz:z.cells.size=size:=by rw[← hz,hc];simp
 apply xBo;intro k;by_cases hk:k<n*size
 ·rw[zWU n _ k (by rw[hz];exact hk),hz];have hm:k % size<size:=Nat.mod_lt _ (Nat.pos_of_ne_zero (λ e=>h0 (by rw[e,Nat.mul_zero])));simp only[Array.toList_map,xBi,Array.toList_range,List.getElem?_range hk,xCS,hsz];rw[xCw z.cells (k % size) (by omega),hc,xAz,xAa (by omega)]
 ·rw[xAx (by simp;omega),xAx (by rw[zDD,hz];omega)]
theorem VRs.rep{l l':List Value}(h:VRs σ l l'):∀ n,VRs σ (AM.rep n l) (AM.rep n l')
 | 0=>.nil
 | n+1=>h.append (VRs.rep h n)
include hE in
theorem zJe(H:HR lo σ h w){o:Oper}{t:TypeId}{len:Nat}{ps:Array (Nat×Operand)}(ho:o.op=.buildSlice t len ps)(hT:zJc σ T a o.op.operands.toList){outs:List (Value×AH)}
  (e:zg E t len (zHn T ps.toList) h=some outs):Done E.prog lo σ o a w outs:=by
 unfold zg at e;split at e;rotate_left
 ·cases e
 rename_i vs el cO aS;split at e;rotate_left
 ·cases e
 rename_i size z hs hz;split at e;rotate_left
 ·cases e
 rename_i cs aT;cases hc:(Nat.ble (len*size) 1000000&&Nat.ble len 1000000&&Nat.beq (zBU (zd z)) size) with
 | false=>rw[hc] at e;cases e
 | true=>
 rw[hc] at e;cases e;simp only[xAP,ble_true,beq_true,zAL] at hc;obtain⟨⟨c1,c2⟩,c3⟩:=hc;have hp:=zLT hT (ys:=ps.toList) (λ y hy=>by rw[ho];simp only[Op.operands,xCv];exact⟨y,hy,rfl⟩) cO;have fZ:VR σ z z:=VR.of_flat 4 z (zDJ hE hz)
 let init:Array Value:=if len*size=0 then #[] else (Array.range (len*size)).map (z.cells[· % z.cells.size]!)
 have gD:init.toList=rep len (zd z):=by
  show (if len*size=0 then #[] else (Array.range (len*size)).map (z.cells[· % z.cells.size]!):Array Value).toList=_;split
  ·rename_i h0;have:(rep len (zd z)).length=0:=by rw[zDD,c3];exact h0
   rw[xAm.1 this]
  ·rename_i h0;exact zLE c3 len h0
 have iC:VRs σ (rep len (zd z)) init.toList:=by
  rw[gD];have:=fZ.cells;rw[← zDI] at this;exact this.rep len
 obtain⟨cs',q1,q2⟩:=zLp (pl':=λ i=>some (i*size,size)) (λ i p h=>h) hp iC aT;obtain⟨r1,r2,r3⟩:=zGJ H q2 el 0 0 (by simp) (xCr (q2.length.trans xBQ));refine Done.one (nx:=.value (.slice (some ⟨w.heap.size,0,none⟩) len len)) ?_ (.inl rfl) r2 r1 (.slice (l:=⟨w.heap.size,0,0,0⟩) 0 len len (Sg.ext_self ..) (by unfold UNK;omega)) r3;have ay:ps.map (λ (i,x)=>(i,a.eval x))=⟨ps.toList.map λ (i,x)=>(i,a.eval x)⟩:=by apply xDH;simp
 have hu:=zBv hE aS;have bQ:(Instr.buildSlice t len ⟨ps.toList.map λ (i,x)=>(i,a.eval x)⟩).run E.prog w=.ok (.slice (some ⟨w.heap.size,0,none⟩) len len) (w.alloc (.cells cs' el)):=by
  obtain⟨info,i1,i2⟩:=zCV hE hs;have hnl:¬ len*size > 2 ^ 24:=by omega
  by_cases h0:len*size=0
  ·have iv:init=#[]:=xDO h0;rw[iv] at q1;simp[Instr.buildSlice,zo hE hu,z8 hE hs,h0,Go.newRow];rw[show Array.map (λ _=>(default:Value)) (Array.range 0)=#[] by simp];rw[show Instr.fill (λ i=>some (i*size,size)) #[] (List.map (λ x=>(x.fst,a.eval x.snd)) ps.toList)=some cs' from q1];rfl
  ·have iv:init=(Array.range (len*size)).map (z.cells[· % z.cells.size]!):=xDN h0;rw[iv] at q1;simp[Instr.buildSlice,zo hE hu,z8 hE hs,h0,hnl,q1,Go.newRow,zGC hE hz]
 simp only[execOp,ho,ay,xCs,bQ,xBj,xCt]
include hE in
theorem zLH(H:HR lo σ h w){o:Oper}{t:TypeId}{l c:Operand}(ho:o.op=.makeSlice t l c)(hT:zJc σ T a o.op.operands.toList){outs:List (Value×AH)}
  (e:zAG E t (zAj T l) (zAj T c) h=some outs):Done E.prog lo σ o a w outs:=by
 unfold zAG at e;split at e;rotate_left
 ·cases e
 rename_i u1 u2 el h1 h2 aS;split at e;rotate_left
 ·cases e
 rename_i n m i hn hm hi;split at e;rotate_left
 ·cases e
 rename_i z hz;cases hc:(Nat.ble n m&&Nat.ble m 1000000&&Nat.ble i.bytes 1000000&&Nat.beq (zBU (zd z)) i.size) with
 | false=>rw[hc] at e;cases e
 | true=>
 rw[hc] at e;cases e;simp only[xAP,ble_true,beq_true,zAL] at hc;obtain⟨⟨⟨c1,c2⟩,c3⟩,c4⟩:=hc;obtain⟨k1,e1⟩:=zDA (zAF hT (by rw[ho];simp[Op.operands]) h1) hn;obtain⟨k2,e2⟩:=zDA (zAF hT (by rw[ho];simp[Op.operands]) h2) hm;have hzV:zAh E el=some z:=by unfold zAh;unfold zC6 at hi;rw[hi];exact hz
 have fZ:VR σ z z:=VR.of_flat 4 z (zDJ hE hzV);obtain⟨info,i1,i2,i3,i4,i5,i6⟩:=hE.ty el i hi;have hs:zAW E el=some i.size:=by unfold zAW;unfold zC6 at hi;rw[hi]
 let init:Array Value:=(Array.range (m*i.size)).map ((if m*i.size=0 then #[] else z.cells)[· % (if m*i.size=0 then #[] else z.cells).size]!)
 have gD:init.toList=rep m (zd z):=by
  show ((Array.range (m*i.size)).map ((if m*i.size=0 then #[] else z.cells)[· % (if m*i.size=0 then #[] else z.cells).size]!)).toList=_;by_cases h0:m*i.size=0
  ·have:(rep m (zd z)).length=0:=by rw[zDD,c4];exact h0
   rw[xAm.1 this,h0];simp
  ·rw[xDN h0];exact zLE c4 m h0
 have iC:VRs σ (rep m (zd z)) init.toList:=by
  rw[gD];have:=fZ.cells;rw[← zDI] at this;exact this.rep m
 obtain⟨r1,r2,r3⟩:=zGJ H iC el 0 0 (by simp) (xCr (iC.length.trans xBQ));refine Done.one (nx:=.value (.slice (some ⟨w.heap.size,0,none⟩) n m)) ?_ (.inl rfl) r2 r1 (.slice (l:=⟨w.heap.size,0,0,0⟩) 0 n m (Sg.ext_self ..) (by unfold UNK;omega)) r3;have hu:=zBv hE aS;have kE:∀ k:Nat,k<=1000000->IntKind.wrap .i64 (k:Int)=k:=by intro k hk;rw[IntKind.wrap_i64];omega
 have hbytes:i.bytes*m<=1000000*1000000:=Nat.mul_le_mul c3 c2;have bQ:(Instr.makeSlice t (.int k1 (n:Int)) (.int k2 (m:Int))).run E.prog w=.ok (.slice (some ⟨w.heap.size,0,none⟩) n m) (w.alloc (.cells init el)):=by
  unfold Instr.makeSlice;simp only[xCs,zo hE hu,xBj,asInt,asIntOf,xCt,run_typeInfo w i1,kE n (by omega),kE m c2,i4];have hb:((i.bytes*m:Nat):Int)=(i.bytes:Int)*(m:Int):=by push_cast;rfl
  rw[← hb,xDD,xDN (by simp;omega)];by_cases h0:m*i.size=0
  ·simp[z8 hE hs,h0,Go.newRow,init]
  ·simp[z8 hE hs,h0,Go.newRow,init,zGC hE hzV]
 simp only[execOp,ho,e1,e2,xCs,bQ,xBj,xCt]
theorem zO7{P:Program}(H:HR lo σ h w){o:Oper}{t:TypeId}(ho:o.op=.makeMap t none):Done P lo σ o a w [(.map (some h.qa),h.new (.map [] 0))]:=by
 have le:Sg.le σ (σ.ext h.qa ⟨w.heap.size,0,0,0⟩):=Sg.le_ext H.free;have q:=H.new (.map [] 0) (.map #[] 0) ⟨w.heap.size,0,0,0⟩ rfl ⟨#[],0,by rw[zBI,xDO rfl],⟨by simp,by simp,[],by simp,.nil⟩⟩;refine Done.one (nx:=.value (.map (some w.heap.size))) ?_ (.inl rfl) le q (.map (l:=⟨w.heap.size,0,0,0⟩) (by simp)) (zDb w _ H.lo);simp[execOp,ho,Instr.makeMap]
include hE in
theorem zVu(H:HR lo σ h w){o:Oper}{t:TypeId}{x:Operand}(ho:o.op=.range t x)(hT:zJc σ T a o.op.operands.toList){outs:List (Value×AH)}
  (e:zCk (zAj T x) h=some outs) (hu:∃ k v,und E t=some (.map k v)):Done E.prog lo σ o a w outs:=by
 obtain⟨kt,vt,hu⟩:=hu;have le:∀ l,Sg.le σ (σ.ext h.qa l):=λ l=>Sg.le_ext H.free;unfold zCk at e;split at e
 ·rename_i hx;cases e;have hv:=zAF hT (by rw[ho];simp[Op.operands]) hx;generalize hq:a.eval x=q at hv;cases hv;have q:=H.new (.iter none 0 [] none) (.mapIter none 0 #[] 0) ⟨w.heap.size,0,0,0⟩ rfl ⟨0,#[],0,by rw[zBI,xDO rfl],rfl⟩;refine Done.one (nx:=.value (.pointer (some ⟨w.heap.size,0,none⟩))) ?_ (.inl rfl) (le _) q (.ptr (l:=⟨w.heap.size,0,0,0⟩) 0 (Sg.ext_self ..)) (zDb w _ H.lo);simp[execOp,ho,hq,Instr.range,zo hE hu]
 ·rename_i m hx;split at e;rotate_left
  ·cases e
  rename_i es ver hm;cases e;have hv:=zAF hT (by rw[ho];simp[Op.operands]) hx;generalize hq:a.eval x=q at hv;cases hv with
  | map hσ=>
  rename_i lm;obtain⟨l',a1,⟨ents,clock,m1,m2⟩,_⟩:=H.live m _ hm;rw[hσ] at a1;cases a1;have aW:=zAd m1;have aj:m≠h.qa:=by intro e;subst e;rw[H.qb _ (xAF _)] at hm;cases hm
  have q:=H.new (.iter (some m) ver es none) (.mapIter (some lm.blk) clock #[] clock) ⟨w.heap.size,0,0,0⟩ rfl (by
   refine⟨lm,clock,#[],clock,le _ _ _ hσ,⟨by rw[zBI,xDO rfl],rfl⟩,λ es' v' hg=>?_⟩;rw[AH.get_new,xDN aj,hm] at hg;cases hg;refine⟨xAF _,λ _=>⟨ents,by rw[zBI,xDN (by omega)];exact m1,rfl,?_,by simp⟩⟩;obtain⟨p,p1,p2⟩:=m2.perm;exact⟨p,by rw[xBS.2 (by simp)];exact p1,p2.mono (le _)⟩)
  refine Done.one (nx:=.value (.pointer (some ⟨w.heap.size,0,none⟩))) ?_ (.inl rfl) (le _) q (.ptr (l:=⟨w.heap.size,0,0,0⟩) 0 (Sg.ext_self ..)) (zDb w _ H.lo);simp[execOp,ho,hq,Instr.range,zo hE hu,zBH m1 (by intros;intro h;cases h)]
 ·cases e
end Go.AM
namespace Go.AM
open Go Go.Proofs Go.RowKit
variable {E:Env} (hE:zCt E) {σ:Sg} {T:Tm} {a:Act} {xs:List Operand} {lo:Nat} {h:AH} {w:World}
theorem OR.heap{h:AH}{o:AObj}{l:Loc}{w w':World}(H:OR σ h o l w)(e:w'.heap=w.heap):OR σ h o l w':=by
 refine OR.mono H (Sg.le_refl σ) (by rw[e]) (λ m es v lm hm hs=>⟨hm,by rw[e]⟩)
theorem HR.heap{w':World}(H:HR lo σ h w)(e:w'.heap=w.heap):HR lo σ h w':=
 ⟨H.dom,H.qb,λ b o hb=>let ⟨l,x,y,z⟩:=H.live b o hb;⟨l,x,y.heap e,z⟩,H.inj,by rw[e];exact H.lo⟩
def World.drew1(w:World):World:={ w with drawn:=w.drawn+1 }
theorem zFu{B:Nat}(w:World):Below B w (World.drew1 w):=⟨rfl,rfl,rfl,xAF _,λ _ _=>rfl⟩
theorem EntsR.append:∀ {es fs:List (Value×Value)} {L M:List MapEntry},EntsR σ es L->EntsR σ fs M->EntsR σ (es++fs) (L++M)
 | _,_,_,_,.nil,h=>h
 | _,_,_,_,.cons hk hv h,h2=>.cons hk hv (EntsR.append h h2)
theorem zQl:∀ {es:List (Value×Value)} {pre:List (Value×Value)} {L preL:List MapEntry} {e:MapEntry},EntsR σ pre preL->EntsR σ es L->e∈L->
  ∃ x∈zLJ pre es,∃ q,VR σ x.1.1 e.key/\VR σ x.1.2 e.val/\EntsR σ x.2 q/\(preL++L).Perm (e::q)
 | _,_,_,_,e,_,.nil,he=>by cases he
 | _,pre,_,preL,e,hpre,.cons (k:=k) (v:=v) (e:=f) (es:=es) (fs:=fs) hk hv h,he=>by
  rcases xCg.1 he with rfl|he
  ·exact⟨((k,v),pre++es),by simp[zLJ],preL++fs,hk,hv,hpre.append h,List.perm_middle⟩
  ·obtain⟨x,x1,q,q1,q2,q3,q4⟩:=zQl (hpre.append (.cons hk hv .nil)) h he;exact⟨x,by simp only[zLJ,xAQ];exact .inr x1,q,q1,q2,q3,by simpa using q4⟩
theorem zPu{L:List MapEntry}{seen:Array Nat}{e:MapEntry}{q:List MapEntry}(hn:(L.map (·.born)).Nodup)(hp:(L.filter λ x=>!seen.contains x.born).Perm (e::q)) :
  (L.filter λ x=>!(seen.push e.born).contains x.born).Perm q:=by
 have h1:(L.filter λ x=>!(seen.push e.born).contains x.born)=(L.filter λ x=>!seen.contains x.born).filter λ x=>!(x.born==e.born):=by
  rw[List.filter_filter];apply List.filter_congr;intro x _;rw[xCT];simp;constructor
  ·intro h;exact⟨h.2,h.1⟩
  ·intro h;exact⟨h.2,h.1⟩
 rw[h1];have h2:=hp.filter λ x=>!(x.born==e.born);refine h2.trans ?_;have iL:((e::q).map (·.born)).Nodup:=by
  have:=(hp.map (·.born)).nodup_iff.1 ((List.filter_sublist.map _).nodup hn);exact this
 simp only[xCi,xCV] at iL;rw[xAn (by simp),xBS.2];intro x hx;simp only[xBq,beq_eq_false_iff_ne];intro he;exact iL.1 (he ▸ xCv.2 ⟨x,hx,rfl⟩)
theorem zLR{P:Program}{w:World}{r m:Nat}{since:Nat}{seen:Array Nat}{ents:Array MapEntry}{t:TypeId}(hi:w.heap[r]?=some (.mapIter (some m) since seen since))(hm:w.heap[m]?=some (.map ents since))
  (hb:∀ e∈ents.toList,e.born<since) :
  let left:=ents.filter λ e=>!seen.contains e.born
  (left.size=0->(Instr.next (.pointer (some ⟨r,0,none⟩)) false t).run P w=.ok (.tuple #[.bool false]) w) ∧
  (left.size≠0->∃ e∈left.toList,∃ w1:World,w1.heap=w.heap/\Below 0 w w1/\(∀ B,Below B w w1)/\(Instr.next (.pointer (some ⟨r,0,none⟩)) false t).run P w=.ok (.tuple #[.bool true,e.key,e.val]) (World.put w1 r (.mapIter (some m) since (seen.push e.born) since))):=by
 intro left;have hold:left.filter (·.born<since)=left:=by
  rw[Array.filter_eq_self];intro e he;have:e∈ents:=(Array.mem_filter.1 he).1;simpa using hb e (xBF.2 this)
 have bi:left.filter (·.born ≥ since)=#[]:=by
  rw[Array.filter_eq_empty_iff];intro e he;have:e∈ents:=(Array.mem_filter.1 he).1;have:=hb e (xBF.2 this);simp;omega
 have gG:(!seen.isEmpty&&!ents.isEmpty&&ents.all (·.born ≥ since))=false:=by
  cases he:ents.isEmpty with
  | true=>simp
  | false=>
   have aj:ents.size≠0:=by intro h;simp[Array.isEmpty,h] at he
   have:ents.all (·.born ≥ since)=false:=by
    rw[Array.all_eq_false];refine⟨0,by omega,?_⟩;have:=hb ents[0] (by simp);simp;omega
   rw[this];simp
 have g1:=zBH (P:=P) hi (by intros;intro h;cases h);have g2:=zBH (P:=P) hm (by intros;intro h;cases h);constructor
 ·intro h0;have hl:left=#[]:=Array.eq_empty_of_size_eq_zero h0;have dH:(ents.filter λ e=>!seen.contains e.born)=#[]:=hl;unfold Instr.next;simp only[xCs,g1,g2,xBj,gG,xBX,xDI,dH];simp[Question.forced]
 ·intro h0;have lO:left.isEmpty=false:=by simp[Array.isEmpty,h0]
  have key:∃ i w1,i<left.size/\w1.heap=w.heap/\(∀ B,Below B w w1)/\(choose (.mapNext left.size)).run P w=.ok i w1:=by
   rw[run_choose];by_cases hf:(Question.mapNext left.size).forced=true
   ·rw[xDO hf];exact⟨0,w,by omega,rfl,λ B=>Below.refl B w,rfl⟩
   ·rw[xDN hf];exact⟨_,World.drew1 w,Nat.mod_lt _ (by omega),rfl,λ B=>zFu w,rfl⟩
  obtain⟨i,w1,hi1,fP,hw2,fH⟩:=key;refine⟨left[i],by simp,w1,fP,hw2 0,hw2,?_⟩;have aQ:=zFB (P:=P) (w:=w1) (.mapIter (some m) since (seen.push left[i].born) since) (by rw[fP];exact hi) (by intros;intro h;cases h);have hemp':(left.filter (·.born<since)).isEmpty=false:=by rw[hold];exact lO
  have lU:((if (left.filter (·.born<since)).isEmpty then #[none] else #[])++(left.filter (·.born<since)++left.filter (·.born ≥ since)).map some:Array (Option MapEntry))=left.map some:=by
   rw[hold,bi,lO];simp
  unfold Instr.next;simp only[xCs,g1,g2,xBj,gG,xBX,xDI];show ((choose (.mapNext ((if (left.filter (·.born<since)).isEmpty then #[none] else #[])++(left.filter (·.born<since)++left.filter (·.born ≥ since)).map some:Array (Option MapEntry)).size)).run P w).andThen _=_;rw[lU,Array.size_map,fH];simp only[xBj];have ez:(Array.map some left)[i]?=some (some left[i]):=by
   rw[Array.getElem?_map,xAa hi1];rfl
  rw[ez];simp only[xCs,aQ,xBj,xCt]
theorem zKr{P:Program}{s:Sem Value}{v:Value}{w w':World}(h:s.run P w=.ok v w'):(do pure (Next.value (← s)):Sem Next).run P w=.ok (.value v) w':=by
 simp only[xCs,h,xBj,xCt]
theorem zhM{P:Program}(H:HR lo σ h w){o:Oper}{x:Operand}{s:Bool}(ho:o.op=.next x s)(hT:zJc σ T a o.op.operands.toList){outs:List (Value×AH)}
  (e:zDs s (zAj T x) h=some outs):Done P lo σ o a w outs:=by
 unfold zDs at e;split at e;rotate_left
 ·cases e
 rename_i u hu;have hv:=zAF hT (by rw[ho];simp[Op.operands]) hu;have dt:∀ v' w',(Instr.next (a.eval x) s o.type).run P w=.ok v' w'->(execOp a.eval o).run P w=.ok (.value v') w':=λ v' w' hr=>by
  simp only[execOp,ho];exact zKr hr
 unfold zWs at e;split at e;rotate_left
 ·cases e
 rename_i b;split at e
 ·
  rename_i ver left cur hb;cases e;generalize hq:a.eval x=q at hv dt;cases hv with
  | ptr o' hσ=>
  rename_i l;obtain⟨l',a1,a2,_⟩:=H.live b _ hb;rw[hσ] at a1;cases a1;obtain⟨since,seen,last,b1,b0⟩:=a2;refine Done.one (dt _ _ ?_) (.inl rfl) (Sg.le_refl σ) H (.tuple (.cons (.bool _) .nil)) (Below.refl lo w);rw[b0];unfold Instr.next;simp[zBH b1 (by intros;intro h;cases h)]
 ·rename_i m ver left cur hb;split at e;rotate_left
  ·cases e
  rename_i es ver' hm;split at e
  ·cases e
  rename_i hver;simp only[xBq,Bool.not_eq_false] at hver;rw[beq_true] at hver;subst hver;generalize hq:a.eval x=q at hv dt;cases hv with
  | ptr o' hσ=>
  rename_i l;obtain⟨l',a1,a2,_⟩:=H.live b _ hb;rw[hσ] at a1;cases a1;obtain⟨lm,since,seen,last,b1,⟨b2,b0⟩,b3⟩:=a2;obtain⟨_,c2⟩:=b3 es ver hm;obtain⟨ents,d1,d2,d3⟩:=c2 rfl;subst d2;obtain⟨l2,f1,⟨ents2,clock,f2,f3⟩,_⟩:=H.live m _ hm;rw[b1] at f1;cases f1;rw[d1] at f2;cases f2;obtain⟨st1,st2⟩:=zLR (P:=P) (t:=o.type) b2 d1 f3.born;obtain⟨p,p1,p2⟩:=d3.left;have hsz:(ents.filter λ e=>!seen.contains e.born).size=p.length:=by
   rw[p1.length_eq];simp[← Array.length_toList]
  rw[b0] at dt;simp only[xCu] at dt;split at e
  ·
   cases e;cases p2;refine Done.one (dt _ _ (st1 (by rw[hsz];rfl))) (.inl rfl) (Sg.le_refl σ) H (.tuple (.cons (.bool _) .nil)) (Below.refl lo w)
  ·rename_i aj;cases e;have hp0:p.length≠0:=by
    intro h0;cases p2 with
    | nil=>exact aj rfl
    | cons _ _ _=>simp at h0
   obtain⟨y,y1,w1,y2,_,y3,y4⟩:=st2 (by rw[hsz];exact hp0);have aO:y∈p:=by
    rw[p1.mem_iff];have:=xBF.1 y1;rw[Array.mem_filter] at this;rw[xCW];exact⟨xBF.2 this.1,this.2⟩
   obtain⟨c,c1,q,q1,q2,q3,q4⟩:=zQl (pre:=[]) (preL:=[]) .nil p2 aO;have H1:HR lo σ h w1:=H.heap y2;have eb:znG (AObj.iter (some m) ver left cur)=false:=rfl;have ab:l.blk<w1.heap.size:=by rw[y2];exact zAd b2
   have fz:lm.blk≠l.blk:=by
    intro hh;rw[hh] at d1;rw[d1] at b2;cases b2
   have H2:=H1.upd (.mapIter (some lm.blk) last (seen.push y.born) last) hb hσ eb (by intros;rename_i e;cases e) (o':=.iter (some m) ver c.2 (some c.1)) (by
    refine⟨lm,last,seen.push y.born,last,b1,⟨by rw[World.put_get ab,xDO rfl],b0⟩,λ es' v' hg=>?_⟩;have kX:m≠b:=by intro e;subst e;rw[hm] at hb;cases hb
    rw[AH.get_upd,xDN kX,hm] at hg;cases hg;refine⟨xAF _,λ _=>⟨ents,by rw[World.put_get ab,xDN fz,y2];exact d1,rfl,?_,?_⟩⟩
    ·refine⟨q,(zPu f3.nodup ?_).symm,q3⟩;exact p1.symm.trans q4
    ·intro c' am;cases am;refine⟨y,?_,by simp,q1,q2⟩;have:=p1.mem_iff.1 aO;exact (xCW.1 this).1)
   obtain⟨l3,g1,_,g3⟩:=H.live b _ hb;rw[hσ] at g1;cases g1;refine⟨(.tuple #[.bool true,c.1.1,c.1.2],h.upd b (some (.iter (some m) ver c.2 (some c.1)))),?_,_,_,_,σ,dt _ _ y4,.inl rfl,Sg.le_refl σ,H2,?_,(y3 lo).trans (zEy _ (g3 eb))⟩
   ·rw[xCv];exact⟨c,c1,rfl⟩
   ·exact .tuple (.cons (.bool _) (.cons q1 (.cons q2 .nil)))
 ·cases e
end Go.AM
namespace Go.AM
open Go Go.Proofs Go.RowKit
variable {E:Env} (hE:zCt E) {σ:Sg} {T:Tm} {a:Act} {xs:List Operand} {lo:Nat} {h:AH} {w:World}
theorem zte{a b:ByteArray}(h:(a==b)=true):a=b:=by
 cases a;cases b;exact congrArg _ (eq_of_beq (α:=Array UInt8) h)
theorem zHN:∀ n,(∀ x y,veq n x y=true->x=y)/\(∀ l m,zHl n l m=true->l=m):=by
 intro n
 induction n with
 | zero=>
  refine⟨λ x y eJ=>?_,λ l m ki=>?_⟩
  ·cases x <;> cases y <;> first
    | (simp_all [veq];done)
    | (simp only[veq] at eJ;rw[zte eJ])
  ·cases l <;> cases m <;> simp_all [zHl]
 | succ n ih=>
  refine⟨λ x y eJ=>?_,λ l m ki=>?_⟩
  ·cases x <;> cases y <;> simp only[veq,xBX,xAP,xBl,beq_iff_eq,beq_true] at eJ <;> first
    | (simp_all;done)
    | (rw[zte eJ];done)
    | skip
   ·obtain⟨⟨q1,q2⟩,q3⟩:=eJ;rw[q1,xCC.1 (ih.2 _ _ q2),xCC.1 (ih.2 _ _ q3)]
   ·rw[eJ.1,ih.1 _ _ eJ.2]
   ·rw[xCC.1 (ih.2 _ _ eJ)]
   ·rw[xCC.1 (ih.2 _ _ eJ)]
  ·cases l <;> cases m <;> simp only[zHl,xBX,xAP] at ki <;> first
    | rfl
    | (cases ki;done)
    | (rw[ih.1 _ _ ki.1,ih.2 _ _ ki.2])
theorem zGB:∀(n:Nat) {l:List Value},(∀ v∈l,∃ k m,v=.int k m)->((l.zip l).all λ (x,y)=>Instr.sameBits n x y)=true
 | n,[],_=>rfl
 | n,v::l,H=>by
  obtain⟨k,m,rfl⟩:=H v (by simp);simp only[List.zip_cons_cons,xCj,xAP];refine⟨by cases n <;> simp[Instr.sameBits],zGB n λ u hu=>H u (by simp[hu])⟩
theorem zMb{kt:TypeId}{k:Value}(hk:zEn E kt k=true):Instr.sameBits 10000 k k=true:=by
 obtain⟨d,hd⟩:∃ d,10000=d+1:=⟨9999,rfl⟩;rw[hd];unfold zEn at hk;split at hk
 ·simp[Instr.sameBits]
 ·split at hk
  ·split at hk
   ·simp only[xAP] at hk;have:=zGB d (zE3 hk.2);simp only[Instr.sameBits,xAO,xCk];exact this
   ·cases hk
  ·cases hk
 ·cases hk
def one1(Q:MapEntry->Bool)(l:List MapEntry):Prop:=(l.filter Q).length<=1
theorem zJ8{Q:MapEntry->Bool}{g:MapEntry->MapEntry}:∀ {L:List MapEntry} {i:Nat} {x:MapEntry},one1 Q L->L[i]?=some x->Q x=true->L.modify i g=L.map λ e=>if Q e then g e else e
 | [],i,x,_,hx,_=>by simp at hx
 | y::L,0,x,h1,hx,hq=>by
  simp only[xAl,xAN] at hx;subst hx;unfold one1 at h1;rw[xAo hq] at h1;have h0:L.filter Q=[]:=List.eq_nil_of_length_eq_zero (by simp at h1;simpa using h1);rw[List.filter_eq_nil_iff] at h0;simp only[List.modify_zero_cons,xCi,hq,xDM]
  congr 1
  rw[xBT (g:=id)]
  ·simp
  ·intro z hz;rw[xDN (h0 z hz)];rfl
 | y::L,i+1,x,h1,hx,hq=>by
  simp only[xAj] at hx;have hy:Q y=false:=by
   cases hy:Q y with
   | false=>rfl
   | true=>
    unfold one1 at h1;rw[xAo hy] at h1;have:x∈L.filter Q:=xCW.2 ⟨xBI hx,hq⟩;have:=List.length_pos_of_mem this;rw[xCG] at h1;omega
  have h2:one1 Q L:=by
   unfold one1 at h1 ⊢;rw[xAn (by simp[hy])] at h1;exact h1
  simp only[List.modify_succ_cons,xCi,hy,xBX,xDI];rw[zJ8 h2 hx hq]
include hE in
theorem zI7{kt:TypeId}{k:Value}(ht:∃ kd,und E kt=some (.int kd)\/∃ n e,und E kt=some (.array n e)):∀ {es:List (Value×Value)} {p:List MapEntry} {r:Option Value},EntsR σ es p->zAe E kt k es=some r->
  one1 (λ e=>zCJ E kt k e.key==some true) p/\(r=none->(p.filter λ e=>zCJ E kt k e.key==some true)=[])
 | _,_,r,.nil,_=>⟨by simp[one1],λ _=>rfl⟩
 | _,_,r,.cons (k:=k') (v:=v) (e:=e) (es:=es) (fs:=fs) hk hv hs,hf=>by
  simp only[zAe] at hf;split at hf
  ·rename_i h1 h2;cases hf;obtain⟨_,q2⟩:=zI7 ht hs h2;have eP:=(zCg (σ:=σ) hE h1 ht).2.1 _ hk;refine⟨?_,by simp⟩;unfold one1;rw[xAo (p:=λ (e:MapEntry)=>zCJ E kt k e.key==some true) (by rw[eP,h1];rfl),q2 rfl];simp
  ·rename_i r' h1 h2;cases hf;obtain⟨q1,q2⟩:=zI7 ht hs h2;have eP:=(zCg (σ:=σ) hE h1 ht).2.1 _ hk;have ec:¬ ((zCJ E kt k e.key==some true)=true):=by rw[eP,h1];simp
   refine⟨?_,λ hr=>?_⟩
   ·unfold one1 at q1 ⊢;rw[xAn (p:=λ (e:MapEntry)=>zCJ E kt k e.key==some true) ec];exact q1
   ·rw[xAn (p:=λ (e:MapEntry)=>zCJ E kt k e.key==some true) ec];exact q2 hr
  ·cases hf
include hE in
theorem zFi{kt:TypeId}{k v v':Value}(ht:∃ kd,und E kt=some (.int kd)\/∃ n e,und E kt=some (.array n e))(iP:VR σ k k)(hv:VR σ v v'):∀ {es es':List (Value×Value)} {p:List MapEntry},EntsR σ es p->zBx E kt k v es=some es'->
  EntsR σ es' (p.map λ e=>if (zCJ E kt k e.key==some true)=true then { e with key:=k,val:=v' } else e)
 | _,es',_,.nil,hs=>by simp only[zBx,xAN] at hs;subst hs;exact .nil
 | _,es',_,.cons (k:=k') (v:=u) (e:=e) (es:=es) (fs:=fs) hk hu hr,hs=>by
  simp only[zBx] at hs;split at hs
  ·rename_i r h1 h2;split at hs;rotate_left
   ·cases hs
   rename_i hveq;cases hs;have jz:=(zHN 3).1 _ _ hveq;have eP:=(zCg (σ:=σ) hE h1 ht).2.1 _ hk;simp only[xCi];rw[xDO (by rw[eP,h1];rfl)];exact .cons (jz ▸ iP) hv (zFi ht iP hv hr h2)
  ·rename_i r h1 h2;cases hs;have eP:=(zCg (σ:=σ) hE h1 ht).2.1 _ hk;simp only[xCi];rw[xDN (by rw[eP,h1];simp)];exact .cons hk hu (zFi ht iP hv hr h2)
  ·cases hs
theorem zFc{k v:Value}{e:MapEntry}(hk:VR σ k e.key)(hv:VR σ v e.val):∀ {es:List (Value×Value)} {p:List MapEntry},EntsR σ es p->∃ q,q.Perm (e::p)/\EntsR σ (zBC k v es) q
 | _,_,.nil=>⟨[e],.refl _,.cons hk hv .nil⟩
 | _,_,.cons (k:=k') (v:=u) (e:=f) (es:=es) (fs:=fs) eH aH hs=>by
  simp only[zBC];split
  ·exact⟨e::f::fs,.refl _,.cons hk hv (.cons eH aH hs)⟩
  ·obtain⟨q,q1,q2⟩:=zFc hk hv hs;exact⟨f::q,(q1.cons f).trans (.swap ..),.cons eH aH q2⟩
include hE in
theorem zLX(H:HR lo σ h w){t:TypeId}{m m' k k' v v':Value}(hm:VR σ m m')(hk:VR σ k k')(hv:VR σ v v'){h':AH}(e:zA8 E t m k v h=some h') :
  ∃ w',(Instr.mapUpdate t m' k' v').run E.prog w=.ok () w'/\HR lo σ h' w'/\Below lo w w':=by
 unfold zA8 at e;split at e;rotate_left
 ·cases e
 rename_i kt et b hke;split at e;rotate_left
 ·cases e
 rename_i es ver hb;cases hc:(zEn E kt k&&zm k) with
 | false=>rw[hc] at e;cases e
 | true=>
 rw[hc] at e;simp only[xAP] at hc;simp only[xAG] at e;split at e;rotate_left
 ·cases e
 rename_i es' cz;cases e;obtain⟨ck,eH⟩:=zLd (σ:=σ) hE hc.1;have:=eH _ hk;subst this;have hu:und E t=some (.map kt et):=by
  unfold zMs at hke;split at hke
  ·rename_i k0 e0 h0;cases hke;exact h0
  ·cases hke
 have ht:∃ kd,und E kt=some (.int kd)\/∃ n e,und E kt=some (.array n e):=by
  rcases zG4 hc.1 with ⟨kd,h⟩|h
  ·exact⟨kd,.inl h⟩
  ·exact⟨.i64,.inr h⟩
 cases hm with
 | map hσ=>
 rename_i l;obtain⟨l',a1,⟨ents,clock,m1,m2⟩,a3⟩:=H.live b _ hb;rw[hσ] at a1;cases a1;have ab:=zAd m1;have finish:∀(ents':Array MapEntry) (clock':Nat),MapR σ es' ents' clock'->(Instr.mapUpdate t (.map (some l.blk)) k' v').run E.prog w=.ok () (World.put w l.blk (.map ents' clock'))->
   ∃ w',(Instr.mapUpdate t (.map (some l.blk)) k' v').run E.prog w=.ok () w'/\HR lo σ (h.upd b (some (.map es' (ver+1)))) w'/\Below lo w w':=by
  intro ents' clock' eO hr;refine⟨_,hr,H.upd _ hb hσ rfl (λ es1 v1 e1=>by cases e1;exact⟨es,ver,rfl,by omega⟩) ⟨ents',clock',by rw[World.put_get ab,xDO rfl],eO⟩,zEy _ (a3 rfl)⟩
 have gm:=zBH (P:=E.prog) m1 (by intros;intro h;cases h);have sm:=λ o'=>zFB (P:=E.prog) o' m1 (by intros;intro h;cases h);obtain⟨p,p1,p2⟩:=m2.perm;unfold zBe at cz;split at cz
 ·
  rename_i u hf;obtain⟨r',r1,r2⟩:=zLo hE hc.1 m2 hf w;cases r' with
  | none=>exact r2.elim
  | some pr=>
  obtain⟨i,v0⟩:=pr;obtain⟨_,x,x1,x2,x3⟩:=r2;have hxk:x.key=k':=by
   obtain⟨q,q1,q2,q3⟩:=p2.mem x (p1.mem_iff.2 (xBI (by rw[xAz];exact x1)));obtain⟨bb,jU⟩:=(zCi hf).1 q q1;have e1:=(zCg (σ:=σ) hE jU ht).2.1 _ q2;have e2:zBx E kt k' v es=some es':=cz;have key:∀ {es es':List (Value×Value)},zBx E kt k' v es=some es'->∀ q∈es,zCJ E kt k' q.1=some true->q.1=k':=by
    intro es
    induction es with
    | nil=>intro es' _ q hq;cases hq
    | cons y ys ih=>
     intro es' hs q hq hqt;obtain⟨y1,y2⟩:=y;simp only[zBx] at hs;split at hs
     ·rename_i r g1 g2;split at hs;rotate_left
      ·cases hs
      rename_i hveq;rcases xCg.1 hq with rfl|hq
      ·exact ((zHN 3).1 _ _ hveq).symm
      ·exact ih g2 q hq hqt
     ·rename_i r g1 g2;rcases xCg.1 hq with rfl|hq
      ·rw[g1] at hqt;cases hqt
      ·exact ih g2 q hq hqt
     ·cases hs
   rw[e1] at x3 ⊢;exact key e2 q q1 x3
  have hQ:=zI7 hE ht p2 hf;have hone:one1 (λ e=>zCJ E kt k' e.key==some true) ents.toList:=by
   unfold one1;rw[← (p1.filter _).length_eq];exact hQ.1
  refine finish (ents.modify i λ e=>{ e with key:=k',val:=v' }) clock ?_ ?_
  ·have jt:(ents.modify i λ e=>{ e with key:=k',val:=v' }).toList=ents.toList.map λ e=>if (zCJ E kt k' e.key==some true)=true then { e with key:=k',val:=v' } else e:=by
    rw[Array.toList_modify];exact zJ8 hone (by rw[xAz];exact x1) (by rw[x3];rfl)
   refine⟨?_,?_,p.map (λ e=>if (zCJ E kt k' e.key==some true)=true then { e with key:=k',val:=v' } else e),?_,zFi hE ht (VR.of_isFlat hc.2) hv p2 cz⟩
   ·intro e he;rw[jt] at he;obtain⟨e0,fD,rfl⟩:=xCv.1 he;split <;> exact m2.born e0 fD
   ·rw[jt,List.map_map];have:(ents.toList.map ((λ e=>e.born) ∘ λ e=>if (zCJ E kt k' e.key==some true)=true then ({ e with key:=k',val:=v' }:MapEntry) else e))=ents.toList.map (·.born):=by
     apply xBT;intro e _;simp only[Function.comp];split <;> rfl
    rw[this];exact m2.nodup
   ·rw[jt];exact p1.map _
  ·have kQ:(Instr.keyThatStays (((ents[i]?).map (·.key)).getD k') k').run E.prog w=.ok k' w:=by
    rw[x1];simp only[xCS,xCH,hxk];unfold Instr.keyThatStays;rw[xDO (zMb hc.1)];rfl
   unfold Instr.mapUpdate;simp only[xCs,zo hE hu,xBj,gm,ck,r1,kQ,sm]
 ·
  rename_i hf;cases cz;obtain⟨r',r1,r2⟩:=zLo hE hc.1 m2 hf w;cases r' with
  | some pr=>exact r2.elim
  | none=>
  obtain⟨q,q1,q2⟩:=zFc (σ:=σ) (k:=k') (v:=v) (e:={ key:=k',val:=v',born:=clock }) (VR.of_isFlat hc.2) hv p2;refine finish (ents.push { key:=k',val:=v',born:=clock }) (clock+1) ?_ ?_
  ·refine⟨?_,?_,q,?_,q2⟩
   ·intro e he;rw[Array.toList_push,xCU] at he;rcases he with he|he
    ·have:=m2.born e he;omega
    ·simp at he;subst he;simp
   ·rw[Array.toList_push,xCX,xBr];refine⟨m2.nodup,by simp,?_⟩;intro x hx y hy;simp at hy;subst hy;obtain⟨e,he,rfl⟩:=xCv.1 hx;have:=m2.born e he;omega
   ·rw[Array.toList_push];exact q1.trans ((p1.cons _).trans (by simpa using (List.perm_append_singleton _ _).symm))
  ·unfold Instr.mapUpdate;simp only[xCs,zo hE hu,xBj,gm,ck,r1,sm]
 ·cases cz
include hE in
theorem zF3(H:HR lo σ h w){o:Oper}{t:TypeId}{m k v:Operand}(ho:o.op=.mapUpdate t m k v\/o.op=.insert t m k v)(hT:zJc σ T a o.op.operands.toList){outs:List (Value×AH)}
  (e:zu E t (zAj T m) (zAj T k) (zAj T v) h=some outs):Done E.prog lo σ o a w outs:=by
 have aO:∀ y,(y=m\/y=k\/y=v)->y∈o.op.operands.toList:=by
  intro y hy;rcases ho with ho|ho <;> rw[ho] <;> simp[Op.operands] <;> exact hy
 unfold zu at e;split at e;rotate_left
 ·cases e
 rename_i u1' u2' u3' h1 h2 h3;unfold u1 at e;split at e;rotate_left
 ·cases e
 rename_i h' hh;cases e;obtain⟨w',q1,q2,q3⟩:=zLX hE H (zAF hT (aO _ (.inl rfl)) h1) (zAF hT (aO _ (.inr (.inl rfl))) h2) (zAF hT (aO _ (.inr (.inr rfl))) h3) hh;refine Done.one (nx:=.skip) ?_ (.inr ⟨rfl,rfl⟩) (Sg.le_refl σ) q2 (.tuple .nil) q3;rcases ho with ho|ho <;> simp only[execOp,ho,xCs,q1,xBj,xCt]
end Go.AM
namespace Go.AM
open Go Go.Proofs Go.RowKit
variable {E:Env} (hE:zCt E) {σ:Sg} {T:Tm} {a:Act} {xs:List Operand} {lo:Nat} {h:AH} {w:World}
theorem zGA{P:Program}(H:HR lo σ h w){size:Nat}{x x':Value}(hx:VR σ x x'){n:Nat}{cs:List Value}(e:zBG size x h=some (n,cs)) :
  (∀ w',(Builtin.lenOf x').run P w'=.ok n w')/\cs.length=n*size ∧
  ∀ m,m<=n->∀ w',w'.heap=w.heap->∃ us:List Value,(Builtin.firstCells size m x').run P w'=.ok us.toArray w'/\us.length=m*size/\VRs σ (cs.take (m*size)) us:=by
 have zero:∀ {a':Option Addr} {c':Nat},(∀ w',(Builtin.lenOf (.slice a' 0 c')).run P w'=.ok 0 w')/\([]:List Value).length=0*size ∧
   ∀ m,m<=0->∀ w',w'.heap=w.heap->∃ us:List Value,(Builtin.firstCells size m (.slice a' 0 c')).run P w'=.ok us.toArray w'/\us.length=m*size/\VRs σ (([]:List Value).take (m*size)) us:=λ {a' c'}=>
  ⟨λ _=>rfl,by simp,λ m hm w' _=>⟨[],by
   have:m=0:=by omega
   subst this;cases a' <;> simp[Builtin.firstCells,loadCells,loadCellsFrom],by
   have:m=0:=by omega
   subst this;simp,by simp;exact .nil⟩⟩
 unfold zBG at e;split at e
 ·cases e;cases hx;refine⟨λ _=>rfl,by simp,λ m hm w' _=>⟨[],?_,?_,?_⟩⟩
  ·simp[Builtin.firstCells]
  ·have:m=0:=by omega
   subst this;simp
  ·simp;exact .nil
 ·rename_i b o k c;split at e;rotate_left
  ·split at e;rotate_left
   ·cases e
   rename_i hz;rw[beq_true] at hz;subst hz;cases e;cases hx <;> exact zero
  rename_i vs ty es ro hb;simp only[zAl,zAo,zAL] at e;split at e;rotate_left
  ·cases e
  rename_i hlen;rw[beq_true] at hlen;cases e;have main:∀ {l:Loc} {c':Nat},σ b=some l->∀ m,m<=n->∀ w',w'.heap=w.heap->∃ us:List Value,(Builtin.firstCells size m (.slice (some ⟨l.blk,l.base+o,none⟩) n c')).run P w'=.ok us.toArray w'/\us.length=m*size ∧
    VRs σ (((vs.drop o).take (n*size)).take (m*size)) us:=by
   intro l c' hσ m hm w' dg;obtain⟨l',a1,⟨cc,el,frz,r1,r2⟩,_⟩:=H.live b _ hb;rw[hσ] at a1;cases a1;have hms:m*size<=n*size:=xBH _ hm;obtain⟨us,u1,u2,u3⟩:=zG1 (P:=P) (w:=w') (by rw[dg];exact r1) r2 o (m*size) (by rw[xCD] at hlen ⊢;omega);refine⟨us,u1,u2,?_⟩;rw[List.take_take,Nat.min_eq_left hms];exact u3
  cases hx with
  | slice _ _ _ hσ hc=>exact⟨λ _=>rfl,hlen,main hσ⟩
  | sliceU _ _ _ hσ hc hn=>exact⟨λ _=>rfl,hlen,main hσ⟩
 ·cases e;cases hx <;> exact zero
 ·rename_i s;split at e;rotate_left
  ·cases e
  rename_i hs;rw[beq_true] at hs;subst hs;cases e;cases hx;refine⟨λ _=>rfl,by simp,λ m hm w' _=>⟨((s.data.toList.map λ b=>Value.int .u8 b.toNat).take m),?_,?_,?_⟩⟩
  ·simp only[Builtin.firstCells,xCt]
   congr 1
   apply xDH;simp[ByteArray.data_extract,List.extract_eq_take_drop]
  ·simp only[xCD,xCY,xBQ,Nat.mul_one];exact Nat.min_eq_left hm
  ·rw[Nat.mul_one];exact (VRs.refl_of λ v hv=>by
    obtain⟨b,_,rfl⟩:=xCv.1 (List.mem_of_mem_take hv);exact .int _ _)
 ·cases e
theorem zRR(H:HR lo σ h w){vs:List Value}{cs:Array Value}{ty es tot:Nat}(hv:∀(i:Nat) (v:Value),vs[i]?=some v->∃ u,cs[i]?=some u/\VR σ v u)(cz:cs.size=tot)(hes0:es≠0)(jJ:vs.length<=cs.size) :
  HR lo (σ.ext h.qa ⟨w.heap.size,0,tot,es⟩) (h.new (.row vs ty es false)) (w.alloc (.cells cs ty))/\Sg.le σ (σ.ext h.qa ⟨w.heap.size,0,tot,es⟩)/\Below lo w (w.alloc (.cells cs ty)):=by
 have le:Sg.le σ (σ.ext h.qa ⟨w.heap.size,0,tot,es⟩):=Sg.le_ext H.free;refine⟨H.new _ _ _ rfl ?_,le,zDb w _ H.lo⟩;refine⟨cs,ty,(0,0),by rw[zBI,xDO rfl],?_,?_,λ _=>rfl,rfl,?_,?_⟩
 ·simpa using jJ
 ·intro i v hi;obtain⟨b,q1,q2⟩:=hv i v hi;exact⟨b,by simpa using q1,q2.mono le⟩
 ·intro e;exact absurd e hes0
 ·intro e;exact⟨rfl,by simpa using cz⟩
theorem HR.rename(H:HR lo σ h w){b:Nat}{vs vs':List Value}{ty es o:Nat}{l:Loc}(hb:h.get b=some (.row vs ty es false))(hs:σ b=some l)(cz:es≠0)(ho:o<=l.tot)(cO:∀(i:Nat) (v:Value),vs'[i]?=some v->vs[o+i]?=some v)(hlen:o+vs'.length<=vs.length) :
  HR lo (σ.ext h.qa ⟨l.blk,l.base+o,l.tot-o,es⟩) ((h.upd b none).new (.row vs' ty es false)) w/\Sg.le σ (σ.ext h.qa ⟨l.blk,l.base+o,l.tot-o,es⟩):=by
 have K:=H.kill b;have le:Sg.le σ (σ.ext h.qa ⟨l.blk,l.base+o,l.tot-o,es⟩):=Sg.le_ext H.free;obtain⟨l0,a0,⟨cs,el,frz,r1,r2⟩,d0⟩:=H.live b _ hb;rw[hs] at a0;cases a0;refine⟨⟨?_,?_,?_,?_,H.lo⟩,le⟩
 ·intro c m e;unfold Sg.ext at e;split at e
  ·rename_i hc;subst hc;simp
  ·have:=H.dom _ _ e;simp;omega
 ·intro c hc;rw[AH.get_new];simp at hc;rw[xDN (by simp;omega)];exact K.qb c (by simp;omega)
 ·intro c x e;rw[AH.get_new,AH.next_upd] at e;by_cases hc:c=h.qa
  ·subst hc;rw[xDO rfl] at e;cases e;refine⟨_,Sg.ext_self ..,⟨cs,el,frz,r1,?_,?_,λ _=>r2.free rfl,r2.elt,λ e=>absurd e cz,λ _=>⟨rfl,?_⟩⟩,λ _=>d0 rfl⟩
   ·have:=r2.size;simp;omega
   ·intro i v hi;obtain⟨u,q1,q2⟩:=r2.cell _ _ (cO i v hi);exact⟨u,by simp only;rw[xCh];exact q1,q2.mono le⟩
   ·have:=(r2.grown cz).2;simp only;omega
  ·rw[xDN hc] at e;obtain⟨m,q1,q2,q3⟩:=K.live c x e;refine⟨m,le _ _ q1,q2.mono le rfl (λ i es v lm hi hs=>?_),q3⟩;rw[AH.get_new] at hi;have ai:i≠(h.upd b none).qa:=by intro e;subst e;simp only[AH.next_upd] at hs;rw[H.free] at hs;cases hs
   rw[xDN ai] at hi;exact⟨hi,rfl⟩
 ·intro c c' o1 o2 l1 l2 e1 e2 s1 s2 bU aj;rw[AH.get_new,AH.next_upd] at e1 e2;unfold Sg.ext at s1 s2;have key:∀ {d:Nat} {x:AObj} {m:Loc},(h.upd b none).get d=some x->σ d=some m->m.blk=l.blk->False:=by
   intro d x m hd hm ba;rw[AH.get_upd] at hd;split at hd
   ·cases hd
   ·rename_i hdb;have:=(H.inj d b _ _ _ _ hd hb hm hs ba hdb).2;cases this
  by_cases hc:c=h.qa
  ·rw[xDO hc] at s1;cases s1;rw[xDN (λ e=>aj (hc.trans e.symm))] at e2 s2;exact (key e2 s2 bU.symm).elim
  ·rw[xDN hc] at e1 s1;by_cases am:c'=h.qa
   ·rw[xDO am] at s2;cases s2;exact (key e1 s1 bU).elim
   ·rw[xDN am] at e2 s2;exact K.inj c c' o1 o2 l1 l2 e1 e2 s1 s2 bU aj
section runs
variable {P:Program} {ts:Array TypeId} {ty sT xT elem:TypeId} (h0:ts[0]?=some sT) (h1:ts[1]?=some xT) (hu:∀ w,(underlying sT).run P w=.ok (.slice elem) w)
 {d:TypeDesc} (hd:∀ w,(underlying xT).run P w=.ok d w) (hi:zFb d=false) {size:Nat} (hs:∀ w,(sizeOf elem).run P w=.ok size w)
 {sLen sCap n:Nat} {x':Value} (hn:∀ w',(Builtin.lenOf x').run P w'=.ok n w')
include h0 h1 hu hd hi hs hn
theorem zEH{ad:Addr}{us:List Value}{w':World}(aG:sLen+n<=sCap)(hf:(Builtin.firstCells size n x').run P w=.ok us.toArray w)(af:(storeCells (ad.add (sLen*size)) us).run P w=.ok () w') :
  (Builtin.append_ ts ty #[.slice (some ad) sLen sCap,x']).run P w=.ok (.slice (some ad) (sLen+n) sCap) w':=by
 unfold Builtin.append_;cases d <;> first
  | (cases hi;done)
  | simp[h0,h1,hu,hd,hs,hn,aG,hf,af]
theorem zIW{cs:Array Value}(aG:sLen+n<=sCap)(hf:(Builtin.firstCells size n x').run P w=.ok cs w) :
  (Builtin.append_ ts ty #[.slice none sLen sCap,x']).run P w=.ok (.slice none (sLen+n) sCap) w:=by
 unfold Builtin.append_;cases d <;> first
  | (cases hi;done)
  | simp[h0,h1,hu,hd,hs,hn,aG,hf]
set_option maxHeartbeats 2000000 in
theorem zJg{base:Option Addr}{info:TypeInfo}{z:Value}(lu:P.info? elem=some info)(hz:info.zero=some z)(hg:sCap<sLen+n)(h63:sLen+n<=1000000)(hb:info.bytes<=1000000)
  {olds news:List Value} (hfo:(Builtin.firstCells size sLen (.slice base sLen sCap)).run P w.drew=.ok olds.toArray w.drew) (hf:(Builtin.firstCells size n x').run P w.drew=.ok news.toArray w.drew) :
  (Builtin.append_ ts ty #[.slice base sLen sCap,x']).run P w=.ok (.slice (some ⟨w.heap.size,0,none⟩) (sLen+n) (grownCap w (sLen+n) sCap elem))
    (w.drew.alloc (.cells (olds.toArray++news.toArray++Builtin.zeroCells z.cells (grownCap w (sLen+n) sCap elem-(sLen+n))) elem)):=by
 have hr:¬ (sLen+n<=sCap):=by omega
 have io:IntKind.i64.max=9223372036854775807:=rfl;have mv:¬ ((9223372036854775807:Int)<(sLen:Int)+(n:Int)):=by omega
 have aB:=nextslicecap_le hg;have h2:Builtin.nextslicecap (sLen+n) sCap*info.bytes<=2000000*1000000:=Nat.mul_le_mul (by omega) hb;have h2':¬ (281474976710656<Builtin.nextslicecap (sLen+n) sCap*info.bytes):=by omega
 unfold Builtin.append_;cases d <;> first
  | (cases hi;done)
  | (
   simp[h0,h1,hu,hd,hs,hn,hr,io,mv,h2',zeroValue,typeInfo,lu,hz,Question.forced,Go.newRow,grownCap,hfo,hf]
   congr 2
   apply xDH;simp[xBs])
end runs
end Go.AM
namespace Go.AM
open Go Go.Proofs Go.RowKit
variable {E:Env} (hE:zCt E) {σ:Sg} {T:Tm} {a:Act} {xs:List Operand} {lo:Nat} {h:AH} {w:World}
theorem OR.same{h h':AH}{o:AObj}{l:Loc}(H:OR σ h o l w)(e:∀ b,h'.get b=h.get b):OR σ h' o l w:=
 OR.mono H (Sg.le_refl σ) rfl λ m es v lm hm _=>⟨(e m) ▸ hm,rfl⟩
theorem HR.same{h h':AH}(H:HR lo σ h w)(en:h'.qa=h.qa)(e:∀ b,h'.get b=h.get b):HR lo σ h' w:=
 ⟨λ b l hb=>en ▸ H.dom b l hb,λ b hb=>(e b).trans (H.qb b (en ▸ hb)),λ b o hb=>let ⟨l,x,y,z⟩:=H.live b o ((e b) ▸ hb);⟨l,x,y.same e,z⟩,
  λ b b' o o' l l' h1 h2=>H.inj b b' o o' l l' ((e b) ▸ h1) ((e b') ▸ h2),H.lo⟩
theorem zHa(h:AH)(b:Nat)(x:Option AObj)(y:AObj)(k:Nat):((h.upd b none).new y).get k=(((h.upd b x).upd b none).new y).get k:=by
 rw[AH.get_new,AH.get_new,AH.next_upd,AH.next_upd,AH.next_upd];by_cases dI:k=h.qa
 ·rw[xDO dI,xDO dI]
 ·rw[xDN dI,xDN dI,AH.get_upd,AH.get_upd];by_cases hk2:k=b
  ·rw[xDO hk2,xDO hk2]
  ·rw[xDN hk2,xDN hk2,AH.get_upd,xDN hk2]
def AppR(P:Program)(lo:Nat)(σ:Sg)(w:World)(s:Sem Value)(v:Value)(h':AH):Prop:=
 ∃ v' w' τ,s.run P w=.ok v' w'/\Sg.le σ τ/\HR lo τ h' w'/\VR τ v v'/\Below lo w w'
theorem zIV{i:TI}(h:zF9 i=true):1<=i.size/\i.bytes<=1000000/\∃ z,i.zero=some z/\(zd z).length=i.size:=by
 unfold zF9 at h;simp only[xAP,ble_true] at h;obtain⟨⟨h1,h2⟩,h3⟩:=h;split at h3
 ·rename_i z hz;exact⟨h1,h2,z,hz,by rw[← zAL];exact beq_true.1 h3⟩
 ·cases h3
section
variable {ts:Array TypeId} {ty sT xT elem:TypeId} (h0:ts[0]?=some sT) (h1:ts[1]?=some xT) (hu:zC8 E sT=some elem) {d:TypeDesc} (hd:und E xT=some d) (hi:zFb d=false)
 {i:TI} (dY:zC6 E elem=some i) (fj:zF9 i=true) {n:Nat} {cs:List Value} {x':Value} (hn:∀ w',(Builtin.lenOf x').run E.prog w'=.ok n w') (hlen:cs.length=n*i.size)
 (cH:∀ m,m<=n->∀ w',w'.heap=w.heap->∃ us:List Value,(Builtin.firstCells i.size m x').run E.prog w'=.ok us.toArray w'/\us.length=m*i.size/\VRs σ (cs.take (m*i.size)) us)
include hE h0 h1 hu hd hi dY fj hn hlen cH
theorem zE1{hh:AH}(H:HR lo σ hh w){base:Option Addr}{sLen sCap:Nat}(hg:sCap<sLen+n)(h6:sLen+n<=1000000){own olds:List Value}
  (hfo:(Builtin.firstCells i.size sLen (.slice base sLen sCap)).run E.prog w.drew=.ok olds.toArray w.drew) (hol:own.length=sLen*i.size) (gX:VRs σ own olds) :
  AppR E.prog lo σ w (Builtin.append_ ts ty #[.slice base sLen sCap,x']) (.slice (some ⟨hh.qa,0,none⟩) (sLen+n) (UNK+i.size)) (hh.new (.row (own++cs) elem i.size false)):=by
 obtain⟨fR,iF,z,hz,bN⟩:=zIV fj;obtain⟨info,i1,i2,i3,i4,i5,i6⟩:=hE.ty elem i dY;have hs:zAW E elem=some i.size:=by unfold zAW;unfold zC6 at dY;rw[dY]
 obtain⟨news,n1,n2,n3⟩:=cH n (xAF _) w.drew rfl;rw[xAD (by omega)] at n3;have bQ:=zJg (ty:=ty) (w:=w) h0 h1 (zo hE (zBv hE hu)) (zo hE hd) hi (z8 hE hs) hn i1 (i5.trans hz) hg h6 (by omega) hfo n1;have eA:=grownCap_ge w (sLen+n) sCap elem;have ka:z.cells.size=i.size:=by rw[← bN,zDI];simp
 have hol2:=gX.length;have aj:i.size≠0:=by omega
 obtain⟨r1,r2,r3⟩:=zRR (w:=w.drew) (H.heap rfl) (ty:=elem) (es:=i.size) (tot:=grownCap w (sLen+n) sCap elem*i.size) (vs:=own++cs) (cs:=olds.toArray++news.toArray++Builtin.zeroCells z.cells (grownCap w (sLen+n) sCap elem-(sLen+n))) (by
   intro k v hk;obtain⟨u,q1,q2⟩:=(gX.append n3).get hk;refine⟨u,?_,q2⟩;rw[← Array.getElem?_toList];simp only[xBR];rw[xAb]
   ·exact q1
   ·have:=(xAc.1 q1).1;simpa using this) (by
   simp only[Array.size_append,xBt,size_zeroCells,ka];rw[← hol2,hol,n2,← Nat.add_mul,← Nat.add_mul]
   congr 1
   omega) aj (by
   simp only[Array.size_append,xBt,xBY];have:=n3.length;omega)
 refine⟨_,_,_,bQ,r2,r1,?_,(zFu w).trans r3⟩;have:=VR.sliceU (σ:=σ.ext hh.qa ⟨w.heap.size,0,grownCap w (sLen+n) sCap elem*i.size,i.size⟩) (b:=hh.qa) (l:=⟨w.heap.size,0,grownCap w (sLen+n) sCap elem*i.size,i.size⟩) 0 (sLen+n) (grownCap w (sLen+n) sCap elem) (Sg.ext_self ..) (by simp) eA;exact this
theorem zJI(H:HR lo σ h w){b o len cap c:Nat}{l:Loc}{vs:List Value}{rty es:Nat}(hb:h.get b=some (.row vs rty es false))(hσ:σ b=some l)(aG:len+n<=c)
  (hv:VR σ (.slice (some ⟨b,o,none⟩) (len+n) cap) (.slice (some ⟨l.blk,l.base+o,none⟩) (len+n) c)) {v:Value} {h':AH} (e:zFR b o len n cap (o+len*i.size) cs vs rty es h=some (v,h')) :
  AppR E.prog lo σ w (Builtin.append_ ts ty #[.slice (some ⟨l.blk,l.base+o,none⟩) len c,x']) v h':=by
 unfold zFR at e;cases hc:(cs.all zl&&Nat.ble (o+len*i.size+zBU cs) (zBU vs)) with
 | false=>rw[hc] at e;cases e
 | true=>
 rw[hc] at e;cases e;simp only[xAP,ble_true,zAL] at hc;have hs:zAW E elem=some i.size:=by unfold zAW;unfold zC6 at dY;rw[dY]
 obtain⟨news,n1,n2,n3⟩:=cH n (xAF _) w rfl;rw[xAD (by omega)] at n3;obtain⟨l',a1,⟨cc,el,frz,r1,r2⟩,_⟩:=H.live b _ hb;rw[hσ] at a1;cases a1;obtain⟨cs',s1,s2⟩:=zEG (P:=E.prog) r1 r2 (o+len*i.size) n3 hc.1 hc.2;obtain⟨q1,q2⟩:=H.updRow hb hσ s2;refine⟨_,_,σ,zEH (ty:=ty) (w:=w) h0 h1 (zo hE (zBv hE hu)) (zo hE hd) hi (z8 hE hs) hn aG n1 ?_,Sg.le_refl σ,q1,hv,q2⟩;rw[zB0,xCh];exact s1
theorem zMU{P:Program}{vs us us':List Value}{rty es:Nat}{l:Loc}{cc:Array Value}{el:TypeId}{frz:Nat×Nat}(cz:es≠0)
  (hw:w.heap[l.blk]?=some (.cells cc el frz)) (hr:RowR σ vs rty es false l cc el frz) (hu:VRs σ us us') (dq:us.all zl=true) (hn:l.base+vs.length+us.length<=cc.size) :
  ∃ cs':Array Value,(storeCells ⟨l.blk,l.base+vs.length,none⟩ us').run P w=.ok () (World.put w l.blk (.cells cs' el frz))/\RowR σ (vs++us) rty es false l cs' el frz:=by
 have hf:=hr.free rfl;subst hf;have hlen:=hu.length;have h1:∀ v∈us',v.oneCell'=true:=by
  intro v hv;obtain⟨k,hk⟩:=xAy.1 hv;have ab:k<us.length:=by
   rcases xCq k us.length with h|h
   ·exact h
   ·rw[xAx (by omega)] at hk;cases hk
  obtain⟨b,cj,aN⟩:=hu.get (xAA ab);rw[hk] at cj;cases cj;apply zLc;rw[aN.leaf];exact xCB.1 dq _ (xCF ab)
 have bQ:=run_storeCells_at (P:=P) l.blk (l.base+vs.length) el us' 0 cc w hw (by omega) h1;rw[zGt hw] at bQ;refine⟨_,bQ,?_⟩;have hsz:(cc.toList.take (l.base+vs.length+0)++us'++cc.toList.drop (l.base+vs.length+0+us'.length)).toArray.size=cc.size:=by simp;omega
 refine⟨?_,?_,hr.free,hr.elt,λ e=>absurd e cz,?_⟩
 ·rw[hsz,xBY];omega
 ·intro k v hk;rw[xBA,xBs,xBE];have hm:(cc.toList.take (l.base+vs.length+0)).length=l.base+vs.length:=by simp;omega
  rw[hm];rw[xBE] at hk;split at hk
  ·rename_i ab;rw[xDO (by omega),xAg (by omega),xAz];exact hr.cell k v hk
  ·rename_i eA;rw[xDN (by omega)];obtain⟨u,u1,u2⟩:=hu.get hk;refine⟨u,?_,u2⟩;rw[show l.base+k-(l.base+vs.length)=k-vs.length by omega,xAb]
   ·exact u1
   ·exact (xAc.1 u1).1
 ·intro e;obtain⟨a,b⟩:=hr.grown e;exact⟨a,by rw[hsz];exact b⟩
theorem zQU(H:HR lo σ h w){s s':Value}(hs:VR σ s s'){v:Value}{h':AH}(e:zBj elem i.size s n cs h=some (v,h')):AppR E.prog lo σ w (Builtin.append_ ts ty #[s',x']) v h':=by
 obtain⟨fR,iF,z,hz,bN⟩:=zIV fj;have dX:zAW E elem=some i.size:=by unfold zAW;unfold zC6 at dY;rw[dY]
 unfold zBj at e;split at e
 ·cases hs;by_cases cJ:n=0
  ·rw[cJ] at e;cases e;obtain⟨news,n1,n2,n3⟩:=cH n (xAF _) w rfl;have:=zIW (ty:=ty) (w:=w) h0 h1 (zo hE (zBv hE hu)) (zo hE hd) hi (z8 hE dX) hn (sLen:=0) (sCap:=0) (by omega) n1;rw[cJ] at this;exact⟨_,_,σ,this,Sg.le_refl σ,H,.sliceN _ _,Below.refl _ _⟩
  ·rw[zBw cJ] at e;simp only[xAH] at e;unfold zA2 at e;cases hc:Nat.ble n 1000000 with
   | false=>rw[hc] at e;cases e
   | true=>
   rw[hc] at e;cases e;rw[ble_true] at hc;have:=zE1 (ty:=ty) hE h0 h1 hu hd hi dY fj hn hlen cH H (base:=none) (sLen:=0) (sCap:=0) (own:=[]) (olds:=[]) (by omega) (by omega) (by simp[Builtin.firstCells]) (by simp) .nil;simpa using this
 ·rename_i b o len cap;by_cases cJ:n=0
  ·rw[cJ] at e;cases hc:Nat.ble len cap with
   | false=>rw[hc] at e;cases e
   | true=>
   rw[hc] at e;cases e;rw[ble_true] at hc;obtain⟨news,n1,n2,n3⟩:=cH n (xAF _) w rfl;have jo:news=[]:=List.eq_nil_of_length_eq_zero (by rw[n2,cJ,Nat.zero_mul]);subst jo;have fin:∀ {ad:Addr} {c:Nat},len<=c->(Builtin.append_ ts ty #[.slice (some ad) len c,x']).run E.prog w=.ok (.slice (some ad) len c) w:=by
    intro ad c hlc;have:=zEH (ty:=ty) (w:=w) (w':=w) (ad:=ad) h0 h1 (zo hE (zBv hE hu)) (zo hE hd) hi (z8 hE dX) hn (sLen:=len) (sCap:=c) (by omega) n1 rfl;rw[cJ] at this;exact this
   cases hs with
   | slice _ _ _ hσ aB=>exact⟨_,_,σ,fin hc,Sg.le_refl σ,H,.slice _ _ _ hσ aB,Below.refl _ _⟩
   | sliceU _ _ _ hσ aB hnn=>exact⟨_,_,σ,fin hnn,Sg.le_refl σ,H,.sliceU _ _ _ hσ aB hnn,Below.refl _ _⟩
  ·rw[zBw cJ] at e;simp only[xAH] at e;split at e;rotate_left
   ·cases e
   rename_i vs rty es ro hb;have ownR:∀ {l:Loc} {c:Nat},σ b=some l->((vs.drop o).take (len*i.size)).length=len*i.size->∃ olds:List Value,(Builtin.firstCells i.size len (.slice (some ⟨l.blk,l.base+o,none⟩) len c)).run E.prog w.drew=.ok olds.toArray w.drew ∧
     VRs σ ((vs.drop o).take (len*i.size)) olds:=by
    intro l c hσ hl;obtain⟨l',a1,⟨cc,el,frz,r1,r2⟩,_⟩:=H.live b _ hb;rw[hσ] at a1;cases a1;obtain⟨us,u1,u2,u3⟩:=zG1 (P:=E.prog) (w:=w.drew) r1 r2 o (len*i.size) hl;exact⟨us,u1,u3⟩
   unfold zCs at e;split at e
   ·
    rename_i hU;rw[ble_true] at hU;cases hc:(Nat.beq cap (UNK+i.size)&&Nat.beq es i.size&&!ro&&Nat.beq rty elem) with
    | false=>rw[hc] at e;cases e
    | true=>
    rw[hc] at e;simp only[xAG] at e;simp only[xAP,beq_true,xBq] at hc;obtain⟨⟨⟨c1,c2⟩,c3⟩,c4⟩:=hc;subst c3;cases hs with
    | slice _ _ _ hσ aB=>omega
    | sliceU _ _ c hσ aB hnn=>
    rename_i l;have cz:l.es=i.size:=by omega
    have aj:es≠0:=by omega
    obtain⟨l',a1,⟨cc,el,frz,r1,r2⟩,d0⟩:=H.live b _ hb;rw[hσ] at a1;cases a1;obtain⟨g1,g2⟩:=r2.grown aj;have hsz:=r2.size;rw[cz] at aB;unfold zED at e;cases hA:Nat.ble (o+(len+n)*i.size) (zBU vs) with
    | true=>
     rw[hA] at e;rw[ble_true,zAL] at hA;have aG:len+n<=c:=Nat.le_of_mul_le_mul_right (by omega:(len+n)*i.size<=c*i.size) (by omega);exact zJI (ty:=ty) hE h0 h1 hu hd hi dY fj hn hlen cH H hb hσ aG (.sliceU _ _ _ hσ (by rw[cz];exact aB) aG) e
    | false=>
     rw[hA] at e;simp only[xAH] at e;cases hB:Nat.beq (o+len*i.size) (zBU vs) with
     | false=>rw[hB] at e;cases e
     | true=>
     rw[hB] at e;simp only[xAG] at e;rw[beq_true,zAL] at hB;unfold zEE at e;cases hL:cs.all zl with
     | false=>rw[hL] at e;cases e
     | true=>
     rw[hL] at e;simp only[xAG] at e;unfold zA2 at e;cases h6:Nat.ble (len+n) 1000000 with
     | false=>rw[h6] at e;cases e
     | true=>
     rw[h6] at e;simp only[xAG,xAN,xCl] at e;obtain⟨e1,e2⟩:=e;subst e1 e2;rw[ble_true] at h6;simp only[zAl,zAo];have gp:(vs.drop o).take (len*i.size)=vs.drop o:=xAD (by rw[xCE];omega);have iJ:(vs.drop o).length=len*i.size:=by rw[xCE];omega
     rw[gp];by_cases aG:len+n<=c
     ·
      obtain⟨news,n1,n2,n3⟩:=cH n (xAF _) w rfl;rw[xAD (by omega)] at n3;have hms:(len+n)*i.size<=c*i.size:=xBH _ aG;rw[xDE] at hms;obtain⟨cs',s1,s2⟩:=zMU (P:=E.prog) hE h0 h1 hu hd hi dY fj hn hlen cH aj r1 r2 n3 hL (by rw[g2];omega);obtain⟨q1,q2⟩:=H.updRow hb hσ s2;have hr:=zEH (ty:=ty) (w:=w) h0 h1 (zo hE (zBv hE hu)) (zo hE hd) hi (z8 hE dX) hn aG n1 (ad:=⟨l.blk,l.base+o,none⟩) (by
       rw[zB0,show l.base+o+len*i.size=l.base+vs.length by omega];exact s1)
      obtain⟨k1,k2⟩:=HR.rename q1 (b:=b) (vs:=vs++cs) (vs':=vs.drop o++cs) (ty:=rty) (es:=es) (o:=o) (l:=l) (by rw[AH.get_upd,xDO rfl]) hσ aj (by omega) (by
       intro k u hk;rw[← List.drop_append_of_le_length (by omega),xBW] at hk;exact hk) (by simp;omega)
      subst c2 c4;refine⟨_,_,_,hr,k2,k1.same rfl (λ k=>?_),?_,q2⟩
      ·exact zHa ..
      ·have:=VR.sliceU (σ:=σ.ext h.qa ⟨l.blk,l.base+o,l.tot-o,i.size⟩) (b:=h.qa) (l:=⟨l.blk,l.base+o,l.tot-o,i.size⟩) 0 (len+n) c (Sg.ext_self ..) (by simp only;omega) aG;exact this
     ·obtain⟨olds,o1,o2⟩:=ownR (c:=c) hσ (by rw[gp];exact iJ);rw[gp] at o2;have:=zE1 (ty:=ty) hE h0 h1 hu hd hi dY fj hn hlen cH (H.kill b) (base:=some ⟨l.blk,l.base+o,none⟩) (sLen:=len) (sCap:=c) (own:=vs.drop o) (olds:=olds) (by omega) h6 o1 iJ o2;exact this
   ·rename_i hU;rw[ble_false] at hU;cases hs with
    | sliceU _ _ _ hσ aB hnn=>omega
    | slice _ _ _ hσ aB=>
    rename_i l;cases hA:Nat.ble (len+n) cap with
    | true=>
     rw[hA] at e;rw[ble_true] at hA;cases ro with
     | true=>cases e
     | false=>exact zJI (ty:=ty) hE h0 h1 hu hd hi dY fj hn hlen cH H hb hσ hA (.slice _ _ _ hσ aB) e
    | false=>
     rw[hA] at e;simp only[xAH] at e;rw[ble_false] at hA;simp only[zAl,zAo,zAL] at e;cases hB:Nat.beq ((vs.drop o).take (len*i.size)).length (len*i.size) with
     | false=>rw[hB] at e;cases e
     | true=>
     rw[hB] at e;rw[beq_true] at hB;simp only[xAG] at e;unfold zA2 at e;cases h6:Nat.ble (len+n) 1000000 with
     | false=>rw[h6] at e;cases e
     | true=>
     rw[h6] at e;simp only[xAG,xAN,xCl] at e;obtain⟨e1,e2⟩:=e;subst e1 e2;rw[ble_true] at h6;obtain⟨olds,o1,o2⟩:=ownR (c:=cap) hσ hB;exact zE1 (ty:=ty) hE h0 h1 hu hd hi dY fj hn hlen cH H (base:=some ⟨l.blk,l.base+o,none⟩) (sLen:=len) (sCap:=cap) hA h6 o1 hB o2
 ·cases e
end
end Go.AM
namespace Go.AM
open Go Go.Proofs Go.RowKit
variable {E:Env} (hE:zCt E) {σ:Sg} {T:Tm} {a:Act} {xs:List Operand} {lo:Nat} {h:AH} {w:World}
include hE in
theorem zKu(H:HR lo σ h w){ts:Array TypeId}{ty:TypeId}{s s' x x':Value}(hs:VR σ s s')(hx:VR σ x x'){v:Value}{h':AH}(e:zBD E ts.toList s x h=some (v,h')) :
  AppR E.prog lo σ w (Builtin.append_ ts ty #[s',x']) v h':=by
 unfold zBD at e;split at e;rotate_left
 ·cases e
 rename_i sT xT rest dX;split at e;rotate_left
 ·cases e
 rename_i elem d hu hd;cases hi:zFb d with
 | true=>rw[hi] at e;cases e
 | false=>
 rw[hi] at e;simp only[xAH] at e;split at e;rotate_left
 ·cases e
 rename_i i dY;unfold zCQ at e;split at e;rotate_left
 ·cases e
 rename_i n cs d9;cases fj:zF9 i with
 | false=>rw[fj] at e;cases e
 | true=>
 rw[fj] at e;simp only[xAG] at e;obtain⟨q1,q2,q3⟩:=zGA (P:=E.prog) H hx d9;have h0:ts[0]?=some sT:=by rw[← Array.getElem?_toList,dX];rfl
 have h1:ts[1]?=some xT:=by rw[← Array.getElem?_toList,dX];rfl
 exact zQU (ty:=ty) hE h0 h1 hu hd hi dY fj q1 q2 q3 H hs e
include hE in
theorem zVw(H:HR lo σ h w){ts:Array TypeId}{ty t:TypeId}(h0:ts[0]?=some t){x x':Value}(hx:VR σ x x'){outs:List (Value×AH)}(e:zIM E t x h=some outs) :
  ∃ v h',outs=[(v,h')]/\AppR E.prog lo σ w (Builtin.clear_ ts ty #[x']) v h':=by
 unfold zIM at e;split at e
 ·rename_i el _ _ aS;cases e;cases hx;refine⟨_,_,rfl,_,w,σ,?_,Sg.le_refl σ,H,.tuple .nil,Below.refl _ _⟩;simp[Builtin.clear_,h0,zo hE (zBv hE aS)]
 ·rename_i el b o n c aS;have hu:=zo hE (zBv hE aS);by_cases hn:n=0
  ·subst hn;cases e;refine⟨_,_,rfl,.tuple #[],w,σ,?_,Sg.le_refl σ,H,.tuple .nil,Below.refl _ _⟩;cases hx <;> simp[Builtin.clear_,h0,hu]
  ·rw[zBw hn] at e;simp only[xAH] at e;unfold zIE at e;split at e;rotate_left
   ·cases e
   rename_i z size vs rty es hz hs hb;cases hc:(Nat.ble (o+n*size) (zBU vs)&&(zd z).all zl&&Nat.beq (zBU (zd z)) size) with
   | false=>rw[hc] at e;cases e
   | true=>
   rw[hc] at e;cases e;simp only[xAP,ble_true,beq_true,zAL] at hc;obtain⟨⟨c1,c2⟩,c3⟩:=hc;refine⟨_,_,rfl,?_⟩;have fZ:VR σ z z:=VR.of_flat 4 z (zDJ hE hz);have iC:VRs σ (rep n (zd z)) (rep n (zd z)):=by
    have:=fZ.cells;rw[← zDI] at this;exact this.rep n
   have dq:(rep n (zd z)).all zl=true:=by
    have aux:∀ k,(rep k (zd z)).all zl=true:=by
     intro k
     induction k with
     | zero=>rfl
     | succ k ih=>simp only[rep,List.all_append,c2,ih,xCm]
    exact aux n
   have cC:(Builtin.zeroCells z.cells n).toList=rep n (zd z):=by
    have ka:z.cells.size=size:=by rw[← c3,zDI];simp
    unfold Builtin.zeroCells;rw[ka];by_cases iB:n*size=0
    ·have:(rep n (zd z)).length=0:=by rw[zDD,c3];exact iB
     rw[xAm.1 this,iB];simp
    ·have:=zLE c3 n iB;rw[ka] at this;exact this
   have main:∀ {l:Loc} {c':Nat},σ b=some l->AppR E.prog lo σ w (Builtin.clear_ ts ty #[.slice (some ⟨l.blk,l.base+o,none⟩) n c']) (.tuple #[]) (h.upd b (some (.row (lput vs o (rep n (zd z))) rty es false))):=by
    intro l c' hσ;obtain⟨l',a1,⟨cc,elt,frz,r1,r2⟩,_⟩:=H.live b _ hb;rw[hσ] at a1;cases a1;obtain⟨cs',s1,s2⟩:=zEG (P:=E.prog) r1 r2 o iC dq (by rw[zDD,c3];exact c1);obtain⟨q1,q2⟩:=H.updRow hb hσ s2;refine⟨.tuple #[],_,σ,?_,Sg.le_refl σ,q1,.tuple .nil,q2⟩;obtain⟨k,rfl⟩:∃ k,n=k+1:=⟨n-1,by omega⟩;simp[Builtin.clear_,h0,hu,zGC hE hz,cC,s1]
   cases hx with
   | slice _ _ _ hσ aB=>exact main hσ
   | sliceU _ _ _ hσ aB hnn=>exact main hσ
 ·cases e
include hE in
theorem zhO(H:HR lo σ h w){ts:Array TypeId}{ty t:TypeId}(h0:ts[0]?=some t){x x' y y':Value}(hx:VR σ x x')(hy:VR σ y y'){outs:List (Value×AH)}(e:zVv E t x y h=some outs) :
  ∃ v h',outs=[(v,h')]/\AppR E.prog lo σ w (Builtin.copy_ ts ty #[x',y']) v h':=by
 unfold zVv at e;split at e;rotate_left
 ·cases e
 rename_i el b o dn c aS;have hu:=zo hE (zBv hE aS);split at e;rotate_left
 ·cases e
 rename_i size hs;split at e;rotate_left
 ·cases e
 rename_i sn cs d9;obtain⟨q1,q2,q3⟩:=zGA (P:=E.prog) H hy d9;have hk:cond (Nat.ble sn dn) sn dn=Nat.min sn dn:=by
  cases hb:Nat.ble sn dn with
  | true=>rw[ble_true] at hb;simp only[xAG];exact (Nat.min_eq_left hb).symm
  | false=>rw[ble_false] at hb;simp only[xAH];exact (Nat.min_eq_right (Nat.le_of_lt hb)).symm
 rw[hk] at e;unfold zP8 at e;split at e;rotate_left
 ·cases e
 rename_i vs rty es hb;cases hc:(Nat.ble (o+Nat.min sn dn*size) (zBU vs)&&cs.all zl) with
 | false=>rw[hc] at e;cases e
 | true=>
 rw[hc] at e;cases e;simp only[xAP,ble_true,zAL] at hc;refine⟨_,_,rfl,?_⟩;have dr:Nat.min sn dn<=sn:=Nat.min_le_left ..;obtain⟨us,u1,u2,u3⟩:=q3 _ dr w rfl;have bK:Nat.min sn dn*size<=sn*size:=xBH _ dr;have main:∀ {l:Loc} {c':Nat},σ b=some l->AppR E.prog lo σ w (Builtin.copy_ ts ty #[.slice (some ⟨l.blk,l.base+o,none⟩) dn c',y']) (.int .i64 (Nat.min sn dn:Nat)) (h.upd b (some (.row (lput vs o (zFU (Nat.min sn dn*size) cs)) rty es false))):=by
  intro l c' hσ;obtain⟨l',a1,⟨cc,elt,frz,r1,r2⟩,_⟩:=H.live b _ hb;rw[hσ] at a1;cases a1;rw[zAl];obtain⟨cs',s1,s2⟩:=zEG (P:=E.prog) r1 r2 o u3 (xCB.2 λ v hv=>xCB.1 hc.2 v (List.mem_of_mem_take hv)) (by rw[xCD];omega);obtain⟨k1,k2⟩:=H.updRow hb hσ s2;refine⟨_,_,σ,?_,Sg.le_refl σ,k1,.int _ _,k2⟩;simp[Builtin.copy_,h0,hu,q1,z8 hE hs,u1,s1,goInt]
 cases hx with
 | slice _ _ _ hσ aB=>exact main hσ
 | sliceU _ _ _ hσ aB hnn=>exact main hσ
theorem zIq{P:Program}{e:TypeId}(hc:P.cellsOf e=1)(count off n:Nat)(hn:off+n<=count):liesAt P P.depth e count off e n=true:=by
 have hd:P.depth=(2*(P.types.size+Made.depth)+1)+1:=rfl;rw[hd];simp only[liesAt,xCZ];left;rw[hd];simp[rowAt,hc,hn,sameLayout,Nat.mod_one]
theorem zKq:∀ {l:List Value} {bs:List UInt8},zHI l=some bs->l.length=bs.length/\∀(j:Nat) (b:UInt8),bs[j]?=some b->∃ i:Int,l[j]?=some (.int .u8 i)/\i.toNat.toUInt8=b
 | [],bs,h=>by cases h;simp
 | v::l,bs,h=>by
  cases v with
  | int k i=>
   cases k <;> first
    | (
      simp only[zHI] at h;split at h
      ·rename_i r hr;cases h;obtain⟨q1,q2⟩:=zKq hr;refine⟨by simp[q1],λ j b hj=>?_⟩;cases j with
       | zero=>simp at hj;subst hj;exact⟨i,rfl,rfl⟩
       | succ j=>simp only[xAj] at hj ⊢;exact q2 j b hj
      ·cases h)
    | (simp[zHI] at h;done)
  | _=>simp[zHI] at h
theorem zFY{P:Program}:∀(l:List UInt8) (ad:Addr) (acc:ByteArray),(∀(j:Nat) (b:UInt8),l[j]?=some b->∃ i:Int,w.cell? (ad.add j)=some (.int .u8 i)/\i.toNat.toUInt8=b)->
  (loadBytes ad acc l.length).run P w=.ok ⟨acc.data++l.toArray⟩ w
 | [],ad,acc,_=>by simp[loadBytes]
 | x::l,ad,acc,hh=>by
  obtain⟨i,h0,hx⟩:=hh 0 x rfl;have h0':w.cell? ad=some (.int .u8 i):=by simpa[Addr.add] using h0
  have ih:=zFY (P:=P) l (ad.add 1) (acc.push x) (λ j y hy=>by
   have:=hh (j+1) y (by simpa using hy);have e:(ad.add 1).add j=ad.add (j+1):=by
    unfold Addr.add;by_cases hj:j=0
    ·subst hj;simp
    ·simp[hj];omega
   rw[e];exact this)
  simp only[xCG,loadBytes,xCs,run_load,h0',Result.andThen,hx];rw[ih]
  congr 1
  apply ByteArray.ext;simp[ByteArray.push]
theorem zTn{g o n:Nat}{cs:Array Value}{el:TypeId}{frz:Nat×Nat}(hn:n≠0)(hg:w.heap[g]?=some (.cells cs el frz)):∃ frz',w.freeze ⟨g,o,none⟩ n=World.put w g (.cells cs el frz'):=by
 have ab:=zAd hg;refine⟨if frz.1==frz.2 then (o,o+n) else (min frz.1 o,max frz.2 (o+n)),?_⟩;unfold World.freeze World.put;rw[xDN hn]
 congr 1
 apply Array.ext
 ·simp
 ·intro i h1 h2;rw[Array.getElem_modify];by_cases e:g=i
  ·subst e;have:w.heap[g]=.cells cs el frz:=(xAV.1 hg).2;obtain⟨f1,f2⟩:=frz;simp[this]
  ·rw[Array.getElem_setIfInBounds]
   ·simp[e]
   ·simpa using h1
include hE in
theorem zHk(H:HR lo σ h w){ts:Array TypeId}{ty t:TypeId}(h0:ts[0]?=some t){x x' y y':Value}(hx:VR σ x x')(hy:VR σ y y'){outs:List (Value×AH)}(e:zCB E t x y h=some outs) :
  ∃ v h',outs=[(v,h')]/\AppR E.prog lo σ w (Builtin.unsafeString_ ts ty #[x',y']) v h':=by
 unfold zCB at e;split at e;rotate_left
 ·cases e
 rename_i b o n hn;obtain⟨kd,kv⟩:=zDA hy hn;subst kv;unfold zoE at e;split at e;rotate_left
 ·cases e
 rename_i vs rty es hb;split at e;rotate_left
 ·cases e
 rename_i bs aK;cases hc:(Nat.beq (zBU bs) n&&Nat.ble 1 n&&Nat.ble n 9223372036854775807&&zqS E t rty) with
 | false=>rw[hc] at e;cases e
 | true=>
 rw[hc] at e;cases e;simp only[xAP,beq_true,ble_true,zAL] at hc;obtain⟨⟨⟨c1,c2⟩,c3⟩,c4⟩:=hc;refine⟨_,_,rfl,?_⟩;simp only[zAl,zAo] at aK;obtain⟨b1,b2⟩:=zKq aK;cases hx with
 | ptr _ hσ=>
 rename_i l;obtain⟨l',a1,⟨cc,elt,frz,r1,r2⟩,_⟩:=H.live b _ hb;rw[hσ] at a1;cases a1;unfold zqS at c4;split at c4;rotate_left
 ·cases c4
 rename_i et het;split at c4;rotate_left
 ·cases c4
 rename_i hsz;rw[beq_true] at c4;subst c4;have aS:=r2.elt;subst aS;have gJ:E.prog.cellsOf elt=1:=by
  obtain⟨info,i1,i2⟩:=zCV hE hsz;simp[Program.cellsOf,i1,i2]
 have hol:o+n<=vs.length:=by
  rw[xCD,xCE] at b1;omega
 have aT:=r2.size;obtain⟨frz',hf⟩:=zTn (w:=w) (o:=l.base+o) (n:=n) (by omega) r1;have cu:RowR σ vs elt es true l cc elt frz':=⟨r2.size,r2.cell,(λ h=>by cases h),rfl,(λ _ h=>by cases h),r2.grown⟩;obtain⟨k1,k2⟩:=H.updRow hb hσ cu;refine⟨_,_,σ,?_,Sg.le_refl σ,k1,.string _,k2⟩;have hlb:=zFY (P:=E.prog) (w:=w) bs ⟨l.blk,l.base+o,none⟩ .empty (by
  intro j x hj;obtain⟨i,q1,q2⟩:=b2 j x hj;refine⟨i,?_,q2⟩;rw[zB0,zFs r1];have aJ:j<n:=by rw[← c1];exact (xAc.1 hj).1
  rw[xAg aJ,xBW] at q1;obtain⟨u,u1,u2⟩:=r2.cell _ _ q1;cases u2;rw[xCh];exact u1)
 have gt:=zIq (P:=E.prog) gJ (cc.size / E.prog.cellsOf elt) (l.base+o) n (by rw[gJ,Nat.div_one];omega);have io:IntKind.i64.max=9223372036854775807:=rfl;have h63':¬ (9223372036854775807:Int)<(n:Int):=by omega
 have ec:¬ (n:Int)<0:=by omega
 have cJ:n≠0:=by omega
 have hs:w.shape? l.blk=some (elt,cc.size):=zDh r1;rw[c1] at hlb
 conv in Builtin.unsafeString_ _ _ _=>whnf
 simp[asInt,asIntOf,io,h63',ec,cJ,h0,variablesAt,hs,elemOf,zo hE het,gt,hlb,hf]
end Go.AM
namespace Go.AM
open Go Go.Proofs Go.RowKit
variable {E:Env} (hE:zCt E) {σ:Sg} {T:Tm} {a:Act} {xs:List Operand} {lo:Nat} {h:AH} {w:World}
def zFw(lo:Nat)(σ:Sg)(w:World)(outs:List (Value×AH))(v':Value)(w':World):Prop:=
 ∃ x∈outs,∃ τ,Sg.le σ τ/\HR lo τ x.2 w'/\VR τ x.1 v'/\Below lo w w'
def Ret(G:Value->World->Prop):Ending->World->Prop
 | .returned v,w=>G v w
 | _,_=>False
def Upon(P:Program)(G:Value->World->Prop):Result Next->Prop
 | .ok (.value v) w'=>G v w'
 | .ok .skip w'=>G undef w'
 | .ok (.enter f args) w'=>CallsIn Fence.wide 0 P f args w' (Ret G)
 | .ok (.round l f tmps aas body) w'=>RoundIn Fence.wide 0 P l f tmps aas body w' (Ret G)
 | _=>False
def FW(F:Fence):Prop:=F=Fence.wide\/∃ l,F=Fence.wide.inRound l
theorem FW.fn{F:Fence}(h:FW F)(f:FuncId):F.fn f:=by
 rcases h with rfl|⟨l,rfl⟩ <;> trivial
theorem FW.depth{F:Fence}(h:FW F):¬ F.depth.isSome=true:=by
 rcases h with rfl|⟨l,rfl⟩ <;> simp[Fence.wide,Fence.inRound]
theorem FW.fenced{F:Fence}(h:FW F)(P:Program):Machine.fenced P F=Machine.fenced P Fence.wide:=by
 rcases h with rfl|⟨l,rfl⟩ <;> rfl
theorem FW.calls{F:Fence}(h:FW F){n m:Nat}{P:Program}{f:FuncId}{args:Array Value}{R:Ending->World->Prop}(H:CallsIn Fence.wide m P f args w R):CallsIn F n P f args w R:=
 ⟨h.fn f,λ cs _=>by rw[h.fenced];exact H.2 cs (room_wide _)⟩
theorem FW.rounds{F:Fence}(h:FW F){n m:Nat}{P:Program}{l:Nat}{f:FuncId}{tmps:Array Value}{aas body:Code}{R:Ending->World->Prop}(H:RoundIn Fence.wide m P l f tmps aas body w R):RoundIn F n P l f tmps aas body w R:=
 ⟨h.fn f,λ c cs _=>by rw[h.fenced];exact H.2 c cs (room_wide _)⟩
theorem Upon.uponIn{F:Fence}(hF:FW F){n:Nat}{P:Program}{o:Oper}{next:Act->World->Prop}{Q:Exit->Act->World->Prop}{G:Value->World->Prop}{r:Result Next}
  (H:Upon P G r) (hn:∀ v w',G v w'->next (a.put o.dst v) w'):o.uponIn F n P a next Q r:=by
 unfold Upon at H;split at H
 ·exact hn _ _ H
 ·exact hn _ _ H
 ·refine⟨λ h=>absurd h hF.depth,hF.calls (CallsIn.mono H λ e w he=>?_)⟩;cases e <;> first|exact hn _ _ he|exact he.elim
 ·refine⟨λ h=>absurd h hF.depth,hF.rounds (RoundIn.mono H λ e w he=>?_)⟩;cases e <;> first|exact hn _ _ he|exact he.elim
 ·exact H.elim
theorem Upon.wpIn{F:Fence}(hF:FW F){n:Nat}{P:Program}{o:Oper}{next:Act->World->Prop}{Q:Exit->Act->World->Prop}{G:Value->World->Prop}
  (H:Upon P G ((execOp a.eval o).run P w)) (hd:∀ c,o.op≠.defer c) (hn:∀ v w',G v w'->next (a.put o.dst v) w'):o.wpIn F n P a w next Q:=
 ⟨λ _ _=>hF.fn _,by rw[Oper.semAt_eq _ _ _ hd];exact H.uponIn hF hn⟩
theorem Done.upon{P:Program}{o:Oper}{outs:List (Value×AH)}(H:Done P lo σ o a w outs):Upon P (zFw lo σ w outs) ((execOp a.eval o).run P w):=by
 obtain⟨x,hx,nx,v',w',τ,r,hn,le,hr,hv,hb⟩:=H;rw[r];rcases hn with rfl|⟨rfl,rfl⟩
 ·exact⟨x,hx,τ,le,hr,hv,hb⟩
 ·exact⟨x,hx,τ,le,hr,hv,hb⟩
structure RecOps(E:Env)(rec:Rec):Prop where
 call:∀ {lo:Nat} {σ:Sg} {h:AH} {w:World} {f:FuncId} {args args':List Value} {outs:List (Value×AH)},HR lo σ h w->VRs σ args args'->rec.call f args h=some outs->
  Upon E.prog (zFw lo σ w outs) ((callFunc f args'.toArray).run E.prog w)
 round:∀ {lo:Nat} {σ:Sg} {h:AH} {w:World} {l:Nat} {loc:Loc} {args args':List Value} {outs:List (Value×AH)},HR lo σ h w->σ l=some loc->VRs σ args args'->rec.round l args h=some outs->
  Upon E.prog (zFw lo σ w outs) ((Instr.yield loc.blk args'.toArray).run E.prog w)
theorem zX4{rec:Rec}(ah:RecOps E rec)(H:HR lo σ h w){fn:Fn}{fs cs:Array Value}{f':Value}(hf:VR σ (.func fn fs cs) f'){args args':List Value}(ha:VRs σ args args'){outs:List (Value×AH)}
  (e:callFn rec fn fs.toList args cs.toList h=some outs):∃ d:Deferred,(∀ w,(Deferred.ofValue f' args'.toArray).run E.prog w=.ok d w)/\Upon E.prog (zFw lo σ w outs) ((invoke d.target d.args).run E.prog w):=by
 unfold callFn at e;split at e
 ·cases hf with
  | func f hfs aT=>
  rename_i fs' cs';refine⟨{ target:=.fn (.func _) cs',args:=fs'++args'.toArray },λ _=>rfl,?_⟩;have:=ah.call H ((hfs.append ha).append aT) e;simp only[invoke];have hl:fs'++args'.toArray++cs'=(fs'.toList++args'++cs'.toList).toArray:=by apply xDH;simp
  rw[hl];exact this
 ·cases hf with
  | yield hσ hfs aT=>
  rename_i l _ fs' cs';refine⟨{ target:=.fn (.yield _) cs',args:=fs'++args'.toArray },λ _=>rfl,?_⟩;have:=ah.round H hσ (hfs.append ha) e;simp only[invoke];have hl:fs'++args'.toArray=(fs'.toList++args').toArray:=by apply xDH;simp
  rw[hl];exact this
 ·cases e
theorem zGn{x:Option Value}{outs:List (Value×AH)}(e:v1 x h=some outs):∃ v,x=some v/\outs=[(v,h)]:=by
 unfold v1 at e;split at e
 ·cases e;exact⟨_,rfl,rfl⟩
 ·cases e
theorem AppR.upon{P:Program}{o:Oper}{c:Call}{b:Builtin}(ho:o.op=.call c)(hb:c.callee=.builtin b){v:Value}{h':AH}{s:Sem Value}(H:AppR P lo σ w s v h')
  (hx:∀ consts,builtin b c.argTypes o.type consts (c.args.map a.eval)=(do pure (.value (← s)):Sem Next)):Upon P (zFw lo σ w [(v,h')]) ((execOp a.eval o).run P w):=by
 obtain⟨v',w',τ,r,le,hr,hv,dV⟩:=H;rw[zHd ho hb,hx,zKr r];exact⟨(v,h'),by simp,τ,le,hr,hv,dV⟩
theorem VRs.two{x y:Value}{l:List Value}(hh:VRs σ [x,y] l):∃ x' y',l=[x',y']/\VR σ x x'/\VR σ y y':=by
 cases hh with
 | cons h1 hs=>cases hs with
  | cons h2 hs=>cases hs;exact⟨_,_,rfl,h1,h2⟩
theorem VRs.one1{x:Value}{l:List Value}(hh:VRs σ [x] l):∃ x',l=[x']/\VR σ x x':=by
 cases hh with
 | cons h1 hs=>cases hs;exact⟨_,rfl,h1⟩
include hE in
theorem zO8(H:HR lo σ h w){o:Oper}{c:Call}{b:Builtin}(ho:o.op=.call c)(hb:c.callee=.builtin b)(hT:zJc σ T a o.op.operands.toList){vs:List Value}(cO:zBu T c.args.toList=some vs)
  {outs:List (Value×AH)} (e:zE8 E b c vs h=some outs):Upon E.prog (zFw lo σ w outs) ((execOp a.eval o).run E.prog w):=by
 have ao:=zFI hT (ys:=c.args.toList) (λ y hy=>by rw[ho];simp only[Op.operands,Call.operands,hb,xBR,xCU];exact .inr hy) cO;have ay:∀ l:List Value,c.args.toList.map a.eval=l->c.args.map a.eval=⟨l⟩:=λ l hl=>by apply xDH;simp[hl]
 unfold zE8 at e;split at e
 ·rename_i s x _;obtain⟨s',x',h1,h2,h3⟩:=ao.two;unfold v2 at e;split at e
  ·rename_i r hr;cases e;obtain⟨v,h'⟩:=r;exact AppR.upon ho hb (zKu (ty:=o.type) hE H h2 h3 hr) (λ _=>by rw[ay _ h1];rfl)
  ·cases e
 ·rename_i x t _ dX;obtain⟨x',h1,h2⟩:=ao.one1;have h0:c.argTypes[0]?=some t:=by rw[← Array.getElem?_toList,dX];rfl
  obtain⟨v,h',rfl,hA⟩:=zVw (ty:=o.type) hE H h0 h2 e;exact AppR.upon ho hb hA (λ _=>by rw[ay _ h1];rfl)
 ·rename_i d s t _ dX;obtain⟨d',s',h1,h2,h3⟩:=ao.two;have h0:c.argTypes[0]?=some t:=by rw[← Array.getElem?_toList,dX];rfl
  obtain⟨v,h',rfl,hA⟩:=zhO (ty:=o.type) hE H h0 h2 h3 e;exact AppR.upon ho hb hA (λ _=>by rw[ay _ h1];rfl)
 ·rename_i p n t _ dX;obtain⟨p',n',h1,h2,h3⟩:=ao.two;have h0:c.argTypes[0]?=some t:=by rw[← Array.getElem?_toList,dX];rfl
  obtain⟨v,h',rfl,hA⟩:=zHk (ty:=o.type) hE H h0 h2 h3 e;exact AppR.upon ho hb hA (λ _=>by rw[ay _ h1];rfl)
 ·cases e
include hE in
theorem zKi{rec:Rec}(ah:RecOps E rec)(H:HR lo σ h w){o:Oper}(hT:zJc σ T a o.op.operands.toList){outs:List (Value×AH)}(e:evWrite E rec T o h=some outs) :
  Upon E.prog (zFw lo σ w outs) ((execOp a.eval o).run E.prog w)/\∀ c,o.op≠.defer c:=by
 unfold evWrite at e;split at e
 ·rename_i t ho;exact⟨(zVx hE H ho e).upon,λ c hc=>by rw[ho] at hc;cases hc⟩
 ·rename_i t x ho;exact⟨(zoB H ho hT e).upon,λ c hc=>by rw[ho] at hc;cases hc⟩
 ·rename_i t x y ho;exact⟨(zVt hE H ho hT e).upon,λ c hc=>by rw[ho] at hc;cases hc⟩
 ·rename_i t len ps ho;exact⟨(zJe hE H ho hT e).upon,λ c hc=>by rw[ho] at hc;cases hc⟩
 ·rename_i t ho;cases e;exact⟨(zO7 H ho).upon,λ c hc=>by rw[ho] at hc;cases hc⟩
 ·rename_i t l c ho;exact⟨(zLH hE H ho hT e).upon,λ c hc=>by rw[ho] at hc;cases hc⟩
 ·rename_i t m k v ho;exact⟨(zF3 hE H (.inl ho) hT e).upon,λ c hc=>by rw[ho] at hc;cases hc⟩
 ·rename_i t m k v ho;exact⟨(zF3 hE H (.inr ho) hT e).upon,λ c hc=>by rw[ho] at hc;cases hc⟩
 ·rename_i t x ho;split at e
  ·rename_i k v hu;exact⟨(zVu hE H ho hT e ⟨k,v,hu⟩).upon,λ c hc=>by rw[ho] at hc;cases hc⟩
  ·cases e
 ·rename_i x s ho;exact⟨(zhM H ho hT e).upon,λ c hc=>by rw[ho] at hc;cases hc⟩
 ·rename_i c ho;refine⟨?_,λ c hc=>by rw[ho] at hc;cases hc⟩;unfold wCall at e;split at e
  ·rename_i b hb;split at e
   ·rename_i vs cO;exact zO8 hE H ho hb hT cO e
   ·cases e
  ·rename_i f hf;unfold zAs at e;split at e
   ·rename_i fn fs cs args hfv ao;have h1:=zAF hT (x:=f) (by rw[ho];simp[Op.operands,Call.operands,hf]) hfv;have h2:=zFI hT (ys:=c.args.toList) (λ y hy=>by rw[ho];simp only[Op.operands,Call.operands,hf,xBR,xCU];exact .inr hy) ao;obtain⟨d,d1,d2⟩:=zX4 ah H h1 h2 e;have ay:c.args.map a.eval=(c.args.toList.map a.eval).toArray:=by apply xDH;simp
    simp only[execOp,ho,resolve,hf,xCs,ay,d1,xBj];exact d2
   ·cases e
  ·cases e
 ·cases e
include hE in
theorem zpL{rec:Rec}(ah:RecOps E rec)(H:HR lo σ h w){o:Oper}(hT:zJc σ T a o.op.operands.toList){outs:List (Value×AH)}(e:evOp E rec T o h=some outs) :
  Upon E.prog (zFw lo σ w outs) ((execOp a.eval o).run E.prog w)/\∀ c,o.op≠.defer c:=by
 unfold evOp at e;split at e
 ·obtain⟨v,hv,rfl⟩:=zGn e;obtain⟨v',q1,q2⟩:=zNI hE hT hv;refine⟨?_,λ c hc=>by simp[zw,hc] at hv⟩;rw[q1 w];exact⟨(v,h),by simp,σ,Sg.le_refl σ,H,q2,Below.refl _ _⟩
 ·obtain⟨v,hv,rfl⟩:=zGn e;obtain⟨v',q1,q2⟩:=zNF hE H hT hv;refine⟨?_,λ c hc=>by simp[zh,hc] at hv⟩;rw[q1];exact⟨(v,h),by simp,σ,Sg.le_refl σ,H,q2,Below.refl _ _⟩
 ·exact zKi hE ah H hT e
end Go.AM
namespace Go.AM
open Go Go.Proofs Go.RowKit
variable {E:Env} (hE:zCt E) {σ:Sg} {T:Tm} {a:Act} {lo:Nat} {h:AH} {w:World} {F:Fence} (hF:FW F)
theorem zKs{α β:Type}{f:α->R β}:∀ {l:List α} {bs:List β},bindL f l=some bs->∀ b∈l,∃ cs,f b=some cs/\∀ c∈cs,c∈bs
 | [],bs,_,b,hb=>by cases hb
 | a::aas,bs,h,b,hb=>by
  simp only[bindL] at h;split at h
  ·cases h
  ·rename_i xs h1;split at h
   ·cases h
   ·rename_i ys h2;cases h;rcases xCg.1 hb with rfl|hb
    ·exact⟨xs,h1,λ c hc=>by simp[hc]⟩
    ·obtain⟨cs,q1,q2⟩:=zKs h2 b hb;exact⟨cs,q1,λ c hc=>by simp[q2 c hc]⟩
theorem zAi{α β:Type}{x:R α}{f:α->R β}{bs:List β}(h:R.andThen x f=some bs):∃ l,x=some l/\∀ b∈l,∃ cs,f b=some cs/\∀ c∈cs,c∈bs:=by
 unfold R.andThen at h;split at h
 ·cases h
 ·rename_i b;exact⟨[b],rfl,λ c hc=>by simp at hc;subst hc;exact⟨bs,h,λ d hd=>hd⟩⟩
 ·rename_i l _;exact⟨l,rfl,zKs h⟩
inductive DefsR(σ:Sg):List Nat->List Deferred->Prop
 | nil:DefsR σ [] []
 | cons {b:Nat} {l:Loc} {bs:List Nat} {ds:List Deferred} (h:σ b=some l) (hs:DefsR σ bs ds):DefsR σ (b::bs) ({ target:=.collected l.blk,args:=#[] }::ds)
theorem DefsR.mono{σ τ:Sg}(le:Sg.le σ τ):∀ {bs:List Nat} {ds:List Deferred},DefsR σ bs ds->DefsR τ bs ds
 | _,_,.nil=>.nil
 | _,_,.cons h hs=>.cons (le _ _ h) (DefsR.mono le hs)
structure StR(n lo:Nat)(σ:Sg)(st:St)(a:Act)(w:World):Prop where
 T:TmR σ st.T a.tmps
 H:HR lo σ st.h w
 D:DefsR σ st.defs a.defers
 n:st.T.n=n
theorem TmR.ops(hT:TmR σ T a.tmps)(xs:List Operand):zJc σ T a xs:=λ t _=>hT.get t
theorem zDy{all:Array Oper}{o:Oper}{b:Bool}(hg:∀ d,d∈zRQ all.toList o->VR σ (T.get d) (a.tmps.getD d undef))(e:zDL o all.toList T=some b):Region.wanted o (yielded all a.tmps)=b:=by
 unfold zDL at e;unfold Region.wanted;split at e
 ·rename_i cw;cases e;simp[cw]
 ·rename_i j want hj;simp only[hj];unfold yielded;split at e
  ·rename_i oj hoj;rw[zAI,xAz] at hoj;rw[hoj];simp only[xCI];split at e
   ·rename_i d hd;have hv:=hg d (by unfold zRQ;rw[hj];simp only;rw[zAI,xAz,hoj];simp[hd]);rw[hd];simp only[xCI];rw[xAT] at hv;cases ht:a.tmps[d]? with
    | none=>
     rw[ht] at hv;simp only[Option.getD_none] at hv;generalize hq:T.get d=q at hv e;cases hv;simp only[xAN] at e;simp[e]
    | some v=>
     rw[ht] at hv;simp only[xCH] at hv;generalize hq:T.get d=q at hv e;cases hv <;> simp only[xAN] at e <;> simp[← e]
   ·rename_i hd;cases e;rw[hd];simp
  ·rename_i hoj;cases e;rw[zAI,xAz] at hoj;rw[hoj];simp
theorem zIi{n:Nat}{o:Oper}(h:zHT n o=true){d:Tmp}(hd:o.dst=some d):d<n:=by
 unfold zHT at h;rw[hd] at h;exact ble_true.1 h
theorem TmR.putDst{n:Nat}(hT:TmR σ T a.tmps)(hn:T.n=n){o:Oper}(hf:zHT n o=true){v v':Value}(hv:VR σ v v'):TmR σ (AM.putDst T o.dst v) (a.put o.dst v').tmps:=by
 unfold AM.putDst Act.put;cases hd:o.dst with
 | none=>simpa using hT
 | some d=>exact hT.put (by rw[hn];exact zIi hf hd) hv
theorem zH0(T:Tm)(d:Option Tmp)(v:Value):(AM.putDst T d v).n=T.n:=by
 unfold AM.putDst;split <;> rfl
theorem Act.put_defers'(a:Act)(d:Option Tmp)(v:Value):(a.put d v).defers=a.defers:=by
 unfold Act.put;split <;> rfl
include hE hF in
theorem zh6{rec:Rec}(ah:RecOps E rec){n k:Nat}{all:Array Oper}(ak:∀ o∈all.toList,zHT n o=true){Q:Exit->Act->World->Prop}:∀(rest:List Oper) (i:Nat),all.toList.drop i=rest->
  ∀ {σ:Sg} {st:St} {a:Act} {w:World} {outs:List St},StR n lo σ st a w->evOps E rec all.toList rest st=some outs->
  (∀ st'∈outs,∀ τ a' w',Sg.le σ τ->StR n lo τ st' a' w'->Below lo w w'->Q .normal a' w')->wpOpsIn F k E.prog all Q (List.range' i rest.length) a w:=by
 intro rest
 induction rest with
 | nil=>
  intro i hi σ st a w outs af e hQ;simp only[evOps,one,xAN] at e;subst e;simp only[xCR,List.range'_zero,wpOpsIn];exact hQ st (by simp) σ a w (Sg.le_refl σ) af (Below.refl _ _)
 | cons o rest ih=>
  intro i hi σ st a w outs af e hQ;have hoi:all[i]?=some o:=by
   rw[← Array.getElem?_toList];have:=congrArg (·[0]?) hi;simpa[xBW] using this
  have cU:all.toList.drop (i+1)=rest:=by
   have:all.toList.drop (i+1)=(all.toList.drop i).drop 1:=by rw[List.drop_drop]
   rw[this,hi];rfl
  have hof:zHT n o=true:=ak o (xBI (by rw[xAz];exact hoi));simp only[xCG,List.range'_succ,wpOpsIn,hoi];simp only[evOps] at e;split at e
  ·rename_i hw;have b9:=zDy (a:=a) (λ d _=>af.T.get d) hw;rw[xDO b9];obtain⟨xs,hx,az⟩:=zAi e;obtain⟨kJ,bp⟩:=zpL hE ah af.H (af.T.ops _) hx;refine kJ.wpIn hF bp λ v w' hg=>?_;obtain⟨x,dZ,τ,le,hr,hv,hb⟩:=hg;obtain⟨cs,hc,aq⟩:=az x dZ;refine ih (i+1) cU (σ:=τ) ⟨(af.T.mono le).putDst af.n hof hv,hr,?_,?_⟩ hc λ st' hm υ a' w'' le' aV ar=>?_
   ·rw[Act.put_defers'];exact af.D.mono le
   ·show (AM.putDst _ _ _).n=_;rw[zH0];exact af.n
   ·exact hQ st' (aq _ hm) υ a' w'' (Sg.le_trans le le') aV (hb.trans ar)
  ·rename_i hw;have b9:=zDy (a:=a) (λ d _=>af.T.get d) hw;rw[xDN (by rw[b9];simp)];refine⟨λ f _=>hF.fn f,?_⟩;refine ih (i+1) cU (σ:=σ) (st:=⟨AM.putDst st.T o.dst undef,st.h,st.defs⟩) ⟨af.T.putDst (v':=undef) af.n hof (.tuple .nil),af.H,?_,?_⟩ e λ st' hm υ a' w'' le' aV ar=>hQ st' hm υ a' w'' le' aV ar
   ·rw[Act.put_defers'];exact af.D
   ·show (AM.putDst _ _ _).n=_;rw[zH0];exact af.n
  ·cases e
end Go.AM
namespace Go.AM
open Go Go.Proofs Go.RowKit
theorem zGO(m i:Nat):zC5 m i=m.testBit i:=by
 unfold zC5 Nat.testBit;show Nat.beq ((m >>> i) &&& 1) 1=(1 &&& (m >>> i) != 0);rw[Nat.and_comm 1];rw[Nat.and_one_is_mod];rcases Nat.mod_two_eq_zero_or_one (m >>> i) with h|h <;> rw[h] <;> rfl
theorem zLZ(a b j:Nat):(Nat.lor a b).testBit j=(a.testBit j||b.testBit j):=Nat.testBit_or a b j
theorem zRG(a b j:Nat):(Nat.land a b).testBit j=(a.testBit j&&b.testBit j):=Nat.testBit_and a b j
theorem zPA(k j:Nat):(2 ^ k).testBit j=decide (k=j):=Nat.testBit_two_pow
theorem zAH(m i j:Nat):(zBt m i).testBit j=(m.testBit j||decide (i=j)):=by
 unfold zBt;rw[zLZ,zPA]
theorem zER:∀(es:List Edge) (j:Nat),(zDX es).testBit j=true ↔ ∃ e∈es,Region.binds .any e=true/\e.on=j
 | [],j=>by simp[zDX]
 | e::es,j=>by
  simp only[zDX];cases hb:Region.binds .any e with
  | true=>
   simp only[xAG];rw[zLZ,xCZ,zPA,zER es j];simp only[xBl,xAQ,xCJ,hb,xDJ]
  | false=>
   simp only[xAH];rw[zER es j];simp only[xAQ,xCJ,hb,xBX,false_and,false_or]
theorem zQ6:∀(l:List Nat) (k:Nat),zS8 l k=l[k]?.getD 0
 | [],k=>by simp[zS8]
 | a::l,0=>rfl
 | a::l,k+1=>by simp[zS8,zQ6 l k]
theorem zEX(acc:List Nat):∀(es:List Edge) (j:Nat),(zDc acc es).testBit j=true ↔ ∃ e∈es,Region.binds .any e=true/\(e.on=j\/(zS8 acc e.on).testBit j=true)
 | [],j=>by simp[zDc]
 | e::es,j=>by
  simp only[zDc];cases hb:Region.binds .any e with
  | true=>
   simp only[xAG];rw[zLZ,zLZ,xCZ,xCZ,zPA,zEX acc es j];simp only[xBl,xAQ,xCJ,hb,xDJ]
  | false=>
   simp only[xAH];rw[zEX acc es j];simp only[xAQ,xCJ,hb,xBX,false_and,false_or]
theorem zGF(p:PO)(done:Nat):zBk p done=true ↔ ∀ j,p.dep.testBit j=true->done.testBit j=true:=by
 unfold zBk;rw[beq_true];constructor
 ·intro h j hj;have:=congrArg (λ m=>m.testBit j) h;simp only[zRG,hj,xCk] at this;exact this
 ·intro h;apply Nat.eq_of_testBit_eq;intro j;rw[zRG];cases hj:p.dep.testBit j with
  | true=>rw[h j hj];rfl
  | false=>rfl
structure zR0(total:List PO)(all:List Oper)(k:Nat)(p:PO):Prop where
 i:p.i=k
 o:all[k]?=some p.o
 dep:p.dep=zDX p.o.after.toList
 db:∀ j,p.dep.testBit j=true->p.bef.testBit j=true
 bef:∀ j,p.bef.testBit j=true->∃ e∈p.o.after.toList,Region.binds .any e=true/\(e.on=j\/∃ q,total[e.on]?=some q/\q.bef.testBit j=true)
theorem zWh:∀(os:List Oper) (pre:List PO) (all:List Oper),all.drop pre.length=os->∀(k:Nat) (p:PO),pre.length<=k->(pre++prep pre.length (pre.map PO.bef) os)[k]?=some p->
  zR0 (pre++prep pre.length (pre.map PO.bef) os) all k p
 | [],pre,all,_,k,p,hk,h=>by simp[prep] at h;rw[xAx hk] at h;cases h
 | o::os,pre,all,aD,k,p,hk,h=>by
  have d8:pre++prep pre.length (pre.map PO.bef) (o::os) =
    (pre++[⟨pre.length,o,zDX o.after.toList,zDc (pre.map PO.bef) o.after.toList⟩])++prep (pre++[(⟨pre.length,o,zDX o.after.toList,zDc (pre.map PO.bef) o.after.toList⟩:PO)]).length ((pre++[(⟨pre.length,o,zDX o.after.toList,zDc (pre.map PO.bef) o.after.toList⟩:PO)]).map PO.bef) os:=by
   simp[prep]
  rcases Nat.lt_or_eq_of_le hk with ab|dU
  ·rw[d8] at h ⊢;refine zWh os _ all ?_ k p (by simp;omega) h;rw[xBY];have:all.drop (pre.length+[(⟨pre.length,o,zDX o.after.toList,zDc (pre.map PO.bef) o.after.toList⟩:PO)].length)=(all.drop pre.length).drop 1:=by rw[List.drop_drop];rfl
   rw[this,aD];rfl
  ·subst dU;simp only[prep] at h;rw[xAX (xAF _)] at h;simp only[Nat.sub_self,xAl,xAN] at h;subst h;refine⟨rfl,?_,rfl,?_,?_⟩
   ·have:=congrArg (·[0]?) aD;simpa[xBW] using this
   ·intro j hj;obtain⟨e,e1,e2,e3⟩:=(zER _ _).1 hj;exact (zEX _ _ _).2 ⟨e,e1,e2,.inl e3⟩
   ·intro j hj;rw[zEX] at hj;obtain⟨e,e1,e2,e3⟩:=hj;refine⟨e,e1,e2,e3.imp id λ e4=>?_⟩;rw[zQ6,xBi] at e4;cases hq:pre[e.on]? with
    | none=>rw[hq] at e4;simp at e4
    | some q=>
     rw[hq] at e4;exact⟨q,by rw[xAb (xAc.1 hq).1];exact hq,by simpa using e4⟩
theorem zFk:∀(os:List Oper) (i:Nat) (acc:List Nat),(prep i acc os).length=os.length
 | [],_,_=>rfl
 | _::os,i,acc=>by simp[prep,zFk os]
theorem zWj{all:List Oper}{k:Nat}{p:PO}(h:(prep 0 [] all)[k]?=some p):zR0 (prep 0 [] all) all k p:=by
 have:=zWh all [] all rfl k p (xDF _) (by simpa using h);simpa using this
variable {E:Env} (hE:zCt E) {lo n:Nat} {F:Fence} (hF:FW F)
def Ran(L:Array Bool)(k:Nat):Prop:=L.getD k false=true
def zJi(all:List Oper)(p:PO):List Tmp:=zDz p.o.op.operands.toList++zRQ all p.o
theorem mem_tmpsOf:∀ {xs:List Operand} {t:Tmp},t∈zDz xs ↔ Operand.tmp t∈xs
 | [],t=>by simp[zDz]
 | x::xs,t=>by cases x <;> simp[zDz,mem_tmpsOf (xs:=xs)]
theorem writes_iff{q:PO}{t:Tmp}:zBZ q t=true ↔ q.o.dst=some t:=by
 unfold zBZ;split
 ·rename_i d hd;rw[beq_true,hd];simp
 ·rename_i hd;rw[hd];simp
structure Reg(all:Array Oper)(ps:List PO)(n:Nat):Prop where
 prep:∀(k:Nat) (p:PO),ps[k]?=some p->zR0 ps all.toList k p
 len:ps.length=all.size
 fit:∀ o∈all.toList,zHT n o=true
 ok:zFF all.toList ps=true
namespace Reg
variable {all:Array Oper} {ps:List PO} (R:Reg all ps n)
include R
theorem mem{p:PO}(h:p∈ps):ps[p.i]?=some p:=by
 obtain⟨k,hk⟩:=xAy.1 h;have:=(R.prep k p hk).i;rw[this];exact hk
theorem mem_at{p:PO}(h:p∈ps):zR0 ps all.toList p.i p:=R.prep _ _ (R.mem h)
theorem inj{p q:PO}(hp:p∈ps)(hq:q∈ps)(h:p.i=q.i):p=q:=by
 have a:=R.mem hp;have b:=R.mem hq;rw[h,b] at a;cases a;rfl
theorem lt{p:PO}(h:p∈ps):p.i<all.size:=by
 rw[← R.len];exact (xAc.1 (R.mem h)).1
theorem op{p:PO}(h:p∈ps):all[p.i]?=some p.o:=by rw[← Array.getElem?_toList];exact (R.mem_at h).o
theorem fits{p:PO}(h:p∈ps):zHT n p.o=true:=R.fit _ (xBI (R.mem_at h).o)
theorem atIdx{k:Nat}(h:k<all.size):∃ p∈ps,p.i=k:=by
 rw[← R.len] at h;exact⟨ps[k],xCF h,(R.prep k _ (xAA h)).i⟩
theorem ordered{p q:PO}(hp:p∈ps)(hq:q∈ps){t:Tmp}(ht:t∈zJi all.toList p)(hw:zBZ q t=true):p.i=q.i\/p.bef.testBit q.i=true\/q.bef.testBit p.i=true:=by
 have h:=R.ok;unfold zFF at h;have h1:=xCB.1 h p hp;simp only[xAP,xCB] at h1;have h2:=h1.1.1.1 t ht q hq;rw[hw] at h2;simp only[xAL,xCn,AM.ordered,xCZ,beq_true,zGO] at h2;rcases h2 with (h2|h2)|h2
 ·exact .inl h2
 ·exact .inr (.inl h2)
 ·exact .inr (.inr h2)
theorem dep_lt{p:PO}(hp:p∈ps){j:Nat}(hj:p.dep.testBit j=true):j<p.i:=by
 have h:=R.ok;unfold zFF at h;have h1:=xCB.1 h p hp;simp only[xAP] at h1;have h2:=ble_true.1 h1.1.2;rcases xCq j p.i with h'|h'
 ·exact h'
 ·have:=Nat.testBit_lt_two_pow (x:=p.dep) (i:=j) (xAC (by omega:p.dep<2 ^ p.i) (Nat.pow_le_pow_right (by omega) h'));rw[hj] at this;cases this
theorem dst{p q:PO}(hp:p∈ps)(hq:q∈ps){t:Tmp}(h1:zBZ p t=true)(h2:zBZ q t=true):p=q:=by
 have h:=R.ok;unfold zFF at h;have h3:=(xCB.1 h p hp);simp only[xAP] at h3;have h4:=h3.2;rw[writes_iff.1 h1] at h4;have h5:=xCB.1 h4 q hq;rw[h2] at h5;simp only[xAL,xCn,beq_true] at h5;exact R.inj hp hq h5
theorem dep_iff{p:PO}(hp:p∈ps)(j:Nat):p.dep.testBit j=true ↔ ∃ e∈p.o.after.toList,Region.binds .any e=true/\e.on=j:=by
 rw[(R.mem_at hp).dep];exact zER _ _
theorem closed{S:Nat->Prop}(hS:∀ q∈ps,S q.i->∀ j,q.bef.testBit j=true->S j){p:PO}(hp:p∈ps)(hd:∀ j,p.dep.testBit j=true->S j):∀ j,p.bef.testBit j=true->S j:=by
 intro j hj;obtain⟨e,e1,e2,e3⟩:=(R.mem_at hp).bef j hj;have he:=hd e.on ((R.dep_iff hp _).2 ⟨e,e1,e2,rfl⟩);rcases e3 with rfl|⟨q,q1,q2⟩
 ·exact he
 ·have:=(R.prep _ _ q1).i;exact hS q (xBI q1) (by rw[this];exact he) j q2
end Reg
structure Pend(E:Env)(all:Array Oper)(ps:List PO)(T0 T:Tm)(rds:List Rd)(h:AH)(p:PO)(Tp:Tm):Prop where
 late:∀ t∈zJi all.toList p,(∀ q∈ps,zBZ q t=true->p.bef.testBit q.i=true->Tp.get t=T.get t)/\((∀ q∈ps,zBZ q t=true->¬ p.bef.testBit q.i=true)->Tp.get t=T0.get t)
 val:∃ b v,zDL p.o all.toList Tp=some b/\(b=false->v=undef)/\(b=true->zDW E Tp p.o h=some v/\(∀ c,cls p.o.op=c->c=.read->(⟨p.i,Tp,p.o,v⟩:Rd)∈rds))/\∀ d,p.o.dst=some d->T.get d=v
structure DI(E:Env)(n lo:Nat)(all:Array Oper)(ps:List PO)(T0:Tm)(defs:List Nat)(σ:Sg)(T:Tm)(done:Nat)(rds:List Rd)(rest:List PO)(h:AH)(L:Array Bool)(a:Act)(w:World):Prop where
 H:HR lo σ h w
 n0:T0.n=n
 nT:T.n=n
 size:a.tmps.size=n
 Lsize:L.size=all.size
 sub:∀ k,Ran L k->done.testBit k=true
 lcl:∀ q∈ps,Ran L q.i->∀ j,q.bef.testBit j=true->Ran L j
 dcl:∀ q∈ps,done.testBit q.i=true->∀ j,q.bef.testBit j=true->done.testBit j=true
 left:∀ p∈rest,p∈ps/\done.testBit p.i=false
 nodup:rest.Nodup
 cover:∀ p∈ps,done.testBit p.i=false->p∈rest
 old:∀ t,(∀ q∈ps,zBZ q t=true->done.testBit q.i=false)->T.get t=T0.get t
 ran:∀ t,∀ q∈ps,zBZ q t=true->Ran L q.i->VR σ (T.get t) (a.tmps.getD t undef)
 kept:∀ t,(∀ q∈ps,zBZ q t=true->¬ Ran L q.i)->VR σ (T0.get t) (a.tmps.getD t undef)
 pend:∀ p∈ps,done.testBit p.i=true->¬ Ran L p.i->∃ Tp,Pend E all ps T0 T rds h p Tp
 D:DefsR σ defs a.defers
section
variable {all:Array Oper} {ps:List PO} (R:Reg all ps n) {T0 T:Tm} {defs:List Nat} {σ:Sg} {done:Nat} {rds:List Rd} {rest:List PO} {h:AH} {L:Array Bool} {a:Act} {w:World}
theorem DI.look(R:Reg all ps n)(I:DI E n lo all ps T0 defs σ T done rds rest h L a w){p:PO}(hp:p∈ps)(dL:¬ Ran L p.i)(hb:∀ j,p.bef.testBit j=true->Ran L j){Tp:Tm}
  (late:∀ t∈zJi all.toList p,(∀ q∈ps,zBZ q t=true->p.bef.testBit q.i=true->Tp.get t=T.get t)/\((∀ q∈ps,zBZ q t=true->¬ p.bef.testBit q.i=true)->Tp.get t=T0.get t)) :
  ∀ t∈zJi all.toList p,VR σ (Tp.get t) (a.tmps.getD t undef):=by
 intro t ht;obtain⟨l1,l2⟩:=late t ht;by_cases hq:∃ q∈ps,zBZ q t=true/\p.bef.testBit q.i=true
 ·obtain⟨q,q1,q2,q3⟩:=hq;rw[l1 q q1 q2 q3];exact I.ran t q q1 q2 (hb _ q3)
 ·have cw:∀ q∈ps,zBZ q t=true->¬ p.bef.testBit q.i=true:=λ q q1 q2 q3=>hq ⟨q,q1,q2,q3⟩;rw[l2 cw];refine I.kept t λ q q1 q2 hr=>?_;rcases R.ordered hp q1 ht q2 with e|e|e
  ·exact dL (e ▸ hr)
  ·exact cw q q1 q2 e
  ·exact dL (I.lcl q q1 hr _ e)
theorem DI.now(R:Reg all ps n)(I:DI E n lo all ps T0 defs σ T done rds rest h L a w){p:PO}(hp:p∈ps)(bp:done.testBit p.i=false) :
  ∀ t∈zJi all.toList p,(∀ q∈ps,zBZ q t=true->p.bef.testBit q.i=true->T.get t=T.get t)/\((∀ q∈ps,zBZ q t=true->¬ p.bef.testBit q.i=true)->T.get t=T0.get t):=by
 intro t ht;refine⟨λ _ _ _ _=>rfl,λ cw=>I.old t λ q q1 q2=>?_⟩;cases hd:done.testBit q.i with
 | false=>rfl
 | true=>
  rcases R.ordered hp q1 ht q2 with e|e|e
  ·rw[e,hd] at bp;cases bp
  ·exact absurd e (cw q q1 q2)
  ·have:=I.dcl q q1 hd _ e;rw[bp] at this;cases this
end
theorem zB2{L:Array Bool}{i:Nat}(hi:i<L.size)(k:Nat):Ran (L.setIfInBounds i true) k ↔ k=i\/Ran L k:=by
 unfold Ran;rw[xAT,xAT,xAS];by_cases h:i=k
 ·subst h;simp[hi]
 ·rw[xDN h];constructor
  ·intro x;exact .inr x
  ·rintro (x|x)
   ·exact absurd x.symm h
   ·exact x
theorem zCd(T:Tm)(o:Option Tmp)(v:Value)(t:Tmp):(AM.putDst T o v).get t=if o=some t then v else T.get t:=by
 unfold AM.putDst;split
 ·rename_i d;rw[Tm.get_put];by_cases e:t=d
  ·subst e;simp
  ·rw[xDN e,xDN (λ h=>e (by cases h;rfl))]
 ·rw[xDN (by intro h;cases h)]
theorem zH8{a:Act}(o:Option Tmp)(v:Value)(t:Tmp)(hs:∀ d,o=some d->d<a.tmps.size):(a.put o v).tmps.getD t undef=if o=some t then v else a.tmps.getD t undef:=by
 unfold Act.put;cases ho:o with
 | none=>simp
 | some d=>
  have:=hs d ho;simp only[xAT,xAS];by_cases e:d=t
  ·subst e;simp[this]
  ·rw[xDN e,xDN (λ h=>e (by cases h;rfl))]
theorem zMW(a:Act)(o:Option Tmp)(v:Value):(a.put o v).tmps.size=a.tmps.size:=by
 unfold Act.put;split <;> simp
section
variable {all:Array Oper} {ps:List PO} {T0 T:Tm} {defs:List Nat} {σ:Sg} {done:Nat} {rds:List Rd} {rest:List PO} {h:AH} {L:Array Bool} {a:Act} {w:World}
theorem DI.add(R:Reg all ps n)(I:DI E n lo all ps T0 defs σ T done rds rest h L a w){p:PO}(hp:p∈rest)(hr:zBk p done=true){b:Bool}{v:Value}(hw:zDL p.o all.toList T=some b)
  (hf:b=false->v=undef) (ht:b=true->zDW E T p.o h=some v) {rds':List Rd} (hs:∀ r∈rds,r∈rds') (hn:b=true->∀ c,cls p.o.op=c->c=.read->(⟨p.i,T,p.o,v⟩:Rd)∈rds')
  {rest':List PO} (r1:∀ q∈rest',q∈rest/\q≠p) (r2:∀ q∈rest,q≠p->q∈rest') (r3:rest'.Nodup) :
  DI E n lo all ps T0 defs σ (AM.putDst T p.o.dst v) (zBt done p.i) rds' rest' h L a w:=by
 obtain⟨dx,bp⟩:=I.left p hp;have dL:¬ Ran L p.i:=λ hr=>by have:=I.sub _ hr;rw[bp] at this;cases this
 have dW:=R.closed (S:=λ j=>done.testBit j=true) I.dcl dx ((zGF p done).1 hr);have aA:∀ t,∀ q∈ps,zBZ q t=true->done.testBit q.i=true->(AM.putDst T p.o.dst v).get t=T.get t:=by
  intro t q q1 q2 q3;rw[zCd,xDN];intro e;have:=R.dst dx q1 (writes_iff.2 e) q2;subst this;rw[bp] at q3;cases q3
 refine⟨I.H,I.n0,by rw[zH0];exact I.nT,I.size,I.Lsize,?_,I.lcl,?_,?_,r3,?_,?_,?_,I.kept,?_,I.D⟩
 ·intro k hk;rw[zAH,I.sub k hk];rfl
 ·intro q q1 q2 j hj;rw[zAH,xCZ,xBl] at q2;rw[zAH,xCZ];rcases q2 with q2|q2
  ·exact .inl (I.dcl q q1 q2 j hj)
  ·have:=R.inj dx q1 q2;subst this;exact .inl (dW j hj)
 ·intro q hq;obtain⟨q1,q2⟩:=r1 q hq;obtain⟨q3,q4⟩:=I.left q q1;refine⟨q3,?_⟩;rw[zAH,q4,xCn,xAk];intro e;exact q2 (R.inj dx q3 e).symm
 ·intro q q1 q2;rw[zAH,xBJ,xAk] at q2;exact r2 q (I.cover q q1 q2.1) (λ e=>q2.2 (by rw[e]))
 ·intro t cw;have h1:=cw p dx;rw[zCd,xDN]
  ·refine I.old t λ q q1 q2=>?_;have:=cw q q1 q2;rw[zAH,xBJ] at this;exact this.1
  ·intro e;have:=h1 (writes_iff.2 e);rw[zAH] at this;simp at this
 ·intro t q q1 q2 q3;rw[aA t q q1 q2 (I.sub _ q3)];exact I.ran t q q1 q2 q3
 ·intro q q1 q2 q3;rw[zAH,xCZ,xBl] at q2;rcases q2 with q2|q2
  ·obtain⟨Tq,k1,b',v',k2,k3,k4,k5⟩:=I.pend q q1 q2 q3;refine⟨Tq,λ t ht'=>⟨λ r e1 e2 e3=>?_,(k1 t ht').2⟩,b',v',k2,k3,λ hb=>⟨(k4 hb).1,λ c hc iZ=>hs _ ((k4 hb).2 c hc iZ)⟩,λ d hd=>?_⟩
   ·rw[aA t r e1 e2 (I.dcl q q1 q2 _ e3)];exact (k1 t ht').1 r e1 e2 e3
   ·rw[aA d q q1 (writes_iff.2 hd) q2];exact k5 d hd
  ·have:=R.inj dx q1 q2;subst this;refine⟨T,λ t ht'=>⟨λ r e1 e2 e3=>?_,(I.now R dx bp t ht').2⟩,b,v,hw,hf,λ hb=>⟨ht hb,hn hb⟩,λ d hd=>?_⟩
   ·exact (aA t r e1 e2 (dW _ e3)).symm
   ·rw[zCd,xDO hd]
theorem DI.step(R:Reg all ps n)(I:DI E n lo all ps T0 defs σ T done rds rest h L a w){p:PO}(hp:p∈ps)(hd:done.testBit p.i=true)(dL:¬ Ran L p.i)(hb:∀ j,p.bef.testBit j=true->Ran L j){v':Value}(hv:∀ d,p.o.dst=some d->VR σ (T.get d) v') :
  DI E n lo all ps T0 defs σ T done rds rest h (L.setIfInBounds p.i true) (a.put p.o.dst v') w:=by
 have hi:p.i<L.size:=by rw[I.Lsize];exact R.lt hp
 have ai:∀ d,p.o.dst=some d->d<a.tmps.size:=λ d hd=>by rw[I.size];exact zIi (R.fits hp) hd
 refine⟨I.H,I.n0,I.nT,by rw[zMW];exact I.size,by simp[I.Lsize],?_,?_,I.dcl,I.left,I.nodup,I.cover,I.old,?_,?_,?_,by rw[Act.put_defers'];exact I.D⟩
 ·intro k hk;rcases (zB2 hi k).1 hk with rfl|hk
  ·exact hd
  ·exact I.sub k hk
 ·intro q q1 q2 j hj;rw[zB2 hi];rcases (zB2 hi _).1 q2 with e|q2
  ·have:=R.inj q1 hp e;subst this;exact .inr (hb j hj)
  ·exact .inr (I.lcl q q1 q2 j hj)
 ·intro t q q1 q2 q3;rw[zH8 _ _ _ ai];split
  ·rename_i e;exact hv t e
  ·rename_i e;rcases (zB2 hi _).1 q3 with e'|q3
   ·have:=R.inj q1 hp e';subst this;exact absurd (writes_iff.1 q2) e
   ·exact I.ran t q q1 q2 q3
 ·intro t cw;rw[zH8 _ _ _ ai,xDN]
  ·exact I.kept t λ q q1 q2 q3=>cw q q1 q2 ((zB2 hi _).2 (.inr q3))
  ·intro e;exact cw p hp (writes_iff.2 e) ((zB2 hi _).2 (.inl rfl))
 ·intro q q1 q2 q3;exact I.pend q q1 q2 λ hq=>q3 ((zB2 hi _).2 (.inr hq))
theorem DI.fire(R:Reg all ps n)(I:DI E n lo all ps T0 defs σ T done rds rest h L a w){p:PO}(hp:p∈rest)(hb:∀ j,p.bef.testBit j=true->Ran L j){τ:Sg}(le:Sg.le σ τ){h':AH}{w':World}(H':HR lo τ h' w')
  {v v':Value} (hv:VR τ v v') {rds':List Rd} (eZ:∀ r∈rds,¬ p.bef.testBit r.i=true->r∈rds'/\(zh E r.T r.o h=some r.v->zh E r.T r.o h'=some r.v))
  {rest':List PO} (r1:∀ q∈rest',q∈rest/\q≠p) (r2:∀ q∈rest,q≠p->q∈rest') (r3:rest'.Nodup) :
  DI E n lo all ps T0 defs τ (AM.putDst T p.o.dst v) (zBt done p.i) rds' rest' h' (L.setIfInBounds p.i true) (a.put p.o.dst v') w':=by
 obtain⟨dx,bp⟩:=I.left p hp;have dL:¬ Ran L p.i:=λ hr=>by have:=I.sub _ hr;rw[bp] at this;cases this
 have hi:p.i<L.size:=by rw[I.Lsize];exact R.lt dx
 have ai:∀ d,p.o.dst=some d->d<a.tmps.size:=λ d hd=>by rw[I.size];exact zIi (R.fits dx) hd
 have aA:∀ t,∀ q∈ps,zBZ q t=true->done.testBit q.i=true->(AM.putDst T p.o.dst v).get t=T.get t:=by
  intro t q q1 q2 q3;rw[zCd,xDN];intro e;have:=R.dst dx q1 (writes_iff.2 e) q2;subst this;rw[bp] at q3;cases q3
 refine⟨H',I.n0,by rw[zH0];exact I.nT,by rw[zMW];exact I.size,by simp[I.Lsize],?_,?_,?_,?_,r3,?_,?_,?_,?_,?_,by rw[Act.put_defers'];exact I.D.mono le⟩
 ·intro k hk;rw[zAH,xCZ,xBl];rcases (zB2 hi k).1 hk with rfl|hk
  ·exact .inr rfl
  ·exact .inl (I.sub k hk)
 ·intro q q1 q2 j hj;rw[zB2 hi];rcases (zB2 hi _).1 q2 with e|q2
  ·have:=R.inj q1 dx e;subst this;exact .inr (hb j hj)
  ·exact .inr (I.lcl q q1 q2 j hj)
 ·intro q q1 q2 j hj;rw[zAH,xCZ,xBl] at q2;rw[zAH,xCZ];rcases q2 with q2|q2
  ·exact .inl (I.dcl q q1 q2 j hj)
  ·have:=R.inj dx q1 q2;subst this;exact .inl (I.sub _ (hb j hj))
 ·intro q hq;obtain⟨q1,q2⟩:=r1 q hq;obtain⟨q3,q4⟩:=I.left q q1;refine⟨q3,?_⟩;rw[zAH,q4,xCn,xAk];intro e;exact q2 (R.inj dx q3 e).symm
 ·intro q q1 q2;rw[zAH,xBJ,xAk] at q2;exact r2 q (I.cover q q1 q2.1) (λ e=>q2.2 (by rw[e]))
 ·intro t cw;have h1:=cw p dx;rw[zCd,xDN]
  ·refine I.old t λ q q1 q2=>?_;have:=cw q q1 q2;rw[zAH,xBJ] at this;exact this.1
  ·intro e;have:=h1 (writes_iff.2 e);rw[zAH] at this;simp at this
 ·intro t q q1 q2 q3;rw[zH8 _ _ _ ai];by_cases e:p.o.dst=some t
  ·rw[xDO e,zCd,xDO e];exact hv
  ·rw[xDN e];rcases (zB2 hi _).1 q3 with e'|q3
   ·have:=R.inj q1 dx e';subst this;exact absurd (writes_iff.1 q2) e
   ·rw[aA t q q1 q2 (I.sub _ q3)];exact (I.ran t q q1 q2 q3).mono le
 ·intro t cw;rw[zH8 _ _ _ ai,xDN]
  ·exact (I.kept t λ q q1 q2 q3=>cw q q1 q2 ((zB2 hi _).2 (.inr q3))).mono le
  ·intro e;exact cw p dx (writes_iff.2 e) ((zB2 hi _).2 (.inl rfl))
 ·intro q q1 q2 q3;have q3':¬ Ran L q.i:=λ hq=>q3 ((zB2 hi _).2 (.inr hq));have hqp:q.i≠p.i:=λ e=>q3 ((zB2 hi _).2 (.inl e));rw[zAH,xCZ,xBl] at q2;rcases q2 with q2|q2;rotate_left
  ·exact absurd q2.symm hqp
  obtain⟨Tq,k1,b',u,k2,k3,k4,k5⟩:=I.pend q q1 q2 q3';have bZ:¬ p.bef.testBit q.i=true:=λ ar=>q3' (hb _ ar);refine⟨Tq,λ t ht'=>⟨λ r e1 e2 e3=>?_,(k1 t ht').2⟩,b',u,k2,k3,λ ar=>?_,λ d hd=>?_⟩
  ·rw[aA t r e1 e2 (I.dcl q q1 q2 _ e3)];exact (k1 t ht').1 r e1 e2 e3
  ·obtain⟨g1,g2⟩:=k4 ar;refine⟨?_,λ c hc iZ=>(eZ _ (g2 c hc iZ) bZ).1⟩;unfold zDW at g1 ⊢;split at g1
   ·exact g1
   ·rename_i an;exact (eZ _ (g2 _ an rfl) bZ).2 g1
   ·cases g1
  ·rw[aA d q q1 (writes_iff.2 hd) q2];exact k5 d hd
end
end Go.AM
