import Derived.Laws.Bits64
import Derived.Laws.StructEq
import Derived.Test.YthmnhjcmefjgjaaGreatDoorXAD
import Derived.Test.YthmnhjcmefjgjaaGreatDoorXAE
set_option linter.all false
set_option linter.unusedSectionVars false
set_option autoImplicit true
set_option relaxedAutoImplicit true
namespace Go.Proofs
open Go Go.AM Go.Sort
set_option maxRecDepth 100000
set_option maxHeartbeats 1000000
theorem kR_ct {t a u:Nat} {Rp:Value->AH->Prop} {ex:Ex} {v w:Value} {h:AH}:KR E [.cell a t,.tmp u] Rp ex [v,w] h=(notExit ex=true/\EvO (loadV E t v h) fun x=>Rp (.tuple #[x,w]) h):=by
 simp only [KR,resOf]
 cases loadV E t v h with
 | none=>simp only [evO_none]
 | some x=>simp only [evO_some,res1]
def Ac (lo:Nat) (m:AH) (v:Value) (l:List (Int×Int)):Prop:=(l=[]/\v=.slice none 0 0)\/∃ b:Nat,v=sl b l.length (UNK+2)/\lo<=b/\b<m.next/\m.get b=some (.row (l.flatMap prCells) 54 2 false)
theorem Ac.app {lo:Nat} {m:AH} {v:Value} {l:List (Int×Int)} (hok:m.ok) (A:Ac lo m v l) (hlo:lo<=m.next) (hn:l.length+1<=1000000) (p:Int×Int) :
  ∃ m' v',wBuiltinO E .append [26,26] (some [v,.slice (some ⟨m.next,0,none⟩) 1 1]) (m.new (.row (prCells p) 54 0 false))=one (v',m')/\Ac lo m' v' (l++[p])/\Fx (blkOf v) m m'/\∀ c,blkOf v' c->m.next<=c/\c<m'.next:=by
 have hrow:=get_new_self m (.row (prCells p) 54 0 false)
 have blk:∀ {b n cp c:Nat},blkOf (.slice (some ⟨b,0,none⟩) n cp) c->c=b:=fun h=>by
  obtain ⟨n,cap,e⟩:=h
  simp only [Value.slice.injEq,Option.some.injEq,Addr.mk.injEq] at e
  exact e.1.1.symm
 rcases A with ⟨rfl,rfl⟩|⟨b,rfl,h1,h2,h3⟩
 ·refine ⟨_,_,append_nil elt26 hrow rfl,.inr ⟨(m.new (.row (prCells p) 54 0 false)).next,rfl,?_,?_,?_⟩,((Fx.refl hok).new _).new _,fun c hc=>?_⟩
  ·show lo<=m.next+1;omega
  ·exact Nat.lt_succ_self _
  ·exact get_new_self (m.new _) _
  ·have:=blk hc
   show m.next<=c/\c<m.next+1+1
   have e:(m.new (.row (prCells p) 54 0 false)).next=m.next+1:=rfl
   omega
 ·have hg':(m.new (.row (prCells p) 54 0 false)).get b=some (.row (l.flatMap prCells) 54 2 false):=by rw [get_new_ne (by omega)];exact h3
  have f1:Fx (blkOf (sl b l.length (UNK+2))) m (m.new (.row (prCells p) 54 0 false)):=(Fx.refl hok).new _
  refine ⟨_,_,append_unk elt26 (by omega) hg' (rowL_len l) hn hrow rfl (by simp [prCells,isLeaf]),.inr ⟨(m.new (.row (prCells p) 54 0 false)).next,by simp,?_,?_,?_⟩,(f1.upd (.inl ⟨_,_,rfl⟩) none).new _,fun c hc=>?_⟩
  ·show lo<=m.next+1;omega
  ·exact Nat.lt_succ_self _
  ·rw [List.flatMap_append,List.flatMap_cons,List.flatMap_nil,List.append_nil]
   exact get_new_self ((m.new _).upd b none) _
  ·have:=blk hc
   show m.next<=c/\c<m.next+1+1
   have e:(m.new (.row (prCells p) 54 0 false)).next=m.next+1:=rfl
   omega
theorem Ac.fx {P:Nat->Prop} {lo:Nat} {m m':AH} {v:Value} {l:List (Int×Int)} (A:Ac lo m v l) (f:Fx P m m') (hP:∀ c,blkOf v c->¬ P c):Ac lo m' v l:=by
 rcases A with h|⟨b,rfl,h1,h2,h3⟩
 ·exact .inl h
 ·exact .inr ⟨b,rfl,h1,Nat.lt_of_lt_of_le h2 f.next,(f.get b h2 (hP b ⟨_,_,rfl⟩)).trans h3⟩
theorem Ac.wm {lo:Nat} {m:AH} {v:Value} {l:List (Int×Int)} (A:Ac lo m v l) (w:Nat):Ac lo ⟨m.t,m.next,w⟩ v l:=by
 rcases A with h|⟨b,rfl,h1,h2,h3⟩
 ·exact .inl h
 ·exact .inr ⟨b,rfl,h1,h2,get_wm h3⟩
theorem Ac.leaf {lo:Nat} {m:AH} {v:Value} {l:List (Int×Int)} (A:Ac lo m v l):isLeaf v=true/\cellsOfV v=[v]/\∃ a c,v=.slice a l.length c:=by
 rcases A with ⟨rfl,rfl⟩|⟨b,rfl,_⟩
 ·exact ⟨rfl,rfl,_,_,rfl⟩
 ·exact ⟨rfl,rfl,_,_,rfl⟩
theorem Ac.arr {lo:Nat} {m:AH} {v:Value} {l:List (Int×Int)} (A:Ac lo m v l):Arr m 2 v (l.map prCells):=by
 rcases A with ⟨rfl,rfl⟩|⟨b,rfl,_,h2,h3⟩
 ·exact .nil _ _
 ·exact arr_row (rest:=[]) h3 h2 (by simp)
def Made (P:Nat->Prop) (k:AH) (kind:Int) (F:List (Int×Int)) (v:Value) (m:AH):Prop:=∃ b,v=.tuple #[.agg ⟨[.int .i64 kind,sl b F.length (UNK+2)]⟩,.int .i64 0]/\(P b\/k.next<=b)/\Arr m 2 (sl b F.length (UNK+2)) (F.map prCells)/\Fx P k m
theorem append_more {t e z:Nat} (H:Elt t e z) (hz:0<z) {h:AH} {b c n m o cp:Nat} {vs us ws:List Value} {ty es:Nat} {ro:Bool} (hb:h.get b=some (.row vs e z false)) (hvs:vs.length=n*z) (hm:0<m) (hn:n+m<=1000000)
  (hc:h.get c=some (.row ws ty es ro)) (hl:o+m*z<=ws.length) (hu:(ws.drop o).take (m*z)=us) (hlf:us.all isLeaf=true) :
  wBuiltinO E .append [t,t] (some [.slice (some ⟨b,0,none⟩) n (UNK+z),.slice (some ⟨c,o,none⟩) m cp]) h=one (.slice (some ⟨h.next,0,none⟩) (n+m) (UNK+z),(h.upd b none).new (.row (vs++us) e z false)):=by
 obtain ⟨ti,e1,e2,e3⟩:=H.ti
 show v2 (appendV E [t,t] (.slice (some ⟨b,0,none⟩) n (UNK+z)) (.slice (some ⟨c,o,none⟩) m cp) h)=_
 have hlen:us.length=m*z:=by rw [← hu,List.length_take,List.length_drop];omega
 have hn1:Nat.beq m 0=false:=by cases m with|zero=>omega|succ n=>rfl
 simp only [appendV,H.el,H.un,isIntD,cond_false,e1,appendSrc,sliceCells,hc,e2,ltake_eq,ldrop_eq,llen_eq,hu,hlen,Nat.beq_refl,if_true,e3,cond_true,appendTo,hn1,hb]
 have h1:Nat.ble UNK (UNK+z)=true:=ble_true.2 (by omega)
 simp only [appendRow,h1,Nat.beq_refl,Bool.and_self,Bool.not_false,cond_true,appendUnk,Nat.zero_add,llen_eq]
 have h2:Nat.ble ((n+m)*z) vs.length=false:=ble_false.2 (by
  rw [hvs,Nat.add_mul]
  have:1*z<=m*z:=Nat.mul_le_mul_right z hm
  omega)
 have h3:Nat.beq (n*z) vs.length=true:=by rw [hvs];exact Nat.beq_refl _
 simp only [h2,cond_false,h3,cond_true,appendMove,hlf,ltake_eq,ldrop_eq,List.drop_zero]
 rw [List.take_of_length_le (by omega)]
 simp only [appendNew,ble_true.2 hn,cond_true,v2]
 rfl
theorem leaf_prs (l:List (Int×Int)):(l.flatMap prCells).all isLeaf=true:=by
 induction l with
 | nil=>rfl
 | cons a l ih=>rw [List.flatMap_cons,List.all_append,ih];rfl
theorem Gat.app {lo:Nat} {m:AH} {b:Nat} {l l2:List (Int×Int)} {v2:Value} (hok:m.ok) (hlo:lo<=b) (hb:b<m.next) (g:m.get b=some (.row (l.flatMap prCells) 54 2 false)) (A2:Arr m 2 v2 (l2.map prCells)) (hne:l2≠[]) (hn:l.length+l2.length<=1000000) :
  ∃ m',wBuiltinO E .append [26,26] (some [sl b l.length (UNK+2),v2]) m=one (sl m.next (l++l2).length (UNK+2),m')/\m'.next=m.next+1/\m'.get m.next=some (.row ((l++l2).flatMap prCells) 54 2 false)/\Fx (fun c=>c=b) m m':=by
 generalize hels:l2.map prCells=els at A2
 have hlen:els.length=l2.length:=by rw [← hels,List.length_map]
 cases A2 with
 | nil a c=>rw [List.length_nil] at hlen;exact absurd (List.length_eq_zero_iff.1 hlen.symm) hne
 | @row b2 o c vs ty es ro _ hb2 hlt hle hz=>
  have hfl:=arr_flat els o hle hz
  have hl0:0<l2.length:=List.length_pos_iff.2 hne
  have hu:(vs.drop o).take (l2.length*2)=l2.flatMap prCells:=by rw [← flat_prs,hels,← hfl,hlen]
  refine ⟨_,by rw [hlen,append_more elt26 (by omega) g (rowL_len l) hl0 hn hb2 (by rw [← hlen];exact hle) hu (leaf_prs l2),List.length_append],rfl,?_,((Fx.refl (P:=fun c=>c=b) hok).upd (.inl rfl) none).new _⟩
  rw [List.flatMap_append]
  exact get_new_self (m.upd b none) _
section
variable {s:Bool} {K:KF} {h:AH} {v7 v8:Value} {d:Nat}
end
theorem mkF {f b:Nat}:pMakeFunc (.func f) (some []) (some [ptr b])=some (.func (.func f) #[] #[ptr b]):=rfl
theorem call_anyF {f:FuncId} {fn:Func} {c:Code} {args:List Value} {h:AH} {Q:Value->AH->Prop} (hok:h.ok) (hf:E.tab.fn.get f=some fn) (hb:fn.body=some c) (hsum:E.sum f args h=none) (hl:Nat.ble (llen args) fn.ntmps=true)
  (hev:Ev true (AM.R.andThen (evC E (recI E) none (bodyOf fn) ⟨⟨fn.ntmps,initT args 0 .e⟩,h.fresh,[]⟩) (endCall E fn)) fun x=>Q x.1 x.2) :
  Ev true ((recI E).call f args h) fun x=>∃ k,Q x.1 k/\((h.next<=k.wm/\isFlat x.1=true/\x.2=h)\/x.2=⟨k.t,k.next,cond (Nat.ble h.wm k.wm) h.wm k.wm⟩):=by
 rw [fnCall_body hf hb hsum hl]
 obtain ⟨l,e,hne,h1,hl'⟩:=hev
 rw [e]
 match l,h1 rfl with
 | [x],_=>
  have hq:=hl' x (by simp)
  show Ev true (some [rewm h.wm (reset h.fresh x)]) _
  rw [ev_some]
  unfold reset
  cases hc:(clean h.fresh x&&isFlat x.1) with
  | true=>
   have hcl:clean h.fresh x=true/\isFlat x.1=true:=by simpa only [Bool.and_eq_true] using hc
   simp only [cond_true]
   refine ⟨x.2,hq,.inl ⟨ble_true.1 hcl.1,hcl.2,?_⟩⟩
   show (⟨h.t,h.next,cond (Nat.ble h.wm (Nat.add h.next UNK)) h.wm (Nat.add h.next UNK)⟩:AH)=h
   have:Nat.ble h.wm (Nat.add h.next UNK)=true:=ble_true.2 hok
   rw [this];rfl
  | false=>
   simp only [cond_false]
   exact ⟨x.2,hq,.inr rfl⟩
theorem fx_own {k l:AH} (o:Own k l):Fx NoB k.fresh l:=⟨o.ext.ok,o.ext.next,fun c hc _=>o.ext.get c hc,fun m _ _ h3=>Nat.le_trans h3 o.wm⟩
end Go.Proofs
namespace Go.Proofs
open Go Go.AM
set_option maxRecDepth 100000
set_option maxHeartbeats 1000000
structure Itr {S Q:Type} (w0 ll bs N:Nat) (cnt:S->Nat) (ln:Q->Nat) (J:S->AH->Prop) (D:AH->Prop) (step:S->Q->Option S) (args:Q->List Value):Prop where
 cs:∀ st q st',step st q=some st'->cnt st'<=cnt st+ln q+1
 j:∀ st h h',J st h->h'.next=h.next->(∀ c,c≠bs->h'.get c=h.get c)->J st h'
 d:∀ h h',D h->h'.next=h.next->(∀ c,c≠bs->h'.get c=h.get c)->D h'
 lt:∀ st h,J st h->ll<h.next
 w:w0<=bs/\w0<=ll
 y:∀ st q h,cnt st+ln q<=N->J st h->h.ok->w0<=h.wm->∃ b h',(recI E).round ll (args q) h=some [(.bool b,h')]/\h'.ok/\h'.wm<=ll/\w0<=h'.wm/\h'.get bs=h.get bs/\h.next<=h'.next ∧
  ((b=true/\∃ st',step st q=some st'/\J st' h')\/(b=false/\step st q=none/\D h'))
def Rs {S:Type} (J:S->AH->Prop) (D:AH->Prop) (o:Option S) (h:AH):Prop:=match o with
 | some st=>J st h
 | none=>D h
def runS {S Q:Type} (step:S->Q->Option S):S->List Q->Option S
 | st,[]=>some st
 | st,q::qs=>match step st q with
  | some st'=>runS step st' qs
  | none=>none
def OutI {S:Type} (w0 ll:Nat) (J:S->AH->Prop) (D:AH->Prop) (o:Option S) (h:AH):Prop:=h.ok/\h.wm<=ll/\w0<=h.wm/\Rs J D o h
theorem splF_cut (c:UInt8):∀ (l:Bs),splF c l=if (cutF c l).2.2=true then (cutF c l).1::splF c (cutF c l).2.1 else [l]
 | []=>by simp [splF,cutF]
 | b::l=>by
  have ih:=splF_cut c l
  by_cases h:b=c
  ·simp [splF,cutF,h]
  ·simp only [splF,cutF,if_neg h]
   rw [ih]
   by_cases h2:(cutF c l).2.2=true
   ·simp [h2]
   ·simp [h2]
theorem call_round {r:Rec} {l:Nat} {args:List Value} {h:AH}:wCallV r (some (.func (.yield l) #[] #[])) (some args) h=r.round l args h:=by rw [wCall_yield];simp
theorem len261a {c:UInt8} {h:AH}:evRead E (tmOf [(9,sV [c])]) (opAt B261 [0,0] 1) h=some (.int .i64 1):=by kernel_rfl
theorem len261b {c:UInt8} {h:AH}:evRead E (tmOf [(45,sV [c])]) (opAt B261 [1,0,0,0,0,1,1,1,1] 3) h=some (.int .i64 1):=by kernel_rfl
theorem hi261 {l:Bs} {i:Nat} (h:i<=l.length):evPure E (tmOf [(34,sV l),(37,.int .i64 (i:Int))]) (opAt B261 [1,0,0,0,0,1,1,0] 4)=some (sV (l.take i)):=by
 rw [← sl_hi h];kernel_rfl
theorem lo261 {l:Bs} {i:Nat} (h:i<=l.length):evPure E (tmOf [(43,sV l),(47,.int .i64 (i:Int))]) (opAt B261 [1,0,0,0,0,1,1,1,1] 5)=some (sV (l.drop i)):=by
 rw [← sl_lo h];kernel_rfl
theorem st9 {h:AH} {b:Nat} {l m:Bs} (hb:h.get b=some (.row [sV l] 9 0 false)):wStore E 9 h (some (ptr b)) (some (sV m))=one (undef,h.upd b (some (.row [sV m] 9 0 false))):=
 store_of (P:=E) ts_9 (o:=0) (x:=sV m) (cs:=[sV m]) hb rfl rfl (by simp) (by rfl)
theorem ld9 {h:AH} {b:Nat} {l:Bs} (hb:h.get b=some (.row [sV l] 9 0 false)):rLoad E 9 h (some (ptr b))=some (sV l):=load_leaf (P:=E) ta_9 (o:=0) hb
theorem ld3 {h:AH} {b:Nat} {i:Int} (hb:h.get b=some (.row [.int .i64 i] 3 0 false)):rLoad E 3 h (some (ptr b))=some (.int .i64 i):=load_leaf (P:=E) ta_3 (o:=0) hb
theorem outI {S:Type} {w0 ll bs:Nat} {J:S->AH->Prop} {D:AH->Prop} {Q:Type} {N:Nat} {cnt:S->Nat} {ln:Q->Nat} {step:S->Q->Option S} {args:Q->List Value} (I:Itr w0 ll bs N cnt ln J D step args) {o:Option S} {h:AH} {x:Value×AH} (hok:h.ok) (hw:w0<=h.wm) (hl:ll<h.next)
  (hk:∃ k,OutI w0 ll J D o k/\((h.next<=k.wm/\isFlat x.1=true/\x.2=h)\/x.2=⟨k.t,k.next,cond (Nat.ble h.wm k.wm) h.wm k.wm⟩)):OutI w0 ll J D o x.2:=by
 obtain ⟨k,⟨k1,k2,k3,k4⟩,h1|h1⟩:=hk
 ·omega
 ·rw [h1]
  have hwk:(cond (Nat.ble h.wm k.wm) h.wm k.wm)<=k.wm:=by
   cases hc:Nat.ble h.wm k.wm with
   | true=>exact ble_true.1 hc
   | false=>exact Nat.le_refl _
  refine ⟨Nat.le_trans hwk k1,Nat.le_trans hwk k2,?_,?_⟩
  ·show w0<=cond (Nat.ble h.wm k.wm) h.wm k.wm
   cases Nat.ble h.wm k.wm
   ·exact k3
   ·exact hw
  ·cases o with
   | none=>exact I.d k _ k4 rfl fun _ _=>rfl
   | some st=>exact I.j st k _ k4 rfl fun _ _=>rfl
theorem iter261 {S:Type} {w0 ll bsep bs bsv:Nat} {c:UInt8} {J:S->AH->Prop} {D:AH->Prop} {step:S->Bs->Option S} {N:Nat} {cnt:S->Nat} (I:Itr w0 ll bs N cnt List.length J D step (fun w=>[sV w])) (hN:N<=1000000)
  (hb:∀ st h,J st h->h.get bsep=some (.row [sV [c]] 9 0 false)/\h.get bsv=some (.row [.int .i64 0] 3 0 false))
  {st:S} {h:AH} {l:Bs} (hl:cnt st+l.length<=N) (hJ:J st h) (hok:h.ok) (hw:w0<=h.wm) (hs:h.get bs=some (.row [sV l] 9 0 false)) :
  Ev true ((recI E).call 261 [.func (.yield ll) #[] #[],ptr bsep,ptr bs,ptr bsv] h) fun x=>OutI w0 ll J D (runS step st (splF c l)) x.2:=by
 have hll:=I.lt st h hJ
 have main:PI (C261 true) (KR E [] fun _ k=>OutI w0 ll J D (runS step st (splF c l)) k) 0 [.func (.yield ll) #[] #[],ptr bsep,ptr bs,ptr bsv] h.fresh:=by
  have hJ0:J st h.fresh:=I.j st h _ hJ rfl fun _ _=>rfl
  have hs0:h.fresh.get bs=some (.row [sV l] 9 0 false):=hs
  have hw0:w0<=h.fresh.wm:=by rw [wm_fresh];have:=I.w.2;omega
  have ok0:=ok_fresh h
  refine P261_0_of ?_
  rw [ld9 (hb st _ hJ0).1,evO_some,len261a,evO_some,bf_eql,evO_some,show decide ((1:Int)=0)=false from rfl,brK_f]
  generalize h.fresh=g at hJ0 hs0 hw0 ok0
  clear hJ hs hok hw hll
  have loop:∀ (n:Nat) (l:Bs),l.length=n->∀ (st:S) (g:AH),cnt st+l.length<=N->J st g->g.get bs=some (.row [sV l] 9 0 false)->w0<=g.wm->g.ok->
    PI (C261 true) (KR E [] fun _ k=>OutI w0 ll J D (runS step st (splF c l)) k) 5 [.func (.yield ll) #[] #[],ptr bsep,ptr bs,ptr bsv] g:=by
   intro n
   induction n using Nat.strongRecOn with
   | ind n ih=>
    intro l hn st g hlN hJ hs hw hok
    obtain ⟨hb1,hb2⟩:=hb st g hJ
    refine P261_5_of ?_
    rw [ld9 hs,evO_some,ld9 hb1,evO_some,wCall_0,call263 hok,ev_some]
    refine P261_6_of ?_
    have hi:idxB c l=_:=idx_cut c l 0
    simp only [hi,Nat.add_zero]
    rw [splF_cut]
    cases hc:(cutF c l).2.2 with
    | true=>
     obtain ⟨h1,h2,h3⟩:=cutF_len c l hc
     have hlen2:(cutF c l).2.1.length<l.length:=by rw [← h2,List.length_drop];omega
     simp only [if_true,bf_lss,evO_some,show decide ((((cutF c l).1.length:Nat):Int)<0)=false from decide_eq_false (by omega),brK_f]
     refine P261_7_of ?_
     rw [ld9 hs,evO_some,ld3 hb2,evO_some,bf_add _ ⟨by omega,by omega⟩,evO_some,show (((cutF c l).1.length:Nat):Int)+0=(((cutF c l).1.length:Nat):Int) by omega,hi261 (by omega),evO_some,h1]
     refine P261_8_of ?_
     obtain ⟨b,h',r1,r2,r3,r4,r5,r6,r7⟩:=I.y st (cutF c l).1 g (by omega) hJ hok hw
     rw [call_round,r1,ev_some,uf_not,evO_some]
     rcases r7 with ⟨rfl,st',s1,s2⟩|⟨rfl,s1,s2⟩
     ·rw [Bool.not_true,brK_f]
      obtain ⟨hb3,hb4⟩:=hb st' h' s2
      refine P261_9_of ?_
      rw [ld9 (r5.trans hs),evO_some,ld9 hb3,evO_some,len261b,evO_some,bf_add _ ⟨by omega,by omega⟩,evO_some,show (((cutF c l).1.length:Nat):Int)+1=(((cutF c l).1.length+1:Nat):Int) by omega,lo261 (by omega),evO_some,h2,st9 (r5.trans hs),ev_one]
      have:=ih _ (by rw [← hn];exact hlen2) (cutF c l).2.1 rfl st' (h'.upd bs (some (.row [sV (cutF c l).2.1] 9 0 false))) (by have:=I.cs _ _ _ s1;have:(cutF c l).2.1.length+(cutF c l).1.length+1=l.length:=(by rw [← h2,List.length_drop];omega);omega) (I.j _ _ _ s2 rfl fun c hc=>get_upd_ne hc) (get_upd_self _ _ _) (wm_upd_le r4 I.w.1) (ok_upd r2 _ _)
      simp only [runS,s1]
      exact this
     ·rw [Bool.not_false,brK_t,kR_0]
      refine ⟨ne_ret ▸ trivial,r2,r3,r4,?_⟩
      simp only [runS,s1]
      exact s2
    | false=>
     simp only [Bool.false_eq_true,if_false,bf_lss,evO_some,show decide ((-1:Int)<0)=true from rfl,brK_t]
     refine P261_10_of ?_
     obtain ⟨b,h',r1,r2,r3,r4,r5,r6,r7⟩:=I.y st l g hlN hJ hok hw
     rw [ld9 hs,evO_some,call_round,r1,ev_some,kR_0]
     refine ⟨rfl,r2,r3,r4,?_⟩
     rcases r7 with ⟨rfl,st',s1,s2⟩|⟨rfl,s1,s2⟩
     ·simp only [runS,s1];exact s2
     ·simp only [runS,s1];exact s2
  exact loop l.length l rfl st g hl hJ0 hs0 hw0 ok0
 exact (call_anyF (Q:=fun _ k=>OutI w0 ll J D (runS step st (splF c l)) k) hok F261_get F261_body (F261_sum _ _) (by kernel_rfl) (F261_ev main)).mono fun x hx=>outI I hok hw hll hx
def rdS {S:Type} (step:S->Bs×Bool->Option S):Nat->S->Bs->Option S
 | 0,st,_=>some st
 | f+1,st,s=>if s=[] then some st else match step st ((cutF 10 s).1,(cutF 10 s).2.2) with
  | some st'=>rdS step f st' (cutF 10 s).2.1
  | none=>none
theorem ne182 {l:Bs}:evPure E (tmOf [(6,sV l)]) (opAt B182 [0,0,0,0] 1)=some (.bool (!decide (l=[]))):=by
 rw [← eqd];kernel_rfl
theorem rdS_nil {S:Type} {step:S->Bs×Bool->Option S} {f:Nat} {st:S}:rdS step f st []=some st:=by cases f <;> simp [rdS]
theorem call182nil {v:Value} {b:Nat} {h:AH} (hok:h.ok) (hs:h.get b=some (.row [sV []] 9 0 false)):(recI E).call 182 [v,ptr b] h=some [(.tuple #[],h)]:=by
 refine F182_flat1 hok rfl (P182_0_of ?_)
 have hs0:h.fresh.get b=some (.row [sV []] 9 0 false):=hs
 rw [ld9 hs0,evO_some,ne182,evO_some,show (!decide (([]:Bs)=[]))=false from rfl,brK_f,kR_0]
 exact ⟨rfl,rfl,by rw [wm_fresh];omega⟩
theorem iter182 {S:Type} {w0 ll bs:Nat} {J:S->AH->Prop} {D:AH->Prop} {step:S->Bs×Bool->Option S} {N:Nat} {cnt:S->Nat} (I:Itr w0 ll bs N cnt (fun q=>q.1.length) J D step (fun q=>[sV q.1,.bool q.2])) (hN:N<=1000000)
  {st:S} {h:AH} {l:Bs} (hl:cnt st+l.length<=N) (hne:l≠[]) (hJ:J st h) (hok:h.ok) (hw:w0<=h.wm) (hs:h.get bs=some (.row [sV l] 9 0 false)) :
  Ev true ((recI E).call 182 [.func (.yield ll) #[] #[],ptr bs] h) fun x=>OutI w0 ll J D (rdS step l.length st l) x.2:=by
 have hll:=I.lt st h hJ
 have main:PI (C182 true) (KR E [] fun _ k=>OutI w0 ll J D (rdS step l.length st l) k) 0 [.func (.yield ll) #[] #[],ptr bs] h.fresh:=by
  have hJ0:J st h.fresh:=I.j st h _ hJ rfl fun _ _=>rfl
  have hs0:h.fresh.get bs=some (.row [sV l] 9 0 false):=hs
  have hw0:w0<=h.fresh.wm:=by rw [wm_fresh];have:=I.w.2;omega
  have ok0:=ok_fresh h
  generalize h.fresh=g at hJ0 hs0 hw0 ok0
  clear hJ hs hok hw hll
  have loop:∀ (n:Nat) (l:Bs),l.length<=n->∀ (st:S) (g:AH),(l≠[]->cnt st+l.length<=N)->J st g->g.get bs=some (.row [sV l] 9 0 false)->w0<=g.wm->g.ok->(l=[]->g.wm<=ll)->
    PI (C182 true) (KR E [] fun _ k=>OutI w0 ll J D (rdS step n st l) k) 0 [.func (.yield ll) #[] #[],ptr bs] g:=by
   intro n
   have fin:∀ (n:Nat) (st:S) (g:AH),J st g->g.get bs=some (.row [sV []] 9 0 false)->w0<=g.wm->g.ok->g.wm<=ll->PI (C182 true) (KR E [] fun _ k=>OutI w0 ll J D (rdS step n st []) k) 0 [.func (.yield ll) #[] #[],ptr bs] g:=by
    intro n st g hJ hs hw hok hwl
    refine P182_0_of ?_
    rw [ld9 hs,evO_some,ne182,evO_some,show (!decide (([]:Bs)=[]))=false from rfl,brK_f,kR_0]
    refine ⟨rfl,hok,hwl,hw,?_⟩
    rw [rdS_nil]
    exact hJ
   induction n with
   | zero=>
    intro l hn st g _ hJ hs hw hok hwl
    have:l=[]:=List.length_eq_zero_iff.1 (by omega)
    subst this
    exact fin 0 st g hJ hs hw hok (hwl rfl)
   | succ n ih=>
    intro l hn st g hlN hJ hs hw hok hwl
    by_cases hl0:l=[]
    ·subst hl0
     exact fin _ st g hJ hs hw hok (hwl rfl)
    have hlN:=hlN hl0
    refine P182_0_of ?_
    rw [ld9 hs,evO_some,ne182,evO_some,decide_eq_false hl0,Bool.not_false,brK_t]
    refine P182_1_of ?_
    rw [ld9 hs,evO_some,wCall_0,call183 (c:=10) hok (by omega),ev_some,ext3.1,evO_some,ext3.2.1,evO_some,ext3.2.2,evO_some]
    refine P182_2_of ?_
    have hpos:0<l.length:=List.length_pos_iff.2 hl0
    have hcl:(cutF 10 l).1.length<=l.length/\(cutF 10 l).2.1.length<l.length/\((cutF 10 l).2.1≠[]->(cutF 10 l).2.1.length+(cutF 10 l).1.length+1=l.length):=by
     cases hc:(cutF 10 l).2.2 with
     | true=>
      obtain ⟨h1,h2,h3⟩:=cutF_len 10 l hc
      exact ⟨by omega,by rw [← h2,List.length_drop];omega,fun _=>by rw [← h2,List.length_drop];omega⟩
     | false=>rw [cutF_none 10 l hc];exact ⟨Nat.le_refl _,hpos,fun h=>absurd rfl h⟩
    obtain ⟨b,h',r1,r2,r3,r4,r5,r6,r7⟩:=I.y st ((cutF 10 l).1,(cutF 10 l).2.2) g (by have:=hcl.1;show cnt st+(cutF 10 l).1.length<=N;omega) hJ hok hw
    rw [call_round,r1,ev_some,uf_not,evO_some]
    simp only [rdS,if_neg hl0]
    rcases r7 with ⟨rfl,st',s1,s2⟩|⟨rfl,s1,s2⟩
    ·rw [Bool.not_true,brK_f]
     refine P182_3_of ?_
     rw [st9 (r5.trans hs),ev_one]
     simp only [s1]
     exact ih (cutF 10 l).2.1 (by omega) st' (h'.upd bs (some (.row [sV (cutF 10 l).2.1] 9 0 false))) (fun hne=>by have h1:=I.cs _ _ _ s1;have h2:=hcl.2.2 hne;simp only at h1;omega) (I.j _ _ _ s2 rfl fun c hc=>get_upd_ne hc) (get_upd_self _ _ _) (wm_upd_le r4 I.w.1) (ok_upd r2 _ _) fun _=>Nat.le_trans (upd_wm _ _ _).1 r3
    ·rw [Bool.not_false,brK_t,kR_0]
     refine ⟨ne_ret ▸ trivial,r2,r3,r4,?_⟩
     simp only [s1]
     exact s2
  exact loop l.length l (Nat.le_refl _) st g (fun _=>hl) hJ0 hs0 hw0 ok0 fun e=>absurd e hne
 exact (call_anyF (Q:=fun _ k=>OutI w0 ll J D (rdS step l.length st l) k) hok F182_get F182_body (F182_sum _ _) (by kernel_rfl) (F182_ev main)).mono fun x hx=>outI I hok hw hll hx
theorem some_ok {k k1:AH} (h1:k1.next ≥ k.next) (w1:k1.wm=k.next+UNK):cond (Nat.ble k.wm k1.wm) k.wm k1.wm<=k1.next+UNK:=by
 cases hc:Nat.ble k.wm k1.wm with
 | true=>have:=ble_true.1 hc;simp only [cond_true];omega
 | false=>simp only [cond_false];omega
theorem some_wm {k k1:AH} (w1:k1.wm=k.next+UNK) {w:Nat} (h1:w<=k.wm) (h2:w<=k.next):w<=cond (Nat.ble k.wm k1.wm) k.wm k1.wm:=by
 cases Nat.ble k.wm k1.wm
 ·simp only [cond_false];omega
 ·simpa using h1
theorem call133 {k:AH} {l:Bs}:Ev true ((recI E).call 133 [sV l] k) fun x=>x.1=.func (.func 182) #[] #[ptr k.next]/\x.2.next=k.next+1/\x.2.ok/\(∀ w,w<=k.wm->w<=k.next->w<=x.2.wm)/\x.2.get k.next=some (.row [sV l] 9 0 false)/\∀ c,c<k.next->x.2.get c=k.get c:=by
 refine F133_some (Rp:=fun v k'=>v=.func (.func 182) #[] #[ptr k.next]/\k'.next=k.next+1/\k'.ok/\(∀ w,w<=k.wm->w<=k.next->w<=k'.wm)/\k'.get k.next=some (.row [sV l] 9 0 false)/\∀ c,c<k.next->k'.get c=k.get c) (P133_0_of ?_)
 simp only [new_row,ev_one,evO_some,cellsOfV]
 refine P133_1_of ?_
 have g0:(k.fresh.new (.row [sV l] 9 0 false)).get k.next=some (.row [sV l] 9 0 false):=get_new_self k.fresh _
 have g2:∀ c,c<k.next->(k.fresh.new (.row [sV l] 9 0 false)).get c=k.get c:=fun c hc=>(get_new_ne (by simp;omega)).trans rfl
 have n1:(k.fresh.new (.row [sV l] 9 0 false)).next=k.next+1:=rfl
 have w1:(k.fresh.new (.row [sV l] 9 0 false)).wm=k.next+UNK:=rfl
 simp only [next_fresh,AH.next_new]
 generalize (k.fresh.new (.row [sV l] 9 0 false))=k1 at g0 g2 n1 w1
 simp only [pMakeFunc,evO_some,kR_1,ne_ret,true_and]
 exact ⟨.inl rfl,n1,some_ok (by omega) w1,fun w h1 h2=>some_wm w1 h1 h2,g0,g2⟩
def Seq3 (k:AH) (l:Bs) (c:UInt8) (v:Value) (k':AH):Prop:=v=.func (.func 261) #[] #[ptr (k.next+1),ptr k.next,ptr (k.next+2)]/\k'.next=k.next+3/\k'.ok/\(∀ w,w<=k.wm->w<=k.next->w<=k'.wm) ∧
 k'.get k.next=some (.row [sV l] 9 0 false)/\k'.get (k.next+1)=some (.row [sV [c]] 9 0 false)/\k'.get (k.next+2)=some (.row [.int .i64 0] 3 0 false)/\∀ c,c<k.next->k'.get c=k.get c
theorem call229 {k:AH} {l:Bs} {c:UInt8}:Ev true ((recI E).call 229 [sV l,sV [c],.int .i64 0] k) fun x=>Seq3 k l c x.1 x.2:=by
 refine F229_some (Rp:=fun v k'=>Seq3 k l c v k') (P229_0_of ?_)
 simp only [new_row,ev_one,evO_some,cellsOfV]
 refine P229_1_of ?_
 obtain ⟨k1,e1,n1,t1,o1,f1⟩:=nwF k (.row [sV l] 9 0 false)
 obtain ⟨k2,e2,n2,t2,o2,f2⟩:=nw o1 (.row [sV [c]] 9 0 false)
 obtain ⟨k3,e3,n3,t3,o3,f3⟩:=nw o2 (.row [.int .i64 0] 3 0 false)
 have w3:k3.wm=k.next+UNK:=by rw [← e3,← e2,← e1];rfl
 simp only [next_fresh,e1,e2,e3,n1,n2]
 rw [n1] at t2
 rw [n2,n1] at t3
 simp only [pMakeFunc,evO_some,kR_1,ne_ret,true_and]
 exact ⟨.inl rfl,rfl,by show k3.next=_;omega,some_ok (by omega) w3,fun w h1 h2=>some_wm w3 h1 h2,(f3 _ (by omega)).trans ((f2 _ (by omega)).trans t1),(f3 _ (by omega)).trans t2,t3,fun c hc=>(f3 _ (by omega)).trans ((f2 _ (by omega)).trans (f1 _ hc))⟩
theorem call186 {k:AH} {l:Bs} {c:UInt8} (hok:k.ok):Ev true ((recI E).call 186 [sV l,sV [c]] k) fun x=>Seq3 k l c x.1 x.2:=by
 refine F186_some (Rp:=fun v k'=>Seq3 k l c v k') (P186_0_of ?_)
 refine P186_1_of ?_
 rw [wCall_0]
 refine (call229 (k:=k.fresh)).mono ?_
 rintro ⟨v,k1⟩ ⟨h1,h2,h3,h4,h5,h6,h7,h8⟩
 simp only at h1 h2 h3 h4 h5 h6 h7 h8 ⊢
 rw [kR_1]
 simp only [next_fresh] at *
 refine ⟨ne_ret ▸ trivial,.inl (by rw [h1];rfl),h1,h2,?_,fun w x1 x2=>?_,h5,h6,h7,h8⟩
 ·show cond (Nat.ble k.wm k1.wm) k.wm k1.wm<=k1.next+UNK
  cases hc:Nat.ble k.wm k1.wm with
  | true=>have:=ble_true.1 hc;have:k1.wm<=k1.next+UNK:=h3;simp only [cond_true];omega
  | false=>exact h3
 ·show w<=cond (Nat.ble k.wm k1.wm) k.wm k1.wm
  cases Nat.ble k.wm k1.wm
  ·exact h4 w (by rw [wm_fresh];omega) x2
  ·exact x1
end Go.Proofs
namespace Go.Proofs
open Go Go.AM
set_option maxRecDepth 100000
variable {s:Bool} {K:KF} {h:AH} {a:Option Addr} {n c:Nat} {b d e f g i j k l m o p q r t u w x y z A B C D F G J L M N O Q S U V W X Y Z v v0 v2 v3 v4 v5 v6 v7 v8 v9 v10 v11 v12 v38:Value} {h1:AH} {Rp:Value->AH->Prop}
noncomputable def B137a:Code:=sub B137 [0]
noncomputable def C137a (s:Bool):Cx:=⟨E,s,none,B137a,[([],[0])],[0,2,3],[]⟩
theorem P137a_0_of (H :
 Ev s (wNewRow 26 h (zeroV E 26)) fun b=>
 Ev s (wNewRow 4 b.2 (zeroV E 4)) fun d=>
 K .normal [e,b.1,d.1] d.2):PI (C137a s) K 0 [e] h:=step_of H
theorem F137a_ev {s:Bool} {v0:Value} {T:Tm} {h:AH} {K:KF} (hT:∀ x∈[(0,v0)],T.get x.1=x.2) (H:PI (C137a s) K 0 [v0] h) :
 Ev s (evC E (recI E) none B137a ⟨T,h,[]⟩) (finQ (C137a s ) K):=
 enter_ok (C:=C137a s ) (by kernel_rfl) (by kernel_rfl) hT ((by kernel_rfl:contK (C137a s ) K 30 (rs B137a 60 (.at [])) (tmOf [(0,v0)]) h=(PI (C137a s) K 0 [v0] h)).mpr H)
noncomputable def B137b:Code:=sub B137 [1,0]
noncomputable def C137b (s:Bool):Cx:=⟨E,s,none,B137b,[([],[0,2,3])],[2,3,4,5,6],[]⟩
theorem P137b_0_of (H :
 Ev s (wCallV (recI E) (some (.func (.func 183) #[] #[])) (some [d,(.string ⟨#[58]⟩)]) h) fun b=>
 EvO (pExtract 0 b.1) fun g=>
 EvO (pExtract 1 b.1) fun i=>
 EvO (pExtract 2 b.1) fun j=>
 K .normal [e,f,g,i,j] b.2):PI (C137b s) K 0 [d,e,f] h:=step_of H
theorem F137b_ev {s:Bool} {v0 v2 v3:Value} {T:Tm} {h:AH} {K:KF} (hT:∀ x∈[(0,v0),(2,v2),(3,v3)],T.get x.1=x.2) (H:PI (C137b s) K 0 [v0,v2,v3] h) :
 Ev s (evC E (recI E) none B137b ⟨T,h,[]⟩) (finQ (C137b s ) K):=
 enter_ok (C:=C137b s ) (by kernel_rfl) (by kernel_rfl) hT ((by kernel_rfl:contK (C137b s ) K 30 (rs B137b 60 (.at [])) (tmOf [(0,v0),(2,v2),(3,v3)]) h=(PI (C137b s) K 0 [v0,v2,v3] h)).mpr H)
noncomputable def B137c:Code:=sub B137 [1,1,0]
noncomputable def C137c (s:Bool):Cx:=⟨E,s,none,B137c,[([],[2,3,4,5,6])],[2,3,5,6,7,8],[]⟩
theorem P137c_0_of (H :
 Ev s (wCallV (recI E) (some (.func (.func 184) #[] #[])) [g] h) fun b=>
 EvO (pExtract 0 b.1) fun k=>
 EvO (pExtract 1 b.1) fun l=>
 Ev s (wNewRow 3 b.2 (zeroV E 3)) fun d=>
 Ev s (wStore E 3 d.2 d.1 k) fun m=>
 K .normal [e,f,i,j,d.1,l] m.2):PI (C137c s) K 0 [e,f,g,i,j] h:=step_of H
theorem F137c_ev {s:Bool} {v2 v3 v4 v5 v6:Value} {T:Tm} {h:AH} {K:KF} (hT:∀ x∈[(2,v2),(3,v3),(4,v4),(5,v5),(6,v6)],T.get x.1=x.2) (H:PI (C137c s) K 0 [v2,v3,v4,v5,v6] h) :
 Ev s (evC E (recI E) none B137c ⟨T,h,[]⟩) (finQ (C137c s ) K):=
 enter_ok (C:=C137c s ) (by kernel_rfl) (by kernel_rfl) hT ((by kernel_rfl:contK (C137c s ) K 30 (rs B137c 60 (.at [])) (tmOf [(2,v2),(3,v3),(4,v4),(5,v5),(6,v6)]) h=(PI (C137c s) K 0 [v2,v3,v4,v5,v6] h)).mpr H)
noncomputable def B137d:Code:=sub B137 [1,1,1,0]
noncomputable def C137d (s:Bool):Cx:=⟨E,s,none,B137d,[([0],[2,3,5,6,7,8]),([1,0,0],[2,3,5,7])],[2,3,5,7],[]⟩
theorem P137d_0_of (H :
 EvO (unFast .not l) fun e=>
 EvO (gdB e false m) fun o=>
 EvO (gdB e false (unFast .not o)) fun p=>
 EvO (pickV e (some (.bool true)) p) fun b=>
 EvO (gdB b false d) fun q=>
 Ev s (gdW b false (wCallV (recI E) (some (.func (.func 185) #[] #[])) (some [q,(.string ⟨#[32]⟩)]) h) h) fun g=>
 EvO (gdB b false (unFast .not g.1)) fun r=>
 EvO (pickV b (some (.bool true)) r) fun f=>
 BrK f (PI (C137d s) K 1 [i,j,d,k] g.2) (K .normal [i,j,d,k] g.2)):PI (C137d s) K 0 [i,j,d,l,k,m] h:=step_of H
theorem P137d_1_of (H :
 Ev s (wStore E 26 h b (some (.slice none 0 0))) fun g=>
 Ev s (wStore E 4 g.2 d (some (.bool false))) fun i=>
 K .ret [b,d,e,f] i.2):PI (C137d s) K 1 [b,d,e,f] h:=step_of H
theorem F137d_ev {s:Bool} {v2 v3 v5 v6 v7 v8:Value} {T:Tm} {h:AH} {K:KF} (hT:∀ x∈[(2,v2),(3,v3),(5,v5),(6,v6),(7,v7),(8,v8)],T.get x.1=x.2) (H:PI (C137d s) K 0 [v2,v3,v5,v6,v7,v8] h) :
 Ev s (evC E (recI E) none B137d ⟨T,h,[]⟩) (finQ (C137d s ) K):=
 enter_ok (C:=C137d s ) (by kernel_rfl) (by kernel_rfl) hT ((by kernel_rfl:contK (C137d s ) K 30 (rs B137d 60 (.at [])) (tmOf [(2,v2),(3,v3),(5,v5),(6,v6),(7,v7),(8,v8)]) h=(PI (C137d s) K 0 [v2,v3,v5,v6,v7,v8] h)).mpr H)
noncomputable def B137e:Code:=sub B137 [1,1,1,1,0]
noncomputable def C137e (s:Bool):Cx:=⟨E,s,none,B137e,[([],[2,3,5,7])],[2,3,5,7,9],[]⟩
theorem P137e_0_of (H :
 Ev s (wNewRow 26 h (zeroV E 26)) fun b=>
 K .normal [d,e,f,g,b.1] b.2):PI (C137e s) K 0 [d,e,f,g] h:=step_of H
theorem F137e_ev {s:Bool} {v2 v3 v5 v7:Value} {T:Tm} {h:AH} {K:KF} (hT:∀ x∈[(2,v2),(3,v3),(5,v5),(7,v7)],T.get x.1=x.2) (H:PI (C137e s) K 0 [v2,v3,v5,v7] h) :
 Ev s (evC E (recI E) none B137e ⟨T,h,[]⟩) (finQ (C137e s ) K):=
 enter_ok (C:=C137e s ) (by kernel_rfl) (by kernel_rfl) hT ((by kernel_rfl:contK (C137e s ) K 30 (rs B137e 60 (.at [])) (tmOf [(2,v2),(3,v3),(5,v5),(7,v7)]) h=(PI (C137e s) K 0 [v2,v3,v5,v7] h)).mpr H)
noncomputable def B137f:Code:=sub B137 [1,1,1,1,1,0,0]
noncomputable def C137f (s:Bool):Cx:=⟨E,s,none,B137f,[([],[2,3,5,7,9])],[2,3,7,9,37],[]⟩
theorem P137f_0_of (H :
 EvO (evPure E (tmOf [(35,f)]) (opAt B137f [] 1)) fun j=>
 Ev s (wCallV (recI E) (some (.func (.func 186) #[] #[])) (some [j,(.string ⟨#[32]⟩)]) h) fun b=>
 K .normal [d,e,g,i,b.1] b.2):PI (C137f s) K 0 [d,e,f,g,i] h:=step_of H
theorem F137f_ev {s:Bool} {v2 v3 v5 v7 v9:Value} {T:Tm} {h:AH} {K:KF} (hT:∀ x∈[(2,v2),(3,v3),(5,v5),(7,v7),(9,v9)],T.get x.1=x.2) (H:PI (C137f s) K 0 [v2,v3,v5,v7,v9] h) :
 Ev s (evC E (recI E) none B137f ⟨T,h,[]⟩) (finQ (C137f s ) K):=
 enter_ok (C:=C137f s ) (by kernel_rfl) (by kernel_rfl) hT ((by kernel_rfl:contK (C137f s ) K 30 (rs B137f 60 (.at [])) (tmOf [(2,v2),(3,v3),(5,v5),(7,v7),(9,v9)]) h=(PI (C137f s) K 0 [v2,v3,v5,v7,v9] h)).mpr H)
noncomputable def B137h:Code:=rfBody (sub B137 [1,1,1,1,1,0,1,0])
noncomputable def C137h (s:Bool) (ll:Nat):Cx:=⟨E,s,some ll,B137h,[([0,0],[2,3,7,9,10]),([0,1,0,0],[2,3,7,9,11,12]),([0,1,0,1,0,0],[2,3]),([0,1,1],[7,9,11])],[],[]⟩
theorem P137h_0_of {ll:Nat} (H :
 Ev s (wCallV (recI E) (some (.func (.func 184) #[] #[])) [b] h) fun d=>
 EvO (pExtract 0 d.1) fun j=>
 EvO (pExtract 1 d.1) fun k=>
 PI (C137h s ll) K 1 [e,f,g,i,j,k] d.2):PI (C137h s ll) K 0 [e,f,g,i,b] h:=step_of H
theorem P137h_1_of {ll:Nat} (H :
 EvO (unFast .not d) fun j=>
 BrK j (PI (C137h s ll) K 2 [e,f] h) (PI (C137h s ll) K 3 [g,i,b] h)):PI (C137h s ll) K 1 [e,f,g,i,b,d] h:=step_of H
theorem P137h_2_of {ll:Nat} (H :
 Ev s (wStore E 26 h b (some (.slice none 0 0))) fun e=>
 Ev s (wStore E 4 e.2 d (some (.bool false))) fun f=>
 K .ret [] f.2):PI (C137h s ll) K 2 [b,d] h:=step_of H
theorem P137h_3_of {ll:Nat} (H :
 EvO (rLoad E 26 h d) fun i=>
 EvO (rLoad E 3 h g) fun j=>
 EvO (pBuild E 54 (some [(0,j),(1,b)])) fun k=>
 Ev s (wBuildSlice E 26 1 (some [(0,k)]) h) fun e=>
 Ev s (wBuiltinO E .append [26,26] [i,e.1] e.2) fun f=>
 Ev s (wStore E 26 f.2 d f.1) fun l=>
 K .normal [] l.2):PI (C137h s ll) K 3 [g,d,b] h:=step_of H
theorem F137h_ev {s:Bool} {ll:Nat} {v2 v3 v7 v9 v10:Value} {T:Tm} {h:AH} {K:KF} (hT:∀ x∈[(2,v2),(3,v3),(7,v7),(9,v9),(10,v10)],T.get x.1=x.2) (H:PI (C137h s ll) K 0 [v2,v3,v7,v9,v10] h) :
 Ev s (evC E (recI E) (some ll) B137h ⟨T,h,[]⟩) (finQ (C137h s ll ) K):=
 enter_ok (C:=C137h s ll ) (by kernel_rfl) (by kernel_rfl) hT ((by kernel_rfl:contK (C137h s ll ) K 30 (rs B137h 60 (.at [])) (tmOf [(2,v2),(3,v3),(7,v7),(9,v9),(10,v10)]) h=(PI (C137h s ll) K 0 [v2,v3,v7,v9,v10] h)).mpr H)
noncomputable def B137i:Code:=rfAs (sub B137 [1,1,1,1,1,0,1,0])
noncomputable def C137i (s:Bool) (ll:Nat):Cx:=⟨E,s,some ll,B137i,[([],[2,3,7,9,38])],[2,3,7,9,10],[]⟩
theorem P137i_0_of {ll:Nat} (H :
 K .normal [d,e,f,g,b] h):PI (C137i s ll) K 0 [d,e,f,g,b] h:=step_of H
theorem F137i_ev {s:Bool} {ll:Nat} {v2 v3 v7 v9 v38:Value} {T:Tm} {h:AH} {K:KF} (hT:∀ x∈[(2,v2),(3,v3),(7,v7),(9,v9),(38,v38)],T.get x.1=x.2) (H:PI (C137i s ll) K 0 [v2,v3,v7,v9,v38] h) :
 Ev s (evC E (recI E) (some ll) B137i ⟨T,h,[]⟩) (finQ (C137i s ll ) K):=
 enter_ok (C:=C137i s ll ) (by kernel_rfl) (by kernel_rfl) hT ((by kernel_rfl:contK (C137i s ll ) K 30 (rs B137i 60 (.at [])) (tmOf [(2,v2),(3,v3),(7,v7),(9,v9),(38,v38)]) h=(PI (C137i s ll) K 0 [v2,v3,v7,v9,v38] h)).mpr H)
noncomputable def B137g:Code:=sub B137 [1,1,1,1,1,1]
noncomputable def C137g (s:Bool) (d:Nat):Cx:=⟨E,s,none,B137g,[([0],[2,3,9])],[2,3],[d]⟩
theorem P137g_0_of {d:Nat} (H :
 EvO (rLoad E 26 h f) fun g=>
 Ev s (wStore E 26 h b g) fun i=>
 Ev s (wStore E 4 i.2 e (some (.bool true))) fun j=>
 K .ret [b,e] j.2):PI (C137g s d) K 0 [b,e,f] h:=step_of H
theorem F137g_ev {s:Bool} {d:Nat} {v2 v3 v9:Value} {T:Tm} {h:AH} {K:KF} (hT:∀ x∈[(2,v2),(3,v3),(9,v9)],T.get x.1=x.2) (H:PI (C137g s d) K 0 [v2,v3,v9] h) :
 Ev s (evC E (recI E) none B137g ⟨T,h,[d]⟩) (finQ (C137g s d) K):=
 enter_ok (C:=C137g s d) (by kernel_rfl) (by kernel_rfl) hT ((by kernel_rfl:contK (C137g s d) K 30 (rs B137g 60 (.at [])) (tmOf [(2,v2),(3,v3),(9,v9)]) h=(PI (C137g s d) K 0 [v2,v3,v9] h)).mpr H)
end Go.Proofs
namespace Go.Proofs
open Go Go.AM
set_option maxRecDepth 100000
variable {s:Bool} {K:KF} {h:AH} {a:Option Addr} {n c:Nat} {b d e f g i j k l m o p q r t u w x y z A B C D F G J L M N O Q S U V W X Y Z v v0 v2 v3 v4 v5 v6 v7 v8 v9 v10 v13 v14:Value} {h1:AH} {Rp:Value->AH->Prop}
noncomputable def B83a:Code:=sub B83 [0]
noncomputable def C83a (s:Bool):Cx:=⟨E,s,none,B83a,[([],[0])],[0,2,3],[]⟩
theorem P83a_0_of (H :
 Ev s (wNewRow 32 h (zeroV E 32)) fun b=>
 Ev s (wNewRow 4 b.2 (zeroV E 4)) fun d=>
 K .normal [e,b.1,d.1] d.2):PI (C83a s) K 0 [e] h:=step_of H
theorem F83a_ev {s:Bool} {v0:Value} {T:Tm} {h:AH} {K:KF} (hT:∀ x∈[(0,v0)],T.get x.1=x.2) (H:PI (C83a s) K 0 [v0] h) :
 Ev s (evC E (recI E) none B83a ⟨T,h,[]⟩) (finQ (C83a s ) K):=
 enter_ok (C:=C83a s ) (by kernel_rfl) (by kernel_rfl) hT ((by kernel_rfl:contK (C83a s ) K 30 (rs B83a 60 (.at [])) (tmOf [(0,v0)]) h=(PI (C83a s) K 0 [v0] h)).mpr H)
noncomputable def B83b:Code:=sub B83 [1,0]
noncomputable def C83b (s:Bool):Cx:=⟨E,s,none,B83b,[([],[0,2,3])],[0,2,3,4],[]⟩
theorem P83b_0_of (H :
 Ev s (wNewRow 32 h (zeroV E 32)) fun b=>
 K .normal [d,e,f,b.1] b.2):PI (C83b s) K 0 [d,e,f] h:=step_of H
theorem F83b_ev {s:Bool} {v0 v2 v3:Value} {T:Tm} {h:AH} {K:KF} (hT:∀ x∈[(0,v0),(2,v2),(3,v3)],T.get x.1=x.2) (H:PI (C83b s) K 0 [v0,v2,v3] h) :
 Ev s (evC E (recI E) none B83b ⟨T,h,[]⟩) (finQ (C83b s ) K):=
 enter_ok (C:=C83b s ) (by kernel_rfl) (by kernel_rfl) hT ((by kernel_rfl:contK (C83b s ) K 30 (rs B83b 60 (.at [])) (tmOf [(0,v0),(2,v2),(3,v3)]) h=(PI (C83b s) K 0 [v0,v2,v3] h)).mpr H)
noncomputable def B83c:Code:=sub B83 [1,1,0]
noncomputable def C83c (s:Bool):Cx:=⟨E,s,none,B83c,[([],[0,2,3,4])],[0,2,3,4,5,6],[]⟩
theorem P83c_0_of (H :
 Ev s (wNewRow 4 h (zeroV E 4)) fun b=>
 Ev s (wNewRow 3 b.2 (zeroV E 3)) fun d=>
 Ev s (wStore E 4 d.2 b.1 (some (.bool true))) fun j=>
 Ev s (wStore E 3 j.2 d.1 (some (.int .i64 (-1)))) fun k=>
 K .normal [e,f,g,i,b.1,d.1] k.2):PI (C83c s) K 0 [e,f,g,i] h:=step_of H
theorem F83c_ev {s:Bool} {v0 v2 v3 v4:Value} {T:Tm} {h:AH} {K:KF} (hT:∀ x∈[(0,v0),(2,v2),(3,v3),(4,v4)],T.get x.1=x.2) (H:PI (C83c s) K 0 [v0,v2,v3,v4] h) :
 Ev s (evC E (recI E) none B83c ⟨T,h,[]⟩) (finQ (C83c s ) K):=
 enter_ok (C:=C83c s ) (by kernel_rfl) (by kernel_rfl) hT ((by kernel_rfl:contK (C83c s ) K 30 (rs B83c 60 (.at [])) (tmOf [(0,v0),(2,v2),(3,v3),(4,v4)]) h=(PI (C83c s) K 0 [v0,v2,v3,v4] h)).mpr H)
noncomputable def B83f:Code:=sub B83 [1,1,1,0,0]
noncomputable def C83f (s:Bool):Cx:=⟨E,s,none,B83f,[([],[0,2,3,4,5,6])],[2,3,4,5,6,12],[]⟩
theorem P83f_0_of (H :
 Ev s (wCallV (recI E) (some (.func (.func 133) #[] #[])) [d] h) fun b=>
 K .normal [e,f,g,i,j,b.1] b.2):PI (C83f s) K 0 [d,e,f,g,i,j] h:=step_of H
theorem F83f_ev {s:Bool} {v0 v2 v3 v4 v5 v6:Value} {T:Tm} {h:AH} {K:KF} (hT:∀ x∈[(0,v0),(2,v2),(3,v3),(4,v4),(5,v5),(6,v6)],T.get x.1=x.2) (H:PI (C83f s) K 0 [v0,v2,v3,v4,v5,v6] h) :
 Ev s (evC E (recI E) none B83f ⟨T,h,[]⟩) (finQ (C83f s ) K):=
 enter_ok (C:=C83f s ) (by kernel_rfl) (by kernel_rfl) hT ((by kernel_rfl:contK (C83f s ) K 30 (rs B83f 60 (.at [])) (tmOf [(0,v0),(2,v2),(3,v3),(4,v4),(5,v5),(6,v6)]) h=(PI (C83f s) K 0 [v0,v2,v3,v4,v5,v6] h)).mpr H)
noncomputable def B83h:Code:=rfBody (sub B83 [1,1,1,0,1,0])
noncomputable def C83h (s:Bool) (ll:Nat):Cx:=⟨E,s,some ll,B83h,[([0,0,0,0],[2,3,4,5,6,7,8]),([0,0,0,1,0,0],[2,3,4]),([0,0,0,1,1,0],[2,3,4,5,6,7]),([0,0,0,1,1,1,0,0],[2,3,4,5,7]),([0,0,0,1,1,1,0,1,0,0],[2,3,4,5]),([0,0,0,1,1,1,0,1,0,1,0],[2,3,4]),([0,0,0,1,1,1,0,1,0,1,1,0,0],[2,3,4]),([0,1,0],[2,3,4,6,7]),([0,1,1,0,0],[2,3,4,6,9,10]),([0,1,1,0,1,0,0],[2,3,4]),([0,1,1,1,0],[4,6,9]),([0,1,1,1,1],[4,9])],[],[]⟩
theorem P83h_0_of {ll:Nat} (H :
 EvO (unFast .not j) fun k=>
 BrK k (PI (C83h s ll) K 1 [b,d,e] h) (PI (C83h s ll) K 2 [b,d,e,f,g,i] h)):PI (C83h s ll) K 0 [b,d,e,f,g,i,j] h:=step_of H
theorem P83h_1_of {ll:Nat} (H :
 EvO (rLoad E 32 h e) fun f=>
 Ev s (wStore E 32 h b f) fun g=>
 Ev s (wStore E 4 g.2 d (some (.bool false))) fun i=>
 K .ret [] i.2):PI (C83h s ll) K 1 [b,d,e] h:=step_of H
theorem P83h_2_of {ll:Nat} (H :
 EvO (rLoad E 4 h f) fun j=>
 BrK j (PI (C83h s ll) K 3 [b,d,e,f,g] h) (PI (C83h s ll) K 7 [b,d,e,i,g] h)):PI (C83h s ll) K 2 [b,d,e,f,i,g] h:=step_of H
theorem P83h_3_of {ll:Nat} (H :
 Ev s (wCallV (recI E) (some (.func (.func 135) #[] #[])) (some []) h) fun d=>
 EvO (pMakeFunc (.func 136) (some []) [j]) fun k=>
 Ev s (wCallV (recI E) (some (.func (.func 134) #[] #[])) [d.1,k] d.2) fun e=>
 EvO (pFieldAddr E 32 0 b) fun l=>
 Ev s (wStore E 3 e.2 l e.1) fun m=>
 PI (C83h s ll) K 4 [f,g,b,i] m.2):PI (C83h s ll) K 3 [f,g,b,i,j] h:=step_of H
theorem P83h_4_of {ll:Nat} (H :
 Ev s (wStore E 4 h f (some (.bool false))) fun g=>
 PI (C83h s ll) K 5 [b,d,e] g.2):PI (C83h s ll) K 4 [b,d,e,f] h:=step_of H
theorem P83h_5_of {ll:Nat} (H :
 EvO (pFieldAddr E 32 0 d) fun g=>
 EvO (rLoad E 3 h g) fun i=>
 Ev s (wCallV (recI E) (some (.func (.func 105) #[] #[])) [i] h) fun b=>
 EvO (unFast .not b.1) fun j=>
 BrK j (PI (C83h s ll) K 6 [e,f,d] b.2) (K .normal [] b.2)):PI (C83h s ll) K 5 [e,f,d] h:=step_of H
theorem P83h_6_of {ll:Nat} (H :
 EvO (rLoad E 32 h e) fun f=>
 Ev s (wStore E 32 h b f) fun g=>
 Ev s (wStore E 4 g.2 d (some (.bool false))) fun i=>
 K .ret [] i.2):PI (C83h s ll) K 6 [b,d,e] h:=step_of H
theorem P83h_7_of {ll:Nat} (H :
 EvO (rLoad E 9 h i) fun j=>
 Ev s (wCallV (recI E) (some (.func (.func 137) #[] #[])) [j] h) fun b=>
 EvO (pExtract 0 b.1) fun k=>
 EvO (pExtract 1 b.1) fun l=>
 PI (C83h s ll) K 8 [d,e,f,g,k,l] b.2):PI (C83h s ll) K 7 [d,e,f,g,i] h:=step_of H
theorem P83h_8_of {ll:Nat} (H :
 EvO (unFast .not d) fun b=>
 EvO (gdB b false g) fun k=>
 EvO (gdB b false (pIndexAddr E 26 k (some (.int .i64 0)))) fun l=>
 EvO (gdB b false (pIndexAddr E 54 l (some (.int .i64 0)))) fun m=>
 EvO (gdB b false (rLoad E 3 h m)) fun o=>
 EvO (gdB b false (rLoad E 3 h f)) fun p=>
 EvO (gdB b false (binFast E .leq 3 o p)) fun q=>
 EvO (pickV b (some (.bool true)) q) fun r=>
 BrK r (PI (C83h s ll) K 9 [i,j,e] h) (PI (C83h s ll) K 10 [e,f,g] h)):PI (C83h s ll) K 8 [i,j,e,f,g,d] h:=step_of H
theorem P83h_9_of {ll:Nat} (H :
 EvO (rLoad E 32 h e) fun f=>
 Ev s (wStore E 32 h b f) fun g=>
 Ev s (wStore E 4 g.2 d (some (.bool false))) fun i=>
 K .ret [] i.2):PI (C83h s ll) K 9 [b,d,e] h:=step_of H
theorem P83h_10_of {ll:Nat} (H :
 EvO (pIndexAddr E 26 b (some (.int .i64 0))) fun f=>
 EvO (pIndexAddr E 54 f (some (.int .i64 0))) fun g=>
 EvO (rLoad E 3 h g) fun i=>
 Ev s (wStore E 3 h e i) fun j=>
 PI (C83h s ll) K 11 [d,b] j.2):PI (C83h s ll) K 10 [d,e,b] h:=step_of H
theorem P83h_11_of {ll:Nat} (H :
 EvO (pFieldAddr E 32 1 b) fun f=>
 EvO (rLoad E 26 h f) fun g=>
 Ev s (wBuiltinO E .append [26,26] [g,e] h) fun d=>
 EvO (pFieldAddr E 32 1 b) fun i=>
 Ev s (wStore E 26 d.2 i d.1) fun j=>
 K .normal [] j.2):PI (C83h s ll) K 11 [b,e] h:=step_of H
theorem F83h_ev {s:Bool} {ll:Nat} {v2 v3 v4 v5 v6 v7 v8:Value} {T:Tm} {h:AH} {K:KF} (hT:∀ x∈[(2,v2),(3,v3),(4,v4),(5,v5),(6,v6),(7,v7),(8,v8)],T.get x.1=x.2) (H:PI (C83h s ll) K 0 [v2,v3,v4,v5,v6,v7,v8] h) :
 Ev s (evC E (recI E) (some ll) B83h ⟨T,h,[]⟩) (finQ (C83h s ll ) K):=
 enter_ok (C:=C83h s ll ) (by kernel_rfl) (by kernel_rfl) hT ((by kernel_rfl:contK (C83h s ll ) K 30 (rs B83h 60 (.at [])) (tmOf [(2,v2),(3,v3),(4,v4),(5,v5),(6,v6),(7,v7),(8,v8)]) h=(PI (C83h s ll) K 0 [v2,v3,v4,v5,v6,v7,v8] h)).mpr H)
noncomputable def B83i:Code:=rfAs (sub B83 [1,1,1,0,1,0])
noncomputable def C83i (s:Bool) (ll:Nat):Cx:=⟨E,s,some ll,B83i,[([0],[2,3,4,5,6,13,14]),([1],[2,3,4,5,6,7,14])],[2,3,4,5,6,7,8],[]⟩
theorem P83i_0_of {ll:Nat} (H :
 Ev s (wNewRow 9 h (zeroV E 9)) fun e=>
 Ev s (wStore E 9 e.2 e.1 b) fun l=>
 PI (C83i s ll) K 1 [f,g,i,j,k,e.1,d] l.2):PI (C83i s ll) K 0 [f,g,i,j,k,b,d] h:=step_of H
theorem P83i_1_of {ll:Nat} (H :
 K .normal [d,e,f,g,i,j,b] h):PI (C83i s ll) K 1 [d,e,f,g,i,j,b] h:=step_of H
theorem F83i_ev {s:Bool} {ll:Nat} {v2 v3 v4 v5 v6 v13 v14:Value} {T:Tm} {h:AH} {K:KF} (hT:∀ x∈[(2,v2),(3,v3),(4,v4),(5,v5),(6,v6),(13,v13),(14,v14)],T.get x.1=x.2) (H:PI (C83i s ll) K 0 [v2,v3,v4,v5,v6,v13,v14] h) :
 Ev s (evC E (recI E) (some ll) B83i ⟨T,h,[]⟩) (finQ (C83i s ll ) K):=
 enter_ok (C:=C83i s ll ) (by kernel_rfl) (by kernel_rfl) hT ((by kernel_rfl:contK (C83i s ll ) K 30 (rs B83i 60 (.at [])) (tmOf [(2,v2),(3,v3),(4,v4),(5,v5),(6,v6),(13,v13),(14,v14)]) h=(PI (C83i s ll) K 0 [v2,v3,v4,v5,v6,v13,v14] h)).mpr H)
noncomputable def B83g:Code:=sub B83 [1,1,1,1]
noncomputable def C83g (s:Bool) (d:Nat):Cx:=⟨E,s,none,B83g,[([0],[2,3,4,5])],[2,3],[d]⟩
theorem P83g_0_of {d:Nat} (H :
 EvO (rLoad E 32 h g) fun j=>
 EvO (rLoad E 4 h p) fun q=>
 EvO (unFast .not q) fun f=>
 EvO (gdB f true (rLoad E 32 h g)) fun r=>
 Ev s (gdW f true (wBuildSlice E 83 1 (some [(0,r)]) h) h) fun i=>
 EvO (rLoad E 32 i.2 g) fun b=>veq 100 b j=true ∧
 (Ev s (gdW f true (wCallV (recI E) (some (.func (.func 71) #[] #[])) [i.1] i.2) i.2) fun l=>
 EvO (rLoad E 32 l.2 g) fun e=>veq 100 e j=true ∧
 (EvO (gdB f true (binFast E .eql 29 l.1 (.int .i64 0))) fun t=>
 EvO (pickV f t (some (.bool false))) fun u=>
 Ev s (wStore E 32 l.2 m j) fun w=>
 Ev s (wStore E 4 w.2 o u) fun k=>
 K .ret [m,o] k.2))):PI (C83g s d) K 0 [m,o,g,p] h:=step_of H
theorem F83g_ev {s:Bool} {d:Nat} {v2 v3 v4 v5:Value} {T:Tm} {h:AH} {K:KF} (hT:∀ x∈[(2,v2),(3,v3),(4,v4),(5,v5)],T.get x.1=x.2) (H:PI (C83g s d) K 0 [v2,v3,v4,v5] h) :
 Ev s (evC E (recI E) none B83g ⟨T,h,[d]⟩) (finQ (C83g s d) K):=
 enter_ok (C:=C83g s d) (by kernel_rfl) (by kernel_rfl) hT ((by kernel_rfl:contK (C83g s d) K 30 (rs B83g 60 (.at [])) (tmOf [(2,v2),(3,v3),(4,v4),(5,v5)]) h=(PI (C83g s d) K 0 [v2,v3,v4,v5] h)).mpr H)
end Go.Proofs
namespace Go.Proofs
open Go Go.AM Go.Sort
set_option maxRecDepth 100000
set_option maxHeartbeats 1000000
theorem seg_ok {s:Bool} {ro:Option Nat} {a b:Code} {T:Tm} {h:AH} {Ca:Cx} {Ka:KF} {Q:Out->Prop} (H:Ev s (evC E (recI E) ro a ⟨T,h,[]⟩) (finQ Ca Ka)) (hD:Ca.D=[])
  (H2:∀ ex T' h',Ka ex (Ca.rt.map T'.get) h'->(ex=.normal/\Ev s (evC E (recI E) ro b ⟨T',h',[]⟩) Q)\/(ex≠.normal/\Q ⟨ex,⟨T',h',[]⟩⟩)):Ev s (evC E (recI E) ro (.seq a b) ⟨T,h,[]⟩) Q:=by
 show Ev s (AM.R.andThen (evC E (recI E) ro a ⟨T,h,[]⟩) (thenC (evC E (recI E) ro b))) _
 refine Ev.andThen (H.mono fun o ho=>?_)
 obtain ⟨ex,T',h',ds⟩:=o
 obtain ⟨h1,h2⟩:=ho
 have h1':ds=[]:=h1.trans hD
 subst h1'
 rcases H2 ex T' h' h2 with ⟨rfl,h3⟩|⟨h3,h4⟩
 ·exact h3
 ·cases ex with
  | normal=>exact absurd rfl h3
  | ret=>show Ev s (one _) _;rw [ev_one];exact h4
  | exit i=>show Ev s (one _) _;rw [ev_one];exact h4
theorem st4 {h:AH} {b:Nat} {x:Value} {y:Bool} (hb:h.get b=some (.row [x] 4 0 false)):wStore E 4 h (some (ptr b)) (some (.bool y))=one (undef,h.upd b (some (.row [.bool y] 4 0 false))):=
 store_of (P:=E) ts_4 (o:=0) (x:=.bool y) (cs:=[.bool y]) hb rfl rfl (by simp) (by rfl)
theorem st3 {h:AH} {b:Nat} {x:Value} {y:Int} (hb:h.get b=some (.row [x] 3 0 false)):wStore E 3 h (some (ptr b)) (some (.int .i64 y))=one (undef,h.upd b (some (.row [.int .i64 y] 3 0 false))):=
 store_of (P:=E) ts_3 (o:=0) (x:=.int .i64 y) (cs:=[.int .i64 y]) hb rfl rfl (by simp) (by rfl)
theorem st26 {h:AH} {b:Nat} {x y:Value} (hb:h.get b=some (.row [x] 26 0 false)) (hy:isLeaf y=true/\cellsOfV y=[y]):wStore E 26 h (some (ptr b)) (some y)=one (undef,h.upd b (some (.row [y] 26 0 false))):=
 store_of (P:=E) ts_26 (o:=0) (x:=y) (cs:=[y]) hb hy.2 rfl (by simp) (by simp [hy.1])
theorem ld26 {h:AH} {b:Nat} {x:Value} (hb:h.get b=some (.row [x] 26 0 false)):rLoad E 26 h (some (ptr b))=some x:=load_leaf (P:=E) ta_26 (o:=0) hb
def stepW (src:Int) (acc:List (Int×Int)) (w:Bs):Option (List (Int×Int)):=if (numR w).2=true then some (acc++[(src,(numR w).1)]) else none
def K137 (b2 b3 b9 lo:Nat) (src:Int) (c:Value) (acc:List (Int×Int)) (w:Bs) (h:AH):KF:=fun ex _ g=>
 ((numR w).2=true/\ex=.normal/\(∃ c',g.get b9=some (.row [c'] 26 0 false)/\Ac lo g c' (acc++[(src,(numR w).1)]))/\Fx (fun x=>x=b9\/blkOf c x) h g) ∨
 ((numR w).2=false/\ex=.ret/\g.get b2=some (.row [.slice none 0 0] 26 0 false)/\g.get b3=some (.row [.bool false] 4 0 false)/\Fx (fun x=>x=b2\/x=b3) h g)
theorem body137 {h:AH} {l b2 b3 b7 b9 lo:Nat} {src:Int} {c x2 x3:Value} {acc:List (Int×Int)} {w:Bs} {T:Tm} (hok:h.ok)
  (h2:h.get b2=some (.row [x2] 26 0 false)) (h3:h.get b3=some (.row [x3] 4 0 false)) (n23:b2≠b3) (h7:h.get b7=some (.row [.int .i64 src] 3 0 false)) (h9:h.get b9=some (.row [c] 26 0 false)) (l9:b9<h.next) (hlo:lo<=h.next)
  (A:Ac lo h c acc) (n9:¬ blkOf c b9) (hw:w.length<=1000000) (ha:acc.length+1<=1000000)
  (hT:∀ y∈[(2,ptr b2),(3,ptr b3),(7,ptr b7),(9,ptr b9),(10,sV w)],T.get y.1=y.2) :
  Ev true (evC E (recI E) (some l) B137h ⟨T,h,[]⟩) (finQ (C137h true l) (K137 b2 b3 b9 lo src c acc w h)):=by
 refine F137h_ev hT (P137h_0_of ?_)
 rw [wCall_0,call184 hok hw,ev_some,ext2.1,evO_some,ext2.2,evO_some]
 refine P137h_1_of ?_
 rw [uf_not,evO_some]
 cases hn:(numR w).2 with
 | false=>
  rw [Bool.not_false,brK_t]
  refine P137h_2_of ?_
  rw [st26 h2 ⟨rfl,rfl⟩,ev_one,st4 ((get_upd_ne n23.symm).trans h3),ev_one]
  exact .inr ⟨hn,rfl,(get_upd_ne n23).trans (get_upd_self _ _ _),get_upd_self _ _ _,((Fx.refl hok).upd (.inl (.inl rfl)) _).upd (.inl (.inr rfl)) _⟩
 | true=>
  rw [Bool.not_true,brK_f]
  refine P137h_3_of ?_
  obtain ⟨m',v',a1,a2,a3,a4⟩:=A.app hok hlo ha (src,(numR w).1)
  rw [ld26 h9,evO_some,ld3 h7,evO_some,pb54,evO_some,bs26_1,ev_one,a1,ev_one,st26 ((a3.get b9 l9 n9).trans h9) ⟨a2.leaf.1,a2.leaf.2.1⟩,ev_one]
  refine .inl ⟨hn,rfl,⟨v',get_upd_self _ _ _,?_⟩,(a3.mono (P':=fun x=>x=b9\/blkOf c x) fun c hc=>.inl (.inr hc)).upd (.inl (.inl rfl)) _⟩
  exact a2.fx ((Fx.refl (P:=fun x=>x=b9) a3.ok).upd (.inl rfl) _) fun c hc e=>by have:=(a4 c hc).1;omega
noncomputable def loopR (st:LoopState) (pend:Option Code) (T:Tm) (d:Nat):AObj:=.loop st pend T [38] B137i B137h d
theorem row_ne_loopR {h:AH} {a l:Nat} {vs:List Value} {ty es:Nat} {ro:Bool} {st:LoopState} {pend:Option Code} {T:Tm} {d:Nat} (h1:h.get a=some (.row vs ty es ro)) (h2:h.get l=some (loopR st pend T d)):a≠l:=by
 rintro rfl
 rw [h1] at h2
 simp [loopR] at h2
theorem Ac.ne_loop {lo:Nat} {h:AH} {c:Value} {acc:List (Int×Int)} {l:Nat} (A:Ac lo h c acc) (hl:∀ vs ty es ro,h.get l≠some (.row vs ty es ro)):¬ blkOf c l:=by
 rintro ⟨m,q,e⟩
 rcases A with ⟨_,rfl⟩|⟨b,rfl,_,_,h3⟩
 ·cases e
 ·simp only [sl,Value.slice.injEq,Option.some.injEq,Addr.mk.injEq] at e
  exact hl _ _ _ _ (e.1.1 ▸ h3)
theorem round137 {h:AH} {l d b2 b3 b7 b9 lo:Nat} {src:Int} {c x2 x3:Value} {acc:List (Int×Int)} {w:Bs} {T:Tm} (hok:h.ok)
  (hl:h.get l=some (loopR .ready none T d)) (hll:l<h.next)
  (h2:h.get b2=some (.row [x2] 26 0 false)) (h3:h.get b3=some (.row [x3] 4 0 false)) (n23:b2≠b3) (h7:h.get b7=some (.row [.int .i64 src] 3 0 false)) (h9:h.get b9=some (.row [c] 26 0 false)) (l9:b9<h.next) (hlo:lo<=h.next)
  (A:Ac lo h c acc) (n9:¬ blkOf c b9) (hw:w.length<=1000000) (ha:acc.length+1<=1000000)
  (hT:∀ y∈[(2,ptr b2),(3,ptr b3),(7,ptr b7),(9,ptr b9)],T.get y.1=y.2) :
  ∃ b h',(recI E).round l [sV w] h=some [(.bool b,h')]/\b=(numR w).2/\h'.ok/\h'.wm<=l ∧
   ((b=true/\h'.get l=some (loopR .ready none T d)/\(∃ c',h'.get b9=some (.row [c'] 26 0 false)/\Ac lo h' c' (acc++[(src,(numR w).1)]))/\Fx (fun x=>x=l\/x=b9\/blkOf c x) h h') ∨
    (b=false/\h'.get l=some (loopR .done (some .ret) T d)/\h'.get b2=some (.row [.slice none 0 0] 26 0 false)/\h'.get b3=some (.row [.bool false] 4 0 false)/\Fx (fun x=>x=l\/x=b2\/x=b3) h h')):=by
 have n2:=row_ne_loopR h2 hl
 have n3:=row_ne_loopR h3 hl
 have n7:=row_ne_loopR h7 hl
 have nb9:=row_ne_loopR h9 hl
 have ncl:=A.ne_loop (l:=l) fun vs ty es ro e=>row_ne_loopR e hl rfl
 let hb:=h.upd l (some (loopR .busy none T d))
 have hbok:hb.ok:=ok_upd hok _ _
 have fb:Fx (fun x=>x=l) h hb:=(Fx.refl (P:=fun x=>x=l) hok).upd (.inl rfl) _
 have q:∀ {c:Nat},c≠l->hb.get c=h.get c:=fun hc=>get_upd_ne hc
 have ql:hb.get l=some (loopR .busy none T d):=get_upd_self _ _ _
 have key:Ev true ((recI E).round l [sV w] h) fun y=>∃ ex g,K137 b2 b3 b9 lo src c acc w hb ex [] g/\y=(.bool (numR w).2,g.upd l (some (if (numR w).2=true then loopR .ready none T d else loopR .done (some .ret) T d))):=by
  rw [round_eq]
  unfold roundCall
  rw [hl]
  show Ev true (startRound E (recI E) l B137i B137h h (setParams T [38] [sV w])) _
  show Ev true (AM.R.andThen (evC E (recI E) (some l) B137i ⟨T.put 38 (sV w),h,[]⟩) (midRound E (recI E) l B137h)) _
  have hT':∀ y∈[(2,ptr b2),(3,ptr b3),(7,ptr b7),(9,ptr b9),(38,sV w)],(T.put 38 (sV w)).get y.1=y.2:=by
   intro y hy
   rw [Tm.get_put]
   simp only [List.mem_cons,List.not_mem_nil,or_false] at hy
   rcases hy with rfl|rfl|rfl|rfl|rfl
   ·exact hT _ (by simp)
   ·exact hT _ (by simp)
   ·exact hT _ (by simp)
   ·exact hT _ (by simp)
   ·rfl
  have ha0:=F137i_ev (s:=true) (ll:=l) (h:=h) (K:=fun ex vs g=>ex=.normal/\vs=[ptr b2,ptr b3,ptr b7,ptr b9,sV w]/\g=h) hT' (P137i_0_of (by exact ⟨by trivial,by trivial,by trivial⟩))
  refine Ev.andThen (ha0.mono fun o ho=>?_)
  obtain ⟨o1,o2,o3,o4⟩:=ho
  have ho1:o.st.defs=[]:=o1
  have ho3:[o.st.T.get 2,o.st.T.get 3,o.st.T.get 7,o.st.T.get 9,o.st.T.get 10]=[ptr b2,ptr b3,ptr b7,ptr b9,sV w]:=o3
  simp only [List.cons.injEq,and_true] at ho3
  unfold midRound
  rw [o2,o4,ho1]
  simp only [isReady,hl,loopR,cond_true,setLoop,beginRound]
  have hT2:∀ y∈[(2,ptr b2),(3,ptr b3),(7,ptr b7),(9,ptr b9),(10,sV w)],o.st.T.get y.1=y.2:=by
   intro y hy
   simp only [List.mem_cons,List.not_mem_nil,or_false] at hy
   rcases hy with rfl|rfl|rfl|rfl|rfl
   ·exact ho3.1
   ·exact ho3.2.1
   ·exact ho3.2.2.1
   ·exact ho3.2.2.2.1
   ·exact ho3.2.2.2.2
  have hb0:=body137 (h:=hb) (l:=l) (T:=o.st.T) (src:=src) (w:=w) hbok ((q n2).trans h2) ((q n3).trans h3) n23 ((q n7).trans h7) ((q nb9).trans h9) l9 hlo (A.fx fb fun c hc e=>ncl (e ▸ hc)) n9 hw ha hT2
  refine Ev.andThen (hb0.mono fun p hp=>?_)
  obtain ⟨_,p2⟩:=hp
  have p3:K137 b2 b3 b9 lo src c acc w hb p.ex [] p.st.h:=p2
  have gl:p.st.h.get l=some (loopR .busy none T d):=by
   rcases p3 with ⟨_,_,_,f⟩|⟨_,_,_,_,f⟩
   ·exact (f.get l hll fun h=>h.elim (fun h=>nb9 h.symm) ncl).trans ql
   ·exact (f.get l hll fun h=>h.elim (fun h=>n2 h.symm) fun h=>n3 h.symm).trans ql
  unfold endRound
  rcases id p3 with ⟨e1,e2,_⟩|⟨e1,e2,_⟩
  ·rw [e2]
   simp only [jumpOf,setLoop,gl,loopR,endRoundAt,Option.isNone,cond_true]
   refine Ev.one ⟨_,_,p3,?_⟩
   rw [e1];rfl
  ·rw [e2]
   simp only [jumpOf,setLoop,gl,loopR,endRoundAt,Option.isNone,cond_false]
   refine Ev.one ⟨_,_,p3,?_⟩
   rw [e1];rfl
 obtain ⟨y,e,ex,g,hy,rfl⟩:=ev_inv key
 refine ⟨_,_,e,rfl,?_,(upd_wm _ _ _).2,?_⟩
 ·rcases hy with ⟨_,_,_,f⟩|⟨_,_,_,_,f⟩ <;> exact ok_upd f.ok _ _
 ·rcases hy with ⟨e1,_,⟨c',s1,s2⟩,f⟩|⟨e1,_,s1,s2,f⟩
  ·refine .inl ⟨e1,by rw [get_upd_self,if_pos e1],⟨c',(get_upd_ne nb9).trans s1,?_⟩,((fb.mono (P':=fun x=>x=l\/x=b9\/blkOf c x) fun c hc=>.inl (.inl hc)).trans f fun c hc=>.inl (.inr hc)).upd (.inl (.inl rfl)) _⟩
   have nc':=s2.ne_loop (l:=l) fun vs ty es ro e=>row_ne_loopR e ((f.get l hll fun h=>h.elim (fun h=>nb9 h.symm) ncl).trans ql) rfl
   exact s2.fx ((Fx.refl (P:=fun x=>x=l) f.ok).upd (.inl rfl) _) fun c hc e=>nc' (e ▸ hc)
  ·have e1':¬ (numR w).2=true:=by rw [e1];simp
   exact .inr ⟨e1,by rw [get_upd_self,if_neg e1'],(get_upd_ne n2).trans s1,(get_upd_ne n3).trans s2,((fb.mono (P':=fun x=>x=l\/x=b2\/x=b3) fun c hc=>.inl (.inl hc)).trans f fun c hc=>.inl (.inr hc)).upd (.inl (.inl rfl)) _⟩
theorem B137_eq:B137=.seq B137a (.seq B137b (.seq B137c (.seq B137d (.seq B137e (.seq (.seq B137f (.block 0 (.rangeFunc (.tmp 37) #[38] B137i B137h))) B137g))))):=by kernel_rfl
theorem end137 {T:Tm} {h h':AH} {ds:List Nat} {b2 b3:Nat} {v:Value} {b:Bool} (hk:killAll ds h=some h') (t2:T.get 2=ptr b2) (t3:T.get 3=ptr b3) (h2:h'.get b2=some (.row [v] 26 0 false)) (h3:h'.get b3=some (.row [.bool b] 4 0 false)) :
  endCall E Tryz.f137 ⟨.ret,⟨T,h,ds⟩⟩=one (.tuple #[v,.bool b],h'):=by
 have hres:Tryz.f137.results.toList=[.cell 2 26,.cell 3 4]:=by kernel_rfl
 have l2:loadV E 26 (ptr b2) h'=some v:=load_leaf (P:=E) ta_26 (o:=0) h2
 have l3:loadV E 4 (ptr b3) h'=some (.bool b):=load_leaf (P:=E) ta_4 (o:=0) h3
 have:endCall E Tryz.f137 ⟨.ret,⟨T,h,ds⟩⟩=endCallAt E Tryz.f137 T (killAll ds h):=rfl
 rw [this,hk]
 simp only [endCallAt,resultsV,hres,resVars,t2,t3,l2,l3,v1]
def rowR (l:Bs):Option (List (Int×Int)):=
 if (cutF 58 l).2.2=true/\(numR (cutF 58 l).1).2=true/\hasP 32 (cutF 58 l).2.1=true then runS (stepW (numR (cutF 58 l).1).1) [] (splF 32 ((cutF 58 l).2.1.drop 1)) else none
def R137 (lo:Nat) (o:Option (List (Int×Int))) (x:Value) (g:AH):Prop:=match o with
 | some acc=>∃ v,x=.tuple #[v,.bool true]/\Ac lo g v acc
 | none=>x=.tuple #[.slice none 0 0,.bool false]
def J137 (kC:AH) (b9 bs:Nat) (acc:List (Int×Int)) (h:AH):Prop:=kC.next<=h.next/\(∀ c,c<kC.next->c≠b9->c≠bs->h.get c=kC.get c)/\∃ c,h.get b9=some (.row [c] 26 0 false)/\Ac kC.next h c acc
def D137 (kC:AH) (b2 b3 b9 bs l d:Nat) (T:Tm) (h:AH):Prop:=kC.next<=h.next/\(∀ c,c<kC.next->c≠l->c≠b2->c≠b3->c≠b9->c≠bs->h.get c=kC.get c)/\h.get l=some (loopR .done (some .ret) T d)/\h.get b2=some (.row [.slice none 0 0] 26 0 false)/\h.get b3=some (.row [.bool false] 4 0 false)
theorem lo137 {l:Bs} {i:Nat} (h:1<=l.length):evPure E (tmOf [(35,sV l)]) (opAt B137f [] 1)=some (sV (l.drop 1)):=by
 rw [← sl_lo (i:=1) h];kernel_rfl
theorem Fx.ofEq {P:Nat->Prop} {h h':AH} (f:Fx P h h') {w:Nat} (h1:w<=h.wm) (h2:w<=h.next) (h3:∀ c,P c->w<=c):w<=h'.wm:=f.wm w h1 h3 h2
theorem itr137 {k kC:AH} {d:Nat} {src:Int} {T:Tm} (okC:kC.ok) (hn:kC.next=k.next+9) (hd:d=k.next+7)
  (hl:kC.get (k.next+8)=some (loopR .ready none T d)) (h2:kC.get k.next=some (.row [.slice none 0 0] 26 0 false)) (h3:kC.get (k.next+1)=some (.row [.bool false] 4 0 false)) (h7:kC.get (k.next+2)=some (.row [.int .i64 src] 3 0 false))
  (hT:∀ y∈[(2,ptr k.next),(3,ptr (k.next+1)),(7,ptr (k.next+2)),(9,ptr (k.next+3))],T.get y.1=y.2) :
  Itr k.next (k.next+8) (k.next+4) 100000 List.length List.length (J137 kC (k.next+3) (k.next+4)) (D137 kC k.next (k.next+1) (k.next+3) (k.next+4) (k.next+8) d T) (stepW src) (fun w=>[sV w]):=by
 refine ⟨fun st q st' e=>?_,?_,?_,?_,⟨by omega,by omega⟩,?_⟩
 ·unfold stepW at e
  split at e
  ·cases e;simp only [List.length_append,List.length_cons,List.length_nil];omega
  ·cases e
 ·rintro st h h' ⟨j1,j2,c,j3,j4⟩ hn' hg
  refine ⟨by omega,fun x h1 h2 h3=>(hg x h3).trans (j2 x h1 h2 h3),c,(hg _ (by omega)).trans j3,?_⟩
  rcases j4 with e|⟨b,e1,e2,e3,e4⟩
  ·exact .inl e
  ·exact .inr ⟨b,e1,e2,by omega,(hg b (by omega)).trans e4⟩
 ·rintro h h' ⟨j1,j2,j3,j4,j5⟩ hn' hg
  exact ⟨by omega,fun x h1 h2 h3 h4 h5 h6=>(hg x h6).trans (j2 x h1 h2 h3 h4 h5 h6),(hg _ (by omega)).trans j3,(hg _ (by omega)).trans j4,(hg _ (by omega)).trans j5⟩
 ·rintro st h ⟨j1,_⟩
  omega
 ·rintro st w h hc ⟨j1,j2,c,j3,j4⟩ hok hw
  have nb:∀ x,blkOf c x->kC.next<=x:=by
   rintro x ⟨m,q,e⟩
   rcases j4 with ⟨_,rfl⟩|⟨b,rfl,e2,_,_⟩
   ·cases e
   ·simp only [sl,Value.slice.injEq,Option.some.injEq,Addr.mk.injEq] at e
    omega
  obtain ⟨b,h',r1,r2,r3,r4,r5⟩:=round137 (h:=h) (l:=k.next+8) (d:=d) (b2:=k.next) (b3:=k.next+1) (b7:=k.next+2) (b9:=k.next+3) (lo:=kC.next) (src:=src) (c:=c) (acc:=st) (w:=w) (T:=T) hok
   ((j2 _ (by omega) (by omega) (by omega)).trans hl) (by omega) ((j2 _ (by omega) (by omega) (by omega)).trans h2) ((j2 _ (by omega) (by omega) (by omega)).trans h3) (by omega) ((j2 _ (by omega) (by omega) (by omega)).trans h7) j3 (by omega) j1 j4
   (fun hx=>by have:=nb _ hx;omega) (by omega) (by omega) hT
  rcases r5 with ⟨e1,s1,⟨c',s2,s3⟩,f⟩|⟨e1,s1,s2,s3,f⟩
  ·have hnx:=f.next
   refine ⟨b,h',r1,r3,r4,f.ofEq hw (by omega) (by rintro c (e|e|e) <;> first|omega|(have:=nb _ e;omega)),f.get _ (by omega) (by rintro (e|e|e) <;> first|omega|(have:=nb _ e;omega)),f.next,.inl ⟨e1,st++[(src,(numR w).1)],?_,?_⟩⟩
   ·unfold stepW;rw [if_pos (r2.symm.trans e1)]
   ·refine ⟨by omega,fun x h1 h2 h3=>?_,c',s2,s3⟩
    by_cases hx:x=k.next+8
    ·rw [hx,s1,hl]
    ·exact (f.get x (by omega) (by rintro (e|e|e) <;> first|omega|(have:=nb _ e;omega))).trans (j2 x h1 h2 h3)
  ·have hnx:=f.next
   refine ⟨b,h',r1,r3,r4,f.ofEq hw (by omega) (by rintro c (e|e|e) <;> omega),f.get _ (by omega) (by rintro (e|e|e) <;> omega),f.next,.inr ⟨e1,?_,by omega,fun x h1 h2 h3 h4 h5 h6=>(f.get x (by omega) (by rintro (e|e|e) <;> omega)).trans (j2 x h1 h5 h6),s1,s2,s3⟩⟩
   unfold stepW;rw [if_neg (by rw [← r2,e1];simp)]
def K137d (k:AH) (r:Bs) (found num:Bool) (g':AH):KF:=fun ex vs g=>vs=[ptr k.next,ptr (k.next+1),sV r,ptr (k.next+2)]/\(((found&&num&&hasP 32 r)=true/\ex=.normal/\g=g') ∨
 ((found&&num&&hasP 32 r)=false/\ex=.ret/\g.get k.next=some (.row [.slice none 0 0] 26 0 false)/\g.get (k.next+1)=some (.row [.bool false] 4 0 false)/\Own k g))
theorem call137 {k:AH} {l:Bs} (hok:k.ok) (hl:l.length<=100000):Ev true ((recI E).call 137 [sV l] k) fun x=>R137 k.next (rowR l) x.1 x.2/\Fx NoB k x.2:=by
 have main:Ev true (AM.R.andThen (evC E (recI E) none (bodyOf Tryz.f137) ⟨⟨Tryz.f137.ntmps,initT [sV l] 0 .e⟩,k.fresh,[]⟩) (endCall E Tryz.f137)) fun x=>R137 k.next (rowR l) x.1 x.2/\Fx NoB k.fresh x.2:=by
  show Ev true (AM.R.andThen (evC E (recI E) none B137 _) (endCall E Tryz.f137)) _
  have hT0:∀ y∈[(0,sV l)],(⟨Tryz.f137.ntmps,initT [sV l] 0 .e⟩:Tm).get y.1=y.2:=by
   intro y hy
   simp only [List.mem_cons,List.not_mem_nil,or_false] at hy
   subst hy;kernel_rfl
  generalize (⟨Tryz.f137.ntmps,initT [sV l] 0 .e⟩:Tm)=T0 at hT0
  rw [B137_eq]
  refine Ev.andThen ?_
  obtain ⟨k1,e1,n1,t1,o1,f1⟩:=nwF k (.row [.slice none 0 0] 26 0 false)
  obtain ⟨k2,e2,n2,t2,o2,f2⟩:=nw o1 (.row [.bool false] 4 0 false)
  rw [n1] at t2
  have g2:k2.get k.next=some (.row [.slice none 0 0] 26 0 false):=(f2 _ (by omega)).trans t1
  refine seg_ok (F137a_ev (s:=true) (h:=k.fresh) (K:=fun ex vs g=>ex=.normal/\vs=[sV l,ptr k.next,ptr (k.next+1)]/\g=k2) hT0 (P137a_0_of (by
   simp only [z_26,z_4,new_row,ev_one,evO_some,cells_slice,cells_bool,e1,next_fresh,e2,n1]
   exact ⟨by trivial,by trivial,by trivial⟩))) rfl ?_
  rintro ex T g ⟨rfl,hv,rfl⟩
  refine .inl ⟨rfl,?_⟩
  have hv':[T.get 0,T.get 2,T.get 3]=[sV l,ptr k.next,ptr (k.next+1)]:=hv
  simp only [List.cons.injEq,and_true] at hv'
  refine seg_ok (F137b_ev (s:=true) (v0:=sV l) (v2:=ptr k.next) (v3:=ptr (k.next+1)) (T:=T) (h:=g) (K:=fun ex vs g'=>ex=.normal/\vs=[ptr k.next,ptr (k.next+1),sV (cutF 58 l).1,sV (cutF 58 l).2.1,.bool (cutF 58 l).2.2]/\g'=g) (by
   intro y hy
   simp only [List.mem_cons,List.not_mem_nil,or_false] at hy
   rcases hy with rfl|rfl|rfl
   ·exact hv'.1
   ·exact hv'.2.1
   ·exact hv'.2.2) (P137b_0_of (by
   rw [wCall_0,call183 (c:=58) o2.ext.ok (by omega),ev_some,ext3.1,evO_some,ext3.2.1,evO_some,ext3.2.2,evO_some]
   exact ⟨by trivial,by trivial,by trivial⟩))) rfl ?_
  rintro ex T1 g ⟨rfl,hv,rfl⟩
  refine .inl ⟨rfl,?_⟩
  have hv1:[T1.get 2,T1.get 3,T1.get 4,T1.get 5,T1.get 6]=[ptr k.next,ptr (k.next+1),sV (cutF 58 l).1,sV (cutF 58 l).2.1,.bool (cutF 58 l).2.2]:=hv
  simp only [List.cons.injEq,and_true] at hv1
  have hcl:(cutF 58 l).1.length<=l.length/\(cutF 58 l).2.1.length<=l.length:=by
   cases hc:(cutF 58 l).2.2 with
   | true=>
    obtain ⟨h1,h2,h3⟩:=cutF_len 58 l hc
    exact ⟨by omega,by rw [← h2,List.length_drop];omega⟩
   | false=>rw [cutF_none 58 l hc];exact ⟨Nat.le_refl _,Nat.zero_le _⟩
  have hrow:rowR l=if (cutF 58 l).2.2=true/\(numR (cutF 58 l).1).2=true/\hasP 32 (cutF 58 l).2.1=true then runS (stepW (numR (cutF 58 l).1).1) [] (splF 32 ((cutF 58 l).2.1.drop 1)) else none:=rfl
  generalize (cutF 58 l).1=head at *
  generalize (cutF 58 l).2.1=r at *
  generalize (cutF 58 l).2.2=found at *
  obtain ⟨k3,e3,n3,t3,o3,f3⟩:=nw o2 (.row [.int .i64 0] 3 0 false)
  rw [n2,n1] at t3
  obtain ⟨k4,e4,n4,t4,o4,f4⟩:=up o3 (b:=k.next+2) (by omega) (.row [.int .i64 (numR head).1] 3 0 false)
  refine seg_ok (F137c_ev (s:=true) (v2:=ptr k.next) (v3:=ptr (k.next+1)) (v4:=sV head) (v5:=sV r) (v6:=.bool found) (T:=T1) (h:=g) (K:=fun ex vs g'=>ex=.normal/\vs=[ptr k.next,ptr (k.next+1),sV r,.bool found,ptr (k.next+2),.bool (numR head).2]/\g'=k4) (by
   intro y hy
   simp only [List.mem_cons,List.not_mem_nil,or_false] at hy
   rcases hy with rfl|rfl|rfl|rfl|rfl
   ·exact hv1.1
   ·exact hv1.2.1
   ·exact hv1.2.2.1
   ·exact hv1.2.2.2.1
   ·exact hv1.2.2.2.2) (P137c_0_of (by
   rw [wCall_0,call184 o2.ext.ok (by omega),ev_some,ext2.1,evO_some,ext2.2,evO_some]
   simp only [z_3,new_row,ev_one,cells_int,e3,n2,n1,show k.next+1+1=k.next+2 from rfl]
   rw [st3 t3,ev_one,e4]
   exact ⟨by trivial,by trivial,by trivial⟩))) rfl ?_
  rintro ex T2 g' ⟨rfl,hv,rfl⟩
  refine .inl ⟨rfl,?_⟩
  have hv2:[T2.get 2,T2.get 3,T2.get 5,T2.get 6,T2.get 7,T2.get 8]=[ptr k.next,ptr (k.next+1),sV r,.bool found,ptr (k.next+2),.bool (numR head).2]:=hv
  simp only [List.cons.injEq,and_true] at hv2
  have b2:g'.get k.next=some (.row [.slice none 0 0] 26 0 false):=(f4 _ (by omega)).trans ((f3 _ (by omega)).trans g2)
  have b3:g'.get (k.next+1)=some (.row [.bool false] 4 0 false):=(f4 _ (by omega)).trans ((f3 _ (by omega)).trans t2)
  have m4:g'.next=k.next+3:=by omega
  have b7:g'.get (k.next+2)=some (.row [.int .i64 (numR head).1] 3 0 false):=t4
  have hd:Ev true (evC E (recI E) none B137d ⟨T2,g',[]⟩) (finQ (C137d true) (K137d k r found (numR head).2 g')):=by
   refine F137d_ev (v2:=ptr k.next) (v3:=ptr (k.next+1)) (v5:=sV r) (v6:=.bool found) (v7:=ptr (k.next+2)) (v8:=.bool (numR head).2) (by
    intro y hy
    simp only [List.mem_cons,List.not_mem_nil,or_false] at hy
    rcases hy with rfl|rfl|rfl|rfl|rfl|rfl
    ·exact hv2.1
    ·exact hv2.2.1
    ·exact hv2.2.2.1
    ·exact hv2.2.2.2.1
    ·exact hv2.2.2.2.2.1
    ·exact hv2.2.2.2.2.2) (P137d_0_of ?_)
   generalize (numR head).2=num
   have bad:(found&&num&&hasP 32 r)=false->PI (C137d true) (K137d k r found num g') 1 [ptr k.next,ptr (k.next+1),sV r,ptr (k.next+2)] g':=by
    intro hno
    refine P137d_1_of ?_
    rw [st26 b2 ⟨rfl,rfl⟩,ev_one,st4 ((get_upd_ne (by omega)).trans b3),ev_one]
    exact ⟨rfl,.inr ⟨hno,rfl,(get_upd_ne (by omega)).trans (get_upd_self _ _ _),get_upd_self _ _ _,(o4.upd (Nat.le_refl _) _).upd (by omega) _⟩⟩
   have good:(found&&num&&hasP 32 r)=true->K137d k r found num g' .normal [ptr k.next,ptr (k.next+1),sV r,ptr (k.next+2)] g':=fun h=>⟨rfl,.inl ⟨h,rfl,rfl⟩⟩
   have tf:(true==false)=false:=rfl
   have ff:(false==false)=true:=rfl
   rw [uf_not,evO_some]
   cases found with
   | false=>
    simp only [Bool.not_false,gdB_bool,gdW_bool,tf,cond_false,evO_some,pick_bool,cond_true,ev_one,brK_t]
    exact bad rfl
   | true=>
   cases num with
   | false=>
    simp only [Bool.not_true,gdB_bool,gdW_bool,ff,tf,cond_true,evO_some,uf_not,Bool.not_false,pick_bool,cond_false,ev_one,brK_t]
    exact bad rfl
   | true=>
   simp only [Bool.not_true,gdB_bool,gdW_bool,ff,cond_true,evO_some,uf_not,pick_bool,cond_false,wCall_0,call185 (c:=32) o4.ext.ok,ev_some]
   cases hp:hasP 32 r with
   | false=>
    simp only [Bool.not_false,brK_t]
    exact bad (by rw [hp];rfl)
   | true=>
    simp only [Bool.not_true,brK_f]
    exact good (by rw [hp];rfl)
  refine seg_ok hd rfl ?_
  rintro ex T3 g ⟨hv,hcase⟩
  have hv3:[T3.get 2,T3.get 3,T3.get 5,T3.get 7]=[ptr k.next,ptr (k.next+1),sV r,ptr (k.next+2)]:=hv
  simp only [List.cons.injEq,and_true] at hv3
  rcases hcase with ⟨hyes,rfl,rfl⟩|⟨hno,rfl,q1,q2,q3⟩
  case inr=>
   refine .inr ⟨by simp,?_⟩
   show Ev true (endCall E Tryz.f137 ⟨.ret,⟨T3,g,[]⟩⟩) _
   rw [end137 rfl hv3.1 hv3.2.1 q1 q2,ev_one,hrow,if_neg (fun h=>by rw [h.1,h.2.1,h.2.2] at hno;cases hno)]
   exact ⟨rfl,fx_own q3⟩
  refine .inl ⟨rfl,?_⟩
  simp only [Bool.and_eq_true] at hyes
  obtain ⟨⟨q1,q2⟩,q3⟩:=hyes
  rw [if_pos ⟨q1,q2,q3⟩] at hrow
  have hr1:1<=r.length:=by
   cases r with
   | nil=>simp [hasP] at q3
   | cons a r=>simp
  obtain ⟨k5,e5,n5,t5,o5,f5⟩:=nw o4 (.row [.slice none 0 0] 26 0 false)
  rw [m4] at t5
  refine seg_ok (F137e_ev (s:=true) (v2:=ptr k.next) (v3:=ptr (k.next+1)) (v5:=sV r) (v7:=ptr (k.next+2)) (T:=T3) (h:=g) (K:=fun ex vs g'=>ex=.normal/\vs=[ptr k.next,ptr (k.next+1),sV r,ptr (k.next+2),ptr (k.next+3)]/\g'=k5) (by
   intro y hy
   simp only [List.mem_cons,List.not_mem_nil,or_false] at hy
   rcases hy with rfl|rfl|rfl|rfl
   ·exact hv3.1
   ·exact hv3.2.1
   ·exact hv3.2.2.1
   ·exact hv3.2.2.2) (P137e_0_of (by
   simp only [z_26,new_row,ev_one,cells_slice,e5,m4]
   exact ⟨by trivial,by trivial,by trivial⟩))) rfl ?_
  rintro ex T4 g5 ⟨rfl,hv,rfl⟩
  refine .inl ⟨rfl,?_⟩
  have hv4:[T4.get 2,T4.get 3,T4.get 5,T4.get 7,T4.get 9]=[ptr k.next,ptr (k.next+1),sV r,ptr (k.next+2),ptr (k.next+3)]:=hv
  simp only [List.cons.injEq,and_true] at hv4
  have m5:g5.next=k.next+4:=by omega
  have c2:=(f5 _ (by omega)).trans b2
  have c3:=(f5 _ (by omega)).trans b3
  have c7:=(f5 _ (by omega)).trans b7
  show Ev true (AM.R.andThen (AM.R.andThen (evC E (recI E) none B137f ⟨T4,g5,[]⟩) (thenC (evC E (recI E) none (.block 0 (.rangeFunc (.tmp 37) #[38] B137i B137h))))) (thenC (evC E (recI E) none B137g))) _
  refine Ev.andThen (Ev.andThen ?_)
  have hfe:=F137f_ev (s:=true) (v2:=ptr k.next) (v3:=ptr (k.next+1)) (v5:=sV r) (v7:=ptr (k.next+2)) (v9:=ptr (k.next+3)) (T:=T4) (h:=g5) (K:=fun ex vs g=>∃ v,ex=.normal/\vs=[ptr k.next,ptr (k.next+1),ptr (k.next+2),ptr (k.next+3),v]/\Seq3 g5 (r.drop 1) 32 v g) (by
   intro y hy
   simp only [List.mem_cons,List.not_mem_nil,or_false] at hy
   rcases hy with rfl|rfl|rfl|rfl|rfl
   ·exact hv4.1
   ·exact hv4.2.1
   ·exact hv4.2.2.1
   ·exact hv4.2.2.2.1
   ·exact hv4.2.2.2.2) (P137f_0_of (by
   rw [lo137 (i:=1) hr1,evO_some,wCall_0]
   exact (call186 (c:=32) o5.ext.ok).mono fun y hy=>⟨y.1,rfl,rfl,hy⟩))
  refine hfe.mono fun o ho=>?_
  obtain ⟨ex,T',kB,ds⟩:=o
  obtain ⟨p1,v,p2,p3,y1,nB,okB,wB,s1,s2,s3,bo⟩:=ho
  have p1':ds=[]:=p1
  have p2':ex=.normal:=p2
  subst p1' p2'
  clear p1 p2
  have p3':[T'.get 2,T'.get 3,T'.get 7,T'.get 9,T'.get 37]=[ptr k.next,ptr (k.next+1),ptr (k.next+2),ptr (k.next+3),v]:=p3
  rw [y1] at p3'
  simp only [List.cons.injEq,and_true] at p3'
  obtain ⟨u2,u3,u7,u9,u37⟩:=p3'
  clear p3
  simp only at nB okB wB s1 s2 s3 bo
  rw [m5] at nB s1 s2 s3 bo u37
  show Ev true (AM.R.andThen (evRange E (recI E) none (some (T'.get 37)) [38] B137i B137h ⟨T',kB,[]⟩) (blockOut 0)) _
  rw [u37]
  have hhb:hasBody E 261=true:=by kernel_rfl
  have hst:evRange E (recI E) none (some (.func (.func 261) #[] #[ptr (k.next+4+1),ptr (k.next+4),ptr (k.next+4+2)])) [38] B137i B137h ⟨T',kB,[]⟩ =
    AM.R.andThen ((recI E).call 261 [.func (.yield (kB.next+1)) #[] #[],ptr (k.next+4+1),ptr (k.next+4),ptr (k.next+4+2)] ((kB.new .defd).new (loopR .ready none T' kB.next))) fun x=>endRange (kB.next+1) T' [kB.next] x.2:=by
   unfold evRange
   simp only [hhb,cond_true]
   rfl
  rw [hst]
  refine Ev.andThen (Ev.andThen ?_)
  have okC:((kB.new .defd).new (loopR .ready none T' kB.next)).ok:=ok_new (ok_new okB _) _
  have cl':((kB.new .defd).new (loopR .ready none T' kB.next)).get (kB.next+1)=some (loopR .ready none T' kB.next):=get_new_self (kB.new .defd) _
  have cd:((kB.new .defd).new (loopR .ready none T' kB.next)).get kB.next=some .defd:=(get_new_ne (by simp)).trans (get_new_self kB _)
  have co:∀ c,c<kB.next->((kB.new .defd).new (loopR .ready none T' kB.next)).get c=kB.get c:=fun c hc=>(get_new_ne (by simp;omega)).trans (get_new_ne (by omega))
  have nC:((kB.new .defd).new (loopR .ready none T' kB.next)).next=kB.next+2:=rfl
  have wC:((kB.new .defd).new (loopR .ready none T' kB.next)).wm=kB.wm:=rfl
  rw [nB] at okC wC cl' cd co nC ⊢
  rw [show k.next+4+3=k.next+7 from rfl] at okC wC cl' cd co nC ⊢
  rw [show k.next+7+1=k.next+8 from rfl] at cl' ⊢
  generalize ((kB.new .defd).new (loopR .ready none T' (k.next+7)))=kC at okC cl' cd co nC wC
  have cg:∀ c,c<k.next+4->kC.get c=g5.get c:=fun c hc=>(co c (by omega)).trans (bo c hc)
  have eC:Ext k kC:=⟨okC,by omega,fun c hc=>(cg c (by omega)).trans (o5.ext.get c hc)⟩
  have hw0:k.next<=kC.wm:=by rw [wC];exact wB _ o5.wm (by omega)
  have hI:=itr137 (k:=k) (kC:=kC) (d:=k.next+7) (src:=(numR head).1) (T:=T') okC (by omega) rfl cl' ((cg _ (by omega)).trans c2) ((cg _ (by omega)).trans c3) ((cg _ (by omega)).trans c7) (by
   intro y hy
   simp only [List.mem_cons,List.not_mem_nil,or_false] at hy
   rcases hy with rfl|rfl|rfl|rfl
   ·exact u2
   ·exact u3
   ·exact u7
   ·exact u9)
  have hit:=iter261 (c:=32) hI (by omega) (st:=[]) (h:=kC) (l:=r.drop 1) (bsep:=k.next+4+1) (bsv:=k.next+4+2) (fun st h ⟨j1,j2,_⟩=>⟨(j2 _ (by omega) (by omega) (by omega)).trans ((co _ (by omega)).trans s2),(j2 _ (by omega) (by omega) (by omega)).trans ((co _ (by omega)).trans s3)⟩)
   (by rw [List.length_nil,List.length_drop];omega) ⟨Nat.le_refl _,fun _ _ _ _=>rfl,.slice none 0 0,(cg _ (by omega)).trans t5,.inl ⟨rfl,rfl⟩⟩ okC hw0 ((co _ (by omega)).trans s1)
  rw [← hrow] at hit
  refine hit.mono fun y hy=>?_
  obtain ⟨vv,h⟩:=y
  obtain ⟨okh,wmh,w0h,hres⟩:=hy
  simp only at okh wmh w0h hres ⊢
  cases hro:rowR l with
  | none=>
   rw [hro] at hres
   obtain ⟨j1,j2,j3,j4,j5⟩:=hres
   have her:endRange (k.next+8) T' [k.next+7] h=one ⟨.ret,⟨T',h.upd (k.next+8) (some (loopR .exhausted (some .ret) T' (k.next+7))),[k.next+7]⟩⟩:=by
    unfold endRange
    rw [j3]
    rfl
   rw [her,ev_one]
   show Ev true (one _) _
   rw [ev_one]
   show Ev true (one _) _
   rw [ev_one]
   have hO:Own k h:=⟨⟨okh,by omega,fun c hc=>(j2 c (by omega) (by omega) (by omega) (by omega) (by omega) (by omega)).trans (eC.get c hc)⟩,w0h⟩
   have gd:(h.upd (k.next+8) (some (loopR .exhausted (some .ret) T' (k.next+7)))).get (k.next+7)=some .defd:=(get_upd_ne (by omega)).trans ((j2 _ (by omega) (by omega) (by omega) (by omega) (by omega) (by omega)).trans cd)
   show Ev true (endCall E Tryz.f137 ⟨.ret,⟨T',h.upd (k.next+8) (some (loopR .exhausted (some .ret) T' (k.next+7))),[k.next+7]⟩⟩) _
   rw [end137 (b:=false) (v:=.slice none 0 0) (h':=(h.upd (k.next+8) (some (loopR .exhausted (some .ret) T' (k.next+7)))).upd (k.next+7) none) (by simp only [killAll,gd]) u2 u3 ((get_upd_ne (by omega)).trans ((get_upd_ne (by omega)).trans j4)) ((get_upd_ne (by omega)).trans ((get_upd_ne (by omega)).trans j5)),ev_one]
   exact ⟨rfl,fx_own ((hO.upd (by omega) _).upd (by omega) _)⟩
  | some acc=>
   rw [hro] at hres
   obtain ⟨j1,j2,c,j3,j4⟩:=hres
   have hgl:h.get (k.next+8)=some (loopR .ready none T' (k.next+7)):=(j2 _ (by omega) (by omega) (by omega)).trans cl'
   have her:endRange (k.next+8) T' [k.next+7] h=one ⟨.normal,⟨T',h.upd (k.next+8) (some (loopR .exhausted none T' (k.next+7))),[k.next+7]⟩⟩:=by
    unfold endRange
    rw [hgl]
    rfl
   rw [her,ev_one]
   show Ev true (one _) _
   rw [ev_one]
   have hO:Own k h:=⟨⟨okh,by omega,fun c hc=>(j2 c (by omega) (by omega) (by omega)).trans (eC.get c hc)⟩,w0h⟩
   have hO1:Own k (h.upd (k.next+8) (some (loopR .exhausted none T' (k.next+7)))):=hO.upd (by omega) _
   have f1:Fx (fun x=>x<kC.next) h (h.upd (k.next+8) (some (loopR .exhausted none T' (k.next+7)))):=(Fx.refl okh).upd (.inl (by show k.next+8<_;omega)) _
   have nbc:∀ x,blkOf c x->¬ x<kC.next:=by
    rintro x ⟨m,q,e⟩
    rcases j4 with ⟨_,rfl⟩|⟨b,rfl,e2,_,_⟩
    ·cases e
    ·simp only [sl,Value.slice.injEq,Option.some.injEq,Addr.mk.injEq] at e
     omega
   have hA1:=j4.fx f1 nbc
   have gd:(h.upd (k.next+8) (some (loopR .exhausted none T' (k.next+7)))).get (k.next+7)=some .defd:=(get_upd_ne (by omega)).trans ((j2 _ (by omega) (by omega) (by omega)).trans cd)
   have z2:(h.upd (k.next+8) (some (loopR .exhausted none T' (k.next+7)))).get k.next=some (.row [.slice none 0 0] 26 0 false):=(get_upd_ne (by omega)).trans ((j2 _ (by omega) (by omega) (by omega)).trans ((cg _ (by omega)).trans c2))
   have z3:(h.upd (k.next+8) (some (loopR .exhausted none T' (k.next+7)))).get (k.next+1)=some (.row [.bool false] 4 0 false):=(get_upd_ne (by omega)).trans ((j2 _ (by omega) (by omega) (by omega)).trans ((cg _ (by omega)).trans c3))
   have z9:(h.upd (k.next+8) (some (loopR .exhausted none T' (k.next+7)))).get (k.next+3)=some (.row [c] 26 0 false):=(get_upd_ne (by omega)).trans j3
   generalize (h.upd (k.next+8) (some (loopR .exhausted none T' (k.next+7))))=h1 at hO1 f1 hA1 gd z2 z3 z9
   show Ev true (evC E (recI E) none B137g ⟨T',h1,[k.next+7]⟩) _
   have hg:=F137g_ev (s:=true) (d:=k.next+7) (v2:=ptr k.next) (v3:=ptr (k.next+1)) (v9:=ptr (k.next+3)) (T:=T') (h:=h1) (K:=fun ex vs g=>ex=.ret/\vs=[ptr k.next,ptr (k.next+1)]/\g=(h1.upd k.next (some (.row [c] 26 0 false))).upd (k.next+1) (some (.row [.bool true] 4 0 false))) (by
    intro y hy
    simp only [List.mem_cons,List.not_mem_nil,or_false] at hy
    rcases hy with rfl|rfl|rfl
    ·exact u2
    ·exact u3
    ·exact u9) (P137g_0_of (by
    rw [ld26 z9,evO_some,st26 z2 ⟨hA1.leaf.1,hA1.leaf.2.1⟩,ev_one,st4 ((get_upd_ne (by omega)).trans z3),ev_one]
    exact ⟨by trivial,by trivial,by trivial⟩))
   refine hg.mono fun o ho=>?_
   obtain ⟨ex,T2',g2,ds⟩:=o
   obtain ⟨o1',o2',o3',o4'⟩:=ho
   have o1'':ds=[k.next+7]:=o1'
   have o2'':ex=.ret:=o2'
   have o4'':g2=(h1.upd k.next (some (.row [c] 26 0 false))).upd (k.next+1) (some (.row [.bool true] 4 0 false)):=o4'
   have o3'':[T2'.get 2,T2'.get 3]=[ptr k.next,ptr (k.next+1)]:=o3'
   subst o1'' o2'' o4''
   simp only [List.cons.injEq,and_true] at o3''
   show Ev true (endCall E Tryz.f137 ⟨.ret,⟨T2',(h1.upd k.next (some (.row [c] 26 0 false))).upd (k.next+1) (some (.row [.bool true] 4 0 false)),[k.next+7]⟩⟩) _
   have gd2:((h1.upd k.next (some (.row [c] 26 0 false))).upd (k.next+1) (some (.row [.bool true] 4 0 false))).get (k.next+7)=some .defd:=(get_upd_ne (by omega)).trans ((get_upd_ne (by omega)).trans gd)
   rw [end137 (b:=true) (v:=c) (h':=((h1.upd k.next (some (.row [c] 26 0 false))).upd (k.next+1) (some (.row [.bool true] 4 0 false))).upd (k.next+7) none) (by simp only [killAll,gd2]) o3''.1 o3''.2 ((get_upd_ne (by omega)).trans ((get_upd_ne (by omega)).trans (get_upd_self _ _ _))) ((get_upd_ne (by omega)).trans (get_upd_self _ _ _)),ev_one]
   refine ⟨⟨c,rfl,?_⟩,fx_own (((hO1.upd (Nat.le_refl _) _).upd (by omega) _).upd (by omega) _)⟩
   have f3:Fx (fun x=>x<kC.next) h1 (((h1.upd k.next (some (.row [c] 26 0 false))).upd (k.next+1) (some (.row [.bool true] 4 0 false))).upd (k.next+7) none):=(((Fx.refl hO1.ext.ok).upd (.inl (by show k.next<_;omega)) _).upd (.inl (by show k.next+1<_;omega)) _).upd (.inl (by show k.next+7<_;omega)) _
   rcases hA1.fx f3 nbc with e|⟨b,e1,e2,e3,e4⟩
   ·exact .inl e
   ·exact .inr ⟨b,e1,by omega,e3,e4⟩
 refine (call_anyF (Q:=fun v m=>R137 k.next (rowR l) v m/\Fx NoB k.fresh m) hok F137_get F137_body (F137_sum _ _) (by kernel_rfl) main).mono ?_
 rintro ⟨x,m⟩ ⟨k',⟨hr,hf⟩,⟨_,hfl,h2⟩|h2⟩
 ·simp only at h2 hfl hr ⊢
  subst h2
  refine ⟨?_,Fx.refl hok⟩
  cases hro:rowR l with
  | none=>rw [hro] at hr;exact hr
  | some acc=>
   rw [hro] at hr
   obtain ⟨v,rfl,A⟩:=hr
   rcases A with e|⟨b,rfl,_⟩
   ·exact ⟨v,rfl,.inl e⟩
   ·cases hfl
 ·simp only at h2 hr hf ⊢
  subst h2
  refine ⟨?_,hf.back⟩
  cases hro:rowR l with
  | none=>rw [hro] at hr;exact hr
  | some acc=>
   rw [hro] at hr
   obtain ⟨v,rfl,A⟩:=hr
   exact ⟨v,rfl,A.wm _⟩
theorem lnk_strict {B:GB} (h:lnkErr B=0):Strict B.prs:=by
 refine strict_of fun j p q hp hq=>?_
 have hql:=(List.getElem?_eq_some_iff.1 hq).1
 unfold lnkErr at h
 split at h
 ·omega
 ·split at h
  ·omega
  ·split at h
   ·omega
   ·rename_i h3
    have:=anyFrom_false (Bool.not_eq_true _ ▸ h3) (j+1) (Nat.zero_le _) (by omega)
    unfold prBadAt at this
    simp only [hq,Nat.add_sub_cancel,hp,Nat.succ_pos,decide_true,Bool.true_and,Bool.or_eq_false_iff,decide_eq_false_iff_not] at this
    omega
end Go.Proofs
namespace Go.Proofs
open Go Go.AM
set_option maxRecDepth 100000
set_option maxHeartbeats 1000000
abbrev Grs:=List (Nat×List Nat)
def flatG (G:Grs):List (Int×Int):=G.flatMap fun g=>g.2.map fun t:Nat=>((g.1:Int),(t:Int))
def gT (G:Grs):Bs:=G.flatMap fun g=>rowT g++[10]
def okG:Int->Grs->Prop
 | _,[]=>True
 | last,g::G=>last<(g.1:Int)/\g.2≠[]/\g.1<=1000000/\(∀ t∈g.2,t<=1000000)/\okG g.1 G
def rowsF:Int->List (Int×Int)->Bs
 | _,[]=>[]
 | last,p::ps=>(if p.1≠last then 10::(dig p.1.toNat++[58]) else [])++32::dig p.2.toNat++rowsF p.1 ps
theorem rows_same (s:Nat):∀ (ts:List Nat) (R:List (Int×Int)),rowsF s (ts.map (fun t:Nat=>((s:Int),(t:Int)))++R)=(ts.flatMap fun t=>32::dig t)++rowsF s R
 | [],R=>rfl
 | t::ts,R=>by
  have ih:=rows_same s ts R
  simp only [List.map_cons,List.cons_append,rowsF,ne_eq,not_true_eq_false,if_false,List.nil_append,ih,List.flatMap_cons,List.append_assoc,Int.toNat_natCast]
theorem rows_gT:∀ (G:Grs) (last:Int),okG last G->rowsF last (flatG G)++[10]=10::gT G
 | [],last,_=>rfl
 | (s,ts)::G,last,h=>by
  obtain ⟨h1,h2,h3,h4,h5⟩:=h
  have ih:=rows_gT G s h5
  cases ts with
  | nil=>exact absurd rfl h2
  | cons t ts=>
   have e:flatG ((s,t::ts)::G)=((s:Int),(t:Int))::(ts.map (fun t:Nat=>((s:Int),(t:Int)))++flatG G):=rfl
   simp only at h1
   rw [e]
   simp only [rowsF,rows_same,ne_eq,show ¬ (s:Int)=last by omega,not_false_eq_true,if_true,Int.toNat_natCast]
   have e2:gT ((s,t::ts)::G)=rowT (s,t::ts)++[10]++gT G:=rfl
   rw [e2]
   simp only [List.append_assoc,List.cons_append,List.nil_append,ih,rowT,List.flatMap_cons]
def rd:Nat->Bool->Int->Int->List (Int×Int)->Bs->Option (Bool×Int×List (Int×Int))
 | 0,first,_,k,p,_=>some (first,k,p)
 | f+1,first,last,k,p,s=>if s=[] then some (first,k,p) else
   if (cutF 10 s).2.2=false then none
   else if first=true then (if isMan (kindOf (cutF 10 s).1)=true then rd f false last (kindOf (cutF 10 s).1) p (cutF 10 s).2.1 else none)
   else match rowF (cutF 10 s).1 with
    | none=>none
    | some g=>if (g.1:Int)<=last then none else rd f false g.1 k (p++g.2.map fun t:Nat=>((g.1:Int),(t:Int))) (cutF 10 s).2.1
where kindOf (l:Bs):Int:=if l=[] then 0 else if l=[115,116,114,111,110,103] then 1 else if l=[98,114,97,110,99,104,105,110,103] then 2 else -1
def readF (s:Bs):Option GB:=match rd s.length true (-1) 0 [] s with
 | some (first,k,p)=>if first=false/\lnkErr ⟨k,p⟩=0 then some ⟨k,p⟩ else none
 | none=>none
def nameF (k:Int):Bs:=if k=1 then [115,116,114,111,110,103] else [98,114,97,110,99,104,105,110,103]
def bigP (B:GB):Bool:=B.prs.any fun p=>decide (1000000<p.1)||decide (1000000<p.2)
def writeF (B:GB):Option Bs:=if lnkErr B=0/\bigP B=false then some (nameF B.kind++rowsF (-1) B.prs++[10]) else none
theorem row_no (g:Nat×List Nat):(10:UInt8) ∉ rowT g:=by
 unfold rowT
 intro h
 rcases List.mem_append.1 h with h|h
 ·exact dig_no (by decide) _ h
 ·rcases List.mem_cons.1 h with h|h
  ·cases h
  ·obtain ⟨t,_,h⟩:=List.mem_flatMap.1 h
   rcases List.mem_cons.1 h with h|h
   ·cases h
   ·exact dig_no (by decide) _ h
theorem rd_gT:∀ (G:Grs) (f:Nat) (last k:Int) (p:List (Int×Int)),okG last G->(gT G).length<=f->rd f false last k p (gT G)=some (false,k,p++flatG G)
 | [],f,last,k,p,_,_=>by
  have:gT []=[]:=rfl
  rw [this]
  cases f <;> simp [rd,flatG]
 | g::G,f,last,k,p,h,hf=>by
  obtain ⟨h1,h2,h3,h4,h5⟩:=h
  have e:gT (g::G)=rowT g++10::gT G:=by
   show (rowT g++[10])++gT G=_
   simp
  rw [e] at hf ⊢
  cases f with
  | zero=>simp at hf
  | succ f=>
   have hne:rowT g++10::gT G≠[]:=by simp
   simp only [rd,if_neg hne,cutF_app _ (row_no g)]
   simp only [Bool.true_eq_false,if_false,Bool.false_eq_true,rowF_iff.2 ⟨rfl,h2,h3,h4⟩]
   rw [if_neg (by omega),rd_gT G f _ _ _ h5 (by simp at hf;omega)]
   have:flatG (g::G)=(g.2.map fun t:Nat=>((g.1:Int),(t:Int)))++flatG G:=rfl
   rw [this,List.append_assoc]
theorem gT_rd:∀ (f:Nat) (last k:Int) (p:List (Int×Int)) (s:Bs) (k':Int) (q:List (Int×Int)) (b:Bool),s.length<=f->rd f false last k p s=some (b,k',q)->∃ G,okG last G/\s=gT G/\q=p++flatG G/\k'=k/\b=false
 | 0,last,k,p,s,k',q,b,hf,h=>by
  have:s=[]:=List.length_eq_zero_iff.1 (by omega)
  subst this
  simp only [rd,Option.some.injEq,Prod.mk.injEq] at h
  obtain ⟨rfl,rfl,rfl⟩:=h
  exact ⟨[],trivial,rfl,by simp [flatG],rfl,rfl⟩
 | f+1,last,k,p,s,k',q,b,hf,h=>by
  simp only [rd] at h
  by_cases hs:s=[]
  ·rw [if_pos hs] at h
   simp only [Option.some.injEq,Prod.mk.injEq] at h
   obtain ⟨rfl,rfl,rfl⟩:=h
   exact ⟨[],trivial,hs,by simp [flatG],rfl,rfl⟩
  ·rw [if_neg hs] at h
   by_cases hc:(cutF 10 s).2.2=false
   ·rw [if_pos hc] at h;cases h
   ·rw [if_neg hc] at h
    simp only [Bool.false_eq_true,if_false] at h
    have hct:(cutF 10 s).2.2=true:=by simpa using hc
    obtain ⟨e1,_⟩:=cutF_true hct
    split at h
    ·cases h
    ·rename_i g hg
     obtain ⟨g1,g2,g3,g4⟩:=rowF_iff.1 hg
     split at h
     ·cases h
     ·rename_i hl
      have hlen:(cutF 10 s).2.1.length<=f:=by
       have:=congrArg List.length e1
       simp at this
       omega
      obtain ⟨G,a1,a2,a3,a4,a5⟩:=gT_rd f _ _ _ _ _ _ _ hlen h
      refine ⟨g::G,⟨by omega,g2,g3,g4,a1⟩,?_,?_,a4,a5⟩
      ·show s=(rowT g++[10])++gT G
       rw [e1,g1,a2];simp
      ·rw [a3,List.append_assoc];rfl
theorem groups:∀ (ps:List (Int×Int)),Strict ps->(∀ p∈ps,(0<=p.1/\p.1<=1000000)/\(0<=p.2/\p.2<=1000000))->∃ G,flatG G=ps/\∀ last:Int,(∀ p,ps.head?=some p->last<p.1)->okG last G
 | [],_,_=>⟨[],rfl,fun _ _=>trivial⟩
 | p::ps,hs,hr=>by
  obtain ⟨s1,s2⟩:=List.pairwise_cons.1 hs
  obtain ⟨⟨p1,p2⟩,p3,p4⟩:=hr p (by simp)
  obtain ⟨G,g1,g2⟩:=groups ps s2 fun q hq=>hr q (by simp [hq])
  have e1:((p.1.toNat:Nat):Int)=p.1:=by omega
  have e2:((p.2.toNat:Nat):Int)=p.2:=by omega
  have mk:(∀ q,ps.head?=some q->p.1<q.1)->∃ G,flatG G=p::ps/\∀ last:Int,(∀ q,(p::ps).head?=some q->last<q.1)->okG last G:=by
   intro hh
   refine ⟨(p.1.toNat,[p.2.toNat])::G,?_,fun last hl=>⟨by have:=hl p rfl;simp only;omega,by simp,by simp only;omega,fun t ht=>by rw [List.mem_singleton.1 ht];omega,?_⟩⟩
   ·show [((p.1.toNat:Int),(p.2.toNat:Int))]++flatG G=_
    rw [g1,e1,e2];rfl
   ·simp only
    rw [e1];exact g2 _ hh
  cases ps with
  | nil=>exact mk fun q hq=>by cases hq
  | cons q ps=>
   have hlt:=(cmpP_lt _ _).1 (s1 q (by simp))
   rcases hlt with h|⟨h,h'⟩
   ·exact mk fun r hr=>by simp only [List.head?_cons,Option.some.injEq] at hr;rw [← hr];exact h
   ·cases G with
    | nil=>cases g1
    | cons g G=>
     have ok0:=g2 (q.1-1) fun r hr=>by simp only [List.head?_cons,Option.some.injEq] at hr;rw [← hr];omega
     obtain ⟨o1,o2,o3,o4,o5⟩:=ok0
     obtain ⟨s,ts⟩:=g
     cases ts with
     | nil=>exact absurd rfl o2
     | cons t ts=>
      have g1':((s:Int),(t:Int))::((ts.map fun t:Nat=>((s:Int),(t:Int)))++flatG G)=q::ps:=g1
      have hs':(s:Int)=p.1:=by
       have:=(List.cons.inj g1').1
       rw [h,← this]
      refine ⟨(s,p.2.toNat::t::ts)::G,?_,fun last hl=>⟨by have:=hl p rfl;simp only;omega,by simp,o3,fun x hx=>?_,o5⟩⟩
      ·show ((s:Int),(p.2.toNat:Int))::(((s:Int),(t:Int))::((ts.map fun t:Nat=>((s:Int),(t:Int)))++flatG G))=_
       rw [g1',hs',e2]
      ·rcases List.mem_cons.1 hx with rfl|hx
       ·omega
       ·exact o4 x hx
theorem name_no {k:Int}:(10:UInt8) ∉ nameF k:=by unfold nameF;split <;> decide
theorem kind_name {k:Int} (h:isMan k=true):rd.kindOf (nameF k)=k:=by
 simp only [isMan,Bool.or_eq_true,decide_eq_true_eq] at h
 rcases h with rfl|rfl <;> rfl
theorem name_kind {l:Bs} (h:isMan (rd.kindOf l)=true):nameF (rd.kindOf l)=l:=by
 unfold rd.kindOf at h ⊢
 split at h
 ·simp [isMan] at h
 ·split at h
  ·rename_i h1 h2
   rw [if_neg h1,if_pos h2,h2];rfl
  ·split at h
   ·rename_i h1 h2 h3
    rw [if_neg h1,if_neg h2,if_pos h3,h3];rfl
   ·simp [isMan] at h
theorem big_iff {B:GB} (h:bigP B=false):∀ p∈B.prs,p.1<=1000000/\p.2<=1000000:=by
 intro p hp
 have:=List.any_eq_false.1 h p hp
 simp only [Bool.or_eq_true,decide_eq_true_eq,not_or] at this
 omega
theorem law1 {B:GB} {t:Bs} (hst:lnkErr B=0->Strict B.prs) (h:writeF B=some t):readF t=some B:=by
 unfold writeF at h
 split at h
 ·rename_i h1
  cases h
  obtain ⟨hl,hb⟩:=h1
  have hok:=lnk_ok hl
  have hbig:=big_iff hb
  obtain ⟨G,g1,g2⟩:=groups B.prs (hst hl) fun p hp=>⟨⟨(hok.2.2 p hp).1,(hbig p hp).1⟩,(hok.2.2 p hp).2,(hbig p hp).2⟩
  have hG:=g2 (-1) fun p hp=>by
   have:=(hok.2.2 p (List.mem_of_mem_head? hp)).1
   omega
  have e:nameF B.kind++rowsF (-1) B.prs++[10]=nameF B.kind++10::gT G:=by
   rw [List.append_assoc,← g1,rows_gT G _ hG]
  rw [e]
  unfold readF
  have hne:nameF B.kind++10::gT G≠[]:=by simp
  have hlen:(nameF B.kind++10::gT G).length=((nameF B.kind).length+(gT G).length)+1:=by simp;omega
  rw [hlen]
  simp only [rd,if_neg hne,cutF_app _ name_no,Bool.true_eq_false,if_false,if_true,kind_name hok.1,hok.1]
  rw [rd_gT G _ _ _ _ hG (by omega)]
  simp only [List.nil_append,g1]
  obtain ⟨k,ps⟩:=B
  exact if_pos ⟨trivial,hl⟩
 ·cases h
theorem law2 {s:Bs} {B:GB} (h:readF s=some B):writeF B=some s:=by
 unfold readF at h
 split at h
 ·rename_i first k p hrd
  split at h
  ·rename_i h1
   cases h
   obtain ⟨rfl,hl⟩:=h1
   cases s with
   | nil=>simp [rd] at hrd
   | cons b s=>
    have hlen:(b::s).length=s.length+1:=rfl
    rw [hlen] at hrd
    generalize hS:b::s=S at hrd
    have hne:S≠[]:=by rw [← hS];simp
    simp only [rd,if_neg hne] at hrd
    by_cases hc:(cutF 10 S).2.2=false
    ·rw [if_pos hc] at hrd;cases hrd
    ·rw [if_neg hc] at hrd
     simp only [if_true] at hrd
     split at hrd
     ·rename_i hm
      have hct:(cutF 10 S).2.2=true:=by simpa using hc
      obtain ⟨e1,_⟩:=cutF_true hct
      have hlen2:(cutF 10 S).2.1.length<=s.length:=by
       have:=congrArg List.length e1
       rw [← hS] at this
       simp at this
       rw [hS] at this
       omega
      obtain ⟨G,a1,a2,a3,a4,_⟩:=gT_rd _ _ _ _ _ _ _ _ hlen2 hrd
      simp only [List.nil_append] at a3
      unfold writeF
      have hbig:bigP ⟨k,p⟩=false:=by
       rw [a3]
       refine List.any_eq_false.2 fun q hq=>?_
       have:∀ (G:Grs) (last:Int),okG last G->∀ q∈flatG G,q.1<=1000000/\q.2<=1000000:=by
        intro G
        induction G with
        | nil=>intro _ _ q hq;cases hq
        | cons g G ih=>
         intro last h q hq
         obtain ⟨h1,h2,h3,h4,h5⟩:=h
         rcases List.mem_append.1 (show q∈(g.2.map fun t:Nat=>((g.1:Int),(t:Int)))++flatG G from hq) with hq|hq
         ·obtain ⟨t,ht,rfl⟩:=List.mem_map.1 hq
          have:=h4 t ht
          exact ⟨by simp only;omega,by simp only;omega⟩
         ·exact ih _ h5 q hq
       have:=this G _ a1 q hq
       simp only [Bool.or_eq_true,decide_eq_true_eq,not_or]
       omega
      rw [if_pos ⟨hl,hbig⟩]
      simp only [Option.some.injEq]
      rw [List.append_assoc,a3,rows_gT G _ a1,a4,name_kind hm,← a2]
      exact e1.symm
     ·cases hrd
  ·cases h
 ·cases h
end Go.Proofs
namespace Go.Proofs
open Go Go.AM Go.Sort
set_option maxRecDepth 100000
set_option maxHeartbeats 1000000
theorem elt85:Elt 85 9 1:=elt_of elt_85 und_85 ta_9 (by kernel_rfl)
theorem bs85 {v:Bs} {h:AH}:wBuildSlice E 85 1 (some [(0,sV v)]) h=one (.slice (some ⟨h.next,0,none⟩) 1 1,h.new (.row [sV v] 9 0 false)):=by kernel_rfl
theorem z112:zeroV E 112=some (.agg ⟨[.nilFunc,.nilFunc,.string ⟨#[]⟩]⟩):=by kernel_rfl
theorem fa112 {b o:Nat}:pFieldAddr E 112 2 (some (.pointer (some ⟨b,o,none⟩)))=some (.pointer (some ⟨b,o+2,none⟩)):=by kernel_rfl
def strB:Bs:=[115,116,114,111,110,103]
def braB:Bs:=[98,114,97,110,99,104,105,110,103]
theorem pm0:pIndex E 113 (some mansV) (some (.int .i64 0))=some (.agg ⟨[.nilFunc,.nilFunc,sV []]⟩):=by kernel_rfl
theorem pm1:pIndex E 113 (some mansV) (some (.int .i64 1))=some (.agg ⟨[.func (.func 128) #[] #[],.func (.func 129) #[] #[],sV strB]⟩):=by kernel_rfl
theorem pm2:pIndex E 113 (some mansV) (some (.int .i64 2))=some (.agg ⟨[.func (.func 130) #[] #[],.func (.func 131) #[] #[],sV braB]⟩):=by kernel_rfl
theorem step135 {K:KF} {k h:AH} {w x y:Value} {i:Int} {s:Bs} (o:Own k h) (hp:pIndex E 113 (some mansV) (some (.int .i64 i))=some (.agg ⟨[x,y,sV s]⟩)) (hx:isLeaf x=true) (hy:isLeaf y=true) (h0:0<=i) (h3:i<3)
  (H:∀ m,m.next=h.next+2->Own k m->m.get (h.next+1)=some (.row [sV s] 9 0 false)->(∀ c,c<h.next->m.get c=h.get c)->Ev true (wBuiltinO E .append [85,85] (some [w,.slice (some ⟨h.next+1,0,none⟩) 1 1]) m) fun z=>PI (C135 true) K 3 [z.1,mansV,.int .i64 (i+1)] z.2) :
  PI (C135 true) K 3 [w,mansV,.int .i64 i] h:=by
 refine P135_3_of ?_
 rw [bf_lss,evO_some,decide_eq_true h3,brK_t]
 refine P135_4_of ?_
 obtain ⟨m1,e1,n1,t1,o1,f1⟩:=nw o (.row [.nilFunc,.nilFunc,.string ⟨#[]⟩] 112 0 false)
 obtain ⟨m2,e2,n2,t2,o2,f2⟩:=up o1 (b:=h.next) o.ext.next (.row [x,y,sV s] 112 0 false)
 have hst:wStore E 112 m1 (some (ptr h.next)) (some (.agg ⟨[x,y,sV s]⟩))=one (undef,m2):=by
  rw [← e2]
  exact store_of (P:=E) (by kernel_rfl:tsize E 112=some 3) (o:=0) (x:=.agg ⟨[x,y,sV s]⟩) (cs:=[x,y,sV s]) t1 rfl rfl (by simp) (by rw [List.all_cons,hx,List.all_cons,hy];rfl)
 simp only [hp,evO_some,z112,new_row,ev_one,cells_agg,e1,hst]
 refine P135_5_of ?_
 have ll:rLoad E 9 m2 (some (.pointer (some ⟨h.next,0+2,none⟩)))=some (sV s):=load_leaf (P:=E) ta_9 (o:=0+2) t2
 obtain ⟨m3,e3,n3,t3,o3,f3⟩:=nw o2 (.row [sV s] 9 0 false)
 simp only [fa112,evO_some,ll,bs85,ev_one,e3,n2,n1]
 rw [n2,n1] at t3
 refine (H m3 (by omega) o3 t3 fun c hc=>(f3 _ (by omega)).trans ((f2 _ (by omega)).trans (f1 _ hc))).mono fun z hz=>P135_6_of ?_
 rw [bf_add _ ⟨by omega,by omega⟩,evO_some]
 exact hz
def Names (k:AH) (x:Value) (g:AH):Prop:=∃ b,x=.slice (some ⟨b,0,none⟩) 3 (UNK+1)/\k.next<=b/\b<g.next/\g.get b=some (.row [sV [],sV strB,sV braB] 9 1 false)/\Fx NoB k g
theorem call135 {k:AH} (hok:k.ok):Ev true ((recI E).call 135 [] k) fun x=>Names k x.1 x.2:=by
 refine F135_some (Rp:=fun v m=>Names k v m) (P135_0_of (P135_1_of (P135_2_of ?_)))
 rw [wCall_0,call79 (ok_fresh k),ev_some]
 refine step135 (Own.fresh k) pm0 rfl rfl (by omega) (by omega) fun m1 n1 o1 t1 f1=>?_
 rw [append_nil elt85 t1 rfl,ev_one]
 obtain ⟨m2,e2,n2,t2,o2,f2⟩:=nw o1 (.row [sV []] 9 1 false)
 rw [e2]
 simp only [next_fresh] at n1 t1 f1
 refine step135 o2 pm1 rfl rfl (by omega) (by omega) fun m3 n3 o3 t3 f3=>?_
 have n3:m3.next=m2.next+2:=n3
 have f3:∀ c,c<m2.next->m3.get c=m2.get c:=f3
 rw [append_unk elt85 (by omega) ((f3 _ (by omega)).trans t2) rfl (by omega) t3 rfl rfl,ev_one]
 obtain ⟨m4,e4,n4,t4,o4,f4⟩:=nw (o3.upd (b:=m1.next) (by omega) none) (.row ([sV []]++[sV strB]) 9 1 false)
 have n4':m4.next=m3.next+1:=n4
 rw [e4]
 refine step135 o4 pm2 rfl rfl (by omega) (by omega) fun m5 n5 o5 t5 f5=>?_
 have n5:m5.next=m4.next+2:=n5
 have f5:∀ c,c<m4.next->m5.get c=m4.get c:=f5
 have t4':m4.get m3.next=some (.row ([sV []]++[sV strB]) 9 1 false):=t4
 rw [append_unk elt85 (by omega) ((f5 _ (by omega)).trans t4') rfl (by omega) t5 rfl rfl,ev_one]
 obtain ⟨m6,e6,n6,t6,o6,f6⟩:=nw (o5.upd (b:=m3.next) (by omega) none) (.row ([sV []]++[sV strB]++[sV braB]) 9 1 false)
 have n6':m6.next=m5.next+1:=n6
 have t6':m6.get m5.next=some (.row [sV [],sV strB,sV braB] 9 1 false):=t6
 rw [e6]
 refine P135_3_of ?_
 rw [bf_lss,evO_some,show decide ((0:Int)+1+1+1<3)=false from rfl,brK_f]
 refine P135_7_of ?_
 rw [kR_1]
 exact ⟨ne_ret ▸ trivial,.inl rfl,m5.next,rfl,by omega,by show m5.next<m6.next;omega,get_wm t6',(fx_own o6).back⟩
theorem eq136 {a b:Bs}:evPure E (tmOf [(4,sV a),(5,sV b)]) (opAt B136 [1,0] 2)=some (.bool (decide (a=b))):=by
 rw [← eqd];kernel_rfl
theorem call136 {k:AH} {a l:Bs} {b:Nat} (hok:k.ok) (hb:k.get b=some (.row [sV l] 9 0 false)):(recI E).call 136 [sV a,ptr b] k=some [(.bool (decide (a=l)),k)]:=by
 refine F136_flat1 hok rfl (P136_0_of (P136_1_of ?_))
 have hb':k.fresh.get b=some (.row [sV l] 9 0 false):=hb
 rw [ld9 hb',evO_some,eq136,evO_some,kR_1]
 exact ⟨ne_ret ▸ trivial,rfl,by rw [wm_fresh];omega⟩
def idxN (l:Bs):List Bs->Nat->Int
 | [],_=>-1
 | a::r,i=>if a=l then (i:Int) else idxN l r (i+1)
theorem call134 {k:AH} {l:Bs} {b n:Nat} (hok:k.ok) (hn:k.get n=some (.row [sV [],sV strB,sV braB] 9 1 false)) (hb:k.get b=some (.row [sV l] 9 0 false)) :
  (recI E).call 134 [.slice (some ⟨n,0,none⟩) 3 (UNK+1),.func (.func 136) #[] #[ptr b]] k=some [(.int .i64 (idxN l [[],strB,braB] 0),k)]:=by
 refine F134_flat1 hok rfl (P134_0_of (P134_1_of ?_))
 rw [len134_1_1,evO_some]
 have hn':k.fresh.get n=some (.row [sV [],sV strB,sV braB] 9 1 false):=hn
 have hb':k.fresh.get b=some (.row [sV l] 9 0 false):=hb
 have ok':=ok_fresh k
 have hw:k.next<=k.fresh.wm:=by rw [wm_fresh];omega
 generalize k.fresh=g at hn' hb' ok' hw
 have step:∀ (i:Nat) (a:Bs) (z:Int),i<3->rLoad E 9 g (some (.pointer (some ⟨n,0+i*1,none⟩)))=some (sV a)->(a=l->z=i)->(a≠l->PI (C134 true) (KR E [.tmp 4] fun x h=>x=.int .i64 z/\k.next<=h.wm) 2 [.slice (some ⟨n,0,none⟩) 3 (UNK+1),.func (.func 136) #[] #[ptr b],.int .i64 ((3:Nat):Int),.int .i64 ((i+1:Nat):Int)] g)->
   PI (C134 true) (KR E [.tmp 4] fun x h=>x=.int .i64 z/\k.next<=h.wm) 2 [.slice (some ⟨n,0,none⟩) 3 (UNK+1),.func (.func 136) #[] #[ptr b],.int .i64 ((3:Nat):Int),.int .i64 (i:Int)] g:=by
  intro i a z hi hl h1 h2
  refine P134_2_of ?_
  rw [bf_lss,evO_some,decide_eq_true (by omega),brK_t]
  refine P134_3_of (P134_4_of ?_)
  rw [ia_85 hi,evO_some,hl,evO_some,wCall_1]
  show Ev true ((recI E).call 136 [sV a,ptr b] g) _
  rw [call136 ok' hb',ev_some]
  by_cases e:a=l
  ·rw [decide_eq_true e,brK_t]
   refine P134_5_of ?_
   rw [kR_1,h1 e]
   exact ⟨ne_ret ▸ trivial,rfl,hw⟩
  ·rw [decide_eq_false e,brK_f]
   refine P134_6_of ?_
   rw [bf_add _ ⟨by omega,by omega⟩,evO_some]
   exact h2 e
 have fin:idxN l [[],strB,braB] 0=-1->PI (C134 true) (KR E [.tmp 4] fun x h=>x=.int .i64 (idxN l [[],strB,braB] 0)/\k.next<=h.wm) 2 [.slice (some ⟨n,0,none⟩) 3 (UNK+1),.func (.func 136) #[] #[ptr b],.int .i64 ((3:Nat):Int),.int .i64 ((2+1:Nat):Int)] g:=fun e=>P134_2_of (by
  rw [bf_lss,evO_some,show decide (((2+1:Nat):Int)<((3:Nat):Int))=false from rfl,brK_f]
  refine P134_7_of ?_
  rw [kR_1,e]
  exact ⟨ne_ret ▸ trivial,rfl,hw⟩)
 have l0:rLoad E 9 g (some (.pointer (some ⟨n,0+0*1,none⟩)))=some (sV []):=load_leaf (P:=E) ta_9 (o:=0+0*1) hn'
 have l1:rLoad E 9 g (some (.pointer (some ⟨n,0+1*1,none⟩)))=some (sV strB):=load_leaf (P:=E) ta_9 (o:=0+1*1) hn'
 have l2:rLoad E 9 g (some (.pointer (some ⟨n,0+2*1,none⟩)))=some (sV braB):=load_leaf (P:=E) ta_9 (o:=0+2*1) hn'
 exact step 0 [] _ (by omega) l0 (fun e=>by simp [idxN,e]) fun e0=>step 1 strB _ (by omega) l1 (fun e=>by simp only [idxN,if_neg e0,if_pos e]) fun e1=>step 2 braB _ (by omega) l2 (fun e=>by simp only [idxN,if_neg e0,if_neg e1,if_pos e]) fun e2=>fin (by simp only [idxN,if_neg e0,if_neg e1,if_neg e2])
theorem idxN_kind (l:Bs):idxN l [[],strB,braB] 0=rd.kindOf l:=by
 unfold rd.kindOf
 simp only [idxN,strB,braB,eq_comm (a:=l)]
 rfl
def byC (b:UInt8):Value:=.int .u8 (b.toNat:Int)
theorem byC_leaf (bs:Bs):(bs.map byC).all isLeaf=true:=by
 rw [List.all_eq_true]
 intro v hv
 obtain ⟨b,_,rfl⟩:=List.mem_map.1 hv
 rfl
def Bf (h:AH) (c:Value) (bs:Bs):Prop:=(c=.slice none 0 0/\bs=[])\/∃ b,c=.slice (some ⟨b,0,none⟩) bs.length (UNK+1)/\h.get b=some (.row (bs.map byC) 5 1 false)/\b<h.next
theorem elt102:Elt 102 5 1:=elt_of elt_102 und_102 ta_5 (by kernel_rfl)
theorem appB {h:AH} (hok:h.ok) {c x:Value} {bs w:Bs} (A:Bf h c bs) {h0:AH} {T:TypeId} {d:TypeDesc} (hT:und E T=some d) (hd:isIntD d=false) (hx:sliceCells 1 x h=some (w.length,w.map byC)) (hl:bs.length+w.length<=1000000) :
  ∃ c' h',wBuiltinO E .append [102,T] (some [c,x]) h=one (c',h')/\Bf h' c' (bs++w)/\Fx (blkOf c) h h'/\∀ x,blkOf c' x->blkOf c x\/h.next<=x:=by
 obtain ⟨ti,e1,e2,e3⟩:=elt102.ti
 show ∃ c' h',v2 (appendV E [102,T] c x h)=_/\_
 simp only [appendV,elt102.el,hT,hd,cond_false,e1,appendSrc,e2,hx,e3,cond_true]
 by_cases hz:w=[]
 ·subst hz
  refine ⟨c,h,?_,by simpa using A,Fx.refl hok,fun x hx=>.inl hx⟩
  rcases A with ⟨rfl,rfl⟩|⟨b,rfl,_⟩
  ·rfl
  ·simp only [appendTo,List.length_nil,show Nat.beq 0 0=true from rfl,cond_true,show Nat.ble bs.length (UNK+1)=true from ble_true.2 (by have:UNK=18446744073709551616:=rfl;simp at hl;omega),v2]
 ·have hpos:0<w.length:=List.length_pos_iff.2 hz
  have hn0:Nat.beq w.length 0=false:=beq_false (by omega)
  rcases A with ⟨rfl,rfl⟩|⟨bl,rfl,hg,hlt⟩
  ·refine ⟨.slice (some ⟨h.next,0,none⟩) w.length (UNK+1),h.new (.row (w.map byC) 5 1 false),by simp only [appendTo,hn0,cond_false,appendNew,ble_true.2 (show w.length<=1000000 by omega),cond_true,v2],.inr ⟨h.next,by simp,by simpa using get_new_self h _,by simp⟩,(Fx.refl hok).new _,fun x ⟨m,q,e⟩=>?_⟩
   simp only [Value.slice.injEq,Option.some.injEq,Addr.mk.injEq] at e
   exact .inr (by omega)
  ·have h1:Nat.ble UNK (UNK+1)=true:=ble_true.2 (by omega)
   have hln:(bs.map byC).length=bs.length:=List.length_map _
   have h2:Nat.ble (0+(bs.length+w.length)*1) (bs.map byC).length=false:=ble_false.2 (by rw [hln];omega)
   have h3:Nat.beq (0+bs.length*1) (bs.map byC).length=true:=by rw [hln,Nat.zero_add,Nat.mul_one];exact Nat.beq_refl _
   have h4:((bs.map byC).drop 0).take (bs.length*1)=bs.map byC:=by rw [List.drop_zero,List.take_of_length_le (by omega)]
   refine ⟨.slice (some ⟨h.next,0,none⟩) (bs.length+w.length) (UNK+1),(h.upd bl none).new (.row (bs.map byC++w.map byC) 5 1 false),by simp only [appendTo,hn0,cond_false,hg,appendRow,h1,Nat.beq_refl,Bool.and_self,Bool.not_false,cond_true,appendUnk,llen_eq,h2,h3,appendMove,byC_leaf,ltake_eq,ldrop_eq,h4,appendNew,ble_true.2 hl,v2];rfl,.inr ⟨h.next,by rw [List.length_append],by rw [List.map_append];exact get_new_self (h.upd bl none) _,by show h.next<h.next+1;omega⟩,((Fx.refl hok).upd (.inl ⟨_,_,rfl⟩) none).new _,fun x ⟨m,q,e⟩=>?_⟩
   simp only [Value.slice.injEq,Option.some.injEq,Addr.mk.injEq] at e
   exact .inr (by omega)
theorem srcS {h:AH} {w:Bs}:sliceCells 1 (sV w) h=some (w.length,w.map byC):=by
 show (if Nat.beq 1 1 then some ((⟨w.toArray⟩:ByteArray).size,w.map byC) else none)=_
 rw [sz];rfl
structure Bld (lo:Nat) (h:AH) (b:Nat) (bs:Bs):Prop where
 ex:∃ p c,h.get b=some (.row [p,c] 104 0 false)/\(p=.pointer none\/p=ptr b)/\Bf h c bs/\∀ x,blkOf c x->lo<=x
 lt:b<h.next
def bufOf (h:AH) (b x:Nat):Prop:=∃ p c,h.get b=some (.row [p,c] 104 0 false)/\blkOf c x
theorem Bf.ne {h:AH} {c:Value} {bs:Bs} {a:Nat} (A:Bf h c bs) (hn:∀ vs es ro,h.get a≠some (.row vs 5 es ro)):¬ blkOf c a:=by
 rintro ⟨m,q,e⟩
 rcases A with ⟨rfl,_⟩|⟨b,rfl,h3,_⟩
 ·cases e
 ·simp only [Value.slice.injEq,Option.some.injEq,Addr.mk.injEq] at e
  exact hn _ _ _ (e.1.1 ▸ h3)
theorem Bf.fx {P:Nat->Prop} {h h':AH} {c:Value} {bs:Bs} (A:Bf h c bs) (f:Fx P h h') (hP:∀ x,blkOf c x->¬ P x):Bf h' c bs:=by
 rcases A with e|⟨b,rfl,h1,h2⟩
 ·exact .inl e
 ·exact .inr ⟨b,rfl,(f.get b h2 (hP b ⟨_,_,rfl⟩)).trans h1,Nat.lt_of_lt_of_le h2 f.next⟩
theorem row_inj {h:AH} {b:Nat} {p c p' c':Value} (h1:h.get b=some (.row [p,c] 104 0 false)) (h2:h.get b=some (.row [p',c'] 104 0 false)):p=p'/\c=c':=by
 rw [h1] at h2
 simpa using h2
theorem Bld.ne {lo:Nat} {h:AH} {b a:Nat} {bs:Bs} (B:Bld lo h b bs) (hn:∀ vs es ro,h.get a≠some (.row vs 5 es ro)):¬ bufOf h b a:=by
 rintro ⟨p,c,h1,h2⟩
 obtain ⟨p',c',g1,g2,g3,g4⟩:=B.ex
 obtain ⟨_,rfl⟩:=row_inj g1 h1
 exact g3.ne hn h2
theorem Bld.fx {P:Nat->Prop} {lo:Nat} {h h':AH} {b:Nat} {bs:Bs} (B:Bld lo h b bs) (f:Fx P h h') (h1:¬ P b) (h2:∀ x,bufOf h b x->¬ P x):Bld lo h' b bs:=by
 obtain ⟨p',c',g1,g2,g3,g4⟩:=B.ex
 exact ⟨⟨p',c',(f.get b B.lt h1).trans g1,g2,g3.fx f fun x hx=>h2 x ⟨_,_,g1,hx⟩,g4⟩,Nat.lt_of_lt_of_le B.lt f.next⟩
theorem fa104_0 {b:Nat}:pFieldAddr E 104 0 (some (ptr b))=some (.pointer (some ⟨b,0+0,none⟩)):=fa_104_0
theorem fa104_1 {b:Nat}:pFieldAddr E 104 1 (some (ptr b))=some (.pointer (some ⟨b,0+1,none⟩)):=fa_104_1
theorem e127a:evPure E (tmOf [(5,.pointer none)]) (opAt B127 [0] 4)=some (.bool true):=by kernel_rfl
theorem e127b {b:Nat}:evPure E (tmOf [(5,ptr b)]) (opAt B127 [0] 4)=some (.bool false):=by kernel_rfl
theorem eqp {b:Nat}:eqPtr E 104 ⟨b,0,none⟩ ⟨b,0,none⟩=some true:=by
 unfold eqPtr
 have ts:tsize E 104=some 2:=by kernel_rfl
 simp [ts]
theorem e127c {b:Nat}:evPure E (tmOf [(17,ptr b),(18,ptr b)]) (opAt B127 [1,1,0] 5)=some (.bool false):=by
 have h:evPure E (tmOf [(17,ptr b),(18,ptr b)]) (opAt B127 [1,1,0] 5)=pEql E true 101 (some (ptr b)) (some (ptr b)):=by kernel_rfl
 have u:und E 101=some (.pointer 104):=by kernel_rfl
 rw [h]
 simp only [pEql,eqV,u,eqp]
 rfl
theorem call172 {x:Value} {k:AH}:(recI E).call 172 [x] k=some [(x,k)]:=(recI_call E).2 ⟨1,by kernel_rfl⟩
theorem cv127a {b:Nat} {h:AH} {p c:Value} (hb:h.get b=some (.row [p,c] 104 0 false)):evRead E (tmOf [(8,ptr b)]) (opAt B127 [1,0] 2) h=some (ptr b):=by
 have e:evRead E (tmOf [(8,ptr b)]) (opAt B127 [1,0] 2) h=convPtr E 101 227 (some (ptr b)) h:=by kernel_rfl
 rw [e]
 have u1:und E 101=some (.pointer 104):=by kernel_rfl
 have u2:und E 227=some .unsafePointer:=by kernel_rfl
 have t1:tsize E 104=some 2:=by kernel_rfl
 simp only [convPtr,u1,u2,hb,t1,llen_eq]
 rfl
theorem cv127b {b:Nat} {h:AH} {p c:Value} (hb:h.get b=some (.row [p,c] 104 0 false)):evRead E (tmOf [(10,ptr b)]) (opAt B127 [1,0] 4) h=some (ptr b):=by
 have e:evRead E (tmOf [(10,ptr b)]) (opAt B127 [1,0] 4) h=convPtr E 227 101 (some (ptr b)) h:=by kernel_rfl
 rw [e]
 have u1:und E 101=some (.pointer 104):=by kernel_rfl
 have u2:und E 227=some .unsafePointer:=by kernel_rfl
 have t1:tsize E 104=some 2:=by kernel_rfl
 have l1:liesAt E.prog E.prog.depth 104 (2 / E.prog.cellsOf 104) 0 104 1=true:=by kernel_rfl
 simp only [convPtr,u1,u2,hb,t1,llen_eq]
 rw [show ([p,c]:List Value).length=2 from rfl,l1];rfl
theorem pnc {b:Nat}:pNilCheck (some (ptr b))=some (ptr b):=rfl
theorem st104 {h:AH} {b:Nat} {p c x:Value} (hb:h.get b=some (.row [p,c] 104 0 false)) (hx:isLeaf x=true/\cellsOfV x=[x]):wStore E 102 h (some (.pointer (some ⟨b,0+1,none⟩))) (some x)=one (undef,h.upd b (some (.row [p,x] 104 0 false))):=
 store_of (P:=E) ts_102 (o:=0+1) (x:=x) (cs:=[x]) hb hx.2 rfl (by simp) (by simp [hx.1])
theorem st104p {h:AH} {b:Nat} {p c:Value} (hb:h.get b=some (.row [p,c] 104 0 false)):wStore E 101 h (some (.pointer (some ⟨b,0+0,none⟩))) (some (ptr b))=one (undef,h.upd b (some (.row [ptr b,c] 104 0 false))):=
 store_of (P:=E) ts_101 (o:=0+0) (x:=ptr b) (cs:=[ptr b]) hb rfl rfl (by simp) (by simp [isLeaf])
theorem ld104 {h:AH} {b:Nat} {p c:Value} (hb:h.get b=some (.row [p,c] 104 0 false)):rLoad E 101 h (some (.pointer (some ⟨b,0+0,none⟩)))=some p/\rLoad E 102 h (some (.pointer (some ⟨b,0+1,none⟩)))=some c:=
 ⟨load_leaf (P:=E) ta_101 (o:=0+0) hb,load_leaf (P:=E) ta_102 (o:=0+1) hb⟩
theorem call127 {k:AH} {b:Nat} {p c:Value} (hok:k.ok) (hb:k.get b=some (.row [p,c] 104 0 false)) (hp:p=.pointer none\/p=ptr b) (hl:b<k.next) :
  Ev true ((recI E).call 127 [ptr b] k) fun x=>x.2.get b=some (.row [ptr b,c] 104 0 false)/\Fx (fun x=>x=b) k x.2:=by
 have hb':k.fresh.get b=some (.row [p,c] 104 0 false):=hb
 rcases hp with rfl|rfl
 ·refine F127_some (Rp:=fun v m=>m.get b=some (.row [ptr b,c] 104 0 false)/\Fx (fun x=>x=b) k m) (P127_0_of ?_)
  simp only [pnc,evO_some,fa104_0,(ld104 hb').1,e127a,brK_t]
  refine P127_1_of ?_
  simp only [cv127a hb',evO_some,wCall_0,call172,ev_some,cv127b hb',pnc,fa104_0,st104p hb',ev_one]
  rw [kR_0]
  have f:Fx (fun x=>x=b) k.fresh (k.fresh.upd b (some (.row [ptr b,c] 104 0 false))):=(Fx.refl (P:=fun x=>x=b) (ok_fresh k)).upd (.inl rfl) _
  exact ⟨rfl,.inr (Nat.lt_of_le_of_lt (upd_wm _ _ _).2 hl),get_wm (get_upd_self _ _ _),f.back⟩
 ·have:(recI E).call 127 [ptr b] k=some [(.tuple #[],k)]:=by
   refine F127_flat1 hok rfl (P127_0_of ?_)
   simp only [pnc,evO_some,fa104_0,(ld104 hb').1,e127b,brK_f]
   refine P127_2_of ?_
   simp only [pnc,evO_some,fa104_0,(ld104 hb').1,e127c,brK_f]
   rw [kR_0]
   exact ⟨rfl,rfl,by rw [wm_fresh];omega⟩
  rw [this,ev_some]
  exact ⟨hb,Fx.refl hok⟩
theorem Bf.leaf {h:AH} {c:Value} {bs:Bs} (A:Bf h c bs):isLeaf c=true/\cellsOfV c=[c]:=by
 rcases A with ⟨rfl,_⟩|⟨b,rfl,_⟩ <;> exact ⟨rfl,rfl⟩
theorem und9':und E 9=some .string:=by kernel_rfl
theorem len78 {l:Bs} {h:AH}:evRead E (tmOf [(17,sV l)]) (opAt B78 [1,1,1,0] 1) h=some (.int .i64 (l.length:Int)):=by
 rw [← sz];kernel_rfl
def Wr (lo:Nat) (k:AH) (b:Nat) (bs:Bs) (m:AH):Prop:=Bld lo m b bs/\Fx (fun x=>x=b\/bufOf k b x) k m
theorem wr_end {lo:Nat} {k g m:AH} {b:Nat} {p c c':Value} {bs:Bs} (hb:k.get b=some (.row [p,c] 104 0 false)) (hl:b<k.next) (hlo:lo<=k.next) (hc:∀ x,blkOf c x->lo<=x) (hbn:¬ blkOf c b)
  (f1:Fx (fun x=>x=b) k g) (hg:g.get b=some (.row [ptr b,c] 104 0 false)) (f2:Fx (blkOf c) g m) (A:Bf m c' bs) (hc':∀ x,blkOf c' x->blkOf c x\/g.next<=x) :
  m.get b=some (.row [ptr b,c] 104 0 false)/\Wr lo k b bs (m.upd b (some (.row [ptr b,c'] 104 0 false))):=by
 have n1:=f1.next
 have n2:=f2.next
 have hm:=(f2.get b (by omega) hbn).trans hg
 refine ⟨hm,⟨⟨ptr b,c',get_upd_self _ _ _,.inr rfl,A.fx ((Fx.refl (P:=fun x=>x=b) f2.ok).upd (.inl rfl) _) fun x hx e=>?_,fun x hx=>?_⟩,by show b<m.next;omega⟩,?_⟩
 ·rcases hc' x hx with h|h
  ·exact hbn (e ▸ h)
  ·omega
 ·rcases hc' x hx with h|h
  ·exact hc x h
  ·omega
 ·exact (((f1.mono (P':=fun x=>x=b\/bufOf k b x) fun c hc=>.inl (.inl hc)).trans f2 fun x hx=>.inl (.inr ⟨_,_,hb,hx⟩))).upd (.inl (.inl rfl)) _
theorem call78 {lo:Nat} {k:AH} {b:Nat} {bs w:Bs} (hok:k.ok) (B:Bld lo k b bs) (hlo:lo<=k.next) (hl:bs.length+w.length<=1000000) :
  Ev true ((recI E).call 78 [ptr b,sV w] k) fun x=>Wr lo k b (bs++w) x.2:=by
 obtain ⟨p,c,hb,hp,A,hc⟩:=B.ex
 have hbn:¬ blkOf c b:=A.ne fun vs es ro e=>by rw [hb] at e;simp at e
 refine F78_some (Rp:=fun v m=>Wr lo k b (bs++w) m) (P78_0_of (P78_1_of ?_))
 have hb':k.fresh.get b=some (.row [p,c] 104 0 false):=hb
 rw [wCall_0]
 refine (call127 (ok_fresh k) hb' hp B.lt).mono ?_
 rintro ⟨_,g⟩ ⟨g1,f1⟩
 simp only at g1 f1 ⊢
 refine P78_2_of ?_
 have A1:Bf g c bs:=Bf.fx (h:=k.fresh) A f1 fun x hx e=>hbn (e ▸ hx)
 obtain ⟨c',m,a1,a2,a3,a4⟩:=appB f1.ok A1 (h0:=g) und9' rfl srcS hl
 obtain ⟨hm,hW⟩:=wr_end (k:=k.fresh) hb' B.lt hlo hc hbn f1 g1 a3 a2 a4
 simp only [pnc,evO_some,fa104_1,(ld104 g1).2,a1,ev_one,st104 hm a2.leaf]
 refine P78_3_of ?_
 rw [len78,evO_some,kR_2]
 refine ⟨ne_ret ▸ trivial,.inr (Nat.lt_of_le_of_lt (upd_wm _ _ _).2 B.lt),?_,hW.2.back⟩
 obtain ⟨p',c2,z1,z2,z3,z4⟩:=hW.1.ex
 refine ⟨⟨p',c2,get_wm z1,z2,?_,z4⟩,hW.1.lt⟩
 rcases z3 with e|⟨b2,y1,y2,y3⟩
 ·exact .inl e
 ·exact .inr ⟨b2,y1,get_wm y2,y3⟩
theorem bs102 {x:UInt8} {h:AH}:wBuildSlice E 102 1 (some [(0,byC x)]) h=one (.slice (some ⟨h.next,0,none⟩) 1 1,h.new (.row [byC x] 5 0 false)):=by kernel_rfl
theorem call81 {lo:Nat} {k:AH} {b:Nat} {bs:Bs} {x:UInt8} (hok:k.ok) (B:Bld lo k b bs) (hlo:lo<=k.next) (hl:bs.length+1<=1000000) :
  Ev true ((recI E).call 81 [ptr b,byC x] k) fun y=>Wr lo k b (bs++[x]) y.2:=by
 obtain ⟨p,c,hb,hp,A,hc⟩:=B.ex
 have hbn:¬ blkOf c b:=A.ne fun vs es ro e=>by rw [hb] at e;simp at e
 refine F81_some (Rp:=fun v m=>Wr lo k b (bs++[x]) m) (P81_0_of (P81_1_of ?_))
 have hb':k.fresh.get b=some (.row [p,c] 104 0 false):=hb
 rw [wCall_0]
 refine (call127 (ok_fresh k) hb' hp B.lt).mono ?_
 rintro ⟨_,g⟩ ⟨g1,f1⟩
 simp only at g1 f1 ⊢
 refine P81_2_of ?_
 have A1:Bf g c bs:=Bf.fx (h:=k.fresh) A f1 fun x hx e=>hbn (e ▸ hx)
 have fN:Fx (blkOf c) g (g.new (.row [byC x] 5 0 false)):=(Fx.refl f1.ok).new _
 have A2:Bf (g.new (.row [byC x] 5 0 false)) c bs:=A1.fx (P:=fun _=>False) ((Fx.refl f1.ok).new _) fun _ _ h=>h
 have g2:(g.new (.row [byC x] 5 0 false)).get b=some (.row [ptr b,c] 104 0 false):=(get_new_ne (by have:=f1.next;have:=B.lt;show b≠g.next;simp only [next_fresh] at *;omega)).trans g1
 have src:sliceCells 1 (.slice (some ⟨g.next,0,none⟩) 1 1) (g.new (.row [byC x] 5 0 false))=some (([x]:Bs).length,([x]:Bs).map byC):=by
  simp only [sliceCells,get_new_self]
  rfl
 have u102:und E 102=some (.slice 5):=und_102
 obtain ⟨c',m,a1,a2,a3,a4⟩:=appB fN.ok A2 (h0:=g) u102 rfl src hl
 obtain ⟨hm,hW⟩:=wr_end (k:=k.fresh) (g:=g) (lo:=lo) hb' B.lt hlo hc hbn f1 g1 (fN.trans a3 fun c hc=>.inl hc) a2 fun x hx=>(a4 x hx).imp id fun h=>Nat.le_trans (Nat.le_succ _) h
 simp only [pnc,evO_some,fa104_1,(ld104 g1).2,bs102,ev_one,a1,st104 hm a2.leaf]
 refine P81_3_of ?_
 rw [kR_1]
 refine ⟨ne_ret ▸ trivial,.inr (Nat.lt_of_le_of_lt (upd_wm _ _ _).2 B.lt),?_,hW.2.back⟩
 obtain ⟨p',c2,z1,z2,z3,z4⟩:=hW.1.ex
 refine ⟨⟨p',c2,get_wm z1,z2,?_,z4⟩,hW.1.lt⟩
 rcases z3 with e|⟨b2,y1,y2,y3⟩
 ·exact .inl e
 ·exact .inr ⟨b2,y1,get_wm y2,y3⟩
theorem bytes_of (bs:Bs):bytesOf (bs.map byC)=some bs:=by
 induction bs with
 | nil=>rfl
 | cons b bs ih=>
  show (match bytesOf (bs.map byC) with|some l=>some (UInt8.ofNat (b.toNat:Int).toNat::l)|none=>none)=_
  rw [ih]
  simp
theorem us82 {b n:Nat} {bs:Bs} {h:AH} (hn:n=bs.length) (hb:h.get b=some (.row (bs.map byC) 5 1 false)) (h1:1<=bs.length) (h2:bs.length<=1000000) :
  wBuiltinO E .unsafeString [184,3] (some [.pointer (some ⟨b,0,none⟩),.int .i64 (n:Int)]) h=one (sV bs,h.upd b (some (.row (bs.map byC) 5 1 true))):=by
 subst hn
 have e:wBuiltinO E .unsafeString [184,3] (some [.pointer (some ⟨b,0,none⟩),.int .i64 (bs.length:Int)]) h=usRow E 184 b 0 bs.length h:=by kernel_rfl
 rw [e]
 have ht:byteT E 184 5=true:=by kernel_rfl
 unfold usRow
 simp only [hb,ltake_eq,ldrop_eq,List.drop_zero]
 rw [List.take_of_length_le (by simp),bytes_of]
 simp only [llen_eq,Nat.beq_refl,ble_true.2 h1,ble_true.2 (show bs.length<=9223372036854775807 by omega),ht,Bool.and_self,cond_true]
theorem sd82 {b n c:Nat} {h:AH} (h1:n≠0) (h2:c≠0):evRead E (tmOf [(6,.slice (some ⟨b,0,none⟩) n c)]) (opAt B82 [1,0] 4) h=some (.pointer (some ⟨b,0,none⟩)):=by
 have e:evRead E (tmOf [(6,.slice (some ⟨b,0,none⟩) n c)]) (opAt B82 [1,0] 4) h=rData [.slice (some ⟨b,0,none⟩) n c]:=by kernel_rfl
 rw [e]
 simp only [rData,beq_false h1,beq_false h2,Bool.or_self,cond_false]
theorem call82 {lo:Nat} {k:AH} {b:Nat} {bs:Bs} (hok:k.ok) (B:Bld lo k b bs) (h1:1<=bs.length) (h2:bs.length<=1000000) :
  Ev true ((recI E).call 82 [ptr b] k) fun x=>x.1=sV bs/\Fx (bufOf k b) k x.2:=by
 obtain ⟨p,c,hb,hp,A,hc⟩:=B.ex
 rcases A with ⟨_,e⟩|⟨bl,rfl,hg,hlt⟩
 ·rw [e] at h1;simp at h1
 refine F82_some (Rp:=fun v m=>v=sV bs/\Fx (bufOf k b) k m) (P82_0_of (P82_1_of ?_))
 have hb':k.fresh.get b=some (.row [p,.slice (some ⟨bl,0,none⟩) bs.length (UNK+1)] 104 0 false):=hb
 have hg':k.fresh.get bl=some (.row (bs.map byC) 5 1 false):=hg
 simp only [pnc,evO_some,fa104_1,(ld104 hb').2,len82_1_9,sd82 (show bs.length≠0 by omega) (show UNK+1≠0 by omega),us82 rfl hg' h1 h2,ev_one]
 rw [kR_1]
 have f:Fx (bufOf k b) k.fresh (k.fresh.upd bl (some (.row (bs.map byC) 5 1 true))):=(Fx.refl (ok_fresh k)).upd (.inl ⟨_,_,hb,_,_,rfl⟩) _
 exact ⟨ne_ret ▸ trivial,.inr (Nat.lt_of_le_of_lt (upd_wm _ _ _).2 hlt),rfl,f.back⟩
theorem mx77 {a b:Int} {h:AH}:evRead E (tmOf [(4,.int .i64 a),(6,.int .i64 b)]) (opAt B77 [1,0] 4) h=some (.int .i64 (if b > a then b else a)):=by kernel_rfl
def bigOne (p:Int×Int):Bool:=decide (1000000<p.1)||decide (1000000<p.2)
theorem call77 {k:AH} {p:Int×Int} (hok:k.ok):(recI E).call 77 [.agg ⟨prCells p⟩] k=some [(.bool (bigOne p),k)]:=by
 refine F77_flat1 hok rfl (P77_0_of ?_)
 obtain ⟨k1,e1,n1,t1,o1,f1⟩:=nwF k (.row (prCells p) 54 0 false)
 simp only [new_row,ev_one,evO_some,cells_agg,e1,next_fresh]
 refine P77_1_of ?_
 have l0:rLoad E 3 k1 (some (.pointer (some ⟨k.next,0+0,none⟩)))=some (.int .i64 p.1):=load_leaf (P:=E) ta_3 (o:=0+0) t1
 have l1:rLoad E 3 k1 (some (.pointer (some ⟨k.next,0+1,none⟩)))=some (.int .i64 p.2):=load_leaf (P:=E) ta_3 (o:=0+1) t1
 simp only [ia54_0,ia54_1,l0,l1,evO_some,mx77,bf_gtr]
 rw [kR_1]
 refine ⟨ne_ret ▸ trivial,?_,o1.wm⟩
 congr 1
 unfold bigOne
 by_cases c:p.2 > p.1
 ·rw [if_pos c,Bool.eq_iff_iff];simp;omega
 ·rw [if_neg c,Bool.eq_iff_iff];simp;omega
theorem prs_get {prs:List (Int×Int)} {i:Nat} (h:i<prs.length):(prs.map prCells)[i]?=some (prCells prs[i]):=by rw [List.getElem?_map,List.getElem?_eq_getElem h];rfl
def atP (prs:List (Int×Int)) (f:Int×Int->Bool) (i:Nat):Bool:=match prs[i]? with
 | some p=>f p
 | none=>false
theorem call95a {h0 k:AH} {v cf:Value} {prs:List (Int×Int)} {f:Int×Int->Bool} (hv:Arr h0 2 v (prs.map prCells)) (he:Ext h0 k) (hn:prs.length<=1000000) (hf:TestOK h0 cf f) :
  (recI E).call 95 [v,cf] k=some [(.int .i64 (idxFrom (atP prs f) prs.length 0),k)]:=by
 obtain ⟨ad,cp,hvs⟩:=hv.slice
 rw [List.length_map] at hvs
 refine F95_flat (s:=true) he.ok rfl (P95_0_of (P95_1_of ?_))
 have el:Ext h0 k.fresh:=he.fresh
 have hw:k.next<=k.fresh.wm:=by rw [wm_fresh];omega
 have hlen:evRead E (tmOf [(6,v)]) (opAt B95 [1,0,0] 1) k.fresh=some (.int .i64 (prs.length:Int)):=by rw [hvs];exact len95_1_1
 rw [hlen,evO_some]
 generalize k.fresh=g at el hw
 have loop:∀ (m i:Nat),i+m=prs.length->PI (C95 true) (KR E [.tmp 4] fun x h=>x=.int .i64 (idxFrom (atP prs f) m i)/\k.next<=h.wm) 2 [v,cf,.int .i64 (prs.length:Int),.int .i64 (i:Int)] g:=by
  intro m
  induction m with
  | zero=>
   intro i hi
   refine P95_2_of ?_
   rw [bf_lss,evO_some,decide_eq_false (by omega),brK_f]
   refine P95_7_of ?_
   rw [kR_1]
   exact ⟨ne_ret ▸ trivial,rfl,hw⟩
  | succ m ih=>
   intro i hi
   have hil:i<prs.length:=by omega
   refine P95_2_of ?_
   rw [bf_lss,evO_some,decide_eq_true (by omega),brK_t]
   refine P95_3_of (P95_4_of ?_)
   obtain ⟨p,q1,q2⟩:=idx_agg und_26 ts_54 ta_54 hv el (prs_get hil)
   rw [q1,evO_some,q2,evO_some,hf g prs[i] el,ev_some]
   have hat:atP prs f i=f prs[i]:=by unfold atP;rw [List.getElem?_eq_getElem hil]
   simp only [idxFrom,hat]
   cases hfp:f prs[i] with
   | true=>
    rw [brK_t]
    refine P95_5_of ?_
    rw [kR_1]
    exact ⟨ne_ret ▸ trivial,rfl,hw⟩
   | false=>
    rw [brK_f]
    refine P95_6_of ?_
    rw [bf_add _ ⟨by omega,by omega⟩,evO_some]
    have:=ih (i+1) (by omega)
    simpa using this
 exact loop prs.length 0 (by omega)
theorem idx_anyP {f:Int×Int->Bool} (prs:List (Int×Int)):decide ((0:Int)<=idxFrom (atP prs f) prs.length 0)=prs.any f:=by
 rw [Bool.eq_iff_iff,decide_eq_true_eq,List.any_eq_true]
 have h:=idxFrom_neg (p:=atP prs f) prs.length 0
 constructor
 ·intro h0
  apply Classical.byContradiction
  intro hc
  have:=h.1 fun j _ hj=>by
   have hj':j<prs.length:=by omega
   unfold atP
   rw [List.getElem?_eq_getElem hj']
   simp only
   cases hp:f prs[j] with
   | false=>rfl
   | true=>exact absurd ⟨prs[j],List.getElem_mem hj',hp⟩ hc
  omega
 ·rintro ⟨p,hp,hf⟩
  apply Classical.byContradiction
  intro hc
  obtain ⟨j,hj,rfl⟩:=List.getElem_of_mem hp
  have:=h.2 (by omega) j (by omega) (by omega)
  simp only [atP,List.getElem?_eq_getElem hj] at this
  rw [hf] at this
  cases this
theorem call76 {h0 k:AH} {v cf:Value} {prs:List (Int×Int)} {f:Int×Int->Bool} (hv:Arr h0 2 v (prs.map prCells)) (he:Ext h0 k) (hn:prs.length<=1000000) (hf:TestOK h0 cf f) :
  (recI E).call 76 [v,cf] k=some [(.bool (prs.any f),k)]:=by
 refine F76_flat (s:=true) he.ok rfl (P76_0_of (P76_1_of ?_))
 rw [wCall_0,call95a hv he.fresh hn hf,ev_some,bf_geq,evO_some,kR_1,idx_anyP]
 exact ⟨ne_ret ▸ trivial,rfl,by rw [wm_fresh];omega⟩
theorem test77 {h0:AH}:TestOK h0 (.func (.func 77) #[] #[]) bigOne:=fun k' p e=>by rw [wCall_0];exact call77 e.ok
end Go.Proofs
