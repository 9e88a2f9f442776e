import Derived.WalkKit
import Derived.WalkSpells
import Derived.Shelf.RegionOpenPlain
import Derived.Lib.Walk
import Derived.Lib.SliceRun
import Derived.Lib.JoinLaws
import Derived.Lib.AppendZerosOnto
import Derived.Lib.Overlaps
import Derived.Laws.Externs
import Derived.Laws.IdiomCopy
import Derived.Test.YthmnhjcmefjgjaaGreatDoorXAI
import Derived.Test.YthmnhjcmefjgjaaGreatDoorXAD
import Derived.Test.YthmnhjcmefjgjaaGreatDoorXAL
import Derived.Test.YthmnhjcmefjgjaaGreatDoorXAF
import Derived.Test.YthmnhjcmefjgjaaGreatDoorXAG
set_option linter.all false
set_option linter.unusedSectionVars false
set_option autoImplicit true
set_option relaxedAutoImplicit true
namespace Go.Proofs
open Go Go.AM Go.RowKit
set_option maxRecDepth 100000
theorem HR.empty (w:World):HR w.heap.size (fun _=>none) ⟨.e,0,UNK⟩ w:=
 ⟨fun _ _ h=>by (cases h),fun _ _=>rfl,fun b o h=>by (cases h),fun b _ o _ _ _ h=>by (cases h),Nat.le_refl _⟩
theorem HR.keep {lo:Nat} {σ:Sg} {h:AH} {w w':World} (H:HR lo σ h w) (hb:Below w.heap.size w w'):HR lo σ h w':=by
 refine ⟨H.dom,H.fresh,fun b o e=>?_,H.inj,Nat.le_trans H.lo hb.size⟩
 obtain ⟨l,a,c,d⟩:=H.live b o e
 refine ⟨l,a,c.mono (Sg.le_refl σ) (hb.block _ c.blk_lt) (fun m es v lm hm hs=>⟨hm,?_⟩),d⟩
 obtain ⟨lm',a',c',_⟩:=H.live m _ hm
 rw [hs] at a'
 cases a'
 exact hb.block _ c'.blk_lt
theorem ext0:zLm E0:=Tryz.extOK (sum:=fun _ _ _=>none) fun f args h outs e=>by cases e
theorem env0:zCF E0:=Tryz.envOK
theorem zO4 (w:World):Calls Tryz.prog 13 #[] w (Ret (zFU w.heap.size (fun _=>none) w [(.bool true,⟨.e,0,UNK⟩)])):=
 zEc env0 ext0 (by kernel_rfl) (HR.empty w) (args':=[]) .nil sane_ok
theorem saneSum {args:List Value} {h:AH} {outs:List (Value×AH)} (e:zRo args h=some outs):(∀ lo σ w args',HR lo σ h w->VRs σ args args'->CallsIn Fence.wide 0 Tryz.prog 13 args'.toArray w (Ret (zFU lo σ w outs)))/\zB0 h outs:=by
 unfold zRo at e
 split at e
 ·cases e
  refine ⟨fun lo σ w args' H ha=>?_,zDK (Fr.refl h)⟩
  cases ha
  refine callsIn_wide.2 ((zO4 w).mono fun en w' hr=>?_)
  cases en with
  | returned v=>
   obtain ⟨x,hx,τ,_,_,hv,hb⟩:=hr
   simp only [List.mem_singleton] at hx
   subst hx
   cases hv
   exact ⟨(.bool true,h),by simp,σ,Sg.le_refl σ,HR.keep H hb,.bool true,hb.mono H.lo⟩
  | _=>exact hr
 ·cases e
end Go.Proofs
namespace Go.Proofs
open Go Go.AM
set_option maxRecDepth 100000
set_option maxHeartbeats 1000000
theorem mid3 (s:Int) (h:AH):zO E (zl [(20,.int .i64 s)]) (zn zfn [1,1,1,0,0,0,1,0,0] 3) h=some (.int .u64 (IntKind.u64.wrap s)):=by kernel_rfl
theorem mid4 (s:Int):zi E (zl [(21,.int .u64 s)]) (zn zfn [1,1,1,0,0,0,1,0,0] 4)=some (.int .u64 (s.fdiv (2 ^ (1:Nat)))):=by kernel_rfl
theorem mid5 (s:Int) (h:AH):zO E (zl [(22,.int .u64 s)]) (zn zfn [1,1,1,0,0,0,1,0,0] 5) h=some (.int .i64 (IntKind.i64.wrap s)):=by kernel_rfl
theorem mid_eq {a b n:Nat} (h1:a<=n) (h2:b<=n) (hn:n<=1000000):IntKind.i64.wrap ((IntKind.u64.wrap ((a:Int)+(b:Int))).fdiv (2 ^ (1:Nat)))=(((a+b) / 2:Nat):Int):=by
 have e1:IntKind.u64.wrap ((a:Int)+(b:Int))=(a:Int)+(b:Int):=by
  show ((a:Int)+(b:Int)) % (2 ^ 64:Int)=_
  omega
 rw [e1,Int.fdiv_eq_ediv_of_nonneg _ (by decide)]
 have e2:((2:Int) ^ (1:Nat))=2:=rfl
 rw [e2,← zEw,zC0 (by unfold zCx;omega)]
 omega
abbrev CL:=Int×List GT
def zEQ (ls:List CL) (c:CL) (q:Nat):Int:=match ls[q]? with
 | some x=>zCM x.1 x.2 c.1 c.2
 | none=>0
def zRK (ls:List CL) (c:CL):Nat->Nat->Nat->Nat
 | 0,i,_=>i
 | m+1,i,j=>if i<j then (if zEQ ls c ((i+j) / 2)<0 then zRK ls c m ((i+j) / 2+1) j else zRK ls c m i ((i+j) / 2)) else i
def bsI (ls:List CL) (c:CL):Nat:=zRK ls c ls.length 0 ls.length
def bsB (ls:List CL) (c:CL):Bool:=decide (bsI ls c<ls.length)&&decide (zEQ ls c (bsI ls c)=0)
theorem call190 {h0 k:AH} {v:Value} {els:List (List Value)} {ls:List (Int×List GT)} {g:Int} {vt:Value} {lt:List GT} (ha:Arr k 2 v els) (hL:RLab h0 els ls) (hn:els.length<=1000000) (hr:RT h0 vt lt) (hk:Ext h0 k) :
  bsI ls (g,lt)<=els.length/\(zW E).call 190 [v,.agg #[.int .i64 g,vt],.func (.func 168) #[] #[]] k=some [(.tuple #[.int .i64 ((bsI ls (g,lt):Nat):Int),.bool (bsB ls (g,lt))],k)]:=by
 obtain ⟨ad,c,hv⟩:=ha.slice
 subst hv
 have:∃ w,(bsI ls (g,lt)<=els.length/\w=.tuple #[.int .i64 ((bsI ls (g,lt):Nat):Int),.bool (bsB ls (g,lt))])/\(zW E).call 190 [.slice ad els.length c,.agg #[.int .i64 g,vt],.func (.func 168) #[] #[]] k=some [(w,k)]:=by
  refine zQ2 hk.ok (zXT ?_)
  simp only [zd,zL,zV,zA]
  refine zXS ?_
  have o1:=(Own.fresh k).new (.row [.int .i64 g,vt] 36 0 false)
  have t1:=zI k.fresh (.row [.int .i64 g,vt] 36 0 false)
  simp only [zZ] at t1 ⊢
  generalize k.fresh.new (.row [.int .i64 g,vt] 36 0 false)=k1 at o1 t1
  have e1:=hk.trans o1.ext
  simp only [zA,zPU]
  refine zXR ?_
  have ca:=za (P:=E) zEO (o:=0) t1 (by simp)
  simp only [List.drop_zero,List.take] at ca
  have hll:els.length=ls.length:=RLab.length hL
  have fin:∀ (i:Nat),i<=els.length->i=bsI ls (g,lt)->zTv true (KR E [.tmp 6,.tmp 7] (fun x l=>(zh x=true/\bsI ls (g,lt)<=els.length/\x=.tuple #[.int .i64 ((bsI ls (g,lt):Nat):Int),.bool (bsB ls (g,lt))])/\k.next<=l.wm)) (.slice ad els.length c) (.func (.func 168) #[] #[]) (.pointer (some ⟨k.next,0,none⟩)) (.int .i64 (els.length:Int)) (.int .i64 (i:Int)) k1:=by
   intro i hi hI
   simp only [zTv,zA,zY]
   by_cases hlt:i<els.length
   ·have hlt':(i:Int)<els.length:=by omega
    obtain ⟨b,o,c',vs,ty,es,ro,hv,hb,hlt2,hle2,hz,hzl⟩:=ha.load (List.getElem?_eq_getElem hlt)
    simp only [Value.slice.injEq] at hv
    obtain ⟨hv1,_,hv3⟩:=hv
    subst hv1
    obtain ⟨g',v',lt',hel,hrt,hat⟩:=RLab.at hL i _ (List.getElem?_eq_getElem hlt)
    rw [hel] at hz
    have gb:k1.get b=some (.row vs ty es ro):=(o1.ext.get b hlt2).trans hb
    simp only [hlt',decide_true,zM,zP,beq_self_eq_true,cond_true,zA,zMa hlt,za zEO gb hle2,hz,ca,zS,zM1 hrt hr e1,zN,zAZ,zJ,zPe,zT,true_and]
    have hB:bsB ls (g,lt)=decide (zCM g' lt' g lt=0):=by
     unfold bsB zEQ
     rw [← hI,hat]
     have:i<ls.length:=by omega
     simp [this]
    refine ⟨⟨rfl,by rw [← hI];exact hi,?_⟩,o1.wm⟩
    rw [hB,← hI]
   ·have hlt':¬ (i:Int)<els.length:=by omega
    simp only [hlt',decide_false,zM,zP,zt,zx,show (false==true)=false from rfl,cond_false,zA,zL,zJ,zPe,zT,true_and]
    have hB:bsB ls (g,lt)=false:=by
     unfold bsB
     rw [← hI]
     have:¬ i<ls.length:=by omega
     simp [this]
    refine ⟨⟨rfl,by rw [← hI];exact hi,?_⟩,o1.wm⟩
    rw [hB,← hI]
  have loop:∀ (m i j:Nat),i<=j->j<=els.length->j-i<=m->zRK ls (g,lt) m i j=bsI ls (g,lt)->P190_3 true (KR E [.tmp 6,.tmp 7] (fun x l=>(zh x=true/\bsI ls (g,lt)<=els.length/\x=.tuple #[.int .i64 ((bsI ls (g,lt):Nat):Int),.bool (bsB ls (g,lt))])/\k.next<=l.wm)) (.slice ad els.length c) (.func (.func 168) #[] #[]) (.pointer (some ⟨k.next,0,none⟩)) (.int .i64 (els.length:Int)) (.int .i64 (i:Int)) (.int .i64 (j:Int)) k1:=by
   intro m
   induction m with
   | zero=>
    intro i j hij hj hm hgo
    refine zLI ?_
    simp only [zA,zY,zAA]
    refine ⟨fun h=>by omega,fun _=>zLH ?_⟩
    exact fin i (by omega) hgo
   | succ m ih=>
    intro i j hij hj hm hgo
    refine zLI ?_
    simp only [zA,zY,zAA]
    refine ⟨fun h=>zXQ ?_,fun _=>zLH ?_⟩
    ·have hlt:i<j:=by omega
     rw [zAM _ (by unfold zCx;omega)]
     simp only [zA,mid3,mid4,mid5]
     rw [mid_eq (n:=els.length) (by omega) hj hn]
     generalize hq:(i+j) / 2=q
     have hq1:i<=q:=by omega
     have hq2:q<j:=by omega
     refine zXP ?_
     have hqn:q<els.length:=by omega
     obtain ⟨b,o,c',vs,ty,es,ro,hv,hb,hlt',hle2,hz,hzl⟩:=ha.load (List.getElem?_eq_getElem hqn)
     simp only [Value.slice.injEq] at hv
     obtain ⟨hv1,_,hv3⟩:=hv
     subst hv1
     obtain ⟨g',v',lt',hel,hrt,hat⟩:=RLab.at hL q _ (List.getElem?_eq_getElem hqn)
     rw [hel] at hz
     have gb:k1.get b=some (.row vs ty es ro):=(o1.ext.get b hlt').trans hb
     simp only [zA,zMa hqn,za zEO gb hle2,hz,ca,zS,zM1 hrt hr e1,zN,zY,zAA]
     have hgo:(if zEQ ls (g,lt) q<0 then zRK ls (g,lt) m (q+1) j else zRK ls (g,lt) m i q)=bsI ls (g,lt):=by
      rw [← hgo]
      simp only [zRK,hlt,if_true,hq]
     have hcm:zEQ ls (g,lt) q=zCM g' lt' g lt:=by unfold zEQ;rw [hat]
     rw [hcm] at hgo
     refine ⟨fun hc=>zXO ?_,fun hc=>zXN ?_⟩
     ·simp only [zA,zAM _ (zD7 hqn (by omega))]
      have:=ih (q+1) j (by omega) hj (by omega) (by rw [if_pos hc] at hgo;exact hgo)
      simpa using this
     ·skip
      exact ih i q (by omega) (by omega) (by omega) (by rw [if_neg hc] at hgo;exact hgo)
    ·rename_i hnl
     have hnl':¬ i<j:=by omega
     exact fin i (by omega) (by simpa [zRK,hnl'] using hgo)
  exact loop els.length 0 els.length (Nat.zero_le _) (Nat.le_refl _) (by omega) (by rw [hll];rfl)
 obtain ⟨w,⟨hi,rfl⟩,hc⟩:=this
 exact ⟨hi,hc⟩
abbrev LB:=Int×Value×List GT
def lc (x:LB):List Value:=[.int .i64 x.1,x.2.1]
def zCD (l:List LB):List Value:=l.flatMap lc
theorem zHG:∀ l:List LB,(zCD l).length=l.length*2
 | []=>rfl
 | x::l=>by simp only [zCD,List.flatMap_cons,List.length_append,List.length_cons];have:=zHG l;simp only [zCD] at this;rw [this];simp [lc];omega
theorem zIN:∀ (l:List LB) (i:Nat),(zCD l).take (i*2)=zCD (l.take i)
 | [],i=>by simp [zCD]
 | x::l,0=>by simp [zCD]
 | x::l,i+1=>by
  have:=zIN l i
  simp only [zCD,List.flatMap_cons,List.take_succ_cons] at this ⊢
  rw [← this]
  rw [show (i+1)*2=i*2+2 by omega]
  rfl
theorem zFr:∀ (l:List LB) (i:Nat),(zCD l).drop (i*2)=zCD (l.drop i)
 | [],i=>by simp [zCD]
 | x::l,0=>by simp [zCD]
 | x::l,i+1=>by
  have:=zFr l i
  simp only [zCD,List.flatMap_cons,List.drop_succ_cons] at this ⊢
  rw [← this]
  rw [show (i+1)*2=i*2+2 by omega]
  rfl
theorem zbm {l:List LB} {i:Nat} {x:LB} (h:l[i]?=some x):((zCD l).drop (i*2)).take 2=lc x:=by
 rw [zFr]
 have hlt:=(List.getElem?_eq_some_iff.1 h).1
 rw [List.drop_eq_getElem_cons hlt]
 have:l[i]=x:=by rw [List.getElem?_eq_getElem hlt] at h;exact Option.some.inj h
 rw [this]
 rfl
theorem zPh {h0:AH} {l:List LB} (h:∀ x∈l,RT h0 x.2.1 x.2.2):(zCD l).all zr=true:=by
 rw [List.all_eq_true]
 intro v hv
 obtain ⟨x,hx,hv⟩:=List.mem_flatMap.1 hv
 simp only [lc,List.mem_cons,List.not_mem_nil,or_false] at hv
 rcases hv with rfl|rfl
 ·rfl
 ·exact zDS (h x hx)
theorem zIO {h0:AH}:∀ {l:List LB},(∀ x∈l,RT h0 x.2.1 x.2.2)->RLab h0 (l.map lc) (l.map fun x=>(x.1,x.2.2))
 | [],_=>.nil
 | x::l,h=>.cons (h x (by simp)) (zIO fun y hy=>h y (by simp [hy]))
theorem zSv (l:List LB) (i:Nat) (x:LB):zEP (i*2) (zCD l)++lc x++zFk (i*2) (zCD l)=zCD (l.take i++x::l.drop i):=by
 rw [zAq,zAr,zIN,zFr]
 simp [zCD,List.flatMap_append,List.flatMap_cons]
def zy (v:Value) (c:Nat):Prop:=∃ n cap,v=.slice (some ⟨c,0,none⟩) n cap
def con (x:LB):CL:=(x.1,x.2.2)
structure NM (h0 k:AH) (bn:Nat) (v:Value) (n:List CL):Prop where
 row:k.get bn=some (.row [v] 197 0 false)
 lt:bn<k.next
 lst:(v=.slice none 0 0/\n=[])\/∃ b l,v=.slice (some ⟨b,0,none⟩) n.length (UNK+2)/\k.get b=some (.row (zCD l) 36 2 false)/\b<k.next/\b≠bn/\l.map con=n/\∀ x∈l,RT h0 x.2.1 x.2.2
structure NS (h0 k:AH) (bn:Nat) (v:Value) (n:List CL) (k':AH) (v':Value) (n':List CL):Prop where
 nm:NM h0 k' bn v' n'
 ok:k'.ok
 next:k.next<=k'.next
 n:n'.length<=n.length+1
 get:∀ c,c<k.next->c≠bn->¬ zy v c->k'.get c=k.get c
 blk:∀ c,zy v' c->zy v c\/k.next<=c
 wm:∀ m,m<=k.wm->m<=bn->(∀ c,zy v c->m<=c)->m<=k.next->m<=k'.wm
theorem NM.arr {h0 k:AH} {bn:Nat} {v:Value} {n:List CL} (h:NM h0 k bn v n):∃ l:List LB,l.map con=n/\Arr k 2 v (l.map lc)/\(∀ x∈l,RT h0 x.2.1 x.2.2):=by
 rcases h.lst with ⟨rfl,rfl⟩|⟨b,l,rfl,hb,hlt,hne,hl,hr⟩
 ·exact ⟨[],rfl,.nil _ _,by simp⟩
 ·refine ⟨l,hl,?_,hr⟩
  rw [← hl,List.length_map]
  have:=Arr.row (h:=k) (z:=2) (b:=b) (o:=0) (c:=UNK+2) (els:=l.map lc) hb hlt (by simp [zHG]) (fun i e he=>by
   simp only [List.getElem?_map] at he
   cases hx:l[i]? with
   | none=>rw [hx] at he;cases he
   | some x=>
    rw [hx] at he
    simp only [Option.map_some,Option.some.injEq] at he
    subst he
    exact ⟨rfl,by rw [Nat.zero_add];exact zbm hx⟩)
  simpa using this
theorem zOA {P:Env} {f:FuncId} {fn:Func} {c:Code} {args:List Value} {h:AH} {outs:List (Value×AH)} (hf:P.tab.fn.get f=some fn) (hb:fn.body=some c) (hs:P.sum f args h=some outs):(zW P).call f args h=some outs:=by
 rw [zTG]
 unfold fnCall
 rw [hf]
 simp only [hb,hs]
theorem bs22 {g:Int} {v:Value} {h:AH}:zf E 22 1 (some [(0,.agg #[.int .i64 g,v])]) h=one (.slice (some ⟨h.next,0,none⟩) 1 1,h.new (.row [.int .i64 g,v] 36 0 false)):=by kernel_rfl
theorem zMy {h:AH} {b c:Nat} {l:List LB} {i:Nat} {x:LB} {h0:AH} (hb:h.get b=some (.row (zCD l) 36 2 false)) (hc:h.get c=some (.row (lc x) 36 0 false)) (hne:b≠c) (hi:i<=l.length) (hn:l.length<=100000) (hl:∀ x∈l,RT h0 x.2.1 x.2.2) (hx:zr x.2.1=true) :
  (zW E).call 191 [.slice (some ⟨b,0,none⟩) l.length (UNK+2),.int .i64 (i:Int),.slice (some ⟨c,0,none⟩) 1 1] h=some [(.slice (some ⟨h.next,0,none⟩) (l.length+1) (UNK+2),(h.upd b none).new (.row (zCD (l.take i++x::l.drop i)) 36 2 false))]:=by
 refine zOA zOv zLl ?_
 show zSl [.slice (some ⟨b,0,none⟩) l.length (UNK+2),.int .i64 (.ofNat i),.slice (some ⟨c,0,none⟩) 1 1] h=_
 unfold zSl
 simp only [hb,hc]
 have h1:(Nat.beq (UNK+2) (UNK+2)&&Nat.ble i l.length&&Nat.beq (zA1 (zCD l)) (l.length*2)&&Nat.beq (zA1 (lc x)) 2&&!Nat.beq b c&&(zCD l).all zr&&(lc x).all zr&&Nat.ble l.length 100000)=true:=by
  rw [Nat.beq_refl,ble_true.2 hi,zAN,zHG,Nat.beq_refl,zBP hne,zPh hl,ble_true.2 hn]
  simp [lc,zA1,zr]
  exact hx
 rw [h1]
 simp only [cond_true,zSv]
theorem app22 {h:AH} {c:Nat} {us:List Value} (hc:h.get c=some (.row us 36 0 false)) (hl:us.length=2):zAD E .append [22,22] (some [.slice none 0 0,.slice (some ⟨c,0,none⟩) 1 1]) h=one (.slice (some ⟨h.next,0,none⟩) 1 (UNK+2),h.new (.row us 36 2 false)):=by
 have hel:zDc E 22=some 36:=elt_22
 have hun:und E 22=some (.slice 36):=zHt
 match us,hl with
 | [x,y],_=>
  show v2 (zAy E [22,22] (.slice none 0 0) (.slice (some ⟨c,0,none⟩) 1 1) h)=_
  simp only [zAy,hel,hun,zFF,cond_false]
  have hti:∃ i,zCN E 36=some i/\i.size=2/\zE1 i=true:=by
   cases ht:zCN E 36 with
   | none=>have:=zEO;unfold tAS at this;rw [ht] at this;cases this
   | some i=>
    refine ⟨i,rfl,?_,?_⟩
    ·have:=zEO;unfold tAS at this;rw [ht] at this;simp at this;exact this.2
    ·have:(match zCN E 36 with|some i=>zE1 i|none=>false)=true:=by kernel_rfl
     rw [ht] at this;exact this
  obtain ⟨ti,e1,e2,e3⟩:=hti
  simp only [e1,zCE,zBC,hc,e2]
  simp [zEP,zFk,zA1,e3,zB7,zAw,v2,Nat.beq_refl]
  rfl
theorem zMz {h:AH} (hok:h.ok) {c:Nat} {us:List Value} (hc:h.get c=some (.row us 36 0 false)) (hl:us.length=2) :
  (zW E).call 191 [.slice none 0 0,.int .i64 0,.slice (some ⟨c,0,none⟩) 1 1] h=some [(.slice (some ⟨h.next,0,none⟩) 1 (UNK+2),h.new (.row us 36 2 false))]:=by
 have hsum:E.sum 191 [.slice none 0 0,.int .i64 0,.slice (some ⟨c,0,none⟩) 1 1] h=none:=by kernel_rfl
 have key:P191_0 true (KR E [.tmp 6] (fun x k=>x=.slice (some ⟨h.next,0,none⟩) 1 (UNK+2)/\k=h.fresh.new (.row us 36 2 false))) (.slice none 0 0) (.int .i64 0) (.slice (some ⟨c,0,none⟩) 1 1) h.fresh:=by
  refine zXM ?_
  refine zXL ?_
  have hcut:zi E (zl [(10,.slice none 0 0),(11,.int .i64 0)]) (zn B191 [1,0] 2)=some (.slice none 0 0):=by kernel_rfl
  simp only [zA,hcut]
  refine zXK ?_
  simp only [zA,zPT]
  refine zXJ ?_
  simp only [zA,zAZ]
  rw [zAA]
  refine ⟨fun h=>by omega,fun _=>zXI ?_⟩
  simp only [zA,zPS]
  refine zXH ?_
  simp only [zA,zAZ,zAA]
  refine ⟨fun _=>zXG ?_,fun h=>absurd rfl h⟩
  have hc':h.fresh.get c=some (.row us 36 0 false):=hc
  simp only [zA,app22 hc' hl,zL,zAJ,zT,true_and,zZ]
 have:=zbx (P:=E) (v0:=.slice (some ⟨h.next,0,none⟩) 1 (UNK+2)) (h1:=h.fresh.new (.row us 36 2 false)) zOv zLl hsum (by kernel_rfl) ((F191_ev (Rp:=fun x k=>x=.slice (some ⟨h.next,0,none⟩) 1 (UNK+2)/\k=h.fresh.new (.row us 36 2 false)) key).mono fun x hx=>Prod.ext hx.1 hx.2)
 rw [this]
 have hr:zBD h.fresh (.slice (some ⟨h.next,0,none⟩) 1 (UNK+2),h.fresh.new (.row us 36 2 false))=(.slice (some ⟨h.next,0,none⟩) 1 (UNK+2),h.fresh.new (.row us 36 2 false)):=by
  unfold zBD
  have:zh (.slice (some ⟨h.next,0,none⟩) 1 (UNK+2))=false:=rfl
  rw [this];simp
 rw [hr]
 have hb:=zM7 hok
 unfold AH.back at hb
 show some [(_,(⟨(h.new (.row us 36 2 false)).t,h.next+1,cond (Nat.ble h.wm (h.next+UNK)) h.wm (h.next+UNK)⟩:AH))]=_
 have hw:cond (Nat.ble h.wm (h.next+UNK)) h.wm (h.next+UNK)=h.wm:=congrArg AH.wm hb
 rw [hw]
 rfl
theorem st22 {h:AH} {b:Nat} {v w:Value} (hb:h.get b=some (.row [v] 197 0 false)) (hw:zj w=[w]) (hl:zr w=true):ze E 22 h (some (.pointer (some ⟨b,0,none⟩))) (some w)=one (undef,h.upd b (some (.row [w] 197 0 false))):=by
 rw [zw (P:=E) ts_22 hb hw rfl (by simp) (by simp [hl])];rfl
def zLo (cs:List CL) (c:CL):Int×List CL:=if c.1=-1 then (0,cs) else (((bsI cs c:Nat):Int)+1,if bsB cs c then cs else cs.take (bsI cs c)++c::cs.drop (bsI cs c))
theorem zTR {h0 k:AH} {bn:Nat} {n:List CL} {v:Value} {g:Int} {vt:Value} {lt:List GT} (hk:Ext h0 k) (hb0:h0.next<=bn) (hblk:∀ c,zy v c->h0.next<=c) (hm:NM h0 k bn v n) (hn:n.length<=100000) (hr:RT h0 vt lt) :
  Ev true ((zW E).call 143 [.pointer (some ⟨bn,0,none⟩),.agg #[.int .i64 g,vt]] k) fun x=>∃ r v' n',x.1=.int .i64 r/\(r,n')=zLo n (g,lt)/\(if g=-1 then r=0 else 1<=r/\r<=n.length+1)/\NS h0 k bn v n x.2 v' n':=by
 have same:NS h0 k bn v n k v n:=⟨hm,hk.ok,Nat.le_refl _,by omega,fun _ _ _ _=>rfl,fun c h=>.inl h,fun m h1 _ _ _=>h1⟩
 obtain ⟨l,hl,harr,hrt⟩:=hm.arr
 have o1:=(Own.fresh k).new (.row [.int .i64 g,vt] 36 0 false)
 have t1:=zI k.fresh (.row [.int .i64 g,vt] 36 0 false)
 have n1:(k.fresh.new (.row [.int .i64 g,vt] 36 0 false)).next=k.next+1:=rfl
 have w1:(k.fresh.new (.row [.int .i64 g,vt] 36 0 false)).wm=k.next+UNK:=rfl
 simp only [zZ] at t1
 have hq:∃ k1,k1=k.fresh.new (.row [.int .i64 g,vt] 36 0 false):=⟨_,rfl⟩
 obtain ⟨k1,hk1⟩:=hq
 rw [← hk1] at o1 t1 n1 w1
 have e1:=hk.trans o1.ext
 have l0:=zF (P:=E) zAS (o:=0) t1
 have ca:=za (P:=E) zEO (o:=0) t1 (by simp)
 simp only [lnth,List.drop_zero,List.take] at l0 ca
 have start:∀ {K:KF},P143_1 true K (.pointer (some ⟨bn,0,none⟩)) (.pointer (some ⟨k.next,0,none⟩)) k1->P143_0 true K (.pointer (some ⟨bn,0,none⟩)) (.agg #[.int .i64 g,vt]) k.fresh:=by
  intro K h
  refine zZH ?_
  simp only [zd,zL,zV,zA,zZ]
  rw [← hk1]
  exact h
 by_cases hg:g=-1
 ·have:(zW E).call 143 [.pointer (some ⟨bn,0,none⟩),.agg #[.int .i64 g,vt]] k=some [(.int .i64 0,k)]:=by
   refine zIs hk.ok rfl (start (zLd ?_))
   simp only [zBI,Nat.add_zero,l0,zA,zAZ,zAA]
   refine ⟨fun _=>zZG ?_,fun h=>absurd hg h⟩
   simp [zA,zAJ,zT,o1.wm]
  rw [this,zN]
  exact ⟨0,v,n,rfl,by simp [zLo,hg],by rw [if_pos hg],same⟩
 ·have gn:k1.get bn=some (.row [v] 197 0 false):=(o1.ext.get bn hm.lt).trans hm.row
  have ln:=zF (P:=E) zGI (o:=0) gn
  simp only [lnth] at ln
  have harr1:=harr.ext o1.ext
  have hll:l.length=n.length:=by rw [← hl,List.length_map]
  obtain ⟨hi,hbs⟩:=call190 (k:=k1) (g:=g) harr1 (zIO hrt) (by simp;omega) hr e1
  have hcon:(l.map fun x=>(x.1,x.2.2))=n:=hl
  rw [hcon] at hi hbs
  rw [List.length_map,hll] at hi
  have hnum:zLo n (g,lt)=(((bsI n (g,lt):Nat):Int)+1,if bsB n (g,lt) then n else n.take (bsI n (g,lt))++(g,lt)::n.drop (bsI n (g,lt))):=by simp [zLo,hg]
  generalize bsI n (g,lt)=i at hi hbs hnum
  generalize bsB n (g,lt)=b at hbs hnum
  have front:∀ {K:KF},P143_4 true K (.pointer (some ⟨bn,0,none⟩)) (.pointer (some ⟨k.next,0,none⟩)) (.int .i64 (i:Int)) (.bool b) k1->P143_0 true K (.pointer (some ⟨bn,0,none⟩)) (.agg #[.int .i64 g,vt]) k.fresh:=by
   intro K h
   refine start (zLd ?_)
   simp only [zBI,Nat.add_zero,l0,zA,zAZ,zAA]
   refine ⟨fun h=>absurd h hg,fun _=>zZF ?_⟩
   simp only [zA,zAu,zNx,Nat.add_zero,ln,ca,zS,hbs,zN,z6,lnth]
   exact h
  have fin:∀ {K:KF} {k2:AH},K .ret [.int .i64 ((i:Int)+1)] k2->P143_6 true K (.int .i64 (i:Int)) k2:=by
   intro K k2 h
   refine zZD ?_
   simp only [zA,zAM _ (show zCx ((i:Int)+1) by unfold zCx;omega)]
   exact h
  cases b with
  | true=>
   have:(zW E).call 143 [.pointer (some ⟨bn,0,none⟩),.agg #[.int .i64 g,vt]] k=some [(.int .i64 ((i:Int)+1),k)]:=by
    refine zIs hk.ok rfl (front (zLc ?_))
    simp only [zA,zv,Bool.not_true,zk]
    refine fin ?_
    simp [zAJ,zT,o1.wm]
   rw [this,zN]
   exact ⟨_,v,n,rfl,by rw [hnum];rfl,by rw [if_neg hg];omega,same⟩
  | false=>
   have hxl:=zDS hr
   have t2:=zI k1 (.row [.int .i64 g,vt] 36 0 false)
   have ins:∃ v' k3,(zW E).call 191 [v,.int .i64 (i:Int),.slice (some ⟨k1.next,0,none⟩) 1 1] (k1.new (.row [.int .i64 g,vt] 36 0 false))=some [(v',k3)]/\zj v'=[v']/\zr v'=true ∧
     k3.get bn=some (.row [v] 197 0 false)/\NS h0 k bn v n (k3.upd bn (some (.row [v'] 197 0 false))) v' (n.take i++(g,lt)::n.drop i)/\k3.next=k.next+3:=by
    have hkn:=hm.lt
    rcases hm.lst with ⟨rfl,rfl⟩|⟨bl,l',rfl,hbl,hlt,hne,hl',hr'⟩
    ·have hi0:i=0:=by simpa using hi
     subst hi0
     have:=zMz (h:=k1.new (.row [.int .i64 g,vt] 36 0 false)) (zCK o1.ext.ok _) t2 rfl
     refine ⟨_,_,this,rfl,rfl,?_,?_,by simp [n1]⟩
     ·rw [zK (by simp;omega),zK (by omega)];exact gn
     ·refine ⟨⟨zR _ _ _,by simp;omega,.inr ⟨k1.next+1,[(g,vt,lt)],rfl,?_,by simp,by omega,rfl,by simpa using hr⟩⟩,zDo (zCK (zCK o1.ext.ok _) _) _ _,by simp;omega,by simp,?_,?_,?_⟩
      ·rw [zU (by omega)];exact zI (k1.new _) _
      ·intro c hc hcb _
       rw [zU hcb,zK (by simp;omega),zK (by omega)];exact o1.ext.get c hc
      ·rintro c ⟨m,cap,hcc⟩
       simp only [Value.slice.injEq,Option.some.injEq,Addr.mk.injEq] at hcc
       exact .inr (by have:=hcc.1.1;simp at this;omega)
      ·intro m h1 h2 h3 h4
       exact z9 (by simp only [zC9];omega) h2
    ·have hbl1:k1.get bl=some (.row (zCD l') 36 2 false):=(o1.ext.get bl hlt).trans hbl
     have hb2:(k1.new (.row [.int .i64 g,vt] 36 0 false)).get bl=some (.row (zCD l') 36 2 false):=by rw [zK (by omega)];exact hbl1
     have hl2:l'.length=n.length:=by rw [← hl',List.length_map]
     have:=zMy (h0:=h0) (x:=(g,vt,lt)) (i:=i) hb2 t2 (by omega) (by omega) (by omega) hr' hxl
     have hins:(l'.take i++(g,vt,lt)::l'.drop i).map con=n.take i++(g,lt)::n.drop i:=by
      rw [← hl'];simp [con,List.map_take,List.map_drop]
     have hln:(n.take i++(g,lt)::n.drop i).length=n.length+1:=by simp;omega
     rw [hl2,← hln] at this
     refine ⟨_,_,this,rfl,rfl,?_,?_,by simp [n1]⟩
     ·rw [zK (by simp;omega),zU (fun h=>hne h.symm),zK (by omega)];exact gn
     ·refine ⟨⟨zR _ _ _,by simp;omega,.inr ⟨k1.next+1,l'.take i++(g,vt,lt)::l'.drop i,rfl,?_,by simp,by omega,hins,?_⟩⟩,zDo (zCK (zDo (zCK o1.ext.ok _) _ _) _) _ _,by simp;omega,by omega,?_,?_,?_⟩
      ·rw [zU (by omega)];exact zI ((k1.new _).upd _ _) _
      ·intro x hx
       rcases List.mem_append.1 hx with hx|hx
       ·exact hr' x (List.mem_of_mem_take hx)
       ·rcases List.mem_cons.1 hx with rfl|hx
        ·exact hr
        ·exact hr' x (List.mem_of_mem_drop hx)
      ·intro c hc hcb hcv
       have hcbl:c≠bl:=fun h=>hcv ⟨_,_,by rw [h]⟩
       rw [zU hcb,zK (by simp;omega),zU hcbl,zK (by omega)];exact o1.ext.get c hc
      ·rintro c ⟨m,cap,hcc⟩
       simp only [Value.slice.injEq,Option.some.injEq,Addr.mk.injEq] at hcc
       exact .inr (by have:=hcc.1.1;simp at this;omega)
      ·intro m h1 h2 h3 h4
       refine z9 ?_ h2
       rw [zC9]
       exact z9 (by rw [zC9];omega) (h3 bl ⟨_,_,rfl⟩)
   obtain ⟨v',k3,hc,hcv,hlv,g3,hns,hn3⟩:=ins
   refine za0 (Rp:=fun x k'=>∃ r v' n',x=.int .i64 r/\(r,n')=zLo n (g,lt)/\(if g=-1 then r=0 else 1<=r/\r<=n.length+1)/\NS h0 k bn v n k' v' n') (front (zLc ?_))
   simp only [zA,zv,Bool.not_false,zu]
   refine zZE ?_
   have gn2:(k1.new (.row [.int .i64 g,vt] 36 0 false)).get bn=some (.row [v] 197 0 false):=by rw [zK (by have:=hm.lt;omega)];exact gn
   have ln2:=zF (P:=E) zGI (o:=0) gn2
   simp only [lnth] at ln2
   have hvv:veq 100 v v=true:=by
    rcases hm.lst with ⟨rfl,_⟩|⟨_,_,rfl,_⟩ <;> exact zB8 _ _ _ _
   simp only [zA,zAu,zNx,Nat.add_zero,ln,ca,bs22,zL,ln2,hvv,true_and,zS,hc,zN,st22 g3 hcv hlv]
   refine fin ?_
   simp only [zAJ,zT,true_and]
   have hw:(k3.upd bn (some (.row [v'] 197 0 false))).wm<=bn:=(zDB _ _ _).2
   refine ⟨.inr (by have:=hm.lt;omega),(i:Int)+1,v',n.take i++(g,lt)::n.drop i,rfl,by rw [hnum];rfl,by rw [if_neg hg];omega,?_⟩
   obtain ⟨a1,a2,a3,a4,a5,a6,a7⟩:=hns
   refine ⟨⟨a1.row,a1.lt,a1.lst⟩,?_,a3,a4,a5,a6,?_⟩
   ·show cond (Nat.ble k.wm _) k.wm _<=_+UNK
    unfold AH.ok at a2
    cases hcc:Nat.ble k.wm (k3.upd bn (some (.row [v'] 197 0 false))).wm with
    | true=>rw [ble_true] at hcc;simp only [cond_true];omega
    | false=>exact a2
   ·intro m h1 h2 h3 h4
    show m<=cond (Nat.ble k.wm _) k.wm _
    cases hcc:Nat.ble k.wm (k3.upd bn (some (.row [v'] 197 0 false))).wm with
    | true=>exact h1
    | false=>exact a7 m h1 h2 h3 h4
structure Fx (P:Nat->Prop) (k k':AH):Prop where
 ok:k'.ok
 next:k.next<=k'.next
 get:∀ c,c<k.next->¬ P c->k'.get c=k.get c
 wm:∀ m,m<=k.wm->(∀ c,P c->m<=c)->m<=k.next->m<=k'.wm
theorem Fx.refl {P:Nat->Prop} {k:AH} (h:k.ok):Fx P k k:=⟨h,Nat.le_refl _,fun _ _ _=>rfl,fun _ h _ _=>h⟩
theorem Fx.trans {P P':Nat->Prop} {k l m:AH} (e:Fx P k l) (f:Fx P' l m) (hP:∀ c,P' c->P c\/k.next<=c):Fx P k m:=
 ⟨f.ok,Nat.le_trans e.next f.next,fun c hc hn=>(f.get c (Nat.lt_of_lt_of_le hc e.next) fun h=>(hP c h).elim hn fun h=>by omega).trans (e.get c hc hn),
  fun n h1 h2 h3=>f.wm n (e.wm n h1 h2 h3) (fun c hc=>(hP c hc).elim (h2 c) fun h=>Nat.le_trans h3 h) (Nat.le_trans h3 e.next)⟩
theorem Fx.new {P:Nat->Prop} {k l:AH} (e:Fx P k l) (o:AObj):Fx P k (l.new o):=
 ⟨zCK e.ok o,Nat.le_trans e.next (by simp),fun c hc hn=>by
  have:=e.next
  rw [zK (by omega)];exact e.get c hc hn,fun n h1 h2 h3=>e.wm n h1 h2 h3⟩
theorem Fx.upd {P:Nat->Prop} {k l:AH} (e:Fx P k l) {b:Nat} (hb:P b\/k.next<=b) (o:Option AObj):Fx P k (l.upd b o):=
 ⟨zDo e.ok b o,e.next,fun c hc hn=>by
  rw [zU (fun h=>by subst h;exact hb.elim hn fun h=>by omega)];exact e.get c hc hn,
  fun n h1 h2 h3=>z9 (e.wm n h1 h2 h3) (hb.elim (h2 b) fun h=>Nat.le_trans h3 h)⟩
theorem Fx.mono {P P':Nat->Prop} {k l:AH} (e:Fx P k l) (h:∀ c,P c->P' c\/k.next<=c):Fx P' k l:=
 ⟨e.ok,e.next,fun c hc hn=>e.get c hc fun hp=>(h c hp).elim hn fun h=>by omega,fun n h1 h2 h3=>e.wm n h1 (fun c hc=>(h c hc).elim (h2 c) fun h=>Nat.le_trans h3 h) h3⟩
theorem Fx.ext {P:Nat->Prop} {h k l:AH} (e:Ext h k) (f:Fx P k l) (hP:∀ c,P c->h.next<=c):Ext h l:=
 ⟨f.ok,Nat.le_trans e.next f.next,fun c hc=>(f.get c (Nat.lt_of_lt_of_le hc e.next) fun hp=>by have:=hP c hp;omega).trans (e.get c hc)⟩
theorem Fx.own {P:Nat->Prop} {h k l:AH} (e:Own h k) (f:Fx P k l) (hP:∀ c,P c->h.next<=c):Own h l:=
 ⟨f.ext e.ext hP,f.wm _ e.wm hP e.ext.next⟩
theorem NS.fx {h0 k k':AH} {bn:Nat} {n n':List CL} {v v':Value} (s:NS h0 k bn v n k' v' n'):Fx (fun c=>c=bn\/zy v c) k k':=
 ⟨s.ok,s.next,fun c hc hn=>s.get c hc (fun h=>hn (.inl h)) fun h=>hn (.inr h),fun m h1 h2 h3=>s.wm m h1 (h2 bn (.inl rfl)) (fun c hc=>h2 c (.inr hc)) h3⟩
theorem zJf {h0 k:AH} {bn:Nat} {n:List CL} {v:Value} (h:NM h0 k bn v n) {c:Nat} (hc:zy v c):c<k.next:=by
 obtain ⟨m,cap,rfl⟩:=hc
 rcases h.lst with ⟨h,_⟩|⟨b,l,h,_,hlt,_⟩
 ·cases h
 ·simp only [Value.slice.injEq,Option.some.injEq,Addr.mk.injEq] at h
  rw [h.1.1];exact hlt
theorem NM.fx {P:Nat->Prop} {h0 k k':AH} {bn:Nat} {n:List CL} {v:Value} (h:NM h0 k bn v n) (f:Fx P k k') (h1:¬ P bn) (h2:∀ c,zy v c->¬ P c):NM h0 k' bn v n:=by
 refine ⟨(f.get bn h.lt h1).trans h.row,Nat.lt_of_lt_of_le h.lt f.next,?_⟩
 rcases h.lst with ⟨a,b⟩|⟨b,l,a1,a2,a3,a4,a5,a6⟩
 ·exact .inl ⟨a,b⟩
 ·refine .inr ⟨b,l,a1,(f.get b a3 (h2 b ⟨_,_,a1⟩)).trans a2,Nat.lt_of_lt_of_le a3 f.next,a4,a5,a6⟩
abbrev NoB:Nat->Prop:=fun _=>False
theorem box36 {k:AH} {g:Int} {v:Value} (hl:zr v=true) :
  ze E 36 (k.new (.row [.int .i64 0,.slice none 0 0] 36 0 false)) (some (.pointer (some ⟨k.next,0,none⟩))) (some (.agg ⟨[.int .i64 g,v]⟩))=one (undef,(k.new (.row [.int .i64 0,.slice none 0 0] 36 0 false)).upd k.next (some (.row [.int .i64 g,v] 36 0 false))):=by
 rw [zw (P:=E) zbQ (x:=.agg ⟨[.int .i64 g,v]⟩) (cs:=[.int .i64 g,v]) (zI k _) rfl rfl (by simp) (by simp [zr];exact hl)]
 rfl
theorem box25 {k:AH} {e:List Value} (hl:e.all zr=true) (h3:e.length=3) :
  ze E 25 (k.new (.row [.int .i64 0,.slice none 0 0,.slice none 0 0] 25 0 false)) (some (.pointer (some ⟨k.next,0,none⟩))) (some (.agg ⟨e⟩))=one (undef,(k.new (.row [.int .i64 0,.slice none 0 0,.slice none 0 0] 25 0 false)).upd k.next (some (.row e 25 0 false))):=by
 rw [zw (P:=E) ts_25 (x:=.agg ⟨e⟩) (cs:=e) (zI k _) rfl h3 (by simp) hl,put3g _ h3]
structure Args (k:AH) (v:Value) (els:List (List Value)) (Ls:List GL):Prop where
 arr:Arr k 3 v els
 len:els.length=Ls.length
 few:els.length<=10
 rl:∀ (i:Nat) (e:List Value) (L:GL),els[i]?=some e->Ls[i]?=some L->RL k (.agg ⟨e⟩) L
 ok:∀ (i:Nat) (L:GL),Ls[i]?=some L->zAL L=false
theorem Args.at {k:AH} {v:Value} {els:List (List Value)} {Ls:List GL} (a:Args k v els Ls) {i:Nat} (hi:i<els.length) :
  ∃ L b o c vs ty es ro vl ve elsL,Ls[i]?=some L/\v=.slice (some ⟨b,o,none⟩) els.length c/\k.get b=some (.row vs ty es ro)/\b<k.next/\o+i*3+3<=vs.length/\(vs.drop (o+i*3)).take 3=[.int .i64 L.n,vl,ve] ∧
   zr vl=true/\zr ve=true/\Arr k 2 vl elsL/\RLab k elsL L.labs/\Arr k 3 ve (L.eds.map zb)/\zAL L=false:=by
 have hi':i<Ls.length:=by rw [← a.len];exact hi
 obtain ⟨b,o,c,vs,ty,es,ro,hv,hb,hlt,hle,hz,hzl⟩:=a.arr.load (List.getElem?_eq_getElem hi)
 have hRL:=a.rl i _ _ (List.getElem?_eq_getElem hi) (List.getElem?_eq_getElem hi')
 obtain ⟨vl,ve,elsL,q1,q2,q3,q4⟩:=hRL.ex
 have he:els[i]=[.int .i64 Ls[i].n,vl,ve]:=by
  simp only [Value.agg.injEq] at q1
  have:=congrArg Array.toList q1
  simpa using this
 obtain ⟨x1,x2,hx⟩:=q2.slice
 obtain ⟨y1,y2,hy⟩:=q4.slice
 exact ⟨Ls[i],b,o,c,vs,ty,es,ro,vl,ve,elsL,List.getElem?_eq_getElem hi',hv,hb,hlt,hle,by rw [hz,he],by rw [hx];rfl,by rw [hy];rfl,q2,q3,q4,a.ok i _ (List.getElem?_eq_getElem hi')⟩
theorem zDN {L:GL} (h:zAL L=false):1<=L.n/\L.n<=20000/\L.labs.length<=4000/\L.eds.length<=100000:=by
 simp only [zAL,zA3,Bool.or_eq_false_iff,decide_eq_false_iff_not] at h
 omega
theorem zFT {L:GL} (h:zAL L=false) {i:Nat} {e:Int×Int×Int} (he:L.eds[i]?=some e):(0<=e.1/\e.1<L.n)/\(0<=e.2.2/\e.2.2<L.n)/\(0<=e.2.1/\e.2.1<L.labs.length):=by
 simp only [zAL,Bool.or_eq_false_iff] at h
 have hlt:=(List.getElem?_eq_some_iff.1 he).1
 have:=zCT h.2 i (Nat.zero_le _) (by omega)
 simp only [zBL,he,Bool.or_eq_false_iff,Bool.not_eq_false',Bool.and_eq_true,decide_eq_true_eq] at this
 exact ⟨this.1.1.1,this.1.1.2,this.1.2⟩
def zBZ (cs:List CL):List CL->List Int×List CL
 | []=>([],cs)
 | c::l=>((zLo cs c).1::(zBZ (zLo cs c).2 l).1,(zBZ (zLo cs c).2 l).2)
def zGx:List GL->List CL->List CL
 | [],cs=>cs
 | L::Ls,cs=>zGx Ls (zBZ cs L.labs).2
theorem zFw {α:Type} {l:List α} {i:Nat} {x:α} (h:l[i]?=some x):l.drop i=x::l.drop (i+1):=by
 obtain ⟨hlt,e⟩:=List.getElem?_eq_some_iff.1 h
 rw [List.drop_eq_getElem_cons hlt,e]
theorem graphs1 {k:AH} {v0:Value} {els:List (List Value)} {Ls:List GL} (a:Args k v0 els Ls) {bn:Nat} (hbn:k.next<=bn) {K:KF} {ad:Option Addr} {cp:Nat} (hv0:v0=.slice ad els.length cp) {fin:List CL}
  (hK:∀ kk v n,Own k kk->NM k kk bn v n->(∀ c,zy v c->k.next<=c)->n.length<=4000*els.length->n=fin->P90_11 true K v0 (.pointer (some ⟨bn,0,none⟩)) kk) :
  ∀ (m i:Nat),i+m=els.length->∀ kk v n,Own k kk->NM k kk bn v n->(∀ c,zy v c->k.next<=c)->n.length<=4000*i->zGx (Ls.drop i) n=fin->
   P90_3 true K v0 (.pointer (some ⟨bn,0,none⟩)) v0 (.int .i64 (els.length:Int)) (.int .i64 (i:Int)) kk:=by
 intro m
 induction m with
 | zero=>
  intro i hi kk v n ho hm hb hn hfin
  refine zOO ?_
  simp only [zY,zA,zAA]
  have:i=els.length:=by omega
  subst this
  exact ⟨fun h=>by omega,fun _=>hK kk v n ho hm hb hn (by rw [List.drop_eq_nil_of_le (by have:=a.len;omega)] at hfin;exact hfin)⟩
 | succ m ih=>
  intro i hi kk v n ho hm hb hn hfin
  have hin:i<els.length:=by omega
  refine zOO ?_
  simp only [zY,zA,zAA]
  refine ⟨fun _=>zcT ?_,fun h=>by omega⟩
  obtain ⟨L,b,o,c,vs,ty,es,ro,vl,ve,elsL,q0,q1,q2,q3,q4,q5,q6,q7,q8,q9,q10,q11⟩:=a.at hin
  have gb:kk.get b=some (.row vs ty es ro):=(ho.ext.get b q3).trans q2
  rw [hv0] at q1
  simp only [Value.slice.injEq] at q1
  obtain ⟨q11',_,_⟩:=q1
  subst q11'
  have hbox:=box25 (k:=kk) (e:=[.int .i64 L.n,vl,ve]) (by simp [zr];exact ⟨q6,q7⟩) rfl
  simp only [hv0,zbk hin,zA,za zEd gb q4,q5,z_25,zd,zL,zV,hbox]
  refine zcS ?_
  have hkn:=ho.ext.next
  have f1:Fx NoB kk ((kk.new (.row [.int .i64 0,.slice none 0 0,.slice none 0 0] 25 0 false)).upd kk.next (some (.row [.int .i64 L.n,vl,ve] 25 0 false))):=((Fx.refl ho.ext.ok).new _).upd (.inr (Nat.le_refl _)) _
  have t1:((kk.new (.row [.int .i64 0,.slice none 0 0,.slice none 0 0] 25 0 false)).upd kk.next (some (.row [.int .i64 L.n,vl,ve] 25 0 false))).get kk.next=some (.row [.int .i64 L.n,vl,ve] 25 0 false):=zR _ _ _
  generalize ((kk.new (.row [.int .i64 0,.slice none 0 0,.slice none 0 0] 25 0 false)).upd kk.next (some (.row [.int .i64 L.n,vl,ve] 25 0 false)))=k1 at f1 t1
  have l1:=zF (P:=E) zGI (o:=1) t1
  simp only [lnth] at l1
  obtain ⟨al,cl,hvl⟩:=q8.slice
  rw [RLab.length q9] at hvl
  subst hvl
  simp only [zBB,Nat.zero_add,l1,zA,zSK]
  obtain ⟨s1,s2,s3,s4⟩:=zDN q11
  have inner:∀ (m2 j:Nat),j+m2=L.labs.length->∀ kk v n,Own k kk->NM k kk bn v n->(∀ c,zy v c->k.next<=c)->n.length<=4000*i+j->zGx (Ls.drop (i+1)) (zBZ n (L.labs.drop j)).2=fin->
    P90_6 true K (.slice (some ⟨b,o,none⟩) els.length cp) (.pointer (some ⟨bn,0,none⟩)) (.slice (some ⟨b,o,none⟩) els.length cp) (.int .i64 (els.length:Int)) (.int .i64 (i:Int)) (.slice al L.labs.length cl) (.int .i64 (L.labs.length:Int)) (.int .i64 (j:Int)) kk:=by
   intro m2
   induction m2 with
   | zero=>
    intro j hj kk v n ho hm hb hn hfin2
    refine zON ?_
    simp only [zY,zA,zAA]
    refine ⟨fun h=>by omega,fun _=>zUc ?_⟩
    simp only [zAM _ (zD7 hin (by have:=a.few;omega)),zA]
    have:=ih (i+1) (by omega) kk v n ho hm hb (by omega) (by rw [List.drop_eq_nil_of_le (show L.labs.length<=j by omega)] at hfin2;exact hfin2)
    rw [hv0] at this
    simpa using this
   | succ m2 ih2=>
    intro j hj kk v n ho hm hb hn hfin2
    have hjn:j<L.labs.length:=by omega
    have hjn2:j<elsL.length:=by rw [RLab.length q9];exact hjn
    refine zON ?_
    simp only [zY,zA,zAA]
    refine ⟨fun _=>zcR ?_,fun h=>by omega⟩
    obtain ⟨g,vt,lt,hel,hrt,hat⟩:=RLab.at q9 j _ (List.getElem?_eq_getElem hjn2)
    obtain ⟨b',o',c',vs',ty',es',ro',hv',hb',hlt',hle',hz',hzl'⟩:=q8.load (List.getElem?_eq_getElem hjn2)
    rw [hel] at hz'
    simp only [Value.slice.injEq] at hv'
    obtain ⟨hv1,_,_⟩:=hv'
    subst hv1
    have gb':kk.get b'=some (.row vs' ty' es' ro'):=(ho.ext.get b' hlt').trans hb'
    simp only [zMa hjn,zA,za zEO gb' hle',hz',z_36,zd,zL,zV]
    have hbx:=box36 (k:=kk) (g:=g) (zDS hrt)
    simp only [hbx,zL]
    refine zcQ ?_
    have hkn:=ho.ext.next
    have f2:Fx NoB kk ((kk.new (.row [.int .i64 0,.slice none 0 0] 36 0 false)).upd kk.next (some (.row [.int .i64 g,vt] 36 0 false))):=((Fx.refl ho.ext.ok).new _).upd (.inr (Nat.le_refl _)) _
    have t2:((kk.new (.row [.int .i64 0,.slice none 0 0] 36 0 false)).upd kk.next (some (.row [.int .i64 g,vt] 36 0 false))).get kk.next=some (.row [.int .i64 g,vt] 36 0 false):=zR _ _ _
    generalize ((kk.new (.row [.int .i64 0,.slice none 0 0] 36 0 false)).upd kk.next (some (.row [.int .i64 g,vt] 36 0 false)))=k2 at f2 t2
    have ca:=za (P:=E) zEO (o:=0) t2 (by simp)
    simp only [List.drop_zero,List.take] at ca
    have o2:=f2.own ho (fun _ h=>h.elim)
    have hm2:=hm.fx f2 (fun h=>h) (fun _ _ h=>h)
    simp only [ca,zA,zS]
    refine (zTR (h0:=k) (k:=k2) (g:=g) o2.ext hbn hb hm2 (by have:=a.few;omega) hrt).mono fun x hx=>?_
    obtain ⟨r,v',n',_,hnum,_,hs⟩:=hx
    refine zcP ?_
    simp only [zAM _ (zD7 hjn (by omega)),zA]
    have:=ih2 (j+1) (by omega) x.2 v' n' (hs.fx.own o2 (fun c hc=>hc.elim (fun h=>by rw [h];exact hbn) (hb c))) hs.nm (fun c hc=>(hs.blk c hc).elim (hb c) fun h=>by have:=o2.ext.next;omega) (by have:=hs.n;omega) (by rw [zFw hat] at hfin2;have h2:=congrArg Prod.snd hnum;simp only at h2;rw [h2];exact hfin2)
    simpa using this
  exact inner L.labs.length 0 (by omega) k1 v n (f1.own ho (fun _ h=>h.elim)) (hm.fx f1 (fun h=>h) (fun _ _ h=>h)) hb (by omega) (by rw [zFw q0] at hfin;exact hfin)
structure Elt (t e:TypeId) (z:Nat):Prop where
 el:zDc E t=some e
 un:und E t=some (.slice e)
 ti:∃ i,zCN E e=some i/\i.size=z/\zE1 i=true
theorem zIU {t e:TypeId} {z:Nat} {b:Bool} (h1:zDc E t=some e) (h2:und E t=some (.slice e)) (h3:tAS E e=some (b,z)) (h4:(match zCN E e with|some i=>zE1 i|none=>false)=true):Elt t e z:=by
 refine ⟨h1,h2,?_⟩
 cases ht:zCN E e with
 | none=>unfold tAS at h3;rw [ht] at h3;cases h3
 | some i=>
  refine ⟨i,rfl,?_,?_⟩
  ·unfold tAS at h3;rw [ht] at h3;simp at h3;exact h3.2
  ·rw [ht] at h4;exact h4
theorem elt132:Elt 132 134 2:=zIU elt_132 zRU zHu (by kernel_rfl)
theorem elt126:Elt 126 128 1:=zIU elt_126 zRV zDD (by kernel_rfl)
theorem append_nil {t e z:Nat} (H:Elt t e z) {h:AH} {c:Nat} {us:List Value} {ty es:Nat} {ro:Bool} (hc:h.get c=some (.row us ty es ro)) (hl:us.length=z) :
  zAD E .append [t,t] (some [.slice none 0 0,.slice (some ⟨c,0,none⟩) 1 1]) h=one (.slice (some ⟨h.next,0,none⟩) 1 (UNK+z),h.new (.row us e z false)):=by
 obtain ⟨ti,e1,e2,e3⟩:=H.ti
 show v2 (zAy E [t,t] (.slice none 0 0) (.slice (some ⟨c,0,none⟩) 1 1) h)=_
 simp only [zAy,H.el,H.un,zFF,cond_false,e1,zCE,zBC,hc,e2,Nat.one_mul,zAq,zAr,zAN,List.drop_zero]
 rw [List.take_of_length_le (by omega),hl,Nat.beq_refl]
 simp only [if_true,e3,cond_true,zB7,show Nat.beq 1 0=false from rfl,cond_false,zAw,v2]
 rfl
theorem zBz {t e z:Nat} (H:Elt t e z) (hz:0<z) {h:AH} {b c n:Nat} {vs us:List Value} {ty es:Nat} {ro:Bool} (hb:h.get b=some (.row vs e z false)) (hvs:vs.length=n*z) (hn:n+1<=1000000)
  (hc:h.get c=some (.row us ty es ro)) (hl:us.length=z) (hlf:us.all zr=true) :
  zAD E .append [t,t] (some [.slice (some ⟨b,0,none⟩) n (UNK+z),.slice (some ⟨c,0,none⟩) 1 1]) h=one (.slice (some ⟨h.next,0,none⟩) (n+1) (UNK+z),(h.upd b none).new (.row (vs++us) e z false)):=by
 obtain ⟨ti,e1,e2,e3⟩:=H.ti
 show v2 (zAy E [t,t] (.slice (some ⟨b,0,none⟩) n (UNK+z)) (.slice (some ⟨c,0,none⟩) 1 1) h)=_
 simp only [zAy,H.el,H.un,zFF,cond_false,e1,zCE,zBC,hc,e2,Nat.one_mul,zAq,zAr,zAN,List.drop_zero]
 rw [List.take_of_length_le (by omega),hl,Nat.beq_refl]
 simp only [if_true,e3,cond_true,zB7,show Nat.beq 1 0=false from rfl,cond_false,hb]
 have h1:Nat.ble UNK (UNK+z)=true:=ble_true.2 (by omega)
 simp only [zCo,h1,Nat.beq_refl,Bool.and_self,Bool.not_false,cond_true,zD3,Nat.zero_add,zAN]
 have h2:Nat.ble ((n+1)*z) vs.length=false:=ble_false.2 (by rw [hvs,Nat.add_mul];omega)
 have h3:Nat.beq (n*z) vs.length=true:=by rw [hvs];exact Nat.beq_refl _
 simp only [h2,cond_false,h3,cond_true,zEL,hlf,zAq,zAr,List.drop_zero]
 rw [List.take_of_length_le (by omega)]
 simp only [zAw,ble_true.2 hn,cond_true,v2]
 rfl
theorem zJD (l:List Value) (j:Nat) (v:Value) (h:j<l.length):lput l j [v]=l.set j v:=by
 induction l generalizing j with
 | nil=>simp at h
 | cons a l ih=>
  cases j with
  | zero=>simp [lput]
  | succ j=>simp only [lput,List.set_cons_succ];rw [ih j (by simpa using h)]
def okNum (labs:List (Int×List GT)) (nums:List Int) (j:Nat):Prop:=∀ g l,labs[j]?=some (g,l)->∃ r,nums[j]?=some r/\0<=r/\(g=-1->r=0)/\(g≠-1->1<=r)
abbrev ints (l:List Int):List Value:=l.map (Value.int .i64)
theorem zbg (l:List Int) (j:Nat) (r:Int):(ints l).set j (.int .i64 r)=ints (l.set j r):=by
 simp [ints,List.map_set]
theorem take_set {α:Type}:∀ {l:List α} {j:Nat} {r:α},j<l.length->(l.set j r).take (j+1)=l.take j++[r]
 | [],_,_,h=>by simp at h
 | a::l,0,r,_=>by simp
 | a::l,j+1,r,h=>by
  simp only [List.set_cons_succ,List.take_succ_cons,List.cons_append]
  rw [take_set (by simpa using h)]
theorem graphs2 {k:AH} {bn:Nat} (hbn:k.next<=bn) {K:KF} {vl:Value} {labs:List (Int×List GT)} {elsL:List (List Value)} {al:Option Addr} {cl:Nat} (hvl:vl=.slice al labs.length cl) (ha:Arr k 2 vl elsL) (hL:RLab k elsL labs)
  (hsmall:labs.length<=4000) {v8 v10 v11 v34 v35 v36:Value} {bm base:Nat} (hbm:k.next<=bm) (hbase:base<=90000)
  {k0:AH} {w0:Value} (hk0:k.next<=k0.next) {N1:List Int} {cs1:List CL}
  (hK:∀ kk v n nums,Own k kk->NM k kk bn v n->(∀ c,zy v c->k.next<=c)->n.length<=base+labs.length->n=cs1->nums=N1->Fx (fun c=>(c=bn\/zy w0 c)\/c=bm) k0 kk->(∀ c,zy v c->zy w0 c\/k0.next<=c)->bm≠bn->¬ zy v bm->
   kk.get bm=some (.row (ints nums) 3 0 false)->nums.length=labs.length->(∀ j,j<labs.length->okNum labs nums j)->P90_22 true K (.pointer (some ⟨bn,0,none⟩)) v8 v10 v11 (.slice (some ⟨bm,0,none⟩) labs.length labs.length) v34 v35 v36 kk) :
  ∀ (m j:Nat),j+m=labs.length->∀ kk v n nums,Own k kk->NM k kk bn v n->(∀ c,zy v c->k.next<=c)->n.length<=base+j->(zBZ n (labs.drop j)).2=cs1->nums.take j++(zBZ n (labs.drop j)).1=N1->Fx (fun c=>(c=bn\/zy w0 c)\/c=bm) k0 kk->(∀ c,zy v c->zy w0 c\/k0.next<=c)->bm≠bn->¬ zy v bm->bm<kk.next->
   kk.get bm=some (.row (ints nums) 3 0 false)->nums.length=labs.length->(∀ i,i<j->okNum labs nums i)->
   P90_18 true K (.pointer (some ⟨bn,0,none⟩)) v8 v10 v11 (.slice (some ⟨bm,0,none⟩) labs.length labs.length) v34 v35 v36 vl (.int .i64 (labs.length:Int)) (.int .i64 (j:Int)) kk:=by
 intro m
 induction m with
 | zero=>
  intro j hj kk v n nums ho hm hb hn hcs hN1 hf hbl hne hnb hlt hrow hlen hok
  refine zKz ?_
  simp only [zY,zA,zAA]
  have:j=labs.length:=by omega
  subst this
  exact ⟨fun h=>by omega,fun _=>hK kk v n nums ho hm hb hn (by rw [List.drop_length] at hcs;exact hcs) (by rw [List.drop_length,List.take_of_length_le (by omega)] at hN1;simpa [zBZ] using hN1) hf hbl hne hnb hrow hlen hok⟩
 | succ m ih=>
  intro j hj kk v n nums ho hm hb hn hcs hN1 hf hbl hne hnb hlt hrow hlen hok
  have hjn:j<labs.length:=by omega
  have hjn2:j<elsL.length:=by rw [RLab.length hL];exact hjn
  refine zKz ?_
  simp only [zY,zA,zAA]
  refine ⟨fun _=>zUV ?_,fun h=>by omega⟩
  obtain ⟨g,vt,lt,hel,hrt,hat⟩:=RLab.at hL j _ (List.getElem?_eq_getElem hjn2)
  obtain ⟨b',o',c',vs',ty',es',ro',hv',hb',hlt',hle',hz',hzl'⟩:=ha.load (List.getElem?_eq_getElem hjn2)
  rw [hel] at hz'
  rw [hvl] at hv'
  simp only [Value.slice.injEq] at hv'
  obtain ⟨hv1,_,_⟩:=hv'
  subst hv1
  have gb':kk.get b'=some (.row vs' ty' es' ro'):=(ho.ext.get b' hlt').trans hb'
  have hbx:=box36 (k:=kk) (g:=g) (zDS hrt)
  simp only [hvl,zMa hjn,zA,za zEO gb' hle',hz',z_36,zd,zL,zV,hbx]
  refine zUU ?_
  have hkn:=ho.ext.next
  have f2:Fx NoB kk ((kk.new (.row [.int .i64 0,.slice none 0 0] 36 0 false)).upd kk.next (some (.row [.int .i64 g,vt] 36 0 false))):=((Fx.refl ho.ext.ok).new _).upd (.inr (Nat.le_refl _)) _
  have t2:((kk.new (.row [.int .i64 0,.slice none 0 0] 36 0 false)).upd kk.next (some (.row [.int .i64 g,vt] 36 0 false))).get kk.next=some (.row [.int .i64 g,vt] 36 0 false):=zR _ _ _
  generalize ((kk.new (.row [.int .i64 0,.slice none 0 0] 36 0 false)).upd kk.next (some (.row [.int .i64 g,vt] 36 0 false)))=k2 at f2 t2
  have ca:=za (P:=E) zEO (o:=0) t2 (by simp)
  simp only [List.drop_zero,List.take] at ca
  have o2:=f2.own ho (fun _ h=>h.elim)
  have hm2:=hm.fx f2 (fun h=>h) (fun _ _ h=>h)
  simp only [zA,ca,zS]
  refine (zTR (h0:=k) (k:=k2) (g:=g) o2.ext hbn hb hm2 (by omega) hrt).mono fun x hx=>?_
  obtain ⟨r,v',n',hx1,hnum,hr,hs⟩:=hx
  have hnu1:(zLo n (g,lt)).1=r:=(congrArg Prod.fst hnum).symm
  have hnu2:(zLo n (g,lt)).2=n':=(congrArg Prod.snd hnum).symm
  rw [zFw hat] at hcs hN1
  simp only [zBZ,hnu1,hnu2] at hcs hN1
  rw [hx1]
  have o3:=hs.fx.own o2 (fun c hc=>hc.elim (fun h=>by rw [h];exact hbn) (hb c))
  have hrow3:x.2.get bm=some (.row (ints nums) 3 0 false):=by
   rw [hs.get bm (Nat.lt_of_lt_of_le hlt f2.next) hne hnb,f2.get bm hlt (fun h=>h)];exact hrow
  have hlt3:bm<x.2.next:=Nat.lt_of_lt_of_le (Nat.lt_of_lt_of_le hlt f2.next) hs.next
  have hjn3:j<nums.length:=by omega
  have hsto:=zw (P:=E) ts_3 (o:=0+j*1) hrow3 (zCl .i64 r) rfl (by simp [ints];omega) rfl
  rw [show 0+j*1=j by omega,zJD _ _ _ (by simp [ints];omega),zbg] at hsto
  have hia:=zPf (b:=bm) (o:=0) (c:=labs.length) hjn
  rw [show 0+j*1=j by omega] at hia
  simp only [hia,zA,hsto,zL]
  refine zUT ?_
  have hnb':¬ zy v' bm:=fun h=>(hs.blk bm h).elim hnb fun h=>by have:=f2.next;omega
  have f4:Fx (fun c=>c=bm) x.2 (x.2.upd bm (some (.row (ints (nums.set j r)) 3 0 false))):=Fx.upd (P:=fun c=>c=bm) (Fx.refl hs.ok) (.inl rfl) _
  have hm4:=hs.nm.fx f4 (fun h=>hne h.symm) (fun c hc h=>hnb' (h ▸ hc))
  simp only [zAM _ (zD7 hjn (by omega)),zA]
  have hbl':∀ c,zy v' c->zy w0 c\/k0.next<=c:=fun c hc=>(hs.blk c hc).elim (hbl c) fun h=>.inr (by have:=f2.next;have:=hf.next;omega)
  have hff:Fx (fun c=>(c=bn\/zy w0 c)\/c=bm) k0 (x.2.upd bm (some (.row (ints (nums.set j r)) 3 0 false))):=by
   have e1:=hf.trans f2 (fun _ h=>h.elim)
   have e2:=e1.trans hs.fx (fun c hc=>hc.elim (fun h=>.inl (.inl (.inl h))) fun h=>(hbl c h).elim (fun h=>.inl (.inl (.inr h))) .inr)
   exact e2.trans f4 (fun c h=>.inl (.inr h))
  have:=ih (j+1) (by omega) _ v' n' (nums.set j r) (f4.own o3 (fun c h=>by rw [h];exact hbm)) hm4
   (fun c hc=>(hs.blk c hc).elim (hb c) fun h=>by have:=o2.ext.next;omega) (by have:=hs.n;omega) hcs (by rw [take_set hjn3,List.append_assoc];exact hN1) hff hbl' hne hnb' (by simpa using hlt3) (zR _ _ _) (by simp [hlen]) (fun i hi g' l' hgl=>by
    by_cases hij:i=j
    ·subst hij
     rw [hat] at hgl
     simp only [Option.some.injEq,Prod.mk.injEq] at hgl
     obtain ⟨rfl,rfl⟩:=hgl
     refine ⟨r,by simp [hjn3],?_⟩
     by_cases hg:g=-1
     ·rw [if_pos hg] at hr;exact ⟨by omega,fun _=>hr,fun h=>absurd hg h⟩
     ·rw [if_neg hg] at hr;exact ⟨by omega,fun h=>absurd h hg,fun _=>hr.1⟩
    ·obtain ⟨r',a1,a2⟩:=hok i (by omega) g' l' hgl
     exact ⟨r',by rw [List.getElem?_set_ne (by omega)];exact a1,a2⟩)
  rw [hvl] at this
  simpa using this
end Go.Proofs
namespace Go.Proofs
open Go Go.RowKit Go.Lib
theorem zBk {P:Program} (w:World) (dT sT ty elem:TypeId) (z:Nat) (b o dLen dCap:Nat) (a:Addr) (sLen sCap:Nat) (cs:List Value)
  (hu:P.underlying dT=some (.slice elem)) (hs:(P.info? elem).map (·.size)=some z) (hn:cs.length=Nat.min sLen dLen*z)
  (hsrc:∀ j v,cs[j]?=some v->w.cell? (a.add j)=some v) (hc:∀ j,j<cs.length->(w.cell? ⟨b,o+j,none⟩).isSome=true) (hf:∀ j,j<cs.length->w.frozen? ⟨b,o+j,none⟩=false) (h1:∀ v∈cs,v.oneCell'=true) :
  (Builtin.copy_ #[dT,sT] ty #[.slice (some ⟨b,o,none⟩) dLen dCap,.slice (some a) sLen sCap]).run P w=.ok (goInt (Nat.min sLen dLen)) (w.setCells b o cs):=by
 have hl:=run_loadCells_list (P:=P) w a cs hsrc
 have hst:=run_storeCells_cells (P:=P) b o cs 0 w (by simpa using hc) (by simpa using hf) h1
 cases hq:P.info? elem with
 | none=>simp [hq] at hs
 | some i=>
  have hi:i.size=z:=by simpa [hq] using hs
  simp [Builtin.copy_,run_underlying hu,Builtin.lenOf,Builtin.firstCells,sizeOf,typeInfo,hq,hi,← hn,hl,hst]
theorem zJu (w:World) {P:Program} {o:Oper} {a:Act} {K:Act->World->Prop} {Q:Exit->Act->World->Prop} (d s:Operand) (t t':TypeId)
  (ho:o.op=.call { callee:=.builtin .copy,args:=#[d,s],argTypes:=#[t,t'] }) (v u:Value) (hd:a.eval d=v) (hs:a.eval s=u) {v':Value} {w':World}
  (hr:(Builtin.copy_ #[t,t'] o.type #[v,u]).run P w=.ok v' w') (h:K (a.put o.dst v') w'):o.wp P a w K Q:=by
 unfold Oper.wp execOp
 simp only [ho,resolve,invoke,builtin,Sem.run_bind,Sem.run_pure,Result.andThen_ok,List.map_toArray,List.map_cons,List.map_nil,hd,hs,hr]
 exact h
theorem zCG (w:World) {P:Program} {ops:Array Oper} {rest:List Oper} {o:Oper} {a:Act} {Q:Exit->Act->World->Prop} (hgd:o.guard=none) (d s:Operand) (t t':TypeId)
  (ho:o.op=.call { callee:=.builtin .copy,args:=#[d,s],argTypes:=#[t,t'] }) (v u:Value) (hd:a.eval d=v) (hs:a.eval s=u) {v':Value} {w':World}
  (hr:(Builtin.copy_ #[t,t'] o.type #[v,u]).run P w=.ok v' w') (h:wpList P ops Q rest (a.put o.dst v') w'):wpList P ops Q (o::rest) a w:=
 wpList_plain hgd fun _ hK=>zJu w d s t t' ho v u hd hs hr (hK _ _ h)
theorem zEU {P:Program} {ops:Array Oper} {o:Oper} {a:Act} {w:World} {K:Act->World->Prop} {Q:Exit->Act->World->Prop} {E:Prop}
  (hg:o.guard=none) (d x:Operand) (dT sT:TypeId) (hop:o.op=Op.call { callee:=Callee.builtin Builtin.copy,args:=#[d,x],argTypes:=#[dT,sT] })
  (v u:Value) (hd:a.eval d=v) (hx:a.eval x=u) {v':Value} {w':World} (hr:(Builtin.copy_ #[dT,sT] o.type #[v,u]).run P w=.ok v' w') (hK:K (a.put o.dst v') w') :
  if Region.wanted o (yielded ops a.tmps)=true then Oper.wp P o a w K Q else E:=by
 have hw:Region.wanted o (yielded ops a.tmps)=true:=by simp [Region.wanted,hg]
 rw [if_pos hw]
 unfold Oper.wp
 simp [execOp,hop,resolve,invoke,builtin,hd,hx,hr,Result.andThen]
 exact hK
theorem zDx (b:Nat) (vs:List Value) (o:Nat) (w:World) (h:∀ j,j<vs.length->(w.cell? ⟨b,o+j,none⟩).isSome=true) (k:Nat) (hk:(w.cell? ⟨b,k,none⟩).isSome=true):((w.setCells b o vs).cell? ⟨b,k,none⟩).isSome=true:=by
 by_cases hin:o<=k/\k<o+vs.length
 ·have:=World.cell?_setCells_in b vs o w h (k-o) (by omega)
  rw [show o+(k-o)=k by omega] at this
  rw [this];rfl
 ·rw [World.cell?_setCells_out b vs o w ⟨b,k,none⟩ (fun _ _=>by show k<o\/o+vs.length<=k;omega)]
  exact hk
theorem t22u:Tryz.prog.underlying 22=some (.slice 36):=by kernel_rfl
theorem i36a:(Tryz.prog.info? 36).map (fun i=>(i.zero,i.size,i.bytes))=some (some (.agg #[.int .i64 0,.slice none 0 0]),2,32):=by kernel_rfl
theorem t3u:Tryz.prog.underlying 3=some (.int .i64):=by kernel_rfl
theorem i36s:(Tryz.prog.info? 36).map (·.size)=some 2:=by kernel_rfl
theorem z36s:∀ w,(Go.sizeOf 36).run Tryz.prog w=.ok 2 w:=fun w=>by kernel_rfl
set_option maxHeartbeats 4000000 in
set_option maxRecDepth 100000 in
theorem zSg (b off n c i vb voff vc:Nat) (cs vs:List Value) (w:World) (hi:i<n) (hroom:n+1<=c) (hn5:n<=100000) (hvb:vb≠b)
  (hcl:cs.length=n*2) (hvl:vs.length=2)
  (hcs:∀ j v,cs[j]?=some v->w.cell? ⟨b,off+j,none⟩=some v) (hsp:∀ j,j<(n+1)*2->(w.cell? ⟨b,off+j,none⟩).isSome=true) (hfz:∀ j,j<(n+1)*2->w.frozen? ⟨b,off+j,none⟩=false)
  (hvs:∀ j v,vs[j]?=some v->w.cell? ⟨vb,voff+j,none⟩=some v) (h1c:∀ v∈cs,v.oneCell'=true) (h1v:∀ v∈vs,v.oneCell'=true)
  (tA tB:TypeId) (kA kB:Nat) (hsa:w.shape? vb=some (tA,kA)) (hsb:w.shape? b=some (tB,kB)) (hkB:kB≠0) (hfa:w.frozen? ⟨vb,voff,none⟩=false) (hfe:w.frozen? ⟨vb,kA,none⟩=false) :
  Calls Tryz.prog 191 #[.slice (some ⟨b,off,none⟩) n c,.int .i64 i,.slice (some ⟨vb,voff,none⟩) 1 vc] w fun e w'=>
   e=.returned (.slice (some ⟨b,off,none⟩) (n+1) c)/\w'=(w.drew.setCells b (off+(i+1)*2) (cs.drop (i*2))).setCells b (off+i*2) vs:=by
 have mixed:=Tryz.mixed
 have hz2:¬ ((i:Int)=(n:Int)):=by omega
 have hov:∀ lb cb,(callFunc 233 #[.slice (some ⟨vb,voff,none⟩) 1 vc,.slice (some ⟨b,off+(i+1)*2,none⟩) lb cb]).run Tryz.prog w=.ok (.value (.bool false)) w:=fun lb cb=>by
  rw [run_callFunc_extern Tryz.func233 (by kernel_rfl) (by kernel_rfl) (by kernel_rfl) (e:=Extern.SlicesOverlaps.overlaps #[22,22] #[4]) (by kernel_rfl),
   Lib.run_overlaps_apart w 22 4 36 t22u 2 z36s ⟨vb,voff,none⟩ ⟨b,off+(i+1)*2,none⟩ 1 vc lb cb hvb tA tB kA kB hsa hsb hkB hfa hfe]
  rfl
 have hdl:(cs.drop (i*2)).length=(n-i)*2:=by rw [List.length_drop,hcl];omega
 have hw1:IntKind.i64.wrap ((i:Int)+1)=(i:Int)+1:=by rw [IntKind.wrap_i64];omega
 have hb1:(0:Int)<=(i:Int)+1:=by omega
 have hin:i<=n:=by omega
 have htn:((i:Int)+1).toNat=i+1:=by omega
 have hb2:¬ (c=i+1):=by omega
 have hb3:(i:Int)<=(n:Int)+1:=by omega
 have hb4:¬ (c=i):=by omega
 have hcp1:∀ ty dc sc,(Builtin.copy_ #[22,22] ty #[.slice (some ⟨b,off+(i+1)*2,none⟩) (n-i) dc,.slice (some ⟨b,off+i*2,none⟩) (n+1-i) sc]).run Tryz.prog w.drew=.ok (goInt (Nat.min (n+1-i) (n-i))) (w.drew.setCells b (off+(i+1)*2) (cs.drop (i*2))):=fun ty dc sc=>
  zBk w.drew _ _ ty 36 2 b (off+(i+1)*2) (n-i) dc ⟨b,off+i*2,none⟩ (n+1-i) sc (cs.drop (i*2)) t22u i36s (by rw [hdl];simp only [Nat.min_def];split <;> omega)
   (fun j v hj=>by rw [Addr.add_lit,Nat.add_assoc];exact hcs (i*2+j) v (by rwa [List.getElem?_drop] at hj))
   (fun j hj=>by rw [Nat.add_assoc];exact hsp _ (by omega)) (fun j hj=>by rw [Nat.add_assoc];exact hfz _ (by omega)) (fun v hv=>h1c v (List.mem_of_mem_drop hv))
 obtain ⟨W1,hW1⟩:∃ W1,W1=w.drew.setCells b (off+(i+1)*2) (cs.drop (i*2)):=⟨_,rfl⟩
 have hsp1:∀ k,k<(n+1)*2->(W1.cell? ⟨b,off+k,none⟩).isSome=true:=fun k hk=>by
  rw [hW1]
  exact zDx b _ _ _ (fun j hj=>by rw [Nat.add_assoc];exact hsp _ (by omega)) _ (hsp k hk)
 have hcp2:∀ (W:World),(∀ x,W.cell? x=W1.cell? x)->(∀ x,W.frozen? x=W1.frozen? x)->∀ ty dc,(Builtin.copy_ #[22,22] ty #[.slice (some ⟨b,off+i*2,none⟩) (n+1-i) dc,.slice (some ⟨vb,voff,none⟩) 1 vc]).run Tryz.prog W=.ok (goInt (Nat.min 1 (n+1-i))) (W.setCells b (off+i*2) vs):=fun W hWc hWf ty dc=>
  zBk W _ _ ty 36 2 b (off+i*2) (n+1-i) dc ⟨vb,voff,none⟩ 1 vc vs t22u i36s (by rw [hvl];simp only [Nat.min_def];split <;> omega)
   (fun j v hj=>by
    rw [Addr.add_lit,hWc,hW1,World.cell?_setCells_out b _ _ _ _ (fun h _=>absurd h hvb)]
    exact hvs j v hj)
   (fun j hj=>by rw [hWc,Nat.add_assoc];exact hsp1 _ (by omega)) (fun j hj=>by rw [hWf,hW1,World.frozen?_setCells,Nat.add_assoc];exact hfz _ (by omega)) h1v
 rw [← hW1] at hcp1
 go_enter Tryz.func191,Tryz.ntmps191
 go_wp2_with (simp only [hov])
 go_region_law_o (refine zEU rfl _ _ 22 22 rfl _ _ (by simp [Act.eval,Act.put]) (by simp [Act.eval,Act.put]) (hcp1 _ _ _) ?_)
 go_wp2_with (at_builtin;refine zCG _ rfl _ _ 22 22 rfl _ _ rfl rfl (hcp2 _ (fun _=>rfl) (fun _=>rfl) _ _) ?_)
 go_ret
 first|exact ⟨rfl,rfl⟩|exact ⟨rfl,by rw [hW1]⟩
set_option maxHeartbeats 4000000 in
set_option maxRecDepth 100000 in
theorem ins_end (b off n c vb voff vc:Nat) (w:World) {v':Value} {w':World} (hnc:n<=c) (hn5:n<=100000)
  (hr:(Builtin.append_ #[22,22] 22 #[.slice (some ⟨b,off,none⟩) n c,.slice (some ⟨vb,voff,none⟩) 1 vc]).run Tryz.prog w=.ok v' w') :
  Calls Tryz.prog 191 #[.slice (some ⟨b,off,none⟩) n c,.int .i64 n,.slice (some ⟨vb,voff,none⟩) 1 vc] w fun e w''=>e=.returned v'/\w''=w':=by
 have mixed:=Tryz.mixed
 go_enter Tryz.func191,Tryz.ntmps191
 go_wp2_with (at_builtin;refine Lib.wpList_append_run _ rfl _ _ _ _ rfl _ _ rfl rfl _ _ hr ?_)
 all_goals (go_ret;exact ⟨rfl,rfl⟩)
set_option maxHeartbeats 4000000 in
set_option maxRecDepth 100000 in
theorem zbi (b off n c i vb voff vc:Nat) (cs vs:List Value) (w:World) (hi:i<n) (hnc:n<=c) (hroom:c<n+1) (hbig:(n+1)*64<=140737488355328)
  (hcl:cs.length=n*2) (hvl:vs.length=2)
  (hcs:∀ j v,cs[j]?=some v->w.cell? ⟨b,off+j,none⟩=some v)
  (hvs:∀ j v,vs[j]?=some v->w.cell? ⟨vb,voff+j,none⟩=some v) (h1c:∀ v∈cs,v.oneCell'=true) (h1v:∀ v∈vs,v.oneCell'=true) :
  ∃ (G:Nat) (zs:List Value),n+1<=G/\zs.length=(G-i)*2 ∧
  Calls Tryz.prog 191 #[.slice (some ⟨b,off,none⟩) n c,.int .i64 i,.slice (some ⟨vb,voff,none⟩) 1 vc] w fun e w'=>
   e=.returned (.slice (some ⟨w.heap.size,0,none⟩) (n+1) G) ∧
   w'=(((w.alloc (.cells (cs.take (i*2)++zs).toArray 36)).drew.setCells w.heap.size (i*2) vs).drew).setCells w.heap.size ((i+1)*2) (cs.drop (i*2)):=by
 have mixed:=Tryz.mixed
 obtain ⟨i0,hi0,hz0,hzs,hzb⟩:=info_parts i36a
 have hz2:¬ ((i:Int)=(n:Int)):=by omega
 have hz3:(c:Int)<(n:Int)+1:=by omega
 have hbw:b<w.heap.size:=block_lt_of_cell (hcs 0 _ (List.getElem?_eq_getElem (by omega)))
 have hvw:vb<w.heap.size:=block_lt_of_cell (hvs 0 _ (List.getElem?_eq_getElem (by omega)))
 have hkk:(n:Int)+1-(i:Int)=((n+1-i:Nat):Int):=by omega
 have hik:i+(n+1-i)=n+1:=by omega
 have hold:(Builtin.firstCells i0.size i (.slice (some ⟨b,off,none⟩) i c)).run Tryz.prog w.drew=.ok (cs.take (i*2)).toArray w.drew:=by
  rw [hzs]
  exact run_firstCells_some w.drew 2 i ⟨b,off,none⟩ i c (cs.take (i*2)) (by rw [List.length_take];omega) (fun j v hj=>by
   rw [Addr.add_lit]
   rw [List.getElem?_take] at hj
   split at hj
   ·exact hcs j v hj
   ·cases hj)
 obtain ⟨G,hG⟩:∃ G,G=grownCap w (n+1) c 36:=⟨_,rfl⟩
 obtain ⟨zs,hzs'⟩:∃ zs:List Value,zs.toArray=Builtin.zeroCells (Value.agg #[.int .i64 0,.slice none 0 0]).cells (n+1-i)++Builtin.zeroCells (Value.agg #[.int .i64 0,.slice none 0 0]).cells (G-(n+1)):=⟨(Builtin.zeroCells (Value.agg #[.int .i64 0,.slice none 0 0]).cells (n+1-i)++Builtin.zeroCells (Value.agg #[.int .i64 0,.slice none 0 0]).cells (G-(n+1))).toList,by simp⟩
 have hGn:n+1<=G:=by rw [hG];exact grownCap_ge w _ _ _
 have hzl:zs.length=(G-i)*2:=by
  have:=congrArg Array.size hzs'
  simp [Builtin.zeroCells,Value.cells] at this
  omega
 have hrz:∀ ty,(Builtin.append_ #[22,3] ty #[.slice (some ⟨b,off,none⟩) i c,.int .i64 ((n:Int)+1-(i:Int))]).run Tryz.prog w =
   .ok (.slice (some ⟨w.heap.size,0,none⟩) (n+1) G) (w.drew.alloc (.cells (cs.take (i*2)++zs).toArray 36)):=fun ty=>by
  have h:=Lib.run_append_grow_zeros w 22 3 ty 36 i0 _ .i64 .i64 t22u t3u hi0 hz0 (some ⟨b,off,none⟩) i c (cs.take (i*2)) hold (n+1-i) (by omega) (by omega) (by omega) (by omega) (by rw [hzb];omega) (by rw [hzb,hik];exact growslice_fits hroom (by omega))
  rw [hik,← hG] at h
  rw [hkk,h,Array.append_assoc,← hzs']
  simp
 obtain ⟨ROW,hROW⟩:∃ ROW:Array Value,ROW=(cs.take (i*2)++zs).toArray:=⟨_,rfl⟩
 refine ⟨G,zs,hGn,hzl,?_⟩
 rw [← hROW] at hrz ⊢
 have hRl:(n+1)*2<=ROW.size:=by
  rw [hROW]
  simp
  omega
 obtain ⟨W1,hW1⟩:∃ W1,W1=w.drew.alloc (.cells ROW 36):=⟨_,rfl⟩
 rw [← hW1] at hrz
 have hN:∀ j,j<(n+1)*2->(W1.cell? ⟨w.heap.size,j,none⟩).isSome=true:=fun j hj=>by
  rw [hW1,World.cell?_alloc_at (w:=w.drew) ROW _ w.heap.size j rfl,Array.getElem?_eq_getElem (by omega)];rfl
 have hNf:∀ j,W1.frozen? ⟨w.heap.size,j,none⟩=false:=fun j=>by rw [hW1];exact World.frozen?_alloc_at (w:=w.drew) ROW _ w.heap.size j rfl
 have hOb:∀ j v,w.cell? ⟨b,j,none⟩=some v->W1.cell? ⟨b,j,none⟩=some v:=fun j v h=>by rw [hW1,World.cell?_alloc_past (w:=w.drew) _ b j hbw];exact h
 have hOv:∀ j v,w.cell? ⟨vb,j,none⟩=some v->W1.cell? ⟨vb,j,none⟩=some v:=fun j v h=>by rw [hW1,World.cell?_alloc_past (w:=w.drew) _ vb j hvw];exact h
 have hcpA:∀ (W:World),(∀ x,W.cell? x=W1.cell? x)->(∀ x,W.frozen? x=W1.frozen? x)->∀ ty dc,(Builtin.copy_ #[22,22] ty #[.slice (some ⟨w.heap.size,i*2,none⟩) (n+1-i) dc,.slice (some ⟨vb,voff,none⟩) 1 vc]).run Tryz.prog W=.ok (goInt (Nat.min 1 (n+1-i))) (W.setCells w.heap.size (i*2) vs):=fun W hWc hWf ty dc=>
  zBk W _ _ ty 36 2 w.heap.size (i*2) (n+1-i) dc ⟨vb,voff,none⟩ 1 vc vs t22u i36s (by rw [hvl];simp only [Nat.min_def];split <;> omega)
   (fun j v hj=>by rw [Addr.add_lit,hWc];exact hOv _ v (hvs j v hj))
   (fun j hj=>by rw [hWc];exact hN _ (by omega)) (fun j hj=>by rw [hWf];exact hNf _) h1v
 have hGi:¬ (G=i):=by omega
 have hGim:¬ (G=i+1):=by omega
 have hci:¬ (c=i):=by omega
 have hbN:b≠w.heap.size:=by omega
 have hdl:(cs.drop (i*2)).length=(n-i)*2:=by rw [List.length_drop,hcl];omega
 have hcpB:∀ (W:World),(∀ x,W.cell? x=(W1.setCells w.heap.size (i*2) vs).cell? x)->(∀ x,W.frozen? x=(W1.setCells w.heap.size (i*2) vs).frozen? x)->∀ ty dc sc,(Builtin.copy_ #[22,22] ty #[.slice (some ⟨w.heap.size,(i+1)*2,none⟩) (n-i) dc,.slice (some ⟨b,off+i*2,none⟩) (n-i) sc]).run Tryz.prog W=.ok (goInt (Nat.min (n-i) (n-i))) (W.setCells w.heap.size ((i+1)*2) (cs.drop (i*2))):=fun W hWc hWf ty dc sc=>
  zBk W _ _ ty 36 2 w.heap.size ((i+1)*2) (n-i) dc ⟨b,off+i*2,none⟩ (n-i) sc (cs.drop (i*2)) t22u i36s (by rw [hdl];simp only [Nat.min_def];split <;> omega)
   (fun j v hj=>by
    rw [Addr.add_lit,hWc,World.cell?_setCells_out _ _ _ _ _ (fun h _=>absurd h hbN),Nat.add_assoc]
    exact hOb _ v (hcs (i*2+j) v (by rwa [List.getElem?_drop] at hj)))
   (fun j hj=>by rw [hWc];exact zDx _ _ _ _ (fun t ht=>hN _ (by omega)) _ (hN _ (by omega)))
   (fun j hj=>by rw [hWf,World.frozen?_setCells];exact hNf _) (fun v hv=>h1c v (List.mem_of_mem_drop hv))
 subst hW1
 have hE1:∀ x,((w.alloc (.cells ROW 36)).drew).cell? x=(w.drew.alloc (.cells ROW 36)).cell? x:=fun x=>rfl
 have hE2:∀ x,((w.alloc (.cells ROW 36)).drew).frozen? x=(w.drew.alloc (.cells ROW 36)).frozen? x:=fun x=>rfl
 have hF1:∀ x,(((w.alloc (.cells ROW 36)).drew.setCells w.heap.size (i*2) vs).drew).cell? x=((w.drew.alloc (.cells ROW 36)).setCells w.heap.size (i*2) vs).cell? x:=fun x=>rfl
 have hF2:∀ x,(((w.alloc (.cells ROW 36)).drew.setCells w.heap.size (i*2) vs).drew).frozen? x=((w.drew.alloc (.cells ROW 36)).setCells w.heap.size (i*2) vs).frozen? x:=fun x=>rfl
 have hw1:IntKind.i64.wrap ((i:Int)+1)=(i:Int)+1:=by rw [IntKind.wrap_i64];omega
 have hb1:(0:Int)<=(i:Int)+1:=by omega
 have hin:i<=n:=by omega
 have htn:((i:Int)+1).toNat=i+1:=by omega
 have hb3:(i:Int)<=(n:Int):=by omega
 clear hkk hik hold hROW hG hRl hzs' hzl
 go_enter Tryz.func191,Tryz.ntmps191
 go_wp2_with (first
  | (at_builtin;refine Lib.wpList_append_run _ rfl _ _ _ _ rfl _ _ rfl rfl _ _ (hrz _) ?_)
  | (at_builtin;refine zCG _ rfl _ _ 22 22 rfl _ _ rfl rfl (hcpA _ hE1 hE2 _ _) ?_)
  | (at_builtin;refine zCG _ rfl _ _ 22 22 rfl _ _ rfl rfl (hcpB _ (fun _=>rfl) (fun _=>rfl) _ _ _) ?_))
 go_region_law_o (refine zEU rfl _ _ 22 22 rfl (.slice (some ⟨w.heap.size,(i+1)*2,none⟩) (n-i) (G-(i+1))) (.slice (some ⟨b,off+i*2,none⟩) (n-i) (c-i)) (by simp [Act.eval,Act.put]) (by simp [Act.eval,Act.put]) (hcpB _ hF1 hF2 3 (G-(i+1)) (c-i)) ?_)
 go_wp2
 go_ret
 exact ⟨rfl,rfl⟩
end Go.Proofs
namespace Go.Proofs
open Go Go.AM Go.RowKit
set_option maxRecDepth 100000
set_option maxHeartbeats 1000000
theorem zFR {w:World} {b:Nat} {cc:Array Value} {t:TypeId} {fr:Nat×Nat} (h:w.heap[b]?=some (.cells cc t fr)) (k:Nat):w.cell? ⟨b,k,none⟩=cc[k]?:=by
 unfold World.cell?
 simp only [h]
 rfl
theorem zDW {w:World} {b:Nat} {cc:Array Value} {t:TypeId} (h:w.heap[b]?=some (.cells cc t (0,0))) (k:Nat):w.frozen? ⟨b,k,none⟩=false:=by
 unfold World.frozen?
 simp only [h]
 simp
theorem zH0 {w:World} {b:Nat} {cc:Array Value} {t:TypeId} {fr:Nat×Nat} (h:w.heap[b]?=some (.cells cc t fr)):w.shape? b=some (t,cc.size):=by
 unfold World.shape?
 simp only [h]
theorem zCt {w:World} {b o:Nat} {cc:Array Value} {t:TypeId} {us:List Value} (h:w.heap[b]?=some (.cells cc t (0,0))) (hl:o+us.length<=cc.size) (h1:∀ v∈us,v.oneCell'=true) :
  w.setCells b o us=World.put w b (.cells (cc.toList.take o++us++cc.toList.drop (o+us.length)).toArray t (0,0)):=by
 have e1:=run_storeCells_cells (P:=Tryz.prog) b o us 0 w (fun j hj=>by
  rw [zFR h,Array.getElem?_eq_getElem (by omega)];rfl) (fun j hj=>zDW h _) h1
 have e2:=run_storeCells_at (P:=Tryz.prog) b o t us 0 cc w h (by omega) h1
 rw [e1] at e2
 simp only [Nat.add_zero] at e2
 have e3:=(Result.ok.inj e2).2
 rw [e3,zFc h]
theorem zJ9 {σ:Sg} {vs:List Value} {ty es:Nat} {ro:Bool} {l:AM.Loc} {cs:Array Value} {el:TypeId} {frz:Nat×Nat} (r:RowR σ vs ty es ro l cs el frz) :
  ∃ A rvs J:List Value,cs=(A++rvs++J).toArray/\A.length=l.base/\VRs σ vs rvs/\rvs.length=vs.length:=by
 refine ⟨cs.toList.take l.base,(cs.toList.drop l.base).take vs.length,(cs.toList.drop l.base).drop vs.length,?_,?_,?_,?_⟩
 ·rw [List.append_assoc,List.take_append_drop,List.take_append_drop]
 ·have:=r.size;simp;omega
 ·refine VRs.of_get (by have:=r.size;simp;omega) fun k a b ha hb=>?_
  obtain ⟨v',h1,h2⟩:=r.cell k a ha
  have hlt:=(List.getElem?_eq_some_iff.1 ha).1
  rw [List.getElem?_take_of_lt hlt,List.getElem?_drop,Array.getElem?_toList,h1] at hb
  cases hb
  exact h2
 ·have:=r.size;simp;omega
theorem zNj {σ:Sg} {vs rvs:List Value} (h:VRs σ vs rvs) (hl:vs.all zr=true):∀ v∈rvs,v.oneCell'=true:=by
 intro v hv
 obtain ⟨k,hk⟩:=List.mem_iff_getElem?.1 hv
 have hlt:k<vs.length:=by
  have:=h.length
  have:=(List.getElem?_eq_some_iff.1 hk).1
  omega
 obtain ⟨b,hb1,hb2⟩:=h.get (List.getElem?_eq_getElem hlt)
 rw [hk] at hb1;cases hb1
 apply zJI
 rw [hb2.leaf]
 exact List.all_eq_true.1 hl _ (List.getElem_mem hlt)
theorem VRs.take {σ:Sg}:∀ {v v':List Value} (n:Nat),VRs σ v v'->VRs σ (v.take n) (v'.take n)
 | _,_,0,_=>by simp;exact .nil
 | _,_,n+1,.nil=>by simp;exact .nil
 | _,_,n+1,.cons h hs=>by simp only [List.take_succ_cons];exact .cons h (VRs.take n hs)
theorem VRs.drop {σ:Sg}:∀ {v v':List Value} (n:Nat),VRs σ v v'->VRs σ (v.drop n) (v'.drop n)
 | _,_,0,h=>by simpa using h
 | _,_,n+1,.nil=>by simp;exact .nil
 | _,_,n+1,.cons h hs=>by simp only [List.drop_succ_cons];exact VRs.drop n hs
theorem zbh {α:Type} (A R1 R2 J U:List α) (h2:2<=R2.length) (hu:U.length=2) :
  ((((A++(R1++R2)++J).take (A.length+R1.length+2)++R2++(A++(R1++R2)++J).drop (A.length+R1.length+2+R2.length)).take (A.length+R1.length))++U ++
   (((A++(R1++R2)++J).take (A.length+R1.length+2)++R2++(A++(R1++R2)++J).drop (A.length+R1.length+2+R2.length)).drop (A.length+R1.length+U.length)))
  = A++(R1++U++R2)++J.drop 2:=by
 have e1:(A++(R1++R2)++J).take (A.length+R1.length+2)=(A++R1)++R2.take 2:=by
  rw [show A++(R1++R2)++J=(A++R1)++(R2++J) by simp,show A.length+R1.length+2=(A++R1).length+2 by simp,List.take_length_add_append,List.take_append_of_le_length h2]
 have e2:(A++(R1++R2)++J).drop (A.length+R1.length+2+R2.length)=J.drop 2:=by
  rw [show A.length+R1.length+2+R2.length=(A++(R1++R2)).length+2 by simp;omega,List.drop_length_add_append]
 rw [e1,e2]
 have e3:((A++R1)++R2.take 2++R2++J.drop 2).take (A.length+R1.length)=A++R1:=by
  rw [show (A++R1)++R2.take 2++R2++J.drop 2=(A++R1)++(R2.take 2++R2++J.drop 2) by simp,show A.length+R1.length=(A++R1).length by simp,List.take_left]
 have e4:((A++R1)++R2.take 2++R2++J.drop 2).drop (A.length+R1.length+U.length)=R2++J.drop 2:=by
  rw [show (A++R1)++R2.take 2++R2++J.drop 2=((A++R1)++R2.take 2)++(R2++J.drop 2) by simp,show A.length+R1.length+U.length=((A++R1)++R2.take 2).length by simp;omega,List.drop_left]
 rw [e3,e4]
 simp
theorem zSh {α:Type} (R1 R2 Z U:List α) (hu:U.length=2) :
  (R1++Z).take R1.length++U++(R1++Z).drop (R1.length+U.length)=R1++U++Z.drop 2 ∧
  ((R1++Z).take R1.length++U++(R1++Z).drop (R1.length+U.length)).take (R1.length+2)++R2++((R1++Z).take R1.length++U++(R1++Z).drop (R1.length+U.length)).drop (R1.length+2+R2.length)=R1++U++R2++(Z.drop 2).drop R2.length:=by
 have e1:(R1++Z).take R1.length++U++(R1++Z).drop (R1.length+U.length)=R1++U++Z.drop 2:=by
  rw [List.take_left,hu,List.drop_length_add_append]
 refine ⟨e1,?_⟩
 rw [e1]
 rw [show R1.length+2=(R1++U).length by simp;omega,List.take_left,List.drop_length_add_append]
theorem zR0 (w:World) (k:Nat) (o o':Obj):AM.World.put (AM.World.put w k o) k o'=AM.World.put w k o':=by
 unfold AM.World.put
 simp
theorem zR1 (w:World) (o o':Obj):AM.World.put (w.alloc o) w.heap.size o'=w.alloc o':=by
 have e:(w.heap.push o).setIfInBounds w.heap.size o'=w.heap.push o':=by
  apply Array.ext'
  simp [List.set_append]
 show ({ w with heap:=(w.heap.push o).setIfInBounds w.heap.size o' }:World)=_
 rw [e]
 rfl
theorem elt22:Elt 22 36 2:=zIU elt_22 zHt zEO (by kernel_rfl)
theorem zbV {σ:Sg} {c o n cap:Nat} {v:Value} (h:VR σ (.slice (some ⟨c,o,none⟩) n cap) v) (hcap:cap<UNK):∃ m:AM.Loc,σ c=some m/\v=.slice (some ⟨m.blk,m.base+o,none⟩) n cap:=by
 cases h with
 | slice _ _ _ h1 h2=>exact ⟨_,h1,rfl⟩
 | sliceU _ _ _ h1 h2 h3=>exact absurd hcap (by show ¬ UNK+_<UNK;omega)
theorem sl_unk {σ:Sg} {c o n cap:Nat} {v:Value} (h:VR σ (.slice (some ⟨c,o,none⟩) n cap) v) (hcap:cap=UNK+2):∃ (l:AM.Loc) (cr:Nat),σ c=some l/\v=.slice (some ⟨l.blk,l.base+o,none⟩) n cr/\o+cr*2=l.tot/\n<=cr:=by
 cases h with
 | slice _ _ _ h1 h2=>omega
 | sliceU _ _ cr h1 h2 h3=>
  rename_i l
  have:l.es=2:=by have:UNK+l.es=UNK+2:=hcap;omega
  exact ⟨l,cr,h1,rfl,by rw [this] at h2;exact h2,h3⟩
theorem ins_ok {lo:Nat} {σ:Sg} {h:AH} {w:World} {b c i n:Nat} {vs us:List Value} {args':List Value} (H:HR lo σ h w)
  (ha:VRs σ [.slice (some ⟨b,0,none⟩) n (UNK+2),.int .i64 (i:Int),.slice (some ⟨c,0,none⟩) 1 1] args')
  (hb:h.get b=some (.row vs 36 2 false)) (hc:h.get c=some (.row us 36 0 false)) (hin:i<=n) (hvl:vs.length=n*2) (hul:us.length=2) (hbc:b≠c) (hvf:vs.all zr=true) (huf:us.all zr=true) (hn:n<=100000) :
  CallsIn Fence.wide 0 Tryz.prog 191 args'.toArray w (Ret (zFU lo σ w [(.slice (some ⟨h.next,0,none⟩) (n+1) (UNK+2),(h.upd b none).new (.row (vs.take (i*2)++us++vs.drop (i*2)) 36 2 false))])):=by
 obtain ⟨l,lb,⟨cc,el,frz,r1,r2⟩,lro⟩:=H.live b _ hb
 obtain ⟨m,mb,⟨mc,mel,mfrz,q1,q2⟩,mro⟩:=H.live c _ hc
 have hf:=r2.free rfl
 have hf2:=q2.free rfl
 subst hf hf2
 have he:=r2.elt
 have he2:=q2.elt
 subst he he2
 obtain ⟨g1,g2⟩:=r2.grown (by decide)
 have hblk:m.blk≠l.blk:=fun e=>by
  have:=H.inj b c _ _ l m hb hc lb mb e.symm hbc
  exact absurd this.1 (by simp [isRO])
 obtain ⟨a1',as1,rfl,a1,ha⟩:∃ x xs,args'=x::xs/\VR σ (.slice (some ⟨b,0,none⟩) n (UNK+2)) x/\VRs σ [.int .i64 (i:Int),.slice (some ⟨c,0,none⟩) 1 1] xs:=by cases ha with|cons x xs=>exact ⟨_,_,rfl,x,xs⟩
 obtain ⟨a2',as2,rfl,a2,ha⟩:∃ x xs,as1=x::xs/\VR σ (.int .i64 (i:Int)) x/\VRs σ [.slice (some ⟨c,0,none⟩) 1 1] xs:=by cases ha with|cons x xs=>exact ⟨_,_,rfl,x,xs⟩
 obtain ⟨a3',as3,rfl,a3,ha⟩:∃ x xs,as2=x::xs/\VR σ (.slice (some ⟨c,0,none⟩) 1 1) x/\VRs σ [] xs:=by cases ha with|cons x xs=>exact ⟨_,_,rfl,x,xs⟩
 cases ha
 have ra1:=a1
 have ra3:=a3
 cases a2
 obtain ⟨m',h1,rfl⟩:=zbV a3 (by decide)
 rw [mb] at h1
 cases h1
 obtain ⟨l',cr,h1,rfl,hcr,hncr⟩:=sl_unk a1 rfl
 rw [lb] at h1
 cases h1
 obtain ⟨A,rvs,J,hcc,hA,hvr,hrl⟩:=zJ9 r2
 obtain ⟨A2,rus,J2,hmc,hA2,hur,hrul⟩:=zJ9 q2
 have h1v:=zNj hvr hvf
 have h1u:=zNj hur huf
 have hJ:cc.size=l.base+rvs.length+J.length:=by rw [hcc];simp;omega
 have hcs:∀ j v,rvs[j]?=some v->w.cell? ⟨l.blk,l.base+0+j,none⟩=some v:=fun j v hj=>by
  rw [zFR r1,hcc]
  have:=(List.getElem?_eq_some_iff.1 hj).1
  rw [List.getElem?_toArray,List.append_assoc,List.getElem?_append_right (by omega),List.getElem?_append_left (by omega),show l.base+0+j-A.length=j by omega]
  exact hj
 have hvs':∀ j v,rus[j]?=some v->w.cell? ⟨m.blk,m.base+0+j,none⟩=some v:=fun j v hj=>by
  rw [zFR q1,hmc]
  have:=(List.getElem?_eq_some_iff.1 hj).1
  rw [List.getElem?_toArray,List.append_assoc,List.getElem?_append_right (by omega),List.getElem?_append_left (by omega),show m.base+0+j-A2.length=j by omega]
  exact hj
 have hpos:l.base+rvs.length<=cc.size:=by omega
 have hv2:VRs σ (vs.take (i*2)++us++vs.drop (i*2)) (rvs.take (i*2)++rus++rvs.drop (i*2)):=((VRs.take _ hvr).append hur).append (VRs.drop _ hvr)
 by_cases hi:i=n
 ·subst hi
  have hap:=zBz (t:=22) (e:=36) (z:=2) elt22 (by decide) hb hvl (by omega) hc hul huf
  have hv:zAy E [22,22] (.slice (some ⟨b,0,none⟩) i (UNK+2)) (.slice (some ⟨c,0,none⟩) 1 1) h=some (.slice (some ⟨h.next,0,none⟩) (i+1) (UNK+2),(h.upd b none).new (.row (vs++us) 36 2 false)):=by
   have hap':v2 (zAy E [22,22] (.slice (some ⟨b,0,none⟩) i (UNK+2)) (.slice (some ⟨c,0,none⟩) 1 1) h)=one (.slice (some ⟨h.next,0,none⟩) (i+1) (UNK+2),(h.upd b none).new (.row (vs++us) 36 2 false)):=hap
   cases hx:zAy E [22,22] (.slice (some ⟨b,0,none⟩) i (UNK+2)) (.slice (some ⟨c,0,none⟩) 1 1) h with
   | none=>rw [hx] at hap';cases hap'
   | some x=>rw [hx] at hap';cases hap';rfl
  obtain ⟨v',w',τ,y1,y2,y3,y4,y5⟩:=zIe (E:=E) Tryz.envOK H (ts:=#[22,22]) (ty:=22) ra1 ra3 hv
  have hrun:=ins_end l.blk (l.base+0) i cr m.blk (m.base+0) 1 w hncr hn y1
  refine callsIn_wide.2 (hrun.mono fun en w'' hr=>?_)
  obtain ⟨rfl,rfl⟩:=hr
  refine ⟨_,List.mem_singleton.2 rfl,τ,y2,?_,y4,y5⟩
  rw [List.take_of_length_le (by omega),List.drop_eq_nil_of_le (by omega),List.append_nil]
  exact y3
 ·by_cases hroom:n+1<=cr
  ·have hrun:=zSg l.blk (l.base+0) n cr i m.blk (m.base+0) 1 rvs rus w (by omega) hroom hn hblk (by omega) (by omega) hcs (fun j hj=>by
    rw [zFR r1,Array.getElem?_eq_getElem (by omega)];rfl) (fun j hj=>zDW r1 _) hvs' h1v h1u 36 36 mc.size cc.size (zH0 q1) (zH0 r1) (by omega) (zDW q1 _) (zDW q1 _)
   refine callsIn_wide.2 (hrun.mono fun en w' hr=>?_)
   obtain ⟨rfl,rfl⟩:=hr
   have hD:(rvs.drop (i*2)).length=(n-i)*2:=by rw [List.length_drop];omega
   have hR1:(rvs.take (i*2)).length=i*2:=by rw [List.length_take];omega
   have hrd:w.drew.heap[l.blk]?=some (.cells cc 36 (0,0)):=r1
   have e1:=zCt (o:=l.base+0+(i+1)*2) (us:=rvs.drop (i*2)) hrd (by omega) (fun v hv=>h1v v (List.mem_of_mem_drop hv))
   have hlt:l.blk<w.drew.heap.size:=zAe hrd
   have hput:(World.put w.drew l.blk (.cells (cc.toList.take (l.base+0+(i+1)*2)++rvs.drop (i*2)++cc.toList.drop (l.base+0+(i+1)*2+(rvs.drop (i*2)).length)).toArray 36 (0,0))).heap[l.blk]?=some (.cells (cc.toList.take (l.base+0+(i+1)*2)++rvs.drop (i*2)++cc.toList.drop (l.base+0+(i+1)*2+(rvs.drop (i*2)).length)).toArray 36 (0,0)):=by
    rw [World.put_get hlt,if_pos rfl]
   have e2:=zCt (o:=l.base+0+i*2) (us:=rus) hput (by simp;omega) h1u
   have hlist:=zbh A (rvs.take (i*2)) (rvs.drop (i*2)) J rus (by omega) (by omega)
   rw [List.take_append_drop] at hlist
   have hccl:cc.toList=A++rvs++J:=by rw [hcc]
   rw [e1,e2,zR0]
   simp only [List.toList_toArray,hccl]
   rw [show l.base+0+(i+1)*2=A.length+(rvs.take (i*2)).length+2 by omega,show l.base+0+i*2=A.length+(rvs.take (i*2)).length by omega,hlist]
   have hsz2:(A++(rvs.take (i*2)++rus++rvs.drop (i*2))++J.drop 2).toArray.size=cc.size:=by simp;omega
   have hrow:RowR σ (vs.take (i*2)++us++vs.drop (i*2)) 36 2 false l (A++(rvs.take (i*2)++rus++rvs.drop (i*2))++J.drop 2).toArray 36 (0,0):=by
    refine ⟨by rw [hsz2];simp;omega,fun k v hk=>?_,fun _=>rfl,rfl,fun e=>absurd e (by decide),fun _=>⟨g1,by rw [hsz2];exact g2⟩⟩
    obtain ⟨u,u1,u2⟩:=hv2.get hk
    refine ⟨u,?_,u2⟩
    have:=(List.getElem?_eq_some_iff.1 u1).1
    rw [List.getElem?_toArray,List.append_assoc,List.getElem?_append_right (by omega),List.getElem?_append_left (by omega),show l.base+k-A.length=k by omega]
    exact u1
   obtain ⟨k1,k2⟩:=(H.heap (w':=w.drew) rfl).updRow hb lb hrow
   obtain ⟨k3,k4⟩:=HR.rename k1 (b:=b) (vs:=vs.take (i*2)++us++vs.drop (i*2)) (vs':=vs.take (i*2)++us++vs.drop (i*2)) (ty:=36) (es:=2) (o:=0) (l:=l) (by rw [AH.get_upd,if_pos rfl]) lb (by decide) (Nat.zero_le _) (fun k u hk=>by rw [Nat.zero_add];exact hk) (by omega)
   refine ⟨_,List.mem_singleton.2 rfl,_,k4,k3.same rfl (fun k=>zGC ..),?_,?_⟩
   ·have:=VR.sliceU (σ:=σ.ext h.next ⟨l.blk,l.base+0,l.tot-0,2⟩) (b:=h.next) (l:=⟨l.blk,l.base+0,l.tot-0,2⟩) 0 (n+1) cr (Sg.ext_self ..) (by simp only;omega) hroom
    exact this
   ·exact (Below.drew (Below.refl lo w)).trans k2
  ·have hce:cr=n:=by omega
   subst hce
   obtain ⟨G,zs,hG1,hzl,hrun⟩:=zbi l.blk (l.base+0) cr cr i m.blk (m.base+0) 1 rvs rus w (by omega) (Nat.le_refl _) (by omega) (by omega) (by omega) (by omega) hcs hvs' h1v h1u
   refine callsIn_wide.2 (hrun.mono fun en w' hr=>?_)
   obtain ⟨rfl,rfl⟩:=hr
   have hD:(rvs.drop (i*2)).length=(cr-i)*2:=by rw [List.length_drop];omega
   have hR1:(rvs.take (i*2)).length=i*2:=by rw [List.length_take];omega
   generalize hR1e:rvs.take (i*2)=R1 at hR1 hv2
   generalize hR2e:rvs.drop (i*2)=R2 at hD hv2
   have h1R2:∀ v∈R2,v.oneCell'=true:=fun v hv=>h1v v (by rw [← hR2e] at hv;exact List.mem_of_mem_drop hv)
   have hra:((w.alloc (.cells (R1++zs).toArray 36)).drew).heap[w.heap.size]?=some (.cells (R1++zs).toArray 36 (0,0)):=by
    show (w.alloc _).heap[w.heap.size]?=_
    rw [zAv,if_pos rfl]
   have e1:=zCt (o:=i*2) (us:=rus) hra (by simp;omega) h1u
   have hput:((World.put ((w.alloc (.cells (R1++zs).toArray 36)).drew) w.heap.size (.cells ((R1++zs).toArray.toList.take (i*2)++rus++(R1++zs).toArray.toList.drop (i*2+rus.length)).toArray 36 (0,0))).drew).heap[w.heap.size]?=some (.cells ((R1++zs).toArray.toList.take (i*2)++rus++(R1++zs).toArray.toList.drop (i*2+rus.length)).toArray 36 (0,0)):=by
    show (World.put _ w.heap.size _).heap[w.heap.size]?=_
    rw [World.put_get (zAe hra),if_pos rfl]
   have e2:=zCt (o:=(i+1)*2) (us:=R2) hput (by simp;omega) h1R2
   have hlist:=(zSh R1 R2 zs rus (by omega)).2
   have hfin:(((w.alloc (.cells (R1++zs).toArray 36)).drew.setCells w.heap.size (i*2) rus).drew).setCells w.heap.size ((i+1)*2) R2=w.drew.drew.alloc (.cells (R1++rus++R2++(zs.drop 2).drop R2.length).toArray 36):=by
    rw [e1,e2]
    simp only [List.toList_toArray]
    rw [show (i+1)*2=R1.length+2 by omega,show i*2=R1.length by omega,hlist]
    show World.put (World.put (w.drew.drew.alloc _) w.heap.size _) w.heap.size _=_
    rw [zR0]
    exact zR1 w.drew.drew _ _
   rw [hfin]
   obtain ⟨k1,k2,k3⟩:=zNs (w:=w.drew.drew) ((H.kill b).heap rfl) (ty:=36) (es:=2) (tot:=G*2) (vs:=vs.take (i*2)++us++vs.drop (i*2)) (cs:=(R1++rus++R2++(zs.drop 2).drop R2.length).toArray) (by
    intro k v hk
    obtain ⟨u,u1,u2⟩:=hv2.get hk
    refine ⟨u,?_,u2⟩
    have:=(List.getElem?_eq_some_iff.1 u1).1
    rw [List.getElem?_toArray,List.getElem?_append_left (by omega)]
    exact u1) (by simp;omega) (by decide) (by
    have:=hv2.length
    simp at this ⊢
    omega)
   refine ⟨_,List.mem_singleton.2 rfl,_,k2,k1,?_,(Below.drew (Below.drew (Below.refl lo w))).trans k3⟩
   have:=VR.sliceU (σ:=σ.ext h.next ⟨w.heap.size,0,G*2,2⟩) (b:=h.next) (l:=⟨w.heap.size,0,G*2,2⟩) 0 (cr+1) G (Sg.ext_self ..) (by simp) hG1
   exact this
theorem zSj {args:List Value} {h:AH} {outs:List (Value×AH)} (e:zSl args h=some outs):(∀ lo σ w args',HR lo σ h w->VRs σ args args'->CallsIn Fence.wide 0 Tryz.prog 191 args'.toArray w (Ret (zFU lo σ w outs)))/\zB0 h outs:=by
 unfold zSl at e
 split at e
 ·split at e
  ·rename_i b n cap i c _ _ vs us hb hc
   cases hcond:(Nat.beq cap (UNK+2)&&Nat.ble i n&&Nat.beq (zA1 vs) (n*2)&&Nat.beq (zA1 us) 2&&!Nat.beq b c&&vs.all zr&&us.all zr&&Nat.ble n 100000) with
   | false=>rw [hcond] at e;cases e
   | true=>
    rw [hcond] at e
    simp only [cond_true,Option.some.injEq] at e
    subst e
    simp only [Bool.and_eq_true,AM.beq_true,ble_true,zAN,Bool.not_eq_true'] at hcond
    obtain ⟨⟨⟨⟨⟨⟨⟨h1,h2⟩,h3⟩,h4⟩,h5⟩,h6⟩,h7⟩,h8⟩:=hcond
    subst h1
    have hbc:b≠c:=by
     rintro rfl
     rw [Nat.beq_refl] at h5;cases h5
    refine ⟨fun lo σ w args' H ha=>?_,zDK ?_⟩
    ·have:=ins_ok H ha hb hc h2 h3 h4 hbc h6 h7 h8
     rw [zAq,zAr]
     exact this
    ·exact (Fr.upd h b none).trans (Fr.new _ _)
  ·cases e
 ·cases e
theorem sumOK (f:FuncId) (args:List Value) (h:AH) (outs:List (Value×AH)) (e:zSk f args h=some outs):(∀ lo σ w args',HR lo σ h w->VRs σ args args'->CallsIn Fence.wide 0 Tryz.prog f args'.toArray w (Ret (zFU lo σ w outs)))/\zB0 h outs:=by
 unfold zSk at e
 cases hf:Nat.beq f 191 with
 | true=>
  rw [hf] at e
  have:=Nat.eq_of_beq_eq_true hf
  subst this
  exact zSj e
 | false=>
  rw [hf] at e
  simp only at e
  cases hg:Nat.beq f 13 with
  | true=>
   rw [hg] at e
   have:=Nat.eq_of_beq_eq_true hg
   subst this
   exact saneSum e
  | false=>rw [hg] at e;cases e
theorem extE:zLm E:=Tryz.extOK sumOK
theorem envE:zCF E:=Tryz.envOK
end Go.Proofs
namespace Go.Proofs
open Go Go.AM
set_option maxRecDepth 100000
set_option maxHeartbeats 1000000
abbrev zAF:=List (Int×Int)
def stc (S:zAF):List Value:=S.flatMap zG
theorem zLy:∀ S:zAF,(stc S).length=S.length*2
 | []=>rfl
 | x::l=>by simp only [stc,List.flatMap_cons,List.length_append,List.length_cons];have:=zLy l;simp only [stc] at this;rw [this];simp [zG];omega
def CellOK (h:AH) (c:Value) (S:zAF):Prop:=(c=.slice none 0 0/\S=[])\/∃ b,c=.slice (some ⟨b,0,none⟩) S.length (UNK+2)/\h.get b=some (.row (stc S) 134 2 false)/\b<h.next
structure GG (loc:Nat) (h:AH) (bg bs:Nat) (cells:List Value) (SS:List zAF):Prop where
 g:h.get bg=some (.row [.slice (some ⟨bs,0,none⟩) cells.length cells.length] 131 0 false)
 s:h.get bs=some (.row cells 132 0 false)
 len:cells.length=SS.length
 ne:bg≠bs
 ltg:bg<h.next
 lts:bs<h.next
 locg:loc<=bg
 locs:loc<=bs
 cell:∀ (i:Nat) (c:Value) (S:zAF),cells[i]?=some c->SS[i]?=some S->CellOK h c S
 blk:∀ (i:Nat) (c:Value) (b:Nat),cells[i]?=some c->zy c b->b≠bg/\b≠bs/\loc<=b
 dis:∀ (i j:Nat) (c d:Value) (b:Nat),cells[i]?=some c->cells[j]?=some d->zy c b->zy d b->i=j
theorem CellOK.lt {h:AH} {c:Value} {S:zAF} (k:CellOK h c S) {b:Nat} (hb:zy c b):b<h.next:=by
 obtain ⟨n,cap,rfl⟩:=hb
 rcases k with ⟨e,_⟩|⟨b',e,_,hlt⟩
 ·cases e
 ·simp only [Value.slice.injEq,Option.some.injEq,Addr.mk.injEq] at e
  rw [e.1.1];exact hlt
theorem CellOK.fx {P:Nat->Prop} {h h':AH} {c:Value} {S:zAF} (k:CellOK h c S) (f:Fx P h h') (hn:∀ b,zy c b->¬ P b):CellOK h' c S:=by
 rcases k with e|⟨b,e,hg,hlt⟩
 ·exact .inl e
 ·exact .inr ⟨b,e,(f.get b hlt (hn b ⟨_,_,e⟩)).trans hg,Nat.lt_of_lt_of_le hlt f.next⟩
theorem CellOK.leaf {h:AH} {c:Value} {S:zAF} (k:CellOK h c S):zr c=true/\zj c=[c]/\veq 100 c c=true:=by
 rcases k with ⟨rfl,_⟩|⟨b,rfl,_⟩ <;> exact ⟨rfl,rfl,zB8 _ _ _ _⟩
theorem GG.fx {P:Nat->Prop} {loc bg bs:Nat} {h h':AH} {cells:List Value} {SS:List zAF} (G:GG loc h bg bs cells SS) (f:Fx P h h') (h1:¬ P bg) (h2:¬ P bs) (h3:∀ (i:Nat) (c:Value) (b:Nat),cells[i]?=some c->zy c b->¬ P b):GG loc h' bg bs cells SS:=
 ⟨(f.get bg G.ltg h1).trans G.g,(f.get bs G.lts h2).trans G.s,G.len,G.ne,Nat.lt_of_lt_of_le G.ltg f.next,Nat.lt_of_lt_of_le G.lts f.next,G.locg,G.locs,
  fun i c S hc hS=>(G.cell i c S hc hS).fx f (fun b hb=>h3 i c b hc hb),G.blk,G.dis⟩
theorem bs132 {a b:Int} {h:AH}:zf E 132 1 (some [(0,.agg #[.int .i64 a,.int .i64 b])]) h=one (.slice (some ⟨h.next,0,none⟩) 1 1,h.new (.row [.int .i64 a,.int .i64 b] 134 0 false)):=by kernel_rfl
theorem pb134 {a b:Int}:zAi E 134 (some [(0,.int .i64 a),(1,.int .i64 b)])=some (.agg #[.int .i64 a,.int .i64 b]):=by kernel_rfl
theorem zM8 {h:AH} (hok:h.ok) {c:Value} {S:zAF} (hc:CellOK h c S) (hS:S.length+1<=1000000) (a b:Int) :
  ∃ h3,zAD E .append [132,132] (some [c,.slice (some ⟨h.next,0,none⟩) 1 1]) (h.new (.row [.int .i64 a,.int .i64 b] 134 0 false))=one (.slice (some ⟨h.next+1,0,none⟩) (S.length+1) (UNK+2),h3) ∧
   h3.get (h.next+1)=some (.row (stc (S++[(a,b)])) 134 2 false)/\h3.next=h.next+2/\Fx (fun x=>zy c x) h h3:=by
 have hrow:=zI h (.row [.int .i64 a,.int .i64 b] 134 0 false)
 have hst:stc (S++[(a,b)])=stc S++[.int .i64 a,.int .i64 b]:=by simp [stc,zG,List.flatMap_append]
 rcases hc with ⟨rfl,rfl⟩|⟨bl,rfl,hg,hlt⟩
 ·refine ⟨_,append_nil elt132 hrow rfl,?_,rfl,((Fx.refl hok).new _).new _⟩
  rw [hst]
  exact zI (h.new _) _
 ·have hg':(h.new (.row [.int .i64 a,.int .i64 b] 134 0 false)).get bl=some (.row (stc S) 134 2 false):=by rw [zK (by omega)];exact hg
  refine ⟨_,zBz elt132 (by omega) hg' (zLy S) hS hrow rfl (by simp [zr]),?_,rfl,?_⟩
  ·rw [hst]
   exact zI ((h.new _).upd bl none) _
  ·have f1:Fx (fun x=>zy (.slice (some ⟨bl,0,none⟩) S.length (UNK+2)) x) h (h.new (.row [.int .i64 a,.int .i64 b] 134 0 false)):=(Fx.refl hok).new _
   exact (f1.upd (.inl ⟨_,_,rfl⟩) none).new _
def StOK (n:Nat) (vis:Prop) (S:zAF):Prop:=∀ x∈S,(0<=x.2/\x.2<n)/\0<=x.1/\(vis->1<=x.1)
theorem zb1 {k:AH} {e:Int×Int×Int} :
  ze E 52 (k.new (.row [.int .i64 0,.int .i64 0,.int .i64 0] 52 0 false)) (some (.pointer (some ⟨k.next,0,none⟩))) (some (.agg ⟨zb e⟩))=one (undef,(k.new (.row [.int .i64 0,.int .i64 0,.int .i64 0] 52 0 false)).upd k.next (some (.row (zb e) 52 0 false))):=by
 rw [zw (P:=E) ts_52 (x:=.agg ⟨zb e⟩) (cs:=zb e) (zI k _) rfl rfl (by simp) (by simp [zb,zr])]
 rfl
theorem eds_few {L:GL} (h:zAL L=false):L.eds.length<=100000:=by
 simp only [zAL,zA3,Bool.or_eq_false_iff,decide_eq_false_iff_not] at h
 omega
def zC2 (nums:List Int):List zAF->List (Int×Int×Int)->List zAF
 | SS,[]=>SS
 | SS,e::l=>zC2 nums (SS.set e.1.toNat ((SS[e.1.toNat]?.getD [])++[((nums[e.2.1.toNat]?).getD 0,e.2.2)])) l
theorem graphs3 {k:AH} {K:KF} {L:GL} {ve:Value} {ae:Option Addr} {ce:Nat} (hve:ve=.slice ae L.eds.length ce) (ha:Arr k 3 ve (L.eds.map zb)) (hL:zAL L=false) {N:Nat} (hN:L.n=(N:Int))
  {v3 v8 v34 v35 v36:Value} {bm bg bs:Nat} {nums:List Int} (hlen:nums.length=L.labs.length) (hnum:∀ j,j<L.labs.length->okNum L.labs nums j) {k0:AH} {cells0:List Value} {SS1:List zAF} {vis:Prop} (hvis:vis->∀ (j:Nat) (g:Int) (l:List GT),L.labs[j]?=some (g,l)->g≠-1)
  (hK:∀ kk cells SS,Own k kk->GG k.next kk bg bs cells SS->cells.length=N->(∀ (i:Nat) (S:zAF),SS[i]?=some S->StOK N vis S/\S.length<=100000)->SS=SS1->Fx (fun c=>c=bs\/∃ (i:Nat) (x:Value),cells0[i]?=some x/\zy x c) k0 kk->
   (∀ (i:Nat) (x:Value) (c:Nat),cells[i]?=some x->zy x c->(∃ (i:Nat) (x:Value),cells0[i]?=some x/\zy x c)\/k0.next<=c)->
   P90_27 true K v3 v8 (.pointer (some ⟨bg,0,none⟩)) v34 v35 v36 kk) :
  ∀ (m j:Nat),j+m=L.eds.length->∀ kk cells SS,Own k kk->GG k.next kk bg bs cells SS->cells.length=N->(∀ (i:Nat) (S:zAF),SS[i]?=some S->StOK N vis S/\S.length<=j)->zC2 nums SS (L.eds.drop j)=SS1->Fx (fun c=>c=bs\/∃ (i:Nat) (x:Value),cells0[i]?=some x/\zy x c) k0 kk->
   (∀ (i:Nat) (x:Value) (c:Nat),cells[i]?=some x->zy x c->(∃ (i:Nat) (x:Value),cells0[i]?=some x/\zy x c)\/k0.next<=c)->
   kk.get bm=some (.row (ints nums) 3 0 false)->bm<kk.next->bm≠bs->(∀ (i:Nat) (x:Value),cells[i]?=some x->¬ zy x bm)->k.next<=bm->
   P90_23 true K v3 v8 (.pointer (some ⟨bg,0,none⟩)) (.slice (some ⟨bm,0,none⟩) L.labs.length L.labs.length) v34 v35 v36 ve (.int .i64 (L.eds.length:Int)) (.int .i64 (j:Int)) kk:=by
 obtain ⟨z1,z2,z3,z4⟩:=zDN hL
 intro m
 induction m with
 | zero=>
  intro j hj kk cells SS ho hG hNc hst hS1 hf hcb hbm hbml hbne hbnb hbloc
  refine zKy ?_
  simp only [zY,zA,zAA]
  exact ⟨fun h=>by omega,fun _=>hK kk cells SS ho hG hNc (fun i S h=>⟨(hst i S h).1,by have:=(hst i S h).2;have:=eds_few hL;omega⟩) (by rw [List.drop_eq_nil_of_le (show L.eds.length<=j by omega)] at hS1;exact hS1) hf hcb⟩
 | succ m ih=>
  intro j hj kk cells SS ho hG hNc hst hS1 hf hcb hbm hbml hbne hbnb hbloc
  have hjn:j<L.eds.length:=by omega
  refine zKy ?_
  simp only [zY,zA,zAA]
  refine ⟨fun _=>zUR ?_,fun h=>by omega⟩
  have hate:L.eds[j]?=some L.eds[j]:=List.getElem?_eq_getElem hjn
  have hat:(L.eds.map zb)[j]?=some (zb L.eds[j]):=by simp [hjn]
  obtain ⟨b,o,c,vs,ty,es,ro,hv,hb,hlt,hle2,hz,hzl⟩:=ha.load hat
  rw [hve] at hv
  simp only [Value.slice.injEq] at hv
  obtain ⟨hv1,_,hv3⟩:=hv
  subst hv1
  have gb:kk.get b=some (.row vs ty es ro):=(ho.ext.get b hlt).trans hb
  obtain ⟨⟨f1,f2⟩,⟨t1,t2⟩,⟨l1,l2⟩⟩:=zFT hL hate
  rw [zFw hate] at hS1
  generalize hee:L.eds[j]=e at hS1 hz hzl f1 f2 t1 t2 l1 l2
  obtain ⟨from',lab,to⟩:=e
  simp only at f1 f2 t1 t2 l1 l2
  obtain ⟨fr,rfl⟩:=Int.eq_ofNat_of_zero_le f1
  obtain ⟨la,rfl⟩:=Int.eq_ofNat_of_zero_le l1
  have hfr:fr<cells.length:=by omega
  have hfr':fr<SS.length:=by rw [← hG.len];exact hfr
  have hla:la<L.labs.length:=by omega
  have hla':la<nums.length:=by omega
  simp only [hve,ia_23 hjn,zA,za zJz gb hle2,hz,z_52,zd,zL,zV,zb1]
  refine zUQ ?_
  have hkn:=ho.ext.next
  have fb:Fx NoB kk ((kk.new (.row [.int .i64 0,.int .i64 0,.int .i64 0] 52 0 false)).upd kk.next (some (.row (zb ((fr:Int),(la:Int),to)) 52 0 false))):=((Fx.refl ho.ext.ok).new _).upd (.inr (Nat.le_refl _)) _
  have tb:((kk.new (.row [.int .i64 0,.int .i64 0,.int .i64 0] 52 0 false)).upd kk.next (some (.row (zb ((fr:Int),(la:Int),to)) 52 0 false))).get kk.next=some (.row (zb ((fr:Int),(la:Int),to)) 52 0 false):=zR _ _ _
  have nb:((kk.new (.row [.int .i64 0,.int .i64 0,.int .i64 0] 52 0 false)).upd kk.next (some (.row (zb ((fr:Int),(la:Int),to)) 52 0 false))).next=kk.next+1:=rfl
  generalize ((kk.new (.row [.int .i64 0,.int .i64 0,.int .i64 0] 52 0 false)).upd kk.next (some (.row (zb ((fr:Int),(la:Int),to)) 52 0 false)))=k1 at fb tb nb
  have o1:=fb.own ho (fun _ h=>h.elim)
  have hG1:=hG.fx fb (fun h=>h) (fun h=>h) (fun _ _ _ _ _ h=>h)
  have hbm1:k1.get bm=some (.row (ints nums) 3 0 false):=(fb.get bm hbml (fun h=>h)).trans hbm
  have c0:=zF (P:=E) zAS (o:=0) tb
  have c1:=zF (P:=E) zAS (o:=1) tb
  have c2:=zF (P:=E) zAS (o:=2) tb
  simp only [lnth,zb] at c0 c1 c2
  have lg:=zF (P:=E) zHw (o:=0) hG1.g
  simp only [lnth] at lg
  have hcell:cells[fr]?=some cells[fr]:=List.getElem?_eq_getElem hfr
  have hSS:SS[fr]?=some SS[fr]:=List.getElem?_eq_getElem hfr'
  have ls:=zF (P:=E) zHv (o:=0+fr*1) hG1.s
  rw [zAk,show 0+fr*1=fr by omega,hcell] at ls
  have ln:=zF (P:=E) zAS (o:=0+la*1) hbm1
  obtain ⟨gl,hgl⟩:∃ gl,L.labs[la]?=some gl:=⟨_,List.getElem?_eq_getElem hla⟩
  obtain ⟨r,hr1,hr2,hr3,hr4⟩:=hnum la hla gl.1 gl.2 hgl
  rw [zAk,show 0+la*1=la by omega,List.getElem?_map,hr1,Option.map_some] at ln
  have ia1:=zNq (b:=bs) (o:=0) (c:=cells.length) hfr
  have ia2:=zPf (b:=bm) (o:=0) (c:=L.labs.length) hla
  rw [show 0+fr*1=fr by omega] at ia1
  rw [show 0+la*1=la by omega] at ia2
  have hC:=hG1.cell fr _ _ hcell hSS
  obtain ⟨clf,cc1,cveq⟩:=hC.leaf
  have hSl:=(hst fr _ hSS).2
  obtain ⟨h3,q1,q2,q3,q4⟩:=zM8 o1.ext.ok hC (by omega) r to
  have f2x:Fx NoB k1 (k1.new (.row [.int .i64 r,.int .i64 to] 134 0 false)):=(Fx.refl o1.ext.ok).new _
  have hG2:=hG1.fx f2x (fun h=>h) (fun h=>h) (fun _ _ _ _ _ h=>h)
  have tb2:(k1.new (.row [.int .i64 r,.int .i64 to] 134 0 false)).get kk.next=_:=(zK (by omega)).trans tb
  have d0:=zF (P:=E) zAS (o:=0) tb2
  simp only [lnth,zb] at d0
  have lg2:=zF (P:=E) zHw (o:=0) hG2.g
  have ls2:=zF (P:=E) zHv (o:=0+fr*1) hG2.s
  simp only [lnth] at lg2
  rw [zAk,show 0+fr*1=fr by omega,hcell] at ls2
  have hcl:∀ x,zy cells[fr] x->x≠bg/\x≠bs/\k.next<=x:=fun x hx=>hG1.blk fr _ x hcell hx
  have tb3:h3.get kk.next=some (.row (zb ((fr:Int),(la:Int),to)) 52 0 false):=(q4.get kk.next (by omega) (fun hx=>by have:=(hG.cell fr _ _ hcell hSS).lt hx;omega)).trans tb
  have e0:=zF (P:=E) zAS (o:=0) tb3
  simp only [lnth,zb] at e0
  have hg3:h3.get bg=_:=(q4.get bg hG1.ltg (fun hx=>(hcl bg hx).1 rfl)).trans hG1.g
  have hs3:h3.get bs=_:=(q4.get bs hG1.lts (fun hx=>(hcl bs hx).2.1 rfl)).trans hG1.s
  have lg3:=zF (P:=E) zHw (o:=0) hg3
  simp only [lnth] at lg3
  have hsto:=zw (P:=E) ts_132 (o:=fr) hs3 (zEp (some ⟨k1.next+1,0,none⟩) (SS[fr].length+1) (UNK+2)) rfl (by omega) rfl
  rw [zJD _ _ _ hfr] at hsto
  simp only [zA,zAu,zGe,zDY,zDX,zBx,Nat.add_zero,Nat.zero_add,lg,c0,c1,c2,ia1,ls,ia2,ln,pb134,bs132,zL,ls2,lg2,d0,cveq,zB8,zC1,true_and,q1,e0,lg3,hsto]
  refine zUP ?_
  simp only [zAM _ (zD7 hjn (by omega)),zA]
  have hP:∀ c,(c=bs\/zy cells[fr] c)->(c=bs\/∃ (i:Nat) (x:Value),cells0[i]?=some x/\zy x c)\/k0.next<=c:=by
   rintro c (rfl|hc)
   ·exact .inl (.inl rfl)
   ·exact (hcb fr _ c hcell hc).elim (fun h=>.inl (.inr h)) .inr
  have f5:Fx (fun c=>c=bs\/zy cells[fr] c) k1 (h3.upd bs (some (.row (cells.set fr (.slice (some ⟨k1.next+1,0,none⟩) (SS[fr].length+1) (UNK+2))) 132 0 false))):=
   (q4.mono (P':=fun c=>c=bs\/zy cells[fr] c) (fun c hc=>.inl (.inr hc))).upd (.inl (.inl rfl)) _
  have o5:=f5.own o1 (fun c hc=>hc.elim (fun h=>by rw [h];exact hG.locs) fun h=>(hcl c h).2.2)
  have hset:∀ (i:Nat) (c:Value),(cells.set fr (.slice (some ⟨k1.next+1,0,none⟩) (SS[fr].length+1) (UNK+2)))[i]?=some c->(i=fr/\c=.slice (some ⟨k1.next+1,0,none⟩) (SS[fr].length+1) (UNK+2))\/(i≠fr/\cells[i]?=some c):=by
   intro i c hc
   by_cases hi:i=fr
   ·subst hi
    rw [List.getElem?_set_self hfr] at hc
    exact .inl ⟨rfl,(Option.some.inj hc).symm⟩
   ·rw [List.getElem?_set_ne (fun h=>hi h.symm)] at hc
    exact .inr ⟨hi,hc⟩
  have hnew:∀ b,zy (.slice (some ⟨k1.next+1,0,none⟩) (SS[fr].length+1) (UNK+2)) b->b=k1.next+1:=by
   rintro b ⟨n,cap,h⟩
   simp only [Value.slice.injEq,Option.some.injEq,Addr.mk.injEq] at h
   exact h.1.1.symm
  have hltb:∀ (i:Nat) (c:Value) (b:Nat),cells[i]?=some c->zy c b->b<k1.next:=fun i c b hc hb=>by
   have hi:i<SS.length:=by rw [← hG.len];exact (List.getElem?_eq_some_iff.1 hc).1
   exact (hG1.cell i c _ hc (List.getElem?_eq_getElem hi)).lt hb
  have hG5:GG k.next (h3.upd bs (some (.row (cells.set fr (.slice (some ⟨k1.next+1,0,none⟩) (SS[fr].length+1) (UNK+2))) 132 0 false))) bg bs (cells.set fr (.slice (some ⟨k1.next+1,0,none⟩) (SS[fr].length+1) (UNK+2))) (SS.set fr (SS[fr]++[(r,to)])):=by
   refine ⟨?_,zR _ _ _,by simp [hG.len],hG.ne,?_,?_,hG.locg,hG.locs,?_,?_,?_⟩
   ·rw [zU hG.ne,List.length_set];exact hg3
   ·show bg<h3.next;have:=hG1.ltg;omega
   ·show bs<h3.next;have:=hG1.lts;omega
   ·intro i c S hc hS
    rcases hset i c hc with ⟨rfl,rfl⟩|⟨hi,hc'⟩
    ·rw [List.getElem?_set_self hfr'] at hS
     cases hS
     refine .inr ⟨k1.next+1,by simp,?_,by show _<h3.next;omega⟩
     rw [zU (by have:=hG1.lts;omega)];exact q2
    ·rw [List.getElem?_set_ne (fun h=>hi h.symm)] at hS
     have:=hG1.cell i c S hc' hS
     refine this.fx f5 (fun b hb=>?_)
     rintro (rfl|hb2)
     ·exact (hG1.blk i c _ hc' hb).2.1 rfl
     ·exact hi (hG1.dis i fr c _ b hc' hcell hb hb2)
   ·intro i c b hc hb
    rcases hset i c hc with ⟨rfl,rfl⟩|⟨hi,hc'⟩
    ·rw [hnew b hb]
     have:=hG1.ltg
     have:=hG1.lts
     omega
    ·exact hG1.blk i c b hc' hb
   ·intro i i' c d b hc hd hb hb'
    rcases hset i c hc with ⟨rfl,rfl⟩|⟨hi,hc'⟩
    ·rcases hset i' d hd with ⟨rfl,_⟩|⟨hi',hd'⟩
     ·rfl
     ·have:=hnew b hb
      have:=hltb i' d b hd' hb'
      omega
    ·rcases hset i' d hd with ⟨rfl,rfl⟩|⟨hi',hd'⟩
     ·have:=hnew b hb'
      have:=hltb i c b hc' hb
      omega
     ·exact hG1.dis i i' c d b hc' hd' hb hb'
  have hbm5:(h3.upd bs (some (.row (cells.set fr (.slice (some ⟨k1.next+1,0,none⟩) (SS[fr].length+1) (UNK+2))) 132 0 false))).get bm=some (.row (ints nums) 3 0 false):=
   (f5.get bm (by omega) (fun h=>h.elim hbne fun h=>hbnb fr _ hcell h)).trans hbm1
  have hfin:=ih (j+1) (by omega) _ _ _ o5 hG5 (by simp [hNc]) (fun i S hS=>by
   by_cases hi:i=fr
   ·subst hi
    rw [List.getElem?_set_self hfr'] at hS
    cases hS
    refine ⟨fun x hx=>?_,by simp;omega⟩
    rcases List.mem_append.1 hx with hx|hx
    ·exact (hst i _ hSS).1 x hx
    ·simp only [List.mem_singleton] at hx
     subst hx
     exact ⟨⟨t1,by show to<(N:Int);omega⟩,hr2,fun hv=>hr4 (hvis hv la gl.1 gl.2 hgl)⟩
   ·rw [List.getElem?_set_ne (fun h=>hi h.symm)] at hS
    have:=hst i S hS
    exact ⟨this.1,by omega⟩)
   (by
    have:zC2 nums SS (((fr:Int),(la:Int),to)::L.eds.drop (j+1))=zC2 nums (SS.set fr (SS[fr]++[(r,to)])) (L.eds.drop (j+1)):=by
     simp only [zC2,Int.toNat_natCast,hSS,hr1,Option.getD_some]
    rw [← this];exact hS1)
   ((hf.trans fb (fun _ h=>h.elim)).trans f5 hP)
   (fun i x c hx hc=>by
    rcases hset i x hx with ⟨rfl,rfl⟩|⟨hi,hx'⟩
    ·rw [hnew c hc];exact .inr (by have:=hf.next;omega)
    ·exact hcb i x c hx' hc)
   hbm5 (by show bm<h3.next;omega) hbne (fun i x hx hb=>by
    rcases hset i x hx with ⟨rfl,rfl⟩|⟨hi,hx'⟩
    ·have:=hnew bm hb;omega
    ·exact hbnb i x hx' hb) hbloc
  rw [hve] at hfin
  simpa using hfin
theorem rep_eq {α:Type} (a:α):∀ n:Nat,rep n [a]=List.replicate n a
 | 0=>rfl
 | n+1=>by simp only [rep,rep_eq a n,List.replicate_succ];rfl
theorem zL8 {t e:TypeId} {z:Value} (H:∃ i,zDc E t=some e/\zCN E e=some i/\i.zero=some z/\i.bytes<=1000000/\i.size=1) (hz:zj z=[z]) {n:Nat} (hn:n<=1000000) {h:AH} :
  zAo E t (some (.int .i64 (n:Int))) (some (.int .i64 (n:Int))) h=one (.slice (some ⟨h.next,0,none⟩) n n,h.new (.row (List.replicate n z) e 0 false)):=by
 obtain ⟨i,h1,h2,h3,h4,h5⟩:=H
 have ha:zEs (.int .i64 (n:Int))=some n:=rfl
 simp only [zAo,h1,ha,h2,h3,ble_true.2 (Nat.le_refl n),ble_true.2 hn,ble_true.2 h4,hz,zA1,h5,rep_eq]
 rfl
theorem ti_of {t:TypeId} {b:Bool} {n:Nat} {z:Value} (h1:tAS E t=some (b,n)) (h2:zAG E t=some z) (h3:(match zCN E t with|some i=>Nat.ble i.bytes 1000000|none=>false)=true):∃ i,zCN E t=some i/\i.zero=some z/\i.bytes<=1000000/\i.size=n:=by
 cases ht:zCN E t with
 | none=>unfold tAS at h1;rw [ht] at h1;cases h1
 | some i=>
  refine ⟨i,rfl,?_,?_,?_⟩
  ·have:zAG E t=i.zero:=by unfold zAG;unfold zCN at ht;rw [ht]
   rw [← this];exact h2
  ·rw [ht] at h3;exact ble_true.1 h3
  ·unfold tAS at h1;rw [ht] at h1;simp at h1;exact h1.2
theorem mk129 {n:Nat} (hn:n<=1000000) {h:AH}:zAo E 129 (some (.int .i64 (n:Int))) (some (.int .i64 (n:Int))) h=one (.slice (some ⟨h.next,0,none⟩) n n,h.new (.row (List.replicate n (.slice none 0 0)) 132 0 false)):=
 zL8 (by obtain ⟨i,a⟩:=ti_of zHv z_132 (by kernel_rfl);exact ⟨i,elt_129,a⟩) rfl hn
theorem mk47 {n:Nat} (hn:n<=1000000) {h:AH}:zAo E 47 (some (.int .i64 (n:Int))) (some (.int .i64 (n:Int))) h=one (.slice (some ⟨h.next,0,none⟩) n n,h.new (.row (List.replicate n (.int .i64 0)) 3 0 false)):=
 zL8 (by obtain ⟨i,a⟩:=ti_of zAS z_3 (by kernel_rfl);exact ⟨i,elt_47,a⟩) rfl hn
theorem pb131 {a:Option Addr} {n c:Nat}:zAi E 131 (some [(0,.slice a n c)])=some (.agg #[.slice a n c]):=by kernel_rfl
theorem bs126 {a:Option Addr} {h:AH}:zf E 126 1 (some [(0,.pointer a)]) h=one (.slice (some ⟨h.next,0,none⟩) 1 1,h.new (.row [.pointer a] 128 0 false)):=by kernel_rfl
abbrev Gr:=Nat×Nat×List Value×List zAF
def inG (x:Gr) (c:Nat):Prop:=c=x.1\/c=x.2.1\/∃ (i:Nat) (y:Value),x.2.2.1[i]?=some y/\zy y c
def zSD (L:GL):Prop:=∀ (j:Nat) (g:Int) (l:List GT),L.labs[j]?=some (g,l)->g≠-1
def GrOf (L:GL) (x:Gr):Prop:=((x.2.2.1.length:Nat):Int)=L.n/\∀ (i:Nat) (S:zAF),x.2.2.2[i]?=some S->StOK x.2.2.1.length (zSD L) S/\S.length<=100000
abbrev ptr (b:Nat):Value:=.pointer (some ⟨b,0,none⟩)
structure Outs (loc:Nat) (h:AH) (out:Value) (gs:List Gr):Prop where
 sl:(out=.slice none 0 0/\gs=[])\/∃ bo,out=.slice (some ⟨bo,0,none⟩) gs.length (UNK+1)/\h.get bo=some (.row (gs.map fun x=>ptr x.1) 128 1 false)/\bo<h.next/\loc<=bo
 gg:∀ x∈gs,GG loc h x.1 x.2.1 x.2.2.1 x.2.2.2
 sep:∀ x∈gs,∀ c,inG x c->¬ zy out c
theorem Outs.fx {P:Nat->Prop} {loc:Nat} {h h':AH} {out:Value} {gs:List Gr} (O:Outs loc h out gs) (f:Fx P h h') (h1:∀ c,zy out c->¬ P c) (h2:∀ x∈gs,∀ c,inG x c->¬ P c):Outs loc h' out gs:=by
 refine ⟨?_,fun x hx=>(O.gg x hx).fx f (h2 x hx _ (.inl rfl)) (h2 x hx _ (.inr (.inl rfl))) (fun i c b hc hb=>h2 x hx b (.inr (.inr ⟨i,c,hc,hb⟩))),O.sep⟩
 rcases O.sl with e|⟨bo,e1,e2,e3,e4⟩
 ·exact .inl e
 ·exact .inr ⟨bo,e1,(f.get bo e3 (h1 bo ⟨_,_,e1⟩)).trans e2,Nat.lt_of_lt_of_le e3 f.next,e4⟩
theorem Outs.lt {loc:Nat} {h:AH} {out:Value} {gs:List Gr} (O:Outs loc h out gs) {c:Nat} (hc:zy out c\/∃ x∈gs,inG x c):c<h.next/\loc<=c:=by
 rcases hc with ⟨n,cap,hc⟩|⟨x,hx,hc⟩
 ·rcases O.sl with ⟨e,_⟩|⟨bo,e1,e2,e3,e4⟩
  ·rw [e] at hc;cases hc
  ·rw [e1] at hc
   simp only [Value.slice.injEq,Option.some.injEq,Addr.mk.injEq] at hc
   rw [← hc.1.1];exact ⟨e3,e4⟩
 ·have G:=O.gg x hx
  rcases hc with rfl|rfl|⟨i,y,hy,hb⟩
  ·exact ⟨G.ltg,G.locg⟩
  ·exact ⟨G.lts,G.locs⟩
  ·have hi:i<x.2.2.2.length:=by rw [← G.len];exact (List.getElem?_eq_some_iff.1 hy).1
   exact ⟨(G.cell i y _ hy (List.getElem?_eq_getElem hi)).lt hb,(G.blk i y c hy hb).2.2⟩
theorem zbc {loc:Nat} {h:AH} (hok:h.ok) (hloc:loc<=h.next) {out:Value} {gs:List Gr} (O:Outs loc h out gs) (hn:gs.length<=1000) (x:Gr) (hx:GG loc h x.1 x.2.1 x.2.2.1 x.2.2.2) (hsep:∀ c,inG x c->¬ zy out c) :
  ∃ out' h3,zAD E .append [126,126] (some [out,.slice (some ⟨h.next,0,none⟩) 1 1]) (h.new (.row [ptr x.1] 128 0 false))=one (out',h3)/\Outs loc h3 out' (gs++[x])/\Fx (fun c=>zy out c) h h3/\(∀ c,zy out' c->h.next<=c):=by
 have hrow:=zI h (.row [ptr x.1] 128 0 false)
 have hlx:∀ c,inG x c->c<h.next:=by
  intro c hc
  rcases hc with rfl|rfl|⟨i,y,hy,hb⟩
  ·exact hx.ltg
  ·exact hx.lts
  ·have hi:i<x.2.2.2.length:=by rw [← hx.len];exact (List.getElem?_eq_some_iff.1 hy).1
   exact (hx.cell i y _ hy (List.getElem?_eq_getElem hi)).lt hb
 have hnew:∀ (n cap c:Nat),zy (.slice (some ⟨h.next+1,0,none⟩) n cap) c->c=h.next+1:=by
  rintro n cap c ⟨m,cap',e⟩
  simp only [Value.slice.injEq,Option.some.injEq,Addr.mk.injEq] at e
  exact e.1.1.symm
 have fin:∀ {h3:AH} {cap:Nat},cap=UNK+1->h3.next=h.next+2->Fx (fun c=>zy out c) h h3->h3.get (h.next+1)=some (.row ((gs++[x]).map fun x=>ptr x.1) 128 1 false)->Outs loc h3 (.slice (some ⟨h.next+1,0,none⟩) (gs.length+1) cap) (gs++[x]):=by
  rintro h3 cap rfl e1 f e2
  refine ⟨.inr ⟨h.next+1,by simp,e2,by omega,by omega⟩,?_,?_⟩
  ·intro y hy
   rcases List.mem_append.1 hy with hy|hy
   ·exact (O.gg y hy).fx f (O.sep y hy _ (.inl rfl)) (O.sep y hy _ (.inr (.inl rfl))) (fun i c b hc hb=>O.sep y hy b (.inr (.inr ⟨i,c,hc,hb⟩)))
   ·simp only [List.mem_singleton] at hy
    subst hy
    exact hx.fx f (hsep _ (.inl rfl)) (hsep _ (.inr (.inl rfl))) (fun i c b hc hb=>hsep b (.inr (.inr ⟨i,c,hc,hb⟩)))
  ·intro y hy c hc hb
   have hc1:=hnew _ _ c hb
   rcases List.mem_append.1 hy with hy|hy
   ·have:=(O.lt (.inr ⟨y,hy,hc⟩)).1
    omega
   ·simp only [List.mem_singleton] at hy
    subst hy
    have:=hlx c hc
    omega
 rcases O.sl with ⟨rfl,rfl⟩|⟨bo,rfl,e2,e3,e4⟩
 ·refine ⟨_,_,append_nil elt126 hrow rfl,fin rfl rfl (((Fx.refl hok).new _).new _) ?_,((Fx.refl hok).new _).new _,fun c hc=>by rw [hnew _ _ c hc];omega⟩
  exact zI (h.new _) _
 ·have hb:(h.new (.row [ptr x.1] 128 0 false)).get bo=some (.row (gs.map fun x=>ptr x.1) 128 1 false):=by rw [zK (by omega)];exact e2
  have f1:Fx (fun c=>zy (.slice (some ⟨bo,0,none⟩) gs.length (UNK+1)) c) h (h.new (.row [ptr x.1] 128 0 false)):=(Fx.refl hok).new _
  have f2:=(f1.upd (b:=bo) (.inl ⟨_,_,rfl⟩) none).new (.row ((gs.map fun x=>ptr x.1)++[ptr x.1]) 128 1 false)
  refine ⟨_,_,zBz elt126 (by omega) hb (by simp) (by omega) hrow rfl rfl,fin rfl rfl f2 ?_,f2,fun c hc=>by rw [hnew _ _ c hc];omega⟩
  rw [List.map_append]
  exact zI ((h.new _).upd bo none) _
def zBh (nums:List Int) (L:GL):List zAF:=zC2 nums (List.replicate L.n.toNat []) L.eds
def zDh:List CL->List GL->List (List zAF)
 | _,[]=>[]
 | cs,L::Ls=>zBh (zBZ cs L.labs).1 L::zDh (zBZ cs L.labs).2 Ls
theorem graphs4 {k:AH} {v0:Value} {els:List (List Value)} {Ls:List GL} (a:Args k v0 els Ls) {bn:Nat} (hbn:k.next<=bn) {K:KF} {ad:Option Addr} {cp:Nat} (hv0:v0=.slice ad els.length cp) {G:List (List zAF)}
  (hK:∀ kk out gs,Own k kk->Outs k.next kk out gs->gs.length=els.length->(∀ (i:Nat) (x:Gr) (L:GL),gs[i]?=some x->Ls[i]?=some L->GrOf L x)->gs.map (fun x=>x.2.2.2)=G->K .ret [out] kk) :
  ∀ (m i:Nat),i+m=els.length->∀ kk v n out gs,Own k kk->NM k kk bn v n->(∀ c,zy v c->k.next<=c)->n.length<=4000*els.length+4000*i->gs.map (fun x=>x.2.2.2)++zDh n (Ls.drop i)=G->Outs k.next kk out gs->gs.length=i->
   (∀ (i:Nat) (x:Gr) (L:GL),gs[i]?=some x->Ls[i]?=some L->GrOf L x)->(∀ c,(zy out c\/∃ x∈gs,inG x c)->c≠bn/\¬ zy v c)->
   P90_13 true K (ptr bn) out v0 (.int .i64 (els.length:Int)) (.int .i64 (i:Int)) kk:=by
 have hfew:=a.few
 intro m
 induction m with
 | zero=>
  intro i hi kk v n out gs ho hm hb hn hGG hO hgl hgr hsep
  refine zK0 ?_
  simp only [zY,zA,zAA]
  refine ⟨fun h=>by omega,fun _=>zUM ?_⟩
  exact hK kk out gs ho hO (by omega) hgr (by rw [List.drop_eq_nil_of_le (by have:=a.len;omega)] at hGG;simpa [zDh] using hGG)
 | succ m ih=>
  intro i hi kk v n out gs ho hm hb hn hGG hO hgl hgr hsep
  have hin:i<els.length:=by omega
  refine zK0 ?_
  simp only [zY,zA,zAA]
  refine ⟨fun _=>zUZ ?_,fun h=>by omega⟩
  obtain ⟨L,b,o,c,vs,ty,es,ro,vl,ve,elsL,q0,q1,q2,q3,q4,q5,q6,q7,q8,q9,q10,q11⟩:=a.at hin
  have gb:kk.get b=some (.row vs ty es ro):=(ho.ext.get b q3).trans q2
  rw [hv0] at q1
  simp only [Value.slice.injEq] at q1
  obtain ⟨q11',_,_⟩:=q1
  subst q11'
  obtain ⟨s1,s2,s3,s4⟩:=zDN q11
  obtain ⟨N,hN⟩:=Int.eq_ofNat_of_zero_le (show 0<=L.n by omega)
  obtain ⟨al,cl,hvl⟩:=q8.slice
  rw [RLab.length q9] at hvl
  obtain ⟨ae,ce,hve⟩:=q10.slice
  rw [List.length_map] at hve
  have hbox:=box25 (k:=kk) (e:=[.int .i64 L.n,vl,ve]) (by simp [zr];exact ⟨q6,q7⟩) rfl
  simp only [hv0,zbk hin,zA,za zEd gb q4,q5,z_25,zd,zL,zV,hbox]
  refine zUY ?_
  have hkn:=ho.ext.next
  have f1:Fx NoB kk ((kk.new (.row [.int .i64 0,.slice none 0 0,.slice none 0 0] 25 0 false)).upd kk.next (some (.row [.int .i64 L.n,vl,ve] 25 0 false))):=((Fx.refl ho.ext.ok).new _).upd (.inr (Nat.le_refl _)) _
  have t1:((kk.new (.row [.int .i64 0,.slice none 0 0,.slice none 0 0] 25 0 false)).upd kk.next (some (.row [.int .i64 L.n,vl,ve] 25 0 false))).get kk.next=some (.row [.int .i64 L.n,vl,ve] 25 0 false):=zR _ _ _
  have n1:((kk.new (.row [.int .i64 0,.slice none 0 0,.slice none 0 0] 25 0 false)).upd kk.next (some (.row [.int .i64 L.n,vl,ve] 25 0 false))).next=kk.next+1:=rfl
  generalize ((kk.new (.row [.int .i64 0,.slice none 0 0,.slice none 0 0] 25 0 false)).upd kk.next (some (.row [.int .i64 L.n,vl,ve] 25 0 false)))=k1 at f1 t1 n1
  have l0:=zF (P:=E) zAS (o:=0) t1
  simp only [lnth] at l0
  rw [hN] at l0
  simp only [zA2,Nat.add_zero,l0,zA,mk129 (show N<=1000000 by omega),zL,pb131,zd,zV]
  refine zUX ?_
  have f2:Fx NoB kk ((k1.new (.row (List.replicate N (.slice none 0 0)) 132 0 false)).new (.row [.slice (some ⟨k1.next,0,none⟩) N N] 131 0 false)):=(f1.new _).new _
  have t2:((k1.new (.row (List.replicate N (.slice none 0 0)) 132 0 false)).new (.row [.slice (some ⟨k1.next,0,none⟩) N N] 131 0 false)).get kk.next=some (.row [.int .i64 L.n,vl,ve] 25 0 false):=by
   rw [zK (by simp;omega),zK (by omega)];exact t1
  have ts2:((k1.new (.row (List.replicate N (.slice none 0 0)) 132 0 false)).new (.row [.slice (some ⟨k1.next,0,none⟩) N N] 131 0 false)).get k1.next=some (.row (List.replicate N (.slice none 0 0)) 132 0 false):=by
   rw [zK (by simp)];exact zI _ _
  have tg2:((k1.new (.row (List.replicate N (.slice none 0 0)) 132 0 false)).new (.row [.slice (some ⟨k1.next,0,none⟩) N N] 131 0 false)).get (k1.next+1)=some (.row [.slice (some ⟨k1.next,0,none⟩) N N] 131 0 false):=zI (k1.new _) _
  have n2:((k1.new (.row (List.replicate N (.slice none 0 0)) 132 0 false)).new (.row [.slice (some ⟨k1.next,0,none⟩) N N] 131 0 false)).next=k1.next+2:=rfl
  simp only [AH.next_new]
  generalize ((k1.new (.row (List.replicate N (.slice none 0 0)) 132 0 false)).new (.row [.slice (some ⟨k1.next,0,none⟩) N N] 131 0 false))=k2 at f2 t2 ts2 tg2 n2
  have l1:=zF (P:=E) zGI (o:=1) t2
  simp only [lnth] at l1
  rw [hvl] at l1
  simp only [zBB,Nat.zero_add,l1,zA,zPJ,mk47 (show L.labs.length<=1000000 by omega),zL]
  refine zUW ?_
  have f3:Fx NoB kk (k2.new (.row (List.replicate L.labs.length (.int .i64 0)) 3 0 false)):=f2.new _
  have t3:(k2.new (.row (List.replicate L.labs.length (.int .i64 0)) 3 0 false)).get kk.next=_:=(zK (by omega)).trans t2
  have ts3:(k2.new (.row (List.replicate L.labs.length (.int .i64 0)) 3 0 false)).get k1.next=_:=(zK (by omega)).trans ts2
  have tg3:(k2.new (.row (List.replicate L.labs.length (.int .i64 0)) 3 0 false)).get (k1.next+1)=_:=(zK (by omega)).trans tg2
  have tm3:(k2.new (.row (List.replicate L.labs.length (.int .i64 0)) 3 0 false)).get k2.next=some (.row (ints (List.replicate L.labs.length 0)) 3 0 false):=by
   rw [zI];simp [ints]
  have n3:(k2.new (.row (List.replicate L.labs.length (.int .i64 0)) 3 0 false)).next=k2.next+1:=rfl
  generalize (k2.new (.row (List.replicate L.labs.length (.int .i64 0)) 3 0 false))=k3 at f3 t3 ts3 tg3 tm3 n3
  have l3:=zF (P:=E) zGI (o:=1) t3
  simp only [lnth] at l3
  rw [hvl] at l3
  simp only [zBB,Nat.zero_add,l3,zA,zPI]
  have o3:=f3.own ho (fun _ h=>h.elim)
  have hm3:=hm.fx f3 (fun h=>h) (fun _ _ h=>h)
  have hbnlt:=hm.lt
  have hvlt:∀ c,zy v c->c<kk.next:=fun c hc=>zJf hm hc
  have key:=graphs2 (k:=k) hbn (K:=K) (vl:=vl) hvl q8 q9 s3 (v8:=out) (v10:=ptr kk.next) (v11:=ptr (k1.next+1)) (v34:=.slice (some ⟨b,o,none⟩) els.length cp) (v35:=.int .i64 (els.length:Int)) (v36:=.int .i64 (i:Int))
   (bm:=k2.next) (base:=n.length) (by omega) (by omega) (k0:=k3) (w0:=v) (by omega) (N1:=(zBZ n L.labs).1) (cs1:=(zBZ n L.labs).2) ?_ L.labs.length 0 (by omega) k3 v n (List.replicate L.labs.length 0) o3 hm3 hb (by omega) rfl (by simp) (Fx.refl o3.ext.ok) (fun c hc=>.inl hc) (by omega) (fun h=>by have:=hvlt _ h;omega) (by omega) tm3 (by simp) (fun i h=>by omega)
  ·rw [hvl] at key
   simpa using key
  ·intro kk4 v4 n4 nums o4 hm4 hb4 hn4 hcs4 hnums4 f4 hbl4 hne4 hnb4 hrow4 hlen4 hok4
   refine zUS ?_
   have hsafe:∀ c,k3.next<=kk.next+10->c<k3.next->kk.next<=c->c≠k2.next->¬ ((c=bn\/zy v c)\/c=k2.next):=by
    intro c _ h1 h2 h3
    rintro ((h|h)|h)
    ·omega
    ·have:=hvlt c h;omega
    ·exact h3 h
   have t4:=(f4.get kk.next (by omega) (hsafe _ (by omega) (by omega) (by omega) (by omega))).trans t3
   have ts4:=(f4.get k1.next (by omega) (hsafe _ (by omega) (by omega) (by omega) (by omega))).trans ts3
   have tg4:=(f4.get (k1.next+1) (by omega) (hsafe _ (by omega) (by omega) (by omega) (by omega))).trans tg3
   have l4:=zF (P:=E) zEe (o:=2) t4
   simp only [lnth] at l4
   rw [hve] at l4
   simp only [zBJ,Nat.zero_add,l4,zA,zPH]
   have hkk4:=f4.next
   have hG4:GG k.next kk4 (k1.next+1) k1.next (List.replicate N (.slice none 0 0)) (List.replicate N []):=by
    refine ⟨?_,ts4,by simp,by omega,by omega,by omega,by omega,by omega,?_,?_,?_⟩
    ·rw [List.length_replicate];exact tg4
    ·intro i c S hc hS
     have:=List.getElem?_replicate (a:=Value.slice none 0 0) (n:=N) (i:=i)
     rw [hc] at this
     have h2:=List.getElem?_replicate (a:=([]:zAF)) (n:=N) (i:=i)
     rw [hS] at h2
     split at this
     ·rename_i hi
      rw [if_pos hi] at h2
      cases this;cases h2
      exact .inl ⟨rfl,rfl⟩
     ·cases this
    ·intro i c b hc hb
     obtain ⟨n,cap,rfl⟩:=hb
     have:=List.getElem?_replicate (a:=Value.slice none 0 0) (n:=N) (i:=i)
     rw [hc] at this
     split at this <;> cases this
    ·intro i j c d b hc hd hb
     obtain ⟨n,cap,rfl⟩:=hb
     have:=List.getElem?_replicate (a:=Value.slice none 0 0) (n:=N) (i:=i)
     rw [hc] at this
     split at this <;> cases this
   have hrepl:∀ (i:Nat) (x:Value) (c:Nat),(List.replicate N (Value.slice none 0 0))[i]?=some x->¬ zy x c:=by
    rintro i x c hx ⟨n,cap,rfl⟩
    have:=List.getElem?_replicate (a:=Value.slice none 0 0) (n:=N) (i:=i)
    rw [hx] at this
    split at this <;> cases this
   have key3:=graphs3 (k:=k) (K:=K) (L:=L) hve q10 q11 hN (v3:=ptr bn) (v8:=out) (v34:=.slice (some ⟨b,o,none⟩) els.length cp) (v35:=.int .i64 (els.length:Int)) (v36:=.int .i64 (i:Int)) (bm:=k2.next) (bg:=k1.next+1) (bs:=k1.next) hlen4 hok4
    (k0:=kk4) (cells0:=List.replicate N (.slice none 0 0)) (SS1:=zBh nums L) (vis:=zSD L) (fun h=>h) ?_ L.eds.length 0 (by omega) kk4 (List.replicate N (.slice none 0 0)) (List.replicate N []) o4 hG4 (by simp) (fun i S hS=>by
     have h2:=List.getElem?_replicate (a:=([]:zAF)) (n:=N) (i:=i)
     rw [hS] at h2
     split at h2
     ·cases h2;exact ⟨(fun x hx=>by cases hx),by simp⟩
     ·cases h2) (by unfold zBh;rw [hN];rfl) (Fx.refl o4.ext.ok) (fun i x c hx hc=>absurd hc (hrepl i x c hx)) hrow4 (by omega) (by omega) (fun i x hx=>hrepl i x _ hx) (by omega)
   ·rw [hve] at key3
    simpa using key3
   ·intro kk5 cells SS o5 hG5 hNc hst hSS5 f5 hcb5
    refine zUO ?_
    have f5':Fx (fun c=>c=k1.next) kk4 kk5:=f5.mono (fun c hc=>hc.elim (fun h=>.inl h) fun ⟨i,x,hx,hb⟩=>absurd hb (hrepl i x c hx))
    have hold:∀ c,(zy out c\/∃ x∈gs,inG x c)->c<kk.next/\c≠bn/\¬ zy v c:=fun c hc=>⟨(hO.lt hc).1,hsep c hc⟩
    have hO3:=hO.fx f3 (fun _ _ h=>h) (fun _ _ _ _ h=>h)
    have hO4:=hO3.fx f4 (fun c hc h=>by
     have:=hold c (.inl hc)
     rcases h with (h|h)|h
     ·exact this.2.1 h
     ·exact this.2.2 h
     ·omega) (fun x hx c hc h=>by
     have:=hold c (.inr ⟨x,hx,hc⟩)
     rcases h with (h|h)|h
     ·exact this.2.1 h
     ·exact this.2.2 h
     ·omega)
    have hO5:=hO4.fx f5' (fun c hc h=>by have:=hold c (.inl hc);omega) (fun x hx c hc h=>by have:=hold c (.inr ⟨x,hx,hc⟩);omega)
    have hinew:∀ c,inG (k1.next+1,k1.next,cells,SS) c->(c=k1.next+1\/c=k1.next\/kk4.next<=c):=by
     intro c hc
     rcases hc with h|h|⟨i',y,hy,hb⟩
     ·exact .inl h
     ·exact .inr (.inl h)
     ·exact .inr (.inr ((hcb5 i' y c hy hb).elim (fun ⟨i2,x2,h1,h2⟩=>absurd h2 (hrepl i2 x2 c h1)) fun h=>h))
    have hm5:NM k kk5 bn v4 n4:=hm4.fx f5' (fun h=>by omega) (fun c hc h=>by
     rcases hbl4 c hc with h'|h'
     ·have:=hvlt c h';omega
     ·omega)
    obtain ⟨out',h3,r1,r2,r3,r4⟩:=zbc o5.ext.ok (by have:=o5.ext.next;exact this) hO5 (by omega) (k1.next+1,k1.next,cells,SS) hG5 (fun c hc h=>by
     have:=hold c (.inl h)
     rcases hinew c hc with h'|h'|h' <;> omega)
    simp only [zA,bs126,zL,r1]
    refine zUN ?_
    simp only [zAM _ (zD7 hin (by omega)),zA]
    have houtb:∀ c,zy out c->c≠bn/\¬ zy v4 c:=fun c hc=>by
     have:=hold c (.inl hc)
     refine ⟨this.2.1,fun h=>?_⟩
     rcases hbl4 c h with h'|h'
     ·exact this.2.2 h'
     ·omega
    have hm6:NM k h3 bn v4 n4:=hm5.fx r3 (fun h=>(houtb bn h).1 rfl) (fun c hc h=>(houtb c h).2 hc)
    have:=ih (i+1) (by omega) h3 v4 n4 out' (gs++[(k1.next+1,k1.next,cells,SS)]) (r3.own o5 (fun c hc=>(hO.lt (.inl hc)).2)) hm6 hb4 (by omega) (by rw [zFw q0] at hGG;simp only [zDh] at hGG;rw [List.map_append,List.append_assoc,hcs4,← hGG,hSS5,hnums4];rfl) r2 (by simp [hgl]) (fun j x L' hx hL'=>by
     rcases Nat.lt_or_ge j gs.length with hj|hj
     ·rw [List.getElem?_append_left hj] at hx
      exact hgr j x L' hx hL'
     ·rw [List.getElem?_append_right hj] at hx
      have hj0:j=gs.length:=by
       have:=(List.getElem?_eq_some_iff.1 hx).1
       simp at this;omega
      subst hj0
      simp only [Nat.sub_self,List.getElem?_cons_zero,Option.some.injEq] at hx
      subst hx
      rw [hgl,q0] at hL'
      cases hL'
      exact ⟨by simp only;rw [hNc,hN],fun i S hS=>by simp only;rw [hNc];exact hst i S hS⟩) (fun c hc=>by
     rcases hc with hc|⟨x,hx,hc⟩
     ·have h1:=r4 c hc
      have h2:=hm5.lt
      refine ⟨by omega,fun h=>by have:=zJf hm5 h;omega⟩
     ·rcases List.mem_append.1 hx with hx|hx
      ·have:=hold c (.inr ⟨x,hx,hc⟩)
       refine ⟨this.2.1,fun h=>?_⟩
       rcases hbl4 c h with h'|h'
       ·exact this.2.2 h'
       ·omega
      ·simp only [List.mem_singleton] at hx
       subst hx
       have hc':=hinew c hc
       refine ⟨by rcases hc' with h'|h'|h' <;> omega,fun h=>?_⟩
       have h4:=zJf hm4 h
       rcases hbl4 c h with h5|h5
       ·have:=hvlt c h5
        rcases hc' with h'|h'|h' <;> omega
       ·rcases hc' with h'|h'|h' <;> omega)
    rw [hv0] at this
    simpa using this
theorem GG.same {loc bg bs:Nat} {h:AH} {cells:List Value} {SS:List zAF} (G:GG loc h bg bs cells SS) (w:Nat):GG loc ⟨h.t,h.next,w⟩ bg bs cells SS:=
 ⟨G.g,G.s,G.len,G.ne,G.ltg,G.lts,G.locg,G.locs,fun i c S hc hS=>G.cell i c S hc hS,G.blk,G.dis⟩
def zFH (Ls:List GL):List (List zAF):=zDh (zGx Ls []) Ls
theorem call90 {k:AH} {v0:Value} {els:List (List Value)} {Ls:List GL} (hok:k.ok) (hne:els.length≠0) (a:Args k v0 els Ls) :
  Ev true ((zW E).call 90 [v0] k) fun x=>∃ gs,Outs k.next x.2 x.1 gs/\gs.length=els.length/\(∀ (i:Nat) (y:Gr) (L:GL),gs[i]?=some y->Ls[i]?=some L->GrOf L y)/\gs.map (fun x=>x.2.2.2)=zFH Ls/\Fx NoB k x.2:=by
 obtain ⟨ad,cp,hv⟩:=a.arr.slice
 refine zeq (Rp:=fun x k'=>∃ gs,Outs k.next k' x gs/\gs.length=els.length/\(∀ (i:Nat) (y:Gr) (L:GL),gs[i]?=some y->Ls[i]?=some L->GrOf L y)/\gs.map (fun x=>x.2.2.2)=zFH Ls/\Fx NoB k k') (zcW ?_)
 refine zcV ?_
 simp only [z_197,zd,zL,zV]
 refine zcU ?_
 have o1:=(Own.fresh k).new (.row [.slice none 0 0] 197 0 false)
 have t1:=zI k.fresh (.row [.slice none 0 0] 197 0 false)
 have n1:(k.fresh.new (.row [.slice none 0 0] 197 0 false)).next=k.next+1:=rfl
 simp only [zZ] at t1 ⊢
 generalize k.fresh.new (.row [.slice none 0 0] 197 0 false)=k1 at o1 t1 n1
 have hm:NM k k1 k.next (.slice none 0 0) []:=⟨t1,by omega,.inl ⟨rfl,rfl⟩⟩
 have hnb:∀ c,¬ zy (.slice none 0 0) c:=by rintro c ⟨n,cap,h⟩;cases h
 rw [hv]
 simp only [zA,zSL]
 rw [← hv]
 have a':Args k v0 els Ls:=a
 refine graphs1 a' (bn:=k.next) (Nat.le_refl _) hv (fin:=zGx Ls []) (fun kk v n ho hm hb hn hfin=>zUb ?_) els.length 0 (by omega) k1 (.slice none 0 0) [] o1 hm (fun c h=>absurd h (hnb c)) (by simp) (by simp)
 refine zUa ?_
 rw [hv]
 simp only [zA,zPK]
 rw [← hv]
 refine graphs4 a' (bn:=k.next) (Nat.le_refl _) hv (G:=zFH Ls) (fun kk out gs ho hO hl hg hGe=>?_) els.length 0 (by omega) kk v n (.slice none 0 0) [] ho hm hb (by omega) (by rw [hfin];rfl) ⟨.inl ⟨rfl,rfl⟩,by simp,by simp⟩ rfl (by simp) (fun c h=>by
  rcases h with h|⟨x,hx,_⟩
  ·exact absurd h (hnb c)
  ·cases hx)
 simp only [zAJ,zT,true_and]
 have hfl:zh out=false:=by
  rcases hO.sl with ⟨_,h⟩|⟨bo,h,_⟩
  ·rw [h] at hl;simp at hl;omega
  ·rw [h];rfl
 refine ⟨.inl hfl,gs,?_,hl,hg,hGe,?_⟩
 ·exact ⟨hO.sl,fun x hx=>(hO.gg x hx).same _,hO.sep⟩
 ·refine ⟨?_,ho.ext.next,fun c hc _=>ho.ext.get c hc,fun m h1 _ h3=>?_⟩
  ·show cond (Nat.ble k.wm kk.wm) k.wm kk.wm<=kk.next+UNK
   have:=ho.ext.ok
   unfold AH.ok at this
   cases hcc:Nat.ble k.wm kk.wm with
   | true=>rw [ble_true] at hcc;simp only [cond_true];omega
   | false=>exact this
  ·show m<=cond (Nat.ble k.wm kk.wm) k.wm kk.wm
   have:=ho.wm
   cases hcc:Nat.ble k.wm kk.wm with
   | true=>exact h1
   | false=>simp only [cond_false];omega
end Go.Proofs
