import Derived.Sort.AssemblyPlain
import Derived.Test.YthmnhjcmefjgjaaGreatDoorXAH
import Derived.Test.YthmnhjcmefjgjaaGreatDoorXAD
import Derived.Test.YthmnhjcmefjgjaaGreatDoorXAE
import Derived.Test.YthmnhjcmefjgjaaGreatDoorXAF
set_option linter.all false
set_option linter.unusedSectionVars false
set_option autoImplicit true
set_option relaxedAutoImplicit true
namespace Go.Proofs
open Go Go.AM
set_option maxRecDepth 100000
set_option maxHeartbeats 1000000
def zdG (q:Int×Int):Rel->Rel
 | []=>[q]
 | p::R=>if klt (.agg ⟨zH q⟩) (.agg ⟨zH p⟩) then q::p::R else p::zdG q R
theorem zOj (q:Int×Int):∀ R:Rel,zAy (.agg ⟨zH q⟩) (.bool true) (ent R)=ent (zdG q R)
 | []=>rfl
 | p::R=>by
  have:=zOj q R
  simp only [ent,List.map_cons,zAy,zdG] at this ⊢
  split
  ·rfl
  ·rw [this];rfl
theorem zJu (q:Int×Int):∀ (R:Rel) (x:Int×Int),x∈zdG q R ↔ x=q\/x∈R
 | [],x=>by simp [zdG]
 | p::R,x=>by
  simp only [zdG]
  split
  ·simp
  ·simp only [List.mem_cons,zJu q R]
   constructor
   ·rintro (h|h|h) <;> simp [h]
   ·rintro (h|h|h) <;> simp [h]
theorem zIn {q:Int×Int}:∀ {R:Rel},R.Nodup->q ∉ R->(zdG q R).Nodup
 | [],_,_=>by simp [zdG]
 | p::R,h,hq=>by
  obtain ⟨h1,h2⟩:=List.nodup_cons.1 h
  simp only [List.mem_cons,not_or] at hq
  simp only [zdG]
  split
  ·exact List.nodup_cons.2 ⟨by simp [hq.1,hq.2],h⟩
  ·exact List.nodup_cons.2 ⟨by rw [zJu];simp [h1];exact fun e=>hq.1 e.symm,zIn h2 hq.2⟩
theorem zlD (q:Int×Int):veq 3 (.agg ⟨zH q⟩) (.agg ⟨zH q⟩)=true:=by
 show zMj 2 [iI q.1,iI q.2] [iI q.1,iI q.2]=true
 simp only [zMj,zCm,Bool.and_self]
theorem zqx (q:Int×Int):∀ {R:Rel},R.Nodup->zBY E 54 (.agg ⟨zH q⟩) (.bool true) (ent R)=some (ent R)
 | [],_=>rfl
 | p::R,h=>by
  obtain ⟨h1,h2⟩:=List.nodup_cons.1 h
  have ih:=zqx q h2
  simp only [ent,List.map_cons,zBY] at ih ⊢
  rw [zTw,ih]
  by_cases e:q=p
  ·subst e
   simp [zlD]
  ·simp [e]
theorem zhJ {h:AH} {m ver:Nat} {R:Rel} (hm:h.get m=some (.map (ent R) ver)) (hR:R.Nodup) (q:Int×Int) :
  ∃ R',zAP E 174 (some (.map (some m))) (some (.agg ⟨zH q⟩)) (some (.bool true)) h=one (undef,h.upd m (some (.map (ent R') (ver+1))))/\R'.Nodup/\∀ x,x∈R' ↔ x=q\/x∈R:=by
 have dg:zi (.agg ⟨zH q⟩)=true:=rfl
 by_cases e:q∈R
 ·refine ⟨R,?_,hR,fun x=>⟨.inr,fun h=>h.elim (fun h=>h ▸ e) id⟩⟩
  simp only [zAP,zBA,ziv,hm,zNM,dg,Bool.and_self,cond_true,zB5,zOu hR,e,if_true,zqx q hR,u1]
 ·refine ⟨zdG q R,?_,zIn hR e,fun x=>zJu q R x⟩
  simp only [zAP,zBA,ziv,hm,zNM,dg,Bool.and_self,cond_true,zB5,zOu hR,e,if_false,zOj,u1]
theorem zln {a b:Option Addr} {m:Nat}:zAo E 176 (some [(0,.pointer a),(1,.pointer b),(2,.map (some m))])=some (.agg ⟨zAu (.pointer a) (.pointer b) m⟩):=by kernel_rfl
theorem zmj {k:AH} {a b:Option Addr} {m:Nat} :
  zf E 176 (k.new (rO [.pointer none,.pointer none,.map none] 176)) (some (ptr k.next)) (some (.agg ⟨zAu (.pointer a) (.pointer b) m⟩))=one (undef,(k.new (rO [.pointer none,.pointer none,.map none] 176)).upd k.next (some (.row (zAu (.pointer a) (.pointer b) m) 176 0 false))):=by
 rw [z7 (P:=E) zOB (x:=.agg ⟨zAu (.pointer a) (.pointer b) m⟩) (cs:=zAu (.pointer a) (.pointer b) m) (zI k _) rfl rfl (by simp) (by simp [zAu,zq])]
 rfl
def zBP (p:Int×Int):Int×Int:=(p.2,p.1)
theorem zTG {h:AH} {lo b1 b2 m ver:Nat} {es:List (Value×Value)} (bp:b1<lo) (aW:b2<lo) (hm:lo<=m) (hg:h.get m=some (.map es ver)) (bw:es.flatMap (fun e=>zDl 4 e.2)=[]) :
  zD6 h lo 1000 (zDl 4 (.agg ⟨zAu (ptr b1) (ptr b2) m⟩)) []=[m]:=by
 have e0:zDl 4 (.agg ⟨zAu (ptr b1) (ptr b2) m⟩)=[b1,b2,m]:=rfl
 rw [e0]
 have s1:zD6 h lo 1000 [b1,b2,m] []=zD6 h lo 999 [b2,m] []:=by
  show (if Nat.ble (b1+1) lo||[].any (Nat.beq b1) then _ else _)=_
  rw [ble_true.2 (by omega)];rfl
 have s2:zD6 h lo 999 [b2,m] []=zD6 h lo 998 [m] []:=by
  show (if Nat.ble (b2+1) lo||[].any (Nat.beq b2) then _ else _)=_
  rw [ble_true.2 (by omega)];rfl
 have s3:zD6 h lo 998 [m] []=zD6 h lo 997 (zdl (.map es ver)++[]) [m]:=by
  show (if Nat.ble (m+1) lo||[].any (Nat.beq m) then _ else (match h.get m with|some o=>zD6 h lo 997 (zdl o++[]) [m]|none=>_))=_
  rw [ble_false.2 (by omega),hg];rfl
 rw [s1,s2,s3]
 simp only [zdl,bw,List.append_nil]
 rfl
theorem zSY {k l:AH} (o:Own k l):Fx NoB k (l.wmTo k.wm):=by
 refine ⟨?_,o.ext.next,fun c hc _=>o.ext.get c hc,fun m h1 _ h3=>?_⟩
 ·show cond (Nat.ble k.wm l.wm) k.wm l.wm<=l.next+UNK
  have:=o.ext.ok
  unfold AH.ok at this
  cases bT:Nat.ble k.wm l.wm with
  | true=>rw [ble_true] at bT;simp only [cond_true];omega
  | false=>exact this
 ·show m<=cond (Nat.ble k.wm l.wm) k.wm l.wm
  have:=o.wm
  cases bT:Nat.ble k.wm l.wm with
  | true=>exact h1
  | false=>simp only [cond_false];omega
theorem zkC {k:AH} {b1 b2 m ver:Nat} {R:Rel} (aa:k.ok) (bp:b1<k.next) (aW:b2<k.next) (hm:k.get m=some (.map (ent R) ver)) (aT:m<k.next) :
  Ev false ((zY E).call 125 [.agg ⟨zAu (ptr b1) (ptr b2) m⟩] k) fun x=>∃ m' ver' R',x.1=.agg ⟨zAu (ptr b2) (ptr b1) m'⟩/\x.2.get m'=some (.map (ent R') ver')/\k.next<=m'/\m'<x.2.next/\R'.Nodup/\(∀ p,p∈R' ↔ zBP p∈R)/\Fx NoB k x.2:=by
 refine zUZ (s:=false) (Rp:=fun v k'=>∃ m' ver' R',v=.agg ⟨zAu (ptr b2) (ptr b1) m'⟩/\k'.get m'=some (.map (ent R') ver')/\k.next<=m'/\m'<k'.next/\R'.Nodup/\(∀ p,p∈R' ↔ zBP p∈R)/\Fx NoB k k') zhA zcz (zg9 _ _) (by kernel_rfl) ?_
 have key:Ev false (AM.R.andThen (evC E (zY E) none (zh Tryz.f125) ⟨⟨Tryz.f125.ntmps,zCT [.agg ⟨zAu (ptr b1) (ptr b2) m⟩] 0 .e⟩,k.fresh,[]⟩) (zAc E Tryz.f125)) fun x=>
   ∃ m' ver' R',x.1=.agg ⟨zAu (ptr b2) (ptr b1) m'⟩/\x.2.get m'=some (.map (ent R') ver')/\k.next<=m'/\m'<x.2.next/\R'.Nodup/\(∀ p,p∈R' ↔ zBP p∈R)/\Own k x.2:=by
  refine zkt (Rp:=fun v k'=>∃ m' ver' R',v=.agg ⟨zAu (ptr b2) (ptr b1) m'⟩/\k'.get m'=some (.map (ent R') ver')/\k.next<=m'/\m'<k'.next/\R'.Nodup/\(∀ p,p∈R' ↔ zBP p∈R)/\Own k k') (zbD ?_)
  simp only [zh7,zg,zK,zT,ziH]
  refine zbC ?_
  have o1:=((Own.fresh k).new (.row (zAu (ptr b1) (ptr b2) m) 176 0 false)).new (rO [.pointer none,.pointer none,.map none] 176)
  have t1:((k.fresh.new (.row (zAu (ptr b1) (ptr b2) m) 176 0 false)).new (rO [.pointer none,.pointer none,.map none] 176)).get k.next=some (.row (zAu (ptr b1) (ptr b2) m) 176 0 false):=by
   rw [zL (by simp)];exact zI k.fresh _
  have r1:((k.fresh.new (.row (zAu (ptr b1) (ptr b2) m) 176 0 false)).new (rO [.pointer none,.pointer none,.map none] 176)).get (k.next+1)=some (rO [.pointer none,.pointer none,.map none] 176):=zI (k.fresh.new _) _
  have n1:((k.fresh.new (.row (zAu (ptr b1) (ptr b2) m) 176 0 false)).new (rO [.pointer none,.pointer none,.map none] 176)).next=k.next+2:=rfl
  simp only [zb,AH.next_new]
  generalize ((k.fresh.new (.row (zAu (ptr b1) (ptr b2) m) 176 0 false)).new (rO [.pointer none,.pointer none,.map none] 176))=k1 at o1 t1 r1 n1
  have l0:=zF (P:=E) zDN (o:=0) t1
  have l1:=zF (P:=E) zDN (o:=1) t1
  simp only [lnth,zAu] at l0 l1
  simp only [zh6,zOw,zJ6,Nat.add_zero,Nat.zero_add,l0,l1,zA,zK,zln,ziH,zg,zT,zmj]
  refine zbB ?_
  have o2:=((o1.new (.map [] 0)).new (rO [.pointer none,.pointer none,.map none] 176)).upd (b:=(k1.new (.map [] 0)).next) (by simp;omega) (some (.row (zAu (ptr b2) (ptr b1) k1.next) 176 0 false))
  have q1:(((k1.new (.map [] 0)).new (rO [.pointer none,.pointer none,.map none] 176)).upd (k1.new (.map [] 0)).next (some (.row (zAu (ptr b2) (ptr b1) k1.next) 176 0 false))).get k1.next=some (.map [] 0):=by
   rw [zW (by simp),zL (by simp)];exact zI _ _
  have q2:(((k1.new (.map [] 0)).new (rO [.pointer none,.pointer none,.map none] 176)).upd (k1.new (.map [] 0)).next (some (.row (zAu (ptr b2) (ptr b1) k1.next) 176 0 false))).get (k1.next+1)=some (.row (zAu (ptr b2) (ptr b1) k1.next) 176 0 false):=zO _ _ _
  have q3:(((k1.new (.map [] 0)).new (rO [.pointer none,.pointer none,.map none] 176)).upd (k1.new (.map [] 0)).next (some (.row (zAu (ptr b2) (ptr b1) k1.next) 176 0 false))).get k.next=some (.row (zAu (ptr b1) (ptr b2) m) 176 0 false):=by
   rw [zW (by simp;omega),zL (by simp;omega),zL (by omega)];exact t1
  have q4:(((k1.new (.map [] 0)).new (rO [.pointer none,.pointer none,.map none] 176)).upd (k1.new (.map [] 0)).next (some (.row (zAu (ptr b2) (ptr b1) k1.next) 176 0 false))).get (k.next+1)=some (rO [.pointer none,.pointer none,.map none] 176):=by
   rw [zW (by simp;omega),zL (by simp;omega),zL (by omega)];exact r1
  have q5:(((k1.new (.map [] 0)).new (rO [.pointer none,.pointer none,.map none] 176)).upd (k1.new (.map [] 0)).next (some (.row (zAu (ptr b2) (ptr b1) k1.next) 176 0 false))).next=k1.next+2:=rfl
  simp only [zAu] at q1 q2 q3 q4 q5 o2 ⊢
  simp only [AH.next_new] at q1 q2 q3 q4 q5 o2 ⊢
  generalize (((k1.new (.map [] 0)).new (rO [.pointer none,.pointer none,.map none] 176)).upd (k1.next+1) (some (rO [ptr b2,ptr b1,.map (some k1.next)] 176)))=k2 at o2 q1 q2 q3 q4 q5
  have l2:=zF (P:=E) zKl (o:=2) q3
  simp only [lnth] at l2
  have iS:=(o2.ext.get m aT).trans hm
  simp only [zh5,zFk,Nat.zero_add,l2,zA,zKy iS,zK]
  have loop:∀ (n:Nat) (Lf Rn:Rel) (vr:Nat),Lf.length=n->Rn.Nodup->(∀ p,p∈Rn\/zBP p∈Lf ↔ zBP p∈R)->∀ l cur,Own k l->k2.next<l.next->l.get k1.next=some (.map (ent Rn) vr)->l.get (k1.next+1)=some (rO [ptr b2,ptr b1,.map (some k1.next)] 176)->l.get (k.next+1)=some (rO [.pointer none,.pointer none,.map none] 176)->
    l.get k2.next=some (.iter (some m) ver (ent Lf) cur)->
    zoP false (KR E [.cell 2 176] (fun v k'=>∃ m' ver' R',v=.agg ⟨[ptr b2,ptr b1,.map (some m')]⟩/\k'.get m'=some (.map (ent R') ver')/\k.next<=m'/\m'<k'.next/\R'.Nodup/\(∀ p,p∈R' ↔ zBP p∈R)/\Own k k')) (ptr (k.next+1)) (ptr (k1.next+1)) (ptr k2.next) l:=by
   intro n
   induction n with
   | zero=>
    intro Lf Rn vr hLf aZ aY l cur ho ab hmp hcp hrs hit
    have:Lf=[]:=List.length_eq_zero_iff.1 hLf
    subst this
    refine zMO ?_
    have cD:=(ho.ext.get m aT).trans hm
    simp only [zVH,zOU hit cD,zK,ze,lnth,zA,zj]
    refine za8 ?_
    have la:=zV (P:=E) zKk (o:=0) hcp (by simp)
    simp only [List.drop_zero,List.take] at la
    have af:=z7 (P:=E) zOB (o:=0) (x:=.agg ⟨[ptr b2,ptr b1,.map (some k1.next)]⟩) (cs:=[ptr b2,ptr b1,.map (some k1.next)]) hrs rfl rfl (by simp) (by simp [zq])
    simp only [zh2,la,zA,af,zK,zq4,zX,true_and]
    have g1:(l.upd (k.next+1) (some (.row (lput [.pointer none,.pointer none,.map none] 0 [ptr b2,ptr b1,.map (some k1.next)]) 176 0 false))).get (k.next+1)=some (rO [ptr b2,ptr b1,.map (some k1.next)] 176):=zO _ _ _
    have lb:=zV (P:=E) zKk (o:=0) g1 (by simp)
    simp only [List.drop_zero,List.take] at lb
    have:zDF E 176 (ptr (k.next+1)) (l.upd (k.next+1) (some (.row (lput [.pointer none,.pointer none,.map none] 0 [ptr b2,ptr b1,.map (some k1.next)]) 176 0 false)))=some (.agg ⟨[ptr b2,ptr b1,.map (some k1.next)]⟩):=lb
    rw [this,zA]
    refine ⟨k1.next,vr,Rn,rfl,(zW (by omega)).trans hmp,by omega,by show k1.next<l.next;omega,aZ,fun p=>by have:=aY p;simpa using this,ho.upd (by omega) _⟩
   | succ n ih=>
    intro Lf Rn vr hLf aZ aY l cur ho ab hmp hcp hrs hit
    refine zMO ?_
    have cD:=(ho.ext.get m aT).trans hm
    simp only [zVH]
    refine zK3 hit cD (by cases Lf with|nil=>simp at hLf|cons a l=>simp [ent]) fun e l1 l2 dj=>?_
    obtain ⟨R1,p,R2,hR,c9,hep,fe⟩:=zLU dj
    subst hep
    rw [c9,fe,zIz]
    simp only [ze,lnth,zA,zz]
    refine zbA ?_
    have eA:=ho.ext.next
    have o3:=ho.upd (b:=k2.next) (by omega) (some (.iter (some m) ver (ent (R1++R2)) (some (.agg ⟨zH p⟩,.bool true))))
    have i3:(l.upd k2.next (some (.iter (some m) ver (ent (R1++R2)) (some (.agg ⟨zH p⟩,.bool true))))).get k2.next=_:=zO _ _ _
    have a3:(l.upd k2.next (some (.iter (some m) ver (ent (R1++R2)) (some (.agg ⟨zH p⟩,.bool true))))).get k1.next=_:=(zW (by omega)).trans hmp
    have c3:(l.upd k2.next (some (.iter (some m) ver (ent (R1++R2)) (some (.agg ⟨zH p⟩,.bool true))))).get (k1.next+1)=_:=(zW (by omega)).trans hcp
    have d3:(l.upd k2.next (some (.iter (some m) ver (ent (R1++R2)) (some (.agg ⟨zH p⟩,.bool true))))).get (k.next+1)=_:=(zW (by omega)).trans hrs
    have n3:(l.upd k2.next (some (.iter (some m) ver (ent (R1++R2)) (some (.agg ⟨zH p⟩,.bool true))))).next=l.next:=rfl
    generalize (l.upd k2.next (some (.iter (some m) ver (ent (R1++R2)) (some (.agg ⟨zH p⟩,.bool true)))))=l3 at o3 i3 a3 c3 d3 n3
    have hml3:=(o3.ext.get m aT).trans hm
    simp only [zh4,zOx i3 hml3,zA,ze,lnth,zdI,zg,zK,zT,zNu]
    refine za9 ?_
    have o4:=(o3.new (rO [iI 0,iI 0] 54)).upd (b:=l3.next) (by omega) (some (rO (zH p) 54))
    have p4:((l3.new (rO [iI 0,iI 0] 54)).upd l3.next (some (rO (zH p) 54))).get l3.next=some (rO (zH p) 54):=zO _ _ _
    have i4:((l3.new (rO [iI 0,iI 0] 54)).upd l3.next (some (rO (zH p) 54))).get k2.next=_:=((zW (by omega)).trans (zL (by omega))).trans i3
    have a4:((l3.new (rO [iI 0,iI 0] 54)).upd l3.next (some (rO (zH p) 54))).get k1.next=_:=((zW (by omega)).trans (zL (by omega))).trans a3
    have c4:((l3.new (rO [iI 0,iI 0] 54)).upd l3.next (some (rO (zH p) 54))).get (k1.next+1)=_:=((zW (by omega)).trans (zL (by omega))).trans c3
    have d4:((l3.new (rO [iI 0,iI 0] 54)).upd l3.next (some (rO (zH p) 54))).get (k.next+1)=_:=((zW (by omega)).trans (zL (by omega))).trans d3
    have n4:((l3.new (rO [iI 0,iI 0] 54)).upd l3.next (some (rO (zH p) 54))).next=l3.next+1:=rfl
    generalize ((l3.new (rO [iI 0,iI 0] 54)).upd l3.next (some (rO (zH p) 54)))=l4 at o4 p4 i4 a4 c4 d4 n4
    have g0:=zF (P:=E) zKl (o:=2) c4
    have g1:=zF (P:=E) zAb (o:=0) p4
    have g2:=zF (P:=E) zAb (o:=1) p4
    simp only [lnth,zH] at g0 g1 g2
    obtain ⟨R',u1,u2,u3⟩:=zhJ a4 aZ (p.2,p.1)
    simp only [zh3,zFk,Nat.zero_add,Nat.add_zero,g0,g1,g2,zA,zFd,zFc,zq1,u1,zK]
    refine ih (R1++R2) R' (vr+1) (by rw [hR] at hLf;simp at hLf ⊢;omega) u2 (fun x=>?_) _ _ (o4.upd (by omega) _) (by show k2.next<l4.next;omega) (zO _ _ _) ((zW (by omega)).trans c4) ((zW (by omega)).trans d4) ((zW (by omega)).trans i4)
    rw [← aY x,u3 x,hR]
    have di:x=(p.2,p.1) ↔ zBP x=p:=by
     constructor
     ·rintro rfl;rfl
     ·intro h;rw [← h];rfl
    rw [di]
    simp only [List.mem_append,List.mem_cons]
    constructor
    ·rintro ((h|h)|h|h) <;> simp [h]
    ·rintro (h|h|h|h) <;> simp [h]
  refine loop R.length R [] 0 rfl (by simp) (fun p=>by simp) _ none (o2.new _) (by simp) ((zL (by omega)).trans q1) ((zL (by omega)).trans q2) ((zL (by omega)).trans q4) (zI _ _)
 refine key.mono fun x hx=>?_
 obtain ⟨m',ver',R',h1,h2,h3,h4,h5,h6,h7⟩:=hx
 have gJ:zD6 x.2 k.fresh.next 1000 (zDl 4 x.1) []=[m']:=by
  rw [h1]
  exact zTG aW bp h3 h2 (by simp [ent,List.flatMap_map,zDl])
 refine ⟨by rw [h1];rfl,⟨m',ver',R',h1,h2,h3,h4,h5,h6,zSY h7⟩,m',ver',R',h1,?_,h3,h4,h5,h6,zSY ?_⟩
 ·show (AH.kept k.fresh x.1 x.2).get m'=_
  unfold AH.kept
  rw [gJ,zCN,if_pos (by simp)]
  exact h2
 ·refine ⟨⟨?_,h7.ext.next,fun c hc=>?_⟩,?_⟩
  ·exact h7.ext.ok
  ·unfold AH.kept
   rw [gJ,zCN]
   split
   ·exact h7.ext.get c hc
   ·rfl
  ·exact h7.wm
def zHm (R:List Int):List (Value×Value):=R.map fun p=>(iI p,.bool true)
theorem zlp:zMx E 273=some (3,4):=by kernel_rfl
theorem zTx (p q:Int):zBu E 3 (iI p) (iI q)=some (decide (p=q)):=by
 simp only [zBu,u3]
 have hk:keq .i64 .i64=true:=rfl
 simp only [hk,cond_true,zDH]
 by_cases h:p=q <;> simp [h]
theorem zLF (p:Int):zEF E 3 (iI p)=true:=by
 simp only [zEF,u3]
theorem zjJ:∀ {R:List Int},R.Nodup->∀ q:Int,zAZ E 3 (iI q) (zHm R)=some (if q∈R then some (.bool true) else none)
 | [],_,q=>by simp [zHm,zAZ]
 | p::R,h,q=>by
  obtain ⟨h1,h2⟩:=List.nodup_cons.1 h
  have ih:=zjJ h2 q
  simp only [zHm,List.map_cons,zAZ] at ih ⊢
  rw [zTx,ih]
  by_cases e:q=p
  ·subst e
   simp [h1]
  ·simp [e]
theorem zM2 {h:AH} {m ver:Nat} {R:List Int} (hm:h.get m=some (.map (zHm R) ver)) (hR:R.Nodup) (q:Int) :
  zBI E 273 false (some (.map (some m))) (some (iI q)) h=some (.bool (decide (q∈R))):=by
 simp only [zBI,zF4,zlp,zEK,hm,zLF,cond_true,zjJ hR]
 by_cases e:q∈R
 ·simp [e,zFh,okV]
 ·simp [e,zFh,z4,okV]
def zGx (q:Int):List Int->List Int
 | []=>[q]
 | p::R=>if klt (iI q) (iI p) then q::p::R else p::zGx q R
theorem zOk (q:Int):∀ R:List Int,zAy (iI q) (.bool true) (zHm R)=zHm (zGx q R)
 | []=>rfl
 | p::R=>by
  have:=zOk q R
  simp only [zHm,List.map_cons,zAy,zGx] at this ⊢
  split
  ·rfl
  ·rw [this];rfl
theorem zJv (q:Int):∀ (R:List Int) (x:Int),x∈zGx q R ↔ x=q\/x∈R
 | [],x=>by simp [zGx]
 | p::R,x=>by
  simp only [zGx]
  split
  ·simp
  ·simp only [List.mem_cons,zJv q R]
   constructor
   ·rintro (h|h|h) <;> simp [h]
   ·rintro (h|h|h) <;> simp [h]
theorem zIo {q:Int}:∀ {R:List Int},R.Nodup->q ∉ R->(zGx q R).Nodup
 | [],_,_=>by simp [zGx]
 | p::R,h,hq=>by
  obtain ⟨h1,h2⟩:=List.nodup_cons.1 h
  simp only [List.mem_cons,not_or] at hq
  simp only [zGx]
  split
  ·exact List.nodup_cons.2 ⟨by simp [hq.1,hq.2],h⟩
  ·exact List.nodup_cons.2 ⟨by rw [zJv];simp [h1];exact fun e=>hq.1 e.symm,zIo h2 hq.2⟩
theorem zhI {h:AH} {m ver:Nat} {R:List Int} (hm:h.get m=some (.map (zHm R) ver)) (hR:R.Nodup) {q:Int} (e:q ∉ R) :
  zAP E 273 (some (.map (some m))) (some (iI q)) (some (.bool true)) h=one (undef,h.upd m (some (.map (zHm (zGx q R)) (ver+1)))):=by
 have dg:zi (iI q)=true:=rfl
 simp only [zAP,zBA,zlp,hm,zLF,dg,Bool.and_self,cond_true,zB5,zjJ hR,e,if_false,zOk,u1]
theorem zq8 {u:Int} {h:AH}:zd E 47 1 (some [(0,iI u)]) h=one (.slice (some ⟨h.next,0,none⟩) 1 1,h.new (rO [iI u] 3)):=by kernel_rfl
theorem zjT:Elt 47 3 1:=zLV zhl zhM zAb (by kernel_rfl)
theorem zN0 {t e z:Nat} (H:Elt t e z) {h:AH} {b c:Nat} {vs us:List Value} {ty es:Nat} {ro:Bool} {ty' es':Nat} {ro':Bool} (hb:h.get b=some (.row vs ty' es' ro')) (bV:vs.length=z)
  (hc:h.get c=some (.row us ty es ro)) (hl:us.length=z) :
  zAH E .append [t,t] (some [.slice (some ⟨b,0,none⟩) 1 1,.slice (some ⟨c,0,none⟩) 1 1]) h=one (.slice (some ⟨h.next,0,none⟩) 2 (UNK+z),h.new (.row (vs++us) e z false)):=by
 obtain ⟨ti,e1,e2,e3⟩:=H.ti
 show v2 (zAz E [t,t] (.slice (some ⟨b,0,none⟩) 1 1) (.slice (some ⟨c,0,none⟩) 1 1) h)=_
 simp only [zAz,H.el,H.un,zEw,cond_false,e1,zBx,zA9,hc,e2,Nat.one_mul,zAn,zAt,zAO,List.drop_zero]
 rw [List.take_of_length_le (by omega),hl,Nat.beq_refl]
 simp only [if_true,e3,cond_true,zBw,show Nat.beq 1 0=false from rfl,cond_false,hb]
 simp only [zCP,show Nat.ble UNK 1=false from rfl,show Nat.ble (1+1) 1=false from rfl,cond_false,Nat.one_mul,zAn,zAt,zAO,List.drop_zero]
 rw [List.take_of_length_le (by omega),bV,Nat.beq_refl]
 simp only [cond_true,zAx,show Nat.ble (1+1) 1000000=true from rfl,v2]
structure LS (lo:Nat) (k:AH) (v:Value) (L:List Int):Prop where
 ex:∃ b c,v=.slice (some ⟨b,0,none⟩) L.length c/\lo<=b/\b<k.next/\((c=1/\L.length=1/\k.get b=some (rO (ints L) 3))\/(c=UNK+1/\k.get b=some (.row (ints L) 3 1 false)))
theorem LS.mono {lo:Nat} {k k':AH} {v:Value} {L:List Int} (h:LS lo k v L) (hn:k.next<=k'.next) (hg:∀ b,lo<=b->b<k.next->zAE v b->k'.get b=k.get b):LS lo k' v L:=by
 obtain ⟨b,c,e,h1,h2,h3⟩:=h
 have:=hg b h1 h2 ⟨_,_,e⟩
 exact ⟨b,c,e,h1,Nat.lt_of_lt_of_le h2 hn,by rw [this];exact h3⟩
theorem LS.at {lo:Nat} {k:AH} {v:Value} {L:List Int} (h:LS lo k v L) {i:Nat} (hi:i<L.length):∃ x3,zE E 47 (some v) (some (iI (i:Int)))=some x3/\∃ x4,zG E 3 k (some x3)=some x4/\x4=iI L[i]:=by
 obtain ⟨b,c,rfl,h1,h2,h3⟩:=h
 refine ⟨_,zNR hi,?_⟩
 have aG:∃ es,k.get b=some (.row (ints L) 3 es false):=by
  rcases h3 with ⟨_,_,h⟩|⟨_,h⟩ <;> exact ⟨_,h⟩
 obtain ⟨es,aG⟩:=aG
 rw [zF (P:=E) zAb aG,zA7,show 0+i*1=i by omega]
 have:(ints L)[i]?=some (iI L[i]):=by simp [ints,hi]
 exact ⟨_,this,rfl⟩
theorem LS.app {lo:Nat} {k:AH} {v:Value} {L:List Int} (h:LS lo k v L) (hL:L.length<=999999) {u:Int} {c0:Nat} {ty es:Nat} {ro:Bool} (hc:k.get c0=some (.row [iI u] ty es ro)) :
  ∃ v' k1,zAH E .append [47,47] (some [v,.slice (some ⟨c0,0,none⟩) 1 1]) k=one (v',k1)/\v'=.slice (some ⟨k.next,0,none⟩) (L.length+1) (UNK+1)/\k1.next=k.next+1/\k1.get k.next=some (.row (ints (L++[u])) 3 1 false) ∧
   (∀ b,b<k.next->¬ zAE v b->k1.get b=k.get b)/\(k.ok->k1.ok)/\k1.wm<=k.wm/\∀ w,w<=k.wm->w<=lo->w<=k1.wm:=by
 obtain ⟨b,c,rfl,h1,h2,h3⟩:=h
 have fm:ints L++[iI u]=ints (L++[u]):=by simp [ints]
 rcases h3 with ⟨rfl,c9,hb⟩|⟨rfl,hb⟩
 ·refine ⟨_,k.new (.row (ints L++[iI u]) 3 1 false),by rw [c9];exact zN0 zjT hb (by simpa [ints] using c9) hc rfl,by rw [c9],rfl,?_,?_,?_,Nat.le_refl _,?_⟩
  ·rw [← fm];exact zI _ _
  ·intro b' ao _
   exact zL (by omega)
  ·intro aa;exact zCW aa _
  ·intro w hw _
   exact hw
 ·refine ⟨_,_,zDX zjT (by omega) hb (by simp [ints]) (by omega) hc rfl rfl,rfl,rfl,?_,?_,?_,(zDz k b none).1,?_⟩
  ·rw [← fm];exact zI (k.upd b none) _
  ·intro b' ao ah
   have hbb:b'≠b:=fun e=>ah ⟨_,_,by rw [e]⟩
   have:k.next≠b':=by omega
   rw [zL (by show b'≠k.next;omega),zW hbb]
  ·intro aa;exact zCW (zD2 aa _ _) _
  ·intro w hw gG
   show w<=(k.upd b none).wm
   exact zAG hw (by omega)
def zEn (L:List Int) (x:Int×Int):List Int:=if x.1=0/\x.2 ∉ L then L++[x.2] else L
def zMv (SS:List zAF) (L:List Int) (u:Int):List Int:=match SS[u.toNat]? with
 | some S=>S.foldl zEn L
 | none=>L
def bfs (SS:List zAF) (body:Int->Bool):Nat->Nat->List Int->Bool
 | 0,_,_=>false
 | f+1,i,L=>match L[i]? with
  | none=>false
  | some u=>body u||bfs SS body f (i+1) (zMv SS L u)
theorem zBK:∀ (N:Nat) (L:List Int),L.Nodup->(∀ x∈L,0<=x/\x<(N:Int))->L.length<=N
 | 0,L,_,h=>by
  cases L with
  | nil=>simp
  | cons a l=>have:=h a (by simp);omega
 | N+1,L,hn,h=>by
  by_cases hm:(N:Int)∈L
  ·have h1:=zBK N (L.erase (N:Int)) (hn.erase _) fun x hx=>by
    have:=hn.mem_erase_iff.1 hx
    have h2:=h x this.2
    have:=this.1
    omega
   rw [List.length_erase_of_mem hm] at h1
   omega
  ·have h1:=zBK N L hn fun x hx=>by
    have h2:=h x hx
    have:x≠(N:Int):=fun e=>hm (e ▸ hx)
    omega
   omega
theorem zJD {L:List Int} (h:L.Nodup) (x:Int×Int):(zEn L x).Nodup:=by
 unfold zEn
 split
 ·rename_i hx
  rw [List.nodup_append]
  refine ⟨h,by simp,fun a ha b hb=>?_⟩
  simp only [List.mem_singleton] at hb
  subst hb
  exact fun e=>hx.2 (e ▸ ha)
 ·exact h
theorem zd3 {L:List Int} {x:Int×Int} {y:Int} (h:y∈zEn L x):y∈L\/y=x.2:=by
 unfold zEn at h
 split at h
 ·simpa using h
 ·exact .inl h
theorem zIr:∀ {S:zAF} {L:List Int},L.Nodup->(S.foldl zEn L).Nodup
 | [],_,h=>h
 | x::S,_,h=>zIr (S:=S) (zJD h x)
theorem zOp:∀ {S:zAF} {L:List Int} {y:Int},y∈S.foldl zEn L->y∈L\/∃ x∈S,y=x.2
 | [],_,_,h=>.inl h
 | x::S,L,y,h=>by
  rcases zOp (S:=S) h with h|⟨x',dw,h⟩
  ·rcases zd3 h with h|h
   ·exact .inl h
   ·exact .inr ⟨x,by simp,h⟩
  ·exact .inr ⟨x',by simp [dw],h⟩
def Yd (k:AH) (l w0 N:Nat) (body:Int->Bool) (Rt:AH->Prop):Prop:=∀ h,Ext k h->w0<=h.wm->∀ u:Int,0<=u->u<(N:Int)->
 ∃ h',(zY E).round l [iI u] h=some [(.bool (!body u),h')]/\h'.ok/\h'.wm<=l/\w0<=h'.wm/\(body u=false->h'.next=h.next/\∀ c,h'.get c=h.get c)/\(body u=true->Rt h')
structure St22 (k:AH) (w0 m1 N:Nat) (v5:Value) (L:List Int) (h:AH):Prop where
 ext:Ext k h
 w:w0<=h.wm
 map:∃ R ver,h.get m1=some (.map (zHm R) ver)/\R.Nodup/\∀ x,x∈R ↔ x∈L
 mlt:m1<h.next
 nd:L.Nodup
 bd:∀ x∈L,0<=x/\x<(N:Int)
 ls:LS (m1+1) h v5 L
theorem St22.keep {k:AH} {w0 m1 N:Nat} {v5:Value} {L:List Int} {h h':AH} (s:St22 k w0 m1 N v5 L h) (e:Ext k h') (w:w0<=h'.wm) (hn:h.next<=h'.next) (hg:∀ c,m1<=c->c<h.next->h'.get c=h.get c):St22 k w0 m1 N v5 L h':=by
 obtain ⟨R,ver,a,b⟩:=s.map
 exact ⟨e,w,⟨R,ver,(hg m1 (Nat.le_refl _) s.mlt).trans a,b⟩,Nat.lt_of_lt_of_le s.mlt hn,s.nd,s.bd,s.ls.mono hn fun b h1 h2 _=>hg b (by omega) h2⟩
structure zVF (SS:List zAF):Prop where
 len:SS.length<=900000
 stp:∀ (i:Nat) (S:zAF),SS[i]?=some S->S.length<=900000/\∀ x∈S,0<=x.2/\x.2<(SS.length:Int)
theorem zT9 {n:Int} (h1:0<=n) (h2:n<=1000000):zC3 n:=⟨by omega,by omega⟩
theorem zUE {S:zAF} {L:List Int} {j:Nat} (hj:j<S.length):(S.drop j).foldl zEn L=(S.drop (j+1)).foldl zEn (zEn L S[j]):=by
 rw [List.drop_eq_getElem_cons hj]
 rfl
def zR2 (k:AH) (w0:Nat) (Rt:AH->Prop) (b:Bool) (h:AH):Prop:=h.ok/\w0<=h.wm/\(b=false->k.next<=h.next/\∀ c,c<k.next->h.get c=k.get c)/\(b=true->Rt h)
theorem zjl {k:AH} {l bs0 bgp bg w0:Nat} {SS:List zAF} {body:Int->Bool} {Rt:AH->Prop} {t:Int} {ty1 es1 ty2 es2:Nat} {ro1 ro2:Bool} (aa:k.ok)
  (hs:k.get bs0=some (.row [iI t] ty1 es1 ro1)) (hsl:bs0<k.next) (hgp:k.get bgp=some (.row [ptr bg] ty2 es2 ro2)) (dB:bgp<k.next)
  (hg:GV k bg SS) (cy:zVF SS) (ht0:0<=t) (iC:t<(SS.length:Int)) (hw:w0<=k.wm) (dW:w0<=k.next) (hl:l<k.next) (hRt:∀ h h':AH,(∀ c,h'.get c=h.get c)->h'.next=h.next->Rt h->Rt h')
  (hY:Yd k l w0 SS.length body Rt) :
  Ev true ((zY E).call 222 [.func (.yield l) #[] #[],ptr bs0,ptr bgp] k) fun x=>x.1=.tuple #[]/\zR2 k w0 Rt (bfs SS body SS.length 0 [t]) x.2:=by
 refine zcQ (Rp:=fun x k'=>x=.tuple #[]/\zR2 k w0 Rt (bfs SS body SS.length 0 [t]) k') (zXp ?_)
 obtain ⟨loc,bs,cells,G⟩:=hg.ex
 have hs0:k.fresh.get bs0=_:=hs
 have e0:=(Ext.refl aa).fresh
 simp only [zK]
 have e1:=e0.new (.map [] 0)
 have m1g:=zI k.fresh (.map [] 0)
 have iK:(k.fresh.new (.map [] 0)).get bs0=_:=(e1.get bs0 hsl).trans hs
 have ls1:=zF (P:=E) zAb (o:=0) iK
 simp only [lnth] at ls1
 have hu:=zhI (h:=k.fresh.new (.map [] 0)) (R:=[]) (q:=t) m1g List.nodup_nil (by simp)
 simp only [ls1,zA,zb] at hu ⊢
 rw [hu,zK]
 refine zXo ?_
 have e2:=e1.upd (b:=k.next) (Nat.le_refl _) (some (.map (zHm (zGx t [])) (0+1)))
 have m2:((k.fresh.new (.map [] 0)).upd k.next (some (.map (zHm (zGx t [])) (0+1)))).get k.next=_:=zO _ _ _
 have w2:w0<=((k.fresh.new (.map [] 0)).upd k.next (some (.map (zHm (zGx t [])) (0+1)))).wm:=zAG (by rw [zDK,zCZ];omega) dW
 have n2:((k.fresh.new (.map [] 0)).upd k.next (some (.map (zHm (zGx t [])) (0+1)))).next=k.next+1:=rfl
 generalize ((k.fresh.new (.map [] 0)).upd k.next (some (.map (zHm (zGx t [])) (0+1))))=k2 at e2 m2 w2 n2
 have ls2:=zF (P:=E) zAb (o:=0) ((e2.get bs0 hsl).trans hs)
 simp only [lnth] at ls2
 simp only [ls2,zA,zq8,zK]
 refine zXn ?_
 have st0:St22 k w0 k.next SS.length (.slice (some ⟨k2.next,0,none⟩) 1 1) [t] (k2.new (rO [iI t] 3)):=by
  refine ⟨e2.new _,w2,⟨[t],0+1,(zL (by omega)).trans m2,by simp,by simp⟩,by simp;omega,by simp,by simpa using ⟨ht0,iC⟩,⟨k2.next,1,rfl,by omega,by simp,.inl ⟨rfl,rfl,zI _ _⟩⟩⟩
 generalize (k2.new (rO [iI t] 3))=k3 at st0
 have loop:∀ (f i:Nat) (L:List Int) (v5:Value) (h:AH),f+i=SS.length->St22 k w0 k.next SS.length v5 L h->0<L.length->i<=L.length->(i=0\/h.wm<=l)->bfs SS body SS.length 0 [t]=bfs SS body f i L->
   znl true (KR E [] (fun x k'=>(zi x=false\/k'.wm<k.next)/\(x=.tuple #[]/\zR2 k w0 Rt (bfs SS body SS.length 0 [t]) ⟨k'.t,k'.next,cond (Nat.ble k.wm k'.wm) k.wm k'.wm⟩))) (.func (.yield l) #[] #[]) (ptr bgp) (.map (some k.next)) v5 (iI (i:Int)) h:=by
  intro f
  induction f with
  | zero=>
   intro i L v5 h hf st h0 hi hwl hb
   have hlen:=zBK _ _ st.nd st.bd
   refine zLy ?_
   obtain ⟨b,c,hv,h1,h2,h3⟩:=st.ls
   subst hv
   have:¬ ((i:Int)<(L.length:Int)):=by omega
   simp only [zA,zF6,zZ,this,decide_false,zj,zSP,zEE,true_and]
   have hwl':h.wm<=l:=hwl.resolve_left (by omega)
   refine ⟨.inr (by omega),?_⟩
   rw [hb]
   refine ⟨?_,?_,fun _=>⟨st.ext.next,fun c hc=>st.ext.get c hc⟩,fun h=>by cases h⟩
   ·have:=st.ext.ok
    show cond (Nat.ble k.wm h.wm) k.wm h.wm<=h.next+UNK
    unfold AH.ok at this
    cases hc:Nat.ble k.wm h.wm with
    | true=>have:=ble_true.1 hc;simp only [cond_true];omega
    | false=>simpa using this
   ·show w0<=cond (Nat.ble k.wm h.wm) k.wm h.wm
    cases Nat.ble k.wm h.wm
    ·exact st.w
    ·exact hw
  | succ f ih=>
   intro i L v5 h hf st h0 hi hwl hb
   have hlen:=zBK _ _ st.nd st.bd
   refine zLy ?_
   obtain ⟨b,c,hv,h1,h2,h3⟩:=id st.ls
   have bA:=fun (h':AH) (s':LS (k.next+1) h' v5 L) (hi:i<L.length)=>s'.at hi
   by_cases hiL:i<L.length
   ·have ab:((i:Int)<(L.length:Int)):=by omega
    have hq:znk true (KR E [] (fun x k'=>(zi x=false\/k'.wm<k.next)/\(x=.tuple #[]/\zR2 k w0 Rt (bfs SS body SS.length 0 [t]) ⟨k'.t,k'.next,cond (Nat.ble k.wm k'.wm) k.wm k'.wm⟩))) (.func (.yield l) #[] #[]) (ptr bgp) (.map (some k.next)) v5 (iI (i:Int)) h:=by
     refine zXm ?_
     obtain ⟨x3,e3,x4,e4,rfl⟩:=bA h st.ls hiL
     obtain ⟨u0,u1⟩:=st.bd L[i] (List.getElem_mem hiL)
     obtain ⟨h',y1,y2,y3,y4,y5,y6⟩:=hY h st.ext st.w L[i] u0 u1
     simp only [zA,e3,e4,zMg,List.nil_append,y1,zP,z6,Bool.not_not,zBa]
     have hbf:bfs SS body (f+1) i L=(body L[i]||bfs SS body f (i+1) (zMv SS L L[i])):=by
      simp only [bfs,List.getElem?_eq_getElem hiL]
     refine ⟨fun bC=>?_,fun ji=>?_⟩
     ·simp only [zSP,zX,true_and]
      refine ⟨.inr (by omega),?_⟩
      rw [hb,hbf,bC]
      refine ⟨?_,?_,(fun h=>by cases h),fun _=>hRt h' _ (fun _=>rfl) rfl (y6 bC)⟩
      ·unfold AH.ok at y2
       show cond (Nat.ble k.wm h'.wm) k.wm h'.wm<=h'.next+UNK
       cases hc:Nat.ble k.wm h'.wm with
       | true=>have:=ble_true.1 hc;simp only [cond_true];omega
       | false=>simpa using y2
      ·show w0<=cond (Nat.ble k.wm h'.wm) k.wm h'.wm
       cases Nat.ble k.wm h'.wm
       ·exact y4
       ·exact hw
     ·obtain ⟨z1,z2⟩:=y5 ji
      have st1:St22 k w0 k.next SS.length v5 L h':=st.keep ⟨y2,by rw [z1];exact st.ext.next,fun c hc=>(z2 c).trans (st.ext.get c hc)⟩ y4 (by omega) (fun c _ _=>z2 c)
      refine zXl ?_
      have hgp':=(st1.ext.get bgp dB).trans hgp
      obtain ⟨x3,e3,x4,e4,rfl⟩:=bA h' st1.ls hiL
      obtain ⟨s,bu⟩:=Int.eq_ofNat_of_zero_le u0
      have hsN:s<SS.length:=by omega
      have eL:s<cells.length:=by rw [G.len];exact hsN
      have aR:cells[s]?=some cells[s]:=List.getElem?_eq_getElem eL
      have gT:SS[s]?=some SS[s]:=List.getElem?_eq_getElem hsN
      have q0:=zF (P:=E) zDN (o:=0) hgp'
      have q1:=zF (P:=E) zIQ (o:=0) ((st1.ext.get bg G.ltg).trans G.g)
      have q3:=zF (P:=E) zIP (o:=0+s*1) ((st1.ext.get bs G.lts).trans G.s)
      simp only [lnth] at q0 q1
      rw [zA7,show 0+s*1=s by omega,aR] at q3
      have ia:=zOl (b:=bs) (o:=0) (c:=cells.length) eL
      rw [show 0+s*1=s by omega] at ia
      have au:=G.cell s _ _ aR gT
      obtain ⟨ca,cc,bT⟩:=(zFr au).slice
      rw [List.length_map] at bT
      have av:=zFr au
      rw [bT] at q3 av
      rw [bu] at e4
      obtain ⟨gU,hS2⟩:=cy.stp s _ gT
      simp only [q0,zA,zA1,zG3,q1,e3,e4,Nat.add_zero,ia,q3,zM9]
      have eO:zMv SS L L[i]=(SS[s]).foldl zEn L:=by
       unfold zMv
       rw [bu]
       simp [gT]
      have steps:∀ (r j:Nat) (L':List Int) (v5':Value) (g:AH),r+j=(SS[s]).length->St22 k w0 k.next SS.length v5' L' g->L.length<=L'.length->g.wm<=l->((SS[s]).drop j).foldl zEn L'=(SS[s]).foldl zEn L->
        znj true (KR E [] (fun x k'=>(zi x=false\/k'.wm<k.next)/\(x=.tuple #[]/\zR2 k w0 Rt (bfs SS body SS.length 0 [t]) ⟨k'.t,k'.next,cond (Nat.ble k.wm k'.wm) k.wm k'.wm⟩))) (.func (.yield l) #[] #[]) (ptr bgp) (.map (some k.next)) v5' (iI (i:Int)) (.slice ca (SS[s]).length cc) (iI ((SS[s]).length:Int)) (iI (j:Int)) g:=by
       intro r
       induction r with
       | zero=>
        intro j L' v5' g hr sg hLL hgw aM
        refine zLx ?_
        have:¬ ((j:Int)<((SS[s]).length:Int)):=by omega
        simp only [zZ,zA,this,decide_false,zj]
        refine zQx ?_
        have hi64:zC3 ((i:Int)+1):=zT9 (by omega) (by have:=cy.len;omega)
        simp only [zA,zAD _ hi64]
        have:=ih (i+1) L' v5' g (by omega) sg (by omega) (by omega) (.inr hgw) (by
         rw [hb,hbf,ji,eO,← aM,List.drop_eq_nil_of_le (by omega)]
         rfl)
        simpa using this
       | succ r ihr=>
        intro j L' v5' g hr sg hLL hgw aM
        have hjS:j<(SS[s]).length:=by omega
        refine zLx ?_
        have:((j:Int)<((SS[s]).length:Int)):=by omega
        simp only [zZ,zA,this,decide_true,zz]
        refine zXk ?_
        have gR:((SS[s]).map zH)[j]?=some (zH (SS[s])[j]):=by simp [hjS]
        obtain ⟨b',o',c',vs',ty',es',ro',aC,ao,aD,bO,bI,bH⟩:=av.load gR
        simp only [Value.slice.injEq] at aC
        obtain ⟨bk,_,_⟩:=aC
        subst bk
        have gb':=(sg.ext.get b' aD).trans ao
        obtain ⟨xt0,xtN⟩:=hS2 (SS[s])[j] (List.getElem_mem hjS)
        have hdr:=zUE (L:=L') hjS
        rw [hdr] at aM
        generalize (SS[s])[j]=x at bI xt0 xtN aM
        simp only [zUB hjS,zA,zV zIO gb' bO,bI,zlB,zg,zK,zT,zhx]
        refine zXj ?_
        have e5:=(sg.ext.new (rO [iI 0,iI 0] 134)).upd (b:=g.next) sg.ext.next (some (rO (zH x) 134))
        have x5:((g.new (rO [iI 0,iI 0] 134)).upd g.next (some (rO (zH x) 134))).get g.next=some (rO (zH x) 134):=zO _ _ _
        have w5:w0<=((g.new (rO [iI 0,iI 0] 134)).upd g.next (some (rO (zH x) 134))).wm:=zAG sg.w (by have:=sg.ext.next;omega)
        have v5w:((g.new (rO [iI 0,iI 0] 134)).upd g.next (some (rO (zH x) 134))).wm<=l:=Nat.le_trans (zDz _ _ _).1 hgw
        have n5:((g.new (rO [iI 0,iI 0] 134)).upd g.next (some (rO (zH x) 134))).next=g.next+1:=rfl
        have s5:St22 k w0 k.next SS.length v5' L' ((g.new (rO [iI 0,iI 0] 134)).upd g.next (some (rO (zH x) 134))):=sg.keep e5 w5 (by omega) (fun c _ hc=>(zW (by omega)).trans (zL (by omega)))
        generalize ((g.new (rO [iI 0,iI 0] 134)).upd g.next (some (rO (zH x) 134)))=g5 at e5 x5 w5 v5w n5 s5
        have y0:=zF (P:=E) zAb (o:=0) x5
        have y1:=zF (P:=E) zAb (o:=1) x5
        simp only [lnth,zH] at y0 y1
        obtain ⟨R,ver,mg,mnd,mmem⟩:=s5.map
        have dU:decide (x.2∈R)=decide (x.2∈L'):=decide_eq_decide.2 (mmem x.2)
        simp only [zG2,zCd,Nat.add_zero,Nat.zero_add,y0,y1,zA,zAg,zM,zM2 mg mnd,dU]
        have hj64:zC3 ((j:Int)+1):=zT9 (by omega) (by omega)
        have skip:∀ g' v6 L'',St22 k w0 k.next SS.length v6 L'' g'->L.length<=L''.length->g'.wm<=l->((SS[s]).drop (j+1)).foldl zEn L''=(SS[s]).foldl zEn L->
          zkQ true (KR E [] (fun x k'=>(zi x=false\/k'.wm<k.next)/\(x=.tuple #[]/\zR2 k w0 Rt (bfs SS body SS.length 0 [t]) ⟨k'.t,k'.next,cond (Nat.ble k.wm k'.wm) k.wm k'.wm⟩))) (.func (.yield l) #[] #[]) (ptr bgp) (.map (some k.next)) v6 (iI (i:Int)) (.slice (some ⟨b',o',none⟩) (SS[s]).length cc) (iI ((SS[s]).length:Int)) (iI (j:Int)) g':=by
         intro g' v6 L'' s6 hl6 hw6 hf6
         refine zQy ?_
         simp only [zAD _ hj64,zA]
         have:=ihr (j+1) L'' v6 g' (by omega) s6 hl6 hw6 hf6
         simpa using this
        by_cases fZ:x.1=0
        ·by_cases ea:x.2∈L'
         ·have:zEn L' x=L':=by unfold zEn;simp [ea]
          rw [this] at aM
          simp only [fZ,ea,decide_true,beq_self_eq_true,cond_true,zA,zCd,Nat.zero_add,y1,zM2 mg mnd,dU,z6,zJ,Bool.not_true,zj]
          exact skip g5 v5' L' s5 hLL v5w aM
         ·have jn:zEn L' x=L'++[x.2]:=by unfold zEn;simp [ea,fZ]
          rw [jn] at aM
          simp only [fZ,ea,decide_true,decide_false,beq_self_eq_true,cond_true,zA,zCd,Nat.zero_add,y1,zM2 mg mnd,dU,z6,zJ,Bool.not_false,zz]
          refine zXi ?_
          have hxR:x.2 ∉ R:=fun h=>ea ((mmem _).1 h)
          simp only [zCd,Nat.zero_add,y1,zA,zhI mg mnd hxR,zK]
          refine zQz ?_
          have e6:=s5.ext.upd (b:=k.next) (Nat.le_refl _) (some (.map (zHm (zGx x.2 R)) (ver+1)))
          have m6:(g5.upd k.next (some (.map (zHm (zGx x.2 R)) (ver+1)))).get k.next=_:=zO _ _ _
          have x6:(g5.upd k.next (some (.map (zHm (zGx x.2 R)) (ver+1)))).get g.next=_:=(zW (by have:=sg.mlt;omega)).trans x5
          have w6:w0<=(g5.upd k.next (some (.map (zHm (zGx x.2 R)) (ver+1)))).wm:=zAG s5.w dW
          have v6w:(g5.upd k.next (some (.map (zHm (zGx x.2 R)) (ver+1)))).wm<=l:=Nat.le_trans (zDz _ _ _).1 v5w
          have n6:(g5.upd k.next (some (.map (zHm (zGx x.2 R)) (ver+1)))).next=g5.next:=rfl
          have l6:LS (k.next+1) (g5.upd k.next (some (.map (zHm (zGx x.2 R)) (ver+1)))) v5' L':=s5.ls.mono (Nat.le_of_eq n6.symm) (fun b h1 h2 _=>zW (by omega))
          generalize (g5.upd k.next (some (.map (zHm (zGx x.2 R)) (ver+1))))=g6 at e6 m6 x6 w6 v6w n6 l6
          have y6:=zF (P:=E) zAb (o:=1) x6
          simp only [lnth,zH] at y6
          have l7:LS (k.next+1) (g6.new (rO [iI x.2] 3)) v5' L':=l6.mono (by simp) (fun b h1 h2 _=>zL (by omega))
          have e7:=e6.new (rO [iI x.2] 3)
          have r7:=zI g6 (rO [iI x.2] 3)
          have m7:(g6.new (rO [iI x.2] 3)).get k.next=_:=(zL (by have:=sg.mlt;omega)).trans m6
          have hL9:L'.length<=999999:=by have:=zBK _ _ s5.nd s5.bd;have:=cy.len;omega
          obtain ⟨v8,g8,a1,a2,a3,a4,a5,a6,a7,a8⟩:=l7.app hL9 r7
          simp only [zCd,Nat.zero_add,y6,zA,zq8,zK,a1]
          have n7:(g6.new (rO [iI x.2] 3)).next=g6.next+1:=rfl
          obtain ⟨bl,cl,bc,c9,fe,_⟩:=l7.ex
          have dz:k.next<g.next:=sg.mlt
          have cw:∀ c,c<=k.next->¬ zAE v5' c:=by
           rintro c hc ⟨n',c',he⟩
           rw [bc] at he
           simp only [Value.slice.injEq,Option.some.injEq,Addr.mk.injEq] at he
           omega
          have cV:∀ c,c<=k.next->g8.get c=(g6.new (rO [iI x.2] 3)).get c:=fun c hc=>a5 c (by omega) (cw c hc)
          have s8:St22 k w0 k.next SS.length v8 (L'++[x.2]) g8:=by
           refine ⟨⟨a6 e7.ok,by omega,fun c hc=>(cV c (by omega)).trans (e7.get c hc)⟩,a8 w0 (by rw [zDK];exact w6) (by omega),⟨zGx x.2 R,ver+1,(cV _ (Nat.le_refl _)).trans m7,zIo mnd hxR,fun y=>?_⟩,by omega,?_,?_,?_⟩
           ·rw [zJv,mmem]
            simp only [List.mem_append,List.mem_singleton]
            exact Or.comm
           ·rw [← jn];exact zJD s5.nd x
           ·intro y hy
            rcases List.mem_append.1 hy with hy|hy
            ·exact s5.bd y hy
            ·rw [List.mem_singleton.1 hy];exact ⟨xt0,xtN⟩
           ·refine ⟨_,UNK+1,?_,?_,?_,.inr ⟨rfl,a4⟩⟩
            ·rw [a2];simp
            ·omega
            ·omega
          exact skip g8 v8 _ s8 (by simp;omega) (Nat.le_trans a7 (by rw [zDK];exact v6w)) aM
        ·have:zEn L' x=L':=by unfold zEn;simp [fZ]
         rw [this] at aM
         simp only [fZ,decide_false,show (false==true)=false from rfl,cond_false,zA,zJ,zj]
         exact skip g5 v5' L' s5 hLL v5w aM
      exact steps (SS[s]).length 0 L v5 h' (by omega) st1 (Nat.le_refl _) y3 (by simp)
    subst hv
    simp only [zA,zF6,zZ,ab,decide_true,zz]
    exact hq
   ·subst hv
    have:¬ ((i:Int)<(L.length:Int)):=by omega
    simp only [zA,zF6,zZ,this,decide_false,zj,zSP,zEE,true_and]
    have hwl':h.wm<=l:=hwl.resolve_left (by omega)
    refine ⟨.inr (by omega),?_⟩
    rw [hb]
    have:bfs SS body (f+1) i L=false:=by
     simp only [bfs,List.getElem?_eq_none (by omega:L.length<=i)]
    rw [this]
    refine ⟨?_,?_,fun _=>⟨st.ext.next,fun c hc=>st.ext.get c hc⟩,fun h=>by cases h⟩
    ·have:=st.ext.ok
     show cond (Nat.ble k.wm h.wm) k.wm h.wm<=h.next+UNK
     unfold AH.ok at this
     cases hc:Nat.ble k.wm h.wm with
     | true=>have:=ble_true.1 hc;simp only [cond_true];omega
     | false=>simpa using this
    ·show w0<=cond (Nat.ble k.wm h.wm) k.wm h.wm
     cases Nat.ble k.wm h.wm
     ·exact st.w
     ·exact hw
 exact loop SS.length 0 [t] _ _ (by omega) st0 (by simp) (by simp) (.inl rfl) rfl
noncomputable def zdC (s:Bool) (d:Nat):Cx:=⟨E,s,none,zN8,[([],[8])],[8],[d]⟩
theorem zg2 {s:Bool} {d:Nat} {v8:Value} {T:Tm} {h:AH} {K:KF} (hT:∀ x∈[(8,v8)],T.get x.1=x.2) (H:zN5 s K v8 h) :
  Ev s (evC E (zY E) none zN8 ⟨T,h,[d]⟩) (zSR (zdC s d) K):=
 zEf (C:=zdC s d) (by kernel_rfl) (by kernel_rfl) hT ((by kernel_rfl:zFA (zdC s d) K 30 (rs zN8 60 (.at [])) (zk [(8,v8)]) h=(SP (zdC s d) K [] [(8,v8)] h)).mpr
  (zSs (p:=[]) (by kernel_rfl) rfl ((by kernel_rfl:zdQ (zdC s d) K [] (zk [(8,v8)]) h=zN5 s K v8 h).mpr H)))
theorem zkz:ziG=.seq zdD (.seq (.seq zSN (.block 0 (.rangeFunc (.tmp 14) #[15] zH5 zGp))) (.seq zN8 .ret)):=by kernel_rfl
def zCE (R:Rel) (SS:List zAF) (u:Int) (x:Int×Int):Bool:=match SS[u.toNat]? with
 | some S=>zEB R S x
 | none=>false
def zDW (R:Rel) (SS:List zAF) (s:Int) (x:Int×Int) (u:Int):Bool:=
 decide ((s,u)∈R)&&((decide (x.1=0)&&decide ((x.2,u)∈R))||zCE R SS u x)
def zDu (R:Rel) (SS:List zAF) (s t:Int) (x:Int×Int):Bool:=bfs SS (zDW R SS s x) SS.length 0 [t]
theorem call178 {k:AH} {bg:Nat} {t:Int} :
  Ev true ((zY E).call 178 [ptr bg,iI t] k) fun x=>x.1=.func (.func 222) #[] #[ptr (k.next+1),ptr k.next]/\x.2.next=k.next+2/\x.2.ok/\(∀ w,w<=k.wm->w<=k.next->w<=x.2.wm) ∧
   x.2.get k.next=some (rO [ptr bg] 128)/\x.2.get (k.next+1)=some (rO [iI t] 3)/\∀ c,c<k.next->x.2.get c=k.get c:=by
 refine zcc (Rp:=fun v k'=>v=.func (.func 222) #[] #[ptr (k.next+1),ptr k.next]/\k'.next=k.next+2/\k'.ok/\(∀ w,w<=k.wm->w<=k.next->w<=k'.wm) ∧
   k'.get k.next=some (rO [ptr bg] 128)/\k'.get (k.next+1)=some (rO [iI t] 3)/\∀ c,c<k.next->k'.get c=k.get c) (zYx ?_)
 simp only [zg,zK,zA,zl]
 refine zYw ?_
 have g0:((k.fresh.new (rO [ptr bg] 128)).new (rO [iI t] 3)).get k.next=some (rO [ptr bg] 128):=(zL (by simp)).trans (zI k.fresh _)
 have g1:((k.fresh.new (rO [ptr bg] 128)).new (rO [iI t] 3)).get (k.next+1)=some (rO [iI t] 3):=zI (k.fresh.new _) _
 have g2:∀ c,c<k.next->((k.fresh.new (rO [ptr bg] 128)).new (rO [iI t] 3)).get c=k.get c:=fun c hc=>(zL (by simp;omega)).trans ((zL (by simp;omega)).trans rfl)
 have n1:((k.fresh.new (rO [ptr bg] 128)).new (rO [iI t] 3)).next=k.next+2:=rfl
 have w1:((k.fresh.new (rO [ptr bg] 128)).new (rO [iI t] 3)).wm=k.next+UNK:=rfl
 simp only [zb,AH.next_new]
 generalize ((k.fresh.new (rO [ptr bg] 128)).new (rO [iI t] 3))=k1 at g0 g1 g2 n1 w1
 simp only [zBJ,zA,zAS,zX,true_and]
 refine ⟨.inl rfl,n1,?_,fun w h1 h2=>?_,g0,g1,g2⟩
 ·show cond (Nat.ble k.wm k1.wm) k.wm k1.wm<=k1.next+UNK
  cases hc:Nat.ble k.wm k1.wm with
  | true=>have:=ble_true.1 hc;simp only [cond_true];omega
  | false=>simp only [cond_false];omega
 ·show w<=cond (Nat.ble k.wm k1.wm) k.wm k1.wm
  cases Nat.ble k.wm k1.wm
  ·simp only [cond_false];omega
  ·exact h1
theorem zl9 {α:Type} {x:R α} {Q:α->Prop} (h:Ev true x Q):∃ a,x=some [a]/\Q a:=by
 obtain ⟨l,e,_,h1,h2⟩:=h
 match l,h1 rfl with
 | [a],_=>exact ⟨a,e,h2 a (by simp)⟩
def zke (R:Rel) (SS:List zAF) (s:Int) (x:Int×Int) (un:Int) (h:AH) (b8:Nat):KF:=fun ex _ g=>(zDW R SS s x un=false/\ex=.normal/\g=h)\/(zDW R SS s x un=true/\ex=.ret/\g=h.upd b8 (some (rO [.bool true] 4)))
theorem zkI {h:AH} {l b4 b5 b7 b8 m ver bg un:Nat} {gx:Value} {R:Rel} {SS:List zAF} {S:zAF} {s:Int} {x:Int×Int} {v:Value} {T:Tm} (aa:h.ok)
  (h4:h.get b4=some (.row (zAu gx (ptr bg) m) 178 0 false)) (h5:h.get b5=some (rO [iI s] 3)) (h7:h.get b7=some (rO (zH x) 134)) (h8:h.get b8=some (rO [v] 4))
  (hm:h.get m=some (.map (ent R) ver)) (aT:m<h.next) (hR:R.Nodup) (hg:GV h bg SS) (hS:SS[un]?=some S) (iq:S.length<=1000000)
  (hT:∀ y∈[(4,ptr b4),(5,ptr b5),(7,ptr b7),(8,ptr b8),(9,iI (un:Int))],T.get y.1=y.2) :
  Ev true (evC E (zY E) (some l) zGp ⟨T,h,[]⟩) (zSR (zIL true l) (zke R SS s x un h b8)):=by
 refine zg4 hT (zRd ?_)
 have la:=zV (P:=E) zKk (o:=0) h4 (by simp [zAu])
 rw [List.drop_zero,List.take_of_length_le (by simp [zAu])] at la
 have lf:=zV (P:=E) zhQ (o:=0) h4 (by simp [zAu])
 rw [List.drop_zero,List.take_of_length_le (by simp [zAu])] at lf
 have l5:=zF (P:=E) zAb (o:=0) h5
 have x0:=zF (P:=E) zAb (o:=0) h7
 have x1:=zF (P:=E) zAb (o:=1) h7
 have lx:=zV (P:=E) zIO (o:=0) h7 (by simp [zH])
 rw [List.drop_zero,List.take_of_length_le (by simp [zH])] at lx
 simp only [lnth,zH] at l5 x0 x1
 have dG:zCE R SS (un:Int) x=zEB R S x:=by
  unfold zCE
  simp [hS]
 have fin:∀ b:Bool,zDW R SS s x un=b->BrK (some (.bool b)) (zkZ true l (zke R SS s x un h b8) (ptr b8) h) (zke R SS s x un h b8 .normal [] h):=by
  intro b hb
  rw [zBa]
  refine ⟨fun e=>?_,fun e=>.inl ⟨by rw [hb,e],rfl,rfl⟩⟩
  refine zRc ?_
  have af:=z7 (P:=E) zqw (o:=0) (x:=.bool true) (cs:=[.bool true]) h8 rfl rfl (by simp) (by simp [zq])
  simp only [af,zK]
  exact .inr ⟨by rw [hb,e],rfl,rfl⟩
 simp only [zDn,Nat.add_zero,la,l5,zA,zQ,zKG aa hm aT hR,zP]
 by_cases e1:(s,(un:Int))∈R
 ·simp only [e1,decide_true,zM,beq_self_eq_true,cond_true,zG2,zCd,Nat.add_zero,Nat.zero_add,x0,x1,zA,zAg]
  by_cases e2:x.1=0
  ·simp only [e2,decide_true,zM,zU,beq_self_eq_true,cond_true,zDn,zG2,zCd,Nat.add_zero,Nat.zero_add,la,x1,zA,zQ,zKG aa hm aT hR,zP,zJ]
   by_cases e3:(x.2,(un:Int))∈R
   ·simp only [e3,decide_true,zM,zU,show (true==false)=false from rfl,cond_false,zA,zK,zJ,cond_true]
    exact fin true (by simp [zDW,e1,e2,e3])
   ·simp only [e3,decide_false,zM,zU,beq_self_eq_true,cond_true,lf,l5,lx,zA,zQ,zNs aa hm aT hR hg hS iq,zP,zJ,cond_false]
    exact fin _ (by simp [zDW,e1,e2,e3,dG])
  ·simp only [e2,decide_false,zM,zU,show (false==true)=false from rfl,beq_self_eq_true,cond_false,cond_true,zA,zK,zJ,lf,l5,lx,zQ,zNs aa hm aT hR hg hS iq,zP]
   exact fin _ (by simp [zDW,e1,e2,dG])
 ·simp only [e1,decide_false,zM,zU,zw,zx,show (false==true)=false from rfl,cond_false,zA,zK,zJ]
  exact fin false (by simp [zDW,e1])
noncomputable def zBQ (st:LoopState) (pend:Option Code) (T:Tm) (d:Nat):AObj:=.loop st pend T [15] zH5 zGp d
theorem zBc {h:AH} {a l:Nat} {vs:List Value} {ty es:Nat} {ro:Bool} {st:LoopState} {pend:Option Code} {T:Tm} {d:Nat} (h1:h.get a=some (.row vs ty es ro)) (h2:h.get l=some (zBQ st pend T d)):a≠l:=by
 rintro rfl
 rw [h1] at h2
 simp [zBQ] at h2
theorem zMw {h:AH} {a l:Nat} {es:List (Value×Value)} {ver:Nat} {st:LoopState} {pend:Option Code} {T:Tm} {d:Nat} (h1:h.get a=some (.map es ver)) (h2:h.get l=some (zBQ st pend T d)):a≠l:=by
 rintro rfl
 rw [h1] at h2
 simp [zBQ] at h2
theorem GV.upd_loop {h:AH} {bg l:Nat} {SS:List zAF} {st:LoopState} {pend:Option Code} {T:Tm} {d:Nat} (g:GV h bg SS) (hl:h.get l=some (zBQ st pend T d)) (o:Option AObj):GV (h.upd l o) bg SS:=by
 obtain ⟨loc,bs,cells,G⟩:=g.ex
 refine ⟨loc,bs,cells,(zW (zBc G.g hl)).trans G.g,(zW (zBc G.s hl)).trans G.s,G.len,G.ne,G.ltg,G.lts,G.locg,G.locs,fun i c S hc hS=>?_,G.blk,G.dis⟩
 rcases G.cell i c S hc hS with a|⟨b,a1,a2,a3⟩
 ·exact .inl a
 ·exact .inr ⟨b,a1,(zW (zBc a2 hl)).trans a2,a3⟩
theorem zdT {h:AH} {l d b4 b5 b7 b8 m ver bg un:Nat} {gx:Value} {R:Rel} {SS:List zAF} {S:zAF} {s:Int} {x:Int×Int} {v:Value} {T:Tm} (aa:h.ok)
  (hl:h.get l=some (zBQ .ready none T d))
  (h4:h.get b4=some (.row (zAu gx (ptr bg) m) 178 0 false)) (h5:h.get b5=some (rO [iI s] 3)) (h7:h.get b7=some (rO (zH x) 134)) (h8:h.get b8=some (rO [v] 4))
  (hm:h.get m=some (.map (ent R) ver)) (aT:m<h.next) (hR:R.Nodup) (hg:GV h bg SS) (hS:SS[un]?=some S) (iq:S.length<=1000000)
  (hT:∀ y∈[(4,ptr b4),(5,ptr b5),(7,ptr b7),(8,ptr b8)],T.get y.1=y.2) :
  ∃ h',(zY E).round l [iI (un:Int)] h=some [(.bool (!zDW R SS s x un),h')]/\h'.ok/\h'.wm<=l/\(∀ w,w<=h.wm->w<=l->w<=b8->w<=h'.wm)/\h'.next=h.next/\(zDW R SS s x un=false->∀ c,h'.get c=h.get c) ∧
   (zDW R SS s x un=true->h'.get l=some (zBQ .done (some .ret) T d)/\h'.get b8=some (rO [.bool true] 4)/\∀ c,c≠l->c≠b8->h'.get c=h.get c):=by
 have n4:=zBc h4 hl
 have n5:=zBc h5 hl
 have n7:=zBc h7 hl
 have n8:=zBc h8 hl
 have nm:=zMw hm hl
 let hb:=h.upd l (some (zBQ .busy none T d))
 have gN:hb.ok:=zD2 aa _ _
 have q:∀ {c:Nat},c≠l->hb.get c=h.get c:=fun hc=>zW hc
 have ql:hb.get l=some (zBQ .busy none T d):=zO _ _ _
 have key:Ev true ((zY E).round l [iI (un:Int)] h) fun y=>(zDW R SS s x un=false/\y=(.bool true,hb.upd l (some (zBQ .ready none T d))))\/(zDW R SS s x un=true/\y=(.bool false,(hb.upd b8 (some (rO [.bool true] 4))).upd l (some (zBQ .done (some .ret) T d)))):=by
  rw [round_eq]
  unfold roundCall
  rw [hl]
  show Ev true (zDO E (zY E) l zH5 zGp h (zBq T [15] [iI (un:Int)])) _
  show Ev true (AM.R.andThen (evC E (zY E) (some l) zH5 ⟨T.put 15 (iI (un:Int)),h,[]⟩) (zEd E (zY E) l zGp)) _
  have hT':∀ y∈[(4,ptr b4),(5,ptr b5),(7,ptr b7),(8,ptr b8),(15,iI (un:Int))],(T.put 15 (iI (un:Int))).get y.1=y.2:=by
   intro y hy
   rw [Tm.get_put]
   simp only [List.mem_cons,List.not_mem_nil,or_false] at hy
   rcases hy with rfl|rfl|rfl|rfl|rfl
   ·exact hT _ (by simp)
   ·exact hT _ (by simp)
   ·exact hT _ (by simp)
   ·exact hT _ (by simp)
   ·rfl
  have ha:=zg3 (s:=true) (ll:=l) (h:=h) (K:=fun ex vs g=>ex=.normal/\vs=[ptr b4,ptr b5,ptr b7,ptr b8,iI (un:Int)]/\g=h) hT' (zRb (by exact ⟨by trivial,by trivial,by trivial⟩))
  refine Ev.andThen (ha.mono fun o ho=>?_)
  obtain ⟨o1,o2,o3,o4⟩:=ho
  have ho1:o.st.defs=[]:=o1
  have ib:[o.st.T.get 4,o.st.T.get 5,o.st.T.get 7,o.st.T.get 8,o.st.T.get 9]=[ptr b4,ptr b5,ptr b7,ptr b8,iI (un:Int)]:=o3
  simp only [List.cons.injEq,and_true] at ib
  unfold zEd
  rw [o2,o4,ho1]
  simp only [zNO,hl,zBQ,cond_true,zCp,beginRound]
  have hT2:∀ y∈[(4,ptr b4),(5,ptr b5),(7,ptr b7),(8,ptr b8),(9,iI (un:Int))],o.st.T.get y.1=y.2:=by
   intro y hy
   simp only [List.mem_cons,List.not_mem_nil,or_false] at hy
   rcases hy with rfl|rfl|rfl|rfl|rfl
   ·exact ib.1
   ·exact ib.2.1
   ·exact ib.2.2.1
   ·exact ib.2.2.2.1
   ·exact ib.2.2.2.2
  have dr:=zkI (h:=hb) (l:=l) (s:=s) (T:=o.st.T) gN ((q n4).trans h4) ((q n5).trans h5) ((q n7).trans h7) ((q n8).trans h8) ((q nm).trans hm) aT hR (hg.upd_loop hl _) hS iq hT2
  refine Ev.andThen (dr.mono fun p hp=>?_)
  obtain ⟨_,p2⟩:=hp
  rcases p2 with ⟨p3,p4,p5⟩|⟨p3,p4,p5⟩
  ·unfold endRound
   rw [p4,p5]
   simp only [zEv,zCp,ql,zBQ,zDU,Option.isNone,cond_true]
   exact Ev.one (.inl ⟨p3,rfl⟩)
  ·unfold endRound
   rw [p4,p5]
   have:(hb.upd b8 (some (rO [.bool true] 4))).get l=some (zBQ .busy none T d):=(zW (Ne.symm n8)).trans ql
   simp only [zEv,zCp,this,zBQ,zDU,Option.isNone,cond_false]
   exact Ev.one (.inr ⟨p3,rfl⟩)
 obtain ⟨y,e,hy⟩:=zl9 key
 rcases hy with ⟨hy,rfl⟩|⟨hy,rfl⟩
 ·refine ⟨_,by rw [e,hy];rfl,zD2 gN _ _,(zDz _ _ _).2,fun w h1 h2 h3=>zAG (zAG h1 h2) h2,rfl,fun _ c=>?_,(fun h=>by rw [hy] at h;cases h)⟩
  by_cases hc:c=l
  ·subst hc;rw [zO,hl]
  ·rw [zW hc,q hc]
 ·refine ⟨_,by rw [e,hy];rfl,zD2 (zD2 gN _ _) _ _,(zDz _ _ _).2,fun w h1 h2 h3=>zAG (zAG (zAG h1 h2) h3) h2,rfl,(fun h=>by rw [hy] at h;cases h),fun _=>⟨zO _ _ _,(zW n8).trans (zO _ _ _),fun c h1 h2=>?_⟩⟩
  rw [zW h1,zW h2,q h1]
theorem zhk {T:Tm} {h:AH} {d b8:Nat} {b:Bool} {ex:Ex} (hex:ex=.ret\/ex=.normal) (hT:T.get 8=ptr b8) (hd:h.get d=some .defd) (h8:h.get b8=some (rO [.bool b] 4)) :
  zAc E Tryz.f130 ⟨ex,⟨T,h,[d]⟩⟩=one (.bool b,h.upd d none):=by
 have ah:b8≠d:=by rintro rfl;rw [hd] at h8;cases h8
 have h8':(h.upd d none).get b8=some (rO [.bool b] 4):=(zW ah).trans h8
 have hres:Tryz.f130.results.toList=[.cell 8 4]:=by kernel_rfl
 have hld:=zF (P:=E) ta_4 (o:=0) h8'
 simp only [lnth] at hld
 have hld':zDF E 4 (ptr b8) (h.upd d none)=some (.bool b):=hld
 have:zAc E Tryz.f130 ⟨ex,⟨T,h,[d]⟩⟩=zCw E Tryz.f130 T (zCS [d] h):=by
  rcases hex with rfl|rfl <;> rfl
 rw [this]
 simp only [zCS,hd,zCw,zFV,hres,zCr,hT,hld',v1]
theorem zkA {k:AH} {m ver bg:Nat} {gx:Value} {R:Rel} {SS:List zAF} {s t:Int} {x:Int×Int} (aa:k.ok)
  (hm:k.get m=some (.map (ent R) ver)) (aT:m<k.next) (hR:R.Nodup) (hg:GV k bg SS) (cy:zVF SS) (ht0:0<=t) (iC:t<(SS.length:Int)) :
  (zY E).call 130 [.agg ⟨zAu gx (ptr bg) m⟩,iI s,iI t,.agg ⟨zH x⟩] k=some [(.bool (zDu R SS s t x),k)]:=by
 refine zLa (s:=true) aa zg8 zcw (zg7 _ _) (by kernel_rfl) rfl ?_
 show Ev true (AM.R.andThen (evC E (zY E) none ziG ⟨⟨Tryz.f130.ntmps,zCT [.agg ⟨zAu gx (ptr bg) m⟩,iI s,iI t,.agg ⟨zH x⟩] 0 .e⟩,k.fresh,[]⟩) (zAc E Tryz.f130)) _
 have hT0:∀ y∈[(0,Value.agg ⟨zAu gx (ptr bg) m⟩),(1,iI s),(2,iI t),(3,.agg ⟨zH x⟩)],(⟨Tryz.f130.ntmps,zCT [.agg ⟨zAu gx (ptr bg) m⟩,iI s,iI t,.agg ⟨zH x⟩] 0 .e⟩:Tm).get y.1=y.2:=by
  intro y hy
  simp only [List.mem_cons,List.not_mem_nil,or_false] at hy
  rcases hy with rfl|rfl|rfl|rfl <;> kernel_rfl
 generalize (⟨Tryz.f130.ntmps,zCT [.agg ⟨zAu gx (ptr bg) m⟩,iI s,iI t,.agg ⟨zH x⟩] 0 .e⟩:Tm)=T0 at hT0
 rw [zkz]
 refine Ev.andThen ?_
 show Ev true (AM.R.andThen (evC E (zY E) none zdD ⟨T0,k.fresh,[]⟩) (thenC (evC E (zY E) none (.seq (.seq zSN (.block 0 (.rangeFunc (.tmp 14) #[15] zH5 zGp))) (.seq zN8 .ret))))) _
 obtain ⟨kA,hkA,oA,a4,a5,a7,a8,nA⟩:∃ kA,kA=(((k.fresh.new (.row (zAu gx (ptr bg) m) 178 0 false)).new (rO [iI s] 3)).new (rO (zH x) 134)).new (rO [.bool false] 4)/\Own k kA/\kA.get k.next=some (.row (zAu gx (ptr bg) m) 178 0 false) ∧
   kA.get (k.next+1)=some (rO [iI s] 3)/\kA.get (k.next+2)=some (rO (zH x) 134)/\kA.get (k.next+3)=some (rO [.bool false] 4)/\kA.next=k.next+4:=by
  refine ⟨_,rfl,((((Own.fresh k).new _).new _).new _).new _,?_,?_,?_,?_,rfl⟩
  ·exact (zL (by simp;omega)).trans ((zL (by simp;omega)).trans ((zL (by simp)).trans (zI k.fresh _)))
  ·exact (zL (by simp)).trans ((zL (by simp)).trans (zI (k.fresh.new _) _))
  ·exact (zL (by simp)).trans (zI ((k.fresh.new _).new _) _)
  ·exact zI (((k.fresh.new _).new _).new _) _
 have ha:=zg6 (s:=true) (h:=k.fresh) (K:=fun ex vs g=>ex=.normal/\vs=[iI t,ptr k.next,ptr (k.next+1),ptr (k.next+2),ptr (k.next+3)]/\g=kA) hT0 (zRf (by
  simp only [zg,zK,zA,zT,zl,z4]
  exact ⟨trivial,rfl,hkA.symm⟩))
 refine Ev.andThen (ha.mono fun o ho=>?_)
 obtain ⟨ex,T,g,ds⟩:=o
 obtain ⟨o1,o2,o3,o4⟩:=ho
 have o1':ds=[]:=o1
 have o2':ex=.normal:=o2
 have o4':g=kA:=o4
 subst o1' o2' o4'
 clear o1 o2 o4
 have o3':[T.get 2,T.get 4,T.get 5,T.get 7,T.get 8]=[iI t,ptr k.next,ptr (k.next+1),ptr (k.next+2),ptr (k.next+3)]:=o3
 simp only [List.cons.injEq,and_true] at o3'
 show Ev true (AM.R.andThen (AM.R.andThen (evC E (zY E) none zSN ⟨T,g,[]⟩) (thenC (evC E (zY E) none (.block 0 (.rangeFunc (.tmp 14) #[15] zH5 zGp))))) (thenC (evC E (zY E) none (.seq zN8 .ret)))) _
 refine Ev.andThen (Ev.andThen ?_)
 have hTb:∀ y∈[(2,iI t),(4,ptr k.next),(5,ptr (k.next+1)),(7,ptr (k.next+2)),(8,ptr (k.next+3))],T.get y.1=y.2:=by
  intro y hy
  simp only [List.mem_cons,List.not_mem_nil,or_false] at hy
  rcases hy with rfl|rfl|rfl|rfl|rfl
  ·exact o3'.1
  ·exact o3'.2.1
  ·exact o3'.2.2.1
  ·exact o3'.2.2.2.1
  ·exact o3'.2.2.2.2
 have lg:=zF (P:=E) zDN (o:=1) a4
 simp only [lnth,zAu] at lg
 have hb:=zg5 (s:=true) (h:=g) (K:=fun ex vs kB=>ex=.normal/\vs=[ptr k.next,ptr (k.next+1),ptr (k.next+2),ptr (k.next+3),.func (.func 222) #[] #[ptr (g.next+1),ptr g.next]] ∧
   kB.next=g.next+2/\kB.ok/\(∀ w,w<=g.wm->w<=g.next->w<=kB.wm)/\kB.get g.next=some (rO [ptr bg] 128)/\kB.get (g.next+1)=some (rO [iI t] 3)/\∀ c,c<g.next->kB.get c=g.get c) hTb (zRe (by
  simp only [zDn,zJ6,Nat.add_zero,Nat.zero_add,lg,zA,zQ]
  refine call178.mono fun y hy=>?_
  obtain ⟨y1,y2⟩:=hy
  rw [y1]
  exact ⟨trivial,rfl,y2⟩))
 refine hb.mono fun o ho=>?_
 obtain ⟨ex,T',kB,ds⟩:=o
 obtain ⟨p1,p2,p3,nB,okB,wB,b4,b5,bo⟩:=ho
 have p1':ds=[]:=p1
 have p2':ex=.normal:=p2
 subst p1' p2'
 clear p1 p2
 have p3':[T'.get 4,T'.get 5,T'.get 7,T'.get 8,T'.get 14]=[ptr k.next,ptr (k.next+1),ptr (k.next+2),ptr (k.next+3),.func (.func 222) #[] #[ptr (g.next+1),ptr g.next]]:=p3
 simp only [List.cons.injEq,and_true] at p3'
 obtain ⟨t4,t5,t7,t8,t14⟩:=p3'
 clear p3
 simp only at nB okB wB b4 b5 bo
 show Ev true (AM.R.andThen (evRange E (zY E) none (some (T'.get 14)) [15] zH5 zGp ⟨T',kB,[]⟩) (zDw 0)) _
 rw [t14]
 have hhb:zDI E 222=true:=by kernel_rfl
 have af:evRange E (zY E) none (some (.func (.func 222) #[] #[ptr (g.next+1),ptr g.next])) [15] zH5 zGp ⟨T',kB,[]⟩ =
   AM.R.andThen ((zY E).call 222 [.func (.yield (kB.next+1)) #[] #[],ptr (g.next+1),ptr g.next] ((kB.new .defd).new (zBQ .ready none T' kB.next))) fun x=>zCJ (kB.next+1) T' [kB.next] x.2:=by
  unfold evRange
  simp only [hhb,cond_true]
  rfl
 rw [af]
 refine Ev.andThen (Ev.andThen ?_)
 have okC:((kB.new .defd).new (zBQ .ready none T' kB.next)).ok:=zCW (zCW okB _) _
 have cl:((kB.new .defd).new (zBQ .ready none T' kB.next)).get (kB.next+1)=some (zBQ .ready none T' kB.next):=zI (kB.new .defd) _
 have cd:((kB.new .defd).new (zBQ .ready none T' kB.next)).get kB.next=some .defd:=(zL (by simp)).trans (zI kB _)
 have co:∀ c,c<kB.next->((kB.new .defd).new (zBQ .ready none T' kB.next)).get c=kB.get c:=fun c hc=>(zL (by simp;omega)).trans (zL (by omega))
 have nC:((kB.new .defd).new (zBQ .ready none T' kB.next)).next=kB.next+2:=rfl
 have wC:((kB.new .defd).new (zBQ .ready none T' kB.next)).wm=kB.wm:=rfl
 generalize ((kB.new .defd).new (zBQ .ready none T' kB.next))=kC at okC cl cd co nC wC
 have cg:∀ c,c<g.next->kC.get c=g.get c:=fun c hc=>(co c (by omega)).trans (bo c hc)
 have eC:Ext k kC:=⟨okC,by omega,fun c hc=>(cg c (by omega)).trans (oA.ext.get c hc)⟩
 have hw0:k.next<=kC.wm:=by rw [wC];exact wB _ oA.wm (by omega)
 have hY:Yd kC (kB.next+1) k.next SS.length (zDW R SS s x) (fun h'=>h'.get (kB.next+1)=some (zBQ .done (some .ret) T' kB.next)/\h'.get (k.next+3)=some (rO [.bool true] 4)/\h'.get kB.next=some .defd):=by
  intro h he hw u hu0 huN
  obtain ⟨un,rfl⟩:=Int.eq_ofNat_of_zero_le hu0
  have dX:un<SS.length:=by omega
  have hSu:SS[un]?=some SS[un]:=List.getElem?_eq_getElem dX
  have hek:=eC.trans he
  obtain ⟨h',r1,r2,r3,r4,r5,r6,r7⟩:=zdT (h:=h) (un:=un) (s:=s) (x:=x) he.ok ((he.get _ (by omega)).trans cl) ((he.get _ (by omega)).trans ((cg _ (by omega)).trans a4)) ((he.get _ (by omega)).trans ((cg _ (by omega)).trans a5)) ((he.get _ (by omega)).trans ((cg _ (by omega)).trans a7)) ((he.get _ (by omega)).trans ((cg _ (by omega)).trans a8))
   ((hek.get m aT).trans hm) (Nat.lt_of_lt_of_le aT hek.next) hR (hg.ext hek) hSu (by have:=(cy.stp un _ hSu).1;omega) (by
    intro y hy
    simp only [List.mem_cons,List.not_mem_nil,or_false] at hy
    rcases hy with rfl|rfl|rfl|rfl
    ·exact t4
    ·exact t5
    ·exact t7
    ·exact t8)
  refine ⟨h',r1,r2,r3,r4 _ hw (by omega) (by omega),fun e=>⟨r5,r6 e⟩,fun e=>?_⟩
  obtain ⟨z1,z2,z3⟩:=r7 e
  exact ⟨z1,z2,(z3 _ (by omega) (by omega)).trans ((he.get _ (by omega)).trans cd)⟩
 have hc:=zjl (k:=kC) (l:=kB.next+1) (bs0:=g.next+1) (bgp:=g.next) (bg:=bg) (w0:=k.next) (SS:=SS) (t:=t) okC ((co _ (by omega)).trans b5) (by omega) ((co _ (by omega)).trans b4) (by omega) (hg.ext eC) cy ht0 iC hw0 (by omega) (by omega) (fun h h' cV hn hr=>by
  rw [cV,cV,cV];exact hr) hY
 refine hc.mono fun y hy=>?_
 obtain ⟨v,h⟩:=y
 obtain ⟨_,f1,f2,f3,f4⟩:=hy
 simp only at f1 f2 f3 f4 ⊢
 have aM:bfs SS (zDW R SS s x) SS.length 0 [t]=zDu R SS s t x:=rfl
 rw [aM] at f3 f4
 cases hb:zDu R SS s t x with
 | true=>
  obtain ⟨r1,r2,r3⟩:=f4 hb
  have her:zCJ (kB.next+1) T' [kB.next] h=one ⟨.ret,⟨T',h.upd (kB.next+1) (some (zBQ .exhausted (some .ret) T' kB.next)),[kB.next]⟩⟩:=by
   unfold zCJ
   rw [r1]
   rfl
  rw [her,zK]
  show Ev true (one _) _
  rw [zK]
  show Ev true (one _) _
  rw [zK]
  show Ev true (zAc E Tryz.f130 ⟨.ret,⟨T',h.upd (kB.next+1) (some (zBQ .exhausted (some .ret) T' kB.next)),[kB.next]⟩⟩) _
  rw [zhk (.inl rfl) t8 ((zW (by omega)).trans r3) ((zW (by omega)).trans r2),zK]
  exact ⟨rfl,zAG (zAG f2 (by omega)) (by omega)⟩
 | false=>
  obtain ⟨r1,r2⟩:=f3 hb
  have dB:h.get (kB.next+1)=some (zBQ .ready none T' kB.next):=(r2 _ (by omega)).trans cl
  have her:zCJ (kB.next+1) T' [kB.next] h=one ⟨.normal,⟨T',h.upd (kB.next+1) (some (zBQ .exhausted none T' kB.next)),[kB.next]⟩⟩:=by
   unfold zCJ
   rw [dB]
   rfl
  rw [her,zK]
  show Ev true (one _) _
  rw [zK]
  have q8:(h.upd (kB.next+1) (some (zBQ .exhausted none T' kB.next))).get (k.next+3)=some (rO [.bool false] 4):=(zW (by omega)).trans ((r2 _ (by omega)).trans ((cg _ (by omega)).trans a8))
  have qd:(h.upd (kB.next+1) (some (zBQ .exhausted none T' kB.next))).get kB.next=some .defd:=(zW (by omega)).trans ((r2 _ (by omega)).trans cd)
  have qw:k.next<=(h.upd (kB.next+1) (some (zBQ .exhausted none T' kB.next))).wm:=zAG f2 (by omega)
  generalize (h.upd (kB.next+1) (some (zBQ .exhausted none T' kB.next)))=h1 at q8 qd qw
  show Ev true (AM.R.andThen (evC E (zY E) none zN8 ⟨T',h1,[kB.next]⟩) (thenC (evC E (zY E) none .ret))) _
  have af:=z7 (P:=E) zqw (o:=0) (x:=.bool false) (cs:=[.bool false]) q8 rfl rfl (by simp) (by simp [zq])
  have he:=zg2 (s:=true) (d:=kB.next) (v8:=ptr (k.next+3)) (T:=T') (h:=h1) (K:=fun ex vs g=>ex=.normal/\vs=[ptr (k.next+3)]/\g=h1.upd (k.next+3) (some (rO [.bool false] 4))) (by
   intro y hy
   simp only [List.mem_cons,List.not_mem_nil,or_false] at hy
   subst hy
   exact t8) (by
   simp only [zN5,af,zK]
   exact ⟨trivial,trivial,rfl⟩)
  refine Ev.andThen (he.mono fun o ho=>?_)
  obtain ⟨ex,T2,g2,ds⟩:=o
  obtain ⟨o1,o2,o3,o4⟩:=ho
  have o1':ds=[kB.next]:=o1
  have o2':ex=.normal:=o2
  have o4':g2=h1.upd (k.next+3) (some (rO [.bool false] 4)):=o4
  have o3':[T2.get 8]=[ptr (k.next+3)]:=o3
  subst o1' o2' o4'
  show Ev true (one _) _
  rw [zK]
  show Ev true (zAc E Tryz.f130 ⟨.ret,⟨T2,h1.upd (k.next+3) (some (rO [.bool false] 4)),[kB.next]⟩⟩) _
  rw [zhk (.inl rfl) (List.cons.inj o3').1 ((zW (by omega)).trans qd) (zO _ _ _),zK]
  exact ⟨rfl,zAG (zAG qw (by omega)) (by omega)⟩
def SameR (R R':Rel):Prop:=∀ p,p∈R ↔ p∈R'
theorem SameR.dec {R R':Rel} (h:SameR R R') (p:Int×Int):decide (p∈R)=decide (p∈R'):=decide_eq_decide.2 (h p)
theorem zKm {R R':Rel} (h:SameR R R') (S:zAF) (x:Int×Int):zEB R S x=zEB R' S x:=by
 have:zFN R x=zFN R' x:=by funext y;unfold zFN;rw [h.dec]
 unfold zEB
 simp only [this]
theorem zFM {R R':Rel} (h:SameR R R') (SS:List zAF) (u:Int) (x:Int×Int):zCE R SS u x=zCE R' SS u x:=by
 unfold zCE
 split
 ·exact zKm h _ _
 ·rfl
theorem zQl {R R':Rel} (h:SameR R R') (SS:List zAF) (s:Int) (x:Int×Int):zDW R SS s x=zDW R' SS s x:=by
 funext u
 unfold zDW
 rw [h.dec,h.dec,zFM h]
theorem zLb {R R':Rel} (h:SameR R R') (SS:List zAF) (s t:Int) (x:Int×Int):zDu R SS s t x=zDu R' SS s t x:=by
 unfold zDu
 rw [zQl h]
def zCu (kind:Int) (R:Rel) (TT:List zAF) (p x:Int×Int):Bool:=if kind=1 then zCE R TT p.2 x else zDu R TT p.1 p.2 x
theorem zLM {R R':Rel} (h:SameR R R') (kind:Int) (TT:List zAF):zCu kind R TT=zCu kind R' TT:=by
 funext p x
 unfold zCu
 rw [zFM h,zLb h]
theorem all_same {α:Type} {l l':List α} (h:∀ a,a∈l ↔ a∈l') (f:α->Bool):l.all f=l'.all f:=by
 rw [Bool.eq_iff_iff,List.all_eq_true,List.all_eq_true]
 exact ⟨fun H a ha=>H a ((h a).2 ha),fun H a ha=>H a ((h a).1 ha)⟩
def zPD (kind:Int) (R:Rel) (SS TT:List zAF):Bool:=zU9 R SS (zCu kind R TT)
theorem zHt {R R':Rel} (h:SameR R R') (kind:Int) (SS TT:List zAF):zPD kind R SS TT=zPD kind R' SS TT:=by
 unfold zPD zU9
 rw [zLM h]
 exact all_same h _
def inB (n m:Int) (p:Int×Int):Bool:=decide (p.1<n)&&decide (p.2<m)
def zij (kind:Int) (prs:Rel) (SS TT:List zAF) (n m:Int):Bool:=
 prs.all (inB n m)&&(decide ((0,0)∈prs)&&zPD kind prs SS TT&&zPD kind (prs.map zBP) TT SS)
def zAJ (kind:Int):List Value:=
 if kind=1 then [.func (.func 128) #[] #[],.func (.func 129) #[] #[],.string ⟨#[115,116,114,111,110,103]⟩]
 else [.func (.func 130) #[] #[],.func (.func 131) #[] #[],.string ⟨#[98,114,97,110,99,104,105,110,103]⟩]
def zMy:Value:=.agg ⟨[.nilFunc,.nilFunc,.string ⟨#[]⟩]++zAJ 1++zAJ 2⟩
theorem pbm1:zAo E 112 (some [(0,(.func (.func 128) #[] #[])),(1,(.func (.func 129) #[] #[])),(2,(.string ⟨#[115,116,114,111,110,103]⟩))])=some (.agg ⟨zAJ 1⟩):=by kernel_rfl
theorem pbm2:zAo E 112 (some [(0,(.func (.func 130) #[] #[])),(1,(.func (.func 131) #[] #[])),(2,(.string ⟨#[98,114,97,110,99,104,105,110,103]⟩))])=some (.agg ⟨zAJ 2⟩):=by kernel_rfl
theorem pbm:zAo E 113 (some [(1,.agg ⟨zAJ 1⟩),(2,.agg ⟨zAJ 2⟩)])=some zMy:=by kernel_rfl
theorem pim1:zC9 E 113 (some zMy) (some (iI 1))=some (.agg ⟨zAJ 1⟩):=by kernel_rfl
theorem pim2:zC9 E 113 (some zMy) (some (iI 2))=some (.agg ⟨zAJ 2⟩):=by kernel_rfl
theorem pim {kind:Int} (h:zDG kind=true):zC9 E 113 (some zMy) (some (iI kind))=some (.agg ⟨zAJ kind⟩):=by
 simp only [zDG,Bool.or_eq_true,decide_eq_true_eq] at h
 rcases h with rfl|rfl
 ·exact pim1
 ·exact pim2
theorem zhr {k:AH} (aa:k.ok):(zY E).call 79 [] k=some [(zMy,k)]:=by
 refine zcG aa (by kernel_rfl) (zef ?_)
 simp only [zpC,zg,zK,zT]
 refine zee ?_
 have o1:=(Own.fresh k).new (.row [.nilFunc,.nilFunc,.string ⟨#[]⟩,.nilFunc,.nilFunc,.string ⟨#[]⟩,.nilFunc,.nilFunc,.string ⟨#[]⟩] 113 0 false)
 have t1:=zI k.fresh (.row [.nilFunc,.nilFunc,.string ⟨#[]⟩,.nilFunc,.nilFunc,.string ⟨#[]⟩,.nilFunc,.nilFunc,.string ⟨#[]⟩] 113 0 false)
 generalize k.fresh.new (.row [.nilFunc,.nilFunc,.string ⟨#[]⟩,.nilFunc,.nilFunc,.string ⟨#[]⟩,.nilFunc,.nilFunc,.string ⟨#[]⟩] 113 0 false)=k1 at o1 t1
 simp only [zb] at t1 ⊢
 have af:=z7 (P:=E) zlM (o:=0) (x:=zMy) (cs:=[.nilFunc,.nilFunc,.string ⟨#[]⟩]++zAJ 1++zAJ 2) t1 rfl rfl (by simp) (by rfl)
 simp only [pbm1,pbm2,pbm,zA,af,zK,zq4,zX,true_and]
 have g1:(k1.upd k.next (some (.row (lput [.nilFunc,.nilFunc,.string ⟨#[]⟩,.nilFunc,.nilFunc,.string ⟨#[]⟩,.nilFunc,.nilFunc,.string ⟨#[]⟩] 0 ([.nilFunc,.nilFunc,.string ⟨#[]⟩]++zAJ 1++zAJ 2)) 113 0 false))).get k.next=some (rO ([.nilFunc,.nilFunc,.string ⟨#[]⟩]++zAJ 1++zAJ 2) 113):=zO _ _ _
 have la:=zV (P:=E) zlR (o:=0) g1 (by decide)
 have:zDF E 113 (ptr k.next) (k1.upd k.next (some (.row (lput [.nilFunc,.nilFunc,.string ⟨#[]⟩,.nilFunc,.nilFunc,.string ⟨#[]⟩,.nilFunc,.nilFunc,.string ⟨#[]⟩] 0 ([.nilFunc,.nilFunc,.string ⟨#[]⟩]++zAJ 1++zAJ 2)) 113 0 false)))=some zMy:=la
 rw [this,zA]
 exact ⟨rfl,zAG o1.wm (Nat.le_refl _)⟩
theorem GV.fx {k l:AH} {bg:Nat} {SS:List zAF} (g:GV k bg SS) (f:Fx NoB k l):GV l bg SS:=g.ext ⟨f.ok,f.next,fun c hc=>f.get c hc (fun h=>h)⟩
theorem Fx.ext0 {k l:AH} (f:Fx NoB k l):Ext k l:=⟨f.ok,f.next,fun c hc=>f.get c hc (fun h=>h)⟩
theorem zlm {a b:Option Addr} {m:Nat}:zAo E 178 (some [(0,.agg ⟨zAu (.pointer a) (.pointer b) m⟩)])=some (.agg ⟨zAu (.pointer a) (.pointer b) m⟩):=by kernel_rfl
def zjI (kind:Int):FuncId:=if kind=1 then 128 else 130
def zmL (kind:Int):FuncId:=if kind=1 then 129 else 131
def zq3 (kind:Int):ByteArray:=if kind=1 then ⟨#[115,116,114,111,110,103]⟩ else ⟨#[98,114,97,110,99,104,105,110,103]⟩
theorem zFb (kind:Int):zAJ kind=[.func (.func (zjI kind)) #[] #[],.func (.func (zmL kind)) #[] #[],.string (zq3 kind)]:=by
 unfold zAJ zjI zmL zq3
 by_cases h:kind=1 <;> simp [h]
theorem ziK {kind:Int} (h:zDG kind=true):veq 100 (.agg ⟨zAJ kind⟩) (.agg ⟨zAJ kind⟩)=true:=by
 simp only [zDG,Bool.or_eq_true,decide_eq_true_eq] at h
 rcases h with rfl|rfl <;> kernel_rfl
theorem zhi {h0 k':AH} {kind:Int} {gx:Value} {bg m ver:Nat} {R:Rel} {SS:List zAF} (aQ:zDG kind=true) (e:Ext h0 k') (hm:h0.get m=some (.map (ent R) ver)) (aT:m<h0.next) (hR:R.Nodup) (hg:GV h0 bg SS) (cy:zVF SS)
  {p x:Int×Int} (h0':0<=p.2) (hN:p.2<(SS.length:Int)):(zY E).call (zjI kind) [.agg ⟨zAu gx (ptr bg) m⟩,iI p.1,iI p.2,.agg ⟨zH x⟩] k'=some [(.bool (zCu kind R SS p x),k')]:=by
 have dY:=(e.get m aT).trans hm
 have cD:=Nat.lt_of_lt_of_le aT e.next
 simp only [zDG,Bool.or_eq_true,decide_eq_true_eq] at aQ
 rcases aQ with rfl|rfl
 ·obtain ⟨t,ht⟩:=Int.eq_ofNat_of_zero_le h0'
  have iC:t<SS.length:=by omega
  have hS:SS[t]?=some SS[t]:=List.getElem?_eq_getElem iC
  have hf:zCu 1 R SS p x=zEB R SS[t] x:=by
   unfold zCu zCE
   rw [ht]
   simp [hS]
  rw [hf,ht]
  exact zNs e.ok dY cD hR (hg.ext e) hS (by have:=(cy.stp t _ hS).1;omega)
 ·have hf:zCu 2 R SS p x=zDu R SS p.1 p.2 x:=by
   unfold zCu
   simp
  rw [hf]
  exact zkA e.ok dY cD hR (hg.ext e) cy h0' hN
theorem zpR {k h:AH} {kind:Int} {b1 b2 m ver b8 b11:Nat} {R:Rel} {SS TT:List zAF} (ho:Own k h) (aQ:zDG kind=true)
  (h8:h.get b8=some (.row (zAu (ptr b1) (ptr b2) m) 176 0 false)) (gX:b8<h.next) (eR:h.get b11=some (rO (zAJ kind) 112)) (h11l:b11<h.next) (hm:h.get m=some (.map (ent R) ver)) (aT:m<h.next) (hR:R.Nodup)
  (ik:GV h b1 SS) (ij:GV h b2 TT) (bp:b1<h.next) (aW:b2<h.next) (cy:zVF SS) (ip:zVF TT) (ai:∀ p∈R,(0<=p.1/\p.1<(SS.length:Int))/\(0<=p.2/\p.2<(TT.length:Int))) {V:Bool}
  (hV:V=(decide ((0,0)∈R)&&zPD kind R SS TT&&zPD kind (R.map zBP) TT SS)) :
  zh8 false (KR E [.tmp 6] (fun x l=>x=.bool V/\k.next<=l.wm)) (ptr b8) (ptr b11) h:=by
 refine zV7 ?_
 have la:=zV (P:=E) zKk (o:=0) h8 (by simp [zAu])
 rw [List.drop_zero,List.take_of_length_le (by simp [zAu])] at la
 have lm:=zV (P:=E) zhR (o:=0) eR (by rw [zFb];simp)
 rw [List.drop_zero,List.take_of_length_le (by rw [zFb];simp)] at lm
 have hsz:∀ (SS:List zAF),zVF SS->∀ (i:Nat) (S:zAF),SS[i]?=some S->S.length<=1000000:=fun SS hS i S h=>by have:=(hS.stp i S h).1;omega
 have c1:(zY E).call 124 [.agg ⟨zAu (ptr b1) (ptr b2) m⟩,.agg ⟨zAJ kind⟩] h=some [(.bool (zPD kind R SS TT),h)]:=by
  rw [zFb]
  exact zUn (h0:=h) (Ext.refl ho.ext.ok) hm aT ik (fun p hp=>(ai p hp).1) (hsz SS cy) (fun k' dm p hp x S hS hx=>zhi aQ dm hm aT hR ij ip (ai p hp).2.1 (ai p hp).2.2)
 simp only [la,lm,zA,zQ,zKG ho.ext.ok hm aT hR,zP]
 by_cases e0:((0:Int),(0:Int))∈R
 ·simp only [e0,decide_true,zM,zU,beq_self_eq_true,cond_true,la,lm,zA,zlm,zQ,c1,zP,zJ]
  cases e1:zPD kind R SS TT with
  | true=>
   simp only [zM,zU,beq_self_eq_true,cond_true,la,lm,zA,zQ]
   refine (zkC ho.ext.ok bp aW hm aT).mono fun y hy=>?_
   obtain ⟨v,h2⟩:=y
   obtain ⟨m',ver',R',rfl,g1,g2,g3,g4,g5,g6⟩:=hy
   simp only at g1 g2 g3 g4 g5 g6
   have o2:=g6.own ho (fun _ h=>h.elim)
   have lm2:=zV (P:=E) zhR (o:=0) ((g6.get b11 h11l (fun h=>h)).trans eR) (by rw [zFb];simp)
   rw [List.drop_zero,List.take_of_length_le (by rw [zFb];simp)] at lm2
   have aO:∀ p∈R',(0<=p.1/\p.1<(TT.length:Int))/\(0<=p.2/\p.2<(SS.length:Int)):=fun p hp=>by
    have:=ai _ ((g5 p).1 hp)
    exact ⟨this.2,this.1⟩
   have c2:(zY E).call 124 [.agg ⟨zAu (ptr b2) (ptr b1) m'⟩,.agg ⟨zAJ kind⟩] h2=some [(.bool (zPD kind R' TT SS),h2)]:=by
    rw [zFb]
    exact zUn (h0:=h2) (Ext.refl o2.ext.ok) g1 g3 (ij.fx g6) (fun p hp=>(aO p hp).1) (hsz TT ip) (fun k' dm p hp x S hS hx=>zhi aQ dm g1 g3 g4 (ik.fx g6) cy (aO p hp).2.1 (aO p hp).2.2)
   have aP:SameR R' (R.map zBP):=fun p=>by
    rw [g5,List.mem_map]
    constructor
    ·intro h;exact ⟨_,h,rfl⟩
    ·rintro ⟨q,hq,rfl⟩;exact hq
   simp only [zM,zU,beq_self_eq_true,cond_true,lm2,zA,ziK aQ,zlm,zQ,c2,zP,zJ,zAS,zX,true_and]
   refine ⟨?_,o2.wm⟩
   rw [hV,e1,zHt aP]
   simp [e0]
  | false=>
   simp only [zM,zU,zw,zx,show (false==true)=false from rfl,cond_false,zA,zK,zJ,show veq 100 undef undef=true from by kernel_rfl,zAS,zX,true_and]
   exact ⟨by rw [hV,e1];simp,ho.wm⟩
 ·simp only [e0,decide_false,zM,zU,zw,zx,show (false==true)=false from rfl,cond_false,zA,zK,zJ,show veq 100 undef undef=true from by kernel_rfl,zAS,zX,true_and]
  exact ⟨by rw [hV];simp [e0],ho.wm⟩
theorem zml {h:AH} {kind:Int}:zf E 112 (h.new (.row [.nilFunc,.nilFunc,.string ⟨#[]⟩] 112 0 false)) (some (ptr h.next)) (some (.agg ⟨zAJ kind⟩))=one (undef,(h.new (.row [.nilFunc,.nilFunc,.string ⟨#[]⟩] 112 0 false)).upd h.next (some (rO (zAJ kind) 112))):=by
 rw [z7 (P:=E) zlN (x:=.agg ⟨zAJ kind⟩) (cs:=zAJ kind) (zI h _) rfl (by rw [zFb];rfl) (by simp) (by rw [zFb];rfl)]
 rw [zFb];rfl
theorem zpS {k h:AH} {kind:Int} {vp:Value} {b1 b2 m ver b5 b8:Nat} {R:Rel} {SS TT:List zAF} (ho:Own k h) (aQ:zDG kind=true)
  (h5:h.get b5=some (rO [iI kind,vp] 32)) (h5l:b5<h.next)
  (h8:h.get b8=some (.row (zAu (ptr b1) (ptr b2) m) 176 0 false)) (gX:b8<h.next) (hm:h.get m=some (.map (ent R) ver)) (aT:m<h.next) (hR:R.Nodup)
  (ik:GV h b1 SS) (ij:GV h b2 TT) (bp:b1<h.next) (aW:b2<h.next) (cy:zVF SS) (ip:zVF TT) (ai:∀ p∈R,(0<=p.1/\p.1<(SS.length:Int))/\(0<=p.2/\p.2<(TT.length:Int))) {V:Bool}
  (hV:V=(decide ((0,0)∈R)&&zPD kind R SS TT&&zPD kind (R.map zBP) TT SS)) :
  znO false (KR E [.tmp 6] (fun x l=>x=.bool V/\k.next<=l.wm)) (ptr b5) (ptr b8) h:=by
 refine zV8 ?_
 have l5:=zF (P:=E) zAb (o:=0) h5
 simp only [lnth] at l5
 have l5n:zG E 3 (h.new (.row [.nilFunc,.nilFunc,.string ⟨#[]⟩] 112 0 false)) (some (ptr b5))=some (iI kind):=by
  have:=zF (P:=E) zAb (o:=0) ((zL (o:=.row [.nilFunc,.nilFunc,.string ⟨#[]⟩] 112 0 false) (by omega)).trans h5)
  simpa only [lnth] using this
 have fxf:Fx NoB h ((h.new (.row [.nilFunc,.nilFunc,.string ⟨#[]⟩] 112 0 false)).upd h.next (some (rO (zAJ kind) 112))):=((Fx.refl ho.ext.ok).new _).upd (.inr (Nat.le_refl _)) _
 have df:∀ c,c<h.next->((h.new (.row [.nilFunc,.nilFunc,.string ⟨#[]⟩] 112 0 false)).upd h.next (some (rO (zAJ kind) 112))).get c=h.get c:=fun c hc=>fxf.get c hc (fun h=>h)
 have eO:((h.new (.row [.nilFunc,.nilFunc,.string ⟨#[]⟩] 112 0 false)).upd h.next (some (rO (zAJ kind) 112))).next=h.next+1:=rfl
 have fin:zh8 false (KR E [.tmp 6] (fun x l=>x=.bool V/\k.next<=l.wm)) (ptr b8) (ptr h.next) ((h.new (.row [.nilFunc,.nilFunc,.string ⟨#[]⟩] 112 0 false)).upd h.next (some (rO (zAJ kind) 112))):=
  zpR (fxf.own ho (fun _ h=>h.elim)) aQ ((df _ gX).trans h8) (by omega) (zO _ _ _) (by omega) ((df _ aT).trans hm) (by omega) hR (ik.fx fxf) (ij.fx fxf) (by omega) (by omega) cy ip ai hV
 have hok1:(h.new (.row [.nilFunc,.nilFunc,.string ⟨#[]⟩] 112 0 false)).ok:=zCW ho.ext.ok _
 simp only [zGI,Nat.add_zero,l5,zA,zQ,zhr ho.ext.ok,zhr hok1,zP,zCm,true_and,pim aQ,zpD,zg,zK,zT,l5n,zml]
 exact ⟨fin,fin⟩
theorem GV.fxm {k l:AH} {bg m ver:Nat} {SS:List zAF} {es:List (Value×Value)} (g:GV k bg SS) (f:Fx (fun c=>c=m) k l) (hm:k.get m=some (.map es ver)):GV l bg SS:=by
 obtain ⟨loc,bs,cells,G⟩:=g.ex
 have ah:∀ {a:Nat} {vs:List Value} {ty es:Nat} {ro:Bool},k.get a=some (.row vs ty es ro)->a≠m:=by
  rintro a vs ty es ro h rfl
  rw [hm] at h;cases h
 refine ⟨loc,bs,cells,(f.get bg G.ltg (ah G.g)).trans G.g,(f.get bs G.lts (ah G.s)).trans G.s,G.len,G.ne,Nat.lt_of_lt_of_le G.ltg f.next,Nat.lt_of_lt_of_le G.lts f.next,G.locg,G.locs,fun i c S hc hS=>?_,G.blk,G.dis⟩
 rcases G.cell i c S hc hS with a|⟨b,a1,a2,a3⟩
 ·exact .inl a
 ·exact .inr ⟨b,a1,(f.get b a3 (ah a2)).trans a2,Nat.lt_of_lt_of_le a3 f.next⟩
theorem zK4 {k:AH} {a m ver:Nat} {vs:List Value} {ty es:Nat} {ro:Bool} {en:List (Value×Value)} (h:k.get a=some (.row vs ty es ro)) (hm:k.get m=some (.map en ver)):a≠m:=by
 rintro rfl
 rw [hm] at h;cases h
theorem rel4 {k h1:AH} {kind n1 n2:Int} {vp vl ve wl we:Value} {prs:Rel} {b1 b2 m b3 b4 b5 b8 ver0:Nat} {es0:List (Value×Value)} {SS TT:List zAF} (aQ:zDG kind=true)
  (fa:h1.get m=some (.map es0 ver0)) (aT:m<h1.next) (ig:k.next<=m)
  (h3:h1.get b3=some (rO [iI n1,vl,ve] 25)) (h3l:b3<h1.next) (h4:h1.get b4=some (rO [iI n2,wl,we] 25)) (h4l:b4<h1.next)
  (h5:h1.get b5=some (rO [iI kind,vp] 32)) (h5l:b5<h1.next)
  (h8:h1.get b8=some (.row (zAu (ptr b1) (ptr b2) m) 176 0 false)) (gX:b8<h1.next)
  (ik:GV h1 b1 SS) (ij:GV h1 b2 TT) (bp:b1<h1.next) (aW:b2<h1.next) (cy:zVF SS) (ip:zVF TT) (gz:n1=(SS.length:Int)) (e8:n2=(TT.length:Int))
  {ap:Option Addr} {cp:Nat} (eb:vp=.slice ap prs.length cp) (ha:Arr k 2 vp (prs.map zH)) (gp:prs.length<=200000) (cX:∀ p∈prs,0<=p.1/\0<=p.2) {V:Bool} (hV:V=zij kind prs SS TT n1 n2) :
  ∀ (r i:Nat),i+r=prs.length->∀ h Rn ver,Own k h->Fx (fun c=>c=m) h1 h->h.get m=some (.map (ent Rn) ver)->Rn.Nodup->(∀ p,p∈Rn ↔ p∈prs.take i)->(prs.take i).all (inB n1 n2)=true->
   zqa false (KR E [.tmp 6] (fun x l=>x=.bool V/\k.next<=l.wm)) (ptr b3) (ptr b4) (ptr b5) (ptr b8) vp (iI (prs.length:Int)) (iI (i:Int)) h:=by
 intro r
 induction r with
 | zero=>
  intro i hi h Rn ver ho f hm aZ aY aA
  refine zPO ?_
  have:¬ ((i:Int)<(prs.length:Int)):=by omega
  simp only [zZ,zA,this,decide_false,zj]
  rw [List.take_of_length_le (by omega)] at aY aA
  have ai:∀ p∈Rn,(0<=p.1/\p.1<(SS.length:Int))/\(0<=p.2/\p.2<(TT.length:Int)):=fun p hp=>by
   have hp':=(aY p).1 hp
   have h1':=List.all_eq_true.1 aA p hp'
   simp only [inB,Bool.and_eq_true,decide_eq_true_eq] at h1'
   have h2':=cX p hp'
   omega
  have eO:=f.next
  refine zpS ho aQ ((f.get b5 h5l (zK4 h5 fa)).trans h5) (by omega) ((f.get b8 gX (zK4 h8 fa)).trans h8) (by omega) hm (by omega) aZ (ik.fxm f fa) (ij.fxm f fa) (by omega) (by omega) cy ip ai ?_
  rw [hV]
  unfold zij
  rw [aA,SameR.dec aY,zHt aY,zHt (R:=Rn.map zBP) (R':=prs.map zBP) (fun p=>by
   simp only [List.mem_map]
   exact ⟨fun ⟨q,a,b⟩=>⟨q,(aY q).1 a,b⟩,fun ⟨q,a,b⟩=>⟨q,(aY q).2 a,b⟩⟩)]
  rfl
 | succ r ih=>
  intro i hi h Rn ver ho f hm aZ aY aA
  have ai:i<prs.length:=by omega
  refine zPO ?_
  have ab:((i:Int)<(prs.length:Int)):=by omega
  simp only [zZ,zA,ab,decide_true,zz]
  refine zeo ?_
  have bA:(prs.map zH)[i]?=some (zH prs[i]):=by simp [ai]
  obtain ⟨b,o,c,vs,ty,es,ro,hv,hb,aD,aU,hz,ba⟩:=ha.load bA
  have hp:=cX prs[i] (List.getElem_mem ai)
  have eM:prs.take (i+1)=prs.take i++[prs[i]]:=by rw [List.take_add_one];simp [ai]
  have hpm:prs[i]∈prs:=List.getElem_mem ai
  generalize prs[i]=p at hz hp eM hpm
  rw [eb] at hv
  simp only [Value.slice.injEq] at hv
  obtain ⟨bk,_,_⟩:=hv
  subst bk
  have gb:=(ho.ext.get b aD).trans hb
  simp only [eb,zAR ai,zA,zV zKj gb aU,hz,zdI,zg,zK,zT,zNu]
  refine zen ?_
  have fb:Fx NoB h ((h.new (rO [iI 0,iI 0] 54)).upd h.next (some (rO (zH p) 54))):=((Fx.refl ho.ext.ok).new _).upd (.inr (Nat.le_refl _)) _
  have tb:((h.new (rO [iI 0,iI 0] 54)).upd h.next (some (rO (zH p) 54))).get h.next=some (rO (zH p) 54):=zO _ _ _
  have nb:((h.new (rO [iI 0,iI 0] 54)).upd h.next (some (rO (zH p) 54))).next=h.next+1:=rfl
  generalize ((h.new (rO [iI 0,iI 0] 54)).upd h.next (some (rO (zH p) 54)))=k1 at fb tb nb
  have o1:=fb.own ho (fun _ h=>h.elim)
  have f1:Fx (fun c=>c=m) h1 k1:=f.trans fb (fun _ h=>h.elim)
  have ep:k1.get m=_:=(fb.get m (by have:=f.next;omega) (fun h=>h)).trans hm
  have c0:=zF (P:=E) zAb (o:=0) tb
  have c1:=zF (P:=E) zAb (o:=1) tb
  have x0:=zF (P:=E) zAb (o:=0) ((f1.get b3 h3l (zK4 h3 fa)).trans h3)
  have y0:=zF (P:=E) zAb (o:=0) ((f1.get b4 h4l (zK4 h4 fa)).trans h4)
  simp only [lnth,zH] at c0 c1 x0 y0
  simp only [zFd,zFc,c0,zCD,Nat.add_zero,x0,zA,zAa]
  have bad:inB n1 n2 p=false->zqZ false (KR E [.tmp 6] (fun x l=>x=.bool V/\k.next<=l.wm)) k1:=by
   intro hb
   refine zem ?_
   simp only [zA,zAS,zX,true_and]
   refine ⟨?_,o1.wm⟩
   rw [hV]
   have:prs.all (inB n1 n2)=false:=by
    rw [List.all_eq_false]
    exact ⟨p,hpm,by rw [hb];simp⟩
   unfold zij
   rw [this];rfl
  by_cases e1:n1<=p.1
  ·simp only [e1,decide_true,zM,show (true==false)=false from rfl,cond_false,zA,zJ,cond_true,zz]
   exact bad (by simp [inB];omega)
  ·simp only [e1,decide_false,zM,beq_self_eq_true,cond_true,c1,zCD,Nat.add_zero,y0,zA,zAa,zJ,cond_false]
   by_cases e2:n2<=p.2
   ·simp only [e2,decide_true,zz]
    exact bad (by simp [inB];omega)
   ·simp only [e2,decide_false,zj]
    refine zel ?_
    have l8:=zF (P:=E) zKl (o:=2) ((f1.get b8 gX (zK4 h8 fa)).trans h8)
    simp only [lnth,zAu] at l8
    have lp:=zV (P:=E) zKj (o:=0) tb (by simp [zH])
    rw [List.drop_zero,List.take_of_length_le (by simp [zH])] at lp
    obtain ⟨R',u1,u2,u3⟩:=zhJ ep aZ p
    simp only [zFk,Nat.zero_add,l8,lp,zA,u1,zK]
    refine zek ?_
    simp only [zAD _ (zEA ai (by omega)),zA]
    have f2:Fx (fun c=>c=m) h1 (k1.upd m (some (.map (ent R') (ver+1)))):=f1.upd (.inl rfl) _
    have f3:Fx (fun c=>c=m) k1 (k1.upd m (some (.map (ent R') (ver+1)))):=Fx.upd (P:=fun c=>c=m) (Fx.refl o1.ext.ok) (.inl rfl) _
    have:=ih (i+1) (by omega) _ R' (ver+1) (f3.own o1 (fun c h=>by rw [h];exact ig)) f2 (zO _ _ _) u2 (fun q=>by
     rw [u3,aY,eM,List.mem_append,List.mem_singleton]
     exact Or.comm) (by
     rw [eM,List.all_append,aA]
     simp [inB];omega)
    rw [eb] at this
    simpa using this
theorem ziJ (n:Nat) (a:Option Addr):veq n (.pointer a) (.pointer a)=true:=by cases n <;> (show decide (a=a)=true;simp)
theorem zq7 {a b c a' b' c':Value} {h:AH}:zd E 82 2 (some [(0,.agg #[a,b,c]),(1,.agg #[a',b',c'])]) h=one (.slice (some ⟨h.next,0,none⟩) 2 2,h.new (rO [a,b,c,a',b',c'] 25)):=by kernel_rfl
def zMq (L M:GL) (B:GB):Bool:=match zFf [L,M] with
 | [SS,TT]=>zij B.kind B.prs SS TT L.n M.n
 | _=>false
theorem GrOf.ss {L:GL} {x:Gr} {loc:Nat} {h:AH} (g:GrOf L x) (G:GG loc h x.1 x.2.1 x.2.2.1 x.2.2.2) (hL:zy L=false):zVF x.2.2.2/\L.n=(x.2.2.2.length:Int):=by
 have hs:=zBX hL
 have h1:=g.1
 have h2:=G.len
 refine ⟨⟨by omega,fun i S hS=>?_⟩,by omega⟩
 obtain ⟨a,b⟩:=g.2 i S hS
 refine ⟨by omega,fun y hy=>?_⟩
 have:=(a y hy).1
 omega
theorem zGZ {B:GB} (h:zAd B=0):zDG B.kind=true/\B.prs.length<=200000/\∀ p∈B.prs,0<=p.1/\0<=p.2:=by
 unfold zAd at h
 cases h1:zDG B.kind with
 | false=>rw [h1] at h;simp at h
 | true=>
  rw [h1] at h
  simp only [Bool.true_eq_false,if_false] at h
  by_cases h2:200000<B.prs.length
  ·rw [if_pos h2] at h;omega
  ·rw [if_neg h2] at h
   cases h3:zAI (zB8 B.prs) B.prs.length 0 with
   | true=>rw [h3] at h;simp at h
   | false=>
    refine ⟨rfl,by omega,fun p hp=>?_⟩
    obtain ⟨i,hi⟩:=List.mem_iff_getElem?.1 hp
    have:=zBO h3 i (Nat.zero_le _) (by have:=(List.getElem?_eq_some_iff.1 hi).1;omega)
    unfold zB8 at this
    rw [hi] at this
    simp only [Bool.or_eq_false_iff,decide_eq_false_iff_not] at this
    omega
theorem zhs {k:AH} {x y:Value} {e:List Value} {L M:GL} {B:GB} (aa:k.ok) (hx:RL k x L) (hy:RL k y M) (hL:zy L=false) (hM:zy M=false) (he:RB k e B) (hB:zAd B=0) :
  (zY E).call 72 [x,y,.agg ⟨e⟩] k=some [(.bool (zMq L M B),k)]:=by
 obtain ⟨vl,ve,elsL,rfl,x2,x3,x4⟩:=hx.ex
 obtain ⟨wl,we,elsM,rfl,y2,y3,y4⟩:=hy.ex
 obtain ⟨vp,rfl,e2⟩:=he.ex
 obtain ⟨aQ,gp,cX⟩:=zGZ hB
 refine zgR (s:=false) aa rfl (zes ?_)
 simp only [zg,zK,zT,zA]
 refine zer ?_
 have o1:=(((Own.fresh k).new (rO [iI L.n,vl,ve] 25)).new (rO [iI M.n,wl,we] 25)).new (rO [iI B.kind,vp] 32)
 have g3:(((k.fresh.new (rO [iI L.n,vl,ve] 25)).new (rO [iI M.n,wl,we] 25)).new (rO [iI B.kind,vp] 32)).get k.next=some (rO [iI L.n,vl,ve] 25):=
  (zL (by simp;omega)).trans ((zL (by simp)).trans (zI k.fresh _))
 have g4:(((k.fresh.new (rO [iI L.n,vl,ve] 25)).new (rO [iI M.n,wl,we] 25)).new (rO [iI B.kind,vp] 32)).get (k.next+1)=some (rO [iI M.n,wl,we] 25):=
  (zL (by simp)).trans (zI (k.fresh.new _) _)
 have g5:(((k.fresh.new (rO [iI L.n,vl,ve] 25)).new (rO [iI M.n,wl,we] 25)).new (rO [iI B.kind,vp] 32)).get (k.next+2)=some (rO [iI B.kind,vp] 32):=zI ((k.fresh.new _).new _) _
 have n1:(((k.fresh.new (rO [iI L.n,vl,ve] 25)).new (rO [iI M.n,wl,we] 25)).new (rO [iI B.kind,vp] 32)).next=k.next+3:=rfl
 simp only [zb,AH.next_new]
 generalize (((k.fresh.new (rO [iI L.n,vl,ve] 25)).new (rO [iI M.n,wl,we] 25)).new (rO [iI B.kind,vp] 32))=k1 at o1 g3 g4 g5 n1
 have la:=zV (P:=E) zDe (o:=0) g3 (by simp)
 have lb:=zV (P:=E) zDe (o:=0) g4 (by simp)
 simp only [List.drop_zero,List.take] at la lb
 simp only [la,lb,zA,zq7,zK,zQ]
 have o2:=o1.new (rO [iI L.n,vl,ve,iI M.n,wl,we] 25)
 have t2:=zI k1 (rO [iI L.n,vl,ve,iI M.n,wl,we] 25)
 have g3':(k1.new (rO [iI L.n,vl,ve,iI M.n,wl,we] 25)).get k.next=_:=(zL (by omega)).trans g3
 have g4':(k1.new (rO [iI L.n,vl,ve,iI M.n,wl,we] 25)).get (k.next+1)=_:=(zL (by omega)).trans g4
 have g5':(k1.new (rO [iI L.n,vl,ve,iI M.n,wl,we] 25)).get (k.next+2)=_:=(zL (by omega)).trans g5
 have n2:(k1.new (rO [iI L.n,vl,ve,iI M.n,wl,we] 25)).next=k1.next+1:=rfl
 generalize (k1.new (rO [iI L.n,vl,ve,iI M.n,wl,we] 25))=k2 at o2 t2 g3' g4' g5' n2
 have ak:Args k2 (.slice (some ⟨k1.next,0,none⟩) 2 2) [[iI L.n,vl,ve],[iI M.n,wl,we]] [L,M]:=by
  refine ⟨?_,rfl,by simp,fun i ee LL h1 h2=>?_,fun i LL h=>?_⟩
  ·refine Arr.row (els:=[[iI L.n,vl,ve],[iI M.n,wl,we]]) t2 (by omega) (by simp) (fun i ee aI=>?_)
   match i with
   | 0=>simp at aI;subst aI;exact ⟨rfl,rfl⟩
   | 1=>simp at aI;subst aI;exact ⟨rfl,rfl⟩
   | i+2=>simp at aI
  ·match i with
   | 0=>simp at h1 h2;subst h1 h2;exact hx.ext o2.ext
   | 1=>simp at h1 h2;subst h1 h2;exact hy.ext o2.ext
   | i+2=>simp at h1
  ·match i with
   | 0=>simp at h;subst h;exact hL
   | 1=>simp at h;subst h;exact hM
   | i+2=>simp at h
 refine ((zmM o2.ext.ok (by simp) ak).weak).mono fun z hz=>?_
 obtain ⟨gs,hO,hlen,ii,gE,fx⟩:=hz
 obtain ⟨out,k3⟩:=z
 simp only at hO fx ⊢
 match gs,hlen with
 | [x1,x2],_=>
  have o3:=fx.own o2 (fun _ h=>h.elim)
  have G1:=hO.gg x1 (by simp)
  have G2:=hO.gg x2 (by simp)
  obtain ⟨s1,s2⟩:=(ii 0 x1 L rfl rfl).ss G1 hL
  obtain ⟨r1,r2⟩:=(ii 1 x2 M rfl rfl).ss G2 hM
  have V1:GV k3 x1.1 x1.2.2.2:=⟨_,_,_,G1⟩
  have V2:GV k3 x2.1 x2.2.2.2:=⟨_,_,_,G2⟩
  have hrv:zMq L M B=zij B.kind B.prs x1.2.2.2 x2.2.2.2 L.n M.n:=by
   unfold zMq
   rw [← gE]
   rfl
  rcases hO.sl with ⟨_,h⟩|⟨bo,rfl,im,fk,hbolo⟩
  ·cases h
  ·have p3:k3.get k.next=_:=(fx.get _ (by omega) (fun h=>h)).trans g3'
   have p4:k3.get (k.next+1)=_:=(fx.get _ (by omega) (fun h=>h)).trans g4'
   have p5:k3.get (k.next+2)=_:=(fx.get _ (by omega) (fun h=>h)).trans g5'
   have eO:=fx.next
   refine zeq ?_
   have m0:=zF (P:=E) zDN (o:=0) im
   have m1:=zF (P:=E) zDN (o:=1) im
   simp only [List.map_cons,List.map_nil,lnth] at m0 m1
   have i0:zE E 126 (some (.slice (some ⟨bo,0,none⟩) [x1,x2].length (UNK+1))) (some (iI 0))=some (.pointer (some ⟨bo,0,none⟩)):=zhh (k:=0) (by simp)
   have i1:zE E 126 (some (.slice (some ⟨bo,0,none⟩) [x1,x2].length (UNK+1))) (some (iI 1))=some (.pointer (some ⟨bo,1,none⟩)):=zhh (k:=1) (by simp)
   have rest:∀ (h:AH) (m b8 ver:Nat),Fx NoB k3 h->h.get m=some (.map (ent []) ver)->m<h.next->k3.next<=m->h.get b8=some (.row (zAu (ptr x1.1) (ptr x2.1) m) 176 0 false)->b8<h.next->
     zqb false (KR E [.tmp 6] (fun x l=>x=.bool (zMq L M B)/\k.next<=l.wm)) (ptr k.next) (ptr (k.next+1)) (ptr (k.next+2)) (ptr b8) h:=by
    intro h m b8 ver f hm aT ig h8 gX
    refine zep ?_
    have fn:=f.next
    have w3:=(f.get k.next (by omega) (fun h=>h)).trans p3
    have w4:=(f.get (k.next+1) (by omega) (fun h=>h)).trans p4
    have w5:=(f.get (k.next+2) (by omega) (fun h=>h)).trans p5
    have l1:=zF (P:=E) zFw (o:=1) w5
    simp only [lnth] at l1
    obtain ⟨ap,cp,eb⟩:=e2.slice
    rw [List.length_map] at eb
    rw [eb] at l1
    simp only [zCU,Nat.zero_add,l1,zA,zTf]
    have:=rel4 (k:=k) (h1:=h) (kind:=B.kind) (prs:=B.prs) (V:=zMq L M B) aQ hm aT (by omega) w3 (by omega) w4 (by omega) w5 (by omega) h8 gX (V1.fx f) (V2.fx f) (by have:=G1.ltg;omega) (by have:=G2.ltg;omega) s1 r1 s2 r2 eb e2 gp cX hrv
     B.prs.length 0 (by omega) h [] ver (f.own o3 (fun _ h=>h.elim)) (Fx.refl f.ok) hm (by simp) (by simp) (by simp)
    rw [eb] at this
    simpa using this
   have ah:∀ {o:AObj} {c:Nat},c<k3.next->(k3.new o).get c=k3.get c:=fun hc=>zL (by omega)
   have dS:∀ {o o':AObj} {c:Nat},c<k3.next->((k3.new o).new o').get c=k3.get c:=fun hc=>(zL (by simp;omega)).trans (zL (by omega))
   have a0:∀ {o:AObj},zG E 128 (k3.new o) (sP bo 0)=some (ptr x1.1):=fun {o}=>by
    have:=zF (P:=E) zDN (o:=0) ((ah (o:=o) fk).trans im)
    simpa only [List.map_cons,List.map_nil,lnth] using this
   have a1:∀ {o:AObj},zG E 128 (k3.new o) (some (.pointer (some ⟨bo,1,none⟩)))=some (ptr x2.1):=fun {o}=>by
    have:=zF (P:=E) zDN (o:=1) ((ah (o:=o) fk).trans im)
    simpa only [List.map_cons,List.map_nil,lnth] using this
   have b0:∀ {o o':AObj},zG E 128 ((k3.new o).new o') (sP bo 0)=some (ptr x1.1):=fun {o o'}=>by
    have:=zF (P:=E) zDN (o:=0) ((dS (o:=o) (o':=o') fk).trans im)
    simpa only [List.map_cons,List.map_nil,lnth] using this
   have b1:∀ {o o':AObj},zG E 128 ((k3.new o).new o') (some (.pointer (some ⟨bo,1,none⟩)))=some (ptr x2.1):=fun {o o'}=>by
    have:=zF (P:=E) zDN (o:=1) ((dS (o:=o) (o':=o') fk).trans im)
    simpa only [List.map_cons,List.map_nil,lnth] using this
   have hst2:=z7 (P:=E) zOB (o:=0) (h:=(k3.new (rO [.pointer none,.pointer none,.map none] 176)).new (.map [] 0)) (x:=.agg ⟨zAu (ptr x1.1) (ptr x2.1) (k3.next+1)⟩) (cs:=zAu (ptr x1.1) (ptr x2.1) (k3.next+1)) ((zL (by simp)).trans (zI k3 _)) rfl rfl (by simp) (by simp [zAu,zq])
   have hst1:=z7 (P:=E) zOB (o:=0) (h:=(k3.new (.map [] 0)).new (rO [.pointer none,.pointer none,.map none] 176)) (b:=k3.next+1) (x:=.agg ⟨zAu (ptr x1.1) (ptr x2.1) k3.next⟩) (cs:=zAu (ptr x1.1) (ptr x2.1) k3.next) (zI (k3.new _) _) rfl rfl (by simp) (by simp [zAu,zq])
   simp only [zA,i0,i1,m0,m1,zK,a0,a1,b0,b1,ziJ,true_and,zln,ziH,zg,zT,AH.next_new,hst1,hst2]
   refine ⟨?_,?_⟩
   ·have ff:Fx NoB k3 (((k3.new (.map [] 0)).new (rO [.pointer none,.pointer none,.map none] 176)).upd (k3.next+1) (some (.row (zAu (ptr x1.1) (ptr x2.1) k3.next) 176 0 false))):=(((Fx.refl o3.ext.ok).new _).new _).upd (.inr (by omega)) _
    exact rest _ k3.next (k3.next+1) 0 ff ((zW (by omega)).trans ((zL (by simp)).trans (zI k3 _))) (by show k3.next<k3.next+2;omega) (Nat.le_refl _) (zO _ _ _) (by show k3.next+1<k3.next+2;omega)
   ·have ff:Fx NoB k3 (((k3.new (rO [.pointer none,.pointer none,.map none] 176)).new (.map [] 0)).upd k3.next (some (.row (zAu (ptr x1.1) (ptr x2.1) (k3.next+1)) 176 0 false))):=(((Fx.refl o3.ext.ok).new _).new _).upd (.inr (Nat.le_refl _)) _
    exact rest _ (k3.next+1) k3.next 0 ff ((zW (by omega)).trans (zI (k3.new _) _)) (by show k3.next+1<k3.next+2;omega) (by omega) (zO _ _ _) (by show k3.next<k3.next+2;omega)
theorem zqG {a b:Value} {h:AH}:zd E 83 1 (some [(0,.agg #[a,b])]) h=one (.slice (some ⟨h.next,0,none⟩) 1 1,h.new (rO [a,b] 32)):=by kernel_rfl
def zD4 (L M:GL) (B:GB):Int:=if zy L||zy M then 8 else if zAd B≠0 then zAd B else if zMq L M B then 0 else 360
theorem zGe {k:AH} {x y:Value} {e:List Value} {L M:GL} {B:GB} (aa:k.ok) (hx:RL k x L) (hy:RL k y M) (he:RB k e B) :
  (zY E).call 15 [x,y,.agg ⟨e⟩] k=some [(iI (zD4 L M B),k)]:=by
 obtain ⟨vl,ve,elsL,rfl,x2,x3,x4⟩:=id hx.ex
 obtain ⟨wl,we,elsM,rfl,y2,y3,y4⟩:=id hy.ex
 obtain ⟨vp,rfl,e2⟩:=id he.ex
 refine zgn (s:=true) aa rfl (zf6 ?_)
 simp only [zg,zK,zT,zA]
 refine zf5 ?_
 have o1:=(((Own.fresh k).new (rO [iI L.n,vl,ve] 25)).new (rO [iI M.n,wl,we] 25)).new (rO [iI B.kind,vp] 32)
 have g3:(((k.fresh.new (rO [iI L.n,vl,ve] 25)).new (rO [iI M.n,wl,we] 25)).new (rO [iI B.kind,vp] 32)).get k.next=some (rO [iI L.n,vl,ve] 25):=
  (zL (by simp;omega)).trans ((zL (by simp)).trans (zI k.fresh _))
 have g4:(((k.fresh.new (rO [iI L.n,vl,ve] 25)).new (rO [iI M.n,wl,we] 25)).new (rO [iI B.kind,vp] 32)).get (k.next+1)=some (rO [iI M.n,wl,we] 25):=
  (zL (by simp)).trans (zI (k.fresh.new _) _)
 have g5:(((k.fresh.new (rO [iI L.n,vl,ve] 25)).new (rO [iI M.n,wl,we] 25)).new (rO [iI B.kind,vp] 32)).get (k.next+2)=some (rO [iI B.kind,vp] 32):=zI ((k.fresh.new _).new _) _
 have n1:(((k.fresh.new (rO [iI L.n,vl,ve] 25)).new (rO [iI M.n,wl,we] 25)).new (rO [iI B.kind,vp] 32)).next=k.next+3:=rfl
 simp only [zb,AH.next_new]
 generalize (((k.fresh.new (rO [iI L.n,vl,ve] 25)).new (rO [iI M.n,wl,we] 25)).new (rO [iI B.kind,vp] 32))=k1 at o1 g3 g4 g5 n1
 have la:=zV (P:=E) zDe (o:=0) g3 (by simp)
 have lb:=zV (P:=E) zDe (o:=0) g4 (by simp)
 simp only [List.drop_zero,List.take] at la lb
 have o2:=o1.new (rO [iI L.n,vl,ve,iI M.n,wl,we] 25)
 have t2:=zI k1 (rO [iI L.n,vl,ve,iI M.n,wl,we] 25)
 have n2:(k1.new (rO [iI L.n,vl,ve,iI M.n,wl,we] 25)).next=k1.next+1:=rfl
 have g3':(k1.new (rO [iI L.n,vl,ve,iI M.n,wl,we] 25)).get k.next=_:=(zL (by omega)).trans g3
 have g4':(k1.new (rO [iI L.n,vl,ve,iI M.n,wl,we] 25)).get (k.next+1)=_:=(zL (by omega)).trans g4
 have g5':(k1.new (rO [iI L.n,vl,ve,iI M.n,wl,we] 25)).get (k.next+2)=_:=(zL (by omega)).trans g5
 simp only [la,lb,zA,zq7,zK,zQ]
 generalize (k1.new (rO [iI L.n,vl,ve,iI M.n,wl,we] 25))=k2 at o2 t2 n2 g3' g4' g5'
 have cH:=zUd (h0:=k2) (k:=k2) (v:=.slice (some ⟨k1.next,0,none⟩) 2 2) (els:=[[iI L.n,vl,ve],[iI M.n,wl,we]]) (Ls:=[L,M])
  (Arr.row (els:=[[iI L.n,vl,ve],[iI M.n,wl,we]]) t2 (by omega) (by simp) (fun i ee aI=>by
   match i with
   | 0=>simp at aI;subst aI;exact ⟨rfl,rfl⟩
   | 1=>simp at aI;subst aI;exact ⟨rfl,rfl⟩
   | i+2=>simp at aI)) rfl (by simp) (fun i ee LL h1 h2=>by
   match i with
   | 0=>simp at h1 h2;subst h1 h2;exact hx.ext o2.ext
   | 1=>simp at h1 h2;subst h1 h2;exact hy.ext o2.ext
   | i+2=>simp at h1) (Ext.refl o2.ext.ok)
 have a9:zAI (zII [L,M]) 2 0=(zy L||zy M):=by
  simp [zAI,zII]
 simp only [List.length_cons,List.length_nil,a9] at cH
 simp only [cH,zP]
 refine zf4 ?_
 cases hb:(zy L||zy M) with
 | true=>
  simp only [if_true,zA,zAp,show decide ((8:Int)=0)=false from rfl,Bool.not_false,zz]
  refine zf3 ?_
  simp only [zA,zAS,zX,true_and]
  exact ⟨by simp [zD4,hb],o2.wm⟩
 | false=>
  obtain ⟨hL,hM⟩:=Bool.or_eq_false_iff.1 hb
  simp only [Bool.false_eq_true,if_false,zA,zAp,decide_true,Bool.not_true,zj]
  refine zf2 ?_
  have lc:=zV (P:=E) zB0 (o:=0) g5' (by simp)
  simp only [List.drop_zero,List.take] at lc
  simp only [lc,zA,zqG,zK,zQ]
  have o3:=o2.new (rO [iI B.kind,vp] 32)
  have t3:=zI k2 (rO [iI B.kind,vp] 32)
  have g3'':(k2.new (rO [iI B.kind,vp] 32)).get k.next=_:=(zL (by omega)).trans g3'
  have g4'':(k2.new (rO [iI B.kind,vp] 32)).get (k.next+1)=_:=(zL (by omega)).trans g4'
  have g5'':(k2.new (rO [iI B.kind,vp] 32)).get (k.next+2)=_:=(zL (by omega)).trans g5'
  have n3:(k2.new (rO [iI B.kind,vp] 32)).next=k2.next+1:=rfl
  generalize (k2.new (rO [iI B.kind,vp] 32))=k3 at o3 t3 g3'' g4'' g5'' n3
  have bF:=zUc (h0:=k3) (k:=k3) (v:=.slice (some ⟨k2.next,0,none⟩) 1 1) (els:=[[iI B.kind,vp]]) (Bs:=[B])
   (Arr.row (els:=[[iI B.kind,vp]]) t3 (by omega) (by simp) (fun i ee aI=>by
    match i with
    | 0=>simp at aI;subst aI;exact ⟨rfl,rfl⟩
    | i+1=>simp at aI)) rfl (by simp) (fun i ee BB h1 h2=>by
    match i with
    | 0=>simp at h1 h2;subst h1 h2;exact he.ext o3.ext
    | i+1=>simp at h1) (Ext.refl o3.ext.ok)
  have eF:zA4 [B] 1 0=zAd B:=by
   simp only [zA4,zJ9,List.getElem?_cons_zero]
   by_cases h:zAd B=0 <;> simp [h]
  simp only [List.length_cons,List.length_nil] at bF
  rw [show (0+1:Nat)=1 from rfl,eF] at bF
  simp only [bF,zP]
  refine zf1 ?_
  by_cases aU:zAd B=0
  ·simp only [zA,zAp,aU,decide_true,Bool.not_true,zj]
   refine zfz ?_
   have la:=zV (P:=E) zDe (o:=0) g3'' (by simp)
   have lb:=zV (P:=E) zDe (o:=0) g4'' (by simp)
   have lc:=zV (P:=E) zB0 (o:=0) g5'' (by simp)
   simp only [List.drop_zero,List.take] at la lb lc
   simp only [la,lb,lc,zA,zQ,zhs o3.ext.ok (hx.ext o3.ext) (hy.ext o3.ext) hL hM (he.ext o3.ext) aU,zP,z6,zBa]
   refine ⟨fun h=>zfy ?_,fun h=>zfx ?_⟩
   ·simp only [zA,zAS,zX,true_and]
    have:zMq L M B=false:=by simpa using h
    exact ⟨by simp [zD4,hb,aU,this],o3.wm⟩
   ·simp only [zA,zAS,zX,true_and]
    have:zMq L M B=true:=by simpa using h
    exact ⟨by simp [zD4,hb,aU,this],o3.wm⟩
  ·simp only [zA,zAp,aU,decide_false,Bool.not_false,zz]
   refine zf0 ?_
   simp only [zA,zAS,zX,true_and]
   exact ⟨by simp [zD4,hb,aU],o3.wm⟩
theorem zHB {nums:List Int}:∀ {l:List (Int×Int×Int)} {SS:List zAF},(zDD nums SS l).length=SS.length
 | [],_=>rfl
 | e::l,SS=>by simp only [zDD];rw [zHB];simp
theorem zDg (nums:List Int) (L:GL):(zAr nums L).length=L.n.toNat:=by
 unfold zAr
 rw [zHB,List.length_replicate]
theorem Fx.back {P:Nat->Prop} {k h:AH} (f:Fx P k.fresh h):Fx P k ⟨h.t,h.next,cond (Nat.ble k.wm h.wm) k.wm h.wm⟩:=by
 refine ⟨?_,f.next,fun c hc hn=>f.get c hc hn,fun m h1 h2 h3=>?_⟩
 ·have:=f.ok
  unfold AH.ok at this
  show cond (Nat.ble k.wm h.wm) k.wm h.wm<=h.next+UNK
  cases hc:Nat.ble k.wm h.wm with
  | true=>have:=ble_true.1 hc;simp only [cond_true];omega
  | false=>simpa using this
 ·have:=f.wm m (by rw [zCZ];omega) h2 h3
  show m<=cond (Nat.ble k.wm h.wm) k.wm h.wm
  cases Nat.ble k.wm h.wm
  ·exact this
  ·exact h1
theorem Fx.ext1 {h0 k l:AH} {b:Nat} (f:Fx (fun c=>c=b) k l) (e:Ext h0 k) (hb:h0.next<=b):Ext h0 l:=
 ⟨f.ok,Nat.le_trans e.next f.next,fun c hc=>(f.get c (Nat.lt_of_lt_of_le hc e.next) (by omega)).trans (e.get c hc)⟩
theorem zmk {h:AH} {a b:Int} {v:Value} (hl:zq v=true):zf E 173 (h.new (rO [iI 0,iI 0,.slice none 0 0] 173)) (some (ptr h.next)) (some (.agg ⟨[iI a,iI b,v]⟩))=one (undef,(h.new (rO [iI 0,iI 0,.slice none 0 0] 173)).upd h.next (some (rO [iI a,iI b,v] 173))):=by
 rw [z7 (P:=E) zKh (x:=.agg ⟨[iI a,iI b,v]⟩) (cs:=[iI a,iI b,v]) (zI h _) rfl rfl (by simp) (by simp [zq] at hl ⊢;exact hl)]
 rfl
def Nd (k:AH) (bL:Nat) (x:Value) (k':AH):Prop:=∃ b left,x=.bool b/\(b=true->0<=left)/\left<=2000/\k'.get bL=some (rO [iI left] 3)/\k'.wm<=k.wm/\Fx (fun c=>c=bL) k k'
theorem zIX {h0 k:AH} {v:Value} {ts:List GT} {bL:Nat} {left deep:Int} (hr:RT h0 v ts) (hk:Ext h0 k) (dr:h0.next<=bL) (io:k.get bL=some (rO [iI left] 3)) (eK:bL<k.next) (ez:0<=left) (c9:left<=2000) (hd1:1<=deep) (hd2:deep<=102)
  (ac:deep<=100->∀ {k':AH} {v':Value} {ts':List GT} {left':Int},RT h0 v' ts'->Ext h0 k'->k'.get bL=some (rO [iI left'] 3)->bL<k'.next->0<=left'->left'<=2000->Ev true ((zY E).call 69 [v',ptr bL,iI (deep+1)] k') fun x=>Nd k' bL x.1 x.2) :
  Ev true ((zY E).call 69 [v,ptr bL,iI deep] k) fun x=>Nd k bL x.1 x.2:=by
 obtain ⟨ad,cp,hv⟩:=hr.slice
 cases hr with
 | @mk _ els _ ha hn hc=>
 have hlen:=RC.length hc
 by_cases cT:ts.length=0
 ·have:(zY E).call 69 [v,ptr bL,iI deep] k=some [(.bool true,k)]:=by
   refine zgV (s:=true) hk.ok rfl (zPV ?_)
   refine zPU ?_
   rw [hv,cT]
   simp only [zA,zK9]
   refine zKT ?_
   simp only [zZ,zA,zAM]
   refine ⟨fun h=>by omega,fun _=>zPS ?_⟩
   simp only [zA,zAS,zX,true_and]
   show k.next<=k.next+UNK
   omega
  rw [this,zP]
  exact ⟨true,left,rfl,fun _=>ez,c9,io,Nat.le_refl _,Fx.refl hk.ok⟩
 ·refine zgU (Rp:=fun x k'=>Nd k bL x k') (zPV ?_)
  refine zPU ?_
  rw [hv]
  simp only [zA,zK9]
  have fin:∀ (b:Bool) (l:Int) (h:AH),(b=true->0<=l)->l<=2000->h.get bL=some (rO [iI l] 3)->Fx (fun c=>c=bL) k.fresh h->h.wm<=bL->KR E [.tmp 6] (fun x k'=>(zi x=false\/k'.wm<k.next)/\Nd k bL x ⟨k'.t,k'.next,cond (Nat.ble k.wm k'.wm) k.wm k'.wm⟩) .ret [.bool b] h:=by
   intro b l h h1 h2 h3 f hw
   simp only [zAS,zX,true_and]
   refine ⟨.inr (by omega),b,l,rfl,h1,h2,h3,?_,f.back⟩
   show cond (Nat.ble k.wm h.wm) k.wm h.wm<=k.wm
   cases hc:Nat.ble k.wm h.wm with
   | true=>exact Nat.le_refl _
   | false=>have:=ble_false.1 hc;simp only [cond_false];omega
  have loop:∀ (r i:Nat),i+r=ts.length->∀ (l:Int) (h:AH),Fx (fun c=>c=bL) k.fresh h->h.get bL=some (rO [iI l] 3)->0<=l->l<=2000->(i≠0->h.wm<=bL)->
    zqg true (KR E [.tmp 6] (fun x k'=>(zi x=false\/k'.wm<k.next)/\Nd k bL x ⟨k'.t,k'.next,cond (Nat.ble k.wm k'.wm) k.wm k'.wm⟩)) (ptr bL) (iI deep) (.slice ad ts.length cp) (iI (ts.length:Int)) (iI (i:Int)) h:=by
   intro r
   induction r with
   | zero=>
    intro i hi l h f hg h1 h2 hw
    refine zKT ?_
    have:¬ ((i:Int)<(ts.length:Int)):=by omega
    simp only [zZ,zA,this,decide_false,zj]
    refine zPS ?_
    exact fin true l h (fun _=>h1) h2 hg f (hw (by omega))
   | succ r ih=>
    intro i hi l h f hg h1 h2 hw
    have ai:i<ts.length:=by omega
    have cF:i<els.length:=by omega
    refine zKT ?_
    have:((i:Int)<(ts.length:Int)):=by omega
    simp only [zZ,zA,this,decide_true,zz]
    refine zfB ?_
    obtain ⟨kk,nn,vv,lv,bz,be,_⟩:=RC.at hc i _ (List.getElem?_eq_getElem cF)
    obtain ⟨b,o,c,vs,ty,es,ro,aC,hb,ab,aU,hz,ba⟩:=ha.load (List.getElem?_eq_getElem cF)
    rw [bz] at hz
    rw [hv] at aC
    simp only [Value.slice.injEq] at aC
    obtain ⟨bk,_,_⟩:=aC
    subst bk
    have ek:Ext h0 h:=f.ext1 hk.fresh dr
    have gb:=(ek.get b ab).trans hb
    have bc:zq vv=true:=zDi be
    simp only [zUA ai,zA,zV zCK gb aU,hz,zdJ,zg,zK,zT,zmk bc]
    refine zfA ?_
    have hbh:bL<h.next:=Nat.lt_of_lt_of_le eK f.next
    have f1:Fx (fun c=>c=bL) k.fresh ((h.new (rO [iI 0,iI 0,.slice none 0 0] 173)).upd h.next (some (rO [iI kk,iI nn,vv] 173))):=(f.new _).upd (.inr f.next) _
    have t1:((h.new (rO [iI 0,iI 0,.slice none 0 0] 173)).upd h.next (some (rO [iI kk,iI nn,vv] 173))).get h.next=some (rO [iI kk,iI nn,vv] 173):=zO _ _ _
    have g1:((h.new (rO [iI 0,iI 0,.slice none 0 0] 173)).upd h.next (some (rO [iI kk,iI nn,vv] 173))).get bL=_:=((zW (by omega)).trans (zL (by omega))).trans hg
    have n1:((h.new (rO [iI 0,iI 0,.slice none 0 0] 173)).upd h.next (some (rO [iI kk,iI nn,vv] 173))).next=h.next+1:=rfl
    generalize ((h.new (rO [iI 0,iI 0,.slice none 0 0] 173)).upd h.next (some (rO [iI kk,iI nn,vv] 173)))=k1 at f1 t1 g1 n1
    have lg:=zF (P:=E) zAb (o:=0) g1
    simp only [lnth] at lg
    have af:=z7 (P:=E) zhO (o:=0) g1 (zC0 .i64 (l-1)) rfl (by simp) rfl
    have cO:lput [iI l] 0 [iI (l-1)]=[iI (l-1)]:=rfl
    rw [cO] at af
    simp only [zA,zA1,lg,zGf _ (show zC3 (l-1) by unfold zC3;omega),af,zK]
    refine ze9 ?_
    have f2:Fx (fun c=>c=bL) k.fresh (k1.upd bL (some (rO [iI (l-1)] 3))):=f1.upd (.inl rfl) _
    have g2:(k1.upd bL (some (rO [iI (l-1)] 3))).get bL=some (rO [iI (l-1)] 3):=zO _ _ _
    have t2:(k1.upd bL (some (rO [iI (l-1)] 3))).get h.next=_:=(zW (by omega)).trans t1
    have w2:(k1.upd bL (some (rO [iI (l-1)] 3))).wm<=bL:=(zDz _ _ _).2
    have n2:(k1.upd bL (some (rO [iI (l-1)] 3))).next=k1.next:=rfl
    generalize (k1.upd bL (some (rO [iI (l-1)] 3)))=k2 at f2 g2 t2 w2 n2
    have lg2:=zF (P:=E) zAb (o:=0) g2
    have lv2:=zF (P:=E) zDd (o:=2) t2
    simp only [lnth] at lg2 lv2
    have stop:zqf true (KR E [.tmp 6] (fun x k'=>(zi x=false\/k'.wm<k.next)/\Nd k bL x ⟨k'.t,k'.next,cond (Nat.ble k.wm k'.wm) k.wm k'.wm⟩)) k2:=by
     refine zPT ?_
     exact fin false _ k2 (fun h=>by cases h) (by omega) g2 f2 w2
    simp only [zA,zA1,lg2,zZ]
    by_cases e1:l-1<0
    ·simp only [e1,decide_true,zM,zU,show (true==false)=false from rfl,cond_false,cond_true,zA,zK,zJ,zz]
     exact stop
    ·simp only [e1,decide_false,zM,beq_self_eq_true,cond_true,zA,zAK,zJ,cond_false]
     by_cases e2:100<deep
     ·simp only [e2,decide_true,zM,zU,show (true==false)=false from rfl,cond_false,cond_true,zA,zK,zJ,zz]
      exact stop
     ·simp only [e2,decide_false,zM,zU,beq_self_eq_true,cond_true,zA,zAf,Nat.zero_add,lv2,zAD _ (show zC3 (deep+1) by unfold zC3;omega),zQ]
      refine (ac (by omega) be (f2.ext1 hk.fresh dr) g2 (by omega) (by omega) (by omega)).mono fun y hy=>?_
      obtain ⟨bb,l3,y1,y2,y3,y4,y6,y5⟩:=hy
      rw [y1]
      have f3:Fx (fun c=>c=bL) k.fresh y.2:=f2.trans y5 (fun c h=>.inl h)
      have w3:y.2.wm<=bL:=by omega
      simp only [z6,zA,zJ,cond_false,zBa]
      refine ⟨fun hb=>zPT ?_,fun hb=>ze8 ?_⟩
      ·skip
       exact fin false l3 y.2 (fun h=>by cases h) y3 y4 f3 w3
      ·have bC:bb=true:=by simpa using hb
       simp only [zAD _ (zEA ai (by omega)),zA]
       have:=ih (i+1) (by omega) l3 y.2 f3 y4 (y2 bC) y3 (fun _=>w3)
       simpa using this
  exact loop ts.length 0 (by omega) left k.fresh (Fx.refl (zAT k)) io ez c9 (fun h=>absurd rfl h)
theorem zmQ:∀ (d:Nat) {h0 k:AH} {v:Value} {ts:List GT} {bL:Nat} {left deep:Int},RT h0 v ts->Ext h0 k->h0.next<=bL->k.get bL=some (rO [iI left] 3)->bL<k.next->0<=left->left<=2000->1<=deep->deep<=102->101<=deep+d->
  Ev true ((zY E).call 69 [v,ptr bL,iI deep] k) fun x=>Nd k bL x.1 x.2:=by
 intro d
 induction d with
 | zero=>
  intro h0 k v ts bL left deep hr hk dr io eK ez c9 hd1 hd2 hd3
  exact zIX hr hk dr io eK ez c9 hd1 hd2 (fun h=>by omega)
 | succ d ihd=>
  intro h0 k v ts bL left deep hr hk dr io eK ez c9 hd1 hd2 hd3
  exact zIX hr hk dr io eK ez c9 hd1 hd2 (fun h k' v' ts' left' a b c d e f=>ihd a b dr c d e f (by omega) (by omega) (by omega))
theorem zjK:E.tab.fn.get 13=some Tryz.f13:=by kernel_rfl
theorem zdr:Tryz.f13.body=some (zh Tryz.f13):=by kernel_rfl
theorem zmb {k:AH}:(zY E).call 13 [] k=some [(.bool true,k)]:=zKE zjK zdr (by kernel_rfl)
end Go.Proofs
namespace Go.Proofs
open Go Go.AM
set_option maxRecDepth 100000
theorem nwF (k:AH) (x:AObj):∃ m,k.fresh.new x=m/\m.next=k.next+1/\m.get k.next=some x/\Own k m/\∀ b,b<k.next->m.get b=k.get b:=
 ⟨_,rfl,rfl,zI k.fresh x,(Own.fresh k).new x,fun b hb=>by rw [zL (by simp;omega)];rfl⟩
theorem nw {k l:AH} (o:Own k l) (x:AObj):∃ m,l.new x=m/\m.next=l.next+1/\m.get l.next=some x/\Own k m/\∀ b,b<l.next->m.get b=l.get b:=
 ⟨_,rfl,rfl,zI l x,o.new x,fun b hb=>zL (by omega)⟩
theorem zHd {T et z:Nat} (hT:und E T=some (.slice et)) (hz:zAe E et=some z) (hta:tAS E et=some (true,z)) {h k:AH} {v:Value} {els:List (List Value)} (ha:Arr h z v els) (e:Ext h k) {i:Nat} {x:List Value} (hi:els[i]?=some x) :
  ∃ p,zE E T (some v) (some (iI (i:Int)))=some p/\zG E et k (some p)=some (.agg ⟨x⟩):=by
 obtain ⟨b,o,c,vs,ty,es,ro,rfl,hb,ab,aU,hx,hl⟩:=ha.load hi
 have cM:i<els.length:=(List.getElem?_eq_some_iff.1 hi).1
 refine ⟨_,zAU hT hz cM,?_⟩
 rw [zV hta ((e.get b ab).trans hb) aU,hx]
theorem zLI {h k:AH} {v:Value} {els:List (List Value)} (ha:Arr h 3 v els) (e:Ext h k) {i:Nat} {x:List Value} (hi:els[i]?=some x) :
  ∃ p,zE E 34 (some v) (some (iI (i:Int)))=some p/\zG E 173 k (some p)=some (.agg ⟨x⟩):=zHd zSg zKh zCK ha e hi
theorem zl6 {h k:AH} {v:Value} {els:List (List Value)} (ha:Arr h 2 v els) (e:Ext h k) {i:Nat} {x:List Value} (hi:els[i]?=some x) :
  ∃ p,zE E 22 (some v) (some (iI (i:Int)))=some p/\zG E 36 k (some p)=some (.agg ⟨x⟩):=zHd zKg ziR zEk ha e hi
theorem zl5 {h k:AH} {v:Value} {els:List (List Value)} (ha:Arr h 3 v els) (e:Ext h k) {i:Nat} {x:List Value} (hi:els[i]?=some x) :
  ∃ p,zE E 23 (some v) (some (iI (i:Int)))=some p/\zG E 52 k (some p)=some (.agg ⟨x⟩):=zHd zSh ziQ zPl ha e hi
def zOS (a b:Int):Int:=if a<b then -1 else if b<a then 1 else 0
theorem zNm {k:AH} {a b:Int} (aa:k.ok):(zY E).call 232 [iI a,iI b] k=some [(iI (zOS a b),k)]:=by
 refine zcP (s:=true) aa rfl (zXU ?_)
 refine zXT ?_
 simp only [zA,zZ,zAM]
 refine ⟨fun h1=>zXS ?_,fun h1=>zXR ?_⟩
 ·simp [zA,zAS,zX,zOS,h1]
 simp only [zA,zAK,zAM]
 refine ⟨fun h2=>zXQ ?_,fun h2=>zXP ?_⟩
 ·simp [zA,zAS,zX,zOS,h1,h2]
 ·simp [zA,zAS,zX,zOS,h1,h2]
mutual
def zjc:GT->GT->Int
 | .mk k n l,.mk k' n' l'=>if zOS k k'=0 then (if zOS n n'=0 then (if zOS l.length l'.length=0 then zQg l l' else zOS l.length l'.length) else zOS n n') else zOS k k'
def zQg:List GT->List GT->Int
 | t::ts,u::us=>if zjc t u=0 then zQg ts us else zjc t u
 | [],_=>0
 | _::_,[]=>0
end
def zVE (h0:AH) (kk nn:Int) (v:Value) (l:List GT):Prop:=∀ (k:AH) (kk' nn':Int) (v':Value) (l':List GT),RT h0 v' l'->Ext h0 k->
 (zY E).call 188 [.agg #[iI kk,iI nn,v],.agg #[iI kk',iI nn',v']] k=some [(iI (zjc (.mk kk nn l) (.mk kk' nn' l')),k)]
theorem zOR {a b:Nat} (h:zOS (a:Int) (b:Int)=0):a=b:=by
 unfold zOS at h
 split at h
 ·cases h
 ·split at h
  ·cases h
  ·omega
mutual
theorem ziW {h0:AH}:∀ {v:Value} {l:List GT},RT h0 v l->∀ (kk nn:Int),zVE h0 kk nn v l
 | v,l,.mk (els:=els) ha hn hc,kk,nn=>by
  intro k kk' nn' v' l' bE hk
  have be:RT h0 v l:=.mk ha hn hc
  have dN:=zJd hc
  have hlen:=RC.length hc
  obtain ⟨sa,sc,rfl⟩:=be.slice
  obtain ⟨sa',sc',rfl⟩:=bE.slice
  refine zcb (s:=true) hk.ok rfl (zYt ?_)
  obtain ⟨k1,e1,n1,t1,o1,f1⟩:=nwF k (rO [iI kk,iI nn,.slice sa l.length sc] 173)
  obtain ⟨k2,e2,n2,t2,o2,f2⟩:=nw o1 (rO [iI kk',iI nn',.slice sa' l'.length sc'] 173)
  simp only [zg,zK,zT,zA,e1,e2,zb]
  have g1:=(f2 k.next (by omega)).trans t1
  have l0:=zF (P:=E) zAb (o:=0) g1
  have l1:=zF (P:=E) zAb (o:=1) g1
  have l2:=zF (P:=E) zDd (o:=2) g1
  have m0:=zF (P:=E) zAb (o:=0) t2
  have m1:=zF (P:=E) zAb (o:=1) t2
  have m2:=zF (P:=E) zDd (o:=2) t2
  simp only [lnth] at l0 l1 l2 m0 m1 m2
  have ex2:=hk.trans o2.ext
  have stop:∀ c:Int,zkR true (KR E [.tmp 4] fun x m=>x=iI c/\k.next<=m.wm) (iI c) k2:=by
   intro c
   refine zQ0 ?_
   simp only [zA,zAS,zX,true_and];exact o2.wm
  have quit:∀ (c i:Int),c≠0->zh9 true (KR E [.tmp 4] fun x m=>x=iI c/\k.next<=m.wm) (.pointer (some ⟨k.next,0,none⟩)) (.pointer (some ⟨k1.next,0,none⟩)) (iI c) (iI i) k2:=by
   intro c i fS
   refine zHx ?_
   simp only [zAf,Nat.zero_add,l2,zA,zF7,zZ,zM,zAg,fS,decide_false]
   by_cases hi:i<(l.length:Int)
   ·simp only [hi,decide_true,beq_self_eq_true,cond_true,zA,zJ,zM,zAg,fS,decide_false,zj];exact stop c
   ·simp only [hi,decide_false,show (false==true)=false from rfl,cond_false,zA,zJ,zj];exact stop c
  have loop:∀ (m i:Nat),i+m=l.length->l.length=l'.length->zh9 true (KR E [.tmp 4] fun x m=>x=iI (zQg (l.drop i) (l'.drop i))/\k.next<=m.wm) (.pointer (some ⟨k.next,0,none⟩)) (.pointer (some ⟨k1.next,0,none⟩)) (iI 0) (iI (i:Int)) k2:=by
   intro m
   induction m with
   | zero=>
    intro i hi hl
    have:l.drop i=[]:=List.drop_eq_nil_of_le (by omega)
    rw [this]
    refine zHx ?_
    simp only [zAf,Nat.zero_add,l2,zA,zF7,zZ,show decide ((i:Int)<(l.length:Int))=false from decide_eq_false (by omega),zM,show (false==true)=false from rfl,cond_false,zJ,zj]
    exact stop 0
   | succ m ih=>
    intro i hi hl
    have cM:i<l.length:=by omega
    have hil':i<l'.length:=by omega
    refine zHx ?_
    simp only [zAf,Nat.zero_add,l2,zA,zF7,zZ,show decide ((i:Int)<(l.length:Int))=true from decide_eq_true (by omega),zM,beq_self_eq_true,cond_true,zAg,decide_true,zJ,zz]
    refine zYo ?_
    cases bE with
    | @mk _ els' _ cS hn' aF=>
     have c7:=RC.length aF
     obtain ⟨x,hx⟩:∃ x,els[i]?=some x:=⟨_,List.getElem?_eq_getElem (by omega)⟩
     obtain ⟨y,hy⟩:∃ y,els'[i]?=some y:=⟨_,List.getElem?_eq_getElem (by omega)⟩
     obtain ⟨p1,q1,w1⟩:=zLI ha ex2 hx
     obtain ⟨p2,q2,w2⟩:=zLI cS ex2 hy
     obtain ⟨ck,cn,cv,cl,rfl,r1,r2,r3⟩:=dN i x hx
     obtain ⟨dk,dn,dv,dl,rfl,s1,s2⟩:=RC.at aF i y hy
     have ct:=r3 k2 dk dn dv dl s1 ex2
     have e3:l.drop i=GT.mk ck cn cl::l.drop (i+1):=by rw [List.drop_eq_getElem_cons cM,(List.getElem?_eq_some_iff.1 r2).2]
     have e4:l'.drop i=GT.mk dk dn dl::l'.drop (i+1):=by rw [List.drop_eq_getElem_cons hil',(List.getElem?_eq_some_iff.1 s2).2]
     simp only [zAf,Nat.zero_add,l2,m2,zA,q1,w1,q2,w2,zQ,ct,zP]
     refine zYn ?_
     simp only [zA,zAD _ (zEA cM (by omega))]
     rw [e3,e4]
     simp only [zQg]
     by_cases hz:zjc (GT.mk ck cn cl) (GT.mk dk dn dl)=0
     ·rw [if_pos hz,hz];exact ih (i+1) (by omega) hl
     ·rw [if_neg hz];exact quit _ _ hz
  refine zYs ?_
  simp only [zFm,Nat.add_zero,l0,m0,zA,zQ,zNm o2.ext.ok,zP]
  refine zYr ?_
  simp only [zA,zAg,zAM,zjc]
  refine ⟨fun h1=>?_,fun h1=>?_⟩
  rotate_left
  ·rw [if_neg h1]
   refine zL4 ?_
   simp only [zA,zAg,h1,decide_false,zj]
   refine zHy ?_
   exact quit _ _ h1
  rw [if_pos h1]
  refine zYq ?_
  simp only [zFl,Nat.zero_add,l1,m1,zA,zQ,zNm o2.ext.ok,zP]
  refine zL4 ?_
  simp only [zA,zAg,zAM]
  refine ⟨fun h2=>?_,fun h2=>?_⟩
  rotate_left
  ·rw [if_neg h2]
   refine zHy ?_
   exact quit _ _ h2
  rw [if_pos h2]
  refine zYp ?_
  simp only [zAf,Nat.zero_add,l2,m2,zA,zQL,zQK,zQ,zNm o2.ext.ok,zP]
  refine zHy ?_
  by_cases h3:zOS (l.length:Int) (l'.length:Int)=0
  ·rw [if_pos h3,h3]
   have:=loop l.length 0 (by omega) (zOR h3)
   simpa using this
  ·rw [if_neg h3];exact quit _ _ h3
theorem zJd {h0:AH}:∀ {els:List (List Value)} {ts:List GT},RC h0 els ts->∀ (i:Nat) (e:List Value),els[i]?=some e->
  ∃ (k n:Int) (v:Value) (l:List GT),e=[iI k,iI n,v]/\RT h0 v l/\ts[i]?=some (.mk k n l)/\zVE h0 k n v l
 | _,_,.nil,i,e,h=>by simp at h
 | _,_,.cons hv hs,0,e,h=>by simp at h;exact ⟨_,_,_,_,h.symm,hv,rfl,ziW hv _ _⟩
 | _,_,.cons hv hs,i+1,e,h=>by
  simp only [List.getElem?_cons_succ] at h
  obtain ⟨k,n,v,l,a,b,c,d⟩:=zJd hs i e h
  exact ⟨k,n,v,l,a,b,by simpa using c,d⟩
end
end Go.Proofs
namespace Go.Proofs
open Go Go.AM
set_option maxRecDepth 100000
set_option maxHeartbeats 1000000
abbrev Dt:=Array (Int×Int)
def zB1 (d:Dt):List Value:=d.toList.flatMap zH
theorem zCF:∀ l:List (Int×Int),(l.flatMap zH).length=l.length*2
 | []=>rfl
 | x::l=>by simp only [List.flatMap_cons,List.length_append,List.length_cons,zCF l];simp [zH];omega
theorem zFU (d:Dt):(zB1 d).length=d.size*2:=zCF d.toList
theorem zJh:∀ (l:List (Int×Int)) (i:Nat) (x:Int×Int),l[i]?=some x->((l.flatMap zH).drop (i*2)).take 2=zH x
 | [],i,x,h=>by simp at h
 | y::l,0,x,h=>by simp at h;subst h;rfl
 | y::l,i+1,x,h=>by
  have:=zJh l i x (by simpa using h)
  rw [show (i+1)*2=i*2+2 by omega]
  exact this
theorem zJg:∀ (l:List (Int×Int)) (i:Nat) (x:Int×Int),i<l.length->lput (l.flatMap zH) (i*2) (zH x)=(l.set i x).flatMap zH
 | [],i,x,h=>by simp at h
 | y::l,0,x,h=>by
  show iI x.1::iI x.2::lput (l.flatMap zH) 0 []=_
  have:lput (l.flatMap zH) 0 []=l.flatMap zH:=by cases l.flatMap zH <;> rfl
  rw [this];rfl
 | y::l,i+1,x,h=>by
  have:=zJg l i x (by simpa using h)
  rw [show (i+1)*2=i*2+2 by omega]
  show iI y.1::iI y.2::lput (l.flatMap zH) (i*2) (zH x)=_
  rw [this];rfl
theorem zON (x:Int×Int):(zH x).all zq=true:=by simp [zH,zq]
structure SR (b ty es:Nat) (k0:AH) (d0:Dt) (k:AH) (d:Dt):Prop where
 fx:Fx (fun c=>c=b) k0 k
 g:k.get b=some (.row (zB1 d) ty es false)
 wm:k.wm<=b\/d=d0
 wle:k.wm<=k0.wm
 sz:d.size=d0.size
 lt:b<k0.next
section
variable {b ty es:Nat} {k0 k:AH} {d0 d:Dt}
theorem SR.refl (hg:k.get b=some (.row (zB1 d) ty es false)) (hl:b<k.next) (aa:k.ok):SR b ty es k d k d:=⟨Fx.refl aa,hg,.inr rfl,Nat.le_refl _,rfl,hl⟩
theorem SR.fresh (hg:k.get b=some (.row (zB1 d) ty es false)) (hl:b<k.next):SR b ty es k.fresh d k.fresh d:=SR.refl hg hl (zAT k)
theorem SR.ok (R:SR b ty es k0 d0 k d):k.ok:=R.fx.ok
theorem SR.l (R:SR b ty es k0 d0 k d):b<k.next:=Nat.lt_of_lt_of_le R.lt R.fx.next
theorem SR.trans {k':AH} {d':Dt} (R:SR b ty es k0 d0 k d) (S:SR b ty es k d k' d'):SR b ty es k0 d0 k' d':=
 ⟨R.fx.trans S.fx fun c h=>.inl h,S.g,by
  rcases S.wm with h|h
  ·exact .inl h
  ·rcases R.wm with h2|h2
   ·have:=S.wle;exact .inl (by omega)
   ·exact .inr (h.trans h2),Nat.le_trans S.wle R.wle,S.sz.trans R.sz,R.lt⟩
theorem SR.ld (R:SR b ty es k0 d0 k d) {i:Nat} (hi:i<d.size):zG E 54 k (sP b (0+i*2))=some (.agg ⟨zH d[i]!⟩):=by
 rw [Nat.zero_add,zV (P:=E) zKj R.g (by rw [zFU];omega)]
 unfold zB1
 rw [zJh d.toList i d[i]! (by simp [hi])]
theorem zKe (h:AH) (b:Nat) (o:Option AObj):(h.upd b o).wm<=b/\(h.upd b o).wm<=h.wm:=by
 show cond (Nat.ble h.wm b) h.wm b<=b/\cond (Nat.ble h.wm b) h.wm b<=h.wm
 cases hc:Nat.ble h.wm b with
 | true=>have:=ble_true.1 hc;simp only [cond_true];omega
 | false=>have:=ble_false.1 hc;simp only [cond_false];omega
theorem SR.st (R:SR b ty es k0 d0 k d) {i:Nat} (hi:i<d.size) (x:Int×Int) :
  ∃ m,zf E 54 k (sP b (0+i*2)) (some (.agg ⟨zH x⟩))=one (undef,m)/\SR b ty es k0 d0 m (d.setIfInBounds i x):=by
 refine ⟨_,by rw [Nat.zero_add];exact z7 (P:=E) zID (cs:=zH x) R.g rfl rfl (by rw [zFU];omega) (zON x),R.fx.upd (.inl rfl) _,?_,.inl (zKe _ _ _).1,Nat.le_trans (zKe _ _ _).2 R.wle,by simpa using R.sz,R.lt⟩
 rw [zO]
 unfold zB1
 rw [zJg _ _ _ (by simpa using hi)]
 simp
theorem SR.sw (R:SR b ty es k0 d0 k d) {i j:Nat} (hi:i<d.size) (hj:j<d.size) :
  ∃ m m',zf E 54 k (sP b (0+i*2)) (some (.agg ⟨zH d[j]!⟩))=one (undef,m)/\zf E 54 m (sP b (0+j*2)) (some (.agg ⟨zH d[i]!⟩))=one (undef,m')/\SR b ty es k0 d0 m' (Go.Sort.swp d i j):=by
 obtain ⟨m,e1,R1⟩:=R.st hi d[j]!
 obtain ⟨m',e2,R2⟩:=R1.st (i:=j) (by simpa using hj) d[i]!
 exact ⟨m,m',e1,e2,R2⟩
end
theorem zdP (d:Dt) (i j:Nat):(Go.Sort.swp d i j).size=d.size:=by simp [Go.Sort.swp]
def zCV (cf:Value) (cm:Int×Int->Int×Int->Int):Prop:=∀ k x y,k.ok->zR (zY E) (some cf) (some [.agg ⟨zH x⟩,.agg ⟨zH y⟩]) k=some [(iI (cm x y),k)]
abbrev zAY (cm:Int×Int->Int×Int->Int):Int×Int->Int×Int->Bool:=fun x y=>decide (cm x y<0)
theorem zN3 {a c:Nat} (h:a+c<=9223372036854775807) (t:TypeId):zC E .add t (iI (a:Int)) (iI (c:Int))=some (iI ((a+c:Nat):Int)):=by
 rw [zAD t (by unfold zC3;omega)];rfl
theorem zBy {a:Nat} (h:a+1<=9223372036854775807) (t:TypeId):zC E .add t (iI (a:Int)) (iI 1)=some (iI ((a+1:Nat):Int)):=zN3 (c:=1) h t
theorem subN {a c:Nat} (h:c<=a) (ha:a<=9223372036854775807) (t:TypeId):zC E .sub t (iI (a:Int)) (iI (c:Int))=some (iI ((a-c:Nat):Int)):=by
 rw [zGf t (by unfold zC3;omega)]
 congr 2;omega
theorem zBo {a:Nat} (h:1<=a) (ha:a<=9223372036854775807) (t:TypeId):zC E .sub t (iI (a:Int)) (iI 1)=some (iI ((a-1:Nat):Int)):=subN (c:=1) h ha t
theorem zKF {f:FuncId} {fn:Func} {c:Code} {args:List Value} {h:AH} {Q:Value->AH->Prop} (aa:h.ok) (hf:E.tab.fn.get f=some fn) (hb:fn.body=some c) (aK:E.sum f args h=none) (hl:Nat.ble (zBB args) fn.ntmps=true)
  (dh:Ev true (R.andThen (evC E (zY E) none (zh fn) ⟨⟨fn.ntmps,zCT args 0 .e⟩,h.fresh,[]⟩) (zAc E fn)) fun x=>Q x.1 x.2) :
  Ev true ((zY E).call f args h) fun x=>∃ k,Q x.1 k/\((h.next<=k.wm/\x.2=h)\/x.2=⟨k.t,k.next,cond (Nat.ble h.wm k.wm) h.wm k.wm⟩):=by
 rw [zBf hf hb aK hl]
 obtain ⟨l,e,ah,h1,cK⟩:=dh
 rw [e]
 match l,h1 rfl with
 | [x],_=>
  have hq:=cK x (by simp)
  show Ev true (some [zdF h.wm (zBL h.fresh x)]) _
  rw [zP]
  unfold zBL
  cases hc:(zEM h.fresh x&&zi x.1) with
  | true=>
   have aN:zEM h.fresh x=true:=by simp only [Bool.and_eq_true] at hc;exact hc.1
   simp only [cond_true]
   refine ⟨x.2,hq,.inl ⟨ble_true.1 aN,?_⟩⟩
   show (⟨h.t,h.next,cond (Nat.ble h.wm (Nat.add h.next UNK)) h.wm (Nat.add h.next UNK)⟩:AH)=h
   have:Nat.ble h.wm (Nat.add h.next UNK)=true:=ble_true.2 aa
   rw [this];rfl
  | false=>
   simp only [cond_false]
   exact ⟨x.2,hq,.inr rfl⟩
theorem zEC {b ty es:Nat} {k:AH} {d:Dt} {f:FuncId} {fn:Func} {c:Code} {args:List Value} {Q:Value->Dt->Prop} (hg:k.get b=some (.row (zB1 d) ty es false)) (aB:b<k.next) (aa:k.ok)
  (hf:E.tab.fn.get f=some fn) (hb:fn.body=some c) (aK:E.sum f args k=none) (hl:Nat.ble (zBB args) fn.ntmps=true)
  (dh:Ev true (R.andThen (evC E (zY E) none (zh fn) ⟨⟨fn.ntmps,zCT args 0 .e⟩,k.fresh,[]⟩) (zAc E fn)) fun x=>∃ d',Q x.1 d'/\SR b ty es k.fresh d x.2 d') :
  Ev true ((zY E).call f args k) fun x=>∃ d',Q x.1 d'/\SR b ty es k d x.2 d':=by
 refine (zKF (Q:=fun v m=>∃ d',Q v d'/\SR b ty es k.fresh d m d') aa hf hb aK hl dh).mono ?_
 rintro ⟨v,m⟩ ⟨k1,⟨d',hq,R⟩,⟨h1,h2⟩|h2⟩
 ·simp only at h2 hq ⊢
  subst h2
  have:d'=d:=by
   rcases R.wm with h|h
   ·omega
   ·exact h
  subst this
  exact ⟨_,hq,SR.refl hg aB aa⟩
 ·simp only at h2 hq ⊢
  subst h2
  refine ⟨d',hq,R.fx.back,R.g,?_,?_,R.sz,aB⟩
  ·rcases R.wm with h|h
   ·refine .inl ?_
    show cond (Nat.ble k.wm k1.wm) k.wm k1.wm<=b
    cases hc:Nat.ble k.wm k1.wm with
    | true=>have:=ble_true.1 hc;simp only [cond_true];omega
    | false=>simpa using h
   ·exact .inr h
  ·show cond (Nat.ble k.wm k1.wm) k.wm k1.wm<=k.wm
   cases hc:Nat.ble k.wm k1.wm with
   | true=>exact Nat.le_refl _
   | false=>have:=ble_false.1 hc;simp only [cond_false];omega
abbrev RS (b ty es:Nat) (k:AH) (d:Dt) (Q:Value->Dt->Prop):Value->AH->Prop:=fun x m=>∃ d',Q x d'/\SR b ty es k.fresh d m d'
abbrev QF (F:Dt):Value->Dt->Prop:=fun x d'=>x=.tuple #[]/\d'=F
abbrev KS (b ty es:Nat) (k:AH) (d F:Dt):KF:=KR E [] (RS b ty es k d (QF F))
abbrev sl (b n c:Nat):Value:=.slice (some ⟨b,0,none⟩) n c
theorem zIj {b ty es:Nat} {k h:AH} {d d' F:Dt} (R:SR b ty es k.fresh d h d') (e:d'=F):KS b ty es k d F .normal [] h:=by
 rw [KS,zSP]
 exact ⟨zEE ▸ trivial,d',⟨rfl,e⟩,R⟩
theorem zlx {b ty es:Nat} {k h:AH} {d d' F:Dt} (R:SR b ty es k.fresh d h d') (e:d'=F):KS b ty es k d F .ret [] h:=by
 rw [KS,zSP]
 exact ⟨zX ▸ trivial,d',⟨rfl,e⟩,R⟩
section
variable {b ty es c:Nat} {k:AH} {d:Dt}
theorem zj3 {cf:Value} (hg:k.get b=some (.row (zB1 d) ty es false)) (aB:b<k.next) (aa:k.ok) {n:Nat} (hs:d.size=n) (hn:d.size<=1000000) {a e:Nat} (eG:1<=e) (dD:a<=e) (he:e<=d.size) :
  Ev true ((zY E).call 148 [sl b n c,iI (a:Int),iI (e:Int),cf] k) fun x=>∃ d',QF (Go.Sort.reverseRange d a e) x.1 d'/\SR b ty es k d x.2 d':=by
 subst hs
 refine zEC hg aB aa zgv zcp (zgu _ _) (by kernel_rfl) (zkp (Rp:=RS b ty es k d (QF (Go.Sort.reverseRange d a e))) (zZ1 ?_))
 try simp only [zA]
 refine zZ0 ?_
 simp only [zA,zBo eG (show e<=9223372036854775807 by omega)]
 have loop:∀ (m i j:Nat),j<=i+m->i<=d.size->j<d.size->∀ d' h,SR b ty es k.fresh d h d'->Go.Sort.reverseLoop i j d'=Go.Sort.reverseRange d a e->zn5 true (KS b ty es k d (Go.Sort.reverseRange d a e)) (sl b d.size c) (iI (i:Int)) (iI (j:Int)) h:=by
  intro m
  induction m with
  | zero=>
   intro i j hm hi hj d' h R hF
   refine zMD ?_
   simp only [zA,zZ,show decide ((i:Int)<(j:Int))=false from decide_eq_false (by omega),zj]
   exact zIj R (by rw [← hF];unfold Go.Sort.reverseLoop;rw [if_neg (by omega)])
  | succ m ih=>
   intro i j hm hi hj d' h R hF
   refine zMD ?_
   simp only [zA,zZ,zAM]
   refine ⟨fun ab=>zZz ?_,fun cV=>zIj R (by rw [← hF];unfold Go.Sort.reverseLoop;rw [if_neg (by omega)])⟩
   have hsz:=R.sz
   obtain ⟨m1,m2,e1,e2,R2⟩:=R.sw (i:=i) (j:=j) (by omega) (by omega)
   simp only [zA,zAR (show i<d.size by omega),zAR hj,R.ld (i:=i) (by omega),R.ld (i:=j) (by omega),e1,e2,zK]
   refine zZy ?_
   simp only [zA,zBy (show i+1<=9223372036854775807 by omega)]
   refine zZx ?_
   simp only [zA,zBo (show 1<=j by omega) (show j<=9223372036854775807 by omega)]
   refine ih (i+1) (j-1) (by omega) (by omega) (by omega) _ _ R2 ?_
   rw [← hF]
   conv=>rhs;unfold Go.Sort.reverseLoop
   rw [if_pos (by omega)]
 exact loop (e-1) a (e-1) (by omega) (by omega) (by omega) d _ (SR.fresh hg aB) rfl
end
end Go.Proofs
