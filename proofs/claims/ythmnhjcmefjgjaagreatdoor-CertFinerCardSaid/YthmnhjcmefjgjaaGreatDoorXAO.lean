import Derived.Test.YthmnhjcmefjgjaaGreatDoorRows
import Derived.Test.YthmnhjcmefjgjaaGreatDoorCards
import Derived.Test.YthmnhjcmefjgjaaGreatDoorTie
import Derived.ProofKit
import Derived.OpenShut
import Derived.LaidMore
import Derived.Lay
import Derived.SevenTiedAt
import Derived.Stop.Joined
import Derived.Test.YthmnhjcmefjgjaaGreatDoorXAN
import Derived.Test.YthmnhjcmefjgjaaGreatDoorXAH
import Derived.Test.YthmnhjcmefjgjaaGreatDoorXAM
section
set_option linter.all false
set_option autoImplicit true
set_option relaxedAutoImplicit true
namespace Go.Proofs
open Go Go.AM
set_option maxRecDepth 100000
set_option linter.all false
set_option maxHeartbeats 1000000
theorem box112 {h : AH} {kind : Int} : wStore E 112 (h.new (.row [.nilFunc, .nilFunc, .string ⟨#[]⟩] 112 0 false)) (some (ptr h.next)) (some (.agg ⟨manCells kind⟩)) = one (undef, (h.new (.row [.nilFunc, .nilFunc, .string ⟨#[]⟩] 112 0 false)).upd h.next (some (.row (manCells kind) 112 0 false))) := by
  rw [store_of (P := E) ts_112 (x := .agg ⟨manCells kind⟩) (cs := manCells kind) (get_new_self h _) rfl (by rw [man_eq]; rfl) (by simp) (by rw [man_eq]; rfl)]
  rw [man_eq]; rfl
theorem rel10 {k h : AH} {kind : Int} {vp : Value} {b1 b2 m ver b5 b8 : Nat} {R : Rel} {SS TT : List Steps} (ho : Own k h) (hkind : isMan kind = true)
    (h5 : h.get b5 = some (.row [.int .i64 kind, vp] 32 0 false)) (h5l : b5 < h.next)
    (h8 : h.get b8 = some (.row (coup (ptr b1) (ptr b2) m) 176 0 false)) (h8l : b8 < h.next) (hm : h.get m = some (.map (ent R) ver)) (hml : m < h.next) (hR : R.Nodup)
    (hg1 : GV h b1 SS) (hg2 : GV h b2 TT) (hb1 : b1 < h.next) (hb2 : b2 < h.next) (hSS : SSok SS) (hTT : SSok TT) (hin : ∀ p ∈ R, (0 ≤ p.1 ∧ p.1 < (SS.length : Int)) ∧ (0 ≤ p.2 ∧ p.2 < (TT.length : Int))) {V : Bool}
    (hV : V = (decide ((0, 0) ∈ R) && allK kind R SS TT && allK kind (R.map swapP) TT SS)) :
    P72_10 false (KR E [.tmp 6] (fun x l => x = .bool V ∧ k.next ≤ l.wm)) (ptr b5) (ptr b8) h := by
  refine P72_10_of ?_
  have l5 := load_leaf (P := E) ta_3 (o := 0) h5
  simp only [lnth] at l5
  have l5n : rLoad E 3 (h.new (.row [.nilFunc, .nilFunc, .string ⟨#[]⟩] 112 0 false)) (some (ptr b5)) = some (.int .i64 kind) := by
    have := load_leaf (P := E) ta_3 (o := 0) ((get_new_ne (o := .row [.nilFunc, .nilFunc, .string ⟨#[]⟩] 112 0 false) (by omega)).trans h5)
    simpa only [lnth] using this
  have fxf : Fx NoB h ((h.new (.row [.nilFunc, .nilFunc, .string ⟨#[]⟩] 112 0 false)).upd h.next (some (.row (manCells kind) 112 0 false))) := ((Fx.refl ho.ext.ok).new _).upd (.inr (Nat.le_refl _)) _
  have hget : ∀ c, c < h.next → ((h.new (.row [.nilFunc, .nilFunc, .string ⟨#[]⟩] 112 0 false)).upd h.next (some (.row (manCells kind) 112 0 false))).get c = h.get c := fun c hc => fxf.get c hc (fun h => h)
  have hnx : ((h.new (.row [.nilFunc, .nilFunc, .string ⟨#[]⟩] 112 0 false)).upd h.next (some (.row (manCells kind) 112 0 false))).next = h.next + 1 := rfl
  have fin : P72_11 false (KR E [.tmp 6] (fun x l => x = .bool V ∧ k.next ≤ l.wm)) (ptr b8) (ptr h.next) ((h.new (.row [.nilFunc, .nilFunc, .string ⟨#[]⟩] 112 0 false)).upd h.next (some (.row (manCells kind) 112 0 false))) :=
    rel11 (fxf.own ho (fun _ h => h.elim)) hkind ((hget _ h8l).trans h8) (by omega) (get_upd_self _ _ _) (by omega) ((hget _ hml).trans hm) (by omega) hR (hg1.fx fxf) (hg2.fx fxf) (by omega) (by omega) hSS hTT hin hV
  have hok1 : (h.new (.row [.nilFunc, .nilFunc, .string ⟨#[]⟩] 112 0 false)).ok := ok_new ho.ext.ok _
  simp only [Q72_10, fa_32_0, Nat.add_zero, l5, evO_some, wCall_0, call79 ho.ext.ok, call79 hok1, ev_some, veq_int, true_and, pim hkind, z_112, new_row, ev_one, cells_agg, l5n, box112]
  exact ⟨fin, fin⟩
theorem GV.fxm {k l : AH} {bg m ver : Nat} {SS : List Steps} {es : List (Value × Value)} (g : GV k bg SS) (f : Fx (fun c => c = m) k l) (hm : k.get m = some (.map es ver)) : GV l bg SS := by
  obtain ⟨loc, bs, cells, G⟩ := g.ex
  have hne : ∀ {a : Nat} {vs : List Value} {ty es : Nat} {ro : Bool}, k.get a = some (.row vs ty es ro) → a ≠ m := by
    rintro a vs ty es ro h rfl
    rw [hm] at h; cases h
  refine ⟨loc, bs, cells, (f.get bg G.ltg (hne G.g)).trans G.g, (f.get bs G.lts (hne G.s)).trans G.s, G.len, G.ne, Nat.lt_of_lt_of_le G.ltg f.next, Nat.lt_of_lt_of_le G.lts f.next, G.locg, G.locs, fun i c S hc hS => ?_, G.blk, G.dis⟩
  rcases G.cell i c S hc hS with a | ⟨b, a1, a2, a3⟩
  · exact .inl a
  · exact .inr ⟨b, a1, (f.get b a3 (hne a2)).trans a2, Nat.lt_of_lt_of_le a3 f.next⟩
theorem ne_map {k : AH} {a m ver : Nat} {vs : List Value} {ty es : Nat} {ro : Bool} {en : List (Value × Value)} (h : k.get a = some (.row vs ty es ro)) (hm : k.get m = some (.map en ver)) : a ≠ m := by
  rintro rfl
  rw [hm] at h; cases h
theorem rel4 {k h1 : AH} {kind n1 n2 : Int} {vp vl ve wl we : Value} {prs : Rel} {b1 b2 m b3 b4 b5 b8 ver0 : Nat} {es0 : List (Value × Value)} {SS TT : List Steps} (hkind : isMan kind = true)
    (hm0 : h1.get m = some (.map es0 ver0)) (hml : m < h1.next) (hkm : k.next ≤ m)
    (h3 : h1.get b3 = some (.row [.int .i64 n1, vl, ve] 25 0 false)) (h3l : b3 < h1.next) (h4 : h1.get b4 = some (.row [.int .i64 n2, wl, we] 25 0 false)) (h4l : b4 < h1.next)
    (h5 : h1.get b5 = some (.row [.int .i64 kind, vp] 32 0 false)) (h5l : b5 < h1.next)
    (h8 : h1.get b8 = some (.row (coup (ptr b1) (ptr b2) m) 176 0 false)) (h8l : b8 < h1.next)
    (hg1 : GV h1 b1 SS) (hg2 : GV h1 b2 TT) (hb1 : b1 < h1.next) (hb2 : b2 < h1.next) (hSS : SSok SS) (hTT : SSok TT) (hn1 : n1 = (SS.length : Int)) (hn2 : n2 = (TT.length : Int))
    {ap : Option Addr} {cp : Nat} (hvp : vp = .slice ap prs.length cp) (ha : Arr k 2 vp (prs.map prCells)) (hpl : prs.length ≤ 200000) (hpos : ∀ p ∈ prs, 0 ≤ p.1 ∧ 0 ≤ p.2) {V : Bool} (hV : V = relB kind prs SS TT n1 n2) :
    ∀ (r i : Nat), i + r = prs.length → ∀ h Rn ver, Own k h → Fx (fun c => c = m) h1 h → h.get m = some (.map (ent Rn) ver) → Rn.Nodup → (∀ p, p ∈ Rn ↔ p ∈ prs.take i) → (prs.take i).all (inB n1 n2) = true →
      P72_4 false (KR E [.tmp 6] (fun x l => x = .bool V ∧ k.next ≤ l.wm)) (ptr b3) (ptr b4) (ptr b5) (ptr b8) vp (.int .i64 (prs.length : Int)) (.int .i64 (i : Int)) h := by
  intro r
  induction r with
  | zero =>
    intro i hi h Rn ver ho f hm hnd hmem hall
    refine P72_4_of ?_
    have : ¬ ((i : Int) < (prs.length : Int)) := by omega
    simp only [Q72_4, bf_lss, evO_some, this, decide_false, brK_f]
    rw [List.take_of_length_le (by omega)] at hmem hall
    have hin : ∀ p ∈ Rn, (0 ≤ p.1 ∧ p.1 < (SS.length : Int)) ∧ (0 ≤ p.2 ∧ p.2 < (TT.length : Int)) := fun p hp => by
      have hp' := (hmem p).1 hp
      have h1' := List.all_eq_true.1 hall p hp'
      simp only [inB, Bool.and_eq_true, decide_eq_true_eq] at h1'
      have h2' := hpos p hp'
      omega
    have hnx := f.next
    refine rel10 ho hkind ((f.get b5 h5l (ne_map h5 hm0)).trans h5) (by omega) ((f.get b8 h8l (ne_map h8 hm0)).trans h8) (by omega) hm (by omega) hnd (hg1.fxm f hm0) (hg2.fxm f hm0) (by omega) (by omega) hSS hTT hin ?_
    rw [hV]
    unfold relB
    rw [hall, SameR.dec hmem, allK_same hmem, allK_same (R := Rn.map swapP) (R' := prs.map swapP) (fun p => by
      simp only [List.mem_map]
      exact ⟨fun ⟨q, a, b⟩ => ⟨q, (hmem q).1 a, b⟩, fun ⟨q, a, b⟩ => ⟨q, (hmem q).2 a, b⟩⟩)]
    rfl
  | succ r ih =>
    intro i hi h Rn ver ho f hm hnd hmem hall
    have hin : i < prs.length := by omega
    refine P72_4_of ?_
    have hlt : ((i : Int) < (prs.length : Int)) := by omega
    simp only [Q72_4, bf_lss, evO_some, hlt, decide_true, brK_t]
    refine P72_5_of ?_
    have hat : (prs.map prCells)[i]? = some (prCells prs[i]) := by simp [hin]
    obtain ⟨b, o, c, vs, ty, es, ro, hv, hb, hlt', hle, hz, hzl⟩ := ha.load hat
    have hp := hpos prs[i] (List.getElem_mem hin)
    have hpt : prs.take (i + 1) = prs.take i ++ [prs[i]] := by rw [List.take_add_one]; simp [hin]
    have hpm : prs[i] ∈ prs := List.getElem_mem hin
    generalize prs[i] = p at hz hp hpt hpm
    rw [hvp] at hv
    simp only [Value.slice.injEq] at hv
    obtain ⟨hv1, _, _⟩ := hv
    subst hv1
    have gb := (ho.ext.get b hlt').trans hb
    simp only [hvp, Q72_5, ia_26 hin, evO_some, load_agg ta_54 gb hle, hz, z_54, new_row, ev_one, cells_agg, box54]
    refine P72_6_of ?_
    have fb : Fx NoB h ((h.new (.row [.int .i64 0, .int .i64 0] 54 0 false)).upd h.next (some (.row (prCells p) 54 0 false))) := ((Fx.refl ho.ext.ok).new _).upd (.inr (Nat.le_refl _)) _
    have tb : ((h.new (.row [.int .i64 0, .int .i64 0] 54 0 false)).upd h.next (some (.row (prCells p) 54 0 false))).get h.next = some (.row (prCells p) 54 0 false) := get_upd_self _ _ _
    have nb : ((h.new (.row [.int .i64 0, .int .i64 0] 54 0 false)).upd h.next (some (.row (prCells p) 54 0 false))).next = h.next + 1 := rfl
    generalize ((h.new (.row [.int .i64 0, .int .i64 0] 54 0 false)).upd h.next (some (.row (prCells p) 54 0 false))) = k1 at fb tb nb
    have o1 := fb.own ho (fun _ h => h.elim)
    have f1 : Fx (fun c => c = m) h1 k1 := f.trans fb (fun _ h => h.elim)
    have hm1 : k1.get m = _ := (fb.get m (by have := f.next; omega) (fun h => h)).trans hm
    have c0 := load_leaf (P := E) ta_3 (o := 0) tb
    have c1 := load_leaf (P := E) ta_3 (o := 1) tb
    have x0 := load_leaf (P := E) ta_3 (o := 0) ((f1.get b3 h3l (ne_map h3 hm0)).trans h3)
    have y0 := load_leaf (P := E) ta_3 (o := 0) ((f1.get b4 h4l (ne_map h4 hm0)).trans h4)
    simp only [lnth, prCells] at c0 c1 x0 y0
    simp only [Q72_6, ia54_0, ia54_1, c0, fa_25_0, Nat.add_zero, x0, evO_some, bf_geq]
    have bad : inB n1 n2 p = false → P72_7 false (KR E [.tmp 6] (fun x l => x = .bool V ∧ k.next ≤ l.wm)) k1 := by
      intro hb
      refine P72_7_of ?_
      simp only [Q72_7, evO_some, kR_1, ne_ret, true_and]
      refine ⟨?_, o1.wm⟩
      rw [hV]
      have : prs.all (inB n1 n2) = false := by
        rw [List.all_eq_false]
        exact ⟨p, hpm, by rw [hb]; simp⟩
      unfold relB
      rw [this]; rfl
    by_cases e1 : n1 ≤ p.1
    · simp only [e1, decide_true, gdB_bool, show (true == false) = false from rfl, cond_false, evO_some, pick_bool, cond_true, brK_t]
      exact bad (by simp [inB]; omega)
    · simp only [e1, decide_false, gdB_bool, beq_self_eq_true, cond_true, c1, fa_25_0, Nat.add_zero, y0, evO_some, bf_geq, pick_bool, cond_false]
      by_cases e2 : n2 ≤ p.2
      · simp only [e2, decide_true, brK_t]
        exact bad (by simp [inB]; omega)
      · simp only [e2, decide_false, brK_f]
        refine P72_8_of ?_
        have l8 := load_leaf (P := E) ta_174 (o := 2) ((f1.get b8 h8l (ne_map h8 hm0)).trans h8)
        simp only [lnth, coup] at l8
        have lp := load_agg (P := E) ta_54 (o := 0) tb (by simp [prCells])
        rw [List.drop_zero, List.take_of_length_le (by simp [prCells])] at lp
        obtain ⟨R', u1, u2, u3⟩ := upd174 hm1 hnd p
        simp only [Q72_8, fa_176_2, Nat.zero_add, l8, lp, evO_some, u1, ev_one]
        refine P72_9_of ?_
        simp only [Q72_9, bf_add _ (add1 hin (by omega)), evO_some]
        have f2 : Fx (fun c => c = m) h1 (k1.upd m (some (.map (ent R') (ver + 1)))) := f1.upd (.inl rfl) _
        have f3 : Fx (fun c => c = m) k1 (k1.upd m (some (.map (ent R') (ver + 1)))) := Fx.upd (P := fun c => c = m) (Fx.refl o1.ext.ok) (.inl rfl) _
        have := ih (i + 1) (by omega) _ R' (ver + 1) (f3.own o1 (fun c h => by rw [h]; exact hkm)) f2 (get_upd_self _ _ _) u2 (fun q => by
          rw [u3, hmem, hpt, List.mem_append, List.mem_singleton]
          exact Or.comm) (by
          rw [hpt, List.all_append, hall]
          simp [inB]; omega)
        rw [hvp] at this
        simpa using this
end Go.Proofs
end
section
set_option linter.all false
set_option autoImplicit true
set_option relaxedAutoImplicit true
namespace Go.Proofs
open Go Go.AM
set_option maxRecDepth 100000
set_option linter.all false
set_option maxHeartbeats 1000000
theorem veq_ptr (n : Nat) (a : Option Addr) : veq n (.pointer a) (.pointer a) = true := by cases n <;> (show decide (a = a) = true; simp)
theorem bs82 {a b c a' b' c' : Value} {h : AH} : wBuildSlice E 82 2 (some [(0, .agg #[a, b, c]), (1, .agg #[a', b', c'])]) h = one (.slice (some ⟨h.next, 0, none⟩) 2 2, h.new (.row [a, b, c, a', b', c'] 25 0 false)) := by kernel_rfl
def relV (L M : GL) (B : GB) : Bool := match graphsOf [L, M] with
  | [SS, TT] => relB B.kind B.prs SS TT L.n M.n
  | _ => false
theorem GrOf.ss {L : GL} {x : Gr} {loc : Nat} {h : AH} (g : GrOf L x) (G : GG loc h x.1 x.2.1 x.2.2.1 x.2.2.2) (hL : badLts L = false) : SSok x.2.2.2 ∧ L.n = (x.2.2.2.length : Int) := by
  have hs := bad_sizes hL
  have h1 := g.1
  have h2 := G.len
  refine ⟨⟨by omega, fun i S hS => ?_⟩, by omega⟩
  obtain ⟨a, b⟩ := g.2 i S hS
  refine ⟨by omega, fun y hy => ?_⟩
  have := (a y hy).1
  omega
theorem lnk_ok {B : GB} (h : lnkErr B = 0) : isMan B.kind = true ∧ B.prs.length ≤ 200000 ∧ ∀ p ∈ B.prs, 0 ≤ p.1 ∧ 0 ≤ p.2 := by
  unfold lnkErr at h
  cases h1 : isMan B.kind with
  | false => rw [h1] at h; simp at h
  | true =>
    rw [h1] at h
    simp only [Bool.true_eq_false, if_false] at h
    by_cases h2 : 200000 < B.prs.length
    · rw [if_pos h2] at h; omega
    · rw [if_neg h2] at h
      cases h3 : anyFrom (prBadAt B.prs) B.prs.length 0 with
      | true => rw [h3] at h; simp at h
      | false =>
        refine ⟨rfl, by omega, fun p hp => ?_⟩
        obtain ⟨i, hi⟩ := List.mem_iff_getElem?.1 hp
        have := anyFrom_false h3 i (Nat.zero_le _) (by have := (List.getElem?_eq_some_iff.1 hi).1; omega)
        unfold prBadAt at this
        rw [hi] at this
        simp only [Bool.or_eq_false_iff, decide_eq_false_iff_not] at this
        omega
theorem call72 {k : AH} {x y : Value} {e : List Value} {L M : GL} {B : GB} (hok : k.ok) (hx : RL k x L) (hy : RL k y M) (hL : badLts L = false) (hM : badLts M = false) (he : RB k e B) (hB : lnkErr B = 0) :
    (recI E).call 72 [x, y, .agg ⟨e⟩] k = some [(.bool (relV L M B), k)] := by
  obtain ⟨vl, ve, elsL, rfl, x2, x3, x4⟩ := hx.ex
  obtain ⟨wl, we, elsM, rfl, y2, y3, y4⟩ := hy.ex
  obtain ⟨vp, rfl, e2⟩ := he.ex
  obtain ⟨hkind, hpl, hpos⟩ := lnk_ok hB
  refine F72_flat (s := false) hok rfl (P72_0_of ?_)
  simp only [Q72_0, new_row, ev_one, cells_agg, evO_some]
  refine P72_1_of ?_
  have o1 := (((Own.fresh k).new (.row [.int .i64 L.n, vl, ve] 25 0 false)).new (.row [.int .i64 M.n, wl, we] 25 0 false)).new (.row [.int .i64 B.kind, vp] 32 0 false)
  have g3 : (((k.fresh.new (.row [.int .i64 L.n, vl, ve] 25 0 false)).new (.row [.int .i64 M.n, wl, we] 25 0 false)).new (.row [.int .i64 B.kind, vp] 32 0 false)).get k.next = some (.row [.int .i64 L.n, vl, ve] 25 0 false) :=
    (get_new_ne (by simp; omega)).trans ((get_new_ne (by simp)).trans (get_new_self k.fresh _))
  have g4 : (((k.fresh.new (.row [.int .i64 L.n, vl, ve] 25 0 false)).new (.row [.int .i64 M.n, wl, we] 25 0 false)).new (.row [.int .i64 B.kind, vp] 32 0 false)).get (k.next + 1) = some (.row [.int .i64 M.n, wl, we] 25 0 false) :=
    (get_new_ne (by simp)).trans (get_new_self (k.fresh.new _) _)
  have g5 : (((k.fresh.new (.row [.int .i64 L.n, vl, ve] 25 0 false)).new (.row [.int .i64 M.n, wl, we] 25 0 false)).new (.row [.int .i64 B.kind, vp] 32 0 false)).get (k.next + 2) = some (.row [.int .i64 B.kind, vp] 32 0 false) := get_new_self ((k.fresh.new _).new _) _
  have n1 : (((k.fresh.new (.row [.int .i64 L.n, vl, ve] 25 0 false)).new (.row [.int .i64 M.n, wl, we] 25 0 false)).new (.row [.int .i64 B.kind, vp] 32 0 false)).next = k.next + 3 := rfl
  simp only [next_fresh, AH.next_new]
  generalize (((k.fresh.new (.row [.int .i64 L.n, vl, ve] 25 0 false)).new (.row [.int .i64 M.n, wl, we] 25 0 false)).new (.row [.int .i64 B.kind, vp] 32 0 false)) = k1 at o1 g3 g4 g5 n1
  have la := load_agg (P := E) ta_25 (o := 0) g3 (by simp)
  have lb := load_agg (P := E) ta_25 (o := 0) g4 (by simp)
  simp only [List.drop_zero, List.take] at la lb
  simp only [Q72_1, la, lb, evO_some, bs82, ev_one, wCall_0]
  have o2 := o1.new (.row [.int .i64 L.n, vl, ve, .int .i64 M.n, wl, we] 25 0 false)
  have t2 := get_new_self k1 (.row [.int .i64 L.n, vl, ve, .int .i64 M.n, wl, we] 25 0 false)
  have g3' : (k1.new (.row [.int .i64 L.n, vl, ve, .int .i64 M.n, wl, we] 25 0 false)).get k.next = _ := (get_new_ne (by omega)).trans g3
  have g4' : (k1.new (.row [.int .i64 L.n, vl, ve, .int .i64 M.n, wl, we] 25 0 false)).get (k.next + 1) = _ := (get_new_ne (by omega)).trans g4
  have g5' : (k1.new (.row [.int .i64 L.n, vl, ve, .int .i64 M.n, wl, we] 25 0 false)).get (k.next + 2) = _ := (get_new_ne (by omega)).trans g5
  have n2 : (k1.new (.row [.int .i64 L.n, vl, ve, .int .i64 M.n, wl, we] 25 0 false)).next = k1.next + 1 := rfl
  generalize (k1.new (.row [.int .i64 L.n, vl, ve, .int .i64 M.n, wl, we] 25 0 false)) = k2 at o2 t2 g3' g4' g5' n2
  have hargs : Args k2 (.slice (some ⟨k1.next, 0, none⟩) 2 2) [[.int .i64 L.n, vl, ve], [.int .i64 M.n, wl, we]] [L, M] := by
    refine ⟨?_, rfl, by simp, fun i ee LL h1 h2 => ?_, fun i LL h => ?_⟩
    · refine Arr.row (els := [[.int .i64 L.n, vl, ve], [.int .i64 M.n, wl, we]]) t2 (by omega) (by simp) (fun i ee hee => ?_)
      match i with
      | 0 => simp at hee; subst hee; exact ⟨rfl, rfl⟩
      | 1 => simp at hee; subst hee; exact ⟨rfl, rfl⟩
      | i + 2 => simp at hee
    · match i with
      | 0 => simp at h1 h2; subst h1 h2; exact hx.ext o2.ext
      | 1 => simp at h1 h2; subst h1 h2; exact hy.ext o2.ext
      | i + 2 => simp at h1
    · match i with
      | 0 => simp at h; subst h; exact hL
      | 1 => simp at h; subst h; exact hM
      | i + 2 => simp at h
  refine ((call90 o2.ext.ok (by simp) hargs).weak).mono fun z hz => ?_
  obtain ⟨gs, hO, hlen, hgr, hmap, fx⟩ := hz
  obtain ⟨out, k3⟩ := z
  simp only at hO fx ⊢
  match gs, hlen with
  | [x1, x2], _ =>
    have o3 := fx.own o2 (fun _ h => h.elim)
    have G1 := hO.gg x1 (by simp)
    have G2 := hO.gg x2 (by simp)
    obtain ⟨s1, s2⟩ := (hgr 0 x1 L rfl rfl).ss G1 hL
    obtain ⟨r1, r2⟩ := (hgr 1 x2 M rfl rfl).ss G2 hM
    have V1 : GV k3 x1.1 x1.2.2.2 := ⟨_, _, _, G1⟩
    have V2 : GV k3 x2.1 x2.2.2.2 := ⟨_, _, _, G2⟩
    have hrv : relV L M B = relB B.kind B.prs x1.2.2.2 x2.2.2.2 L.n M.n := by
      unfold relV
      rw [← hmap]
      rfl
    rcases hO.sl with ⟨_, h⟩ | ⟨bo, rfl, hbo, hbol, hbolo⟩
    · cases h
    · have p3 : k3.get k.next = _ := (fx.get _ (by omega) (fun h => h)).trans g3'
      have p4 : k3.get (k.next + 1) = _ := (fx.get _ (by omega) (fun h => h)).trans g4'
      have p5 : k3.get (k.next + 2) = _ := (fx.get _ (by omega) (fun h => h)).trans g5'
      have hnx := fx.next
      refine P72_2_of ?_
      have m0 := load_leaf (P := E) ta_128 (o := 0) hbo
      have m1 := load_leaf (P := E) ta_128 (o := 1) hbo
      simp only [List.map_cons, List.map_nil, lnth] at m0 m1
      have i0 : pIndexAddr E 126 (some (.slice (some ⟨bo, 0, none⟩) [x1, x2].length (UNK + 1))) (some (.int .i64 0)) = some (.pointer (some ⟨bo, 0, none⟩)) := ia_126 (k := 0) (by simp)
      have i1 : pIndexAddr E 126 (some (.slice (some ⟨bo, 0, none⟩) [x1, x2].length (UNK + 1))) (some (.int .i64 1)) = some (.pointer (some ⟨bo, 1, none⟩)) := ia_126 (k := 1) (by simp)
      have rest : ∀ (h : AH) (m b8 ver : Nat), Fx NoB k3 h → h.get m = some (.map (ent []) ver) → m < h.next → k3.next ≤ m → h.get b8 = some (.row (coup (ptr x1.1) (ptr x2.1) m) 176 0 false) → b8 < h.next →
          P72_3 false (KR E [.tmp 6] (fun x l => x = .bool (relV L M B) ∧ k.next ≤ l.wm)) (ptr k.next) (ptr (k.next + 1)) (ptr (k.next + 2)) (ptr b8) h := by
        intro h m b8 ver f hm hml hkm h8 h8l
        refine P72_3_of ?_
        have fn := f.next
        have w3 := (f.get k.next (by omega) (fun h => h)).trans p3
        have w4 := (f.get (k.next + 1) (by omega) (fun h => h)).trans p4
        have w5 := (f.get (k.next + 2) (by omega) (fun h => h)).trans p5
        have l1 := load_leaf (P := E) ta_26 (o := 1) w5
        simp only [lnth] at l1
        obtain ⟨ap, cp, hvp⟩ := e2.slice
        rw [List.length_map] at hvp
        rw [hvp] at l1
        simp only [Q72_3, fa_32_1, Nat.zero_add, l1, evO_some, len72_3_2]
        have := rel4 (k := k) (h1 := h) (kind := B.kind) (prs := B.prs) (V := relV L M B) hkind hm hml (by omega) w3 (by omega) w4 (by omega) w5 (by omega) h8 h8l (V1.fx f) (V2.fx f) (by have := G1.ltg; omega) (by have := G2.ltg; omega) s1 r1 s2 r2 hvp e2 hpl hpos hrv
          B.prs.length 0 (by omega) h [] ver (f.own o3 (fun _ h => h.elim)) (Fx.refl f.ok) hm (by simp) (by simp) (by simp)
        rw [hvp] at this
        simpa using this
      have hne : ∀ {o : AObj} {c : Nat}, c < k3.next → (k3.new o).get c = k3.get c := fun hc => get_new_ne (by omega)
      have hne2 : ∀ {o o' : AObj} {c : Nat}, c < k3.next → ((k3.new o).new o').get c = k3.get c := fun hc => (get_new_ne (by simp; omega)).trans (get_new_ne (by omega))
      have a0 : ∀ {o : AObj}, rLoad E 128 (k3.new o) (some (.pointer (some ⟨bo, 0, none⟩))) = some (ptr x1.1) := fun {o} => by
        have := load_leaf (P := E) ta_128 (o := 0) ((hne (o := o) hbol).trans hbo)
        simpa only [List.map_cons, List.map_nil, lnth] using this
      have a1 : ∀ {o : AObj}, rLoad E 128 (k3.new o) (some (.pointer (some ⟨bo, 1, none⟩))) = some (ptr x2.1) := fun {o} => by
        have := load_leaf (P := E) ta_128 (o := 1) ((hne (o := o) hbol).trans hbo)
        simpa only [List.map_cons, List.map_nil, lnth] using this
      have b0 : ∀ {o o' : AObj}, rLoad E 128 ((k3.new o).new o') (some (.pointer (some ⟨bo, 0, none⟩))) = some (ptr x1.1) := fun {o o'} => by
        have := load_leaf (P := E) ta_128 (o := 0) ((hne2 (o := o) (o' := o') hbol).trans hbo)
        simpa only [List.map_cons, List.map_nil, lnth] using this
      have b1 : ∀ {o o' : AObj}, rLoad E 128 ((k3.new o).new o') (some (.pointer (some ⟨bo, 1, none⟩))) = some (ptr x2.1) := fun {o o'} => by
        have := load_leaf (P := E) ta_128 (o := 1) ((hne2 (o := o) (o' := o') hbol).trans hbo)
        simpa only [List.map_cons, List.map_nil, lnth] using this
      have hst2 := store_of (P := E) ts_176 (o := 0) (h := (k3.new (.row [.pointer none, .pointer none, .map none] 176 0 false)).new (.map [] 0)) (x := .agg ⟨coup (ptr x1.1) (ptr x2.1) (k3.next + 1)⟩) (cs := coup (ptr x1.1) (ptr x2.1) (k3.next + 1)) ((get_new_ne (by simp)).trans (get_new_self k3 _)) rfl rfl (by simp) (by simp [coup, isLeaf])
      have hst1 := store_of (P := E) ts_176 (o := 0) (h := (k3.new (.map [] 0)).new (.row [.pointer none, .pointer none, .map none] 176 0 false)) (b := k3.next + 1) (x := .agg ⟨coup (ptr x1.1) (ptr x2.1) k3.next⟩) (cs := coup (ptr x1.1) (ptr x2.1) k3.next) (get_new_self (k3.new _) _) rfl rfl (by simp) (by simp [coup, isLeaf])
      simp only [Q72_2, evO_some, i0, i1, m0, m1, ev_one, a0, a1, b0, b1, veq_ptr, true_and, pb176, z_176, new_row, cells_agg, AH.next_new, hst1, hst2]
      refine ⟨?_, ?_⟩
      · have ff : Fx NoB k3 (((k3.new (.map [] 0)).new (.row [.pointer none, .pointer none, .map none] 176 0 false)).upd (k3.next + 1) (some (.row (coup (ptr x1.1) (ptr x2.1) k3.next) 176 0 false))) := (((Fx.refl o3.ext.ok).new _).new _).upd (.inr (by omega)) _
        exact rest _ k3.next (k3.next + 1) 0 ff ((get_upd_ne (by omega)).trans ((get_new_ne (by simp)).trans (get_new_self k3 _))) (by show k3.next < k3.next + 2; omega) (Nat.le_refl _) (get_upd_self _ _ _) (by show k3.next + 1 < k3.next + 2; omega)
      · have ff : Fx NoB k3 (((k3.new (.row [.pointer none, .pointer none, .map none] 176 0 false)).new (.map [] 0)).upd k3.next (some (.row (coup (ptr x1.1) (ptr x2.1) (k3.next + 1)) 176 0 false))) := (((Fx.refl o3.ext.ok).new _).new _).upd (.inr (Nat.le_refl _)) _
        exact rest _ (k3.next + 1) k3.next 0 ff ((get_upd_ne (by omega)).trans (get_new_self (k3.new _) _)) (by show k3.next + 1 < k3.next + 2; omega) (by omega) (get_upd_self _ _ _) (by show k3.next < k3.next + 2; omega)
end Go.Proofs
end
section
set_option linter.all false
set_option autoImplicit true
set_option relaxedAutoImplicit true
namespace Go.Proofs
open Go Go.AM
set_option maxRecDepth 100000
set_option linter.all false
set_option maxHeartbeats 1000000
theorem bs83 {a b : Value} {h : AH} : wBuildSlice E 83 1 (some [(0, .agg #[a, b])]) h = one (.slice (some ⟨h.next, 0, none⟩) 1 1, h.new (.row [a, b] 32 0 false)) := by kernel_rfl
def checkV (L M : GL) (B : GB) : Int := if badLts L || badLts M then 8 else if lnkErr B ≠ 0 then lnkErr B else if relV L M B then 0 else 360
theorem call15 {k : AH} {x y : Value} {e : List Value} {L M : GL} {B : GB} (hok : k.ok) (hx : RL k x L) (hy : RL k y M) (he : RB k e B) :
    (recI E).call 15 [x, y, .agg ⟨e⟩] k = some [(.int .i64 (checkV L M B), k)] := by
  obtain ⟨vl, ve, elsL, rfl, x2, x3, x4⟩ := id hx.ex
  obtain ⟨wl, we, elsM, rfl, y2, y3, y4⟩ := id hy.ex
  obtain ⟨vp, rfl, e2⟩ := id he.ex
  refine F15_flat (s := true) hok rfl (P15_0_of ?_)
  simp only [Q15_0, new_row, ev_one, cells_agg, evO_some]
  refine P15_1_of ?_
  have o1 := (((Own.fresh k).new (.row [.int .i64 L.n, vl, ve] 25 0 false)).new (.row [.int .i64 M.n, wl, we] 25 0 false)).new (.row [.int .i64 B.kind, vp] 32 0 false)
  have g3 : (((k.fresh.new (.row [.int .i64 L.n, vl, ve] 25 0 false)).new (.row [.int .i64 M.n, wl, we] 25 0 false)).new (.row [.int .i64 B.kind, vp] 32 0 false)).get k.next = some (.row [.int .i64 L.n, vl, ve] 25 0 false) :=
    (get_new_ne (by simp; omega)).trans ((get_new_ne (by simp)).trans (get_new_self k.fresh _))
  have g4 : (((k.fresh.new (.row [.int .i64 L.n, vl, ve] 25 0 false)).new (.row [.int .i64 M.n, wl, we] 25 0 false)).new (.row [.int .i64 B.kind, vp] 32 0 false)).get (k.next + 1) = some (.row [.int .i64 M.n, wl, we] 25 0 false) :=
    (get_new_ne (by simp)).trans (get_new_self (k.fresh.new _) _)
  have g5 : (((k.fresh.new (.row [.int .i64 L.n, vl, ve] 25 0 false)).new (.row [.int .i64 M.n, wl, we] 25 0 false)).new (.row [.int .i64 B.kind, vp] 32 0 false)).get (k.next + 2) = some (.row [.int .i64 B.kind, vp] 32 0 false) := get_new_self ((k.fresh.new _).new _) _
  have n1 : (((k.fresh.new (.row [.int .i64 L.n, vl, ve] 25 0 false)).new (.row [.int .i64 M.n, wl, we] 25 0 false)).new (.row [.int .i64 B.kind, vp] 32 0 false)).next = k.next + 3 := rfl
  simp only [next_fresh, AH.next_new]
  generalize (((k.fresh.new (.row [.int .i64 L.n, vl, ve] 25 0 false)).new (.row [.int .i64 M.n, wl, we] 25 0 false)).new (.row [.int .i64 B.kind, vp] 32 0 false)) = k1 at o1 g3 g4 g5 n1
  have la := load_agg (P := E) ta_25 (o := 0) g3 (by simp)
  have lb := load_agg (P := E) ta_25 (o := 0) g4 (by simp)
  simp only [List.drop_zero, List.take] at la lb
  have o2 := o1.new (.row [.int .i64 L.n, vl, ve, .int .i64 M.n, wl, we] 25 0 false)
  have t2 := get_new_self k1 (.row [.int .i64 L.n, vl, ve, .int .i64 M.n, wl, we] 25 0 false)
  have n2 : (k1.new (.row [.int .i64 L.n, vl, ve, .int .i64 M.n, wl, we] 25 0 false)).next = k1.next + 1 := rfl
  have g3' : (k1.new (.row [.int .i64 L.n, vl, ve, .int .i64 M.n, wl, we] 25 0 false)).get k.next = _ := (get_new_ne (by omega)).trans g3
  have g4' : (k1.new (.row [.int .i64 L.n, vl, ve, .int .i64 M.n, wl, we] 25 0 false)).get (k.next + 1) = _ := (get_new_ne (by omega)).trans g4
  have g5' : (k1.new (.row [.int .i64 L.n, vl, ve, .int .i64 M.n, wl, we] 25 0 false)).get (k.next + 2) = _ := (get_new_ne (by omega)).trans g5
  simp only [Q15_1, la, lb, evO_some, bs82, ev_one, wCall_0]
  generalize (k1.new (.row [.int .i64 L.n, vl, ve, .int .i64 M.n, wl, we] 25 0 false)) = k2 at o2 t2 n2 g3' g4' g5'
  have hc70 := call70 (h0 := k2) (k := k2) (v := .slice (some ⟨k1.next, 0, none⟩) 2 2) (els := [[.int .i64 L.n, vl, ve], [.int .i64 M.n, wl, we]]) (Ls := [L, M])
    (Arr.row (els := [[.int .i64 L.n, vl, ve], [.int .i64 M.n, wl, we]]) t2 (by omega) (by simp) (fun i ee hee => by
      match i with
      | 0 => simp at hee; subst hee; exact ⟨rfl, rfl⟩
      | 1 => simp at hee; subst hee; exact ⟨rfl, rfl⟩
      | i + 2 => simp at hee)) rfl (by simp) (fun i ee LL h1 h2 => by
      match i with
      | 0 => simp at h1 h2; subst h1 h2; exact hx.ext o2.ext
      | 1 => simp at h1 h2; subst h1 h2; exact hy.ext o2.ext
      | i + 2 => simp at h1) (Ext.refl o2.ext.ok)
  have hbad : anyFrom (badAt [L, M]) 2 0 = (badLts L || badLts M) := by
    simp [anyFrom, badAt]
  simp only [List.length_cons, List.length_nil, hbad] at hc70
  simp only [hc70, ev_some]
  refine P15_2_of ?_
  cases hb : (badLts L || badLts M) with
  | true =>
    simp only [Q15_2, if_true, evO_some, bf_neq, show decide ((8 : Int) = 0) = false from rfl, Bool.not_false, brK_t]
    refine P15_3_of ?_
    simp only [Q15_3, evO_some, kR_1, ne_ret, true_and]
    exact ⟨by simp [checkV, hb], o2.wm⟩
  | false =>
    obtain ⟨hL, hM⟩ := Bool.or_eq_false_iff.1 hb
    simp only [Q15_2, Bool.false_eq_true, if_false, evO_some, bf_neq, decide_true, Bool.not_true, brK_f]
    refine P15_4_of ?_
    have lc := load_agg (P := E) ta_32 (o := 0) g5' (by simp)
    simp only [List.drop_zero, List.take] at lc
    simp only [Q15_4, lc, evO_some, bs83, ev_one, wCall_0]
    have o3 := o2.new (.row [.int .i64 B.kind, vp] 32 0 false)
    have t3 := get_new_self k2 (.row [.int .i64 B.kind, vp] 32 0 false)
    have g3'' : (k2.new (.row [.int .i64 B.kind, vp] 32 0 false)).get k.next = _ := (get_new_ne (by omega)).trans g3'
    have g4'' : (k2.new (.row [.int .i64 B.kind, vp] 32 0 false)).get (k.next + 1) = _ := (get_new_ne (by omega)).trans g4'
    have g5'' : (k2.new (.row [.int .i64 B.kind, vp] 32 0 false)).get (k.next + 2) = _ := (get_new_ne (by omega)).trans g5'
    have n3 : (k2.new (.row [.int .i64 B.kind, vp] 32 0 false)).next = k2.next + 1 := rfl
    generalize (k2.new (.row [.int .i64 B.kind, vp] 32 0 false)) = k3 at o3 t3 g3'' g4'' g5'' n3
    have hc71 := call71 (h0 := k3) (k := k3) (v := .slice (some ⟨k2.next, 0, none⟩) 1 1) (els := [[.int .i64 B.kind, vp]]) (Bs := [B])
      (Arr.row (els := [[.int .i64 B.kind, vp]]) t3 (by omega) (by simp) (fun i ee hee => by
        match i with
        | 0 => simp at hee; subst hee; exact ⟨rfl, rfl⟩
        | i + 1 => simp at hee)) rfl (by simp) (fun i ee BB h1 h2 => by
        match i with
        | 0 => simp at h1 h2; subst h1 h2; exact he.ext o3.ext
        | i + 1 => simp at h1) (Ext.refl o3.ext.ok)
    have herr : errFrom [B] 1 0 = lnkErr B := by
      simp only [errFrom, errAt, List.getElem?_cons_zero]
      by_cases h : lnkErr B = 0 <;> simp [h]
    simp only [List.length_cons, List.length_nil] at hc71
    rw [show (0 + 1 : Nat) = 1 from rfl, herr] at hc71
    simp only [hc71, ev_some]
    refine P15_5_of ?_
    by_cases hle : lnkErr B = 0
    · simp only [Q15_5, evO_some, bf_neq, hle, decide_true, Bool.not_true, brK_f]
      refine P15_7_of ?_
      have la := load_agg (P := E) ta_25 (o := 0) g3'' (by simp)
      have lb := load_agg (P := E) ta_25 (o := 0) g4'' (by simp)
      have lc := load_agg (P := E) ta_32 (o := 0) g5'' (by simp)
      simp only [List.drop_zero, List.take] at la lb lc
      simp only [Q15_7, la, lb, lc, evO_some, wCall_0, call72 o3.ext.ok (hx.ext o3.ext) (hy.ext o3.ext) hL hM (he.ext o3.ext) hle, ev_some, uf_not, brK_bool]
      refine ⟨fun h => P15_8_of ?_, fun h => P15_9_of ?_⟩
      · simp only [Q15_8, evO_some, kR_1, ne_ret, true_and]
        have : relV L M B = false := by simpa using h
        exact ⟨by simp [checkV, hb, hle, this], o3.wm⟩
      · simp only [Q15_9, evO_some, kR_1, ne_ret, true_and]
        have : relV L M B = true := by simpa using h
        exact ⟨by simp [checkV, hb, hle, this], o3.wm⟩
    · simp only [Q15_5, evO_some, bf_neq, hle, decide_false, Bool.not_false, brK_t]
      refine P15_6_of ?_
      simp only [Q15_6, evO_some, kR_1, ne_ret, true_and]
      exact ⟨by simp [checkV, hb, hle], o3.wm⟩
end Go.Proofs
end
section
set_option linter.all false
set_option autoImplicit true
set_option relaxedAutoImplicit true
namespace Go.Proofs
open Go Go.AM
set_option maxRecDepth 100000
set_option linter.all false
set_option maxHeartbeats 1000000
theorem stepsGo_len {nums : List Int} : ∀ {l : List (Int × Int × Int)} {SS : List Steps}, (stepsGo nums SS l).length = SS.length
  | [], _ => rfl
  | e :: l, SS => by simp only [stepsGo]; rw [stepsGo_len]; simp
theorem stepsOf_len (nums : List Int) (L : GL) : (stepsOf nums L).length = L.n.toNat := by
  unfold stepsOf
  rw [stepsGo_len, List.length_replicate]
def visS (SS : List Steps) : Prop := ∀ (i : Nat) (S : Steps), SS[i]? = some S → ∀ x ∈ S, x.1 ≠ 0
theorem stepsGo_vis {nums : List Int} (hn : ∀ r ∈ nums, 1 ≤ r) : ∀ {l : List (Int × Int × Int)} {SS : List Steps}, (∀ e ∈ l, 0 ≤ e.2.1 ∧ e.2.1 < (nums.length : Int)) → visS SS → visS (stepsGo nums SS l)
  | [], _, _, h => h
  | e :: l, SS, hl, h => by
    simp only [stepsGo]
    refine stepsGo_vis hn (fun e' he' => hl e' (by simp [he'])) ?_
    intro i S hS x hx
    by_cases hi : e.1.toNat = i
    · subst hi
      by_cases hlt : e.1.toNat < SS.length
      · rw [List.getElem?_set_self hlt] at hS
        cases hS
        rcases List.mem_append.1 hx with hx | hx
        · rw [List.getElem?_eq_getElem hlt] at hx
          exact h _ _ (List.getElem?_eq_getElem hlt) x hx
        · rw [List.mem_singleton] at hx
          subst hx
          have h2 := hl e (by simp)
          have hlt2 : e.2.1.toNat < nums.length := by omega
          show (nums[e.2.1.toNat]?).getD 0 ≠ 0
          rw [List.getElem?_eq_getElem hlt2]
          have := hn _ (List.getElem_mem hlt2)
          simp only [Option.getD_some]
          omega
      · rw [List.set_eq_of_length_le (by omega)] at hS
        exact h _ _ hS x hx
    · rw [List.getElem?_set_ne hi] at hS
      exact h _ _ hS x hx
theorem numAll_len : ∀ (l : List CL) (cs : List CL), (numAll cs l).1.length = l.length
  | [], _ => rfl
  | c :: l, cs => by simp only [numAll, List.length_cons]; rw [numAll_len l]
theorem numAll_pos : ∀ (l : List CL) (cs : List CL), (∀ c ∈ l, c.1 ≠ -1) → ∀ r ∈ (numAll cs l).1, 1 ≤ r
  | [], _, _, r, hr => by simp [numAll] at hr
  | c :: l, cs, h, r, hr => by
    simp only [numAll, List.mem_cons] at hr
    rcases hr with rfl | hr
    · unfold numL
      rw [if_neg (h c (by simp))]
      show 1 ≤ ((bsI cs c : Nat) : Int) + 1
      omega
    · exact numAll_pos l _ (fun c' hc' => h c' (by simp [hc'])) r hr
def visL (L : GL) : Prop := ∀ c ∈ L.labs, c.1 ≠ -1
theorem stepsOf_vis {cs : List CL} {L : GL} (h : visL L) (hL : badLts L = false) : visS (stepsOf (numAll cs L.labs).1 L) := by
  unfold stepsOf
  refine stepsGo_vis (numAll_pos _ _ h) (fun e he => ?_) (fun i S hS x hx => ?_)
  · rw [numAll_len]
    obtain ⟨i, hi⟩ := List.mem_iff_getElem?.1 he
    exact (bad_edges hL hi).2.2
  · have h2 := List.getElem?_replicate (a := ([] : Steps)) (n := L.n.toNat) (i := i)
    rw [hS] at h2
    split at h2
    · cases h2; cases hx
    · cases h2
theorem graphsOf_two (L M : GL) : ∃ cs1 cs2, graphsOf [L, M] = [stepsOf (numAll cs1 L.labs).1 L, stepsOf (numAll cs2 M.labs).1 M] := ⟨_, _, rfl⟩
theorem branch_of_strong {R : Rel} {TT : List Steps} {s t : Int} {x : Int × Int} (hp : (s, t) ∈ R) (hN : 0 < TT.length) (h : strongAt R TT t x = true) : branchB R TT s t x = true := by
  unfold branchB
  cases hn : TT.length with
  | zero => omega
  | succ n =>
    simp only [bfs, List.getElem?_cons_zero, bodyB, hp, decide_true, h, Bool.or_true, Bool.and_self, Bool.true_or]
theorem branch_vis {R : Rel} {TT : List Steps} {s t : Int} {x : Int × Int} (hp : (s, t) ∈ R) (hN : 0 < TT.length) (hx : x.1 ≠ 0) (hT : visS TT) : branchB R TT s t x = strongAt R TT t x := by
  unfold branchB
  have hfold : ∀ (S : Steps) (L : List Int), (∀ y ∈ S, y.1 ≠ 0) → S.foldl addS L = L := by
    intro S
    induction S with
    | nil => intro L _; rfl
    | cons y S ih =>
      intro L h
      rw [List.foldl_cons]
      have : addS L y = L := by unfold addS; rw [if_neg (fun hh => h y (by simp) hh.1)]
      rw [this]
      exact ih L fun z hz => h z (by simp [hz])
  have hnext : nextL TT [t] t = [t] := by
    unfold nextL
    split
    · rename_i S hS
      exact hfold S [t] (hT _ S hS)
    · rfl
  cases hn : TT.length with
  | zero => omega
  | succ n =>
    have hb : bodyB R TT s x t = strongAt R TT t x := by simp [bodyB, hp, hx]
    have h1 : bfs TT (bodyB R TT s x) n (0 + 1) (nextL TT [t] t) = false := by
      rw [hnext]
      cases n <;> simp [bfs]
    simp only [bfs, List.getElem?_cons_zero, h1, hb, Bool.or_false]
theorem allK_mono {R : Rel} {SS TT : List Steps} (hN : 0 < TT.length) (h : allK 1 R SS TT = true) : allK 2 R SS TT = true := by
  unfold allK allB at h ⊢
  rw [List.all_eq_true] at h ⊢
  intro p hp
  have := h p hp
  cases hS : SS[p.1.toNat]? with
  | none => rfl
  | some S =>
    rw [hS] at this
    simp only [List.all_eq_true] at this ⊢
    intro x hx
    have h1 : strongAt R TT p.2 x = true := this x hx
    exact branch_of_strong hp hN h1
theorem all_congr' {α : Type} {f g : α → Bool} : ∀ {l : List α}, (∀ a ∈ l, f a = g a) → l.all f = l.all g
  | [], _ => rfl
  | a :: l, h => by simp only [List.all_cons]; rw [h a (by simp), all_congr' fun b hb => h b (by simp [hb])]
theorem allK_vis {R : Rel} {SS TT : List Steps} (hN : 0 < TT.length) (hS : visS SS) (hT : visS TT) : allK 1 R SS TT = allK 2 R SS TT := by
  unfold allK allB
  refine all_congr' ?_
  intro p hp
  cases hSp : SS[p.1.toNat]? with
  | none => rfl
  | some S =>
    simp only
    refine all_congr' ?_
    intro x hx
    show strongAt R TT p.2 x = branchB R TT p.1 p.2 x
    exact (branch_vis hp hN (hS _ S hSp x hx) hT).symm
theorem lnk_same (prs : List (Int × Int)) : lnkErr ⟨1, prs⟩ = lnkErr ⟨2, prs⟩ := by
  unfold lnkErr
  simp [isMan]
theorem finer1 {L M : GL} {prs : List (Int × Int)} (h : checkV L M ⟨1, prs⟩ = 0) : checkV L M ⟨2, prs⟩ = 0 := by
  unfold checkV at h ⊢
  rw [← lnk_same]
  cases hb : (badLts L || badLts M) with
  | true => rw [hb] at h; simp at h
  | false =>
    obtain ⟨hL, hM⟩ := Bool.or_eq_false_iff.1 hb
    rw [hb] at h
    simp only [Bool.false_eq_true, if_false] at h ⊢
    by_cases h0 : lnkErr ⟨1, prs⟩ = 0
    · simp only [h0, ne_eq, not_true, if_false] at h ⊢
      have hr : relV L M ⟨1, prs⟩ = true := by
        cases hr : relV L M ⟨1, prs⟩ with
        | true => rfl
        | false => rw [hr] at h; simp at h
      have : relV L M ⟨2, prs⟩ = true := by
        obtain ⟨c1, c2, hg⟩ := graphsOf_two L M
        unfold relV at hr ⊢
        rw [hg] at hr ⊢
        simp only [relB, Bool.and_eq_true] at hr ⊢
        obtain ⟨a, ⟨b, c⟩, d⟩ := hr
        have n1 := bad_sizes hL
        have n2 := bad_sizes hM
        exact ⟨a, ⟨b, allK_mono (by rw [stepsOf_len]; omega) c⟩, allK_mono (by rw [stepsOf_len]; omega) d⟩
      rw [this]; rfl
    · rw [if_pos h0] at h; exact absurd h h0
theorem finer2 {L M : GL} {prs : List (Int × Int)} (hl : visL L) (hm : visL M) : checkV L M ⟨1, prs⟩ = checkV L M ⟨2, prs⟩ := by
  unfold checkV
  rw [← lnk_same]
  cases hb : (badLts L || badLts M) with
  | true => rfl
  | false =>
    obtain ⟨hL, hM⟩ := Bool.or_eq_false_iff.1 hb
    have : relV L M ⟨1, prs⟩ = relV L M ⟨2, prs⟩ := by
      obtain ⟨c1, c2, hg⟩ := graphsOf_two L M
      unfold relV
      rw [hg]
      simp only [relB]
      have n1 := bad_sizes hL
      have n2 := bad_sizes hM
      rw [allK_vis (by rw [stepsOf_len]; omega) (stepsOf_vis hl hL) (stepsOf_vis hm hM), allK_vis (by rw [stepsOf_len]; omega) (stepsOf_vis hm hM) (stepsOf_vis hl hL)]
    rw [this]
end Go.Proofs
end
section
set_option linter.all false
set_option autoImplicit true
set_option relaxedAutoImplicit true
namespace Go.Proofs
open Go Go.AM
set_option maxRecDepth 100000
set_option linter.all false
set_option maxHeartbeats 1000000
theorem Fx.back {P : Nat → Prop} {k h : AH} (f : Fx P k.fresh h) : Fx P k ⟨h.t, h.next, cond (Nat.ble k.wm h.wm) k.wm h.wm⟩ := by
  refine ⟨?_, f.next, fun c hc hn => f.get c hc hn, fun m h1 h2 h3 => ?_⟩
  · have := f.ok
    unfold AH.ok at this
    show cond (Nat.ble k.wm h.wm) k.wm h.wm ≤ h.next + UNK
    cases hc : Nat.ble k.wm h.wm with
    | true => have := ble_true.1 hc; simp only [cond_true]; omega
    | false => simpa using this
  · have := f.wm m (by rw [wm_fresh]; omega) h2 h3
    show m ≤ cond (Nat.ble k.wm h.wm) k.wm h.wm
    cases Nat.ble k.wm h.wm
    · exact this
    · exact h1
theorem Fx.ext1 {h0 k l : AH} {b : Nat} (f : Fx (fun c => c = b) k l) (e : Ext h0 k) (hb : h0.next ≤ b) : Ext h0 l :=
  ⟨f.ok, Nat.le_trans e.next f.next, fun c hc => (f.get c (Nat.lt_of_lt_of_le hc e.next) (by omega)).trans (e.get c hc)⟩
theorem box173 {h : AH} {a b : Int} {v : Value} (hl : isLeaf v = true) : wStore E 173 (h.new (.row [.int .i64 0, .int .i64 0, .slice none 0 0] 173 0 false)) (some (ptr h.next)) (some (.agg ⟨[.int .i64 a, .int .i64 b, v]⟩)) = one (undef, (h.new (.row [.int .i64 0, .int .i64 0, .slice none 0 0] 173 0 false)).upd h.next (some (.row [.int .i64 a, .int .i64 b, v] 173 0 false))) := by
  rw [store_of (P := E) ts_173 (x := .agg ⟨[.int .i64 a, .int .i64 b, v]⟩) (cs := [.int .i64 a, .int .i64 b, v]) (get_new_self h _) rfl rfl (by simp) (by simp [isLeaf] at hl ⊢; exact hl)]
  rfl
def Nd (k : AH) (bL : Nat) (x : Value) (k' : AH) : Prop := ∃ b left, x = .bool b ∧ (b = true → 0 ≤ left) ∧ left ≤ 2000 ∧ k'.get bL = some (.row [.int .i64 left] 3 0 false) ∧ k'.wm ≤ k.wm ∧ Fx (fun c => c = bL) k k'
theorem nodes_step {h0 k : AH} {v : Value} {ts : List GT} {bL : Nat} {left deep : Int} (hr : RT h0 v ts) (hk : Ext h0 k) (hb0 : h0.next ≤ bL) (hbL : k.get bL = some (.row [.int .i64 left] 3 0 false)) (hbLl : bL < k.next) (hl0 : 0 ≤ left) (hl1 : left ≤ 2000) (hd1 : 1 ≤ deep) (hd2 : deep ≤ 102)
    (hrec : deep ≤ 100 → ∀ {k' : AH} {v' : Value} {ts' : List GT} {left' : Int}, RT h0 v' ts' → Ext h0 k' → k'.get bL = some (.row [.int .i64 left'] 3 0 false) → bL < k'.next → 0 ≤ left' → left' ≤ 2000 → Ev true ((recI E).call 69 [v', ptr bL, .int .i64 (deep + 1)] k') fun x => Nd k' bL x.1 x.2) :
    Ev true ((recI E).call 69 [v, ptr bL, .int .i64 deep] k) fun x => Nd k bL x.1 x.2 := by
  obtain ⟨ad, cp, hv⟩ := hr.slice
  cases hr with
  | @mk _ els _ ha hn hc =>
  have hlen := RC.length hc
  by_cases hts : ts.length = 0
  · have : (recI E).call 69 [v, ptr bL, .int .i64 deep] k = some [(.bool true, k)] := by
      refine F69_flat (s := true) hk.ok rfl (P69_0_of ?_)
      simp only [Q69_0, evO_some]
      refine P69_1_of ?_
      rw [hv, hts]
      simp only [Q69_1, evO_some, len69_1_1]
      refine P69_2_of ?_
      simp only [Q69_2, bf_lss, evO_some, brK_d]
      refine ⟨fun h => by omega, fun _ => P69_8_of ?_⟩
      simp only [Q69_8, evO_some, kR_1, ne_ret, true_and]
      show k.next ≤ k.next + UNK
      omega
    rw [this, ev_some]
    exact ⟨true, left, rfl, fun _ => hl0, hl1, hbL, Nat.le_refl _, Fx.refl hk.ok⟩
  · refine F69_some (Rp := fun x k' => Nd k bL x k') (P69_0_of ?_)
    simp only [Q69_0, evO_some]
    refine P69_1_of ?_
    rw [hv]
    simp only [Q69_1, evO_some, len69_1_1]
    have fin : ∀ (b : Bool) (l : Int) (h : AH), (b = true → 0 ≤ l) → l ≤ 2000 → h.get bL = some (.row [.int .i64 l] 3 0 false) → Fx (fun c => c = bL) k.fresh h → h.wm ≤ bL → KR E [.tmp 6] (fun x k' => (isFlat x = false ∨ k'.wm < k.next) ∧ Nd k bL x ⟨k'.t, k'.next, cond (Nat.ble k.wm k'.wm) k.wm k'.wm⟩) .ret [.bool b] h := by
      intro b l h h1 h2 h3 f hw
      simp only [kR_1, ne_ret, true_and]
      refine ⟨.inr (by omega), b, l, rfl, h1, h2, h3, ?_, f.back⟩
      show cond (Nat.ble k.wm h.wm) k.wm h.wm ≤ k.wm
      cases hc : Nat.ble k.wm h.wm with
      | true => exact Nat.le_refl _
      | false => have := ble_false.1 hc; simp only [cond_false]; omega
    have loop : ∀ (r i : Nat), i + r = ts.length → ∀ (l : Int) (h : AH), Fx (fun c => c = bL) k.fresh h → h.get bL = some (.row [.int .i64 l] 3 0 false) → 0 ≤ l → l ≤ 2000 → (i ≠ 0 → h.wm ≤ bL) →
        P69_2 true (KR E [.tmp 6] (fun x k' => (isFlat x = false ∨ k'.wm < k.next) ∧ Nd k bL x ⟨k'.t, k'.next, cond (Nat.ble k.wm k'.wm) k.wm k'.wm⟩)) (ptr bL) (.int .i64 deep) (.slice ad ts.length cp) (.int .i64 (ts.length : Int)) (.int .i64 (i : Int)) h := by
      intro r
      induction r with
      | zero =>
        intro i hi l h f hg h1 h2 hw
        refine P69_2_of ?_
        have : ¬ ((i : Int) < (ts.length : Int)) := by omega
        simp only [Q69_2, bf_lss, evO_some, this, decide_false, brK_f]
        refine P69_8_of ?_
        simp only [Q69_8, evO_some]
        exact fin true l h (fun _ => h1) h2 hg f (hw (by omega))
      | succ r ih =>
        intro i hi l h f hg h1 h2 hw
        have hin : i < ts.length := by omega
        have hin2 : i < els.length := by omega
        refine P69_2_of ?_
        have : ((i : Int) < (ts.length : Int)) := by omega
        simp only [Q69_2, bf_lss, evO_some, this, decide_true, brK_t]
        refine P69_3_of ?_
        obtain ⟨kk, nn, vv, lv, hel, hrt, _⟩ := RC.at hc i _ (List.getElem?_eq_getElem hin2)
        obtain ⟨b, o, c, vs, ty, es, ro, hv', hb, hlt, hle, hz, hzl⟩ := ha.load (List.getElem?_eq_getElem hin2)
        rw [hel] at hz
        rw [hv] at hv'
        simp only [Value.slice.injEq] at hv'
        obtain ⟨hv1, _, _⟩ := hv'
        subst hv1
        have ek : Ext h0 h := f.ext1 hk.fresh hb0
        have gb := (ek.get b hlt).trans hb
        have hvl : isLeaf vv = true := rt_leaf hrt
        simp only [Q69_3, ia_34 hin, evO_some, load_agg ta_173 gb hle, hz, z_173, new_row, ev_one, cells_agg, box173 hvl]
        refine P69_4_of ?_
        have hbh : bL < h.next := Nat.lt_of_lt_of_le hbLl f.next
        have f1 : Fx (fun c => c = bL) k.fresh ((h.new (.row [.int .i64 0, .int .i64 0, .slice none 0 0] 173 0 false)).upd h.next (some (.row [.int .i64 kk, .int .i64 nn, vv] 173 0 false))) := (f.new _).upd (.inr f.next) _
        have t1 : ((h.new (.row [.int .i64 0, .int .i64 0, .slice none 0 0] 173 0 false)).upd h.next (some (.row [.int .i64 kk, .int .i64 nn, vv] 173 0 false))).get h.next = some (.row [.int .i64 kk, .int .i64 nn, vv] 173 0 false) := get_upd_self _ _ _
        have g1 : ((h.new (.row [.int .i64 0, .int .i64 0, .slice none 0 0] 173 0 false)).upd h.next (some (.row [.int .i64 kk, .int .i64 nn, vv] 173 0 false))).get bL = _ := ((get_upd_ne (by omega)).trans (get_new_ne (by omega))).trans hg
        have n1 : ((h.new (.row [.int .i64 0, .int .i64 0, .slice none 0 0] 173 0 false)).upd h.next (some (.row [.int .i64 kk, .int .i64 nn, vv] 173 0 false))).next = h.next + 1 := rfl
        generalize ((h.new (.row [.int .i64 0, .int .i64 0, .slice none 0 0] 173 0 false)).upd h.next (some (.row [.int .i64 kk, .int .i64 nn, vv] 173 0 false))) = k1 at f1 t1 g1 n1
        have lg := load_leaf (P := E) ta_3 (o := 0) g1
        simp only [lnth] at lg
        have hst := store_of (P := E) ts_3 (o := 0) g1 (cells_int .i64 (l - 1)) rfl (by simp) rfl
        have hput : lput [Value.int .i64 l] 0 [.int .i64 (l - 1)] = [.int .i64 (l - 1)] := rfl
        rw [hput] at hst
        simp only [Q69_4, evO_some, nil_ptr, lg, bf_sub _ (show in64 (l - 1) by unfold in64; omega), hst, ev_one]
        refine P69_5_of ?_
        have f2 : Fx (fun c => c = bL) k.fresh (k1.upd bL (some (.row [.int .i64 (l - 1)] 3 0 false))) := f1.upd (.inl rfl) _
        have g2 : (k1.upd bL (some (.row [.int .i64 (l - 1)] 3 0 false))).get bL = some (.row [.int .i64 (l - 1)] 3 0 false) := get_upd_self _ _ _
        have t2 : (k1.upd bL (some (.row [.int .i64 (l - 1)] 3 0 false))).get h.next = _ := (get_upd_ne (by omega)).trans t1
        have w2 : (k1.upd bL (some (.row [.int .i64 (l - 1)] 3 0 false))).wm ≤ bL := (upd_wm _ _ _).2
        have n2 : (k1.upd bL (some (.row [.int .i64 (l - 1)] 3 0 false))).next = k1.next := rfl
        generalize (k1.upd bL (some (.row [.int .i64 (l - 1)] 3 0 false))) = k2 at f2 g2 t2 w2 n2
        have lg2 := load_leaf (P := E) ta_3 (o := 0) g2
        have lv2 := load_leaf (P := E) ta_34 (o := 2) t2
        simp only [lnth] at lg2 lv2
        have stop : P69_6 true (KR E [.tmp 6] (fun x k' => (isFlat x = false ∨ k'.wm < k.next) ∧ Nd k bL x ⟨k'.t, k'.next, cond (Nat.ble k.wm k'.wm) k.wm k'.wm⟩)) k2 := by
          refine P69_6_of ?_
          simp only [Q69_6, evO_some]
          exact fin false _ k2 (fun h => by cases h) (by omega) g2 f2 w2
        simp only [Q69_5, evO_some, nil_ptr, lg2, bf_lss]
        by_cases e1 : l - 1 < 0
        · simp only [e1, decide_true, gdB_bool, gdW_bool, show (true == false) = false from rfl, cond_false, cond_true, evO_some, ev_one, pick_bool, brK_t]
          exact stop
        · simp only [e1, decide_false, gdB_bool, beq_self_eq_true, cond_true, evO_some, bf_gtr, pick_bool, cond_false]
          by_cases e2 : 100 < deep
          · simp only [e2, decide_true, gdB_bool, gdW_bool, show (true == false) = false from rfl, cond_false, cond_true, evO_some, ev_one, pick_bool, brK_t]
            exact stop
          · simp only [e2, decide_false, gdB_bool, gdW_bool, beq_self_eq_true, cond_true, evO_some, fa_173_2, Nat.zero_add, lv2, bf_add _ (show in64 (deep + 1) by unfold in64; omega), wCall_0]
            refine (hrec (by omega) hrt (f2.ext1 hk.fresh hb0) g2 (by omega) (by omega) (by omega)).mono fun y hy => ?_
            obtain ⟨bb, l3, y1, y2, y3, y4, y6, y5⟩ := hy
            rw [y1]
            have f3 : Fx (fun c => c = bL) k.fresh y.2 := f2.trans y5 (fun c h => .inl h)
            have w3 : y.2.wm ≤ bL := by omega
            simp only [uf_not, evO_some, pick_bool, cond_false, brK_bool]
            refine ⟨fun hb => P69_6_of ?_, fun hb => P69_7_of ?_⟩
            · simp only [Q69_6, evO_some]
              exact fin false l3 y.2 (fun h => by cases h) y3 y4 f3 w3
            · have hbt : bb = true := by simpa using hb
              simp only [Q69_7, bf_add _ (add1 hin (by omega)), evO_some]
              have := ih (i + 1) (by omega) l3 y.2 f3 y4 (y2 hbt) y3 (fun _ => w3)
              simpa using this
    exact loop ts.length 0 (by omega) left k.fresh (Fx.refl (ok_fresh k)) hbL hl0 hl1 (fun h => absurd rfl h)
theorem call69 : ∀ (d : Nat) {h0 k : AH} {v : Value} {ts : List GT} {bL : Nat} {left deep : Int}, RT h0 v ts → Ext h0 k → h0.next ≤ bL → k.get bL = some (.row [.int .i64 left] 3 0 false) → bL < k.next → 0 ≤ left → left ≤ 2000 → 1 ≤ deep → deep ≤ 102 → 101 ≤ deep + d →
    Ev true ((recI E).call 69 [v, ptr bL, .int .i64 deep] k) fun x => Nd k bL x.1 x.2 := by
  intro d
  induction d with
  | zero =>
    intro h0 k v ts bL left deep hr hk hb0 hbL hbLl hl0 hl1 hd1 hd2 hd3
    exact nodes_step hr hk hb0 hbL hbLl hl0 hl1 hd1 hd2 (fun h => by omega)
  | succ d ihd =>
    intro h0 k v ts bL left deep hr hk hb0 hbL hbLl hl0 hl1 hd1 hd2 hd3
    exact nodes_step hr hk hb0 hbL hbLl hl0 hl1 hd1 hd2 (fun h k' v' ts' left' a b c d e f => ihd a b hb0 c d e f (by omega) (by omega) (by omega))
end Go.Proofs
end
section
set_option linter.all false
set_option autoImplicit true
set_option relaxedAutoImplicit true
namespace Go.Proofs
open Go Go.AM
set_option maxRecDepth 100000
set_option linter.all false
set_option maxHeartbeats 1000000
abbrev kfew (k : AH) : KF := KR E [.tmp 2] (fun x l => (isFlat x = true ∧ ∃ b, x = .bool b) ∧ k.next ≤ l.wm)
theorem few_stop {k h : AH} (ho : Own k h) (b : Bool) : kfew k .ret [.bool b] h := by
  simp only [kfew, kR_1, ne_ret, true_and]
  exact ⟨⟨rfl, b, rfl⟩, ho.wm⟩
theorem call14 {k : AH} {v : Value} {els : List (List Value)} {Ls : List GL} (hok : k.ok) (ha : Arr k 3 v els) (hlen : els.length = Ls.length) (hle : els.length ≤ 10) (hr : ∀ (i : Nat) (e : List Value) (L : GL), els[i]? = some e → Ls[i]? = some L → RL k (.agg ⟨e⟩) L) :
    ∃ b, (recI E).call 14 [v] k = some [(.bool b, k)] := by
  have key : ∃ w, (∃ b, w = .bool b) ∧ (recI E).call 14 [v] k = some [(w, k)] := by
    obtain ⟨ad, cp, hv⟩ := ha.slice
    refine F14_flatE hok (P14_0_of ?_)
    simp only [Q14_0, evO_some]
    refine P14_1_of ?_
    have hst := store_of (P := E) ts_3 (o := 0) (get_new_self k.fresh (.row [.int .i64 0] 3 0 false)) (cells_int .i64 2000) rfl (by simp) rfl
    simp only [next_fresh] at hst
    simp only [Q14_1, z_3, new_row, ev_one, cellsOfV, next_fresh, hst]
    refine P14_2_of ?_
    have o1 := ((Own.fresh k).new (.row [.int .i64 0] 3 0 false)).upd (b := k.next) (Nat.le_refl _) (some (.row (lput [.int .i64 0] 0 [.int .i64 2000]) 3 0 false))
    have t1 : ((k.fresh.new (.row [.int .i64 0] 3 0 false)).upd k.next (some (.row (lput [.int .i64 0] 0 [.int .i64 2000]) 3 0 false))).get k.next = some (.row [.int .i64 2000] 3 0 false) := get_upd_self _ _ _
    have n1 : ((k.fresh.new (.row [.int .i64 0] 3 0 false)).upd k.next (some (.row (lput [.int .i64 0] 0 [.int .i64 2000]) 3 0 false))).next = k.next + 1 := rfl
    generalize ((k.fresh.new (.row [.int .i64 0] 3 0 false)).upd k.next (some (.row (lput [.int .i64 0] 0 [.int .i64 2000]) 3 0 false))) = k1 at o1 t1 n1
    rw [hv]
    simp only [Q14_2, evO_some, len14_2_1]
    have loop : ∀ (r i : Nat), i + r = els.length → ∀ (l : Int) (h : AH), Own k h → h.get k.next = some (.row [.int .i64 l] 3 0 false) → k.next < h.next → 0 ≤ l → l ≤ 2000 →
        P14_3 true (kfew k) (ptr k.next) (.slice ad els.length cp) (.int .i64 (els.length : Int)) (.int .i64 (i : Int)) h := by
      intro r
      induction r with
      | zero =>
        intro i hi l h ho hg hlt h1 h2
        refine P14_3_of ?_
        have : ¬ ((i : Int) < (els.length : Int)) := by omega
        simp only [Q14_3, bf_lss, evO_some, this, decide_false, brK_f]
        refine P14_14_of ?_
        simp only [Q14_14, evO_some]
        exact few_stop ho true
      | succ r ih =>
        intro i hi l h ho hg hlt h1 h2
        have hin : i < els.length := by omega
        refine P14_3_of ?_
        have : ((i : Int) < (els.length : Int)) := by omega
        simp only [Q14_3, bf_lss, evO_some, this, decide_true, brK_t]
        refine P14_4_of ?_
        have hRL := hr i _ _ (List.getElem?_eq_getElem hin) (List.getElem?_eq_getElem (by omega))
        generalize Ls[i] = L at hRL
        obtain ⟨vl, ve, elsL, q1, q2, q3, q4⟩ := hRL.ex
        have he : els[i] = [.int .i64 L.n, vl, ve] := by
          simp only [Value.agg.injEq] at q1
          have := congrArg Array.toList q1
          simpa using this
        obtain ⟨b, o, c, vs, ty, es, ro, hv', hb, hltb, hle', hz, hzl⟩ := ha.load (List.getElem?_eq_getElem hin)
        rw [he] at hz
        rw [hv] at hv'
        simp only [Value.slice.injEq] at hv'
        obtain ⟨hv1, _, _⟩ := hv'
        subst hv1
        have gb := (ho.ext.get b hltb).trans hb
        obtain ⟨al, cl, hvl⟩ := q2.slice
        rw [RLab.length q3] at hvl
        obtain ⟨ae, ce, hve⟩ := q4.slice
        rw [List.length_map] at hve
        have hbox := box25 (k := h) (e := [.int .i64 L.n, vl, ve]) (by rw [hvl, hve]; rfl) rfl
        simp only [Q14_4, ia_82 hin, evO_some, load_agg ta_25 gb hle', hz, z_25, new_row, ev_one, cells_agg, hbox]
        refine P14_5_of ?_
        have f1 : Fx NoB h ((h.new (.row [.int .i64 0, .slice none 0 0, .slice none 0 0] 25 0 false)).upd h.next (some (.row [.int .i64 L.n, vl, ve] 25 0 false))) := ((Fx.refl ho.ext.ok).new _).upd (.inr (Nat.le_refl _)) _
        have t1 : ((h.new (.row [.int .i64 0, .slice none 0 0, .slice none 0 0] 25 0 false)).upd h.next (some (.row [.int .i64 L.n, vl, ve] 25 0 false))).get h.next = some (.row [.int .i64 L.n, vl, ve] 25 0 false) := get_upd_self _ _ _
        generalize ((h.new (.row [.int .i64 0, .slice none 0 0, .slice none 0 0] 25 0 false)).upd h.next (some (.row [.int .i64 L.n, vl, ve] 25 0 false))) = k2 at f1 t1
        have o2 := f1.own ho (fun _ h => h.elim)
        have g2 := (f1.get k.next hlt (fun h => h)).trans hg
        have lt2 := Nat.lt_of_lt_of_le hlt f1.next
        have s0 := load_leaf (P := E) ta_3 (o := 0) t1
        have s1 := load_leaf (P := E) ta_22 (o := 1) t1
        have s2 := load_leaf (P := E) ta_23 (o := 2) t1
        simp only [lnth] at s0 s1 s2
        have stop : P14_6 true (kfew k) k2 := by
          refine P14_6_of ?_
          simp only [Q14_6, evO_some]
          exact few_stop o2 false
        rw [hvl] at s1
        rw [hve] at s2
        simp only [Q14_5, fa_25_0, Nat.add_zero, s0, evO_some, bf_gtr]
        by_cases e1 : 60 < L.n
        · simp only [e1, decide_true, gdB_bool, show (true == false) = false from rfl, cond_false, cond_true, evO_some, pick_bool, brK_t]
          exact stop
        · simp only [e1, decide_false, gdB_bool, beq_self_eq_true, cond_true, fa_25_2, Nat.zero_add, s2, evO_some, len14_5_6, bf_gtr, pick_bool, cond_false]
          by_cases e2 : 300 < (L.eds.length : Int)
          · simp only [e2, decide_true, gdB_bool, show (true == false) = false from rfl, cond_false, cond_true, evO_some, pick_bool, brK_t]
            exact stop
          · simp only [e2, decide_false, gdB_bool, beq_self_eq_true, cond_true, fa_25_1, Nat.zero_add, s1, evO_some, len14_5_12, bf_gtr, pick_bool, cond_false]
            by_cases e3 : 60 < (L.labs.length : Int)
            · simp only [e3, decide_true, brK_t]
              exact stop
            · simp only [e3, decide_false, brK_f]
              refine P14_7_of ?_
              simp only [Q14_7, fa_25_1, Nat.zero_add, s1, evO_some, len14_7_2]
              have inner : ∀ (r2 j : Nat), j + r2 = L.labs.length → ∀ (l : Int) (h : AH), Own k h → h.get k.next = some (.row [.int .i64 l] 3 0 false) → k.next < h.next → 0 ≤ l → l ≤ 2000 →
                  P14_8 true (kfew k) (ptr k.next) (.slice (some ⟨b, o, none⟩) els.length cp) (.int .i64 (els.length : Int)) (.int .i64 (i : Int)) (.slice al L.labs.length cl) (.int .i64 (L.labs.length : Int)) (.int .i64 (j : Int)) h := by
                intro r2
                induction r2 with
                | zero =>
                  intro j hj l h ho hg hlt h1 h2
                  refine P14_8_of ?_
                  have : ¬ ((j : Int) < (L.labs.length : Int)) := by omega
                  simp only [Q14_8, bf_lss, evO_some, this, decide_false, brK_f]
                  refine P14_13_of ?_
                  simp only [Q14_13, bf_add _ (add1 hin (by omega)), evO_some]
                  have := ih (i + 1) (by omega) l h ho hg hlt h1 h2
                  simpa using this
                | succ r2 ih2 =>
                  intro j hj l h ho hg hlt h1 h2
                  have hjn : j < L.labs.length := by omega
                  have hjn2 : j < elsL.length := by rw [RLab.length q3]; exact hjn
                  refine P14_8_of ?_
                  have : ((j : Int) < (L.labs.length : Int)) := by omega
                  simp only [Q14_8, bf_lss, evO_some, this, decide_true, brK_t]
                  refine P14_9_of ?_
                  obtain ⟨g, vt, lt, hel, hrt, hat⟩ := RLab.at q3 j _ (List.getElem?_eq_getElem hjn2)
                  obtain ⟨b', o', c', vs', ty', es', ro', hv', hb', hlt', hle', hz', hzl'⟩ := q2.load (List.getElem?_eq_getElem hjn2)
                  rw [hel] at hz'
                  rw [hvl] at hv'
                  simp only [Value.slice.injEq] at hv'
                  obtain ⟨hv1, _, _⟩ := hv'
                  subst hv1
                  have gb' := (ho.ext.get b' hlt').trans hb'
                  simp only [Q14_9, ia_22 hjn, evO_some, load_agg ta_36 gb' hle', hz', z_36, new_row, ev_one, cells_agg, box36 (rt_leaf hrt)]
                  refine P14_10_of ?_
                  have f3 : Fx NoB h ((h.new (.row [.int .i64 0, .slice none 0 0] 36 0 false)).upd h.next (some (.row [.int .i64 g, vt] 36 0 false))) := ((Fx.refl ho.ext.ok).new _).upd (.inr (Nat.le_refl _)) _
                  have t3 : ((h.new (.row [.int .i64 0, .slice none 0 0] 36 0 false)).upd h.next (some (.row [.int .i64 g, vt] 36 0 false))).get h.next = some (.row [.int .i64 g, vt] 36 0 false) := get_upd_self _ _ _
                  generalize ((h.new (.row [.int .i64 0, .slice none 0 0] 36 0 false)).upd h.next (some (.row [.int .i64 g, vt] 36 0 false))) = k3 at f3 t3
                  have o3 := f3.own ho (fun _ h => h.elim)
                  have g3 := (f3.get k.next hlt (fun h => h)).trans hg
                  have lt3 := Nat.lt_of_lt_of_le hlt f3.next
                  have u1 := load_leaf (P := E) ta_34 (o := 1) t3
                  simp only [lnth] at u1
                  simp only [Q14_10, fa_36_1, Nat.zero_add, u1, evO_some, wCall_0]
                  refine (call69 100 hrt o3.ext (Nat.le_refl _) g3 lt3 h1 h2 (by omega) (by omega) (by omega)).mono fun y hy => ?_
                  obtain ⟨bb, l3, y1, y2, y3, y4, y6, y5⟩ := hy
                  have o4 := y5.own o3 (fun c h => by rw [h]; exact Nat.le_refl _)
                  rw [y1]
                  simp only [uf_not, evO_some, brK_bool]
                  refine ⟨fun hb => P14_11_of ?_, fun hb => P14_12_of ?_⟩
                  · simp only [Q14_11, evO_some]
                    exact few_stop o4 false
                  · have hbt : bb = true := by simpa using hb
                    simp only [Q14_12, bf_add _ (add1 hjn (by omega)), evO_some]
                    have := ih2 (j + 1) (by omega) l3 y.2 o4 y4 (Nat.lt_of_lt_of_le lt3 y5.next) (y2 hbt) y3
                    simpa using this
              exact inner L.labs.length 0 (by omega) l k2 o2 g2 lt2 h1 h2
    exact loop els.length 0 (by omega) 2000 k1 o1 t1 (by omega) (by omega) (by omega)
  obtain ⟨w, ⟨b, rfl⟩, hc⟩ := key
  exact ⟨b, hc⟩
theorem call17 {k : AH} {g : Int} {v : Value} (hok : k.ok) : (recI E).call 17 [.agg ⟨[.int .i64 g, v]⟩] k = some [(.bool (decide (g = -1)), k)] := by
  refine F17_flat (s := true) hok rfl (P17_0_of ?_)
  simp only [Q17_0, new_row, ev_one, cells_agg, evO_some]
  refine P17_1_of ?_
  have o1 := (Own.fresh k).new (.row [.int .i64 g, v] 36 0 false)
  have l0 := load_leaf (P := E) ta_3 (o := 0) (get_new_self k.fresh (.row [.int .i64 g, v] 36 0 false))
  simp only [lnth, next_fresh] at l0
  simp only [Q17_1, fa_36_0, Nat.add_zero, next_fresh, l0, evO_some, bf_eql, kR_1, ne_ret, true_and]
  exact o1.wm
theorem pb32 {a : Int} {ad : Option Addr} {n c : Nat} : pBuild E 32 (some [(0, .int .i64 a), (1, .slice ad n c)]) = some (.agg ⟨[.int .i64 a, .slice ad n c]⟩) := by kernel_rfl
theorem call16 {k : AH} {a : Int} {ad : Option Addr} {n c : Nat} (hok : k.ok) : Ev true ((recI E).call 16 [.int .i64 a, .slice ad n c] k) fun x => x.1 = .agg ⟨[.int .i64 a, .slice ad n c]⟩ ∧ Fx NoB k x.2 := by
  have run : ∀ {Rp : Value → AH → Prop}, (∀ h, Own k h → Fx NoB k.fresh h → Rp (.agg ⟨[.int .i64 a, .slice ad n c]⟩) h) → P16_0 true (KR E [.cell 4 32] Rp) (.int .i64 a) (.slice ad n c) k.fresh := by
    intro Rp hRp
    refine P16_0_of ?_
    simp only [Q16_0, z_32, new_row, ev_one, cells_agg]
    refine P16_1_of ?_
    have hst := store_of (P := E) ts_32 (o := 0) (x := .agg ⟨[.int .i64 a, .slice ad n c]⟩) (cs := [.int .i64 a, .slice ad n c]) (get_new_self k.fresh (.row [.int .i64 0, .slice none 0 0] 32 0 false)) rfl rfl (by simp) (by simp [isLeaf])
    have hput : lput [Value.int .i64 0, .slice none 0 0] 0 [.int .i64 a, .slice ad n c] = [.int .i64 a, .slice ad n c] := rfl
    rw [hput] at hst
    simp only [next_fresh] at hst ⊢
    simp only [Q16_1, evO_some, pb32, hst, ev_one, kR_c, ne_ret, true_and]
    have g1 : ((k.fresh.new (.row [.int .i64 0, .slice none 0 0] 32 0 false)).upd k.next (some (.row [.int .i64 a, .slice ad n c] 32 0 false))).get k.next = some (.row [.int .i64 a, .slice ad n c] 32 0 false) := get_upd_self _ _ _
    have la := load_agg (P := E) ta_32 (o := 0) g1 (by simp)
    have : loadV E 32 (ptr k.next) ((k.fresh.new (.row [.int .i64 0, .slice none 0 0] 32 0 false)).upd k.next (some (.row [.int .i64 a, .slice ad n c] 32 0 false))) = some (.agg ⟨[.int .i64 a, .slice ad n c]⟩) := la
    rw [this, evO_some]
    exact hRp _ (((Own.fresh k).new _).upd (Nat.le_refl _) _) (((Fx.refl (ok_fresh k)).new _).upd (.inr (Nat.le_refl _)) _)
  cases hfl : isFlat (.agg ⟨[.int .i64 a, .slice ad n c]⟩) with
  | true =>
    have := F16_flat1 (v0 := .int .i64 a) (v1 := .slice ad n c) hok hfl (run fun h ho _ => ⟨rfl, ho.wm⟩)
    rw [this, ev_some]
    exact ⟨rfl, Fx.refl hok⟩
  | false => exact F16_some (Rp := fun x k' => x = .agg ⟨[.int .i64 a, .slice ad n c]⟩ ∧ Fx NoB k k') (run fun h ho f => ⟨.inl hfl, rfl, f.back⟩)
end Go.Proofs
end
section
set_option linter.all false
set_option autoImplicit true
set_option relaxedAutoImplicit true
namespace Go.Proofs
open Go Go.AM
set_option maxRecDepth 100000
set_option linter.all false
set_option maxHeartbeats 1000000
theorem f13_get : E.tab.fn.get 13 = some Tryz.f13 := by kernel_rfl
theorem f13_body : Tryz.f13.body = some (bodyOf Tryz.f13) := by kernel_rfl
theorem call13 {k : AH} : (recI E).call 13 [] k = some [(.bool true, k)] := call_sum f13_get f13_body (by kernel_rfl)
def innerB (L : GL) : Bool := L.labs.any fun c => decide (c.1 = -1)
theorem innerB_vis {L : GL} (h : innerB L = false) : visL L := by
  intro c hc e
  have := List.any_eq_false.1 h c hc
  simp [e] at this
def pLab (L : GL) (i : Nat) : Bool := match L.labs[i]? with
  | some c => decide (c.1 = -1)
  | none => false
theorem any_pLab (L : GL) : (List.range L.labs.length).any (pLab L) = innerB L := by
  unfold innerB
  rw [Bool.eq_iff_iff]
  simp only [List.any_eq_true, List.mem_range]
  constructor
  · rintro ⟨i, hi, h⟩
    unfold pLab at h
    rw [List.getElem?_eq_getElem hi] at h
    exact ⟨_, List.getElem_mem hi, h⟩
  · rintro ⟨y, hy, h⟩
    obtain ⟨i, hi⟩ := List.mem_iff_getElem?.1 hy
    refine ⟨i, (List.getElem?_eq_some_iff.1 hi).1, ?_⟩
    unfold pLab
    rw [hi]; exact h
theorem call18_inner {h0 k : AH} {vl : Value} {elsL : List (List Value)} {L : GL} (ha : Arr h0 2 vl elsL) (hL : RLab h0 elsL L.labs) (hn : elsL.length ≤ 9223372036854775807) (hk : Ext h0 k) :
    (recI E).call 18 [vl, .func (.func 17) #[] #[]] k = some [(.bool (innerB L), k)] := by
  have := call18 (h0 := h0) (v := vl) (f := .func (.func 17) #[] #[]) (p := pLab L) ha hn (fun k' hk' i e he => by
    obtain ⟨g, v, l, hel, hrt, hat⟩ := RLab.at hL i e he
    subst hel
    rw [wCall_0]
    show (recI E).call 17 [.agg ⟨[.int .i64 g, v]⟩] k' = _
    rw [call17 hk'.ok]
    unfold pLab
    rw [hat]) hk
  rw [this, idx_any, RLab.length hL, any_pLab]
theorem veq_slice3 {n : Int} {a b : Option Addr} {m c m' c' : Nat} : veq 100 (.agg #[.int .i64 n, .slice a m c, .slice b m' c']) (.agg #[.int .i64 n, .slice a m c, .slice b m' c']) = true := by
  show veqs 99 [.int .i64 n, .slice a m c, .slice b m' c'] [.int .i64 n, .slice a m c, .slice b m' c'] = true
  simp only [veqs, veq_int, veq_slice, Bool.and_self]
theorem call3 {k : AH} {x y : Value} {L M : GL} {prs : List (Int × Int)} {ap : Option Addr} {cp : Nat} (hok : k.ok) (hx : RL k x L) (hy : RL k y M) (hp : Arr k 2 (.slice ap prs.length cp) (prs.map prCells)) (hl : L.labs.length ≤ 9223372036854775807) (hm : M.labs.length ≤ 9223372036854775807) :
    (recI E).call 3 [x, y, .slice ap prs.length cp] k = some [(.bool true, k)] := by
  obtain ⟨vl, ve, elsL, rfl, x2, x3, x4⟩ := id hx.ex
  obtain ⟨wl, we, elsM, rfl, y2, y3, y4⟩ := id hy.ex
  obtain ⟨al, cl, hvl⟩ := x2.slice
  obtain ⟨bl, dl, hwl⟩ := y2.slice
  obtain ⟨ae, ce, hve⟩ := x4.slice
  obtain ⟨be, de, hwe⟩ := y4.slice
  refine F3_flat (s := true) hok rfl (P3_0_of ?_)
  simp only [Q3_0, new_row, ev_one, cells_agg, evO_some]
  refine P3_1_of ?_
  have o1 := ((Own.fresh k).new (.row [.int .i64 L.n, vl, ve] 25 0 false)).new (.row [.int .i64 M.n, wl, we] 25 0 false)
  have g3 : ((k.fresh.new (.row [.int .i64 L.n, vl, ve] 25 0 false)).new (.row [.int .i64 M.n, wl, we] 25 0 false)).get k.next = some (.row [.int .i64 L.n, vl, ve] 25 0 false) :=
    (get_new_ne (by simp)).trans (get_new_self k.fresh _)
  have g4 : ((k.fresh.new (.row [.int .i64 L.n, vl, ve] 25 0 false)).new (.row [.int .i64 M.n, wl, we] 25 0 false)).get (k.next + 1) = some (.row [.int .i64 M.n, wl, we] 25 0 false) := get_new_self (k.fresh.new _) _
  have n1 : ((k.fresh.new (.row [.int .i64 L.n, vl, ve] 25 0 false)).new (.row [.int .i64 M.n, wl, we] 25 0 false)).next = k.next + 2 := rfl
  simp only [next_fresh, AH.next_new]
  generalize ((k.fresh.new (.row [.int .i64 L.n, vl, ve] 25 0 false)).new (.row [.int .i64 M.n, wl, we] 25 0 false)) = k1 at o1 g3 g4 n1
  have la := load_agg (P := E) ta_25 (o := 0) g3 (by simp)
  have lb := load_agg (P := E) ta_25 (o := 0) g4 (by simp)
  simp only [List.drop_zero, List.take] at la lb
  simp only [Q3_1, wCall_0, call13, ev_some, uf_not, evO_some, Bool.not_true, brK_f]
  refine P3_3_of ?_
  have o2 := o1.new (.row [.int .i64 L.n, vl, ve, .int .i64 M.n, wl, we] 25 0 false)
  have t2 := get_new_self k1 (.row [.int .i64 L.n, vl, ve, .int .i64 M.n, wl, we] 25 0 false)
  have n2 : (k1.new (.row [.int .i64 L.n, vl, ve, .int .i64 M.n, wl, we] 25 0 false)).next = k1.next + 1 := rfl
  have g3' : (k1.new (.row [.int .i64 L.n, vl, ve, .int .i64 M.n, wl, we] 25 0 false)).get k.next = _ := (get_new_ne (by omega)).trans g3
  have g4' : (k1.new (.row [.int .i64 L.n, vl, ve, .int .i64 M.n, wl, we] 25 0 false)).get (k.next + 1) = _ := (get_new_ne (by omega)).trans g4
  simp only [Q3_3, la, lb, evO_some, bs82, ev_one, wCall_0]
  generalize (k1.new (.row [.int .i64 L.n, vl, ve, .int .i64 M.n, wl, we] 25 0 false)) = k2 at o2 t2 n2 g3' g4'
  obtain ⟨fb, hfew⟩ := call14 (k := k2) (v := .slice (some ⟨k1.next, 0, none⟩) 2 2) (els := [[.int .i64 L.n, vl, ve], [.int .i64 M.n, wl, we]]) (Ls := [L, M]) o2.ext.ok
    (Arr.row (els := [[.int .i64 L.n, vl, ve], [.int .i64 M.n, wl, we]]) t2 (by omega) (by simp) (fun i ee hee => by
      match i with
      | 0 => simp at hee; subst hee; exact ⟨rfl, rfl⟩
      | 1 => simp at hee; subst hee; exact ⟨rfl, rfl⟩
      | i + 2 => simp at hee)) rfl (by simp) (fun i ee LL h1 h2 => by
      match i with
      | 0 => simp at h1 h2; subst h1 h2; exact hx.ext o2.ext
      | 1 => simp at h1 h2; subst h1 h2; exact hy.ext o2.ext
      | i + 2 => simp at h1)
  simp only [hfew, ev_some, uf_not, evO_some]
  have good : ∀ b : Bool, BrK (some (.bool b)) (P3_4 true (KR E [.tmp 6] fun x l => x = .bool true ∧ k.next ≤ l.wm) k2) (P3_5 true (KR E [.tmp 6] fun x l => x = .bool true ∧ k.next ≤ l.wm) (.slice ap prs.length cp) (ptr k.next) (ptr (k.next + 1)) k2) := by
    intro b
    rw [brK_bool]
    refine ⟨fun _ => P3_4_of ?_, fun _ => P3_5_of ?_⟩
    · simp only [Q3_4, evO_some, kR_1, ne_ret, true_and]
      exact o2.wm
    · have la := load_agg (P := E) ta_25 (o := 0) g3' (by simp)
      have lb := load_agg (P := E) ta_25 (o := 0) g4' (by simp)
      simp only [List.drop_zero, List.take] at la lb
      simp only [Q3_5, la, lb, evO_some, wCall_0]
      refine (call16 o2.ext.ok).mono fun z hz => ?_
      obtain ⟨w1, h3⟩ := z
      obtain ⟨hz1, f3⟩ := hz
      simp only at hz1 f3 ⊢
      subst hz1
      have o3 := f3.own o2 (fun _ h => h.elim)
      have a3 := (f3.get k.next (by omega) (fun h => h)).trans g3'
      have b3 := (f3.get (k.next + 1) (by omega) (fun h => h)).trans g4'
      have la3 := load_agg (P := E) ta_25 (o := 0) a3 (by simp)
      have lb3 := load_agg (P := E) ta_25 (o := 0) b3 (by simp)
      simp only [List.drop_zero, List.take] at la3 lb3
      have hv1 : veq 100 (.agg #[.int .i64 L.n, vl, ve]) (.agg #[.int .i64 L.n, vl, ve]) = true := by rw [hvl, hve]; exact veq_slice3
      have hv2 : veq 100 (.agg #[.int .i64 M.n, wl, we]) (.agg #[.int .i64 M.n, wl, we]) = true := by rw [hwl, hwe]; exact veq_slice3
      have hRB : ∀ (kind : Int) (h : AH), Ext k h → RB h [.int .i64 kind, .slice ap prs.length cp] ⟨kind, prs⟩ := fun kind h e => ⟨_, rfl, hp.ext e⟩
      have c1 := call15 (k := h3) (L := L) (M := M) (B := ⟨1, prs⟩) (e := [.int .i64 1, .slice ap prs.length cp]) o3.ext.ok (hx.ext o3.ext) (hy.ext o3.ext) (hRB 1 h3 o3.ext)
      simp only [la3, lb3, evO_some, hv1, hv2, true_and, c1, ev_some]
      refine (call16 o3.ext.ok).mono fun z hz => ?_
      obtain ⟨w1, h4⟩ := z
      obtain ⟨hz1, f4⟩ := hz
      simp only at hz1 f4 ⊢
      subst hz1
      have hn3 := f3.next
      have o4 := f4.own o3 (fun _ h => h.elim)
      have a4 := (f4.get k.next (by omega) (fun h => h)).trans a3
      have b4 := (f4.get (k.next + 1) (by omega) (fun h => h)).trans b3
      have la4 := load_agg (P := E) ta_25 (o := 0) a4 (by simp)
      have lb4 := load_agg (P := E) ta_25 (o := 0) b4 (by simp)
      simp only [List.drop_zero, List.take] at la4 lb4
      have c2 := call15 (k := h4) (L := L) (M := M) (B := ⟨2, prs⟩) (e := [.int .i64 2, .slice ap prs.length cp]) o4.ext.ok (hx.ext o4.ext) (hy.ext o4.ext) (hRB 2 h4 o4.ext)
      simp only [la4, lb4, evO_some, hv1, hv2, true_and, c2, ev_some]
      refine P3_6_of ?_
      simp only [Q3_6, evO_some]
      refine P3_7_of ?_
      have l1 := load_leaf (P := E) ta_22 (o := 1) a4
      have l2 := load_leaf (P := E) ta_22 (o := 1) b4
      simp only [lnth] at l1 l2
      have i1 := call18_inner (h0 := k) (k := h4) (L := L) x2 x3 (by rw [RLab.length x3]; exact hl) o4.ext
      have i2 := call18_inner (h0 := k) (k := h4) (L := M) y2 y3 (by rw [RLab.length y3]; exact hm) o4.ext
      have same : visL L → visL M → P3_8 true (KR E [.tmp 6] fun x l => x = .bool true ∧ k.next ≤ l.wm) (.int .i64 (checkV L M ⟨1, prs⟩)) (.int .i64 (checkV L M ⟨2, prs⟩)) h4 := by
        intro v1 v2
        refine P3_8_of ?_
        simp only [Q3_8, evO_some, bf_eql, finer2 v1 v2, decide_true, kR_1, ne_ret, true_and]
        exact o4.wm
      have finer : P3_9 true (KR E [.tmp 6] fun x l => x = .bool true ∧ k.next ≤ l.wm) (.int .i64 (checkV L M ⟨1, prs⟩)) (.int .i64 (checkV L M ⟨2, prs⟩)) h4 := by
        refine P3_9_of ?_
        simp only [Q3_9, evO_some, bf_neq, bf_eql]
        by_cases e : checkV L M ⟨1, prs⟩ = 0
        · simp only [e, finer1 e, decide_true, Bool.not_true, gdB_bool, beq_self_eq_true, cond_true, evO_some, bf_eql, pick_bool, cond_false, kR_1, ne_ret, true_and]
          exact o4.wm
        · simp only [e, decide_false, Bool.not_false, gdB_bool, show (true == false) = false from rfl, cond_false, evO_some, pick_bool, cond_true, kR_1, ne_ret, true_and]
          exact o4.wm
      simp only [Q3_7, fa_25_1, Nat.zero_add, l1, evO_some, wCall_0, i1, ev_some, uf_not]
      cases e1 : innerB L with
      | true =>
        simp only [Bool.not_true, gdB_bool, gdW_bool, show (false == true) = false from rfl, cond_false, evO_some, ev_one, pick_bool, brK_f]
        exact finer
      | false =>
        simp only [Bool.not_false, gdB_bool, gdW_bool, beq_self_eq_true, cond_true, fa_25_1, Nat.zero_add, l2, evO_some, wCall_0, i2, ev_some, uf_not, pick_bool]
        cases e2 : innerB M with
        | true =>
          simp only [Bool.not_true, brK_f]
          exact finer
        | false =>
          simp only [Bool.not_false, brK_t]
          exact same (innerB_vis e1) (innerB_vis e2)
  cases fb with
  | false =>
    simp only [Bool.not_false, gdB_bool, show (true == false) = false from rfl, cond_false, evO_some, pick_bool, cond_true]
    exact good _
  | true =>
    simp only [Bool.not_true, gdB_bool, beq_self_eq_true, cond_true, evO_some, len3_3_7, bf_gtr, pick_bool, cond_false]
    exact good _
end Go.Proofs
end
section
set_option linter.all false
set_option autoImplicit true
set_option relaxedAutoImplicit true
namespace Go.Proofs.YthmnhjcmefjgjaaGreatDoor
open Go Go.AM Go.ChangeShapes Go.WideShapes Go.ChangeAt Go.RowKit
set_option linter.all false
set_option maxRecDepth 100000
theorem ownKnobT : ownKnob Tryz.prog.godebug = none := by kernel_rfl
theorem laidOutT : laidOutB Tryz.prog = true := by kernel_rfl
theorem fin3 {lo : Nat} {σ : Sg} {h : AH} {w : World} {x y : Value} {L M : GL} {prs : List (Int × Int)} {ap : Option Addr} {cp : Nat} {args' : List Value} (H : HR lo σ h w) (hok : h.ok) (hx : RL h x L) (hy : RL h y M) (hp : Arr h 2 (.slice ap prs.length cp) (prs.map prCells)) (hl : L.labs.length ≤ 9223372036854775807) (hm : M.labs.length ≤ 9223372036854775807)
    (ha : VRs σ [x, y, .slice ap prs.length cp] args') : Calls Tryz.prog 3 args'.toArray w (Ret (Goes lo σ w [(.bool true, h)])) :=
  calls_of_evalI envE extE (by kernel_rfl) H ha (call3 hok hx hy hp hl hm)
theorem agg_of {w : World} {base : Nat} {t : TypeId} {v : Value} {l : List (TypeId × Nat)} (hf : fieldsOf Tryz.prog t = some l) (h : Value.okWide Tryz.prog w .any base t v) : ∃ cs, v = .agg cs := by
  unfold fieldsOf at hf
  unfold Value.okWide at h
  split at hf
  · rename_i fs hu
    rw [hu] at h
    obtain ⟨cs, e, _⟩ := h
    exact ⟨cs, e⟩
  · cases hf
theorem finer_calls {H : Type} {enc : TypeId × Value → H} {W : World} {base : Nat} {v0 v1 v2 : Value} {d0 d1 d2 : DataW H} {p0 p1 p2 : List MemPlace}
    (k0 : Value.okWide Tryz.prog W .any base 25 v0) (k1 : Value.okWide Tryz.prog W .any base 25 v1) (k2 : Value.okWide Tryz.prog W .any base 26 v2)
    (h0 : DataW.Trod enc Tryz.prog W 0 (fun _ => true) true 25 v0 d0 p0) (h1 : DataW.Trod enc Tryz.prog W 0 (fun _ => true) true 25 v1 d1 p1) (h2 : DataW.Trod enc Tryz.prog W 0 (fun _ => true) true 26 v2 d2 p2) :
    Calls Tryz.prog 3 #[v0, v1, v2] W fun e W' => e = .returned (.bool true) ∧ Below W.heap.size W W' := by
  obtain ⟨c0, rfl⟩ := agg_of ar_f25 k0
  obtain ⟨c1, rfl⟩ := agg_of ar_f25 k1
  obtain ⟨a2, n2, q2, rfl⟩ := okWide_slice ar_u26 k2
  obtain ⟨u0, t0⟩ := h0
  obtain ⟨u1, t1⟩ := h1
  obtain ⟨u2, t2⟩ := h2
  have ok0 : AH.ok ⟨.e, 0, UNK⟩ := by unfold AH.ok; simp
  obtain ⟨s1, g1, x, L, m1, x1, x2, x3⟩ := build_RL ok0 (HR.empty W) t0
  obtain ⟨s2, g2, y, M, m2, y1, y2, y3⟩ := build_RL m1.ok m1.hr t1
  obtain ⟨s3, g3, v, v', prs, e3, m3, z1, z2, z3⟩ := build_prs m2.ok m2.hr t2
  have e4 : v' = .slice a2 n2 q2 := by
    have : ([Value.slice a2 n2 q2] : List Value) = [v'] := e3
    cases this; rfl
  subst e4
  obtain ⟨ad, c, rfl⟩ := Arr.slice z2
  rw [List.length_map] at z1 z2
  have hargs : VRs s3 [.agg ⟨x⟩, .agg ⟨y⟩, .slice ad prs.length c] [.agg c0, .agg c1, .slice a2 n2 q2] :=
    .cons (.agg (x1.mono (Sg.le_trans m2.le m3.le))) (.cons (.agg (y1.mono m3.le)) (.cons z1 .nil))
  refine (fin3 m3.hr m3.ok (x2.ext (m2.ext.trans m3.ext)) (y2.ext m3.ext) z2 x3 y3 hargs).mono fun e W' he => ?_
  cases e with
  | returned r =>
    obtain ⟨o, ho, τ, _, _, hv, hb⟩ := he
    simp only [List.mem_singleton] at ho
    subst ho
    cases hv
    exact ⟨rfl, hb⟩
  | _ => exact he.elim
end Go.Proofs.YthmnhjcmefjgjaaGreatDoor
end
