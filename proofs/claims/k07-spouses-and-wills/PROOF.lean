import PyProof.Rows.All
import Wide.All
import OpenK.AllK
import Wide.FinOn
import HandS.ForMost
import HandS.ForExc
import HandS.Wide
import HandS.IsInst
import HandS.Deep
import HandS.Flow
import HandS.Conv
import HandS.TupAny
import HandS.CallSlots
import KE.DataMinMax
import KE.SortData
import HandS.SortKw
import PySem.Challenge.RW_estateroll_k07_spouses_and_wills
set_option Elab.async false
set_option linter.all false
set_option maxRecDepth 100000
set_option maxHeartbeats 4000000
/-! DL0: data in the tracked heap, environments of data, and how both lie in the hand layer's states. -/
namespace DL
open PySem PySem.Spec PyProof.Rows L2

abbrev D := PyData

/-- a key as data -/
def kD : Key → D
  | .inl i => .int i
  | .inr x => .str x

/-- the law's own script as data: a list that may stand in the written part (no dict has the key None here) -/
def scrD (ds : List D) : D := .dict [(.none, .list ds)]

mutual
/-- v shows the data d in the tracked heap F -/
inductive Rp (K : PySem.W.Frag) (F : Hp) : V → D → Prop
  | non : Rp K F .non .none
  | bl (b : Bool) : Rp K F (.bl b) (.bool b)
  | int (i : Int) : Rp K F (.int i) (.int i)
  | str (x : Str) : Rp K F (.str x) (.str x)
  | lst {a : Addr} {vs : List V} {ds : List D} : F a = some (.lst vs) → RpA K F vs ds → Rp K F (.ref a) (.list ds)
  | tup {a : Addr} {vs : List V} {ds : List D} : SqT K F a vs → RpA K F vs ds → Rp K F (.ref a) (.tuple ds)
  | scr {a : Addr} {ns : List Int} : SqL K F a (ns.map V.int) → Rp K F (.ref a) (scrD (ns.map PyData.int))
  | dK {a : Addr} {ks : List (Key × V)} {kvs : List (D × D)} : F a = some (.dK ks) → RpK K F ks kvs → Rp K F (.ref a) (.dict kvs)
inductive RpA (K : PySem.W.Frag) (F : Hp) : List V → List D → Prop
  | nil : RpA K F [] []
  | cons {v : V} {vs : List V} {d : D} {ds : List D} : Rp K F v d → RpA K F vs ds → RpA K F (v :: vs) (d :: ds)
inductive RpK (K : PySem.W.Frag) (F : Hp) : List (Key × V) → List (D × D) → Prop
  | nil : RpK K F [] []
  | cons {k : Key} {v : V} {ks : List (Key × V)} {d : D} {kvs : List (D × D)} : Rp K F v d → RpK K F ks kvs → RpK K F ((k, v) :: ks) ((kD k, d) :: kvs)
end

theorem Same.rd {H H' : Hp} {a : Addr} {u : HO} (e : Same H H') (h : Rd H a u) : Rd H' a u := by
  rcases h with h | ⟨o, h⟩
  · exact .inl (e _ _ h)
  · exact .inr ⟨o, e _ _ h⟩
theorem Same.sqT {K : PySem.W.Frag} {H H' : Hp} {a : Addr} {xs : List V} (e : Same H H') (h : SqT K H a xs) : SqT K H' a xs := by
  rcases h with (h | ⟨o, h⟩) | h
  · exact .inl (.inl (e _ _ h))
  · exact .inl (.inr ⟨o, e _ _ h⟩)
  · exact .inr h

section
variable {K : PySem.W.Frag} {F F' : Hp}
mutual
theorem Rp.mono (e : Same F F') : ∀ (d : D) (v : V), Rp K F v d → Rp K F' v d
  | .none, _, h => by cases h; exact .non
  | .bool b, _, h => by cases h; exact .bl b
  | .int i, _, h => by cases h; exact .int i
  | .str x, _, h => by cases h; exact .str x
  | .list ds, _, h => by
    cases h with
    | lst hs ha => exact .lst (e _ _ hs) (RpA.mono e ds _ ha)
  | .tuple ds, _, h => by
    cases h with
    | tup hs ha => exact .tup (Same.sqT e hs) (RpA.mono e ds _ ha)
  | .dict kvs, _, h => by
    cases h with
    | dK hs ha => exact .dK (e _ _ hs) (RpK.mono e kvs _ ha)
    | scr hs => exact .scr (e.seq hs)
theorem RpA.mono (e : Same F F') : ∀ (ds : List D) (vs : List V), RpA K F vs ds → RpA K F' vs ds
  | [], _, h => by cases h; exact .nil
  | d :: ds, _, h => by
    cases h with
    | cons h1 h2 => exact .cons (Rp.mono e d _ h1) (RpA.mono e ds _ h2)
theorem RpK.mono (e : Same F F') : ∀ (kvs : List (D × D)) (ks : List (Key × V)), RpK K F ks kvs → RpK K F' ks kvs
  | [], _, h => by cases h; exact .nil
  | (_, d) :: kvs, _, h => by
    cases h with
    | cons h1 h2 => exact .cons (Rp.mono e d _ h1) (RpK.mono e kvs _ h2)
end

/-! data that no list and no dict stands in -/
mutual
def imm : D → Bool
  | .none => true
  | .bool _ => true
  | .int _ => true
  | .str _ => true
  | .list _ => false
  | .tuple ds => immA ds
  | .dict _ => false
def immA : List D → Bool
  | [] => true
  | d :: ds => imm d && immA ds
end

/-- such data leans on tuples alone -/
def TupSame (F F' : Hp) : Prop := ∀ a vs, Rd F a (.tup vs) → Rd F' a (.tup vs)
mutual
theorem Rp.imm (e : TupSame F F') : ∀ (d : D) (v : V), imm d = true → Rp K F v d → Rp K F' v d
  | .none, _, _, h => by cases h; exact .non
  | .bool b, _, _, h => by cases h; exact .bl b
  | .int i, _, _, h => by cases h; exact .int i
  | .str x, _, _, h => by cases h; exact .str x
  | .list ds, _, i, _ => by simp [DL.imm] at i
  | .tuple ds, _, i, h => by
    cases h with
    | tup hs ha =>
      refine .tup ?_ (RpA.imm e ds _ (by simpa [DL.imm] using i) ha)
      rcases hs with hs | hs
      · exact .inl (e _ _ hs)
      · exact .inr hs
  | .dict _, _, i, _ => by simp [DL.imm] at i
theorem RpA.imm (e : TupSame F F') : ∀ (ds : List D) (vs : List V), immA ds = true → RpA K F vs ds → RpA K F' vs ds
  | [], _, _, h => by cases h; exact .nil
  | d :: ds, _, i, h => by
    have i' : DL.imm d = true ∧ immA ds = true := by simpa [immA] using i
    cases h with
    | cons h1 h2 => exact .cons (Rp.imm e d _ i'.1 h1) (RpA.imm e ds _ i'.2 h2)
end

theorem RpA.length : ∀ {vs : List V} {ds : List D}, RpA K F vs ds → vs.length = ds.length
  | _, _, .nil => rfl
  | _, _, .cons _ h => by simp [RpA.length h]
theorem RpA.get : ∀ {vs : List V} {ds : List D} {i : Nat} {d : D}, RpA K F vs ds → ds[i]? = some d → ∃ v, vs[i]? = some v ∧ Rp K F v d
  | _, _, _, _, .nil, e => by simp at e
  | _, _, 0, _, .cons r _, e => by simp at e; subst e; exact ⟨_, rfl, r⟩
  | _, _, i + 1, d, .cons _ t, e => by
    obtain ⟨u, h1, h2⟩ := RpA.get (i := i) (d := d) t (by simpa using e)
    exact ⟨u, by simpa using h1, h2⟩
theorem RpA.at : ∀ {vs : List V} {ds : List D} {i : Nat} {v : V}, RpA K F vs ds → vs[i]? = some v → ∃ d, ds[i]? = some d ∧ Rp K F v d
  | _, _, _, _, .nil, e => by simp at e
  | _, _, 0, _, .cons r _, e => by simp at e; subst e; exact ⟨_, rfl, r⟩
  | _, _, i + 1, d, .cons _ t, e => by
    obtain ⟨u, h1, h2⟩ := RpA.at (i := i) (v := d) t (by simpa using e)
    exact ⟨u, by simpa using h1, h2⟩
theorem RpA.append : ∀ {vs ws : List V} {ds es : List D}, RpA K F vs ds → RpA K F ws es → RpA K F (vs ++ ws) (ds ++ es)
  | _, _, _, _, .nil, s => s
  | _, _, _, _, .cons r t, s => .cons r (RpA.append t s)
theorem RpA.one {v : V} {d : D} (h : Rp K F v d) : RpA K F [v] [d] := .cons h .nil
theorem RpA.take : ∀ {vs : List V} {ds : List D} (n : Nat), RpA K F vs ds → RpA K F (vs.take n) (ds.take n)
  | _, _, 0, _ => .nil
  | _, _, _ + 1, .nil => .nil
  | _, _, n + 1, .cons r t => .cons r (RpA.take n t)
theorem RpA.drop : ∀ {vs : List V} {ds : List D} (n : Nat), RpA K F vs ds → RpA K F (vs.drop n) (ds.drop n)
  | _, _, 0, r => r
  | _, _, _ + 1, .nil => .nil
  | _, _, n + 1, .cons _ t => RpA.drop n t
theorem RpA.set {v : V} {d : D} (r : Rp K F v d) : ∀ {vs : List V} {ds : List D} (i : Nat), RpA K F vs ds → RpA K F (vs.set i v) (ds.set i d)
  | _, _, _, .nil => .nil
  | _, _, 0, .cons _ t => .cons r t
  | _, _, i + 1, .cons q t => .cons q (RpA.set r i t)
theorem RpA.reverse {vs : List V} {ds : List D} (h : RpA K F vs ds) : RpA K F vs.reverse ds.reverse := by
  induction vs generalizing ds with
  | nil => cases h; exact .nil
  | cons v vs ih =>
    cases h with
    | cons h1 h2 =>
      rw [List.reverse_cons, List.reverse_cons]
      exact (ih h2).append (.one h1)
theorem RpA.rep {vs : List V} {ds : List D} (h : RpA K F vs ds) : ∀ k : Nat, RpA K F (List.replicate k vs).flatten (List.replicate k ds).flatten
  | 0 => .nil
  | k + 1 => by
    rw [List.replicate_succ, List.replicate_succ, List.flatten_cons, List.flatten_cons]
    exact h.append (RpA.rep h k)
theorem RpA.ints : ∀ ns : List Int, RpA K F (ns.map V.int) (ns.map PyData.int)
  | [] => .nil
  | n :: ns => .cons (.int n) (RpA.ints ns)

/-! ### into the layer's own data -/
mutual
theorem Rp.dp : ∀ (d : D) (v : V), d.canLay0 = true → Rp K F v d → Dp K F v d
  | .none, _, _, h => by cases h; exact .non
  | .bool b, _, _, h => by cases h; exact .bl b
  | .int i, _, _, h => by cases h; exact .int i
  | .str x, _, _, h => by cases h; exact .str x
  | .list ds, _, i, h => by
    cases h with
    | lst hs ha => exact .lst (SqL.of hs) (RpA.dp ds _ (by simpa [PyData.canLay0] using i) ha)
  | .tuple ds, _, i, h => by
    cases h with
    | tup hs ha => exact .tup hs (RpA.dp ds _ (by simpa [PyData.canLay0] using i) ha)
  | .dict _, _, i, _ => by simp [PyData.canLay0] at i
theorem RpA.dp : ∀ (ds : List D) (vs : List V), PyData.canLayAll0 ds = true → RpA K F vs ds → DpAll K F vs ds
  | [], _, _, h => by cases h; exact .nil
  | d :: ds, _, i, h => by
    have i' : d.canLay0 = true ∧ PyData.canLayAll0 ds = true := by simpa [PyData.canLayAll0] using i
    cases h with
    | cons h1 h2 => exact .cons (Rp.dp d _ i'.1 h1) (RpA.dp ds _ i'.2 h2)
end
end

/-! ### from one state of the tracked heap to a later one -/
/-- F: what is known for good; H: all that is tracked. New things of F are new in H; what was tracked stays -/
structure Ext (F H F' H' : Hp) : Prop where
  ff : Same F F'
  nw : ∀ a o, F' a = some o → F a = some o ∨ H a = none
  le : Same F' H'
  hh : Same H H'
theorem Ext.refl {F H : Hp} (h : Same F H) : Ext F H F H := ⟨Same.refl _, fun _ _ e => .inl e, h, Same.refl _⟩
theorem Ext.trans {F H F1 H1 F2 H2 : Hp} (a : Ext F H F1 H1) (b : Ext F1 H1 F2 H2) : Ext F H F2 H2 :=
  ⟨a.ff.trans b.ff, fun c o e => by
    rcases b.nw c o e with z | z
    · exact a.nw c o z
    · exact .inr (a.hh.free z), b.le, a.hh.trans b.hh⟩
theorem same_new {H : Hp} {p : Addr} (h : H p = none) (o : HO) : Same H (upd H p o) := fun b u q => by rw [upd_ne (ne_of_none q h)]; exact q
theorem Same.none {F H : Hp} (h : Same F H) {p : Addr} (e : H p = Option.none) : F p = Option.none := h.free e
/-- a new thing, known for good -/
theorem Ext.newF {F H F' H' : Hp} (x : Ext F H F' H') {p : Addr} (h : H' p = none) (o : HO) : Ext F H (upd F' p o) (upd H' p o) := by
  refine x.trans ⟨same_new (x.le.free h) o, fun a u e => ?_, fun a u e => ?_, same_new h o⟩
  · by_cases ha : a = p
    · exact .inr (by rw [ha]; exact h)
    · rw [upd_ne ha] at e; exact .inl e
  · by_cases ha : a = p
    · rw [ha] at e ⊢; rw [upd_same] at e ⊢; exact e
    · rw [upd_ne ha] at e ⊢; exact x.le _ _ e
/-- a new thing, of one's own -/
theorem Ext.newH {F H F' H' : Hp} (x : Ext F H F' H') {p : Addr} (h : H' p = none) (o : HO) : Ext F H F' (upd H' p o) :=
  ⟨x.ff, x.nw, x.le.trans (same_new h o), x.hh.trans (same_new h o)⟩
/-- a new thing of one's own is changed -/
theorem Ext.chg {F H F' H' : Hp} (x : Ext F H F' H') {p : Addr} (h : H p = none) (hF : F' p = none) (o : HO) : Ext F H F' (upd H' p o) :=
  ⟨x.ff, x.nw, fun b u e => by rw [upd_ne (ne_of_none e hF)]; exact x.le _ _ e, fun b u e => by rw [upd_ne (ne_of_none e h)]; exact x.hh _ _ e⟩
/-- a new thing of one's own is known for good from now on -/
theorem Ext.frz {F H F' H' : Hp} (x : Ext F H F' H') {p : Addr} {o : HO} (h : H p = none) (hF : F' p = none) (e : H' p = some o) : Ext F H (upd F' p o) H' :=
  ⟨x.ff.trans (same_new hF o), fun a u q => by
    by_cases ha : a = p
    · exact .inr (by rw [ha]; exact h)
    · rw [upd_ne ha] at q; exact x.nw _ _ q, fun a u q => by
    by_cases ha : a = p
    · rw [ha] at q ⊢; rw [upd_same] at q; rw [← q]; exact e
    · rw [upd_ne ha] at q; exact x.le _ _ q, x.hh⟩

/-! ### environments -/
/-- what a slot holds: nothing that is known; data; a list, a dict of the def's own, of which nobody else knows -/
inductive Sl where
  | no | val (d : D) | own (ds : List D) | ownK (kvs : List (D × D)) | pin
abbrev Env := List Sl
/-- the entry: what was known for good, what was tracked, what of it may be changed -/
structure Ent where
  F0 : Hp
  H0 : Hp
  own : Addr → Prop
  pins : Nat → V
def SlOk (K : PySem.W.Frag) (P : Nat → V) (F : Hp) (G : Addr → Option Nat) (H : Hp) (i : Nat) (x : Option V) : Sl → Prop
  | .no => True
  | .pin => x = some (P i)
  | .val d => ∃ v, x = some v ∧ Rp K F v d
  | .own ds => ∃ a vs, x = some (.ref a) ∧ G a = some i ∧ H a = some (.lst vs) ∧ RpA K F vs ds
  | .ownK kvs => ∃ a ks, x = some (.ref a) ∧ G a = some i ∧ H a = some (.dK ks) ∧ RpK K F ks kvs
structure SatG (K : PySem.W.Frag) (C : Ent) (F : Hp) (δ : Env) (σ : L2.St) (H : Hp) (G : Addr → Option Nat) : Prop where
  le : Same F H
  f0 : Same C.F0 F
  nw : ∀ a o, F a = some o → C.F0 a = some o ∨ C.H0 a = none ∨ C.own a
  keep : ∀ a o, C.H0 a = some o → C.own a ∨ H a = some o
  alive : ∀ a, C.own a → H a ≠ none
  dis : ∀ a i, G a = some i → F a = none
  live : ∀ a i, G a = some i → H a ≠ none
  mine : ∀ a i, G a = some i → C.H0 a = none ∨ C.own a
  len : σ.length = δ.length
  sl : ∀ i s, δ[i]? = some s → SlOk K C.pins F G H i (σ[i]?).join s
def Sat (K : PySem.W.Frag) (C : Ent) (F : Hp) (δ : Env) (σ : L2.St) (H : Hp) : Prop := ∃ G, SatG K C F δ σ H G

section
variable {K : PySem.W.Frag} {C : Ent} {F F' H H' : Hp} {δ : Env} {σ : L2.St}
theorem Sat.le (s : Sat K C F δ σ H) : Same F H := let ⟨_, g⟩ := s; g.le
theorem Sat.len (s : Sat K C F δ σ H) : σ.length = δ.length := let ⟨_, g⟩ := s; g.len
theorem SatG.h0 {G : Addr → Option Nat} (g : SatG K C F δ σ H G) {a : Addr} (h : H a = none) : C.H0 a = none ∧ ¬ C.own a := by
  have no : ¬ C.own a := fun z => g.alive a z h
  refine ⟨?_, no⟩
  cases q : C.H0 a with
  | none => rfl
  | some o =>
    rcases g.keep a o q with z | z
    · exact absurd z no
    · rw [h] at z; cases z
/-- what an expression makes of the heap leaves all slots as they are -/
theorem Sat.ext (s : Sat K C F δ σ H) (x : Ext F H F' H') : Sat K C F' δ σ H' := by
  obtain ⟨G, g⟩ := s
  refine ⟨G, x.le, g.f0.trans x.ff, fun a o e => ?_, fun a o e => ?_, fun a z e => ?_, fun a i e => ?_, fun a i e z => ?_, g.mine, g.len, fun i s e => ?_⟩
  · rcases x.nw a o e with z | z
    · exact g.nw a o z
    · exact .inr (.inl (g.h0 z).1)
  · rcases g.keep a o e with z | z
    · exact .inl z
    · exact .inr (x.hh _ _ z)
  · exact g.alive a z (x.hh.free e)
  · cases q : F' a with
    | none => rfl
    | some o =>
      rcases x.nw a o q with z | z
      · rw [g.dis a i e] at z; cases z
      · exact absurd z (g.live a i e)
  · exact g.live a i e (x.hh.free z)
  · have q := g.sl i s e
    cases s with
    | no => trivial
    | pin => exact q
    | val d =>
      obtain ⟨v, h1, h2⟩ := q
      exact ⟨v, h1, Rp.mono x.ff _ _ h2⟩
    | own ds =>
      obtain ⟨a, vs, h1, h2, h3, h4⟩ := q
      exact ⟨a, vs, h1, h2, x.hh _ _ h3, RpA.mono x.ff _ _ h4⟩
    | ownK kvs =>
      obtain ⟨a, vs, h1, h2, h3, h4⟩ := q
      exact ⟨a, vs, h1, h2, x.hh _ _ h3, RpK.mono x.ff _ _ h4⟩

/-- slots forgotten -/
def fgE (is : List Nat) (δ : Env) : Env := is.foldl (fun δ i => δ.set i .no) δ
theorem Sat.set_no (s : Sat K C F δ σ H) (i : Nat) : Sat K C F (δ.set i .no) σ H := by
  obtain ⟨G, g⟩ := s
  refine ⟨G, g.le, g.f0, g.nw, g.keep, g.alive, g.dis, g.live, g.mine, by rw [List.length_set]; exact g.len, fun j s e => ?_⟩
  by_cases hj : i = j
  · subst hj
    by_cases hl : i < δ.length
    · rw [List.getElem?_set_self hl] at e; cases e; trivial
    · rw [List.getElem?_eq_none (by rw [List.length_set]; omega)] at e; cases e
  · rw [List.getElem?_set_ne hj] at e; exact g.sl j s e
theorem Sat.fg (is : List Nat) : ∀ {δ : Env}, Sat K C F δ σ H → Sat K C F (fgE is δ) σ H := by
  induction is with
  | nil => intro δ s; exact s
  | cons i is ih => intro δ s; exact ih (s.set_no i)
/-- a slot takes data -/
theorem Sat.set_val (s : Sat K C F δ σ H) {i : Nat} {v : V} {d : D} (r : Rp K F v d) : Sat K C F (δ.set i (.val d)) (σ.set i (some v)) H := by
  obtain ⟨G, g⟩ := s
  refine ⟨G, g.le, g.f0, g.nw, g.keep, g.alive, g.dis, g.live, g.mine, by rw [List.length_set, List.length_set]; exact g.len, fun j s e => ?_⟩
  by_cases hj : i = j
  · subst hj
    by_cases hl : i < δ.length
    · rw [List.getElem?_set_self hl] at e
      cases e
      rw [List.getElem?_set_self (by rw [g.len]; exact hl)]
      exact ⟨v, rfl, r⟩
    · rw [List.getElem?_eq_none (by rw [List.length_set]; omega)] at e; cases e
  · rw [List.getElem?_set_ne hj] at e ⊢; exact g.sl j s e
/-- a slot takes a new list (o: any new thing) of the def's own -/
theorem Sat.set_new (s : Sat K C F δ σ H) {i : Nat} {a : Addr} {o : HO} {q : Sl} (hH : H a = none) {F' : Hp} {H' : Hp} (x : Ext F H F' H') (hF : F' a = none) (e' : H' a = some o)
    (ok : ∀ G : Addr → Option Nat, G a = some i → SlOk K C.pins F' G H' i (some (.ref a)) q) : Sat K C F' (δ.set i q) (σ.set i (some (.ref a))) H' := by
  have s' := s.ext x
  obtain ⟨G, g⟩ := s
  have g0 := g.h0 hH
  have gn : G a = none := by
    cases z : G a with
    | none => rfl
    | some j => exact absurd hH (g.live a j z)
  obtain ⟨G', g'⟩ := s'
  -- the owners as they were ahead, and a
  have e0 : ∀ b j, (if b = a then some i else G b) = some j → (b = a ∧ j = i) ∨ (b ≠ a ∧ G b = some j) := fun b j z => by
    by_cases hb : b = a
    · rw [if_pos hb] at z; cases z; exact .inl ⟨hb, rfl⟩
    · rw [if_neg hb] at z; exact .inr ⟨hb, z⟩
  have disG : ∀ b j, G b = some j → F' b = none := fun b j z => by
    cases q : F' b with
    | none => rfl
    | some u =>
      rcases x.nw b u q with y | y
      · rw [g.dis b j z] at y; cases y
      · exact absurd y (g.live b j z)
  refine ⟨fun b => if b = a then some i else G b, x.le, g'.f0, g'.nw, g'.keep, g'.alive, fun b j z => ?_, fun b j z => ?_, fun b j z => ?_, by rw [List.length_set, List.length_set]; exact g.len, fun j s e => ?_⟩
  · rcases e0 b j z with ⟨rfl, _⟩ | ⟨_, z⟩
    · exact hF
    · exact disG b j z
  · rcases e0 b j z with ⟨rfl, _⟩ | ⟨_, z⟩
    · rw [e']; exact fun y => nomatch y
    · exact fun y => g.live b j z (x.hh.free y)
  · rcases e0 b j z with ⟨rfl, _⟩ | ⟨_, z⟩
    · exact .inl g0.1
    · exact g.mine b j z
  · by_cases hj : i = j
    · subst hj
      by_cases hl : i < δ.length
      · rw [List.getElem?_set_self hl] at e
        cases e
        rw [List.getElem?_set_self (by rw [g.len]; exact hl)]
        exact ok _ (if_pos rfl)
      · rw [List.getElem?_eq_none (by rw [List.length_set]; omega)] at e; cases e
    · rw [List.getElem?_set_ne hj] at e ⊢
      have q := g.sl j s e
      have ne : ∀ {b : Addr}, G b = some j → (if b = a then some i else G b) = some j := fun {b} z => by
        by_cases hb : b = a
        · rw [hb, gn] at z; cases z
        · rw [if_neg hb]; exact z
      cases s with
      | no => trivial
      | pin => exact q
      | val d =>
        obtain ⟨v, h1, h2⟩ := q
        exact ⟨v, h1, Rp.mono x.ff _ _ h2⟩
      | own ds =>
        obtain ⟨b, vs, h1, h2, h3, h4⟩ := q
        exact ⟨b, vs, h1, ne h2, x.hh _ _ h3, RpA.mono x.ff _ _ h4⟩
      | ownK kvs =>
        obtain ⟨b, vs, h1, h2, h3, h4⟩ := q
        exact ⟨b, vs, h1, ne h2, x.hh _ _ h3, RpK.mono x.ff _ _ h4⟩
/-- the thing that slot i owns is changed -/
theorem Sat.put (s : Sat K C F δ σ H) {i : Nat} {a : Addr} {o : HO} {q : Sl} {q0 : Sl} (hi : δ[i]? = some q0) (hx : (σ[i]?).join = some (.ref a))
    (hG : ∀ G, SatG K C F δ σ H G → G a = some i) (ok : ∀ G : Addr → Option Nat, G a = some i → SlOk K C.pins F G (upd H a o) i (some (.ref a)) q) : Sat K C F (δ.set i q) σ (upd H a o) := by
  obtain ⟨G, g⟩ := s
  have ga := hG G g
  have fa := g.dis a i ga
  refine ⟨G, fun b u e => ?_, g.f0, g.nw, fun b u e => ?_, fun b z e => ?_, g.dis, fun b j z e => ?_, g.mine, by rw [List.length_set]; exact g.len, fun j s e => ?_⟩
  · rw [upd_ne (ne_of_none e fa)]; exact g.le _ _ e
  · by_cases hb : b = a
    · rcases g.mine a i ga with z | z
      · rw [hb, z] at e; cases e
      · exact .inl (hb ▸ z)
    · rw [upd_ne hb]; exact g.keep b u e
  · by_cases hb : b = a
    · rw [hb, upd_same] at e; cases e
    · rw [upd_ne hb] at e; exact g.alive b z e
  · by_cases hb : b = a
    · rw [hb, upd_same] at e; cases e
    · rw [upd_ne hb] at e; exact g.live b j z e
  · by_cases hj : i = j
    · subst hj
      have hl : i < δ.length := (List.getElem?_eq_some_iff.mp hi).1
      rw [List.getElem?_set_self hl] at e
      cases e
      rw [hx]
      exact ok G ga
    · rw [List.getElem?_set_ne hj] at e
      have q := g.sl j s e
      have ne : ∀ {b : Addr}, G b = some j → b ≠ a := fun {b} z h => by
        rw [h, ga] at z; cases z; exact hj rfl
      cases s with
      | no => trivial
      | pin => exact q
      | val d => exact q
      | own ds =>
        obtain ⟨b, vs, h1, h2, h3, h4⟩ := q
        exact ⟨b, vs, h1, h2, by rw [upd_ne (ne h2)]; exact h3, h4⟩
      | ownK kvs =>
        obtain ⟨b, vs, h1, h2, h3, h4⟩ := q
        exact ⟨b, vs, h1, h2, by rw [upd_ne (ne h2)]; exact h3, h4⟩
theorem Sat.get (s : Sat K C F δ σ H) {i : Nat} {q : Sl} (hi : δ[i]? = some q) : ∃ G, SatG K C F δ σ H G ∧ SlOk K C.pins F G H i (σ[i]?).join q := let ⟨G, g⟩ := s; ⟨G, g, g.sl i q hi⟩

/-- what slot i owns is data from now on -/
def frzS : Sl → Sl
  | .own ds => .val (.list ds)
  | .ownK kvs => .val (.dict kvs)
  | s => s
def frzE (i : Nat) (δ : Env) : Env := match δ[i]? with
  | some s => δ.set i (frzS s)
  | none => δ
theorem SatG.frz {G : Addr → Option Nat} (g : SatG K C F δ σ H G) {i : Nat} {a : Addr} {o : HO} {d : D} {q : Sl} (hi : δ[i]? = some q) (hx : (σ[i]?).join = some (.ref a)) (ga : G a = some i) (ha : H a = some o) (r : Rp K (upd F a o) (.ref a) d) :
    SatG K C (upd F a o) (δ.set i (.val d)) σ H (fun b => if b = a then none else G b) := by
  have fa := g.dis a i ga
  have ff := same_new fa o
  refine ⟨fun b u e => ?_, g.f0.trans ff, fun b u e => ?_, g.keep, g.alive, fun b j z => ?_, fun b j z => ?_, fun b j z => ?_, by rw [List.length_set]; exact g.len, fun j s e => ?_⟩
  · by_cases hb : b = a
    · rw [hb, upd_same] at e; rw [hb, ← e]; exact ha
    · rw [upd_ne hb] at e; exact g.le _ _ e
  · by_cases hb : b = a
    · rw [hb]; exact .inr (g.mine a i ga)
    · rw [upd_ne hb] at e; exact g.nw b u e
  · by_cases hb : b = a
    · rw [if_pos hb] at z; cases z
    · rw [if_neg hb] at z; rw [upd_ne hb]; exact g.dis b j z
  · by_cases hb : b = a
    · rw [if_pos hb] at z; cases z
    · rw [if_neg hb] at z; exact g.live b j z
  · by_cases hb : b = a
    · rw [if_pos hb] at z; cases z
    · rw [if_neg hb] at z; exact g.mine b j z
  · by_cases hj : i = j
    · subst hj
      rw [List.getElem?_set_self (List.getElem?_eq_some_iff.mp hi).1] at e
      cases e
      exact ⟨_, hx, r⟩
    · rw [List.getElem?_set_ne hj] at e
      have q := g.sl j s e
      have ne : ∀ {b : Addr}, G b = some j → (if b = a then none else G b) = some j := fun {b} z => by
        by_cases hb : b = a
        · rw [hb, ga] at z; cases z; exact absurd rfl hj
        · rw [if_neg hb]; exact z
      cases s with
      | no => trivial
      | pin => exact q
      | val d =>
        obtain ⟨v, h1, h2⟩ := q
        exact ⟨v, h1, Rp.mono ff _ _ h2⟩
      | own ds =>
        obtain ⟨b, vs, h1, h2, h3, h4⟩ := q
        exact ⟨b, vs, h1, ne h2, h3, RpA.mono ff _ _ h4⟩
      | ownK kvs =>
        obtain ⟨b, vs, h1, h2, h3, h4⟩ := q
        exact ⟨b, vs, h1, ne h2, h3, RpK.mono ff _ _ h4⟩
/-- the thing at a is not known -/
def del (F : Hp) (a : Addr) : Hp := fun b => if b = a then none else F b
theorem del_same {F : Hp} {a : Addr} : del F a a = none := if_pos rfl
theorem del_ne {F : Hp} {a b : Addr} (h : b ≠ a) : del F a b = F b := if_neg h
/-- slot i is frozen: a later F; what is imm over it is so over F too -/
theorem Sat.frz (s : Sat K C F δ σ H) (i : Nat) : ∃ F1, Same F F1 ∧ Sat K C F1 (frzE i δ) σ H ∧
    (∀ F' H', Ext F1 H F' H' → ∃ F2, Ext F H F2 H' ∧ TupSame F' F2 ∧ Same F2 F') := by
  have triv : frzE i δ = δ → ∃ F1, Same F F1 ∧ Sat K C F1 (frzE i δ) σ H ∧ (∀ F' H', Ext F1 H F' H' → ∃ F2, Ext F H F2 H' ∧ TupSame F' F2 ∧ Same F2 F') := fun e =>
    ⟨F, Same.refl _, by rw [e]; exact s, fun F' H' x => ⟨F', x, fun _ _ h => h, Same.refl _⟩⟩
  -- what is taken off again behind
  have off : ∀ (G : Addr → Option Nat), SatG K C F δ σ H G → ∀ (a : Addr) (o : HO), G a = some i → H a = some o → (∀ vs, ¬ o = .tup vs) → (∀ ob vs, ¬ o = .frz ob (.tup vs)) → ∀ F' H', Ext (upd F a o) H F' H' → ∃ F2, Ext F H F2 H' ∧ TupSame F' F2 ∧ Same F2 F' := by
    intro G g a o ga ha nt nf F' H' x
    have fa := g.dis a i ga
    have e1 : F' a = some o := x.ff a o upd_same
    refine ⟨del F' a, ⟨fun b u e => ?_, fun b u e => ?_, fun b u e => ?_, x.hh⟩, fun b vs h => ?_, fun b u e => ?_⟩
    · have hb : b ≠ a := ne_of_none e fa
      rw [del_ne hb]; exact x.ff b u (by rw [upd_ne hb]; exact e)
    · by_cases hb : b = a
      · rw [hb, del_same] at e; cases e
      · rw [del_ne hb] at e
        rcases x.nw b u e with z | z
        · rw [upd_ne hb] at z; exact .inl z
        · exact .inr z
    · by_cases hb : b = a
      · rw [hb, del_same] at e; cases e
      · rw [del_ne hb] at e; exact x.le b u e
    · have hb : b ≠ a := fun z => by
        rcases h with h | ⟨ob, h⟩
        · rw [z, e1] at h; exact nt vs (Option.some.inj h)
        · rw [z, e1] at h; exact nf ob vs (Option.some.inj h)
      rcases h with h | ⟨ob, h⟩
      · exact .inl (by rw [del_ne hb]; exact h)
      · exact .inr ⟨ob, by rw [del_ne hb]; exact h⟩
    · by_cases hb : b = a
      · rw [hb, del_same] at e; cases e
      · rw [del_ne hb] at e; exact e
  cases hi : δ[i]? with
  | none => exact triv (by unfold frzE; rw [hi])
  | some q =>
    have hset : frzE i δ = δ.set i (frzS q) := by unfold frzE; rw [hi]
    have same : frzS q = q → frzE i δ = δ := fun e => by
      rw [hset, e]
      have hl := (List.getElem?_eq_some_iff.mp hi)
      obtain ⟨hl, e2⟩ := hl
      rw [← e2]; exact List.set_getElem_self hl
    cases q with
    | no => exact triv (same rfl)
    | pin => exact triv (same rfl)
    | val d => exact triv (same rfl)
    | own ds =>
      obtain ⟨G, g⟩ := s
      obtain ⟨a, vs, h1, h2, h3, h4⟩ := g.sl i _ hi
      have ff := same_new (g.dis a i h2) (.lst vs)
      refine ⟨upd F a (.lst vs), ff, ?_, off G g a _ h2 h3 (fun _ z => nomatch z) (fun _ _ z => nomatch z)⟩
      rw [hset]
      exact ⟨_, g.frz hi h1 h2 h3 (.lst upd_same (RpA.mono ff _ _ h4))⟩
    | ownK kvs =>
      obtain ⟨G, g⟩ := s
      obtain ⟨a, vs, h1, h2, h3, h4⟩ := g.sl i _ hi
      have ff := same_new (g.dis a i h2) (.dK vs)
      refine ⟨upd F a (.dK vs), ff, ?_, off G g a _ h2 h3 (fun _ z => nomatch z) (fun _ _ z => nomatch z)⟩
      rw [hset]
      exact ⟨_, g.frz hi h1 h2 h3 (.dK upd_same (RpK.mono ff _ _ h4))⟩
end
end DL
/-! DL1: judgements over data: an expression computes a function of the environment. -/
namespace DL
open PySem PySem.Spec PyProof.Rows L2

/-- an answer; an exception of the own class of that name; nothing is said -/
inductive Res (α : Type) where
  | ok (a : α) | exc (c : Str) | err
def Res.bind {α β : Type} (r : Res α) (g : α → Res β) : Res β := match r with
  | .ok a => g a
  | .exc c => .exc c
  | .err => .err
@[simp] theorem Res.bind_ok {α β : Type} (a : α) (g : α → Res β) : (Res.ok a).bind g = g a := rfl
@[simp] theorem Res.bind_exc {α β : Type} (c : Str) (g : α → Res β) : (Res.exc c).bind g = .exc c := rfl
@[simp] theorem Res.bind_err {α β : Type} (g : α → Res β) : (Res.err).bind g = .err := rfl
def Res.map {α β : Type} (f : α → β) (r : Res α) : Res β := r.bind fun a => .ok (f a)
def ofO {α : Type} : Option α → Res α
  | some a => .ok a
  | none => .err
/-- what is wished of an own exception, by its class's name -/
abbrev WS := Str → L2.St → Hp → Prop
abbrev W0 : WS := fun _ _ _ => False

/-- the good of an answer, from F and H on -/
def Gd {α : Type} (W : WS) (σ : L2.St) (F H : Hp) (r : Res α) (P : α → Hp → Hp → Prop) : Prop := match r with
  | .ok a => ∀ F' H', Ext F H F' H' → P a F' H'
  | .exc c => ∀ F' H', Ext F H F' H' → W c σ H'
  | .err => False
theorem Gd.mono {α : Type} {W : WS} {σ : L2.St} {F H : Hp} {r : Res α} {P P' : α → Hp → Hp → Prop} (h : Gd W σ F H r P) (k : ∀ a F' H', Ext F H F' H' → P a F' H' → P' a F' H') : Gd W σ F H r P' := by
  cases r with
  | ok a => exact fun F' H' x => k a F' H' x (h F' H' x)
  | exc c => exact h
  | err => exact h
theorem Gd.ext {α : Type} {W : WS} {σ : L2.St} {F H F' H' : Hp} {r : Res α} {P : α → Hp → Hp → Prop} (h : Gd W σ F H r P) (x : Ext F H F' H') : Gd W σ F' H' r P := by
  cases r with
  | ok a => exact fun F2 H2 y => h F2 H2 (x.trans y)
  | exc c => exact fun F2 H2 y => h F2 H2 (x.trans y)
  | err => exact h
theorem Gd.bind {α β : Type} {W : WS} {σ : L2.St} {F H : Hp} {r : Res α} {g : α → Res β} {P : β → Hp → Hp → Prop} (h : Gd W σ F H (r.bind g) P) : Gd W σ F H r (fun a F' H' => Gd W σ F' H' (g a) P) := by
  cases r with
  | ok a => exact fun F' H' x => Gd.ext h x
  | exc c => exact h
  | err => exact h
/-- .. told from F and H on still -/
theorem Gd.bind2 {α β : Type} {W : WS} {σ : L2.St} {F H : Hp} {r : Res α} {g : α → Res β} {P : β → Hp → Hp → Prop} (h : Gd W σ F H (r.bind g) P) : Gd W σ F H r (fun a _ _ => Gd W σ F H (g a) P) := by
  cases r with
  | ok a => exact fun F' H' x => h
  | exc c => exact h
  | err => exact h
theorem Gd.ok {α : Type} {W : WS} {σ : L2.St} {F H F' H' : Hp} {a : α} {P : α → Hp → Hp → Prop} (h : Gd W σ F H (.ok a) P) (x : Ext F H F' H') : P a F' H' := h F' H' x

/-- the value of a list or dict that may be one's own yet -/
def Rt (K : PySem.W.Frag) (F H : Hp) (v : V) : D → Prop
  | .list ds => ∃ a vs, v = .ref a ∧ H a = some (.lst vs) ∧ RpA K F vs ds
  | .dict kvs => (∃ a ks, v = .ref a ∧ H a = some (.dK ks) ∧ RpK K F ks kvs) ∨ Rp K F v (.dict kvs)
  | .none => Rp K F v .none
  | .bool b => Rp K F v (.bool b)
  | .int i => Rp K F v (.int i)
  | .str x => Rp K F v (.str x)
  | .tuple ds => Rp K F v (.tuple ds)
theorem Rt.ext {K : PySem.W.Frag} {F H F' H' : Hp} {v : V} {d : D} (r : Rt K F H v d) (ff : Same F F') (hh : Same H H') : Rt K F' H' v d := by
  cases d with
  | list ds => obtain ⟨a, vs, h1, h2, h3⟩ := r; exact ⟨a, vs, h1, hh _ _ h2, RpA.mono ff _ _ h3⟩
  | dict kvs =>
    rcases r with ⟨a, ks, h1, h2, h3⟩ | r
    · exact .inl ⟨a, ks, h1, hh _ _ h2, RpK.mono ff _ _ h3⟩
    · exact .inr (Rp.mono ff _ _ r)
  | none => exact Rp.mono ff _ _ r
  | bool b => exact Rp.mono ff _ _ r
  | int i => exact Rp.mono ff _ _ r
  | str x => exact Rp.mono ff _ _ r
  | tuple ds => exact Rp.mono ff _ _ r
theorem Rp.rt {K : PySem.W.Frag} {F H : Hp} {v : V} {d : D} (r : Rp K F v d) (le : Same F H) : Rt K F H v d := by
  cases d with
  | list ds => cases r with | lst h1 h2 => exact ⟨_, _, rfl, le _ _ h1, h2⟩
  | dict kvs => exact .inr r
  | none => exact r
  | bool b => exact r
  | int i => exact r
  | str x => exact r
  | tuple ds => exact r
/-- .. as data over all that is tracked -/
theorem Rt.rp {K : PySem.W.Frag} {F H : Hp} {v : V} {d : D} (r : Rt K F H v d) (le : Same F H) : Rp K H v d := by
  cases d with
  | list ds => obtain ⟨a, vs, h1, h2, h3⟩ := r; subst h1; exact .lst h2 (RpA.mono le _ _ h3)
  | dict kvs =>
    rcases r with ⟨a, ks, h1, h2, h3⟩ | r
    · subst h1; exact .dK h2 (RpK.mono le _ _ h3)
    · exact Rp.mono le _ _ r
  | none => exact Rp.mono le _ _ r
  | bool b => exact Rp.mono le _ _ r
  | int i => exact Rp.mono le _ _ r
  | str x => exact Rp.mono le _ _ r
  | tuple ds => exact Rp.mono le _ _ r
theorem Rt.int {K : PySem.W.Frag} {F H : Hp} {v : V} {i : Int} (r : Rt K F H v (.int i)) : v = .int i := by cases (show Rp K F v (.int i) from r); rfl
theorem Rt.bool {K : PySem.W.Frag} {F H : Hp} {v : V} {i : Bool} (r : Rt K F H v (.bool i)) : v = .bl i := by cases (show Rp K F v (.bool i) from r); rfl

/-! ### the judgements -/
section
variable (X : Cx) (W : WS)
def PEp (e : Expr) (f : Env → Res D) : Prop := ∃ t, PE X e t ∧ ∀ C F δ σ H Q, Sat X.K C F δ σ H → Gd W σ F H (f δ) (fun d F' H' => ∀ v, Rp X.K F' v d → Q v H') → t σ H Q
def PRp (e : Expr) (f : Env → Res D) : Prop := ∃ t, PE X e t ∧ ∀ C F δ σ H Q, Sat X.K C F δ σ H → Gd W σ F H (f δ) (fun d F' H' => ∀ v, Rt X.K F' H' v d → Q v H') → t σ H Q
/-- a new list -/
def PFp (e : Expr) (f : Env → Res (List D)) : Prop := ∃ t, PE X e t ∧ ∀ C F δ σ H Q, Sat X.K C F δ σ H →
  Gd W σ F H (f δ) (fun ds F' H' => ∀ a vs, H a = none → F' a = none → H' a = some (.lst vs) → RpA X.K F' vs ds → Q (.ref a) H') → t σ H Q
/-- a new dict -/
def PKp (e : Expr) (f : Env → Res (List (D × D))) : Prop := ∃ t, PE X e t ∧ ∀ C F δ σ H Q, Sat X.K C F δ σ H →
  Gd W σ F H (f δ) (fun ds F' H' => ∀ a vs, H a = none → F' a = none → H' a = some (.dK vs) → RpK X.K F' vs ds → Q (.ref a) H') → t σ H Q
/-- a truth value, and as a test -/
def PVb (e : Expr) (f : Env → Res Bool) : Prop := ∃ t, PE X e t ∧ ∀ C F δ σ H Q, Sat X.K C F δ σ H → Gd W σ F H (f δ) (fun b _ H' => Q (.bl b) H') → t σ H Q
def PTb (e : Expr) (f : Env → Res Bool) : Prop := ∃ t, PT X e t ∧ ∀ C F δ σ H Q, Sat X.K C F δ σ H → Gd W σ F H (f δ) (fun b _ H' => Q b H') → t σ H Q
def PWb (e : Expr) (f : Env → Res Bool) : Prop := ∃ t, PW X e t ∧ ∀ C F δ σ H Q, Sat X.K C F δ σ H → Gd W σ F H (f δ) (fun b _ H' => Q b H') → t σ H Q
def PBp (e : Expr) (f : Env → Res Bool) : Prop := PVb X W e f ∧ PTb X W e f
def PBw (e : Expr) (f : Env → Res Bool) : Prop := PVb X W e f ∧ PWb X W e f
/-- arguments -/
def PAp (es : List Expr) (f : Env → Res (List D)) : Prop := ∃ t, PA X es t ∧ ∀ C F δ σ H Q, Sat X.K C F δ σ H → Gd W σ F H (f δ) (fun ds F' H' => ∀ vs, RpA X.K F' vs ds → Q vs H') → t σ H Q
end

/-- what a body's context is -/
structure Ctx (X : Cx) (N : List Str) (sc : Scope) (fn : Str → Bool) : Prop where
  hN : X.N = N
  nd : N.Nodup
  sc : X.env.scope = sc
  fn : X.fn = fn
  calm : X.calm = true
  un : X.A.units + 100 < cLine
  po : PassesOwn (model X.prog X.w) X.A X.env X.xe
def isLoc (sc : Scope) (x : Str) : Bool := match sc.names.lookup x with
  | some .local => true
  | some .cell => true
  | _ => false
def isVis (sc : Scope) (x : Str) : Bool := match sc.names.lookup x with
  | some .local => true
  | some .cell => true
  | some .free => true
  | _ => false
def isGl (sc : Scope) (x : Str) : Bool := match sc.names.lookup x with
  | some .globalImplicit => true
  | _ => false
section
variable {X : Cx} {N : List Str} {sc : Scope} {fn : Str → Bool} {W : WS}
theorem Ctx.vis (c : Ctx X N sc fn) {x : Str} (h : isVis sc x = true) : Vis X.env.scope x := by
  rw [c.sc]
  unfold isVis at h
  unfold Vis
  split at h
  · exact .inl (by assumption)
  · exact .inr (.inl (by assumption))
  · exact .inr (.inr (by assumption))
  · cases h
theorem Ctx.loc (c : Ctx X N sc fn) {x : Str} (h : isLoc sc x = true) : L2.Loc X.env.scope x := by
  rw [c.sc]
  unfold isLoc at h
  unfold L2.Loc
  split at h
  · exact .inl (by assumption)
  · exact .inr (by assumption)
  · cases h
theorem Ctx.gl (c : Ctx X N sc fn) {x : Str} (h : isGl sc x = true) : Gl X x := by
  show X.env.scope.names.lookup x = some .globalImplicit
  rw [c.sc]
  unfold isGl at h
  split at h
  · assumption
  · cases h
/-- a slot that may be stored -/
def stOk (sc : Scope) (fn : Str → Bool) (x : Str) : Bool := isLoc sc x && (fn x || (match sc.names.lookup x with | some .local => true | _ => false))
theorem Ctx.st (c : Ctx X N sc fn) {x : Str} (h : stOk sc fn x = true) : L2.Loc X.env.scope x ∧ (X.fn x = true ∨ X.env.scope.names.lookup x = some .local) := by
  unfold stOk at h
  rw [Bool.and_eq_true, Bool.or_eq_true] at h
  refine ⟨c.loc h.1, ?_⟩
  rw [c.fn, c.sc]
  rcases h.2 with z | z
  · exact .inl z
  · split at z
    · exact .inr (by assumption)
    · cases z

/-! ### from one judgement to another -/
theorem PEp.rd {e : Expr} {f : Env → Res D} (h : PEp X W e f) : PRp X W e f := by
  obtain ⟨t, p, q⟩ := h
  exact ⟨t, p, fun C F δ σ H Q s g => q C F δ σ H Q s (g.mono fun d F' H' x k v r => k v (r.rt x.le))⟩
def valF (f : Env → Res (List D)) : Env → Res D := fun δ => (f δ).bind fun ds => .ok (.list ds)
def valK (f : Env → Res (List (D × D))) : Env → Res D := fun δ => (f δ).bind fun ds => .ok (.dict ds)
def valB (f : Env → Res Bool) : Env → Res D := fun δ => (f δ).bind fun b => .ok (.bool b)
theorem PFp.rd {e : Expr} {f : Env → Res (List D)} (h : PFp X W e f) : PRp X W e (valF f) := by
  obtain ⟨t, p, q⟩ := h
  refine ⟨t, p, fun C F δ σ H Q s g => q C F δ σ H Q s (g.bind.mono fun ds F' H' x k a vs h1 h2 h3 h4 => ?_)⟩
  exact k.ok (Ext.refl x.le) _ ⟨a, vs, rfl, h3, h4⟩
/-- a new list, known for good from now on -/
theorem PFp.val {e : Expr} {f : Env → Res (List D)} (h : PFp X W e f) : PEp X W e (valF f) := by
  obtain ⟨t, p, q⟩ := h
  refine ⟨t, p, fun C F δ σ H Q s g => q C F δ σ H Q s (g.bind2.mono fun ds F' H' x k a vs h1 h2 h3 h4 => ?_)⟩
  exact k.ok (x.frz h1 h2 h3) _ (.lst upd_same (RpA.mono (same_new h2 _) _ _ h4))
theorem PKp.val {e : Expr} {f : Env → Res (List (D × D))} (h : PKp X W e f) : PEp X W e (valK f) := by
  obtain ⟨t, p, q⟩ := h
  refine ⟨t, p, fun C F δ σ H Q s g => q C F δ σ H Q s (g.bind2.mono fun ds F' H' x k a vs h1 h2 h3 h4 => ?_)⟩
  exact k.ok (x.frz h1 h2 h3) _ (.dK upd_same (RpK.mono (same_new h2 _) _ _ h4))
def un (fa : Env → Res D) {β : Type} (g : D → Res β) : Env → Res β := fun δ => (fa δ).bind fun x => g x
def asB : D → Res Bool
  | .bool b => .ok b
  | _ => .err
theorem PRp.bool {e : Expr} {f : Env → Res D} (h : PRp X W e f) (he : ∀ whole, isTrue e X.env whole = (do let v ← whole; standAt e.pos; holding [v] (truthy v)) := by intro _; rfl) : PBp X W e (un f asB) := by
  obtain ⟨t, p, q⟩ := h
  refine ⟨⟨t, p, fun C F δ σ H Q s g => q C F δ σ H Q s (g.bind.mono fun d F' H' x k v r => ?_)⟩, ⟨_, pt_val p he, fun C F δ σ H Q s g => q C F δ σ H _ s (g.bind.mono fun d F' H' x k v r => ?_)⟩⟩
  · cases d with
    | bool b => rw [Rt.bool r]; exact k.ok (Ext.refl x.le)
    | _ => exact False.elim k
  · cases d with
    | bool b => rw [Rt.bool r]; exact ⟨b, rfl, k.ok (Ext.refl x.le)⟩
    | _ => exact False.elim k
theorem PBp.val {e : Expr} {f : Env → Res Bool} (h : PBp X W e f) : PEp X W e (valB f) := by
  obtain ⟨⟨t, p, q⟩, _⟩ := h
  refine ⟨t, p, fun C F δ σ H Q s g => q C F δ σ H Q s (g.bind.mono fun b F' H' x k => ?_)⟩
  exact k.ok (Ext.refl x.le) _ (.bl b)
theorem PBw.pb {e : Expr} {f : Env → Res Bool} (h : PBw X W e f) : PBp X W e f := by
  obtain ⟨h1, t, p, q⟩ := h
  exact ⟨h1, t, p.pt, q⟩

/-! ### names, constants -/
def vD (i : Nat) : Env → Res D := fun δ => match δ[i]? with
  | some (.val d) => .ok d
  | _ => .err
/-- .. to be read -/
def rD (i : Nat) : Env → Res D := fun δ => match δ[i]? with
  | some (.val d) => .ok d
  | some (.own ds) => .ok (.list ds)
  | some (.ownK kvs) => .ok (.dict kvs)
  | _ => .err
theorem join_some {α : Type} {o : Option (Option α)} {v : α} (h : o.join = some v) : o = some (some v) := by
  cases o with
  | none => cases h
  | some p => exact congrArg some h
theorem PEp.var (c : Ctx X N sc fn) (i : Nat) {x : Str} {pos : Pos} (hN : N[i]? = some x := by rfl) (hv : isVis sc x = true := by rfl) (hd : (x == ("__debug__" : Str)) = false := by decide) (hcd : (x == ("__classdict__" : Str)) = false := by decide) : PEp X W (.Name x pos) (vD i) := by
  refine ⟨_, pe_var (i := i) (by rw [c.hN]; exact hN) (c.vis hv) hd hcd, fun C F δ σ H Q s g => ?_⟩
  unfold vD at g
  split at g
  · rename_i d e
    obtain ⟨G, g', v, h1, h2⟩ := s.get e
    exact ⟨v, join_some h1, g.ok (Ext.refl s.le) v h2⟩
  · exact False.elim g
theorem PRp.var (c : Ctx X N sc fn) (i : Nat) {x : Str} {pos : Pos} (hN : N[i]? = some x := by rfl) (hv : isVis sc x = true := by rfl) (hd : (x == ("__debug__" : Str)) = false := by decide) (hcd : (x == ("__classdict__" : Str)) = false := by decide) : PRp X W (.Name x pos) (rD i) := by
  refine ⟨_, pe_var (i := i) (by rw [c.hN]; exact hN) (c.vis hv) hd hcd, fun C F δ σ H Q s g => ?_⟩
  unfold rD at g
  split at g
  · rename_i d e
    obtain ⟨G, g', v, h1, h2⟩ := s.get e
    exact ⟨v, join_some h1, g.ok (Ext.refl s.le) v (h2.rt s.le)⟩
  · rename_i d e
    obtain ⟨G, g', a, vs, h1, h2, h3, h4⟩ := s.get e
    exact ⟨_, join_some h1, g.ok (Ext.refl s.le) _ ⟨a, vs, rfl, h3, h4⟩⟩
  · rename_i d e
    obtain ⟨G, g', a, vs, h1, h2, h3, h4⟩ := s.get e
    exact ⟨_, join_some h1, g.ok (Ext.refl s.le) _ (.inl ⟨a, vs, rfl, h3, h4⟩)⟩
  · exact False.elim g
def cD (d : D) : Env → Res D := fun _ => .ok d
theorem PEp.int {i : Int} {j pos} : PEp X W (.Constant (.int i) j pos) (cD (.int i)) := ⟨_, pe_int, fun C F δ σ H Q s g => g.ok (Ext.refl s.le) _ (.int i)⟩
theorem PEp.bl {i : Bool} {j pos} : PEp X W (.Constant (.bool i) j pos) (cD (.bool i)) := ⟨_, pe_bl, fun C F δ σ H Q s g => g.ok (Ext.refl s.le) _ (.bl i)⟩
theorem PEp.non {j pos} : PEp X W (.Constant .none j pos) (cD .none) := ⟨_, pe_non, fun C F δ σ H Q s g => g.ok (Ext.refl s.le) _ .non⟩
theorem PEp.str {x : Str} {j pos} : PEp X W (.Constant (.str x) j pos) (cD (.str x)) := ⟨_, pe_str, fun C F δ σ H Q s g => g.ok (Ext.refl s.le) _ (.str x)⟩

/-! ### operators -/
def bin (fa fb : Env → Res D) {β : Type} (g : D → D → Res β) : Env → Res β := fun δ => (fa δ).bind fun x => (fb δ).bind fun y => g x y
/-- two operands, then what the reading r asks -/
theorem bin_run {β : Type} {ta tb : TE} {a b : Expr} {fa fb : Env → Res D} {r : R2} {g : D → D → Res β} {P : VK → β → Hp → Hp → Prop}
    (ha : ∀ C F δ σ H Q, Sat X.K C F δ σ H → Gd W σ F H (fa δ) (fun d F' H' => ∀ v, Rt X.K F' H' v d → Q v H') → ta σ H Q)
    (hb : ∀ C F δ σ H Q, Sat X.K C F δ σ H → Gd W σ F H (fb δ) (fun d F' H' => ∀ v, Rt X.K F' H' v d → Q v H') → tb σ H Q)
    {F H : Hp} {δ : Env} {σ : L2.St} {C : Ent} {Q : VK} (s : Sat X.K C F δ σ H) (h : Gd W σ F H (bin fa fb g δ) (P Q))
    (hop : ∀ F' H' x y d e, Ext F H F' H' → Rt X.K F' H' x d → Rt X.K F' H' y e → Gd W σ F' H' (g d e) (P Q) → r x y H' Q) : tOp r ta tb σ H Q := by
  refine ha C F δ σ H _ s (h.bind.mono fun d F1 H1 x1 h1 x rx => ?_)
  refine hb C F1 δ σ H1 _ (s.ext x1) (h1.bind.mono fun e F2 H2 x2 h2 y ry => ?_)
  exact hop F2 H2 x y d e (x1.trans x2) (rx.ext x2.ff x2.hh) ry h2
theorem un_run {β : Type} {ta : TE} {fa : Env → Res D} {r : V → Hp → VK → Prop} {g : D → Res β} {P : VK → β → Hp → Hp → Prop}
    (ha : ∀ C F δ σ H Q, Sat X.K C F δ σ H → Gd W σ F H (fa δ) (fun d F' H' => ∀ v, Rt X.K F' H' v d → Q v H') → ta σ H Q)
    {F H : Hp} {δ : Env} {σ : L2.St} {C : Ent} {Q : VK} (s : Sat X.K C F δ σ H) (h : Gd W σ F H (un fa g δ) (P Q))
    (hop : ∀ F' H' x d, Ext F H F' H' → Rt X.K F' H' x d → Gd W σ F' H' (g d) (P Q) → r x H' Q) : tUn r ta σ H Q := by
  refine ha C F δ σ H _ s (h.bind.mono fun d F1 H1 x1 h1 x rx => ?_)
  exact hop F1 H1 x d x1 rx h1

/-- ints in, an int out, where ok says so -/
def i2 (g : Int → Int → Option Int) : D → D → Res D
  | .int i, .int j => match g i j with
    | some k => .ok (.int k)
    | none => .err
  | _, _ => .err
theorem i2_run {K : PySem.W.Frag} {g : Int → Int → Option Int} {r : R2} {σ : L2.St} (hr : ∀ i j k H Q, g i j = some k → Q (.int k) H → r (.int i) (.int j) H Q)
    {F H : Hp} {x y : V} {d e : D} {Q : VK} (le : Same F H) (rx : Rt K F H x d) (ry : Rt K F H y e) (h : Gd W σ F H (i2 g d e) (fun d F' H' => ∀ v, Rp K F' v d → Q v H')) : r x y H Q := by
  unfold i2 at h
  split at h
  · rename_i i j
    rw [Rt.int rx, Rt.int ry]
    split at h
    · rename_i k q
      exact hr i j k H Q q (h.ok (Ext.refl le) _ (.int k))
    · exact False.elim h
  · exact False.elim h
/-- numbers that a product is asked of -/
def BIGm : Nat := 450000
def gAdd (i j : Int) : Option Int := some (i + j)
def gSub (i j : Int) : Option Int := some (i - j)
def gMul (i j : Int) : Option Int := if i.natAbs.log2 + j.natAbs.log2 < BIGm then some (i * j) else none
def gDiv (i j : Int) : Option Int := if 0 < j ∧ j.natAbs.log2 < 9000 then some (i / j) else none
def gMod (i j : Int) : Option Int := if 0 < j then some (i % j) else none
def gPow (i j : Int) : Option Int := if 0 ≤ j ∧ j ≤ 1000 ∧ i.natAbs < 1000 then some (i ^ j.toNat) else none
theorem PEp.binop {op : Operator} {r : R2} {g : Int → Int → Option Int} {a b : Expr} {fa fb : Env → Res D} {pos : Pos} (ho : OpR X (binaryOp op) r) (hr : ∀ i j k H Q, g i j = some k → Q (.int k) H → r (.int i) (.int j) H Q)
    (ha : PRp X W a fa) (hb : PRp X W b fb) : PEp X W (.BinOp a op b pos) (bin fa fb (i2 g)) := by
  obtain ⟨ta, pa, qa⟩ := ha
  obtain ⟨tb, pb, qb⟩ := hb
  refine ⟨_, pe_op ho pa pb, fun C F δ σ H Q s h => ?_⟩
  exact bin_run (a := a) (b := b) (P := fun Q d F' H' => ∀ v, Rp X.K F' v d → Q v H') qa qb s h fun F' H' x y d e x1 rx ry h => i2_run hr x1.le rx ry h
def addD (fa fb : Env → Res D) : Env → Res D := bin fa fb (i2 gAdd)
def subD (fa fb : Env → Res D) : Env → Res D := bin fa fb (i2 gSub)
def mulD (fa fb : Env → Res D) : Env → Res D := bin fa fb (i2 gMul)
def divD (fa fb : Env → Res D) : Env → Res D := bin fa fb (i2 gDiv)
def modD (fa fb : Env → Res D) : Env → Res D := bin fa fb (i2 gMod)
def powD (fa fb : Env → Res D) : Env → Res D := bin fa fb (i2 gPow)
section
variable {a b : Expr} {fa fb : Env → Res D} {pos : Pos}
theorem PEp.add (ha : PRp X W a fa) (hb : PRp X W b fb) : PEp X W (.BinOp a .Add b pos) (addD fa fb) :=
  PEp.binop op_add (fun i j k H Q e q => ⟨i, j, rfl, rfl, by cases e; exact q⟩) ha hb
theorem PEp.sub (ha : PRp X W a fa) (hb : PRp X W b fb) : PEp X W (.BinOp a .Sub b pos) (subD fa fb) :=
  PEp.binop op_sub (fun i j k H Q e q => ⟨i, j, rfl, rfl, by cases e; exact q⟩) ha hb
theorem PEp.mul (ha : PRp X W a fa) (hb : PRp X W b fb) : PEp X W (.BinOp a .Mult b pos) (mulD fa fb) :=
  PEp.binop op_mulW (fun i j k H Q e q => by
    unfold gMul at e
    split at e
    · rename_i h
      cases e
      refine ⟨i, j, rfl, rfl, ?_, q⟩
      show i.natAbs.log2 + j.natAbs.log2 < 1000000
      unfold BIGm at h
      omega
    · cases e) ha hb
theorem PEp.div (ha : PRp X W a fa) (hb : PRp X W b fb) : PEp X W (.BinOp a .FloorDiv b pos) (divD fa fb) :=
  PEp.binop op_fdivW (fun i j k H Q e q => by
    unfold gDiv at e
    split at e
    · rename_i h
      cases e
      exact ⟨i, j, rfl, rfl, h, q⟩
    · cases e) ha hb
theorem PEp.mod (ha : PRp X W a fa) (hb : PRp X W b fb) : PEp X W (.BinOp a .Mod b pos) (modD fa fb) :=
  PEp.binop op_mod (fun i j k H Q e q => by
    unfold gMod at e
    split at e
    · rename_i h
      cases e
      exact ⟨i, j, rfl, rfl, h, q⟩
    · cases e) ha hb
theorem PEp.pow (ha : PRp X W a fa) (hb : PRp X W b fb) : PEp X W (.BinOp a .Pow b pos) (powD fa fb) :=
  PEp.binop op_pow (fun i j k H Q e q => by
    unfold gPow at e
    split at e
    · rename_i h
      cases e
      refine ⟨i, j, rfl, rfl, ⟨h.1, by omega, ?_⟩, q⟩
      have : (1000 : Nat) < 2 ^ 64 := by decide
      omega
    · cases e) ha hb
def gNeg : D → Res D
  | .int i => .ok (.int (-i))
  | _ => .err
def negD (fa : Env → Res D) : Env → Res D := un fa gNeg
theorem PEp.neg (ha : PRp X W a fa) : PEp X W (.UnaryOp .USub a pos) (negD fa) := by
  obtain ⟨ta, pa, qa⟩ := ha
  refine ⟨_, pe_un un_neg pa, fun C F δ σ H Q s h => ?_⟩
  refine un_run (P := fun Q d F' H' => ∀ v, Rp X.K F' v d → Q v H') qa s h fun F' H' x d x1 rx h => ?_
  cases d with
  | int i => rw [Rt.int rx]; exact ⟨i, rfl, h.ok (Ext.refl x1.le) _ (.int (-i))⟩
  | _ => exact False.elim h

/-! ### comparisons -/
/-- a comparison's answer -/
theorem PBp.cmp {op : CmpOp} {r : R2} {g : D → D → Res Bool} (ho : OpR X (compareOp op) r)
    (hr : ∀ σ F H x y d e Q, Same F H → Rt X.K F H x d → Rt X.K F H y e → Gd W σ F H (g d e) (fun b _ H' => Q (.bl b) H') → r x y H Q)
    (ha : PRp X W a fa) (hb : PRp X W b fb) (hm : behindInMarks op b = false) : PBp X W (.Compare a [op] [b] pos) (bin fa fb g) := by
  obtain ⟨ta, pa, qa⟩ := ha
  obtain ⟨tb, pb, qb⟩ := hb
  refine ⟨⟨_, pe_cmpR ho pa pb hm, fun C F δ σ H Q s h => ?_⟩, ⟨_, pt_cmpR ho pa pb hm, fun C F δ σ H Q s h => ?_⟩⟩
  · exact bin_run (a := a) (b := b) (P := fun Q d _ H' => Q (.bl d) H') qa qb s h fun F' H' x y d e x1 rx ry h => hr σ F' H' x y d e Q x1.le rx ry h
  · refine bin_run (a := a) (b := b) (Q := fun x H' => ∃ k, x = .bl k ∧ Q k H') (P := fun Q d _ H' => Q (.bl d) H') qa qb s (h.mono fun b F' H' _ q => ⟨b, rfl, q⟩) fun F' H' x y d e x1 rx ry h => hr σ F' H' x y d e _ x1.le rx ry h
def b2 (g : Int → Int → Bool) : D → D → Res Bool
  | .int i, .int j => .ok (g i j)
  | _, _ => .err
theorem b2_run {K : PySem.W.Frag} {g : Int → Int → Bool} {F H : Hp} {x y : V} {d e : D} {Q : VK} {σ : L2.St} (le : Same F H) (rx : Rt K F H x d) (ry : Rt K F H y e)
    (h : Gd W σ F H (b2 g d e) (fun b _ H' => Q (.bl b) H')) : rI0 (fun i j => .bl (g i j)) x y H Q := by
  unfold b2 at h
  split at h
  · rename_i i j
    rw [Rt.int rx, Rt.int ry]
    exact ⟨i, j, rfl, rfl, h.ok (Ext.refl le)⟩
  · exact False.elim h
def ltB (fa fb : Env → Res D) : Env → Res Bool := bin fa fb (b2 fun i j => decide (i < j))
def leB (fa fb : Env → Res D) : Env → Res Bool := bin fa fb (b2 fun i j => decide (i ≤ j))
def gtB (fa fb : Env → Res D) : Env → Res Bool := bin fa fb (b2 fun i j => decide (j < i))
def geB (fa fb : Env → Res D) : Env → Res Bool := bin fa fb (b2 fun i j => decide (j ≤ i))
theorem PBp.lt (ha : PRp X W a fa) (hb : PRp X W b fb) : PBp X W (.Compare a [.Lt] [b] pos) (ltB fa fb) := PBp.cmp op_lt (fun _ _ _ _ _ _ _ _ le rx ry h => b2_run le rx ry h) ha hb (nomark _)
theorem PBp.le (ha : PRp X W a fa) (hb : PRp X W b fb) : PBp X W (.Compare a [.LtE] [b] pos) (leB fa fb) := PBp.cmp op_le (fun _ _ _ _ _ _ _ _ le rx ry h => b2_run le rx ry h) ha hb (nomark _)
theorem PBp.gt (ha : PRp X W a fa) (hb : PRp X W b fb) : PBp X W (.Compare a [.Gt] [b] pos) (gtB fa fb) := PBp.cmp op_gt (fun _ _ _ _ _ _ _ _ le rx ry h => b2_run le rx ry h) ha hb (nomark _)
theorem PBp.ge (ha : PRp X W a fa) (hb : PRp X W b fb) : PBp X W (.Compare a [.GtE] [b] pos) (geB fa fb) := PBp.cmp op_ge (fun _ _ _ _ _ _ _ _ le rx ry h => b2_run le rx ry h) ha hb (nomark _)
/-- data that == is asked of -/
def eqOk (d : D) : Bool := SeqAt.shaped d
def gEq (d e : D) : Res Bool := if eqOk d = true ∧ eqOk e = true then .ok (PyData.eqv d e) else .err
def gNe (d e : D) : Res Bool := if eqOk d = true ∧ eqOk e = true then .ok (!PyData.eqv d e) else .err
theorem eqOk_lay {d : D} (h : eqOk d = true) : d.canLay0 = true := (Bool.and_eq_true_iff.mp h).1
def eqB (fa fb : Env → Res D) : Env → Res Bool := bin fa fb gEq
def neB (fa fb : Env → Res D) : Env → Res Bool := bin fa fb gNe
theorem PBp.eq (c : Ctx X N sc fn) (ha : PRp X W a fa) (hb : PRp X W b fb) : PBp X W (.Compare a [.Eq] [b] pos) (eqB fa fb) :=
  PBp.cmp (op_eqD (Nat.lt_of_le_of_lt (Nat.add_le_add_left (by decide) _) c.un)) (fun σ F H x y d e Q le rx ry h => by
    unfold gEq at h
    split at h
    · rename_i k
      exact ⟨d, e, Rp.dp _ _ (eqOk_lay k.1) (rx.rp le), Rp.dp _ _ (eqOk_lay k.2) (ry.rp le), k.1, k.2, h.ok (Ext.refl le)⟩
    · exact False.elim h) ha hb (nomark _)
theorem PBp.ne (c : Ctx X N sc fn) (ha : PRp X W a fa) (hb : PRp X W b fb) : PBp X W (.Compare a [.NotEq] [b] pos) (neB fa fb) :=
  PBp.cmp (op_neD (Nat.lt_of_le_of_lt (Nat.add_le_add_left (by decide) _) c.un)) (fun σ F H x y d e Q le rx ry h => by
    unfold gNe at h
    split at h
    · rename_i k
      exact ⟨d, e, Rp.dp _ _ (eqOk_lay k.1) (rx.rp le), Rp.dp _ _ (eqOk_lay k.2) (ry.rp le), k.1, k.2, h.ok (Ext.refl le)⟩
    · exact False.elim h) ha hb (nomark _)
/-- is None -/
def isN : D → Bool
  | .none => true
  | _ => false
theorem Rt.isN {K : PySem.W.Frag} {F H : Hp} {v : V} {d : D} (r : Rt K F H v d) : decide (v = .non) = DL.isN d := by
  cases d with
  | none => cases (show Rp K F v .none from r); rfl
  | bool b => cases (show Rp K F v (.bool b) from r); rfl
  | int b => cases (show Rp K F v (.int b) from r); rfl
  | str b => cases (show Rp K F v (.str b) from r); rfl
  | tuple ds => cases (show Rp K F v (.tuple ds) from r); rfl
  | list ds => obtain ⟨a, vs, rfl, _⟩ := r; rfl
  | dict ds =>
    rcases r with ⟨a, vs, rfl, _⟩ | r
    · rfl
    · cases r <;> rfl
def isNB (fa : Env → Res D) : Env → Res Bool := un fa fun d => .ok (isN d)
def notNB (fa : Env → Res D) : Env → Res Bool := un fa fun d => .ok (!isN d)
theorem PBp.isN {j pos'} (ha : PRp X W a fa) : PBp X W (.Compare a [.Is] [.Constant .none j pos'] pos) (isNB fa) := by
  obtain ⟨ta, pa, qa⟩ := ha
  refine ⟨⟨_, pe_cmp (pc_isN pa), fun C F δ σ H Q s h => ?_⟩, ⟨_, pt_cmp (pc_isN pa), fun C F δ σ H Q s h => ?_⟩⟩
  · refine qa C F δ σ H _ s (h.bind.mono fun d F' H' x k v r => ?_)
    rw [r.isN]; exact k.ok (Ext.refl x.le)
  · refine qa C F δ σ H _ s (h.bind.mono fun d F' H' x k v r => ?_)
    exact ⟨_, rfl, by rw [r.isN]; exact k.ok (Ext.refl x.le)⟩
theorem PBp.notN {j pos'} (ha : PRp X W a fa) : PBp X W (.Compare a [.IsNot] [.Constant .none j pos'] pos) (notNB fa) := by
  obtain ⟨ta, pa, qa⟩ := ha
  refine ⟨⟨_, pe_cmp (pc_notN pa), fun C F δ σ H Q s h => ?_⟩, ⟨_, pt_cmp (pc_notN pa), fun C F δ σ H Q s h => ?_⟩⟩
  · refine qa C F δ σ H _ s (h.bind.mono fun d F' H' x k v r => ?_)
    rw [r.isN]; exact k.ok (Ext.refl x.le)
  · refine qa C F δ σ H _ s (h.bind.mono fun d F' H' x k v r => ?_)
    exact ⟨_, rfl, by rw [r.isN]; exact k.ok (Ext.refl x.le)⟩
/-- a op b op' c, whole numbers -/
def chainB (g g' : Int → Int → Bool) (fa fb fc : Env → Res D) : Env → Res Bool := fun δ => (fa δ).bind fun x => (fb δ).bind fun y => (b2 g x y).bind fun k => if k = true then (fc δ).bind fun z => b2 g' y z else .ok false
theorem PBp.chain {op op' : CmpOp} {g g' : Int → Int → Bool} {fc : Env → Res D} {e : Expr} (ho : OpR X (compareOp op) (rI0 fun i j => .bl (g i j))) (ho' : OpR X (compareOp op') (rI0 fun i j => .bl (g' i j)))
    (ha : PRp X W a fa) (hb : PRp X W b fb) (hc : PRp X W e fc) (hm : lastMarks [op, op'] [b, e] = false) : PBp X W (.Compare a [op, op'] [b, e] pos) (chainB g g' fa fb fc) := by
  obtain ⟨ta, pa, qa⟩ := ha
  obtain ⟨tb, pb, qb⟩ := hb
  obtain ⟨tc, pc, qc⟩ := hc
  have main : ∀ C F δ σ H Q, Sat X.K C F δ σ H → Gd W σ F H (chainB g g' fa fb fc δ) (fun b _ H' => Q (.bl b) H') → tChain (rI0 fun i j => .bl (g i j)) (rI0 fun i j => .bl (g' i j)) ta tb tc σ H Q := by
    intro C F δ σ H Q s h
    refine qa C F δ σ H _ s (h.bind.mono fun d F1 H1 x1 h1 x rx => ?_)
    refine qb C F1 δ σ H1 _ (s.ext x1) (h1.bind.mono fun e F2 H2 x2 h2 y ry => ?_)
    have rx := rx.ext x2.ff x2.hh
    refine b2_run (W := W) (σ := σ) x2.le rx ry (h2.bind.mono fun k F3 H3 x3 h3 => ⟨k, rfl, ?_⟩)
    cases k with
    | false => rw [if_neg Bool.false_ne_true] at h3 ⊢; exact h3.ok (Ext.refl x3.le)
    | true =>
      rw [if_pos rfl] at h3 ⊢
      refine qc C F3 δ σ H3 _ (((s.ext x1).ext x2).ext x3) (h3.bind.mono fun z F4 H4 x4 h4 u ru => ?_)
      exact b2_run x4.le ((ry.ext x3.ff x3.hh).ext x4.ff x4.hh) ru h4
  exact ⟨⟨_, pe_chain ho ho' pa pb pc hm, main⟩, ⟨_, pt_chain ho ho' pa pb pc hm, fun C F δ σ H Q s h => main C F δ σ H _ s (h.mono fun b F' H' _ q => ⟨b, rfl, q⟩)⟩⟩
theorem PBp.leLe {fc : Env → Res D} {e : Expr} (ha : PRp X W a fa) (hb : PRp X W b fb) (hc : PRp X W e fc) (hm : lastMarks [.LtE, .LtE] [b, e] = false := by with_unfolding_all rfl) :
    PBp X W (.Compare a [.LtE, .LtE] [b, e] pos) (chainB (fun i j => decide (i ≤ j)) (fun i j => decide (i ≤ j)) fa fb fc) := PBp.chain op_le op_le ha hb hc hm
theorem PBp.leLt {fc : Env → Res D} {e : Expr} (ha : PRp X W a fa) (hb : PRp X W b fb) (hc : PRp X W e fc) (hm : lastMarks [.LtE, .Lt] [b, e] = false := by with_unfolding_all rfl) :
    PBp X W (.Compare a [.LtE, .Lt] [b, e] pos) (chainB (fun i j => decide (i ≤ j)) (fun i j => decide (i < j)) fa fb fc) := PBp.chain op_le op_lt ha hb hc hm

/-! ### and, or, not; a if t else b -/
variable {f g : Env → Res Bool} {rest : List Expr}
def andB (f g : Env → Res Bool) : Env → Res Bool := fun δ => (f δ).bind fun b => if b = true then g δ else .ok false
def orB (f g : Env → Res Bool) : Env → Res Bool := fun δ => (f δ).bind fun b => if b = true then .ok true else g δ
def notB (f : Env → Res Bool) : Env → Res Bool := fun δ => (f δ).bind fun b => .ok (!b)
theorem PBw.and1 (h : PBp X W a f) : PBw X W (.BoolOp .And [a] pos) f := by
  obtain ⟨⟨t, p, q⟩, t', p', q'⟩ := h
  exact ⟨⟨t, pe_one p, q⟩, t', pw_and1 p', q'⟩
theorem PBw.or1 (h : PBp X W a f) : PBw X W (.BoolOp .Or [a] pos) f := by
  obtain ⟨⟨t, p, q⟩, t', p', q'⟩ := h
  exact ⟨⟨t, pe_one p, q⟩, t', pw_or1 p', q'⟩
theorem PBw.and (h : PBp X W a f) (h2 : PBw X W (.BoolOp .And (b :: rest) pos) g) : PBw X W (.BoolOp .And (a :: b :: rest) pos) (andB f g) := by
  obtain ⟨⟨t, p, q⟩, t', p', q'⟩ := h
  obtain ⟨⟨u, r, v⟩, u', r', v'⟩ := h2
  refine ⟨⟨_, pe_and p r, fun C F δ σ H Q s h => ?_⟩, _, pw_and p' r', fun C F δ σ H Q s h => ?_⟩
  · refine q C F δ σ H _ s (h.bind.mono fun b F1 H1 x1 h1 => ⟨b, rfl, ?_⟩)
    cases b with
    | true => rw [if_pos rfl] at h1 ⊢; exact v C F1 δ σ H1 Q (s.ext x1) h1
    | false => rw [if_neg Bool.false_ne_true] at h1 ⊢; exact h1.ok (Ext.refl x1.le)
  · refine q' C F δ σ H _ s (h.bind.mono fun b F1 H1 x1 h1 => ?_)
    cases b with
    | true => rw [if_pos rfl] at h1 ⊢; exact v' C F1 δ σ H1 Q (s.ext x1) h1
    | false => rw [if_neg Bool.false_ne_true] at h1 ⊢; exact h1.ok (Ext.refl x1.le)
theorem PBw.or (h : PBp X W a f) (h2 : PBw X W (.BoolOp .Or (b :: rest) pos) g) : PBw X W (.BoolOp .Or (a :: b :: rest) pos) (orB f g) := by
  obtain ⟨⟨t, p, q⟩, t', p', q'⟩ := h
  obtain ⟨⟨u, r, v⟩, u', r', v'⟩ := h2
  refine ⟨⟨_, pe_or p r, fun C F δ σ H Q s h => ?_⟩, _, pw_or p' r', fun C F δ σ H Q s h => ?_⟩
  · refine q C F δ σ H _ s (h.bind.mono fun b F1 H1 x1 h1 => ⟨b, rfl, ?_⟩)
    cases b with
    | false => rw [if_neg Bool.false_ne_true] at h1 ⊢; exact v C F1 δ σ H1 Q (s.ext x1) h1
    | true => rw [if_pos rfl] at h1 ⊢; exact h1.ok (Ext.refl x1.le)
  · refine q' C F δ σ H _ s (h.bind.mono fun b F1 H1 x1 h1 => ?_)
    cases b with
    | false => rw [if_neg Bool.false_ne_true] at h1 ⊢; exact v' C F1 δ σ H1 Q (s.ext x1) h1
    | true => rw [if_pos rfl] at h1 ⊢; exact h1.ok (Ext.refl x1.le)
theorem PBp.not (h : PBp X W a f) : PBp X W (.UnaryOp .Not a pos) (notB f) := by
  obtain ⟨⟨t, p, q⟩, t', p', q'⟩ := h
  refine ⟨⟨_, pe_not p, fun C F δ σ H Q s h => ?_⟩, _, pt_not p', fun C F δ σ H Q s h => ?_⟩
  · exact q C F δ σ H _ s (h.bind.mono fun b F1 H1 x1 h1 => ⟨b, rfl, h1.ok (Ext.refl x1.le)⟩)
  · exact q' C F δ σ H _ s (h.bind.mono fun b F1 H1 x1 h1 => h1.ok (Ext.refl x1.le))
def ifD {α : Type} (t : Env → Res Bool) (fa fb : Env → Res α) : Env → Res α := fun δ => (t δ).bind fun b => if b = true then fa δ else fb δ
theorem PEp.ifE {c : Expr} {t : Env → Res Bool} (hc : PBp X W c t) (ha : PEp X W a fa) (hb : PEp X W b fb) : PEp X W (.IfExp c a b pos) (ifD t fa fb) := by
  obtain ⟨_, t', p', q'⟩ := hc
  obtain ⟨ta, pa, qa⟩ := ha
  obtain ⟨tb, pb, qb⟩ := hb
  refine ⟨_, pe_ifExp p' pa pb, fun C F δ σ H Q s h => ?_⟩
  refine q' C F δ σ H _ s (h.bind.mono fun b F1 H1 x1 h1 => ?_)
  cases b with
  | true => rw [if_pos rfl] at h1 ⊢; exact qa C F1 δ σ H1 Q (s.ext x1) h1
  | false => rw [if_neg Bool.false_ne_true] at h1 ⊢; exact qb C F1 δ σ H1 Q (s.ext x1) h1
end

/-! ### displays, items -/
section
variable {e : Expr} {es : List Expr} {f : Env → Res D} {fs : Env → Res (List D)} {pos : Pos}
def nilA : Env → Res (List D) := fun _ => .ok []
def consA (f : Env → Res D) (fs : Env → Res (List D)) : Env → Res (List D) := fun δ => (f δ).bind fun d => (fs δ).bind fun ds => .ok (d :: ds)
theorem PAp.nil : PAp X W [] nilA := ⟨_, pa_nil, fun C F δ σ H Q s g => g.ok (Ext.refl s.le) [] .nil⟩
theorem PAp.cons (h : PEp X W e f) (hr : PAp X W es fs) (hs : starEach (e :: es) X.env = (false, eval e X.env) :: starEach es X.env := by rfl) : PAp X W (e :: es) (consA f fs) := by
  obtain ⟨t, p, q⟩ := h
  obtain ⟨u, r, v⟩ := hr
  refine ⟨_, pa_cons p r hs, fun C F δ σ H Q s h => ?_⟩
  refine q C F δ σ H _ s (h.bind.mono fun d F1 H1 x1 h1 x rx => ?_)
  refine v C F1 δ σ H1 _ (s.ext x1) (h1.bind.mono fun ds F2 H2 x2 h2 vs rs => ?_)
  exact h2.ok (Ext.refl x2.le) _ (.cons (Rp.mono x2.ff _ _ rx) rs)
def szL (ds : List D) : Res (List D) := if ds.length ≤ sizeLine then .ok ds else .err
theorem Gd.szL {σ : L2.St} {F H : Hp} {ds : List D} {P : List D → Hp → Hp → Prop} (h : Gd W σ F H (szL ds) P) : ds.length ≤ sizeLine ∧ Gd W σ F H (.ok ds) P := by
  unfold DL.szL at h
  split at h
  · exact ⟨by assumption, h⟩
  · exact False.elim h
def tupD (fs : Env → Res (List D)) : Env → Res D := fun δ => (fs δ).bind fun ds => (szL ds).bind fun ds => .ok (.tuple ds)
def lstF (fs : Env → Res (List D)) : Env → Res (List D) := fun δ => (fs δ).bind szL
theorem PEp.tup {k : Nat} (h : PAp X W es fs) : PEp X W (.Tuple es k pos) (tupD fs) := by
  obtain ⟨t, p, q⟩ := h
  refine ⟨_, pe_tup p, fun C F δ σ H Q s h => ?_⟩
  refine q C F δ σ H _ s (h.bind.mono fun ds F1 H1 x1 h1 vs rs => ?_)
  obtain ⟨z, h2⟩ := Gd.szL h1.bind
  refine ⟨by rw [rs.length]; exact z, fun p hp => ?_⟩
  refine (h2.ok (Ext.refl x1.le)).ok ((Ext.refl x1.le).newF hp (.tup vs)) _ (.tup (SqT.of upd_same) (RpA.mono (same_new (x1.le.free hp) _) _ _ rs))
theorem PFp.lst (h : PAp X W es fs) : PFp X W (.List es pos) (lstF fs) := by
  obtain ⟨t, p, q⟩ := h
  refine ⟨_, pe_lst p, fun C F δ σ H Q s h => ?_⟩
  refine q C F δ σ H _ s ((Gd.bind2 h).mono fun ds F1 H1 x1 hb vs rs => ?_)
  obtain ⟨z, h2⟩ := Gd.szL hb
  refine ⟨by rw [rs.length]; exact z, fun p hp => ?_⟩
  exact h2.ok (x1.newH hp (.lst vs)) p vs (x1.hh.free hp) (x1.le.free hp) upd_same rs

end
end
end DL
/-! DL2: items, slices, in, calls. -/
namespace DL
open PySem PySem.Spec PyProof.Rows L2

/-! ### dicts by keys that are ints and texts -/
def keyOf : D → Option Key
  | .int i => some (.inl i)
  | .str x => some (.inr x)
  | _ => none
theorem keyOf_kD (k : Key) : keyOf (kD k) = some k := by cases k <;> rfl
theorem kD_of {d : D} {k : Key} (h : keyOf d = some k) : d = kD k := by
  cases d <;> cases h <;> rfl
def lookK (kvs : List (D × D)) (k : Key) : Option D := (kvs.find? fun kv => decide (keyOf kv.1 = some k)).map (·.2)
def putKD (kvs : List (D × D)) (k : Key) (d : D) : List (D × D) :=
  if (kvs.any fun kv => decide (keyOf kv.1 = some k)) = true then kvs.map (fun kv => if keyOf kv.1 = some k then (kv.1, d) else kv) else kvs ++ [(kD k, d)]
section
variable {K : PySem.W.Frag} {F H : Hp}
theorem RpK.any (k : Key) : ∀ {ks : List (Key × V)} {kvs : List (D × D)}, RpK K F ks kvs → (ks.any fun kv => decide (kv.1 = k)) = kvs.any fun kv => decide (keyOf kv.1 = some k)
  | _, _, .nil => rfl
  | _, _, .cons (k := j) r t => by
    rw [List.any_cons, List.any_cons, RpK.any k t]
    have : decide (j = k) = decide (keyOf (kD j) = some k) := by
      rw [keyOf_kD]
      by_cases e : j = k
      · simp [e]
      · rw [decide_eq_false e, decide_eq_false (fun z => e (Option.some.inj z))]
    show (decide (j = k) || _) = (decide (keyOf (kD j) = some k) || _)
    rw [this]
theorem RpK.val (k : Key) : ∀ {ks : List (Key × V)} {kvs : List (D × D)}, RpK K F ks kvs → (valV ks k = none ∧ lookK kvs k = none) ∨ ∃ v d, valV ks k = some v ∧ lookK kvs k = some d ∧ Rp K F v d
  | _, _, .nil => .inl ⟨rfl, rfl⟩
  | _, _, .cons (k := j) (v := v) (d := d) r t => by
    by_cases e : j = k
    · refine .inr ⟨v, d, valV_pos (p := (j, v)) e, ?_, r⟩
      unfold lookK
      rw [List.find?_cons_of_pos (by rw [keyOf_kD, e]; simp)]
      rfl
    · have h1 := valV_neg (p := (j, v)) (r := by assumption) e
      have h2 : ∀ r : List (D × D), lookK ((kD j, d) :: r) k = lookK r k := fun r => by
        unfold lookK
        rw [List.find?_cons_of_neg (by rw [keyOf_kD]; simp; exact e)]
      rw [h1, h2]
      exact RpK.val k t
theorem RpK.repl (k : Key) {v : V} {d : D} (r : Rp K F v d) : ∀ {ks : List (Key × V)} {kvs : List (D × D)}, RpK K F ks kvs →
    RpK K F (ks.map fun kv => if kv.1 = k then (kv.1, v) else kv) (kvs.map fun kv => if keyOf kv.1 = some k then (kv.1, d) else kv)
  | _, _, .nil => .nil
  | _, _, .cons (k := j) r' t => by
    rw [List.map_cons, List.map_cons]
    by_cases e : j = k
    · rw [if_pos e, if_pos (by rw [keyOf_kD, e])]
      exact .cons r (RpK.repl k r t)
    · rw [if_neg e, if_neg (by rw [keyOf_kD]; exact fun z => e (Option.some.inj z))]
      exact .cons r' (RpK.repl k r t)
theorem RpK.append : ∀ {ks js : List (Key × V)} {kvs jvs : List (D × D)}, RpK K F ks kvs → RpK K F js jvs → RpK K F (ks ++ js) (kvs ++ jvs)
  | _, _, _, _, .nil, h => h
  | _, _, _, _, .cons r t, h => .cons r (RpK.append t h)
theorem RpK.put (k : Key) {v : V} {d : D} (r : Rp K F v d) {ks : List (Key × V)} {kvs : List (D × D)} (h : RpK K F ks kvs) : RpK K F (putK ks k v) (putKD kvs k d) := by
  unfold putK putKD
  rw [h.any k]
  split
  · exact h.repl k r
  · exact h.append (.cons r .nil)
theorem RpK.length : ∀ {ks : List (Key × V)} {kvs : List (D × D)}, RpK K F ks kvs → ks.length = kvs.length
  | _, _, .nil => rfl
  | _, _, .cons _ h => by simp [RpK.length h]
theorem RpK.keys : ∀ {ks : List (Key × V)} {kvs : List (D × D)}, RpK K F ks kvs → RpA K F (ks.map fun kv => kV kv.1) (kvs.map (·.1))
  | _, _, .nil => .nil
  | _, _, .cons (k := j) _ h => .cons (by cases j with | inl i => exact .int i | inr x => exact .str x) (RpK.keys h)
/-- the law's own script, told by its form -/
def scrOf : List (D × D) → Option (List D)
  | [(.none, .list ds)] => some ds
  | _ => none
theorem RpK.noScr {ks : List (Key × V)} {kvs : List (D × D)} (h : RpK K F ks kvs) : scrOf kvs = none := by
  cases h with
  | nil => rfl
  | @cons k v ks d kvs r t => cases k <;> rfl
theorem Rt.dict {v : V} {kvs : List (D × D)} (r : Rt K F H v (.dict kvs)) (le : Same F H) :
    (∃ a ks, v = .ref a ∧ H a = some (.dK ks) ∧ RpK K F ks kvs ∧ scrOf kvs = none) ∨ ∃ (a : Addr) (ns : List Int), v = .ref a ∧ SqL K H a (ns.map V.int) ∧ scrOf kvs = some (ns.map PyData.int) := by
  rcases r with ⟨a, ks, h1, h2, h3⟩ | r
  · exact .inl ⟨a, ks, h1, h2, h3, h3.noScr⟩
  · cases r with
    | dK h2 h3 => exact .inl ⟨_, _, rfl, le _ _ h2, h3, h3.noScr⟩
    | scr h => exact .inr ⟨_, _, rfl, le.seq h, rfl⟩
theorem Rp.key {v : V} {d : D} {k : Key} (r : Rp K F v d) (h : keyOf d = some k) : v = kV k := by
  cases d with
  | int i => cases h; cases r; rfl
  | str i => cases h; cases r; rfl
  | _ => cases h
theorem Rt.key {v : V} {d : D} {k : Key} (r : Rt K F H v d) (h : keyOf d = some k) : v = kV k := by
  cases d with
  | int i => exact Rp.key (K := K) (F := F) r h
  | str i => exact Rp.key (K := K) (F := F) r h
  | _ => cases h
end

section
variable {X : Cx} {N : List Str} {sc : Scope} {fn : Str → Bool} {W : WS}
theorem Ctx.u1 (c : Ctx X N sc fn) : X.A.units + 1 < cLine := Nat.lt_of_le_of_lt (Nat.add_le_add_left (by decide) _) c.un

/-! ### an item -/
def rIxD : R2 := fun x y H Q => ∃ a v, x = .ref a ∧ DGet H a y (some v) ∧ Q v H
theorem ix_dict (hu : X.A.units + 1 < cLine) : IxR X rIxD := by
  intro value slice pins s σ H x y v u Q I rx ry h hs
  obtain ⟨a, z, ex, g, q⟩ := h
  subst ex
  obtain rfl : v = Value.ref a := rx
  have hT := dict_typeIs I g
  unfold subscriptTail
  refine wpAny_bind ?_
  rw [getitemInPython_of_ne hT.not_modules]
  refine wpAny_bind (wpAny_specialOf hT PySem.F.slot_dict_getitem.lookup ?_)
  have fin : wpAny (model X.prog X.w) X.A (subscripted slice false (.ref a) u) (fun r s₃ => wpAny (model X.prog X.w) X.A (letTemporaryGo value (.ref a) r >>= fun _ => pure r) (EP X pins σ Q) X.xe s₃) X.xe s := by
    rw [hs]
    exact wpAny_operating (d_getItem hu I g ry fun w' s3 I3 rw' => wpAny_bind (wpAny_letTemporaryGo (wpAny_pure ⟨z, H, I3, rw', q⟩)))
  first
    | exact wpAny_pure (wpAny_bind fin)
    | exact wpAny_bind (wpAny_pure (wpAny_bind fin))
    | exact wpAny_bind fin
def gIx : D → D → Res D
  | .list ds, .int i => ofO (atI ds i)
  | .tuple ds, .int i => ofO (atI ds i)
  | .dict kvs, k => match scrOf kvs with
    | some ds => (match k with
      | .int i => ofO (atI ds i)
      | _ => .err)
    | none => (match keyOf k with
      | some k => ofO (lookK kvs k)
      | none => .err)
  | _, _ => .err
theorem ofO_ok {α : Type} {o : Option α} {σ : L2.St} {F H : Hp} {P : α → Hp → Hp → Prop} (h : Gd W σ F H (ofO o) P) : ∃ a, o = some a ∧ Gd W σ F H (.ok a) P := by
  cases o with
  | some a => exact ⟨a, rfl, h⟩
  | none => exact False.elim h
theorem RpA.atI {K : PySem.W.Frag} {F : Hp} {vs : List V} {ds : List D} {i : Int} {d : D} (h : RpA K F vs ds) (e : atI ds i = some d) : ∃ v, L2.atI vs i = some v ∧ Rp K F v d := by
  unfold L2.atI at e ⊢
  rw [h.length]
  cases q : ixN ds.length i with
  | none => rw [q] at e; cases e
  | some j =>
    rw [q] at e
    exact h.get e
def ixD (fa fb : Env → Res D) : Env → Res D := bin fa fb gIx
section
variable {a b e : Expr} {fa fb f : Env → Res D} {pos : Pos}
theorem PEp.ix (c : Ctx X N sc fn) (ha : PRp X W a fa) (hb : PRp X W b fb) (hs : PlainIx b := by exact fun _ _ => rfl) : PEp X W (.Subscript a b pos) (ixD fa fb) := by
  obtain ⟨ta, pa, qa⟩ := ha
  obtain ⟨tb, pb, qb⟩ := hb
  refine ⟨_, pe_ix ((ix_list.or ix_tup).or (ix_dict c.u1)) pa pb hs, fun C F δ σ H Q s h => ?_⟩
  refine bin_run (a := a) (b := b) (P := fun Q d F' H' => ∀ v, Rp X.K F' v d → Q v H') qa qb s h fun F' H' x y d e x1 rx ry h => ?_
  unfold gIx at h
  split at h
  · rename_i ds i
    obtain ⟨p, vs, ex, hs, ra⟩ := rx
    obtain ⟨z, ez, h⟩ := ofO_ok h
    obtain ⟨v, ev, rv⟩ := ra.atI ez
    exact .inl (.inl ⟨p, vs, i, v, ex, Rt.int ry, SqL.of hs, ev, h.ok (Ext.refl x1.le) v rv⟩)
  · rename_i ds i
    cases (show Rp X.K F' x (.tuple ds) from rx) with
    | tup hs ra =>
      obtain ⟨z, ez, h⟩ := ofO_ok h
      obtain ⟨v, ev, rv⟩ := ra.atI ez
      exact .inl (.inr ⟨_, _, i, v, rfl, Rt.int ry, Same.sqT x1.le hs, ev, h.ok (Ext.refl x1.le) v rv⟩)
  · rename_i kvs k
    rcases rx.dict x1.le with ⟨p, ks, ex, hs, ra, e0⟩ | ⟨p, ns, ex, hs, e0⟩
    · rw [e0] at h
      dsimp only at h
      split at h
      · rename_i k' hk
        obtain ⟨z, ez, h⟩ := ofO_ok h
        rcases ra.val k' with ⟨_, l2⟩ | ⟨v, d, l1, l2, rv⟩
        · rw [l2] at ez; cases ez
        · rw [l2] at ez
          cases ez
          refine .inr ⟨p, v, ex, ?_, h.ok (Ext.refl x1.le) v rv⟩
          rw [ry.key hk, ← l1]
          exact DGet.k hs
      · exact False.elim h
    · rw [e0] at h
      dsimp only at h
      split at h
      · rename_i i
        obtain ⟨z, ez, h⟩ := ofO_ok h
        obtain ⟨v, ev, rv⟩ := (RpA.ints (K := X.K) (F := F') ns).atI ez
        exact .inl (.inl ⟨p, _, i, v, ex, Rt.int ry, hs, ev, h.ok (Ext.refl x1.le) v rv⟩)
      · exact False.elim h
  · exact False.elim h

/-! ### slices -/
def POp (X : Cx) (W : WS) (e : Option Expr) (f : Env → Res (Option Int)) : Prop := ∃ t, PO X e t ∧ ∀ C F δ σ H Q, Sat X.K C F δ σ H → Gd W σ F H (f δ) (fun o _ H' => Q o H') → t σ H Q
def noO : Env → Res (Option Int) := fun _ => .ok none
def gO : D → Res (Option Int)
  | .int i => .ok (some i)
  | _ => .err
def someO (f : Env → Res D) : Env → Res (Option Int) := un f gO
theorem POp.no : POp X W none noO := ⟨_, po_none, fun C F δ σ H Q s g => g.ok (Ext.refl s.le)⟩
theorem POp.some (h : PRp X W e f) : POp X W (some e) (someO f) := by
  obtain ⟨t, p, q⟩ := h
  refine ⟨_, po_some p, fun C F δ σ H Q s h => ?_⟩
  refine q C F δ σ H _ s (h.bind.mono fun d F1 H1 x1 h1 v rv => ?_)
  cases d with
  | int i => exact ⟨i, Rt.int rv, h1.ok (Ext.refl x1.le)⟩
  | _ => exact False.elim h1
def cutL {α : Type} (xs : List α) (lo hi : Option Int) : List α := (xs.drop (HT.sIx xs.length 0 lo)).take (HT.sIx xs.length xs.length hi - HT.sIx xs.length 0 lo)
theorem RpA.cut {K : PySem.W.Frag} {F : Hp} {vs : List V} {ds : List D} (h : RpA K F vs ds) (lo hi : Option Int) : RpA K F (cutV vs lo hi) (cutL ds lo hi) := by
  unfold cutV cutL
  rw [h.length]
  exact (h.drop _).take _
def gLst : D → Res (List D)
  | .list ds => .ok ds
  | .dict kvs => ofO (scrOf kvs)
  | _ => .err
def ofLst : D → Res (List D)
  | .list ds => .ok ds
  | _ => .err
def gTup : D → Res (List D)
  | .tuple ds => .ok ds
  | _ => .err
def slF (f : Env → Res D) (fl fu : Env → Res (Option Int)) : Env → Res (List D) := fun δ => (f δ).bind fun x => (fl δ).bind fun l => (fu δ).bind fun u => (gLst x).bind fun ds => .ok (cutL ds l u)
def slT (f : Env → Res D) (fl fu : Env → Res (Option Int)) : Env → Res D := fun δ => (f δ).bind fun x => (fl δ).bind fun l => (fu δ).bind fun u => (gTup x).bind fun ds => .ok (.tuple (cutL ds l u))
theorem PFp.slice {lo hi : Option Expr} {fl fu : Env → Res (Option Int)} {p2 : Pos} (ha : PRp X W a fa) (hl : POp X W lo fl) (hu : POp X W hi fu) : PFp X W (.Subscript a (.Slice lo hi none p2) pos) (slF fa fl fu) := by
  obtain ⟨t, p, q⟩ := ha
  obtain ⟨tl, pl, ql⟩ := hl
  obtain ⟨tu, pu, qu⟩ := hu
  refine ⟨_, pe_slice sl_list p pl pu, fun C F δ σ H Q s h => ?_⟩
  refine q C F δ σ H _ s ((Gd.bind2 h).mono fun d F1 H1 x1 h1 x rx => ?_)
  refine ql C F1 δ σ H1 _ (s.ext x1) (((h1.bind2).ext x1).mono fun l F2 H2 x2 h2 => ?_)
  refine qu C F2 δ σ H2 _ ((s.ext x1).ext x2) (((h2.bind2).ext (x1.trans x2)).mono fun u F3 H3 x3 h3 => ?_)
  cases d with
  | list ds =>
    obtain ⟨a, vs, ex, hs, ra⟩ := rx
    have x13 := x1.trans (x2.trans x3)
    refine ⟨a, vs, ex, SqL.of (x3.hh _ _ (x2.hh _ _ hs)), fun p hp => ?_⟩
    have h4 : Gd W σ F H (.ok (cutL ds l u)) _ := h3
    exact h4.ok (x13.newH hp _) p _ (x13.hh.free hp) (x13.le.free hp) upd_same (RpA.mono x3.ff _ _ (RpA.mono x2.ff _ _ (ra.cut l u)))
  | dict kvs =>
    have x13 := x1.trans (x2.trans x3)
    have rx3 := (rx.ext x2.ff x2.hh).ext x3.ff x3.hh
    rcases rx3.dict x3.le with ⟨p, ks, ex, hs, ra, e0⟩ | ⟨p, ns, ex, hs, e0⟩
    · dsimp only [gLst] at h3
      rw [e0] at h3; exact False.elim h3
    · dsimp only [gLst] at h3
      rw [e0] at h3
      refine ⟨p, _, ex, hs, fun p hp => ?_⟩
      have h4 : Gd W σ F H (.ok (cutL (ns.map PyData.int) l u)) _ := h3
      exact h4.ok (x13.newH hp _) p _ (x13.hh.free hp) (x13.le.free hp) upd_same ((RpA.ints ns).cut l u)
  | _ => exact False.elim h3
theorem PEp.slice {lo hi : Option Expr} {fl fu : Env → Res (Option Int)} {p2 : Pos} (ha : PRp X W a fa) (hl : POp X W lo fl) (hu : POp X W hi fu) : PEp X W (.Subscript a (.Slice lo hi none p2) pos) (slT fa fl fu) := by
  obtain ⟨t, p, q⟩ := ha
  obtain ⟨tl, pl, ql⟩ := hl
  obtain ⟨tu, pu, qu⟩ := hu
  refine ⟨_, pe_slice sl_tupA p pl pu, fun C F δ σ H Q s h => ?_⟩
  refine q C F δ σ H _ s ((Gd.bind2 h).mono fun d F1 H1 x1 h1 x rx => ?_)
  refine ql C F1 δ σ H1 _ (s.ext x1) (((h1.bind2).ext x1).mono fun l F2 H2 x2 h2 => ?_)
  refine qu C F2 δ σ H2 _ ((s.ext x1).ext x2) (((h2.bind2).ext (x1.trans x2)).mono fun u F3 H3 x3 h3 => ?_)
  cases d with
  | tuple ds =>
    cases (show Rp X.K F1 x (.tuple ds) from rx) with
    | @tup a vs _ hs ra =>
      have x13 := x1.trans (x2.trans x3)
      have rc := RpA.mono x3.ff _ _ (RpA.mono x2.ff _ _ (ra.cut l u))
      have hs3 : SqT X.K F3 a vs := Same.sqT x3.ff (Same.sqT x2.ff hs)
      refine ⟨a, vs, rfl, Same.sqT x13.le hs3, fun hw => ?_, fun hw p hp => ?_⟩
      · have e1 : cutV vs l u = vs := by
          unfold cutV
          rw [hw.1, hw.2, List.drop_zero, Nat.sub_zero, List.take_length]
        rw [e1] at rc
        have h4 : Gd W σ F H (.ok (PyData.tuple (cutL ds l u))) _ := h3
        exact h4.ok x13 _ (.tup hs3 rc)
      · have h4 : Gd W σ F H (.ok (PyData.tuple (cutL ds l u))) _ := h3
        exact h4.ok (x13.newF hp _) _ (.tup (SqT.of upd_same) (RpA.mono (same_new (x13.le.free hp) _) _ _ rc))
  | _ => exact False.elim h3

/-! ### in, not in -/
def flatD : D → Bool
  | .none => true
  | .bool _ => true
  | .int _ => true
  | .str _ => true
  | _ => false
theorem flat_v {K : PySem.W.Frag} {F : Hp} {v : V} {d : D} (r : Rp K F v d) (h : flatD d = true) : flatV v = true := by
  cases r <;> first | rfl | cases h
theorem flat_all {K : PySem.W.Frag} {F : Hp} : ∀ {vs : List V} {ds : List D}, RpA K F vs ds → ds.all flatD = true → vs.all flatV = true
  | _, _, .nil, _ => rfl
  | _, _, .cons r t, h => by
    rw [List.all_cons, Bool.and_eq_true] at h
    rw [List.all_cons, flat_v r h.1, flat_all t h.2]; rfl
theorem flat_eq {K : PySem.W.Frag} {F F' : Hp} {x y : V} {d e : D} (rx : Rp K F x d) (ry : Rp K F' y e) (hd : flatD d = true) (he : flatD e = true) : eqV x y = PyData.eqv d e := by
  cases rx <;> cases ry <;> first | (simp only [eqV, PyData.eqv]; done) | rfl | cases hd | cases he
theorem flat_in {K : PySem.W.Frag} {F F' : Hp} {x : V} {d : D} (rx : Rp K F' x d) (hd : flatD d = true) : ∀ {vs : List V} {ds : List D}, RpA K F vs ds → ds.all flatD = true → inV x vs = ds.any fun z => PyData.eqv z d
  | _, _, .nil, _ => rfl
  | _, _, .cons r t, h => by
    rw [List.all_cons, Bool.and_eq_true] at h
    have ih := flat_in rx hd t h.2
    unfold inV at ih ⊢
    rw [List.any_cons, List.any_cons, ih, flat_eq r rx h.1 hd]
/-- x in y: the answer -/
def inA (d : D) : D → Option Bool
  | .list ds => if flatD d = true ∧ ds.all flatD = true then some (ds.any fun z => PyData.eqv z d) else if eqOk d = true ∧ eqOk (.list ds) = true then some (ds.any fun z => PyData.eqv z d) else none
  | .tuple ds => if flatD d = true ∧ ds.all flatD = true then some (ds.any fun z => PyData.eqv z d) else none
  | .dict kvs => match scrOf kvs with
    | some _ => none
    | none => (keyOf d).map fun k => (lookK kvs k).isSome
  | _ => none
def gIn (d e : D) : Res Bool := ofO (inA d e)
def gNin (d e : D) : Res Bool := (gIn d e).bind fun b => .ok (!b)
def rInK (neg : Bool) : R2 := fun y x H Q => ∃ a o, x = .ref a ∧ DGet H a y o ∧ Q (.bl (if neg then !o.isSome else o.isSome)) H
theorem op_inK (hu : X.A.units + 1 < cLine) : OpR X (compareOp .In) (rInK false) := by
  intro pins s σ H x y v u Q I rx ry h
  obtain ⟨a, o, ey, g, q⟩ := h
  subst ey
  obtain rfl : u = Value.ref a := ry
  exact d_in hu I g rx fun s3 I3 => ⟨.bl o.isSome, H, I3, rfl, q⟩
theorem op_ninK (hu : X.A.units + 1 < cLine) : OpR X (compareOp .NotIn) (rInK true) := by
  intro pins s σ H x y v u Q I rx ry h
  obtain ⟨a, o, ey, g, q⟩ := h
  subst ey
  obtain rfl : u = Value.ref a := ry
  exact d_notIn hu I g rx fun s3 I3 => ⟨.bl (!o.isSome), H, I3, rfl, q⟩
theorem in_run {K : PySem.W.Frag} (neg : Bool) {F H : Hp} {x y : V} {d e : D} {b : Bool} {Q : VK} (le : Same F H) (rx : Rt K F H x d) (ry : Rt K F H y e) (h : inA d e = some b) (q : Q (.bl (if neg then !b else b)) H) :
    (rIn K neg x y H Q ∨ (∃ d ds, Dp K H x d ∧ Dp K H y (.list ds) ∧ SeqAt.shaped d = true ∧ SeqAt.shaped (.list ds) = true ∧ Q (.bl (if neg then !(ds.any fun z => PyData.eqv z d) else ds.any fun z => PyData.eqv z d)) H)) ∨ rInK neg x y H Q := by
  unfold inA at h
  split at h
  · rename_i ds
    split at h
    · rename_i c
      cases h
      obtain ⟨a, vs, ey, hs, ra⟩ := ry
      have rx' := rx.rp le
      refine .inl (.inl ⟨a, vs, ey, .inl (SqL.of hs), flat_v rx' c.1, flat_all ra c.2, ?_⟩)
      rw [flat_in rx' c.1 ra c.2]; exact q
    · split at h
      · rename_i c
        cases h
        exact .inl (.inr ⟨d, ds, Rp.dp _ _ (eqOk_lay c.1) (rx.rp le), Rp.dp _ _ (eqOk_lay c.2) (ry.rp le), c.1, c.2, q⟩)
      · cases h
  · rename_i ds
    split at h
    · rename_i c
      cases h
      cases (show Rp K F y (.tuple ds) from ry) with
      | tup hs ra =>
        have rx' := rx.rp le
        refine .inl (.inl ⟨_, _, rfl, .inr (Same.sqT le hs), flat_v rx' c.1, flat_all ra c.2, ?_⟩)
        rw [flat_in rx' c.1 ra c.2]; exact q
    · cases h
  · rename_i kvs
    rcases ry.dict le with ⟨a, ks, ey, hs, ra, e0⟩ | ⟨a, ns, ey, hs, e0⟩
    · rw [e0] at h
      dsimp only at h
      cases hk : keyOf d with
      | none => rw [hk] at h; cases h
      | some k =>
        rw [hk] at h
        cases h
        dsimp only at q
        refine .inr ⟨a, valV ks k, ey, by rw [rx.key hk]; exact DGet.k hs, ?_⟩
        rcases ra.val k with ⟨l1, l2⟩ | ⟨v, d', l1, l2, _⟩
        · rw [l2] at q; rw [l1]; exact q
        · rw [l2] at q; rw [l1]; exact q
    · rw [e0] at h; cases h
  · cases h
def inB (fa fb : Env → Res D) : Env → Res Bool := bin fa fb gIn
def ninB (fa fb : Env → Res D) : Env → Res Bool := bin fa fb gNin
theorem Ctx.u65 (c : Ctx X N sc fn) : X.A.units + 65 < cLine := Nat.lt_of_le_of_lt (Nat.add_le_add_left (by decide) _) c.un
theorem PBp.in_ (c : Ctx X N sc fn) (ha : PRp X W a fa) (hb : PRp X W b fb) (hm : behindInMarks .In b = false := by rfl) : PBp X W (.Compare a [.In] [b] pos) (inB fa fb) :=
  PBp.cmp ((op_in_seq.or (op_inD c.u65)).or (op_inK c.u1)) (fun σ F H x y d e Q le rx ry h => by
    obtain ⟨b, eb, h⟩ := ofO_ok h
    exact in_run false le rx ry eb (h.ok (Ext.refl le))) ha hb hm
theorem PBp.nin (c : Ctx X N sc fn) (ha : PRp X W a fa) (hb : PRp X W b fb) (hm : behindInMarks .NotIn b = false := by rfl) : PBp X W (.Compare a [.NotIn] [b] pos) (ninB fa fb) :=
  PBp.cmp ((op_notIn_seq.or (op_notInD c.u65)).or (op_ninK c.u1)) (fun σ F H x y d e Q le rx ry h => by
    unfold gNin gIn at h
    cases q : inA d e with
    | none => rw [q] at h; exact False.elim h
    | some b => rw [q] at h; exact in_run true le rx ry q ((show Gd W σ F H (.ok (!b)) _ from h).ok (Ext.refl le))) ha hb hm

/-! ### built-in calls -/
/-- a built-in function or type of one argument, an answer that is no new thing -/
theorem PEp.b1 {id : String} {r : List V → Hp → VK → Prop} {g : D → Res D} {x : Str} {p : Pos} (c : Ctx X N sc fn) (hc : CallR X (.builtin id) r)
    (hr : ∀ σ F H v d Q, Same F H → Rt X.K F H v d → Gd W σ F H (g d) (fun d F' H' => ∀ v, Rp X.K F' v d → Q v H') → r [v] H Q)
    (hm : X.mg x = none) (ha : PRp X W a fa) (hg : isGl sc x = true := by rfl) (hv : bootBuiltins x = some (.builtin id) := by decide +kernel) (hn : x ≠ "__name__" := by decide) (hdb : (x == ("__debug__" : Str)) = false := by decide)
    (he : starEach [a] X.env = (false, eval a X.env) :: starEach [] X.env := by rfl) : PEp X W (.Call (.Name x p) [a] [] pos) (un fa g) := by
  obtain ⟨t, pa, qa⟩ := ha
  refine ⟨_, pe_callB hc (c.gl hg) hm hv (pa_cons pa pa_nil he) hn hdb he rfl, fun C F δ σ H Q s h => ?_⟩
  refine qa C F δ σ H _ s (h.bind.mono fun d F1 H1 x1 h1 v rv => ?_)
  exact hr σ F1 H1 v d Q x1.le rv h1
theorem PEp.bT {T : String} {r : List V → Hp → VK → Prop} {g : D → Res D} {x : Str} {p : Pos} (c : Ctx X N sc fn) (hc : CallR X (.type T) r)
    (hr : ∀ σ F H v d Q, Same F H → Rt X.K F H v d → Gd W σ F H (g d) (fun d F' H' => ∀ v, Rp X.K F' v d → Q v H') → r [v] H Q)
    (hm : X.mg x = none) (ha : PRp X W a fa) (hg : isGl sc x = true := by rfl) (hv : bootBuiltins x = some (.type T) := by decide +kernel) (hn : x ≠ "__name__" := by decide) (hdb : (x == ("__debug__" : Str)) = false := by decide)
    (he : starEach [a] X.env = (false, eval a X.env) :: starEach [] X.env := by rfl) : PEp X W (.Call (.Name x p) [a] [] pos) (un fa g) := by
  obtain ⟨t, pa, qa⟩ := ha
  refine ⟨_, pe_callTy hc (c.gl hg) hm hv (pa_cons pa pa_nil he) hn hdb he rfl, fun C F δ σ H Q s h => ?_⟩
  refine qa C F δ σ H _ s (h.bind.mono fun d F1 H1 x1 h1 v rv => ?_)
  exact hr σ F1 H1 v d Q x1.le rv h1
/-- .. that makes a new list -/
theorem PFp.bT {T : String} {r : List V → Hp → VK → Prop} {g : D → Res (List D)} {x : Str} {p : Pos} (c : Ctx X N sc fn) (hc : CallR X (.type T) r)
    (hr : ∀ σ F0 H0 F H v d Q, Ext F0 H0 F H → Rt X.K F H v d → Gd W σ F0 H0 (g d) (fun ds F' H' => ∀ a vs, H0 a = none → F' a = none → H' a = some (.lst vs) → RpA X.K F' vs ds → Q (.ref a) H') → r [v] H Q)
    (hm : X.mg x = none) (ha : PRp X W a fa) (hg : isGl sc x = true := by rfl) (hv : bootBuiltins x = some (.type T) := by decide +kernel) (hn : x ≠ "__name__" := by decide) (hdb : (x == ("__debug__" : Str)) = false := by decide)
    (he : starEach [a] X.env = (false, eval a X.env) :: starEach [] X.env := by rfl) : PFp X W (.Call (.Name x p) [a] [] pos) (un fa g) := by
  obtain ⟨t, pa, qa⟩ := ha
  refine ⟨_, pe_callTy hc (c.gl hg) hm hv (pa_cons pa pa_nil he) hn hdb he rfl, fun C F δ σ H Q s h => ?_⟩
  refine qa C F δ σ H _ s ((Gd.bind2 h).mono fun d F1 H1 x1 h1 v rv => ?_)
  exact hr σ F H F1 H1 v d Q x1 rv h1
theorem PFp.b1 {id : String} {r : List V → Hp → VK → Prop} {g : D → Res (List D)} {x : Str} {p : Pos} (c : Ctx X N sc fn) (hc : CallR X (.builtin id) r)
    (hr : ∀ σ F0 H0 F H v d Q, Ext F0 H0 F H → Rt X.K F H v d → Gd W σ F0 H0 (g d) (fun ds F' H' => ∀ a vs, H0 a = none → F' a = none → H' a = some (.lst vs) → RpA X.K F' vs ds → Q (.ref a) H') → r [v] H Q)
    (hm : X.mg x = none) (ha : PRp X W a fa) (hg : isGl sc x = true := by rfl) (hv : bootBuiltins x = some (.builtin id) := by decide +kernel) (hn : x ≠ "__name__" := by decide) (hdb : (x == ("__debug__" : Str)) = false := by decide)
    (he : starEach [a] X.env = (false, eval a X.env) :: starEach [] X.env := by rfl) : PFp X W (.Call (.Name x p) [a] [] pos) (un fa g) := by
  obtain ⟨t, pa, qa⟩ := ha
  refine ⟨_, pe_callB hc (c.gl hg) hm hv (pa_cons pa pa_nil he) hn hdb he rfl, fun C F δ σ H Q s h => ?_⟩
  refine qa C F δ σ H _ s ((Gd.bind2 h).mono fun d F1 H1 x1 h1 v rv => ?_)
  exact hr σ F H F1 H1 v d Q x1 rv h1
/-- two arguments -/
theorem PEp.b2 {id : String} {r : List V → Hp → VK → Prop} {g : D → D → Res D} {x : Str} {p : Pos} (c : Ctx X N sc fn) (hc : CallR X (.builtin id) r)
    (hr : ∀ σ F H v u d e Q, Same F H → Rt X.K F H v d → Rt X.K F H u e → Gd W σ F H (g d e) (fun d F' H' => ∀ v, Rp X.K F' v d → Q v H') → r [v, u] H Q)
    (hm : X.mg x = none) (ha : PRp X W a fa) (hb : PRp X W b fb) (hg : isGl sc x = true := by rfl) (hv : bootBuiltins x = some (.builtin id) := by decide +kernel) (hn : x ≠ "__name__" := by decide) (hdb : (x == ("__debug__" : Str)) = false := by decide)
    (he : starEach [a, b] X.env = (false, eval a X.env) :: starEach [b] X.env := by rfl) (he2 : starEach [b] X.env = (false, eval b X.env) :: starEach [] X.env := by rfl) (hpl : (backTo pos (starEach [b] X.env)).any (·.1) = false := by rfl) : PEp X W (.Call (.Name x p) [a, b] [] pos) (bin fa fb g) := by
  obtain ⟨t, pa, qa⟩ := ha
  obtain ⟨u, pb, qb⟩ := hb
  refine ⟨_, pe_callB hc (c.gl hg) hm hv (pa_cons pa (pa_cons pb pa_nil he2) he) hn hdb he hpl, fun C F δ σ H Q s h => ?_⟩
  refine qa C F δ σ H _ s (h.bind.mono fun d F1 H1 x1 h1 v rv => ?_)
  refine qb C F1 δ σ H1 _ (s.ext x1) (h1.bind.mono fun e F2 H2 x2 h2 u ru => ?_)
  exact hr σ F2 H2 v u d e Q x2.le (rv.ext x2.ff x2.hh) ru h2

/-- len -/
def gLen : D → Res D
  | .list ds => .ok (.int ds.length)
  | .tuple ds => .ok (.int ds.length)
  | .dict kvs => match scrOf kvs with
    | some ds => .ok (.int ds.length)
    | none => .ok (.int kvs.length)
  | _ => .err
def lenD (f : Env → Res D) : Env → Res D := un f gLen
theorem call_lenDict : CallR X (.builtin "len") (fun xs H Q => ∃ a kvs, xs = [V.ref a] ∧ H a = some (.dK kvs) ∧ Q (.int kvs.length) H) := by
  intro pins s σ H xs us Q I r h
  obtain ⟨a, kvs, rfl, hk, q⟩ := h
  obtain ⟨u, rfl, rx⟩ := vals1 r
  obtain rfl : u = Value.ref a := rx
  exact d_len I (.inl hk) fun t s' I' => ⟨.int kvs.length, H, I', ⟨t, rfl⟩, q⟩
theorem PEp.len {p : Pos} (c : Ctx X N sc fn) (hm : X.mg "len" = none) (ha : PRp X W a fa) (hg : isGl sc "len" = true := by rfl)
    (he : starEach [a] X.env = (false, eval a X.env) :: starEach [] X.env := by rfl) : PEp X W (.Call (.Name "len" p) [a] [] pos) (lenD fa) :=
  PEp.b1 c (call_len_seq.or call_lenDict) (fun σ F H v d Q le r h => by
    cases d with
    | list ds =>
      obtain ⟨a, vs, ex, hs, ra⟩ := r
      refine .inl ⟨a, vs, by rw [ex], .inl (SqL.of hs), ?_⟩
      rw [ra.length]; exact h.ok (Ext.refl le) _ (.int _)
    | tuple ds =>
      cases (show Rp X.K F v (.tuple ds) from r) with
      | tup hs ra =>
        refine .inl ⟨_, _, rfl, .inr (Same.sqT le hs), ?_⟩
        rw [ra.length]; exact h.ok (Ext.refl le) _ (.int _)
    | dict kvs =>
      dsimp only [gLen] at h
      rcases r.dict le with ⟨a, ks, ex, hs, ra, e0⟩ | ⟨a, ns, ex, hs, e0⟩
      · rw [e0] at h
        refine .inr ⟨a, ks, by rw [ex], hs, ?_⟩
        rw [ra.length]; exact (show Gd W σ F H (.ok (PyData.int kvs.length)) _ from h).ok (Ext.refl le) _ (.int _)
      · rw [e0] at h
        refine .inl ⟨a, _, by rw [ex], .inl hs, ?_⟩
        have z := (show Gd W σ F H (.ok (PyData.int (ns.map PyData.int).length)) _ from h).ok (Ext.refl le) _ (.int _)
        rw [List.length_map] at z ⊢; exact z
    | _ => exact False.elim h) hm ha hg PySem.boot_len (by decide) (by decide) he

/-- max, min of two whole numbers -/
def gMax : D → D → Res D
  | .int i, .int j => .ok (.int (if j > i then j else i))
  | _, _ => .err
def gMin : D → D → Res D
  | .int i, .int j => .ok (.int (if j < i then j else i))
  | _, _ => .err
theorem PEp.max2 {p : Pos} (c : Ctx X N sc fn) (hm : X.mg "max" = none) (ha : PRp X W a fa) (hb : PRp X W b fb) (hg : isGl sc "max" = true := by rfl)
    (he : starEach [a, b] X.env = (false, eval a X.env) :: starEach [b] X.env := by rfl) (he2 : starEach [b] X.env = (false, eval b X.env) :: starEach [] X.env := by rfl) (hpl : (backTo pos (starEach [b] X.env)).any (·.1) = false := by rfl) :
    PEp X W (.Call (.Name "max" p) [a, b] [] pos) (bin fa fb gMax) :=
  PEp.b2 c (call_max2 c.calm) (fun σ F H v u d e Q le rv ru h => by
    unfold gMax at h
    split at h
    · rename_i i j
      exact ⟨i, j, by rw [Rt.int rv, Rt.int ru], h.ok (Ext.refl le) _ (.int _)⟩
    · exact False.elim h) hm ha hb hg (by decide +kernel) (by decide) (by decide) he he2 hpl
theorem PEp.min2 {p : Pos} (c : Ctx X N sc fn) (hm : X.mg "min" = none) (ha : PRp X W a fa) (hb : PRp X W b fb) (hg : isGl sc "min" = true := by rfl)
    (he : starEach [a, b] X.env = (false, eval a X.env) :: starEach [b] X.env := by rfl) (he2 : starEach [b] X.env = (false, eval b X.env) :: starEach [] X.env := by rfl) (hpl : (backTo pos (starEach [b] X.env)).any (·.1) = false := by rfl) :
    PEp X W (.Call (.Name "min" p) [a, b] [] pos) (bin fa fb gMin) :=
  PEp.b2 c (call_min2 c.calm) (fun σ F H v u d e Q le rv ru h => by
    unfold gMin at h
    split at h
    · rename_i i j
      exact ⟨i, j, by rw [Rt.int rv, Rt.int ru], h.ok (Ext.refl le) _ (.int _)⟩
    · exact False.elim h) hm ha hb hg (by decide +kernel) (by decide) (by decide) he he2 hpl

/-- isinstance(x, T), T a built-in class -/
def tyD : D → String
  | .none => "NoneType"
  | .bool _ => "bool"
  | .int _ => "int"
  | .str _ => "str"
  | .list _ => "list"
  | .tuple _ => "tuple"
  | .dict kvs => match scrOf kvs with
    | some _ => "list"
    | none => "dict"
theorem SqL.ty {K : PySem.W.Frag} {H : Hp} {a : Addr} {vs : List V} (h : SqL K H a vs) : TyX K H (.ref a) (.type "list") := by
  rcases h with (h | ⟨o, h⟩) | ⟨o, its, n, h1, h2, _⟩
  · exact .base (.lst h)
  · exact .base (.frz h)
  · exact .kList h1 h2
theorem SqT.ty {K : PySem.W.Frag} {H : Hp} {a : Addr} {vs : List V} (h : SqT K H a vs) : TyX K H (.ref a) (.type "tuple") := by
  rcases h with (h | ⟨o, h⟩) | ⟨o, its, n, h1, h2, _⟩
  · exact .base (.tup h)
  · exact .fTuple h
  · exact .kTuple h1 h2
theorem Rt.ty {K : PySem.W.Frag} {F H : Hp} {v : V} {d : D} (r : Rt K F H v d) (le : Same F H) : TyX K H v (.type (tyD d)) := by
  cases d with
  | none => cases (show Rp K F v .none from r); exact .base .non
  | bool b => cases (show Rp K F v (.bool b) from r); exact .base (.bl b)
  | int b => cases (show Rp K F v (.int b) from r); exact .base (.int b)
  | str b => cases (show Rp K F v (.str b) from r); exact .base (.str b)
  | tuple ds => cases (show Rp K F v (.tuple ds) from r) with | tup hs _ => exact SqT.ty (Same.sqT le hs)
  | list ds => obtain ⟨a, vs, rfl, hs, _⟩ := r; exact SqL.ty (SqL.of hs)
  | dict ds =>
    dsimp only [tyD]
    rcases r.dict le with ⟨a, ks, ex, hs, ra, e0⟩ | ⟨a, ns, ex, hs, e0⟩
    · rw [e0, ex]; exact .base (.dK hs)
    · rw [e0, ex]; exact SqL.ty hs
/-- the classes that are asked about -/
def isT : String → D → Bool
  | "int", .int _ => true
  | "int", .bool _ => true
  | "bool", .bool _ => true
  | "str", .str _ => true
  | "tuple", .tuple _ => true
  | "list", .list _ => true
  | "list", .dict kvs => (scrOf kvs).isSome
  | _, _ => false
/-- by the class's name alone -/
def isTy (T t : String) : Bool := decide (t = T) || (decide (T = "int") && decide (t = "bool"))
theorem isT_dict (T : String) (kvs : List (D × D)) : isT T (.dict kvs) = (decide (T = "list") && (scrOf kvs).isSome) := by
  by_cases h : T = "list"
  · subst h; rfl
  · rw [decide_eq_false h]
    unfold isT
    split <;> first | rfl | (exfalso; apply h; rfl) | simp_all
theorem kit_of {T : String} (h1 : kitB "NoneType" T = some (isT T .none)) (h2 : kitB "bool" T = some (isT T (.bool true))) (h3 : kitB "int" T = some (isT T (.int 0))) (h4 : kitB "str" T = some (isT T (.str ""))) (h5 : kitB "list" T = some (isT T (.list []))) (h6 : kitB "tuple" T = some (isT T (.tuple [])))
    (h7 : kitB "list" T = some (decide (T = "list"))) (h8 : kitB "dict" T = some false)
    (e2 : ∀ b, isT T (.bool b) = isT T (.bool true)) (e3 : ∀ b, isT T (.int b) = isT T (.int 0)) (e4 : ∀ b, isT T (.str b) = isT T (.str "")) (e5 : ∀ b, isT T (.list b) = isT T (.list [])) (e6 : ∀ b, isT T (.tuple b) = isT T (.tuple [])) : ∀ d, kitB (tyD d) T = some (isT T d)
  | .none => h1
  | .bool b => by rw [e2]; exact h2
  | .int b => by rw [e3]; exact h3
  | .str b => by rw [e4]; exact h4
  | .list b => by rw [e5]; exact h5
  | .tuple b => by rw [e6]; exact h6
  | .dict kvs => by
    rw [isT_dict]
    show kitB (match scrOf kvs with | some _ => "list" | none => "dict") T = _
    cases scrOf kvs with
    | none => rw [Option.isSome_none, Bool.and_false]; exact h8
    | some ds => rw [Option.isSome_some, Bool.and_true]; exact h7
theorem kit_int : ∀ d, kitB (tyD d) "int" = some (isT "int" d) := kit_of (by decide +kernel) (by decide +kernel) (by decide +kernel) (by decide +kernel) (by decide +kernel) (by decide +kernel) (by decide +kernel) (by decide +kernel) (fun _ => rfl) (fun _ => rfl) (fun _ => rfl) (fun _ => rfl) (fun _ => rfl)
theorem kit_bool : ∀ d, kitB (tyD d) "bool" = some (isT "bool" d) := kit_of (by decide +kernel) (by decide +kernel) (by decide +kernel) (by decide +kernel) (by decide +kernel) (by decide +kernel) (by decide +kernel) (by decide +kernel) (fun _ => rfl) (fun _ => rfl) (fun _ => rfl) (fun _ => rfl) (fun _ => rfl)
theorem kit_str : ∀ d, kitB (tyD d) "str" = some (isT "str" d) := kit_of (by decide +kernel) (by decide +kernel) (by decide +kernel) (by decide +kernel) (by decide +kernel) (by decide +kernel) (by decide +kernel) (by decide +kernel) (fun _ => rfl) (fun _ => rfl) (fun _ => rfl) (fun _ => rfl) (fun _ => rfl)
theorem kit_list : ∀ d, kitB (tyD d) "list" = some (isT "list" d) := kit_of (by decide +kernel) (by decide +kernel) (by decide +kernel) (by decide +kernel) (by decide +kernel) (by decide +kernel) (by decide +kernel) (by decide +kernel) (fun _ => rfl) (fun _ => rfl) (fun _ => rfl) (fun _ => rfl) (fun _ => rfl)
theorem kit_tuple : ∀ d, kitB (tyD d) "tuple" = some (isT "tuple" d) := kit_of (by decide +kernel) (by decide +kernel) (by decide +kernel) (by decide +kernel) (by decide +kernel) (by decide +kernel) (by decide +kernel) (by decide +kernel) (fun _ => rfl) (fun _ => rfl) (fun _ => rfl) (fun _ => rfl) (fun _ => rfl)
def isiB (T : String) (f : Env → Res D) : Env → Res Bool := un f fun d => .ok (isT T d)
theorem PBp.isi {T : String} {x : Str} {p p' : Pos} (c : Ctx X N sc fn) (hm : X.mg "isinstance" = none) (hmT : X.mg x = none) (ha : PRp X W a fa) (hT : ∀ d, kitB (tyD d) T = some (isT T d) := by first | exact kit_int | exact kit_bool | exact kit_tuple | exact kit_list | exact kit_str) (hg : isGl sc "isinstance" = true := by rfl) (hgT : isGl sc x = true := by rfl)
    (hv : bootBuiltins x = some (.type T) := by decide +kernel) (hn : x ≠ "__name__" := by decide) (hdb : (x == ("__debug__" : Str)) = false := by decide)
    (he : starEach [a, .Name x p'] X.env = (false, eval a X.env) :: starEach [.Name x p'] X.env := by rfl)
    (ht : ∀ whole, isTrue (.Call (.Name "isinstance" p) [a, .Name x p'] [] pos) X.env whole = (do let v ← whole; standAt pos; holding [v] (truthy v)) := by intro _; rfl) : PBp X W (.Call (.Name "isinstance" p) [a, .Name x p'] [] pos) (isiB T fa) := by
  obtain ⟨t, pa, qa⟩ := ha
  have pe := pe_callB (pos := pos) (p := p) call_isi (c.gl hg) hm (by decide +kernel) (pa_cons pa (pa_cons (pe_bltn (v := .ty T) (pos := p') (c.gl hgT) hmT hv rfl hn hdb) pa_nil rfl) he) (by decide) (by decide) he rfl
  have main : ∀ C F δ σ H Q, Sat X.K C F δ σ H → Gd W σ F H (isiB T fa δ) (fun b _ H' => Q (.bl b) H') → tCB (rIsi X.K) (tCons t (tCons (tC (.ty T)) tNil)) σ H Q := fun C F δ σ H Q s h => by
    refine qa C F δ σ H _ s (h.bind.mono fun d F1 H1 x1 h1 v rv => ?_)
    exact ⟨v, .ty T, _, _, isT T d, rfl, .ty T, rv.ty x1.le, kit_ty (hT d), h1.ok (Ext.refl x1.le)⟩
  exact ⟨⟨_, pe, main⟩, ⟨_, pt_val pe ht, fun C F δ σ H Q s h => main C F δ σ H _ s (h.mono fun b F' H' _ q => ⟨b, rfl, q⟩)⟩⟩

/-- list(x) -/
def gList : D → Res (List D)
  | .list ds => .ok ds
  | .tuple ds => .ok ds
  | .dict kvs => match scrOf kvs with
    | some ds => .ok ds
    | none => .ok (kvs.map (·.1))
  | _ => .err
def listF (f : Env → Res D) : Env → Res (List D) := un f gList
theorem PFp.list {p : Pos} (c : Ctx X N sc fn) (hm : X.mg "list" = none) (ha : PRp X W a fa) (hg : isGl sc "list" = true := by rfl)
    (he : starEach [a] X.env = (false, eval a X.env) :: starEach [] X.env := by rfl) : PFp X W (.Call (.Name "list" p) [a] [] pos) (listF fa) :=
  PFp.bT c (call_list_of.or (call_list_dK c.calm)) (fun σ F0 H0 F H v d Q x r h => by
    cases d with
    | list ds =>
      obtain ⟨a, vs, ex, hs, ra⟩ := r
      refine .inl ⟨a, vs, by rw [ex], .inl (SqL.of hs), fun l hl => ?_⟩
      exact (show Gd W σ F0 H0 (.ok ds) _ from h).ok (x.newH hl _) l vs (x.hh.free hl) (x.le.free hl) upd_same ra
    | tuple ds =>
      cases (show Rp X.K F v (.tuple ds) from r) with
      | tup hs ra =>
        refine .inl ⟨_, _, rfl, .inr (Same.sqT x.le hs), fun l hl => ?_⟩
        exact (show Gd W σ F0 H0 (.ok ds) _ from h).ok (x.newH hl _) l _ (x.hh.free hl) (x.le.free hl) upd_same ra
    | dict kvs =>
      dsimp only [gList] at h
      rcases r.dict x.le with ⟨a, ks, ex, hs, ra, e0⟩ | ⟨a, ns, ex, hs, e0⟩
      · rw [e0] at h
        refine .inr ⟨a, ks, by rw [ex], hs, fun l hl => ?_⟩
        exact (show Gd W σ F0 H0 (.ok (kvs.map (·.1))) _ from h).ok (x.newH hl _) l _ (x.hh.free hl) (x.le.free hl) upd_same ra.keys
      · rw [e0] at h
        refine .inl ⟨a, _, by rw [ex], .inl hs, fun l hl => ?_⟩
        exact (show Gd W σ F0 H0 (.ok (ns.map PyData.int)) _ from h).ok (x.newH hl _) l _ (x.hh.free hl) (x.le.free hl) upd_same (RpA.ints ns)
    | _ => exact False.elim h) hm ha hg (by decide +kernel) (by decide) (by decide) he
/-- tuple(x) -/
def gTuple : D → Res D
  | .list ds => .ok (.tuple ds)
  | .tuple ds => .ok (.tuple ds)
  | _ => .err
def tupleD (f : Env → Res D) : Env → Res D := un f gTuple
theorem PEp.tupleOf {p : Pos} (c : Ctx X N sc fn) (hm : X.mg "tuple" = none) (ha : PRp X W a fa) (hg : isGl sc "tuple" = true := by rfl)
    (he : starEach [a] X.env = (false, eval a X.env) :: starEach [] X.env := by rfl) : PEp X W (.Call (.Name "tuple" p) [a] [] pos) (tupleD fa) :=
  PEp.bT c call_tuple_of (fun σ F H v d Q le r h => by
    cases d with
    | list ds =>
      obtain ⟨a, vs, ex, hs, ra⟩ := r
      refine ⟨a, vs, by rw [ex], .inl ⟨SqL.of hs, fun l hl => ?_⟩⟩
      exact (show Gd W σ F H (.ok (PyData.tuple ds)) _ from h).ok ((Ext.refl le).newF hl _) _ (.tup (SqT.of upd_same) (RpA.mono (same_new (le.free hl) _) _ _ ra))
    | tuple ds =>
      cases (show Rp X.K F v (.tuple ds) from r) with
      | tup hs ra => exact ⟨_, _, rfl, .inr ⟨Same.sqT le hs, (show Gd W σ F H (.ok (PyData.tuple ds)) _ from h).ok (Ext.refl le) _ (.tup hs ra)⟩⟩
    | _ => exact False.elim h) hm ha hg (by decide +kernel) (by decide) (by decide) he
/-- int(x), x a truth value or an int -/
def gInt : D → Res D
  | .int i => .ok (.int i)
  | .bool b => .ok (.int (if b then 1 else 0))
  | _ => .err
theorem PEp.intOf {p : Pos} (c : Ctx X N sc fn) (hm : X.mg "int" = none) (ha : PRp X W a fa) (hg : isGl sc "int" = true := by rfl)
    (he : starEach [a] X.env = (false, eval a X.env) :: starEach [] X.env := by rfl) : PEp X W (.Call (.Name "int" p) [a] [] pos) (un fa gInt) :=
  PEp.bT c call_int1 (fun σ F H v d Q le r h => by
    cases d with
    | int i => exact .inl ⟨i, by rw [Rt.int r], (show Gd W σ F H (.ok (PyData.int i)) _ from h).ok (Ext.refl le) _ (.int i)⟩
    | bool b => exact .inr ⟨b, by rw [Rt.bool r], (show Gd W σ F H (.ok (PyData.int (if b then 1 else 0))) _ from h).ok (Ext.refl le) _ (.int _)⟩
    | _ => exact False.elim h) hm ha hg (by decide +kernel) (by decide) (by decide) he
/-- sum(xs) of whole numbers -/
def intsOf : List D → Option (List Int)
  | [] => some []
  | .int i :: r => (intsOf r).map (i :: ·)
  | _ :: _ => none
theorem intsOf_map : ∀ {ds : List D} {ns : List Int}, intsOf ds = some ns → ds = ns.map PyData.int
  | [], ns, h => by cases h; rfl
  | .int i :: r, ns, h => by
    unfold intsOf at h
    cases q : intsOf r with
    | none => rw [q] at h; cases h
    | some ms => rw [q] at h; cases h; rw [List.map_cons, intsOf_map q]
  | .none :: _, _, h => by cases h
  | .bool _ :: _, _, h => by cases h
  | .str _ :: _, _, h => by cases h
  | .list _ :: _, _, h => by cases h
  | .tuple _ :: _, _, h => by cases h
  | .dict _ :: _, _, h => by cases h
theorem intsOf_int (ns : List Int) : intsOf (ns.map PyData.int) = some ns := by
  induction ns with
  | nil => rfl
  | cons n ns ih => rw [List.map_cons]; unfold intsOf; rw [ih]; rfl
theorem RpA.vints {K : PySem.W.Frag} {F : Hp} : ∀ {vs : List V} {ns : List Int}, RpA K F vs (ns.map PyData.int) → vs = ns.map V.int
  | _, [], h => by cases h; rfl
  | _, n :: ns, h => by
    cases h with
    | cons r t => cases r; rw [List.map_cons, RpA.vints t]
def gSum : D → Res D
  | .list ds => (ofO (intsOf ds)).bind fun ns => .ok (.int ns.sum)
  | _ => .err
theorem PEp.sum {p : Pos} (c : Ctx X N sc fn) (hm : X.mg "sum" = none) (ha : PRp X W a fa) (hg : isGl sc "sum" = true := by rfl)
    (he : starEach [a] X.env = (false, eval a X.env) :: starEach [] X.env := by rfl) : PEp X W (.Call (.Name "sum" p) [a] [] pos) (un fa gSum) :=
  PEp.b1 c (cr_sum c.calm) (fun σ F H v d Q le r h => by
    cases d with
    | list ds =>
      obtain ⟨a, vs, ex, hs, ra⟩ := r
      dsimp only [gSum] at h
      cases q : intsOf ds with
      | none => rw [q] at h; exact False.elim h
      | some ns =>
        rw [q] at h
        rw [intsOf_map q] at ra
        rw [ra.vints] at hs
        exact ⟨a, ns, by rw [ex], SqL.of hs, (show Gd W σ F H (.ok (PyData.int ns.sum)) _ from h).ok (Ext.refl le) _ (.int _)⟩
    | _ => exact False.elim h) hm ha hg (by decide +kernel) (by decide) (by decide) he

/-! ### lists put together -/
def catF (fa fb : Env → Res D) : Env → Res (List D) := fun δ => (fa δ).bind fun x => (fb δ).bind fun y => (ofLst x).bind fun xs => (ofLst y).bind fun ys => szL (xs ++ ys)
theorem PFp.cat (ha : PRp X W a fa) (hb : PRp X W b fb) : PFp X W (.BinOp a .Add b pos) (catF fa fb) := by
  obtain ⟨ta, pa, qa⟩ := ha
  obtain ⟨tb, pb, qb⟩ := hb
  refine ⟨_, pe_op op_cat pa pb, fun C F δ σ H Q s h => ?_⟩
  refine qa C F δ σ H _ s ((Gd.bind2 h).mono fun d F1 H1 x1 h1 x rx => ?_)
  refine qb C F1 δ σ H1 _ (s.ext x1) (((h1.bind2).ext x1).mono fun e F2 H2 x2 h2 y ry => ?_)
  have x12 := x1.trans x2
  cases d with
  | list ds =>
    cases e with
    | list es =>
      obtain ⟨l, vs, ex, hs, ra⟩ := rx.ext x2.ff x2.hh
      obtain ⟨l2, ws, ey, hs2, ra2⟩ := ry
      obtain ⟨z, h3⟩ := Gd.szL (show Gd W σ F H (szL (ds ++ es)) _ from h2)
      refine ⟨l, l2, vs, ws, ex, ey, hs, hs2, by rw [← List.length_append, (ra.append ra2).length]; exact z, fun p hp => ?_⟩
      exact h3.ok (x12.newH hp _) p _ (x12.hh.free hp) (x12.le.free hp) upd_same (ra.append ra2)
    | _ => exact False.elim h2
  | _ => exact False.elim h2
end
end
end DL
/-! DL3: calls of own defs, comprehensions, statements. -/
namespace DL
open PySem PySem.Spec PyProof.Rows L2

/-! ### what a def promises -/
def spF (K : PySem.W.Frag) (mg : Str → Option Value) (n : Nat) (φ : List D → Res D) : Sp := fun vs H Q E => ∃ F ds, Same F H ∧ RpA K F vs ds ∧ ds.length = n ∧ match φ ds with
  | .ok d => ∀ F' H', Ext F H F' H' → ∀ v, Rp K F' v d → Q v H'
  | .exc c => ∀ F' H' A, Ext F H F' H' → mg c = some (.ref A) → E (.ref A) none H'
  | .err => False
/-- .. of a def that hands back a new list -/
def spN (K : PySem.W.Frag) (mg : Str → Option Value) (n : Nat) (φ : List D → Res (List D)) : Sp := fun vs H Q E => ∃ F ds, Same F H ∧ RpA K F vs ds ∧ ds.length = n ∧ match φ ds with
  | .ok es => ∀ F' H', Ext F H F' H' → ∀ a ws, H a = none → F' a = none → H' a = some (.lst ws) → RpA K F' ws es → Q (.ref a) H'
  | .exc c => ∀ F' H' A, Ext F H F' H' → mg c = some (.ref A) → E (.ref A) none H'
  | .err => False
def asL (φ : List D → Res (List D)) : List D → Res D := fun ds => (φ ds).bind fun es => .ok (.list es)
theorem spN_of {K : PySem.W.Frag} {mg : Str → Option Value} {n : Nat} {φ : List D → Res (List D)} {vs : List V} {H : Hp} {Q : VK} {E : XK} (h : spF K mg n (asL φ) vs H Q E) : spN K mg n φ vs H Q E := by
  obtain ⟨F, ds, h1, h2, h3, h4⟩ := h
  refine ⟨F, ds, h1, h2, h3, ?_⟩
  unfold asL at h4
  cases q : φ ds with
  | ok es =>
    rw [q] at h4
    intro F' H' x a ws e1 e2 e3 e4
    exact h4 _ _ (x.frz e1 e2 e3) _ (.lst upd_same (RpA.mono (same_new e2 _) _ _ e4))
  | exc c => rw [q] at h4; exact h4
  | err => rw [q] at h4; exact h4

/-- a def that may be called: its promise, room for it, its name -/
structure Cal (P : Program) (w : World) (K : PySem.W.Frag) (mg : Str → Option Value) (base : Heap) (A : Around) (CX : CXT) (x : Str) (sp : Sp) : Prop where
  ex : ∃ f fd ps k, FnOk P w K mg base CX k f fd ps sp ∧ Room k A ∧ mg x = some (.ref f) ∧ PySem.W.keepIn K (.ref f) = true ∧ Binds K fd ps []
theorem Cal.imp {P : Program} {w : World} {K : PySem.W.Frag} {mg : Str → Option Value} {base : Heap} {A : Around} {CX : CXT} {x : Str} {sp sp' : Sp} (c : Cal P w K mg base A CX x sp) (h : ∀ vs H Q E, sp' vs H Q E → sp vs H Q E) : Cal P w K mg base A CX x sp' := by
  obtain ⟨f, fd, ps, k, F, r, m, kp, b⟩ := c.ex
  exact ⟨f, fd, ps, k, F.imp h, r, m, kp, b⟩
theorem Cal.val {P : Program} {w : World} {K : PySem.W.Frag} {mg : Str → Option Value} {base : Heap} {A : Around} {CX : CXT} {x : Str} {n : Nat} {φ : List D → Res (List D)} (c : Cal P w K mg base A CX x (spN K mg n φ)) : Cal P w K mg base A CX x (spF K mg n (asL φ)) :=
  c.imp fun _ _ _ _ h => spN_of h
def noX {α : Type} : Res α → Res α
  | .ok a => .ok a
  | _ => .err
@[simp] theorem noX_ok {α : Type} (a : α) : noX (.ok a) = .ok a := rfl

section
variable {X : Cx} {N : List Str} {sc : Scope} {fn : Str → Bool} {W : WS}
/-- what the body wishes of own exceptions is what W says -/
def Tk (X : Cx) (W : WS) : Prop := Takes X (fun cls d σ H => d = none ∧ ∃ c, X.mg c = some cls ∧ W c σ H)
theorem tk0 : Tk X W0 := takes0.imp fun c d σ H ⟨_, _, _, h⟩ => h

def ln {α : Type} (n : Nat) (ds : List D) (r : Res α) : Res α := if ds.length = n then r else .err
theorem Gd.ln {α : Type} {σ : L2.St} {F H : Hp} {n : Nat} {ds : List D} {r : Res α} {P : α → Hp → Hp → Prop} (h : Gd W σ F H (ln n ds r) P) : ds.length = n ∧ Gd W σ F H r P := by
  unfold DL.ln at h
  split at h
  · exact ⟨by assumption, h⟩
  · exact False.elim h
def callD (n : Nat) (φ : List D → Res D) (fs : Env → Res (List D)) : Env → Res D := fun δ => (fs δ).bind fun ds => ln n ds (noX (φ ds))
def callF (n : Nat) (φ : List D → Res (List D)) (fs : Env → Res (List D)) : Env → Res (List D) := fun δ => (fs δ).bind fun ds => ln n ds (noX (φ ds))
def callX (n : Nat) (φ : List D → Res D) (fs : Env → Res (List D)) : Env → Res D := fun δ => (fs δ).bind fun ds => ln n ds (φ ds)
section
variable {e : Expr} {es : List Expr} {fs : Env → Res (List D)} {x : Str} {p pos : Pos} {n : Nat}
/-- a def that raises nothing -/
theorem PEp.call {φ : List D → Res D} (c : Ctx X N sc fn) (h : Cal X.prog X.w X.K X.mg X.base X.A CX0 x (spF X.K X.mg n φ)) (ha : PAp X W (e :: es) fs) (hg : isGl sc x = true := by rfl) (hdb : (x == ("__debug__" : Str)) = false := by decide)
    (he : starEach (e :: es) X.env = (false, eval e X.env) :: starEach es X.env := by rfl) (hpl : (backTo pos (starEach es X.env)).any (·.1) = false := by rfl) : PEp X W (.Call (.Name x p) (e :: es) [] pos) (callD n φ fs) := by
  obtain ⟨f, fd, ps, k, F, r, m, kp, b⟩ := h.ex
  obtain ⟨t, pa, qa⟩ := ha
  refine ⟨_, pe_call F r (c.gl hg) m kp b .nil pass0 pa hdb he hpl, fun C F δ σ H Q s h => ?_⟩
  refine qa C F δ σ H _ s ((Gd.bind h).mono fun ds F1 H1 x1 h1 vs rv => ?_)
  obtain ⟨hl, h1⟩ := Gd.ln h1
  refine ⟨F1, ds, x1.le, by rw [List.append_nil]; exact rv, hl, ?_⟩
  cases q : φ ds with
  | ok d => rw [q] at h1; exact fun F' H' x2 v r2 => h1 F' H' x2 v r2
  | exc c => rw [q] at h1; exact False.elim h1
  | err => rw [q] at h1; exact False.elim h1
theorem PFp.call {φ : List D → Res (List D)} (c : Ctx X N sc fn) (h : Cal X.prog X.w X.K X.mg X.base X.A CX0 x (spN X.K X.mg n φ)) (ha : PAp X W (e :: es) fs) (hg : isGl sc x = true := by rfl) (hdb : (x == ("__debug__" : Str)) = false := by decide)
    (he : starEach (e :: es) X.env = (false, eval e X.env) :: starEach es X.env := by rfl) (hpl : (backTo pos (starEach es X.env)).any (·.1) = false := by rfl) : PFp X W (.Call (.Name x p) (e :: es) [] pos) (callF n φ fs) := by
  obtain ⟨f, fd, ps, k, F, r, m, kp, b⟩ := h.ex
  obtain ⟨t, pa, qa⟩ := ha
  refine ⟨_, pe_call F r (c.gl hg) m kp b .nil pass0 pa hdb he hpl, fun C F δ σ H Q s h => ?_⟩
  refine qa C F δ σ H _ s ((Gd.bind2 h).mono fun ds F1 H1 x1 h1 vs rv => ?_)
  obtain ⟨hl, h1⟩ := Gd.ln h1
  refine ⟨F1, ds, x1.le, by rw [List.append_nil]; exact rv, hl, ?_⟩
  cases q : φ ds with
  | ok d => rw [q] at h1; exact fun F' H' x2 a ws e1 e2 e3 e4 => h1 F' H' (x1.trans x2) a ws (x1.hh.free e1) e2 e3 e4
  | exc c => rw [q] at h1; exact False.elim h1
  | err => rw [q] at h1; exact False.elim h1
/-- a def that may raise -/
theorem PEp.callX {φ : List D → Res D} (c : Ctx X N sc fn) (tk : Tk X W) (h : Cal X.prog X.w X.K X.mg X.base X.A (L2.CX X.prog X.w) x (spF X.K X.mg n φ)) (ha : PAp X W (e :: es) fs) (hg : isGl sc x = true := by rfl) (hdb : (x == ("__debug__" : Str)) = false := by decide)
    (he : starEach (e :: es) X.env = (false, eval e X.env) :: starEach es X.env := by rfl) (hpl : (backTo pos (starEach es X.env)).any (·.1) = false := by rfl) : PEp X W (.Call (.Name x p) (e :: es) [] pos) (callX n φ fs) := by
  obtain ⟨f, fd, ps, k, F, r, m, kp, b⟩ := h.ex
  obtain ⟨t, pa, qa⟩ := ha
  refine ⟨_, pe_callSD F r (c.gl hg) m kp b .nil (fun σ => passAt tk σ) pa hdb he hpl, fun C F δ σ H Q s h => ?_⟩
  refine qa C F δ σ H _ s ((Gd.bind h).mono fun ds F1 H1 x1 h1 vs rv => ?_)
  obtain ⟨hl, h1⟩ := Gd.ln h1
  refine ⟨F1, ds, x1.le, by rw [List.append_nil]; exact rv, hl, ?_⟩
  cases q : φ ds with
  | ok d => rw [q] at h1; exact fun F' H' x2 v r2 => h1 F' H' x2 v r2
  | exc c => rw [q] at h1; exact fun F' H' A x2 em => ⟨rfl, c, em, h1 F' H' x2⟩
  | err => rw [q] at h1; exact False.elim h1
end

/-! ### what is gone through -/
/-- J goes through things that show the data ds -/
def Wk (K : PySem.W.Frag) (F : Hp) (J : It) (ds : List D) : Prop := ∀ (i : Nat) (F1 H1 : Hp), Same F F1 → Same F1 H1 → (ds.length ≤ i → J.stop i H1) ∧ ∀ d, ds[i]? = some d → J.go i H1 ∧ ∀ x H', J.yld i H1 x H' → ∃ F', Ext F1 H1 F' H' ∧ Rp K F' x d
def PIp (X : Cx) (W : WS) (tg iter : Expr) (f : Env → Res (List D)) : Prop := ∃ wi, PI X tg iter wi ∧ ∀ C F δ σ H R, Sat X.K C F δ σ H → Gd W σ F H (f δ) (fun ds F' H' => ∀ J, Wk X.K F' J ds → R J H') → wi σ H R
/-- .. in a comprehension, within which all that is tracked stays: over a list of one's own too -/
def WkH (K : PySem.W.Frag) (F H : Hp) (J : It) (ds : List D) : Prop := ∀ (i : Nat) (F1 H1 : Hp), Same F F1 → Same F1 H1 → Same H H1 → (ds.length ≤ i → J.stop i H1) ∧ ∀ d, ds[i]? = some d → J.go i H1 ∧ ∀ x H', J.yld i H1 x H' → ∃ F', Ext F1 H1 F' H' ∧ Rp K F' x d
def PIh (X : Cx) (W : WS) (tg iter : Expr) (f : Env → Res (List D)) : Prop := ∃ wi, PI X tg iter wi ∧ ∀ C F δ σ H R, Sat X.K C F δ σ H → Gd W σ F H (f δ) (fun ds F' H' => ∀ J, WkH X.K F' H' J ds → R J H') → wi σ H R
theorem PIp.h {tg iter : Expr} {f : Env → Res (List D)} (h : PIp X W tg iter f) : PIh X W tg iter f := by
  obtain ⟨wi, p, q⟩ := h
  exact ⟨wi, p, fun C F δ σ H R s g => q C F δ σ H R s (g.mono fun ds F' H' x k J w => k J fun i F1 H1 e1 e2 _ => w i F1 H1 e1 e2)⟩
theorem wk_list {K : PySem.W.Frag} {F : Hp} {a : Addr} {vs : List V} {ds : List D} (hs : F a = some (.lst vs)) (ra : RpA K F vs ds) : Wk K F (Itl K a) ds := fun i F1 H1 e1 e2 => by
  have h1 : SqL K H1 a vs := SqL.of (e2 _ _ (e1 _ _ hs))
  refine ⟨fun h => ⟨vs, h1, by rw [ra.length]; exact h⟩, fun d hd => ?_⟩
  obtain ⟨v, hv, rv⟩ := ra.get hd
  refine ⟨⟨vs, v, h1, hv⟩, fun x H' ⟨eH, y⟩ => ⟨F1, by rw [eH]; exact Ext.refl e2, ?_⟩⟩
  have e := y vs h1
  rw [hv] at e
  cases e
  exact Rp.mono e1 _ _ rv
theorem wkh_list {K : PySem.W.Frag} {F H : Hp} {a : Addr} {vs : List V} {ds : List D} (hs : SqL K H a vs) (ra : RpA K F vs ds) : WkH K F H (Itl K a) ds := fun i F1 H1 e1 e2 e3 => by
  have h1 : SqL K H1 a vs := e3.seq hs
  refine ⟨fun h => ⟨vs, h1, by rw [ra.length]; exact h⟩, fun d hd => ?_⟩
  obtain ⟨v, hv, rv⟩ := ra.get hd
  refine ⟨⟨vs, v, h1, hv⟩, fun x H' ⟨eH, y⟩ => ⟨F1, by rw [eH]; exact Ext.refl e2, ?_⟩⟩
  have e := y vs h1
  rw [hv] at e
  cases e
  exact Rp.mono e1 _ _ rv
theorem wk_tup {K : PySem.W.Frag} {F : Hp} {a : Addr} {vs : List V} {ds : List D} (hs : SqT K F a vs) (ra : RpA K F vs ds) : Wk K F (Itt K a) ds := fun i F1 H1 e1 e2 => by
  have h1 : SqT K H1 a vs := Same.sqT e2 (Same.sqT e1 hs)
  refine ⟨fun h => ⟨vs, h1, by rw [ra.length]; exact h⟩, fun d hd => ?_⟩
  obtain ⟨v, hv, rv⟩ := ra.get hd
  refine ⟨⟨vs, v, h1, hv⟩, fun x H' ⟨eH, y⟩ => ⟨F1, by rw [eH]; exact Ext.refl e2, ?_⟩⟩
  have e := y vs h1
  rw [hv] at e
  cases e
  exact Rp.mono e1 _ _ rv
/-- a list or a tuple -/
def iSeq (K : PySem.W.Frag) (tl : TE) : TI := fun σ H R => tl σ H fun x H1 => (∃ a, x = .ref a ∧ (∃ xs, SqL K H1 a xs) ∧ R (Itl K a) H1) ∨ ∃ a, x = .ref a ∧ (∃ xs, SqT K H1 a xs) ∧ R (Itt K a) H1
theorem pi_seq {tg l : Expr} {tl : TE} (hl : PE X l tl) : PI X tg l (iSeq X.K tl) := by
  refine ⟨fun pins s σ H R I h => ?_⟩
  refine thn (hl.run pins s σ H _ I h) fun v s1 ⟨x, H1, I1, r1, q1⟩ => ?_
  rcases q1 with ⟨a, e, ⟨xs, hq⟩, q⟩ | ⟨a, e, ⟨xs, hq⟩, q⟩
  · subst e
    obtain rfl : v = Value.ref a := r1
    obtain ⟨its, rv, p, hz⟩ := I1.list hq
    refine wpAny_pyIter_list p.isList ?_
    refine ⟨s1.heap.objs.size, [s1.heap.objs.size], _, _, H1, rfl, I1.kept (t' := s1.toks) fun b o e => Heap.get?_push_of_some _ e, turn_list a _, ⟨_, Heap.get?_push_size _ rfl, rfl, rfl⟩, fun b hb => ?_, q⟩
    obtain rfl : b = s1.heap.objs.size := by simpa using hb
    exact I1.fpOk (Nat.le_refl _) (I1.hok.fresh (Nat.le_refl _))
  · subst e
    obtain rfl : v = Value.ref a := r1
    obtain ⟨its, rv, p, hz⟩ := I1.tuple hq
    refine wpAny_pyIter_tuple (show s1.heap.IsTuple a its.toArray from p) ?_
    refine ⟨s1.heap.objs.size, [s1.heap.objs.size], _, _, H1, rfl, I1.kept (t' := s1.toks) fun b o e => Heap.get?_push_of_some _ e, turn_tuple a _, ⟨_, Heap.get?_push_size _ rfl, rfl, rfl⟩, fun b hb => ?_, q⟩
    obtain rfl : b = s1.heap.objs.size := by simpa using hb
    exact I1.fpOk (Nat.le_refl _) (I1.hok.fresh (Nat.le_refl _))
/-- what is gone through, of a list or a tuple -/
def gSeq : D → Res (List D)
  | .list ds => .ok ds
  | .tuple ds => .ok ds
  | _ => .err
def seqI (f : Env → Res D) : Env → Res (List D) := un f gSeq
theorem PIp.seq {tg e : Expr} {f : Env → Res D} (h : PEp X W e f) : PIp X W tg e (seqI f) := by
  obtain ⟨t, p, q⟩ := h
  refine ⟨_, pi_seq p, fun C F δ σ H R s g => ?_⟩
  refine q C F δ σ H _ s ((Gd.bind g).mono fun d F1 H1 x1 h1 v rv => ?_)
  cases d with
  | list ds =>
    cases rv with
    | lst hs ra => exact .inl ⟨_, rfl, ⟨_, SqL.of (x1.le _ _ hs)⟩, (show Gd W σ F1 H1 (.ok ds) _ from h1).ok (Ext.refl x1.le) _ (wk_list hs ra)⟩
  | tuple ds =>
    cases rv with
    | tup hs ra => exact .inr ⟨_, rfl, ⟨_, Same.sqT x1.le hs⟩, (show Gd W σ F1 H1 (.ok ds) _ from h1).ok (Ext.refl x1.le) _ (wk_tup hs ra)⟩
  | _ => exact False.elim h1
theorem PIh.seq {tg e : Expr} {f : Env → Res D} (h : PRp X W e f) : PIh X W tg e (seqI f) := by
  obtain ⟨t, p, q⟩ := h
  refine ⟨_, pi_seq p, fun C F δ σ H R s g => ?_⟩
  refine q C F δ σ H _ s ((Gd.bind g).mono fun d F1 H1 x1 h1 v rv => ?_)
  cases d with
  | list ds =>
    obtain ⟨a, vs, ex, hs, ra⟩ := rv
    exact .inl ⟨a, ex, ⟨_, SqL.of hs⟩, (show Gd W σ F1 H1 (.ok ds) _ from h1).ok (Ext.refl x1.le) _ (wkh_list (SqL.of hs) ra)⟩
  | tuple ds =>
    cases (show Rp X.K F1 v (.tuple ds) from rv) with
    | tup hs ra => exact .inr ⟨_, rfl, ⟨_, Same.sqT x1.le hs⟩, (show Gd W σ F1 H1 (.ok ds) _ from h1).ok (Ext.refl x1.le) _ fun i F2 H2 e1 e2 _ => wk_tup hs ra i F2 H2 e1 e2⟩
  | _ => exact False.elim h1
/-- a list of the law's own script too -/
def seqIs (f : Env → Res D) : Env → Res (List D) := un f gLst
theorem PIh.scr {tg e : Expr} {f : Env → Res D} (h : PRp X W e f) : PIh X W tg e (seqIs f) := by
  obtain ⟨t, p, q⟩ := h
  refine ⟨_, pi_seq p, fun C F δ σ H R s g => ?_⟩
  refine q C F δ σ H _ s ((Gd.bind g).mono fun d F1 H1 x1 h1 v rv => ?_)
  cases d with
  | list ds =>
    obtain ⟨a, vs, ex, hs, ra⟩ := rv
    exact .inl ⟨a, ex, ⟨_, SqL.of hs⟩, (show Gd W σ F1 H1 (.ok ds) _ from h1).ok (Ext.refl x1.le) _ (wkh_list (SqL.of hs) ra)⟩
  | dict kvs =>
    dsimp only [gLst] at h1
    rcases rv.dict x1.le with ⟨p, ks, ex, hs, ra, e0⟩ | ⟨p, ns, ex, hs, e0⟩
    · rw [e0] at h1; exact False.elim h1
    · rw [e0] at h1
      exact .inl ⟨p, ex, ⟨_, hs⟩, (show Gd W σ F1 H1 (.ok (ns.map PyData.int)) _ from h1).ok (Ext.refl x1.le) _ (wkh_list hs (RpA.ints ns))⟩
  | _ => exact False.elim h1
def rgL (lo : Int) (n : Nat) : List D := (List.range n).map fun i => PyData.int (lo + (i : Nat))
theorem wk_rng {K : PySem.W.Frag} {F : Hp} {lo : Int} {n : Nat} : Wk K F (Itr lo n) (rgL lo n) := fun i F1 H1 e1 e2 => by
  refine ⟨fun h => by unfold rgL at h; rw [List.length_map, List.length_range] at h; exact h, fun d hd => ?_⟩
  unfold rgL at hd
  rw [List.getElem?_map] at hd
  have hi : i < n := by
    cases q : (List.range n)[i]? with
    | none => rw [q] at hd; cases hd
    | some j => exact List.length_range (n := n) ▸ (List.getElem?_eq_some_iff.mp q).1
  rw [List.getElem?_range hi] at hd
  cases hd
  exact ⟨hi, fun x H' ⟨eH, ex⟩ => ⟨F1, by rw [eH]; exact Ext.refl e2, by rw [ex]; exact .int _⟩⟩
def smI (i : Int) : Bool := decide (-1000000000 ≤ i) && decide (i ≤ 1000000000)
def gR1 : D → Res (List D)
  | .int j => if smI j = true then .ok (rgL 0 j.toNat) else .err
  | _ => .err
def gR2 : D → D → Res (List D)
  | .int i, .int j => if smI i = true ∧ smI j = true then .ok (rgL i (j - i).toNat) else .err
  | _, _ => .err
def rngI (f : Env → Res D) : Env → Res (List D) := un f gR1
def rngI2 (f g : Env → Res D) : Env → Res (List D) := bin f g gR2
theorem smI_of {i : Int} (h : smI i = true) : -1000000000 ≤ i ∧ i ≤ 1000000000 := by
  unfold smI at h
  rw [Bool.and_eq_true] at h
  exact ⟨of_decide_eq_true h.1, of_decide_eq_true h.2⟩
theorem PIp.range {tg e : Expr} {f : Env → Res D} {p pos : Pos} (c : Ctx X N sc fn) (hm : X.mg "range" = none) (h : PRp X W e f) (hg : isGl sc "range" = true := by rfl) (he : starEach [e] X.env = [(false, eval e X.env)] := by rfl) : PIp X W tg (.Call (.Name "range" p) [e] [] pos) (rngI f) := by
  obtain ⟨t, pe, q⟩ := h
  refine ⟨_, pi_range1 (c.gl hg) hm (pa_cons pe pa_nil he) he, fun C F δ σ H R s g => ?_⟩
  refine q C F δ σ H _ s ((Gd.bind g).mono fun d F1 H1 x1 h1 v rv => ?_)
  cases d with
  | int j =>
    dsimp only [gR1] at h1
    split at h1
    · rename_i k
      obtain ⟨k1, k2⟩ := smI_of k
      have e1 : (1000000000 : Int) < 2 ^ 62 := by decide
      refine ⟨j, by rw [Rt.int rv], by omega, by omega, h1.ok (Ext.refl x1.le) _ ?_⟩
      exact wk_rng
    · exact False.elim h1
  | _ => exact False.elim h1
theorem PIp.range2 {tg e e2 : Expr} {f f2 : Env → Res D} {p pos : Pos} (c : Ctx X N sc fn) (hm : X.mg "range" = none) (h : PRp X W e f) (h2 : PRp X W e2 f2) (hg : isGl sc "range" = true := by rfl) (he : starEach [e, e2] X.env = [(false, eval e X.env), (false, eval e2 X.env)] := by rfl)
    (he2 : starEach [e2] X.env = [(false, eval e2 X.env)] := by rfl) : PIp X W tg (.Call (.Name "range" p) [e, e2] [] pos) (rngI2 f f2) := by
  obtain ⟨t, pe, q⟩ := h
  obtain ⟨t2, pe2, q2⟩ := h2
  refine ⟨_, pi_range2 (c.gl hg) hm (pa_cons pe (pa_cons pe2 pa_nil he2) (by rw [he, he2])) he he2, fun C F δ σ H R s g => ?_⟩
  refine q C F δ σ H _ s ((Gd.bind g).mono fun d F1 H1 x1 h1 v rv => ?_)
  refine q2 C F1 δ σ H1 _ (s.ext x1) ((Gd.bind h1).mono fun d2 F2 H2 x2 h3 v2 rv2 => ?_)
  unfold gR2 at h3
  split at h3
  · rename_i i j
    split at h3
    · rename_i k
      obtain ⟨k1, k2⟩ := smI_of k.1
      obtain ⟨k3, k4⟩ := smI_of k.2
      have e1 : (1000000000 : Int) < 2 ^ 62 := by decide
      refine ⟨i, j, by rw [Rt.int rv, Rt.int rv2], ⟨by omega, by omega, by omega, by omega⟩, h3.ok (Ext.refl x2.le) _ ?_⟩
      exact wk_rng
    · exact False.elim h3
  · exact False.elim h3
/-- enumerate(xs) -/
def enL : Nat → List D → List D
  | _, [] => []
  | i, d :: ds => .tuple [.int (i : Nat), d] :: enL (i + 1) ds
theorem enL_get : ∀ (ds : List D) (k i : Nat) (d : D), (enL k ds)[i]? = some d → ∃ e, ds[i]? = some e ∧ d = .tuple [.int ((k + i : Nat) : Int), e]
  | [], _, _, _, h => by cases h
  | e :: ds, k, 0, d, h => by cases h; exact ⟨e, rfl, rfl⟩
  | e :: ds, k, i + 1, d, h => by
    obtain ⟨e', h1, h2⟩ := enL_get ds (k + 1) i d h
    refine ⟨e', h1, ?_⟩
    rw [h2, show k + 1 + i = k + (i + 1) by omega]
theorem enL_length : ∀ (ds : List D) (k : Nat), (enL k ds).length = ds.length
  | [], _ => rfl
  | d :: ds, k => by show (enL (k + 1) ds).length + 1 = ds.length + 1; rw [enL_length ds]
theorem wkh_enum {K : PySem.W.Frag} {F H : Hp} {a : Addr} {vs : List V} {ds : List D} (hs : SqL K H a vs) (ra : RpA K F vs ds) : WkH K F H (Ite K a) (enL 0 ds) := fun i F1 H1 e1 e2 e3 => by
  have h1 : SqL K H1 a vs := e3.seq hs
  refine ⟨fun h => ⟨vs, h1, by rw [ra.length, ← enL_length ds 0]; exact h⟩, fun d hd => ?_⟩
  obtain ⟨e, he, ed⟩ := enL_get ds 0 i d hd
  obtain ⟨v, hv, rv⟩ := ra.get he
  refine ⟨⟨vs, v, h1, hv⟩, fun x H' ⟨T, y, ex, hT, eH, hy⟩ => ?_⟩
  have e := hy vs h1
  rw [hv] at e
  cases e
  refine ⟨upd F1 T (.tup [.int (i : Nat), v]), by rw [eH]; exact (Ext.refl e2).newF hT _, ?_⟩
  rw [ex, ed]
  refine .tup (SqT.of upd_same) (.cons ?_ (.one (Rp.mono (e1.trans (same_new (e2.free hT) _)) _ _ rv)))
  rw [Nat.zero_add]
  exact .int _
theorem wk_enum {K : PySem.W.Frag} {F : Hp} {a : Addr} {vs : List V} {ds : List D} (hs : F a = some (.lst vs)) (ra : RpA K F vs ds) : Wk K F (Ite K a) (enL 0 ds) := fun i F1 H1 e1 e2 =>
  wkh_enum (H := F) (SqL.of hs) ra i F1 H1 e1 e2 (e1.trans e2)
def gEn : D → Res (List D)
  | .list ds => .ok (enL 0 ds)
  | _ => .err
def enI (f : Env → Res D) : Env → Res (List D) := un f gEn
theorem PIp.enum {elts : List Expr} {kk : Nat} {tpos : Pos} {e : Expr} {f : Env → Res D} {p pos : Pos} (c : Ctx X N sc fn) (hm : X.mg "enumerate" = none) (h : PEp X W e f) (hg : isGl sc "enumerate" = true := by rfl) (he : starEach [e] X.env = [(false, eval e X.env)] := by rfl) :
    PIp X W (.Tuple elts kk tpos) (.Call (.Name "enumerate" p) [e] [] pos) (enI f) := by
  obtain ⟨t, pe, q⟩ := h
  refine ⟨_, pi_enum (c.gl hg) hm (pa_cons pe pa_nil he) he, fun C F δ σ H R s g => ?_⟩
  refine q C F δ σ H _ s ((Gd.bind g).mono fun d F1 H1 x1 h1 v rv => ?_)
  cases d with
  | list ds =>
    cases rv with
    | lst hs ra => exact ⟨_, _, rfl, SqL.of (x1.le _ _ hs), (show Gd W σ F1 H1 (.ok (enL 0 ds)) _ from h1).ok (Ext.refl x1.le) _ (wk_enum hs ra)⟩
  | _ => exact False.elim h1
theorem PIh.enum {elts : List Expr} {kk : Nat} {tpos : Pos} {e : Expr} {f : Env → Res D} {p pos : Pos} (c : Ctx X N sc fn) (hm : X.mg "enumerate" = none) (h : PRp X W e f) (hg : isGl sc "enumerate" = true := by rfl) (he : starEach [e] X.env = [(false, eval e X.env)] := by rfl) :
    PIh X W (.Tuple elts kk tpos) (.Call (.Name "enumerate" p) [e] [] pos) (enI f) := by
  obtain ⟨t, pe, q⟩ := h
  refine ⟨_, pi_enum (c.gl hg) hm (pa_cons pe pa_nil he) he, fun C F δ σ H R s g => ?_⟩
  refine q C F δ σ H _ s ((Gd.bind g).mono fun d F1 H1 x1 h1 v rv => ?_)
  cases d with
  | list ds =>
    obtain ⟨a, vs, ex, hs, ra⟩ := rv
    exact ⟨a, _, by rw [ex], SqL.of hs, (show Gd W σ F1 H1 (.ok (enL 0 ds)) _ from h1).ok (Ext.refl x1.le) _ (wkh_enum (SqL.of hs) ra)⟩
  | _ => exact False.elim h1
/-- zip(xs, ys) -/
def zipL : List D → List D → List D
  | d :: ds, e :: es => .tuple [d, e] :: zipL ds es
  | _, _ => []
theorem zipL_get : ∀ (ds es : List D) (i : Nat) (d : D), (zipL ds es)[i]? = some d → ∃ x y, ds[i]? = some x ∧ es[i]? = some y ∧ d = .tuple [x, y]
  | [], _, _, _, h => by cases h
  | _ :: _, [], _, _, h => by cases h
  | x :: ds, y :: es, 0, d, h => by cases h; exact ⟨x, y, rfl, rfl, rfl⟩
  | x :: ds, y :: es, i + 1, d, h => zipL_get ds es i d h
theorem zipL_le : ∀ (ds es : List D) (i : Nat), (zipL ds es).length ≤ i → ds.length ≤ i ∨ es.length ≤ i
  | [], _, i, _ => .inl (Nat.zero_le _)
  | _ :: _, [], i, _ => .inr (Nat.zero_le _)
  | _ :: ds, _ :: es, 0, h => by cases h
  | _ :: ds, _ :: es, i + 1, h => by
    rcases zipL_le ds es i (Nat.le_of_succ_le_succ h) with z | z
    · exact .inl (Nat.succ_le_succ z)
    · exact .inr (Nat.succ_le_succ z)
theorem wk_zip {K : PySem.W.Frag} {F : Hp} {a b : Addr} {vs ws : List V} {ds es : List D} (hs : F a = some (.lst vs)) (ra : RpA K F vs ds) (hs2 : F b = some (.lst ws)) (ra2 : RpA K F ws es) : Wk K F (Itz K a b) (zipL ds es) := fun i F1 H1 e1 e2 => by
  have h1 : SqL K H1 a vs := SqL.of (e2 _ _ (e1 _ _ hs))
  have h2 : SqL K H1 b ws := SqL.of (e2 _ _ (e1 _ _ hs2))
  refine ⟨fun h => ⟨vs, ws, h1, h2, by rw [ra.length, ra2.length]; exact zipL_le ds es i h⟩, fun d hd => ?_⟩
  obtain ⟨x, y, hx, hy, ed⟩ := zipL_get ds es i d hd
  obtain ⟨v, hv, rv⟩ := ra.get hx
  obtain ⟨u, hu, ru⟩ := ra2.get hy
  refine ⟨⟨vs, ws, v, u, h1, h2, hv, hu⟩, fun z H' ⟨T, x', y', ez, hT, eH, hx', hy'⟩ => ?_⟩
  have e3 := hx' vs h1
  have e4 := hy' ws h2
  rw [hv] at e3
  rw [hu] at e4
  cases e3
  cases e4
  refine ⟨upd F1 T (.tup [v, u]), by rw [eH]; exact (Ext.refl e2).newF hT _, ?_⟩
  rw [ez, ed]
  have ff := e1.trans (same_new (e2.free hT) (.tup [v, u]))
  exact .tup (SqT.of upd_same) (.cons (Rp.mono ff _ _ rv) (.one (Rp.mono ff _ _ ru)))
def gZip : D → D → Res (List D)
  | .list ds, .list es => .ok (zipL ds es)
  | _, _ => .err
def zipI (f g : Env → Res D) : Env → Res (List D) := bin f g gZip
theorem PIp.zip {elts : List Expr} {kk : Nat} {tpos : Pos} {e e2 : Expr} {f f2 : Env → Res D} {p pos : Pos} (c : Ctx X N sc fn) (hm : X.mg "zip" = none) (h : PEp X W e f) (h2 : PEp X W e2 f2) (hg : isGl sc "zip" = true := by rfl)
    (he : starEach [e, e2] X.env = (false, eval e X.env) :: starEach [e2] X.env := by rfl) (he2 : starEach [e2] X.env = (false, eval e2 X.env) :: starEach [] X.env := by rfl) (hpl : (backTo pos (starEach [e2] X.env)).any (·.1) = false := by rfl) :
    PIp X W (.Tuple elts kk tpos) (.Call (.Name "zip" p) [e, e2] [] pos) (zipI f f2) := by
  obtain ⟨t, pe, q⟩ := h
  obtain ⟨t2, pe2, q2⟩ := h2
  refine ⟨_, pi_zip (c.gl hg) hm (pa_cons pe (pa_cons pe2 pa_nil he2) he) he hpl, fun C F δ σ H R s g => ?_⟩
  refine q C F δ σ H _ s ((Gd.bind g).mono fun d F1 H1 x1 h1 v rv => ?_)
  refine q2 C F1 δ σ H1 _ (s.ext x1) ((Gd.bind h1).mono fun d2 F2 H2 x2 h3 v2 rv2 => ?_)
  have rv := Rp.mono x2.ff _ _ rv
  unfold gZip at h3
  split at h3
  · cases rv with
    | lst hs ra =>
      cases rv2 with
      | lst hs2 ra2 => exact ⟨_, _, _, _, rfl, SqL.of (x2.le _ _ hs), SqL.of (x2.le _ _ hs2), h3.ok (Ext.refl x2.le) _ (wk_zip hs ra hs2 ra2)⟩
  · exact False.elim h3

/-! ### targets -/
/-- slots stored, one after another -/
def setM (σ : L2.St) (ps : List (Nat × V)) : L2.St := ps.foldl (fun σ p => σ.set p.1 (some p.2)) σ
def PGp (X : Cx) (tg : Expr) (is : List Nat) (g : D → Env → Option Env) : Prop := ∃ t, PG X tg t ∧ ∀ C F δ σ H v d Q, Sat X.K C F δ σ H → Rp X.K F v d → (∃ δ', g d δ = some δ' ∧ ∀ ps : List (Nat × V), ps.map (·.1) = is → Sat X.K C F δ' (setM σ ps) H → Q (setM σ ps) H) → t v σ H Q
def PGm (X : Cx) (ts : List Expr) (is : List Nat) (g : List D → Env → Option Env) : Prop := ∃ t, PGs X ts t ∧ ∀ C F δ σ H vs ds Q, Sat X.K C F δ σ H → RpA X.K F vs ds → (∃ δ', g ds δ = some δ' ∧ ∀ ps : List (Nat × V), ps.map (·.1) = is → Sat X.K C F δ' (setM σ ps) H → Q (setM σ ps) H) → t vs σ H Q
def gN (i : Nat) : D → Env → Option Env := fun d δ => some (δ.set i (.val d))
theorem PGp.name (c : Ctx X N sc fn) (i : Nat) {x : Str} {pos : Pos} (hN : N[i]? = some x := by rfl) (hx : stOk sc fn x = true := by rfl) : PGp X (.Name x pos) [i] (gN i) := by
  obtain ⟨h1, h2⟩ := c.st hx
  refine ⟨_, pg_name (i := i) (by rw [c.hN]; exact c.nd) (by rw [c.hN]; exact hN) h1 h2, fun C F δ σ H v d Q s r h => ?_⟩
  obtain ⟨δ', e, q⟩ := h
  cases e
  exact q [(i, v)] rfl (s.set_val r)
def gNil : List D → Env → Option Env
  | [], δ => some δ
  | _, _ => none
def gCons (g : D → Env → Option Env) (gs : List D → Env → Option Env) : List D → Env → Option Env
  | d :: ds, δ => (g d δ).bind (gs ds)
  | [], _ => none
theorem PGm.nil : PGm X [] [] gNil := by
  refine ⟨_, pgs_nil, fun C F δ σ H vs ds Q s r h => ?_⟩
  obtain ⟨δ', e, q⟩ := h
  cases r with
  | nil => cases e; exact ⟨rfl, q [] rfl s⟩
  | cons _ _ => cases e
theorem setM_app (σ : L2.St) (ps qs : List (Nat × V)) : setM (setM σ ps) qs = setM σ (ps ++ qs) := by unfold setM; rw [List.foldl_append]
theorem PGm.cons {e : Expr} {es : List Expr} {is js : List Nat} {g : D → Env → Option Env} {gs : List D → Env → Option Env} (h : PGp X e is g) (h2 : PGm X es js gs)
    (hs : (assignEach (e :: es) X.env).map (·.2) = assign e X.env :: (assignEach es X.env).map (·.2) := by rfl) : PGm X (e :: es) (is ++ js) (gCons g gs) := by
  obtain ⟨t, p, q⟩ := h
  obtain ⟨u, p2, q2⟩ := h2
  refine ⟨_, pgs_cons p p2 hs, fun C F δ σ H vs ds Q s r h => ?_⟩
  obtain ⟨δ', e, k⟩ := h
  cases r with
  | nil => cases e
  | @cons v vs d ds r rs =>
    refine ⟨v, vs, rfl, ?_⟩
    dsimp only [gCons] at e
    cases ed : g d δ with
    | none => rw [ed] at e; cases e
    | some δ1 =>
      rw [ed] at e
      refine q C F δ σ H v d _ s r ⟨δ1, ed, fun ps hp s1 => ?_⟩
      refine q2 C F δ1 _ H vs ds _ s1 rs ⟨δ', e, fun qs hq s2 => ?_⟩
      rw [setM_app] at s2 ⊢
      exact k (ps ++ qs) (by rw [List.map_append, hp, hq]) s2
def gT (n : Nat) (gs : List D → Env → Option Env) : D → Env → Option Env
  | .tuple ds, δ => if ds.length = n then gs ds δ else none
  | _, _ => none
theorem PGp.tup {es : List Expr} {k : Nat} {pos : Pos} {n : Nat} {is : List Nat} {gs : List D → Env → Option Env} (c : Ctx X N sc fn) (h : PGm X es is gs) (hn : (assignEach es X.env).length = n := by rfl) (hst : (assignEach es X.env).findIdx? (·.1) = none := by rfl) :
    PGp X (.Tuple es k pos) is (gT n gs) := by
  obtain ⟨t, p, q⟩ := h
  refine ⟨_, pg_tup c.calm p hn hst, fun C F δ σ H v d Q s r h => ?_⟩
  obtain ⟨δ', e, k⟩ := h
  cases d with
  | tuple ds =>
    dsimp only [gT] at e
    split at e
    · rename_i hl
      cases r with
      | tup hs ra => exact ⟨_, _, rfl, Same.sqT s.le hs, by rw [ra.length]; exact hl, q C F δ σ H _ ds _ s ra ⟨δ', e, k⟩⟩
    · cases e
  | _ => cases e

/-! ### list comprehensions -/
def yesB : Env → Res Bool := fun _ => .ok true
/-- the items that a comprehension makes -/
def compL (g : D → Env → Option Env) (ft : Env → Res Bool) (fe : Env → Res D) (δ : Env) : List D → Res (List D)
  | [] => .ok []
  | d :: ds => match g d δ with
    | none => .err
    | some δ1 => match ft δ1 with
      | .ok true => (match fe δ1 with
        | .ok y => (match compL g ft fe δ ds with
          | .ok ys => .ok (y :: ys)
          | _ => .err)
        | _ => .err)
      | .ok false => compL g ft fe δ ds
      | _ => .err
def szI (ds : List D) : Res (List D) := if ds.length ≤ sizeLine then .ok ds else .err
def compF (vs : List Nat) (fi : Env → Res (List D)) (g : D → Env → Option Env) (ft : Env → Res Bool) (fe : Env → Res D) : Env → Res (List D) := fun δ => (fi δ).bind fun ds => (szI ds).bind fun ds => compL g ft fe (fgE vs δ) ds
/-- a clause's tests -/
def PTq (X : Cx) (ifs : List Expr) (f : Env → Res Bool) : Prop := ∃ t, PTs X ifs t ∧ ∀ C F δ σ H Q, Sat X.K C F δ σ H → Gd W0 σ F H (f δ) (fun b _ H' => Q b H') → t σ H Q
theorem PTq.no : PTq X [] yesB := ⟨_, pts_nil, fun C F δ σ H Q s g => g.ok (Ext.refl s.le)⟩
theorem PTq.one {e : Expr} {f : Env → Res Bool} (h : PBp X W0 e f) : PTq X [e] f := by
  obtain ⟨_, t, p, q⟩ := h
  exact ⟨_, pts_one p, q⟩
abbrev Blk (X : Cx) (scope : Scope) (s : Shared) (H : Hp) (C : Addr) (cl : List (Str × Addr)) (fp : List Addr) : Cx := X.blk s H scope (compEnvC scope cl C X.env) fp
theorem Ctx.blk (c : Ctx X N sc fn) {scope : Scope} {s : Shared} {H : Hp} {C : Addr} {cl : List (Str × Addr)} {fp : List Addr} : Ctx (Blk X scope s H C cl fp) N (relS scope sc) (fun x => scope.names.lookup x == some .cell) := by
  refine ⟨c.hN, c.nd, ?_, rfl, c.calm, c.un, PassesOwn.never⟩
  show relS scope X.env.scope = relS scope sc
  rw [c.sc]
theorem wipe_set {σ : L2.St} {i : Nat} {o : Option V} : ∀ {vs : List Nat}, i ∈ vs → wipe (σ.set i o) vs = wipe σ vs
  | [], h => by cases h
  | v :: vs, h => by
    show (wipe (σ.set i o) vs).set v none = (wipe σ vs).set v none
    by_cases hi : i ∈ vs
    · rw [wipe_set hi]
    · have e : i = v := by
        rcases List.mem_cons.mp h with z | z
        · exact z
        · exact absurd z hi
      subst e
      have push : ∀ (ws : List Nat), i ∉ ws → wipe (σ.set i o) ws = (wipe σ ws).set i o := by
        intro ws
        induction ws with
        | nil => intro _; rfl
        | cons w ws ih =>
          intro hw
          have h1 : i ≠ w := fun z => hw (by rw [z]; exact List.mem_cons_self)
          have h2 : i ∉ ws := fun z => hw (List.mem_cons_of_mem _ z)
          show (wipe (σ.set i o) ws).set w none = ((wipe σ ws).set w none).set i o
          rw [ih h2, List.set_comm _ _ h1]
      rw [push vs hi, List.set_set]
theorem wipe_setM {vs : List Nat} : ∀ (ps : List (Nat × V)) (σ : L2.St), (∀ p ∈ ps, p.1 ∈ vs) → wipe (setM σ ps) vs = wipe σ vs
  | [], _, _ => rfl
  | p :: ps, σ, h => by
    show wipe (setM (σ.set p.1 (some p.2)) ps) vs = wipe σ vs
    rw [wipe_setM ps _ fun q hq => h q (List.mem_cons_of_mem _ hq), wipe_set (h p List.mem_cons_self)]
theorem wipe_wipe {vs : List Nat} (σ : L2.St) : ∀ us : List Nat, (∀ i ∈ us, i ∈ vs) → wipe (wipe σ us) vs = wipe σ vs
  | [], _ => rfl
  | u :: us, h => by
    show wipe ((wipe σ us).set u none) vs = wipe σ vs
    rw [wipe_set (h u List.mem_cons_self), wipe_wipe σ us fun i hi => h i (List.mem_cons_of_mem _ hi)]
theorem fgE_set : ∀ (vs : List Nat) (δ : Env) (i : Nat), fgE vs (δ.set i .no) = (fgE vs δ).set i .no
  | [], _, _ => rfl
  | v :: vs, δ, i => by
    show fgE vs ((δ.set i .no).set v .no) = (fgE vs (δ.set v .no)).set i .no
    by_cases h : i = v
    · subst h
      rw [List.set_set, ← fgE_set vs (δ.set i .no) i, List.set_set]
    · rw [List.set_comm _ _ h, fgE_set vs (δ.set v .no) i]
theorem Sat.wipe {K : PySem.W.Frag} {C : Ent} {F H : Hp} : ∀ (vs : List Nat) {δ : Env} {σ : L2.St}, Sat K C F δ σ H → Sat K C F (fgE vs δ) (L2.wipe σ vs) H
  | [], _, _, s => s
  | v :: vs, δ, σ, s => by
    have ih := Sat.wipe vs (s)
    show Sat K C F (fgE vs (δ.set v .no)) ((L2.wipe σ vs).set v none) H
    rw [fgE_set]
    obtain ⟨G, g⟩ := ih
    refine ⟨G, g.le, g.f0, g.nw, g.keep, g.alive, g.dis, g.live, g.mine, by rw [List.length_set, List.length_set]; exact g.len, fun j s e => ?_⟩
    by_cases hj : v = j
    · subst hj
      by_cases hl : v < (fgE vs δ).length
      · rw [List.getElem?_set_self hl] at e; cases e; trivial
      · rw [List.getElem?_eq_none (by rw [List.length_set]; omega)] at e; cases e
    · rw [List.getElem?_set_ne hj] at e ⊢; exact g.sl j s e

section
variable {elt tg iter : Expr} {ifs : List Expr} {scope : Scope} {own : List (Str × Nat)} {pos : Pos} {fi : Env → Res (List D)} {g : D → Env → Option Env} {is : List Nat} {ft : Env → Res Bool} {fe : Env → Res D}
/-- the reading of a comprehension -/
theorem lc_sem {wi : TI} {tg_ : TG} {tt : TT} {te : TE} {Kf : PySem.W.Frag} {vs : List Nat}
    (qi : ∀ C F δ σ H R, Sat Kf C F δ σ H → Gd W σ F H (fi δ) (fun ds F' H' => ∀ J, WkH Kf F' H' J ds → R J H') → wi σ H R)
    (qg : ∀ C F δ σ H v d Q, Sat Kf C F δ σ H → Rp Kf F v d → (∃ δ', g d δ = some δ' ∧ ∀ ps : List (Nat × V), ps.map (·.1) = is → Sat Kf C F δ' (setM σ ps) H → Q (setM σ ps) H) → tg_ v σ H Q)
    (qt : ∀ C F δ σ H Q, Sat Kf C F δ σ H → Gd W0 σ F H (ft δ) (fun b _ H' => Q b H') → tt σ H Q)
    (qe : ∀ C F δ σ H Q, Sat Kf C F δ σ H → Gd W0 σ F H (fe δ) (fun d F' H' => ∀ v, Rp Kf F' v d → Q v H') → te σ H Q)
    (hv : ∀ i ∈ is, i ∈ vs) {C : Ent} {F : Hp} {δ : Env} {σ : L2.St} {H : Hp} {Q : VK} (s : Sat Kf C F δ σ H)
    (h : Gd W σ F H (compF vs fi g ft fe δ) (fun ds F' H' => ∀ a vs, H a = none → F' a = none → H' a = some (.lst vs) → RpA Kf F' vs ds → Q (.ref a) H')) : tLc wi tg_ tt te vs σ H Q := by
  refine qi C F δ σ H _ s ((Gd.bind2 h).mono fun ds F1 H1 x1 h1 J wk => fun D hD => ?_)
  have h1 := h1.bind2
  unfold szI at h1
  split at h1
  case isFalse => exact False.elim h1
  rename_i hsz
  have h1 := h1.ok (Ext.refl s.le)
  have hDH := x1.hh.free hD
  have hDF := x1.le.free hD
  have xD : Ext F1 H1 F1 (upd H1 D (.lst [])) := (Ext.refl x1.le).newH hD _
  have sw := (s.wipe vs).ext x1
  -- the invariant: what is made so far, and what the rest makes gives the whole
  refine ⟨fun i m Hi => ∃ Fi accV acc, m = ds.length - i ∧ i ≤ ds.length ∧ Ext F1 H1 Fi Hi ∧ Fi D = none ∧ Hi D = some (.lst accV) ∧ RpA Kf Fi accV acc ∧ acc.length ≤ i ∧
    Gd W σ F H ((compL g ft fe (fgE vs δ) (ds.drop i)).bind fun r => .ok (acc ++ r)) (fun ds F' H' => ∀ a vs, H a = none → F' a = none → H' a = some (.lst vs) → RpA Kf F' vs ds → Q (.ref a) H'),
    ⟨ds.length, F1, [], [], by simp, Nat.zero_le _, xD, hDF, upd_same, .nil, Nat.le_refl _, ?_⟩, ?_⟩
  · rw [List.drop_zero]
    cases q : compL g ft fe (fgE vs δ) ds with
    | ok r => rw [q] at h1; exact h1
    | exc c => rw [q] at h1; exact h1
    | err => rw [q] at h1; exact h1
  rintro i m Hi ⟨Fi, accV, acc, rfl, hi, xi, hFi, hHi, ra, hla, hg⟩
  obtain ⟨ws, wg⟩ := wk i Fi Hi xi.ff xi.le xi.hh
  by_cases hlt : i < ds.length
  · right
    have hd : ds[i]? = some ds[i] := by rw [List.getElem?_eq_getElem hlt]
    obtain ⟨go, yld⟩ := wg _ hd
    rw [List.drop_eq_getElem_cons hlt] at hg
    refine ⟨go, fun H' => ∃ F' accV' acc', Ext F1 H1 F' H' ∧ F' D = none ∧ H' D = some (.lst accV') ∧ RpA Kf F' accV' acc' ∧ acc'.length ≤ i + 1 ∧
      Gd W σ F H ((compL g ft fe (fgE vs δ) (ds.drop (i + 1))).bind fun r => .ok (acc' ++ r)) (fun ds F' H' => ∀ a vs, H a = none → F' a = none → H' a = some (.lst vs) → RpA Kf F' vs ds → Q (.ref a) H'),
      fun H' ⟨F', accV', acc', k1, k2, k3, k4, k5, k6⟩ => ⟨ds.length - (i + 1), by omega, F', accV', acc', rfl, hlt, k1, k2, k3, k4, k5, k6⟩, fun x H2 hy => ?_⟩
    obtain ⟨F2, x2, rx⟩ := yld x H2 hy
    have xi2 := xi.trans x2
    have hF2 : F2 D = none := by
      cases q : F2 D with
      | none => rfl
      | some o =>
        rcases x2.nw D o q with z | z
        · rw [hFi] at z; cases z
        · rw [hHi] at z; cases z
    have s2 := sw.ext xi2
    unfold compL at hg
    cases eg : g ds[i] (fgE vs δ) with
    | none => rw [eg] at hg; exact False.elim hg
    | some δ1 =>
      rw [eg] at hg
      dsimp only at hg
      refine qg C F2 _ _ H2 x ds[i] _ s2 rx ⟨δ1, eg, fun ps hp s3 => ⟨(wipe_setM ps _ (fun p hp2 => hv _ (by rw [← hp]; exact List.mem_map_of_mem hp2))).trans (wipe_wipe σ vs fun _ z => z), ?_⟩⟩
      refine qt C F2 δ1 _ H2 _ s3 ?_
      cases et : ft δ1 with
      | err => rw [et] at hg; exact False.elim hg
      | exc c => rw [et] at hg; exact False.elim hg
      | ok b =>
        rw [et] at hg
        intro F3 H3 x3
        have xi3 := xi2.trans x3
        have hF3 : F3 D = none := by
          cases q : F3 D with
          | none => rfl
          | some o =>
            rcases x3.nw D o q with z | z
            · rw [hF2] at z; cases z
            · rw [x2.hh _ _ hHi] at z; cases z
        cases b with
        | false =>
          rw [if_neg Bool.false_ne_true]
          exact ⟨F3, accV, acc, xi3, hF3, x3.hh _ _ (x2.hh _ _ hHi), RpA.mono (x2.ff.trans x3.ff) _ _ ra, Nat.le_succ_of_le hla, hg⟩
        | true =>
          rw [if_pos rfl]
          refine qe C F3 δ1 _ H3 _ (s3.ext x3) ?_
          dsimp only at hg
          cases ee : fe δ1 with
          | err => rw [ee] at hg; exact False.elim hg
          | exc c => rw [ee] at hg; exact False.elim hg
          | ok y =>
            rw [ee] at hg
            intro F4 H4 x4 v rv
            have hF4 : F4 D = none := by
              cases q : F4 D with
              | none => rfl
              | some o =>
                rcases x4.nw D o q with z | z
                · rw [hF3] at z; cases z
                · rw [x3.hh _ _ (x2.hh _ _ hHi)] at z; cases z
            have e4 : H4 D = some (.lst accV) := x4.hh _ _ (x3.hh _ _ (x2.hh _ _ hHi))
            have ra4 : RpA Kf F4 accV acc := RpA.mono ((x2.ff.trans x3.ff).trans x4.ff) _ _ ra
            refine ⟨accV, e4, by rw [ra.length]; omega, F4, accV ++ [v], acc ++ [y], (xi3.trans x4).chg hD hF4 _, hF4, upd_same, ra4.append (.one rv), by rw [List.length_append]; exact Nat.succ_le_succ hla, ?_⟩
            dsimp only at hg
            cases er : compL g ft fe (fgE vs δ) (ds.drop (i + 1)) with
            | ok r =>
              rw [er] at hg
              rw [Res.bind_ok, List.append_assoc]
              exact hg
            | exc c => rw [er] at hg; exact False.elim hg
            | err => rw [er] at hg; exact False.elim hg
  · left
    have e : i = ds.length := by omega
    subst e
    refine ⟨ws (Nat.le_refl _), ?_⟩
    rw [List.drop_length] at hg
    have hg : Gd W σ F H (.ok (acc ++ [])) _ := hg
    rw [List.append_nil] at hg
    exact hg.ok (x1.trans xi) D accV hDH hFi hHi ra
/-- one reading for all of a comprehension's contexts -/
theorem pe_all {ι : Type} {f : Env → Res D} {e : Expr} {B : ι → Cx} (he : ∀ i, PEp (B i) W0 e f) : ∃ t : TE, (∀ i, PE (B i) e t) ∧ ∀ (Kf : PySem.W.Frag), (∀ i, (B i).K = Kf) → ∀ C F δ σ H Q, Sat Kf C F δ σ H → Gd W0 σ F H (f δ) (fun d F' H' => ∀ v, Rp Kf F' v d → Q v H') → t σ H Q := by
  refine ⟨fun σ H Q => ∀ i, (he i).choose σ H Q, fun i => ⟨fun pins s σ H Q I h => (he i).choose_spec.1.run pins s σ H Q I (h i)⟩, fun Kf hK C F δ σ H Q s g i => ?_⟩
  have e := hK i
  subst e
  exact (he i).choose_spec.2 C F δ σ H Q s g
theorem pt_all {ι : Type} {f : Env → Res Bool} {es : List Expr} {B : ι → Cx} (he : ∀ i, PTq (B i) es f) : ∃ t : TT, (∀ i, PTs (B i) es t) ∧ ∀ (Kf : PySem.W.Frag), (∀ i, (B i).K = Kf) → ∀ C F δ σ H Q, Sat Kf C F δ σ H → Gd W0 σ F H (f δ) (fun b _ H' => Q b H') → t σ H Q := by
  refine ⟨fun σ H Q => ∀ i, (he i).choose σ H Q, fun i => ⟨fun pins s σ H Q I h => (he i).choose_spec.1.run pins s σ H Q I (h i)⟩, fun Kf hK C F δ σ H Q s g i => ?_⟩
  have e := hK i
  subst e
  exact (he i).choose_spec.2 C F δ σ H Q s g
theorem pg_all {ι : Type} {g : D → Env → Option Env} {is : List Nat} {e : Expr} {B : ι → Cx} (he : ∀ i, PGp (B i) e is g) : ∃ t : TG, (∀ i, PG (B i) e t) ∧ ∀ (Kf : PySem.W.Frag), (∀ i, (B i).K = Kf) → ∀ C F δ σ H v d Q, Sat Kf C F δ σ H → Rp Kf F v d → (∃ δ', g d δ = some δ' ∧ ∀ ps : List (Nat × V), ps.map (·.1) = is → Sat Kf C F δ' (setM σ ps) H → Q (setM σ ps) H) → t v σ H Q := by
  refine ⟨fun v σ H Q => ∀ i, (he i).choose v σ H Q, fun i => ⟨fun pins s σ H v u Q I r h => (he i).choose_spec.1.run pins s σ H v u Q I r (h i)⟩, fun Kf hK C F δ σ H v d Q s r g i => ?_⟩
  have e := hK i
  subst e
  exact (he i).choose_spec.2 C F δ σ H v d Q s r g
abbrev BlkI := Shared × Hp × Addr × List (Str × Addr) × List Addr
abbrev BlkOf (X : Cx) (scope : Scope) (b : BlkI) : Cx := Blk X scope b.1 b.2.1 b.2.2.1 b.2.2.2.1 b.2.2.2.2
theorem all_mem {is vs : List Nat} (hv : is.all (fun i => vs.contains i) = true) : ∀ i ∈ is, i ∈ vs := fun i hi => by
  have z := List.all_eq_true.mp hv i hi
  exact List.contains_iff_mem.mp z
theorem PFp.lc (c : Ctx X N sc fn) (own : List (Str × Nat)) (hi : PIh X W tg iter fi)
    (hg : ∀ b, Ctx (BlkOf X scope b) N (relS scope sc) (fun x => scope.names.lookup x == some .cell) → PGp (BlkOf X scope b) tg is g)
    (ht : ∀ b, Ctx (BlkOf X scope b) N (relS scope sc) (fun x => scope.names.lookup x == some .cell) → PTq (BlkOf X scope b) ifs ft)
    (he : ∀ b, Ctx (BlkOf X scope b) N (relS scope sc) (fun x => scope.names.lookup x == some .cell) → PEp (BlkOf X scope b) W0 elt fe)
    (ok : blkC N sc scope own = true := by decide +kernel) (hv : is.all (fun i => (own.map (·.2)).contains i) = true := by decide +kernel) (hs : ∀ x, foldedSetIterable iter X.env x = pure x := by intro _; rfl) :
    PFp X W (.ListComp elt [⟨tg, iter, ifs, 0⟩] scope pos) (compF (own.map (·.2)) fi g ft fe) := by
  obtain ⟨wi, pi_, qi⟩ := hi
  obtain ⟨t1, p1, q1⟩ := pg_all (B := BlkOf X scope) fun b => hg b c.blk
  obtain ⟨t2, p2, q2⟩ := pt_all (B := BlkOf X scope) fun b => ht b c.blk
  obtain ⟨t3, p3, q3⟩ := pe_all (B := BlkOf X scope) fun b => he b c.blk
  refine ⟨_, pe_lc c.calm (by rw [c.hN]; exact c.nd) pi_ (blkOk_by (own := own) (by rw [c.hN, c.sc]; exact ok)) (fun s H C cl fp => p1 (s, H, C, cl, fp)) (fun s H C cl fp => p2 (s, H, C, cl, fp)) (fun s H C cl fp => p3 (s, H, C, cl, fp)) hs, fun C F δ σ H Q s h => ?_⟩
  exact lc_sem qi (q1 X.K fun _ => rfl) (q2 X.K fun _ => rfl) (q3 X.K fun _ => rfl) (all_mem hv) s h
end
end
end DL
/-! DL4: statements, defs. -/
namespace DL
open PySem PySem.Spec PyProof.Rows L2

/-- how a statement ends: on, with an environment; with a value; with a new list; out of the loop; to its next turn; by an own exception; nothing is said -/
inductive Fl where
  | nx (δ : Env) | rt (d : D) | rf (ds : List D) | bk (δ : Env) | ct (δ : Env) | exc (c : Str) (δ : Env) | err
def Gs (K : PySem.W.Frag) (W : WS) (C : Ent) (F : Hp) (E : Ends) : Fl → Prop
  | .nx δ => ∀ F' σ' H', Same F F' → Sat K C F' δ σ' H' → E.nx σ' H'
  | .rt d => ∀ F' δ' σ' H' v, Same F F' → Sat K C F' δ' σ' H' → Rp K F' v d → E.rt v H'
  | .rf ds => ∀ F' δ' σ' H' a vs, Same F F' → Sat K C F' δ' σ' H' → (C.H0 a = none ∨ C.own a) → F' a = none → H' a = some (.lst vs) → RpA K F' vs ds → E.rt (.ref a) H'
  | .bk δ => ∀ F' σ' H', Same F F' → Sat K C F' δ σ' H' → E.bk σ' H'
  | .ct δ => ∀ F' σ' H', Same F F' → Sat K C F' δ σ' H' → E.ct σ' H'
  | .exc c δ => ∀ F' σ' H', Same F F' → Sat K C F' δ σ' H' → W c σ' H'
  | .err => False
theorem Gs.mono {K : PySem.W.Frag} {W : WS} {C : Ent} {F F1 : Hp} {E : Ends} {r : Fl} (h : Gs K W C F E r) (e : Same F F1) : Gs K W C F1 E r := by
  cases r with
  | nx δ => exact fun F' σ' H' e1 s => h F' σ' H' (e.trans e1) s
  | rt d => exact fun F' δ' σ' H' v e1 s r => h F' δ' σ' H' v (e.trans e1) s r
  | rf ds => exact fun F' δ' σ' H' a vs e1 s => h F' δ' σ' H' a vs (e.trans e1) s
  | bk δ => exact fun F' σ' H' e1 s => h F' σ' H' (e.trans e1) s
  | ct δ => exact fun F' σ' H' e1 s => h F' σ' H' (e.trans e1) s
  | exc c δ => exact fun F' σ' H' e1 s => h F' σ' H' (e.trans e1) s
  | err => exact h
/-- what follows an expression's answer -/
def onR {α : Type} (r : Res α) (δ : Env) (k : α → Fl) : Fl := match r with
  | .ok a => k a
  | .exc c => .exc c δ
  | .err => .err
@[simp] theorem onR_ok {α : Type} (a : α) (δ : Env) (k : α → Fl) : onR (.ok a) δ k = k a := rfl
@[simp] theorem onR_exc {α : Type} (c : Str) (δ : Env) (k : α → Fl) : onR (.exc c) δ k = .exc c δ := rfl
@[simp] theorem onR_err {α : Type} (δ : Env) (k : α → Fl) : onR (.err) δ k = .err := rfl
theorem Gs.on {α : Type} {K : PySem.W.Frag} {W : WS} {C : Ent} {F H : Hp} {δ : Env} {σ : L2.St} {E : Ends} {r : Res α} {k : α → Fl} {P : α → Hp → Hp → Prop} (s : Sat K C F δ σ H) (h : Gs K W C F E (onR r δ k))
    (hk : ∀ a F' H', Ext F H F' H' → Sat K C F' δ σ H' → Gs K W C F' E (k a) → P a F' H') : Gd W σ F H r P := by
  cases r with
  | ok a => exact fun F' H' x => hk a F' H' x (s.ext x) (h.mono x.ff)
  | exc c => exact fun F' H' x => h F' σ H' x.ff (s.ext x)
  | err => exact h

section
variable (X : Cx) (W : WS)
def PSp (st : Stmt) (f : Env → Fl) : Prop := ∃ t, PS X st t ∧ ∀ C F δ σ H E, Sat X.K C F δ σ H → Gs X.K W C F E (f δ) → t E σ H
def PSsp (st : List Stmt) (f : Env → Fl) : Prop := ∃ t, PSs X st t ∧ ∀ C F δ σ H E, Sat X.K C F δ σ H → Gs X.K W C F E (f δ) → t E σ H
end
section
variable {X : Cx} {N : List Str} {sc : Scope} {fn : Str → Bool} {W : WS}
section
variable {st : Stmt} {rest : List Stmt} {e : Expr} {pos : Pos} {f g : Env → Fl}
def nxS : Env → Fl := fun δ => .nx δ
def seqS (f g : Env → Fl) : Env → Fl := fun δ => match f δ with
  | .nx δ' => g δ'
  | r => r
theorem PSsp.nil : PSsp X W [] nxS := ⟨_, pss_nil, fun C F δ σ H E s g => g F σ H (Same.refl _) s⟩
theorem Gs.nxt {K : PySem.W.Frag} {C : Ent} {F : Hp} {E : Ends} {r : Fl} {g : Env → Fl} {u : TS} (h : Gs K W C F E (match r with | .nx δ' => g δ' | r => r))
    (hu : ∀ F' δ σ H, Same F F' → Sat K C F' δ σ H → Gs K W C F' E (g δ) → u E σ H) : Gs K W C F { E with nx := u E } r := by
  cases r with
  | nx δ' => exact fun F' σ' H' e s => hu F' δ' σ' H' e s (h.mono e)
  | rt d => exact h
  | rf ds => exact h
  | bk δ => exact h
  | ct δ => exact h
  | exc c δ => exact h
  | err => exact h
theorem PSsp.cons (h1 : PSp X W st f) (h2 : PSsp X W rest g) : PSsp X W (st :: rest) (seqS f g) := by
  obtain ⟨t, p, q⟩ := h1
  obtain ⟨u, p2, q2⟩ := h2
  exact ⟨_, pss_cons p p2, fun C F δ σ H E s h => q C F δ σ H _ s (Gs.nxt h fun F' δ' σ' H' e s' g' => q2 C F' δ' σ' H' E s' g')⟩
theorem PSsp.one (h1 : PSp X W st f) : PSsp X W [st] f := by
  obtain ⟨t, p, q⟩ := h1
  exact ⟨_, pss_one p, q⟩
/-- what slot i owns is data from here on -/
def frzT (i : Nat) (f : Env → Fl) : Env → Fl := fun δ => f (frzE i δ)
theorem PSsp.frz (i : Nat) {sts : List Stmt} (h : PSsp X W sts f) : PSsp X W sts (frzT i f) := by
  obtain ⟨t, p, q⟩ := h
  refine ⟨t, p, fun C F δ σ H E s g => ?_⟩
  obtain ⟨F1, e, s1, _⟩ := s.frz i
  exact q C F1 _ σ H E s1 (g.mono e)
/-- slots forgotten -/
def fgT (is : List Nat) (f : Env → Fl) : Env → Fl := fun δ => f (fgE is δ)
theorem PSsp.fg (is : List Nat) {sts : List Stmt} (h : PSsp X W sts f) : PSsp X W sts (fgT is f) := by
  obtain ⟨t, p, q⟩ := h
  exact ⟨t, p, fun C F δ σ H E s g => q C F _ σ H E (s.fg is) g⟩
theorem PSp.pass : PSp X W (.Pass pos) nxS := ⟨_, ps_pass, fun C F δ σ H E s g => g F σ H (Same.refl _) s⟩
theorem PSp.brk : PSp X W (.Break pos) (fun δ => .bk δ) := ⟨_, ps_break, fun C F δ σ H E s g => g F σ H (Same.refl _) s⟩
theorem PSp.cont : PSp X W (.Continue pos) (fun δ => .ct δ) := ⟨_, ps_continue, fun C F δ σ H E s g => g F σ H (Same.refl _) s⟩
theorem PSp.doc {x : Str} {j : Nat} {pos' : Pos} : PSp X W (.Expr (.Constant (.str x) j pos) pos') nxS := ⟨_, ps_doc, fun C F δ σ H E s g => g F σ H (Same.refl _) s⟩
/-- an expression whose value goes -/
def dropS (f : Env → Res D) : Env → Fl := fun δ => onR (f δ) δ fun _ => .nx δ
theorem PSp.expr {f : Env → Res D} (h : PEp X W e f) (hs : swapsWith e none pos.line X.env = pure false := by rfl) : PSp X W (.Expr e pos) (dropS f) := by
  obtain ⟨t, p, q⟩ := h
  exact ⟨_, ps_expr p hs, fun C F δ σ H E s g => q C F δ σ H _ s (Gs.on s g fun d F' H' x s' g' v r => g' F' σ H' (Same.refl _) s')⟩
/-- return -/
def retS (f : Env → Res D) : Env → Fl := fun δ => onR (f δ) δ fun d => .rt d
def retF (f : Env → Res (List D)) : Env → Fl := fun δ => onR (f δ) δ fun d => .rf d
def retV (i : Nat) : Env → Fl := fun δ => match δ[i]? with
  | some (.own ds) => .rf ds
  | _ => .err
theorem PSp.ret {f : Env → Res D} (h : PEp X W e f) : PSp X W (.Return (some e) pos) (retS f) := by
  obtain ⟨t, p, q⟩ := h
  exact ⟨_, ps_ret p, fun C F δ σ H E s g => q C F δ σ H _ s (Gs.on s g fun d F' H' x s' g' v r => g' F' δ σ H' v (Same.refl _) s' r)⟩
theorem PSp.retF {f : Env → Res (List D)} (h : PFp X W e f) : PSp X W (.Return (some e) pos) (retF f) := by
  obtain ⟨t, p, q⟩ := h
  refine ⟨_, ps_ret p, fun C F δ σ H E s g => q C F δ σ H _ s (Gs.on s g fun ds F' H' x s' g' a vs h1 h2 h3 h4 => ?_)⟩
  obtain ⟨G, sg⟩ := s
  exact g' F' δ σ H' a vs (Same.refl _) s' (.inl (sg.h0 h1).1) h2 h3 h4
theorem PSp.retV (c : Ctx X N sc fn) (i : Nat) {x : Str} {pos' : Pos} (hN : N[i]? = some x := by rfl) (hv : isVis sc x = true := by rfl) (hd : (x == ("__debug__" : Str)) = false := by decide) (hcd : (x == ("__classdict__" : Str)) = false := by decide) : PSp X W (.Return (some (.Name x pos')) pos) (retV i) := by
  refine ⟨_, ps_ret (pe_var (i := i) (by rw [c.hN]; exact hN) (c.vis hv) hd hcd), fun C F δ σ H E s g => ?_⟩
  unfold DL.retV at g
  split at g
  · rename_i ds e
    obtain ⟨G, g', a, vs, h1, h2, h3, h4⟩ := s.get e
    exact ⟨_, join_some h1, g F δ σ H a vs (Same.refl _) s (g'.mine a i h2) (g'.dis a i h2) h3 h4⟩
  · exact False.elim g
theorem PSp.retN : PSp X W (.Return none pos) (fun _ => .rt .none) := ⟨_, ps_retN, fun C F δ σ H E s g => g F δ σ H _ (Same.refl _) s .non⟩
/-- if -/
def ifS (c : Env → Res Bool) (f g : Env → Fl) : Env → Fl := fun δ => onR (c δ) δ fun b => if b = true then f δ else g δ
theorem PSp.if_ {c : Expr} {fc : Env → Res Bool} {a b : List Stmt} (hc : PBp X W c fc) (ha : PSsp X W a f) (hb : PSsp X W b g) : PSp X W (.If c a b pos) (ifS fc f g) := by
  obtain ⟨_, tc, pc, qc⟩ := hc
  obtain ⟨ta, pa, qa⟩ := ha
  obtain ⟨tb, pb, qb⟩ := hb
  refine ⟨_, ps_if pc pa pb, fun C F δ σ H E s h => qc C F δ σ H _ s (Gs.on s h fun b F' H' x s' h' => ?_)⟩
  cases b with
  | true => rw [if_pos rfl] at h' ⊢; exact qa C F' δ σ H' E s' h'
  | false => rw [if_neg Bool.false_ne_true] at h' ⊢; exact qb C F' δ σ H' E s' h'
/-- name = e -/
def setS (i : Nat) (f : Env → Res D) : Env → Fl := fun δ => onR (f δ) δ fun d => .nx (δ.set i (.val d))
def setF (i : Nat) (f : Env → Res (List D)) : Env → Fl := fun δ => onR (f δ) δ fun ds => .nx (δ.set i (.own ds))
def setK (i : Nat) (f : Env → Res (List (D × D))) : Env → Fl := fun δ => onR (f δ) δ fun ds => .nx (δ.set i (.ownK ds))
theorem PSp.set {f : Env → Res D} (c : Ctx X N sc fn) (i : Nat) {x : Str} {pos' : Pos} (h : PEp X W e f) (hN : N[i]? = some x := by rfl) (hx : stOk sc fn x = true := by rfl) (hs : swapsWith e (some (.Name x pos')) pos.line X.env = pure false := by rfl) :
    PSp X W (.Assign [.Name x pos'] e pos) (setS i f) := by
  obtain ⟨t, p, q⟩ := h
  obtain ⟨h1, h2⟩ := c.st hx
  exact ⟨_, ps_set (i := i) (by rw [c.hN]; exact c.nd) (by rw [c.hN]; exact hN) h1 p hs h2, fun C F δ σ H E s g => q C F δ σ H _ s (Gs.on s g fun d F' H' x s' g' v r => g' F' _ H' (Same.refl _) (s'.set_val r))⟩
theorem PSp.setF {f : Env → Res (List D)} (c : Ctx X N sc fn) (i : Nat) {x : Str} {pos' : Pos} (h : PFp X W e f) (hN : N[i]? = some x := by rfl) (hx : stOk sc fn x = true := by rfl) (hs : swapsWith e (some (.Name x pos')) pos.line X.env = pure false := by rfl) :
    PSp X W (.Assign [.Name x pos'] e pos) (setF i f) := by
  obtain ⟨t, p, q⟩ := h
  obtain ⟨h1, h2⟩ := c.st hx
  refine ⟨_, ps_set (i := i) (by rw [c.hN]; exact c.nd) (by rw [c.hN]; exact hN) h1 p hs h2, fun C F δ σ H E s g => q C F δ σ H _ s (Gs.on s g fun ds F' H' x s' g' a vs k1 k2 k3 k4 => ?_)⟩
  exact g' F' _ H' (Same.refl _) (s.set_new k1 x k2 k3 fun G gG => ⟨a, vs, rfl, gG, k3, k4⟩)
theorem PSp.setK {f : Env → Res (List (D × D))} (c : Ctx X N sc fn) (i : Nat) {x : Str} {pos' : Pos} (h : PKp X W e f) (hN : N[i]? = some x := by rfl) (hx : stOk sc fn x = true := by rfl) (hs : swapsWith e (some (.Name x pos')) pos.line X.env = pure false := by rfl) :
    PSp X W (.Assign [.Name x pos'] e pos) (setK i f) := by
  obtain ⟨t, p, q⟩ := h
  obtain ⟨h1, h2⟩ := c.st hx
  refine ⟨_, ps_set (i := i) (by rw [c.hN]; exact c.nd) (by rw [c.hN]; exact hN) h1 p hs h2, fun C F δ σ H E s g => q C F δ σ H _ s (Gs.on s g fun ds F' H' x s' g' a vs k1 k2 k3 k4 => ?_)⟩
  exact g' F' _ H' (Same.refl _) (s.set_new k1 x k2 k3 fun G gG => ⟨a, vs, rfl, gG, k3, k4⟩)
/-- name = [.. for ..], the list of one's own -/
theorem PSp.setLc (c : Ctx X N sc fn) (i : Nat) (own : List (Str × Nat)) {x : Str} {pos' lpos : Pos} {elt tg iter : Expr} {ifs : List Expr} {scope : Scope} {fi : Env → Res (List D)} {gg : D → Env → Option Env} {is : List Nat} {ft : Env → Res Bool} {fe : Env → Res D} (hi : PIh X W tg iter fi)
    (hg : ∀ b, Ctx (BlkOf X scope b) N (relS scope sc) (fun x => scope.names.lookup x == some .cell) → PGp (BlkOf X scope b) tg is gg)
    (ht : ∀ b, Ctx (BlkOf X scope b) N (relS scope sc) (fun x => scope.names.lookup x == some .cell) → PTq (BlkOf X scope b) ifs ft)
    (he : ∀ b, Ctx (BlkOf X scope b) N (relS scope sc) (fun x => scope.names.lookup x == some .cell) → PEp (BlkOf X scope b) W0 elt fe)
    (hk : X.env.scope.kind = .function) (hN : N[i]? = some x := by rfl) (hx : (match sc.names.lookup x with | some .local => true | _ => false) = true := by rfl) (hl : (pos'.line == lpos.line) = true := by rfl)
    (ha : (scope.names.any fun (n, k) => n == x && (k == .local || k == .cell)) = false := by decide +kernel)
    (ok : blkC N sc scope own = true := by decide +kernel) (hv : is.all (fun i => (own.map (·.2)).contains i) = true := by decide +kernel) (hs : ∀ x, foldedSetIterable iter X.env x = pure x := by intro _; rfl) :
    PSp X W (.Assign [.Name x pos'] (.ListComp elt [⟨tg, iter, ifs, 0⟩] scope lpos) pos) (DL.setF i (compF (own.map (·.2)) fi gg ft fe)) := by
  obtain ⟨wi, pi_, qi⟩ := hi
  obtain ⟨t1, p1, q1⟩ := pg_all (B := BlkOf X scope) fun b => hg b c.blk
  obtain ⟨t2, p2, q2⟩ := pt_all (B := BlkOf X scope) fun b => ht b c.blk
  obtain ⟨t3, p3, q3⟩ := pe_all (B := BlkOf X scope) fun b => he b c.blk
  have hloc : X.env.scope.names.lookup x = some .local := by
    rw [c.sc]
    split at hx
    · assumption
    · cases hx
  refine ⟨_, ps_setLc (i := i) c.calm (by rw [c.hN]; exact c.nd) (by rw [c.hN]; exact hN) hloc (sw_true hk hloc hl ha) pi_ (blkOk_by (own := own) (by rw [c.hN, c.sc]; exact ok)) (fun s H C cl fp => p1 (s, H, C, cl, fp)) (fun s H C cl fp => p2 (s, H, C, cl, fp)) (fun s H C cl fp => p3 (s, H, C, cl, fp)) hs, fun C F δ σ H E s h => ?_⟩
  refine lc_sem qi (q1 X.K fun _ => rfl) (q2 X.K fun _ => rfl) (q3 X.K fun _ => rfl) (all_mem hv) s (Gs.on s h fun ds F' H' x s' g' a vs k1 k2 k3 k4 => ?_)
  exact g' F' _ H' (Same.refl _) (s.set_new k1 x k2 k3 fun G gG => ⟨a, vs, rfl, gG, k3, k4⟩)
/-- what slot i owns is data at once -/
def frzN (i : Nat) : Env → Fl := fun δ => .nx (frzE i δ)
theorem PSp.frzB (i : Nat) (h : PSp X W st f) : PSp X W st (seqS f (frzN i)) := by
  obtain ⟨t, p, q⟩ := h
  refine ⟨t, p, fun C F δ σ H E s g => q C F δ σ H E s ?_⟩
  unfold seqS at g
  cases r : f δ with
  | nx δ' =>
    rw [r] at g
    intro F' σ' H' e s'
    obtain ⟨F1, e1, s1, _⟩ := s'.frz i
    exact g F1 σ' H' (e.trans e1) s1
  | rt d => rw [r] at g; exact g
  | rf ds => rw [r] at g; exact g
  | bk δ => rw [r] at g; exact g
  | ct δ => rw [r] at g; exact g
  | exc c δ => rw [r] at g; exact g
  | err => rw [r] at g; exact g
/-- a target of any form = e -/
def asgS (g : D → Env → Option Env) (f : Env → Res D) : Env → Fl := fun δ => onR (f δ) δ fun d => match g d δ with
  | some δ' => .nx δ'
  | none => .err
theorem PSp.asg {tg : Expr} {is : List Nat} {g : D → Env → Option Env} {f : Env → Res D} (h : PEp X W e f) (hg : PGp X tg is g) (hs : swapsWithSole [tg] e pos.line X.env = pure false := by rfl) (hw : swappedStores [tg] e X.env = pure none := by rfl)
    (h1 : (assignEach [tg] X.env).map (·.2) = [assign tg X.env] := by rfl) : PSp X W (.Assign [tg] e pos) (asgS g f) := by
  obtain ⟨t, p, q⟩ := h
  obtain ⟨u, p2, q2⟩ := hg
  refine ⟨_, ps_asg p p2 hs hw h1, fun C F δ σ H E s h => q C F δ σ H _ s (Gs.on s h fun d F' H' x s' h' v r => ?_)⟩
  cases ed : g d δ with
  | none => rw [ed] at h'; exact False.elim h'
  | some δ' =>
    rw [ed] at h'
    exact q2 C F' δ σ H' v d _ s' r ⟨δ', ed, fun ps _ s2 => h' F' _ H' (Same.refl _) s2⟩
/-- x, y = a, b with two local names -/
def parS (i j : Nat) (fa fb : Env → Res D) : Env → Fl := fun δ => onR ((fa δ).bind fun x => (fb δ).bind fun y => .ok (x, y)) δ fun p => .nx ((δ.set i (.val p.1)).set j (.val p.2))
theorem PSp.par {a b : Expr} {fa fb : Env → Res D} {x y : Str} {px py pt pt2 : Pos} {kt k2 : Nat} (c : Ctx X N sc fn) (i j : Nat) (ha : PEp X W a fa) (hb : PEp X W b fb) (hi : N[i]? = some x := by rfl) (hj : N[j]? = some y := by rfl) (hij : i ≠ j := by decide)
    (hx : sc.names.lookup x = some .local := by rfl) (hy : sc.names.lookup y = some .local := by rfl) (hab : starEach [a, b] X.env = (false, eval a X.env) :: starEach [b] X.env := by rfl) (hb' : starEach [b] X.env = (false, eval b X.env) :: starEach [] X.env := by rfl)
    (hw : swappedStores [.Tuple [.Name x px, .Name y py] kt pt] (.Tuple [a, b] k2 pt2) X.env = pure (some [x, y]))
    (hs : swapsWithSole [.Tuple [.Name x px, .Name y py] kt pt] (.Tuple [a, b] k2 pt2) pos.line X.env = pure false := by rfl) :
    PSp X W (.Assign [.Tuple [.Name x px, .Name y py] kt pt] (.Tuple [a, b] k2 pt2) pos) (parS i j fa fb) := by
  obtain ⟨t, p, q⟩ := ha
  obtain ⟨u, p2, q2⟩ := hb
  refine ⟨_, ps_par (i := i) (j := j) c.calm (by rw [c.hN]; exact c.nd) (by rw [c.hN]; exact hi) (by rw [c.hN]; exact hj) hij (by rw [c.sc]; exact hx) (by rw [c.sc]; exact hy) (pa_cons p (pa_cons p2 pa_nil hb') hab) hw hs, fun C F δ σ H E s h => ?_⟩
  have h1 : Gd W σ F H ((fa δ).bind fun x => (fb δ).bind fun y => .ok (x, y)) (fun p F' H' => Sat X.K C F' δ σ H' ∧ Gs X.K W C F' E (.nx ((δ.set i (.val p.1)).set j (.val p.2)))) := Gs.on s h fun p F' H' x s' h' => ⟨s', h'⟩
  refine q C F δ σ H _ s (h1.bind.mono fun d F1 H1 x1 h2 v rv => ?_)
  refine q2 C F1 δ σ H1 _ (s.ext x1) (h2.bind.mono fun d2 F2 H2 x2 h3 v2 rv2 => ?_)
  obtain ⟨s', h4⟩ := h3.ok (Ext.refl x2.le)
  exact ⟨v, v2, rfl, h4 F2 _ H2 (Same.refl _) ((s'.set_val (Rp.mono x2.ff _ _ rv)).set_val rv2)⟩
end

/-! ### a list, a dict of one's own is changed -/
theorem Sat.put_own {K : PySem.W.Frag} {C : Ent} {F H : Hp} {δ : Env} {σ : L2.St} (s : Sat K C F δ σ H) {i : Nat} {a : Addr} {ds es : List D} {ws : List V} (hi : δ[i]? = some (.own ds)) (hx : (σ[i]?).join = some (.ref a)) (r : RpA K F ws es) :
    Sat K C F (δ.set i (.own es)) σ (upd H a (.lst ws)) :=
  s.put hi hx (fun G g => by
    obtain ⟨b, vs, h1, h2, _, _⟩ := g.sl i _ hi
    rw [hx] at h1
    cases h1
    exact h2) fun G gG => ⟨a, ws, rfl, gG, upd_same, r⟩
theorem Sat.put_ownK {K : PySem.W.Frag} {C : Ent} {F H : Hp} {δ : Env} {σ : L2.St} (s : Sat K C F δ σ H) {i : Nat} {a : Addr} {ds es : List (D × D)} {ws : List (Key × V)} (hi : δ[i]? = some (.ownK ds)) (hx : (σ[i]?).join = some (.ref a)) (r : RpK K F ws es) :
    Sat K C F (δ.set i (.ownK es)) σ (upd H a (.dK ws)) :=
  s.put hi hx (fun G g => by
    obtain ⟨b, vs, h1, h2, _, _⟩ := g.sl i _ hi
    rw [hx] at h1
    cases h1
    exact h2) fun G gG => ⟨a, ws, rfl, gG, upd_same, r⟩
def ownAt (i : Nat) (δ : Env) : Option (List D) := match δ[i]? with
  | some (.own ds) => some ds
  | _ => none
def ownKAt (i : Nat) (δ : Env) : Option (List (D × D)) := match δ[i]? with
  | some (.ownK ds) => some ds
  | _ => none
theorem ownAt_of {i : Nat} {δ : Env} {ds : List D} (h : ownAt i δ = some ds) : δ[i]? = some (.own ds) := by
  unfold ownAt at h
  split at h
  · cases h; assumption
  · cases h
theorem ownKAt_of {i : Nat} {δ : Env} {ds : List (D × D)} (h : ownKAt i δ = some ds) : δ[i]? = some (.ownK ds) := by
  unfold ownKAt at h
  split at h
  · cases h; assumption
  · cases h
section
variable {e : Expr} {pos : Pos} {x : Str} {p apos cpos : Pos}
/-- xs.append(e) -/
def appS (i : Nat) (f : Env → Res D) : Env → Fl := fun δ => match ownAt i δ with
  | some ds => onR (f δ) δ fun d => if ds.length < sizeLine then .nx (δ.set i (.own (ds ++ [d]))) else .err
  | none => .err
theorem PSp.append (c : Ctx X N sc fn) (i : Nat) {f : Env → Res D} (h : PEp X W e f) (hN : N[i]? = some x := by rfl) (hv : isVis sc x = true := by rfl) (hd : (x == ("__debug__" : Str)) = false := by decide) (hcd : (x == ("__classdict__" : Str)) = false := by decide)
    (hbase : attributeBase (.Name x p) "append" X.env (eval (.Name x p) X.env) = eval (.Name x p) X.env := by rfl)
    (hfew : ((backTo cpos (starEach [e] X.env)).all (fun x => !x.1) && (backToKw cpos (keywordEach [] X.env)).all (fun x => x.1.isSome)
      && decide (([e] : List Expr).length + ([] : List Keyword).length + (if ([] : List Keyword).isEmpty then 0 else 1) < 30)) = true := by rfl)
    (hline : (apos.endLine == cpos.line) = true := by rfl) (hs : starEach [e] X.env = (false, eval e X.env) :: starEach [] X.env := by rfl)
    (hsw : swapsWith (.Call (.Attribute (.Name x p) "append" apos) [e] [] cpos) none pos.line X.env = pure false := by rfl) :
    PSp X W (.Expr (.Call (.Attribute (.Name x p) "append" apos) [e] [] cpos) pos) (appS i f) := by
  obtain ⟨t, pe, q⟩ := h
  refine ⟨_, ps_expr (pe_bm PySem.F.plainAttrs_list PySem.F.slot_list_append PySem.F.type_list_append mt_append (pe_var (i := i) (by rw [c.hN]; exact hN) (c.vis hv) hd hcd) (pa_cons pe pa_nil hs) hbase hfew hline hs rfl) hsw, fun C F δ σ H E s g => ?_⟩
  unfold appS at g
  split at g
  · rename_i ds e0
    have e0 := ownAt_of e0
    obtain ⟨G, g', a, vs, h1, h2, h3, h4⟩ := s.get e0
    refine ⟨_, join_some h1, .inl ⟨rfl, vs, SqL.of h3⟩, q C F δ σ H _ s (Gs.on s g fun d F' H' x s' k v r => ?_)⟩
    split at k
    · rename_i hz
      have h4' := RpA.mono x.ff _ _ h4
      refine ⟨a, vs, v, rfl, rfl, x.hh _ _ h3, by rw [h4.length]; exact hz, ?_⟩
      exact k F' σ _ (Same.refl _) (s'.put_own e0 h1 (h4'.append (.one r)))
    · exact False.elim k
  · exact False.elim g
/-- xs.extend(e) -/
def extS (i : Nat) (f : Env → Res D) : Env → Fl := fun δ => match ownAt i δ with
  | some ds => onR (f δ) δ fun d => match d with
    | .list es => if (ds ++ es).length ≤ sizeLine then .nx (δ.set i (.own (ds ++ es))) else .err
    | _ => .err
  | none => .err
theorem PSp.extend (c : Ctx X N sc fn) (i : Nat) {f : Env → Res D} (h : PRp X W e f) (hN : N[i]? = some x := by rfl) (hv : isVis sc x = true := by rfl) (hd : (x == ("__debug__" : Str)) = false := by decide) (hcd : (x == ("__classdict__" : Str)) = false := by decide)
    (hbase : attributeBase (.Name x p) "extend" X.env (eval (.Name x p) X.env) = eval (.Name x p) X.env := by rfl)
    (hfew : ((backTo cpos (starEach [e] X.env)).all (fun x => !x.1) && (backToKw cpos (keywordEach [] X.env)).all (fun x => x.1.isSome)
      && decide (([e] : List Expr).length + ([] : List Keyword).length + (if ([] : List Keyword).isEmpty then 0 else 1) < 30)) = true := by rfl)
    (hline : (apos.endLine == cpos.line) = true := by rfl) (hs : starEach [e] X.env = (false, eval e X.env) :: starEach [] X.env := by rfl)
    (hsw : swapsWith (.Call (.Attribute (.Name x p) "extend" apos) [e] [] cpos) none pos.line X.env = pure false := by rfl) :
    PSp X W (.Expr (.Call (.Attribute (.Name x p) "extend" apos) [e] [] cpos) pos) (extS i f) := by
  obtain ⟨t, pe, q⟩ := h
  refine ⟨_, ps_expr (pe_bm PySem.F.plainAttrs_list PySem.F.slot_list_extend PySem.F.type_list_extend mt_extend (pe_var (i := i) (by rw [c.hN]; exact hN) (c.vis hv) hd hcd) (pa_cons pe pa_nil hs) hbase hfew hline hs rfl) hsw, fun C F δ σ H E s g => ?_⟩
  unfold extS at g
  split at g
  · rename_i ds e0
    have e0 := ownAt_of e0
    obtain ⟨G, g', a, vs, h1, h2, h3, h4⟩ := s.get e0
    refine ⟨_, join_some h1, .inl ⟨rfl, vs, SqL.of h3⟩, q C F δ σ H _ s (Gs.on s g fun d F' H' x s' k v r => ?_)⟩
    cases d with
    | list es =>
      dsimp only at k
      split at k
      · rename_i hz
        obtain ⟨b, ws, ex, hb, rb⟩ := r
        have h4' := RpA.mono x.ff _ _ h4
        refine ⟨a, b, vs, ws, rfl, by rw [ex], x.hh _ _ h3, hb, by rw [h4.length, rb.length, ← List.length_append]; exact hz, ?_⟩
        exact k F' σ _ (Same.refl _) (s'.put_own e0 h1 (h4'.append rb))
      · exact False.elim k
    | _ => exact False.elim k
  · exact False.elim g
/-- xs[k] = e -/
def setIS (i : Nat) (fk f : Env → Res D) : Env → Fl := fun δ => match δ[i]? with
  | some (.own ds) => onR ((f δ).bind fun d => (fk δ).bind fun k => .ok (d, k)) δ fun p => (match p.2 with
    | .int k => (match ixN ds.length k with
      | some j => .nx (δ.set i (.own (ds.set j p.1)))
      | none => .err)
    | _ => .err)
  | some (.ownK kvs) => onR ((f δ).bind fun d => (fk δ).bind fun k => .ok (d, k)) δ fun p => (match keyOf p.2 with
    | some k => if kvs.length < sizeLine then .nx (δ.set i (.ownK (putKD kvs k p.1))) else .err
    | none => .err)
  | _ => .err
/-- by values: lists and dicts -/
def rSetD : V → V → V → Hp → (Hp → Prop) → Prop := fun o i v H Q => ∃ a H', o = .ref a ∧ DPut H a i v H' ∧ Q H'
theorem set_dict (hu : X.A.units + 1 < cLine) : PSet X rSetD := by
  intro pins s σ H o i v ov iv u Q I ro ri rv h
  obtain ⟨a, H', eo, g, q⟩ := h
  subst eo
  obtain rfl : ov = Value.ref a := ro
  exact d_setItem hu I g ri rv fun s' I' => ⟨H', I', q⟩
theorem PSet.or {t t' : TSet} (h : PSet X t) (h' : PSet X t') : PSet X (fun o i v H Q => t o i v H Q ∨ t' o i v H Q) := by
  intro pins s σ H o i v ov iv u Q I ro ri rv q
  rcases q with q | q
  · exact h pins s σ H o i v ov iv u Q I ro ri rv q
  · exact h' pins s σ H o i v ov iv u Q I ro ri rv q
theorem PSp.setI {k : Expr} {spos : Pos} (c : Ctx X N sc fn) (i : Nat) {f fk : Env → Res D} (h : PEp X W e f) (hk : PRp X W k fk) (hN : N[i]? = some x := by rfl) (hv : isVis sc x = true := by rfl) (hd : (x == ("__debug__" : Str)) = false := by decide) (hcd : (x == ("__classdict__" : Str)) = false := by decide)
    (ha : ∀ v, assign (.Subscript (.Name x p) k spos) X.env v = (do
      let ov ← holding [v] (eval (.Name x p) X.env)
      let iv ← holding [v, ov] (eval k X.env)
      standAt spos
      holding [v, ov, iv] (setItem ov iv v)
      release [v, ov, iv] []) := by intro _; rfl)
    (hs : swapsWithSole [.Subscript (.Name x p) k spos] e pos.line X.env = pure false := by rfl) (hw : swappedStores [.Subscript (.Name x p) k spos] e X.env = pure none := by rfl)
    (h1 : (assignEach [.Subscript (.Name x p) k spos] X.env).map (·.2) = [assign (.Subscript (.Name x p) k spos) X.env] := by rfl) :
    PSp X W (.Assign [.Subscript (.Name x p) k spos] e pos) (setIS i fk f) := by
  obtain ⟨t, pe, q⟩ := h
  obtain ⟨u, pk, qk⟩ := hk
  refine ⟨_, ps_asg pe (pg_sub (pe_var (i := i) (by rw [c.hN]; exact hN) (c.vis hv) hd hcd) pk (PSet.or set_list (set_dict c.u1)) ha) hs hw h1, fun C F δ σ H E s g => ?_⟩
  unfold setIS at g
  split at g
  · rename_i ds e0
    obtain ⟨G, g', a, vs, h1, h2, h3, h4⟩ := s.get e0
    have g1 : Gd W σ F H ((f δ).bind fun d => (fk δ).bind fun k => .ok (d, k)) (fun p F' H' => Ext F H F' H' ∧ Sat X.K C F' δ σ H' ∧ Gs X.K W C F' E _) := Gs.on s g fun p F' H' x s' h' => ⟨x, s', h'⟩
    refine q C F δ σ H _ s (g1.bind.mono fun d F1 H1 x1 g2 v rv => ?_)
    refine ⟨_, join_some h1, qk C F1 δ σ H1 _ (s.ext x1) (g2.bind.mono fun k F2 H2 x2 g3 z rz => ?_)⟩
    obtain ⟨x3, s', g4⟩ := g3.ok (Ext.refl x2.le)
    dsimp only at g4
    split at g4
    · rename_i k
      split at g4
      · rename_i j ej
        have h4' := RpA.mono x3.ff _ _ h4
        refine .inl ⟨a, vs, k, j, rfl, Rt.int rz, x3.hh _ _ h3, by rw [h4.length]; exact ej, ?_⟩
        exact g4 F2 σ _ (Same.refl _) (s'.put_own e0 h1 (h4'.set (Rp.mono x2.ff _ _ rv) j))
      · exact False.elim g4
    · exact False.elim g4
  · rename_i ds e0
    obtain ⟨G, g', a, vs, h1, h2, h3, h4⟩ := s.get e0
    have g1 : Gd W σ F H ((f δ).bind fun d => (fk δ).bind fun k => .ok (d, k)) (fun p F' H' => Ext F H F' H' ∧ Sat X.K C F' δ σ H' ∧ Gs X.K W C F' E _) := Gs.on s g fun p F' H' x s' h' => ⟨x, s', h'⟩
    refine q C F δ σ H _ s (g1.bind.mono fun d F1 H1 x1 g2 v rv => ?_)
    refine ⟨_, join_some h1, qk C F1 δ σ H1 _ (s.ext x1) (g2.bind.mono fun k F2 H2 x2 g3 z rz => ?_)⟩
    obtain ⟨x3, s', g4⟩ := g3.ok (Ext.refl x2.le)
    dsimp only at g4
    split at g4
    · rename_i k ek
      split at g4
      · rename_i hz
        have h4' := RpK.mono x3.ff _ _ h4
        refine .inr ⟨a, _, rfl, ?_, g4 F2 σ _ (Same.refl _) (s'.put_ownK e0 h1 (h4'.put k (Rp.mono x2.ff _ _ rv)))⟩
        rw [rz.key ek]
        exact DPut.k (x3.hh _ _ h3) (by rw [h4.length]; exact hz)
      · exact False.elim g4
    · exact False.elim g4
  · exact False.elim g

/-! ### loops -/
variable {body : List Stmt} {fb : Env → Fl}
/-- the turns of a for: the slots is are forgotten ahead of each turn and behind the last -/
def loopL (is : List Nat) (g : D → Env → Option Env) (fb : Env → Fl) : List D → Env → Fl
  | [], δ => .nx (fgE is δ)
  | d :: ds, δ => match g d (fgE is δ) with
    | none => .err
    | some δ1 => match fb δ1 with
      | .nx δ2 => loopL is g fb ds δ2
      | .ct δ2 => loopL is g fb ds δ2
      | .bk δ2 => .nx (fgE is δ2)
      | .rt d => .rt d
      | .rf ds => .rf ds
      | .exc c δ => .exc c δ
      | .err => .err
def forS (is : List Nat) (fi : Env → Res (List D)) (g : D → Env → Option Env) (fb : Env → Fl) : Env → Fl := fun δ => onR (fi δ) δ fun ds => loopL is g fb ds δ
theorem PSp.for_ {tg iter : Expr} {js : List Nat} {fi : Env → Res (List D)} {g : D → Env → Option Env} (c : Ctx X N sc fn) (is : List Nat) (hi : PIp X W tg iter fi) (hg : PGp X tg js g) (hb : PSsp X W body fb) (hs : ∀ x, foldedSetIterable iter X.env x = pure x := by intro _; rfl) :
    PSp X W (.For tg iter body [] pos) (forS is fi g fb) := by
  obtain ⟨wi, pi_, qi⟩ := hi
  obtain ⟨t1, p1, q1⟩ := hg
  obtain ⟨t2, p2, q2⟩ := hb
  refine ⟨_, ps_for c.po c.calm pi_ p1 p2 hs, fun C F δ σ H E s h => ?_⟩
  refine qi C F δ σ H _ s (Gs.on s h fun ds F1 H1 x1 s1 h1 J wk => ?_)
  refine ⟨fun i m σi Hi => ∃ Fi δi, m = ds.length - i ∧ i ≤ ds.length ∧ Same F1 Fi ∧ Sat X.K C Fi δi σi Hi ∧ Gs X.K W C Fi E (loopL is g fb (ds.drop i) δi), ⟨ds.length, F1, δ, by simp, Nat.zero_le _, Same.refl _, s1, by rw [List.drop_zero]; exact h1⟩, ?_⟩
  rintro i m σi Hi ⟨Fi, δi, rfl, hi, ei, si, gi⟩
  obtain ⟨ws, wg⟩ := wk i Fi Hi ei si.le
  by_cases hlt : i < ds.length
  · right
    have hd : ds[i]? = some ds[i] := by rw [List.getElem?_eq_getElem hlt]
    obtain ⟨go, yld⟩ := wg _ hd
    rw [List.drop_eq_getElem_cons hlt] at gi
    refine ⟨go, fun σ' H' => ∃ F' δ', Same F1 F' ∧ Sat X.K C F' δ' σ' H' ∧ Gs X.K W C F' E (loopL is g fb (ds.drop (i + 1)) δ'), fun σ' H' ⟨F', δ', k1, k2, k3⟩ => ⟨ds.length - (i + 1), by omega, F', δ', rfl, hlt, k1, k2, k3⟩, fun x H2 hy => ?_⟩
    obtain ⟨F2, x2, rx⟩ := yld x H2 hy
    have s2 := (si.ext x2).fg is
    have gi := gi.mono x2.ff
    unfold loopL at gi
    cases eg : g ds[i] (fgE is δi) with
    | none => rw [eg] at gi; exact False.elim gi
    | some δ1 =>
      rw [eg] at gi
      dsimp only at gi
      refine q1 C F2 _ σi H2 x ds[i] _ s2 rx ⟨δ1, eg, fun ps _ s3 => ?_⟩
      refine q2 C F2 δ1 _ H2 _ s3 ?_
      have e12 := ei.trans x2.ff
      cases ef : fb δ1 with
      | nx δ2 => rw [ef] at gi; exact fun F' σ' H' e s4 => ⟨F', δ2, e12.trans e, s4, gi.mono e⟩
      | ct δ2 => rw [ef] at gi; exact fun F' σ' H' e s4 => ⟨F', δ2, e12.trans e, s4, gi.mono e⟩
      | bk δ2 => rw [ef] at gi; exact fun F' σ' H' e s4 => gi F' σ' H' e (s4.fg is)
      | rt d => rw [ef] at gi; exact gi
      | rf ds => rw [ef] at gi; exact gi
      | exc c δ => rw [ef] at gi; exact gi
      | err => rw [ef] at gi; exact False.elim gi
  · left
    have e : i = ds.length := by omega
    subst e
    rw [List.drop_length] at gi
    exact ⟨ws (Nat.le_refl _), gi Fi σi Hi (Same.refl _) (si.fg is)⟩
/-- the turns of a while, at most n -/
def whileN (is : List Nat) (t : Env → Res Bool) (fb : Env → Fl) : Nat → Env → Fl
  | 0, _ => .err
  | n + 1, δ => onR (t (fgE is δ)) (fgE is δ) fun b => if b = true then (match fb (fgE is δ) with
      | .nx δ2 => whileN is t fb n δ2
      | .ct δ2 => whileN is t fb n δ2
      | .bk δ2 => .nx (fgE is δ2)
      | .rt d => .rt d
      | .rf ds => .rf ds
      | .exc c δ => .exc c δ
      | .err => .err) else .nx (fgE is δ)
def whileS (is : List Nat) (μ : Env → Nat) (t : Env → Res Bool) (fb : Env → Fl) : Env → Fl := fun δ => whileN is t fb (μ δ) δ
theorem PSp.while_ {t : Env → Res Bool} {cnd : Expr} (c : Ctx X N sc fn) (is : List Nat) (μ : Env → Nat) (ht : PBp X W cnd t) (hb : PSsp X W body fb) : PSp X W (.While cnd body [] pos) (whileS is μ t fb) := by
  obtain ⟨_, t1, p1, q1⟩ := ht
  obtain ⟨t2, p2, q2⟩ := hb
  refine ⟨_, ps_while c.po p1 p2, fun C F δ σ H E s h => ?_⟩
  refine ⟨fun m σi Hi => ∃ Fi δi, Same F Fi ∧ Sat X.K C Fi δi σi Hi ∧ Gs X.K W C Fi E (whileN is t fb m δi), ⟨μ δ, F, δ, Same.refl _, s, h⟩, ?_⟩
  rintro m σi Hi ⟨Fi, δi, ei, si, gi⟩
  cases m with
  | zero => exact False.elim gi
  | succ m =>
    have si := si.fg is
    refine q1 C Fi _ σi Hi _ si (Gs.on si gi fun b F2 H2 x2 s2 g2 => ?_)
    cases b with
    | false => rw [if_neg Bool.false_ne_true] at g2 ⊢; exact g2 F2 σi H2 (Same.refl _) s2
    | true =>
      rw [if_pos rfl] at g2 ⊢
      refine ⟨fun σ' H' => ∃ F' δ', Same F F' ∧ Sat X.K C F' δ' σ' H' ∧ Gs X.K W C F' E (whileN is t fb m δ'), fun σ' H' k => ⟨m, Nat.lt_succ_self _, k⟩, ?_⟩
      refine q2 C F2 _ σi H2 _ s2 ?_
      have e12 := ei.trans x2.ff
      cases ef : fb (fgE is δi) with
      | nx δ2 => rw [ef] at g2; exact fun F' σ' H' e s4 => ⟨F', δ2, e12.trans e, s4, g2.mono e⟩
      | ct δ2 => rw [ef] at g2; exact fun F' σ' H' e s4 => ⟨F', δ2, e12.trans e, s4, g2.mono e⟩
      | bk δ2 => rw [ef] at g2; exact fun F' σ' H' e s4 => g2 F' σ' H' e (s4.fg is)
      | rt d => rw [ef] at g2; exact g2
      | rf ds => rw [ef] at g2; exact g2
      | exc c δ => rw [ef] at g2; exact g2
      | err => rw [ef] at g2; exact False.elim g2

/-! ### what is asked of an own list is told at once, and leans on nothing of it -/
def impR (r : Res D) : Res D := r.bind fun d => if imm d = true then .ok d else .err
def tmpD (i : Nat) (f : Env → Res D) : Env → Res D := fun δ => impR (f (frzE i δ))
theorem PEp.tmp (i : Nat) {f : Env → Res D} (h : PEp X W e f) : PEp X W e (tmpD i f) := by
  obtain ⟨t, p, q⟩ := h
  refine ⟨t, p, fun C F δ σ H Q s g => ?_⟩
  unfold tmpD at g
  obtain ⟨F1, e1, s1, off⟩ := s.frz i
  refine q C F1 _ σ H Q s1 ?_
  cases r : f (frzE i δ) with
  | ok d =>
    rw [r] at g
    intro F' H' x v rv
    obtain ⟨F2, x2, ts, sm⟩ := off F' H' x
    dsimp only [impR, Res.bind] at g
    split at g
    · rename_i him
      exact g F2 H' x2 v (Rp.imm ts d v him rv)
    · exact False.elim g
  | exc c =>
    rw [r] at g
    intro F' H' x
    obtain ⟨F2, x2, ts, sm⟩ := off F' H' x
    exact g F2 H' x2
  | err => rw [r] at g; exact False.elim g
def impF (r : Res (List D)) : Res (List D) := r.bind fun d => if immA d = true then .ok d else .err
def tmpF (i : Nat) (f : Env → Res (List D)) : Env → Res (List D) := fun δ => impF (f (frzE i δ))
theorem PFp.tmp (i : Nat) {f : Env → Res (List D)} (h : PFp X W e f) : PFp X W e (tmpF i f) := by
  obtain ⟨t, p, q⟩ := h
  refine ⟨t, p, fun C F δ σ H Q s g => ?_⟩
  unfold tmpF at g
  obtain ⟨F1, e1, s1, off⟩ := s.frz i
  refine q C F1 _ σ H Q s1 ?_
  cases r : f (frzE i δ) with
  | ok d =>
    rw [r] at g
    intro F' H' x a vs h1 h2 h3 h4
    obtain ⟨F2, x2, ts, sm⟩ := off F' H' x
    dsimp only [impF, Res.bind] at g
    split at g
    · rename_i him
      exact g F2 H' x2 a vs h1 (sm.free h2) h3 (RpA.imm ts d vs him h4)
    · exact False.elim g
  | exc c =>
    rw [r] at g
    intro F' H' x
    obtain ⟨F2, x2, ts, sm⟩ := off F' H' x
    exact g F2 H' x2
  | err => rw [r] at g; exact False.elim g
def tmpB (i : Nat) (f : Env → Res Bool) : Env → Res Bool := fun δ => f (frzE i δ)
theorem PBp.tmp (i : Nat) {f : Env → Res Bool} (h : PBp X W e f) : PBp X W e (tmpB i f) := by
  obtain ⟨⟨t, p, q⟩, t', p', q'⟩ := h
  have main : ∀ {P : Bool → Hp → Prop} {F1 F H : Hp} {σ : L2.St} {δ : Env}, (∀ F' H', Ext F1 H F' H' → ∃ F2, Ext F H F2 H' ∧ TupSame F' F2 ∧ Same F2 F') → Gd W σ F H (f δ) (fun b _ H' => P b H') → Gd W σ F1 H (f δ) (fun b _ H' => P b H') := by
    intro P F1 F H σ δ off g
    cases r : f δ with
    | ok b =>
      rw [r] at g
      intro F' H' x
      obtain ⟨F2, x2, _⟩ := off F' H' x
      exact g F2 H' x2
    | exc c =>
      rw [r] at g
      intro F' H' x
      obtain ⟨F2, x2, _⟩ := off F' H' x
      exact g F2 H' x2
    | err => rw [r] at g; exact False.elim g
  refine ⟨⟨t, p, fun C F δ σ H Q s g => ?_⟩, ⟨t', p', fun C F δ σ H Q s g => ?_⟩⟩
  · obtain ⟨F1, e1, s1, off⟩ := s.frz i
    exact q C F1 _ σ H Q s1 (main (P := fun b H' => Q (.bl b) H') off g)
  · obtain ⟨F1, e1, s1, off⟩ := s.frz i
    exact q' C F1 _ σ H Q s1 (main (P := fun b H' => Q b H') off g)
end

/-! ### a def as a whole -/
/-- the environment at the entry -/
def startE (n : Nat) (ds : List D) : Env := ds.map Sl.val ++ List.replicate (n - ds.length) .no
/-- what a def hands back -/
def runD (f : Env → Fl) (n : Nat) (ds : List D) : Res D := match f (startE n ds) with
  | .rt d => .ok d
  | .rf es => .ok (.list es)
  | .nx _ => .ok .none
  | _ => .err
/-- .. or raises -/
def runX (f : Env → Fl) (n : Nat) (ds : List D) : Res D := match f (startE n ds) with
  | .rt d => .ok d
  | .rf es => .ok (.list es)
  | .nx _ => .ok .none
  | .exc c _ => .exc c
  | _ => .err
def runF (f : Env → Fl) (n : Nat) (ds : List D) : Res (List D) := match f (startE n ds) with
  | .rf es => .ok es
  | _ => .err
theorem sat_start {K : PySem.W.Frag} {F H : Hp} {N : List Str} {vs : List V} {ds : List D} (le : Same F H) (r : RpA K F vs ds) : Sat K ⟨F, H, fun _ => False, fun _ => .non⟩ F (startE N.length ds) (L2.start N vs) H := by
  have hl := r.length
  refine ⟨fun _ => none, le, Same.refl _, fun a o e => .inl e, fun a o e => .inr e, fun a z => z.elim, fun a i e => (nomatch e), fun a i e => (nomatch e), fun a i e => (nomatch e), ?_, fun i s e => ?_⟩
  · unfold L2.start startE
    rw [List.length_append, List.length_append, List.length_map, List.length_map, List.length_replicate, List.length_replicate, hl]
  · unfold startE at e
    by_cases hi : i < ds.length
    · rw [List.getElem?_append_left (by rw [List.length_map]; exact hi), List.getElem?_map] at e
      cases hd : ds[i]? with
      | none => rw [hd] at e; cases e
      | some d =>
        rw [hd] at e
        cases e
        obtain ⟨v, hv, rv⟩ := r.get hd
        unfold L2.start
        rw [List.getElem?_append_left (by rw [List.length_map, hl]; exact hi), List.getElem?_map, hv]
        exact ⟨v, rfl, rv⟩
    · rw [List.getElem?_append_right (by rw [List.length_map]; omega), List.getElem?_replicate] at e
      split at e
      · cases e; trivial
      · cases e
theorem Sat.ext0 {K : PySem.W.Frag} {F0 H0 F H : Hp} {δ : Env} {σ : L2.St} (s : Sat K ⟨F0, H0, fun _ => False, fun _ => .non⟩ F δ σ H) : Ext F0 H0 F H := by
  obtain ⟨G, g⟩ := s
  refine ⟨g.f0, fun a o e => ?_, g.le, fun a o e => ?_⟩
  · rcases g.nw a o e with z | z | z
    · exact .inl z
    · exact .inr z
    · exact z.elim
  · rcases g.keep a o e with z | z
    · exact z.elim
    · exact z
section
variable {P : Program} {w : World} {K : PySem.W.Frag} {mg : Str → Option Value} {base : Heap} {x qual : Str} {st : Stmt} {f : Addr} {fd : FuncData} {N ps : List Str} {k : Nat} {fb : Env → Fl}
theorem ctx_nox (S : FnScope N ps (defScope st)) {CX : CXT} {A : Around} {outer : List PySem.Env} {s : Shared} {H : Hp} {E : XK} {cdv : Value} (hr : Room k (A.deeper (envOfC qual (defScope st) s.heap.objs.size f cdv))) :
    Ctx (cxOf CX P w K mg base N qual (defScope st) f cdv A outer s H E).nox N (defScope st) (fun _ => true) :=
  ⟨rfl, S.nd, rfl, rfl, rfl, by have := hr.un; show (A.deeper _).units + 100 < cLine; omega, PassesOwn.never⟩
theorem len_of {n : Nat} {φ : List D → Res D} (hn : n = ps.length) : ∀ vs H Q E, spF K mg n φ vs H Q E → vs.length = ps.length := fun vs H Q E ⟨F, ds, h1, h2, h3, _⟩ => by rw [h2.length, h3, hn]
theorem len_ofN {n : Nat} {φ : List D → Res (List D)} (hn : n = ps.length) : ∀ vs H Q E, spN K mg n φ vs H Q E → vs.length = ps.length := fun vs H Q E ⟨F, ds, h1, h2, h3, _⟩ => by rw [h2.length, h3, hn]
/-- a def that raises nothing, by its body -/
theorem ok_def (Fn : Fun K x qual st f fd) (S : FnScope N ps (defScope st)) (n : Nat) (hn : n = ps.length) (m : Nat) (hm : N.length = m)
    (hb : ∀ X : Cx, X.prog = P → X.w = w → X.K = K → X.mg = mg → X.base = base → Room k X.A → X.env.scope.kind = .function → Ctx X N (defScope st) (fun _ => true) → PSsp X W0 (defBody st) fb) :
    FnOk P w K mg base CX0 (k + 1) f fd ps (spF K mg n (runD fb m)) := by
  refine Fn.ok S (len_of hn) fun cdv A outer s H vs Q E hr h => ?_
  obtain ⟨t, p, q⟩ := hb (cxOf CX0 P w K mg base N qual (defScope st) f cdv A outer s H E).nox rfl rfl rfl rfl rfl hr S.kind (ctx_nox S hr)
  refine ⟨t, p, ?_⟩
  obtain ⟨F, ds, h1, h2, h3, h4⟩ := h
  have s0 := sat_start (N := N) h1 h2
  rw [hm] at s0
  refine q ⟨F, H, fun _ => False, fun _ => .non⟩ F _ _ H _ s0 ?_
  unfold runD at h4
  cases r : fb (startE m ds) with
  | nx δ => rw [r] at h4; exact fun F' σ' H' e s => h4 F' H' s.ext0 _ .non
  | rt d => rw [r] at h4; exact fun F' δ' σ' H' v e s rv => h4 F' H' s.ext0 v rv
  | rf es =>
    rw [r] at h4
    intro F' δ' σ' H' a ws e s h5 h6 h7 h8
    have z : H a = none := h5.elim id False.elim
    exact h4 _ H' (s.ext0.frz z h6 h7) _ (.lst upd_same (RpA.mono (same_new h6 _) _ _ h8))
  | bk δ => rw [r] at h4; exact h4.elim
  | ct δ => rw [r] at h4; exact h4.elim
  | exc c δ => rw [r] at h4; exact h4.elim
  | err => rw [r] at h4; exact h4.elim
theorem ok_defN (Fn : Fun K x qual st f fd) (S : FnScope N ps (defScope st)) (n : Nat) (hn : n = ps.length) (m : Nat) (hm : N.length = m)
    (hb : ∀ X : Cx, X.prog = P → X.w = w → X.K = K → X.mg = mg → X.base = base → Room k X.A → X.env.scope.kind = .function → Ctx X N (defScope st) (fun _ => true) → PSsp X W0 (defBody st) fb) :
    FnOk P w K mg base CX0 (k + 1) f fd ps (spN K mg n (runF fb m)) := by
  refine Fn.ok S (len_ofN hn) fun cdv A outer s H vs Q E hr h => ?_
  obtain ⟨t, p, q⟩ := hb (cxOf CX0 P w K mg base N qual (defScope st) f cdv A outer s H E).nox rfl rfl rfl rfl rfl hr S.kind (ctx_nox S hr)
  refine ⟨t, p, ?_⟩
  obtain ⟨F, ds, h1, h2, h3, h4⟩ := h
  have s0 := sat_start (N := N) h1 h2
  rw [hm] at s0
  refine q ⟨F, H, fun _ => False, fun _ => .non⟩ F _ _ H _ s0 ?_
  unfold runF at h4
  cases r : fb (startE m ds) with
  | rf es =>
    rw [r] at h4
    intro F' δ' σ' H' a ws e s h5 h6 h7 h8
    exact h4 F' H' s.ext0 a ws (h5.elim id False.elim) h6 h7 h8
  | _ => rw [r] at h4; exact h4.elim
end
end
end DL
/-! DL5: two stores in one; defs known at the top. -/
namespace DL
open PySem PySem.Spec PyProof.Rows L2
def isStar : Expr → Bool
  | .Starred .. => true
  | _ => false
theorem sw2 {env : PySem.Env} {a b : Expr} {x y : Str} {px py pt pt2 : Pos} {kt k2 : Nat} (hk : env.blockKind = .function) (hx : env.kindOf x = some .local) (hy : env.kindOf y = some .local)
    (hl : py.line = px.line) (hxy : x ≠ y) (hva : isStar a = false) (hvb : isStar b = false) (hf : ([a, b].all (foldedForSure 8)) = false) (hc : ([a, b].all (constantsAlone 8)) = false) :
    swappedStores [.Tuple [.Name x px, .Name y py] kt pt] (.Tuple [a, b] k2 pt2) env = pure (some [x, y]) := by
  unfold swappedStores
  have e : ([x, y] : List Str).eraseDups = [x, y] := by
    have : (y == x) = false := by simpa using fun h => hxy h.symm
    simp [List.eraseDups_cons, this]
  simp [hk, hx, hy, hl, hf, hc, Expr.pos]
  have h1 : ∀ p q : Prop, ¬ p → ¬ q → ¬ (p ∨ q) := fun _ _ h k z => z.elim h k
  rw [if_neg (h1 _ _ (by intro h; split at h; cases hva; cases h) (by intro h; split at h; cases hvb; cases h)), e]
  rfl

section
variable {X : Cx} {N : List Str} {sc : Scope} {fn : Str → Bool} {W : WS}
theorem PSp.par2 {a b : Expr} {fa fb : Env → Res D} {x y : Str} {px py pt pt2 pos : Pos} {kt k2 : Nat} (c : Ctx X N sc fn) (i j : Nat) (ha : PEp X W a fa) (hb : PEp X W b fb) (hk : X.env.scope.kind = .function) (hi : N[i]? = some x := by rfl) (hj : N[j]? = some y := by rfl) (hij : i ≠ j := by decide)
    (hx : sc.names.lookup x = some .local := by rfl) (hy : sc.names.lookup y = some .local := by rfl) (hab : starEach [a, b] X.env = (false, eval a X.env) :: starEach [b] X.env := by rfl) (hb' : starEach [b] X.env = (false, eval b X.env) :: starEach [] X.env := by rfl)
    (hl : py.line = px.line := by rfl) (hxy : x ≠ y := by decide) (hva : isStar a = false := by rfl) (hvb : isStar b = false := by rfl) (hf : ([a, b].all (foldedForSure 8)) = false := by rfl) (hc : ([a, b].all (constantsAlone 8)) = false := by rfl)
    (hs : swapsWithSole [.Tuple [.Name x px, .Name y py] kt pt] (.Tuple [a, b] k2 pt2) pos.line X.env = pure false := by rfl) :
    PSp X W (.Assign [.Tuple [.Name x px, .Name y py] kt pt] (.Tuple [a, b] k2 pt2) pos) (parS i j fa fb) := by
  refine PSp.par c i j ha hb hi hj hij hx hy hab hb' (sw2 ?_ ?_ ?_ hl hxy hva hvb hf hc) hs
  · unfold PySem.Env.blockKind; rw [hk]; rfl
  · exact (congrArg (fun s : Scope => s.names.lookup x) c.sc).trans hx
  · exact (congrArg (fun s : Scope => s.names.lookup y) c.sc).trans hy
end

section
variable {X : Cx} {N : List Str} {sc : Scope} {fn : Str → Bool} {W : WS}
theorem sw_cell (c : Ctx X N sc fn) {x : Str} {e : Expr} {g : List Comprehension} {s : Scope} {p pos' : Pos} {l : Nat} (h : sc.names.lookup x = some .cell := by rfl) : swapsWith (.ListComp e g s p) (some (.Name x pos')) l X.env = pure false := by
  have hk : X.env.kindOf x = some .cell := (congrArg (fun s : Scope => s.names.lookup x) c.sc).trans h
  have h2 : (NameKind.cell == NameKind.local) = false := by decide
  unfold swapsWith
  simp [hk, h2]
end

/-! ### a for over a list of one's own -/
/-- slot i's list stands aside: its address is kept -/
theorem Sat.aside {K : PySem.W.Frag} {C : Ent} {F H : Hp} {δ : Env} {σ : L2.St} {i : Nat} {ds : List D} (s : Sat K C F δ σ H) (hi : δ[i]? = some (.own ds)) : ∃ (C' : Ent) (a : Addr) (vs : List V), (σ[i]?).join = some (.ref a) ∧ H a = some (.lst vs) ∧ RpA K F vs ds ∧ Sat K C' F (δ.set i .pin) σ H ∧
    (∀ F' δ' σ' H', Sat K C' F' δ' σ' H' → Same F F' ∧ H' a = some (.lst vs) ∧ (δ'[i]? = some .pin → Sat K C F' (δ'.set i (.own ds)) σ' H')) := by
  obtain ⟨G, g⟩ := s
  obtain ⟨a, vs, h1, h2, h3, h4⟩ := g.sl i _ hi
  refine ⟨⟨F, H, fun b => b ≠ a ∧ G b ≠ none, fun k => if k = i then .ref a else C.pins k⟩, a, vs, h1, h3, h4, ⟨fun b => if b = a then none else G b, g.le, Same.refl _, fun b o e => .inl e, fun b o e => .inr e, fun b z e => ?_, fun b j z => ?_, fun b j z => ?_, fun b j z => ?_, by rw [List.length_set]; exact g.len, fun j q e => ?_⟩, fun F' δ' σ' H' s' => ?_⟩
  · cases q : G b with
    | none => exact z.2 q
    | some j => exact g.live b j q e
  · by_cases hb : b = a
    · rw [if_pos hb] at z; cases z
    · rw [if_neg hb] at z; exact g.dis b j z
  · by_cases hb : b = a
    · rw [if_pos hb] at z; cases z
    · rw [if_neg hb] at z; exact g.live b j z
  · by_cases hb : b = a
    · rw [if_pos hb] at z; cases z
    · rw [if_neg hb] at z; exact .inr ⟨hb, by rw [z]; exact fun y => nomatch y⟩
  · by_cases hj : i = j
    · subst hj
      rw [List.getElem?_set_self (List.getElem?_eq_some_iff.mp hi).1] at e
      cases e
      show (σ[i]?).join = some (if i = i then V.ref a else C.pins i)
      rw [if_pos rfl]; exact h1
    · rw [List.getElem?_set_ne hj] at e
      have z := g.sl j q e
      have ne : ∀ {b : Addr}, G b = some j → (if b = a then none else G b) = some j := fun {b} y => by
        by_cases hb : b = a
        · rw [hb, h2] at y; cases y; exact absurd rfl hj
        · rw [if_neg hb]; exact y
      cases q with
      | no => trivial
      | pin =>
        show (σ[j]?).join = some (if j = i then V.ref a else C.pins j)
        rw [if_neg (fun y => hj y.symm)]; exact z
      | val d => exact z
      | own es =>
        obtain ⟨b, ws, k1, k2, k3, k4⟩ := z
        exact ⟨b, ws, k1, ne k2, k3, k4⟩
      | ownK es =>
        obtain ⟨b, ws, k1, k2, k3, k4⟩ := z
        exact ⟨b, ws, k1, ne k2, k3, k4⟩
  · obtain ⟨G', g'⟩ := s'
    have ha : H' a = some (.lst vs) := by
      rcases g'.keep a _ h3 with z | z
      · exact absurd rfl z.1
      · exact z
    have fa : F a = none := g.dis a i h2
    have fa' : F' a = none := by
      cases q : F' a with
      | none => rfl
      | some o =>
        rcases g'.nw a o q with z | z | z
        · rw [show F a = some o from z] at fa; cases fa
        · rw [show H a = none from z] at h3; cases h3
        · exact absurd rfl z.1
    have ga' : G' a = none := by
      cases q : G' a with
      | none => rfl
      | some j =>
        rcases g'.mine a j q with z | z
        · rw [show H a = none from z] at h3; cases h3
        · exact absurd rfl z.1
    have own0 : ∀ b, (b ≠ a ∧ G b ≠ none) → C.H0 b = none ∨ C.own b := fun b z => by
      cases q : G b with
      | none => exact absurd q z.2
      | some j => exact g.mine b j q
    refine ⟨g'.f0, ha, fun hp => ⟨fun b => if b = a then some i else G' b, g'.le, g.f0.trans g'.f0, fun b o e => ?_, fun b o e => ?_, fun b z e => ?_, fun b j z => ?_, fun b j z => ?_, fun b j z => ?_, by rw [List.length_set]; exact g'.len, fun j q e => ?_⟩⟩
    · rcases g'.nw b o e with z | z | z
      · exact g.nw b o z
      · exact .inr (.inl (g.h0 (show H b = none from z)).1)
      · exact .inr (own0 b z)
    · rcases g.keep b o e with z | z
      · exact .inl z
      · rcases g'.keep b o z with y | y
        · rcases own0 b y with x | x
          · rw [x] at e; cases e
          · exact .inl x
        · exact .inr y
    · have hb := g.alive b z
      cases q : H b with
      | none => exact hb q
      | some o =>
        rcases g'.keep b o q with y | y
        · exact g'.alive b y e
        · rw [y] at e; cases e
    · by_cases hb : b = a
      · rw [hb]; exact fa'
      · rw [if_neg hb] at z; exact g'.dis b j z
    · by_cases hb : b = a
      · rw [hb, ha]; exact fun y => nomatch y
      · rw [if_neg hb] at z; exact g'.live b j z
    · by_cases hb : b = a
      · rw [hb]; exact g.mine a i h2
      · rw [if_neg hb] at z
        rcases g'.mine b j z with y | y
        · exact .inl (g.h0 (show H b = none from y)).1
        · exact own0 b y
    · by_cases hj : i = j
      · subst hj
        have hl := (List.getElem?_eq_some_iff.mp hp).1
        rw [List.getElem?_set_self hl] at e
        cases e
        have z : (σ'[i]?).join = some (if i = i then V.ref a else C.pins i) := g'.sl i _ hp
        rw [if_pos rfl] at z
        exact ⟨a, vs, z, if_pos rfl, ha, RpA.mono g'.f0 _ _ h4⟩
      · rw [List.getElem?_set_ne hj] at e
        have z := g'.sl j q e
        have ne : ∀ {b : Addr}, G' b = some j → (if b = a then some i else G' b) = some j := fun {b} y => by
          by_cases hb : b = a
          · rw [hb, ga'] at y; cases y
          · rw [if_neg hb]; exact y
        cases q with
        | no => trivial
        | pin =>
          have z : (σ'[j]?).join = some (if j = i then V.ref a else C.pins j) := z
          rw [if_neg (fun y => hj y.symm)] at z
          exact z
        | val d => exact z
        | own es =>
          obtain ⟨b, ws, k1, k2, k3, k4⟩ := z
          exact ⟨b, ws, k1, ne k2, k3, k4⟩
        | ownK es =>
          obtain ⟨b, ws, k1, k2, k3, k4⟩ := z
          exact ⟨b, ws, k1, ne k2, k3, k4⟩
/-- the own list of slot i is put back -/
def backF (i : Nat) (ds : List D) : Fl → Fl
  | .nx δ => match δ[i]? with
    | some .pin => .nx (δ.set i (.own ds))
    | _ => .err
  | _ => .err
def forO (is : List Nat) (i : Nat) (g : D → Env → Option Env) (fb : Env → Fl) : Env → Fl := fun δ => match δ[i]? with
  | some (.own ds) => backF i ds (loopL is g fb ds (δ.set i .pin))
  | _ => .err
section
variable {X : Cx} {N : List Str} {sc : Scope} {fn : Str → Bool} {W : WS} {pos : Pos} {body : List Stmt} {fb : Env → Fl}
theorem PSp.forO {tg : Expr} {js : List Nat} {g : D → Env → Option Env} {x : Str} {p : Pos} (c : Ctx X N sc fn) (is : List Nat) (i : Nat) (hg : PGp X tg js g) (hb : PSsp X W body fb) (hN : N[i]? = some x := by rfl) (hv : isVis sc x = true := by rfl) (hd : (x == ("__debug__" : Str)) = false := by decide) (hcd : (x == ("__classdict__" : Str)) = false := by decide)
    (hs : ∀ y, foldedSetIterable (.Name x p) X.env y = pure y := by intro _; rfl) : PSp X W (.For tg (.Name x p) body [] pos) (DL.forO is i g fb) := by
  obtain ⟨t1, p1, q1⟩ := hg
  obtain ⟨t2, p2, q2⟩ := hb
  refine ⟨_, ps_for c.po c.calm (pi_seq (pe_var (i := i) (by rw [c.hN]; exact hN) (c.vis hv) hd hcd)) p1 p2 hs, fun C F δ σ H E s h => ?_⟩
  unfold DL.forO at h
  cases hi : δ[i]? with
  | none => rw [hi] at h; exact False.elim h
  | some sl =>
    rw [hi] at h
    cases sl with
    | own ds =>
      dsimp only at h
      obtain ⟨C', a, vs, h1, h3, h4, s0, back⟩ := s.aside hi
      refine ⟨.ref a, join_some h1, .inl ⟨a, rfl, ⟨vs, SqL.of h3⟩, ?_⟩⟩
      refine ⟨fun k m σi Hi => ∃ Fi δi, m = ds.length - k ∧ k ≤ ds.length ∧ Sat X.K C' Fi δi σi Hi ∧ Gs X.K W C Fi E (backF i ds (loopL is g fb (ds.drop k) δi)), ⟨ds.length, F, _, by simp, Nat.zero_le _, s0, by rw [List.drop_zero]; exact h⟩, ?_⟩
      rintro k m σi Hi ⟨Fi, δi, rfl, hk, si, gi⟩
      obtain ⟨eF, hA, bk⟩ := back _ _ _ _ si
      have hS : SqL X.K Hi a vs := SqL.of hA
      by_cases hlt : k < ds.length
      · right
        have hd' : ds[k]? = some ds[k] := by rw [List.getElem?_eq_getElem hlt]
        obtain ⟨v, hv', rv⟩ := h4.get hd'
        rw [List.drop_eq_getElem_cons hlt] at gi
        refine ⟨⟨vs, v, hS, hv'⟩, fun σ' H' => ∃ F' δ', Sat X.K C' F' δ' σ' H' ∧ Gs X.K W C F' E (backF i ds (loopL is g fb (ds.drop (k + 1)) δ')), fun σ' H' ⟨F', δ', k2, k3⟩ => ⟨ds.length - (k + 1), by omega, F', δ', rfl, hlt, k2, k3⟩, fun y H2 hy => ?_⟩
        obtain ⟨eH, hy⟩ := hy
        have e := hy vs hS
        rw [hv'] at e
        cases e
        subst eH
        have s2 := si.fg is
        unfold loopL at gi
        cases eg : g ds[k] (fgE is δi) with
        | none => rw [eg] at gi; exact False.elim gi
        | some δ1 =>
          rw [eg] at gi
          dsimp only at gi
          refine q1 C' Fi _ σi _ _ ds[k] _ s2 (Rp.mono eF _ _ rv) ⟨δ1, eg, fun ps _ s3 => ?_⟩
          refine q2 C' Fi δ1 _ _ _ s3 ?_
          cases ef : fb δ1 with
          | nx δ2 => rw [ef] at gi; exact fun F' σ' H' e s4 => ⟨F', δ2, s4, gi.mono e⟩
          | ct δ2 => rw [ef] at gi; exact fun F' σ' H' e s4 => ⟨F', δ2, s4, gi.mono e⟩
          | bk δ2 =>
            rw [ef] at gi
            intro F' σ' H' e s4
            have gi := gi.mono e
            dsimp only [backF] at gi
            split at gi
            · rename_i hp
              obtain ⟨_, _, b2⟩ := back _ _ _ _ (s4.fg is)
              exact gi F' σ' H' (Same.refl _) (b2 hp)
            · exact False.elim gi
          | rt d => rw [ef] at gi; exact False.elim gi
          | rf ds => rw [ef] at gi; exact False.elim gi
          | exc c δ => rw [ef] at gi; exact False.elim gi
          | err => rw [ef] at gi; exact False.elim gi
      · left
        have e : k = ds.length := by omega
        subst e
        rw [List.drop_length] at gi
        refine ⟨⟨vs, hS, by rw [h4.length]; exact Nat.le_refl _⟩, ?_⟩
        dsimp only [backF, loopL] at gi
        split at gi
        · rename_i hp
          obtain ⟨_, _, b2⟩ := back _ _ _ _ (si.fg is)
          exact gi Fi σi Hi (Same.refl _) (b2 hp)
        · exact False.elim gi
    | _ => exact False.elim h
end
/-! ### defs known at the top -/
/-- a def that the top binds to its own name -/
structure Top (K : PySem.W.Frag) (mg : Str → Option Value) (x : Str) (st : Stmt) : Prop where
  ex : ∃ f fd, Fun K x x st f fd ∧ mg x = some (.ref f)
/-- .. its promise, at a level -/
structure Kn (P : Program) (w : World) (K : PySem.W.Frag) (mg : Str → Option Value) (base : Heap) (CX : CXT) (x : Str) (k : Nat) (sp : Sp) : Prop where
  ex : ∃ f fd ps, FnOk P w K mg base CX k f fd ps sp ∧ mg x = some (.ref f) ∧ PySem.W.keepIn K (.ref f) = true ∧ Binds K fd ps []
section
variable {P : Program} {w : World} {K : PySem.W.Frag} {mg : Str → Option Value} {base : Heap} {CX : CXT} {x : Str} {st : Stmt} {N ps : List Str} {k : Nat} {fb : Env → Fl} {sp : Sp}
theorem Kn.cal (h : Kn P w K mg base CX x k sp) {A : Around} {j : Nat} (hr : Room j A) (hk : k ≤ j) : Cal P w K mg base A CX x sp := by
  obtain ⟨f, fd, ps, F, m, kp, b⟩ := h.ex
  exact ⟨f, fd, ps, k, F, hr.mono hk, m, kp, b⟩
/-- .. for what a body says of its own world -/
theorem Kn.calX (h : Kn P w K mg base CX x k sp) {X : Cx} {j : Nat} (e1 : X.prog = P) (e2 : X.w = w) (e3 : X.K = K) (e4 : X.mg = mg) (e5 : X.base = base) (hr : Room j X.A) (hk : k ≤ j) : Cal X.prog X.w X.K X.mg X.base X.A CX x sp := by
  subst e1; subst e2; subst e3; subst e4; subst e5
  exact h.cal hr hk
abbrev BindT (x : Str) (st : Stmt) (ps : List Str) : Prop := ∀ (kV doc pm : Value) (an : Option Addr) (cdv ct : Value) (us : List Value), us.length = ps.length → bindArgs (PySem.W.fnOf x x (defArgs st) (defBody st) (defScope st) .none kV doc pm an cdv ct) ⟨us, []⟩ = pure (ps.zip us)
abbrev BodyT (P : Program) (w : World) (K : PySem.W.Frag) (mg : Str → Option Value) (base : Heap) (k : Nat) (N : List Str) (st : Stmt) (fb : Env → Fl) : Prop :=
  ∀ X : Cx, X.prog = P → X.w = w → X.K = K → X.mg = mg → X.base = base → Room k X.A → X.env.scope.kind = .function → Ctx X N (defScope st) (fun _ => true) → PSsp X W0 (defBody st) fb
theorem Kn.def_ (T : Top K mg x st) (S : FnScope N ps (defScope st)) (n : Nat) (hn : n = ps.length) (m : Nat) (hm : N.length = m) (hbd : BindT x st ps) (hb : BodyT P w K mg base k N st fb) : Kn P w K mg base CX0 x (k + 1) (spF K mg n (runD fb m)) := by
  obtain ⟨f, fd, F, e⟩ := T.ex
  exact ⟨f, fd, ps, ok_def F S n hn m hm hb, e, F.kp, F.binds hbd⟩
theorem Kn.defN (T : Top K mg x st) (S : FnScope N ps (defScope st)) (n : Nat) (hn : n = ps.length) (m : Nat) (hm : N.length = m) (hbd : BindT x st ps) (hb : BodyT P w K mg base k N st fb) : Kn P w K mg base CX0 x (k + 1) (spN K mg n (runF fb m)) := by
  obtain ⟨f, fd, F, e⟩ := T.ex
  exact ⟨f, fd, ps, ok_defN F S n hn m hm hb, e, F.kp, F.binds hbd⟩
/-- of nothing nothing is promised -/
theorem Kn.err (T : Top K mg x st) (n : Nat) (hbd : BindT x st ps) : Kn P w K mg base CX0 x k (spF K mg n fun _ => .err) := by
  obtain ⟨f, fd, F, e⟩ := T.ex
  exact ⟨f, fd, ps, ⟨fun vs H Q E h => by obtain ⟨_, _, _, _, _, z⟩ := h; exact z.elim, fun A outer s H args us vs Q E hr he hb hv h => by obtain ⟨_, _, _, _, _, z⟩ := h; exact z.elim⟩, e, F.kp, F.binds hbd⟩
theorem Kn.errN (T : Top K mg x st) (n : Nat) (hbd : BindT x st ps) : Kn P w K mg base CX0 x k (spN K mg n fun _ => .err) := by
  obtain ⟨f, fd, F, e⟩ := T.ex
  exact ⟨f, fd, ps, ⟨fun vs H Q E h => by obtain ⟨_, _, _, _, _, z⟩ := h; exact z.elim, fun A outer s H args us vs Q E hr he hb hv h => by obtain ⟨_, _, _, _, _, z⟩ := h; exact z.elim⟩, e, F.kp, F.binds hbd⟩
/-- the law's own promise: True, for every script of at most n numbers -/
def spLaw (K : PySem.W.Frag) (n : Nat) : Sp := fun vs H Q _ => ∃ (a : Addr) (ns : List Int), vs = [.ref a] ∧ SqL K H a (ns.map V.int) ∧ ns.length ≤ n ∧ ∀ H', Q (.bl true) H'
theorem law_of {n k : Nat} {f : Addr} {fd : FuncData} {φ : List D → Res D} (F : FnOk P w K mg base CX k f fd ps (spF K mg 1 φ)) (h : ∀ ns : List Int, ns.length ≤ n → φ [scrD (ns.map PyData.int)] = .ok (.bool true)) : FnOk P w K mg base CX k f fd ps (spLaw K n) :=
  F.imp fun vs H Q E ⟨a, ns, e, hs, hl, q⟩ => by
    subst e
    refine ⟨H, [scrD (ns.map PyData.int)], Same.refl _, .cons (.scr hs) .nil, rfl, ?_⟩
    rw [h ns hl]
    intro F' H' x v r
    cases r
    exact q _
end
/-- what an int slot holds -/
def slI (i : Nat) (δ : Env) : Int := match δ[i]? with
  | some (.val (.int n)) => n
  | _ => 0
end DL
/-! DL6: meanings are reckoned by simp. -/
namespace DL
open PySem PySem.Spec PyProof.Rows L2
section
variable {α β : Type} {p : Prop} [Decidable p]
@[simp] theorem Res.ite_ok (a b : α) : (if p then Res.ok a else Res.ok b) = Res.ok (if p then a else b) := by split <;> rfl
@[simp] theorem Res.bind_ite (a b : Res α) (k : α → Res β) : (if p then a else b).bind k = if p then a.bind k else b.bind k := by split <;> rfl
@[simp] theorem onR_ite (a b : Res α) (δ : Env) (k : α → Fl) : onR (if p then a else b) δ k = if p then onR a δ k else onR b δ k := by split <;> rfl
end
def slV : Option Sl → Res D
  | some (.val d) => .ok d
  | _ => .err
def slR : Option Sl → Res D
  | some (.val d) => .ok d
  | some (.own ds) => .ok (.list ds)
  | some (.ownK kvs) => .ok (.dict kvs)
  | _ => .err
@[simp] theorem slV_val (d : D) : slV (some (.val d)) = .ok d := rfl
@[simp] theorem slR_val (d : D) : slR (some (.val d)) = .ok d := rfl
@[simp] theorem slR_own (ds : List D) : slR (some (.own ds)) = .ok (.list ds) := rfl
@[simp] theorem slR_ownK (ds : List (D × D)) : slR (some (.ownK ds)) = .ok (.dict ds) := rfl
section
variable (δ : Env) (i j n : Nat)
@[simp] theorem vD_ev : vD i δ = slV δ[i]? := rfl
@[simp] theorem rD_ev : rD i δ = slR δ[i]? := rfl
@[simp] theorem cD_ev (d : D) : cD d δ = .ok d := rfl
@[simp] theorem bin_ev {β : Type} (fa fb : Env → Res D) (g : D → D → Res β) : bin fa fb g δ = (fa δ).bind fun x => (fb δ).bind fun y => g x y := rfl
@[simp] theorem un_ev {β : Type} (fa : Env → Res D) (g : D → Res β) : un fa g δ = (fa δ).bind g := rfl
variable (fa fb fc : Env → Res D)
@[simp] theorem addD_ev : addD fa fb δ = (fa δ).bind fun x => (fb δ).bind fun y => i2 gAdd x y := rfl
@[simp] theorem subD_ev : subD fa fb δ = (fa δ).bind fun x => (fb δ).bind fun y => i2 gSub x y := rfl
@[simp] theorem mulD_ev : mulD fa fb δ = (fa δ).bind fun x => (fb δ).bind fun y => i2 gMul x y := rfl
@[simp] theorem divD_ev : divD fa fb δ = (fa δ).bind fun x => (fb δ).bind fun y => i2 gDiv x y := rfl
@[simp] theorem modD_ev : modD fa fb δ = (fa δ).bind fun x => (fb δ).bind fun y => i2 gMod x y := rfl
@[simp] theorem powD_ev : powD fa fb δ = (fa δ).bind fun x => (fb δ).bind fun y => i2 gPow x y := rfl
@[simp] theorem negD_ev : negD fa δ = (fa δ).bind gNeg := rfl
@[simp] theorem gNeg_ev (i : Int) : gNeg (.int i) = .ok (.int (-i)) := rfl
@[simp] theorem i2_add (i j : Int) : i2 gAdd (.int i) (.int j) = .ok (.int (i + j)) := rfl
@[simp] theorem i2_sub (i j : Int) : i2 gSub (.int i) (.int j) = .ok (.int (i - j)) := rfl
theorem i2_mul {i j : Int} (h : i.natAbs.log2 + j.natAbs.log2 < BIGm) : i2 gMul (.int i) (.int j) = .ok (.int (i * j)) := by simp only [i2, gMul, if_pos h]
theorem i2_div {i j : Int} (h : 0 < j) (h2 : j.natAbs.log2 < 9000) : i2 gDiv (.int i) (.int j) = .ok (.int (i / j)) := by simp only [i2, gDiv, if_pos (And.intro h h2)]
theorem i2_mod {i j : Int} (h : 0 < j) : i2 gMod (.int i) (.int j) = .ok (.int (i % j)) := by simp only [i2, gMod, if_pos h]
theorem i2_pow {i j : Int} (h : 0 ≤ j ∧ j ≤ 1000 ∧ i.natAbs < 1000) : i2 gPow (.int i) (.int j) = .ok (.int (i ^ j.toNat)) := by simp only [i2, gPow, if_pos h]
@[simp] theorem b2_ev (g : Int → Int → Bool) (i j : Int) : b2 g (.int i) (.int j) = .ok (g i j) := rfl
@[simp] theorem ltB_ev : ltB fa fb δ = (fa δ).bind fun x => (fb δ).bind fun y => b2 (fun i j => decide (i < j)) x y := rfl
@[simp] theorem leB_ev : leB fa fb δ = (fa δ).bind fun x => (fb δ).bind fun y => b2 (fun i j => decide (i ≤ j)) x y := rfl
@[simp] theorem gtB_ev : gtB fa fb δ = (fa δ).bind fun x => (fb δ).bind fun y => b2 (fun i j => decide (j < i)) x y := rfl
@[simp] theorem geB_ev : geB fa fb δ = (fa δ).bind fun x => (fb δ).bind fun y => b2 (fun i j => decide (j ≤ i)) x y := rfl
@[simp] theorem eqB_ev : eqB fa fb δ = (fa δ).bind fun x => (fb δ).bind fun y => gEq x y := rfl
@[simp] theorem neB_ev : neB fa fb δ = (fa δ).bind fun x => (fb δ).bind fun y => gNe x y := rfl
@[simp] theorem inB_ev : inB fa fb δ = (fa δ).bind fun x => (fb δ).bind fun y => gIn x y := rfl
@[simp] theorem ninB_ev : ninB fa fb δ = (fa δ).bind fun x => (fb δ).bind fun y => gNin x y := rfl
@[simp] theorem gNin_ev (x y : D) : gNin x y = (gIn x y).bind fun b => .ok (!b) := rfl
@[simp] theorem isNB_ev : isNB fa δ = (fa δ).bind fun d => .ok (isN d) := rfl
@[simp] theorem notNB_ev : notNB fa δ = (fa δ).bind fun d => .ok (!isN d) := rfl
@[simp] theorem isN_none : isN .none = true := rfl
@[simp] theorem isN_int (i : Int) : isN (.int i) = false := rfl
@[simp] theorem isN_bool (i : Bool) : isN (.bool i) = false := rfl
@[simp] theorem isN_tuple (l : List D) : isN (.tuple l) = false := rfl
@[simp] theorem isN_list (l : List D) : isN (.list l) = false := rfl
@[simp] theorem chainB_ev (g g' : Int → Int → Bool) : chainB g g' fa fb fc δ = (fa δ).bind fun x => (fb δ).bind fun y => (b2 g x y).bind fun k => if k = true then (fc δ).bind fun z => b2 g' y z else .ok false := rfl
variable (f g : Env → Res Bool)
@[simp] theorem andB_ev : andB f g δ = (f δ).bind fun b => if b = true then g δ else .ok false := rfl
@[simp] theorem orB_ev : orB f g δ = (f δ).bind fun b => if b = true then .ok true else g δ := rfl
@[simp] theorem notB_ev : notB f δ = (f δ).bind fun b => .ok (!b) := rfl
@[simp] theorem ifD_ev {α : Type} (a b : Env → Res α) : ifD f a b δ = (f δ).bind fun t => if t = true then a δ else b δ := rfl
@[simp] theorem asB_ev (b : Bool) : asB (.bool b) = .ok b := rfl
@[simp] theorem yesB_ev : yesB δ = .ok true := rfl
variable (fs : Env → Res (List D)) (fl fu : Env → Res (Option Int))
@[simp] theorem nilA_ev : nilA δ = .ok [] := rfl
@[simp] theorem consA_ev : consA fa fs δ = (fa δ).bind fun d => (fs δ).bind fun ds => .ok (d :: ds) := rfl
@[simp] theorem tupD_ev : tupD fs δ = (fs δ).bind fun ds => (szL ds).bind fun ds => .ok (.tuple ds) := rfl
@[simp] theorem lstF_ev : lstF fs δ = (fs δ).bind szL := rfl
theorem szL_ok {ds : List D} (h : ds.length ≤ 16777216) : szL ds = .ok ds := by unfold szL; rw [if_pos]; exact h
@[simp] theorem szL0 : szL [] = .ok [] := rfl
@[simp] theorem szL1 (a : D) : szL [a] = .ok [a] := rfl
@[simp] theorem szL2 (a b : D) : szL [a, b] = .ok [a, b] := rfl
@[simp] theorem szL3 (a b c : D) : szL [a, b, c] = .ok [a, b, c] := rfl
@[simp] theorem szL4 (a b c d : D) : szL [a, b, c, d] = .ok [a, b, c, d] := rfl
@[simp] theorem szL5 (a b c d e : D) : szL [a, b, c, d, e] = .ok [a, b, c, d, e] := rfl
@[simp] theorem valF_ev : valF fs δ = (fs δ).bind fun ds => .ok (.list ds) := rfl
@[simp] theorem valB_ev : valB f δ = (f δ).bind fun b => .ok (.bool b) := rfl
@[simp] theorem ixD_ev : ixD fa fb δ = (fa δ).bind fun x => (fb δ).bind fun y => gIx x y := rfl
@[simp] theorem gIx_list (ds : List D) (i : Int) : gIx (.list ds) (.int i) = ofO (atI ds i) := rfl
@[simp] theorem gIx_tuple (ds : List D) (i : Int) : gIx (.tuple ds) (.int i) = ofO (atI ds i) := rfl
@[simp] theorem gIx_scr (ds : List D) (i : Int) : gIx (scrD ds) (.int i) = ofO (atI ds i) := rfl
@[simp] theorem ofO_some {α : Type} (a : α) : ofO (some a) = .ok a := rfl
@[simp] theorem ofO_none {α : Type} : (ofO none : Res α) = .err := rfl
@[simp] theorem noO_ev : noO δ = .ok none := rfl
@[simp] theorem someO_ev : someO fa δ = (fa δ).bind gO := rfl
@[simp] theorem gO_ev (i : Int) : gO (.int i) = .ok (some i) := rfl
@[simp] theorem slF_ev : slF fa fl fu δ = (fa δ).bind fun x => (fl δ).bind fun l => (fu δ).bind fun u => (gLst x).bind fun ds => .ok (cutL ds l u) := rfl
@[simp] theorem slT_ev : slT fa fl fu δ = (fa δ).bind fun x => (fl δ).bind fun l => (fu δ).bind fun u => (gTup x).bind fun ds => .ok (.tuple (cutL ds l u)) := rfl
@[simp] theorem gLst_list (ds : List D) : gLst (.list ds) = .ok ds := rfl
@[simp] theorem gLst_scr (ds : List D) : gLst (scrD ds) = .ok ds := rfl
@[simp] theorem ofLst_list (ds : List D) : ofLst (.list ds) = .ok ds := rfl
@[simp] theorem gTup_tuple (ds : List D) : gTup (.tuple ds) = .ok ds := rfl
@[simp] theorem lenD_ev : lenD fa δ = (fa δ).bind gLen := rfl
@[simp] theorem gLen_list (ds : List D) : gLen (.list ds) = .ok (.int ds.length) := rfl
@[simp] theorem gLen_tuple (ds : List D) : gLen (.tuple ds) = .ok (.int ds.length) := rfl
@[simp] theorem gLen_scr (ds : List D) : gLen (scrD ds) = .ok (.int ds.length) := rfl
@[simp] theorem listF_ev : listF fa δ = (fa δ).bind gList := rfl
@[simp] theorem gList_list (ds : List D) : gList (.list ds) = .ok ds := rfl
@[simp] theorem gList_tuple (ds : List D) : gList (.tuple ds) = .ok ds := rfl
@[simp] theorem gList_scr (ds : List D) : gList (scrD ds) = .ok ds := rfl
@[simp] theorem tupleD_ev : tupleD fa δ = (fa δ).bind gTuple := rfl
@[simp] theorem gTuple_list (ds : List D) : gTuple (.list ds) = .ok (.tuple ds) := rfl
@[simp] theorem gTuple_tuple (ds : List D) : gTuple (.tuple ds) = .ok (.tuple ds) := rfl
@[simp] theorem gInt_int (i : Int) : gInt (.int i) = .ok (.int i) := rfl
@[simp] theorem gInt_bool (b : Bool) : gInt (.bool b) = .ok (.int (if b then 1 else 0)) := rfl
@[simp] theorem gMax_ev (i j : Int) : gMax (.int i) (.int j) = .ok (.int (if i < j then j else i)) := rfl
@[simp] theorem gMin_ev (i j : Int) : gMin (.int i) (.int j) = .ok (.int (if j < i then j else i)) := rfl
@[simp] theorem isiB_ev (T : String) : isiB T fa δ = (fa δ).bind fun d => .ok (isT T d) := rfl
@[simp] theorem catF_ev : catF fa fb δ = (fa δ).bind fun x => (fb δ).bind fun y => (ofLst x).bind fun xs => (ofLst y).bind fun ys => szL (xs ++ ys) := rfl
@[simp] theorem callD_ev (φ : List D → Res D) : callD n φ fs δ = (fs δ).bind fun ds => ln n ds (noX (φ ds)) := rfl
@[simp] theorem callF_ev (φ : List D → Res (List D)) : callF n φ fs δ = (fs δ).bind fun ds => ln n ds (noX (φ ds)) := rfl
@[simp] theorem callX_ev (φ : List D → Res D) : callX n φ fs δ = (fs δ).bind fun ds => ln n ds (φ ds) := rfl
@[simp] theorem ln1 {α : Type} (a : D) (r : Res α) : ln 1 [a] r = r := rfl
@[simp] theorem ln2 {α : Type} (a b : D) (r : Res α) : ln 2 [a, b] r = r := rfl
@[simp] theorem ln3 {α : Type} (a b c : D) (r : Res α) : ln 3 [a, b, c] r = r := rfl
@[simp] theorem ln4 {α : Type} (a b c d : D) (r : Res α) : ln 4 [a, b, c, d] r = r := rfl
@[simp] theorem ln5 {α : Type} (a b c d e : D) (r : Res α) : ln 5 [a, b, c, d, e] r = r := rfl
@[simp] theorem ln6 {α : Type} (a b c d e f : D) (r : Res α) : ln 6 [a, b, c, d, e, f] r = r := rfl
@[simp] theorem ln7 {α : Type} (a b c d e f g : D) (r : Res α) : ln 7 [a, b, c, d, e, f, g] r = r := rfl
@[simp] theorem seqI_ev : seqI fa δ = (fa δ).bind gSeq := rfl
@[simp] theorem gSeq_list (ds : List D) : gSeq (.list ds) = .ok ds := rfl
@[simp] theorem gSeq_tuple (ds : List D) : gSeq (.tuple ds) = .ok ds := rfl
@[simp] theorem seqIs_ev : seqIs fa δ = (fa δ).bind gLst := rfl
@[simp] theorem rngI_ev : rngI fa δ = (fa δ).bind gR1 := rfl
@[simp] theorem rngI2_ev : rngI2 fa fb δ = (fa δ).bind fun x => (fb δ).bind fun y => gR2 x y := rfl
@[simp] theorem enI_ev : enI fa δ = (fa δ).bind gEn := rfl
@[simp] theorem gEn_list (ds : List D) : gEn (.list ds) = .ok (enL 0 ds) := rfl
@[simp] theorem zipI_ev : zipI fa fb δ = (fa δ).bind fun x => (fb δ).bind fun y => gZip x y := rfl
@[simp] theorem gZip_list (ds es : List D) : gZip (.list ds) (.list es) = .ok (zipL ds es) := rfl
@[simp] theorem gN_ev (d : D) : gN i d δ = some (δ.set i (.val d)) := rfl
@[simp] theorem gNil_ev : gNil [] δ = some δ := rfl
@[simp] theorem gCons_ev (t : D → Env → Option Env) (ts : List D → Env → Option Env) (d : D) (ds : List D) : gCons t ts (d :: ds) δ = (t d δ).bind (ts ds) := rfl
@[simp] theorem gT2 (ts : List D → Env → Option Env) (a b : D) : gT 2 ts (.tuple [a, b]) δ = ts [a, b] δ := rfl
@[simp] theorem gT3 (ts : List D → Env → Option Env) (a b c : D) : gT 3 ts (.tuple [a, b, c]) δ = ts [a, b, c] δ := rfl
@[simp] theorem gT4 (ts : List D → Env → Option Env) (a b c d : D) : gT 4 ts (.tuple [a, b, c, d]) δ = ts [a, b, c, d] δ := rfl
@[simp] theorem fgE_nil : fgE [] δ = δ := rfl
@[simp] theorem fgE_cons (is : List Nat) : fgE (i :: is) δ = fgE is (δ.set i .no) := rfl
def frzO (i : Nat) (δ : Env) : Option Sl → Env
  | some s => δ.set i (frzS s)
  | none => δ
@[simp] theorem frzE_ev : frzE i δ = frzO i δ δ[i]? := rfl
@[simp] theorem frzO_own (ds : List D) : frzO i δ (some (.own ds)) = δ.set i (.val (.list ds)) := rfl
@[simp] theorem frzO_ownK (ds : List (D × D)) : frzO i δ (some (.ownK ds)) = δ.set i (.val (.dict ds)) := rfl
@[simp] theorem frzO_val (d : D) : frzO i δ (some (.val d)) = δ.set i (.val d) := rfl
/-! statements -/
def thn (r : Fl) (g : Env → Fl) : Fl := match r with
  | .nx δ => g δ
  | r => r
variable (s t : Env → Fl)
@[simp] theorem seqS_ev : seqS s t δ = thn (s δ) t := rfl
@[simp] theorem thn_nx : thn (.nx δ) t = t δ := rfl
@[simp] theorem thn_rt (d : D) : thn (.rt d) t = .rt d := rfl
@[simp] theorem thn_rf (d : List D) : thn (.rf d) t = .rf d := rfl
@[simp] theorem thn_ct : thn (.ct δ) t = .ct δ := rfl
@[simp] theorem thn_bk : thn (.bk δ) t = .bk δ := rfl
@[simp] theorem thn_exc (c : Str) : thn (.exc c δ) t = .exc c δ := rfl
@[simp] theorem thn_err : thn .err t = .err := rfl
@[simp] theorem thn_ite {p : Prop} [Decidable p] (a b : Fl) : thn (if p then a else b) t = if p then thn a t else thn b t := by split <;> rfl
@[simp] theorem nxS_ev : nxS δ = .nx δ := rfl
@[simp] theorem frzT_ev : frzT i s δ = s (frzE i δ) := rfl
@[simp] theorem frzN_ev : frzN i δ = .nx (frzE i δ) := rfl
@[simp] theorem dropS_ev : dropS fa δ = onR (fa δ) δ fun _ => .nx δ := rfl
@[simp] theorem retS_ev : retS fa δ = onR (fa δ) δ fun d => .rt d := rfl
@[simp] theorem retF_ev : retF fs δ = onR (fs δ) δ fun d => .rf d := rfl
def ownF : Option Sl → Fl
  | some (.own ds) => .rf ds
  | _ => .err
@[simp] theorem ifS_ev : ifS f s t δ = onR (f δ) δ fun b => if b = true then s δ else t δ := rfl
@[simp] theorem setS_ev : setS i fa δ = onR (fa δ) δ fun d => .nx (δ.set i (.val d)) := rfl
@[simp] theorem setF_ev : setF i fs δ = onR (fs δ) δ fun d => .nx (δ.set i (.own d)) := rfl
@[simp] theorem setK_ev (fk : Env → Res (List (D × D))) : setK i fk δ = onR (fk δ) δ fun d => .nx (δ.set i (.ownK d)) := rfl
def asgO : Option Env → Fl
  | some δ => .nx δ
  | none => .err
@[simp] theorem asgS_ev (gt : D → Env → Option Env) : asgS gt fa δ = onR (fa δ) δ fun d => asgO (gt d δ) := rfl
@[simp] theorem asgO_some : asgO (some δ) = .nx δ := rfl
@[simp] theorem parS_ev : parS i j fa fb δ = onR ((fa δ).bind fun x => (fb δ).bind fun y => .ok (x, y)) δ fun p => .nx ((δ.set i (.val p.1)).set j (.val p.2)) := rfl
def endD : Fl → Res D
  | .rt d => .ok d
  | .rf es => .ok (.list es)
  | .nx _ => .ok .none
  | _ => .err
def endF : Fl → Res (List D)
  | .rf es => .ok es
  | _ => .err
def endX : Fl → Res D
  | .rt d => .ok d
  | .rf es => .ok (.list es)
  | .nx _ => .ok .none
  | .exc c _ => .exc c
  | _ => .err
theorem runD_ev (ds : List D) : runD s n ds = endD (s (startE n ds)) := rfl
theorem runF_ev (ds : List D) : runF s n ds = endF (s (startE n ds)) := rfl
theorem runX_ev (ds : List D) : runX s n ds = endX (s (startE n ds)) := rfl
@[simp] theorem endD_rt (d : D) : endD (.rt d) = .ok d := rfl
@[simp] theorem endD_rf (d : List D) : endD (.rf d) = .ok (.list d) := rfl
@[simp] theorem endD_nx : endD (.nx δ) = .ok .none := rfl
@[simp] theorem endF_rf (d : List D) : endF (.rf d) = .ok d := rfl
@[simp] theorem endX_rt (d : D) : endX (.rt d) = .ok d := rfl
@[simp] theorem endX_rf (d : List D) : endX (.rf d) = .ok (.list d) := rfl
@[simp] theorem endX_nx : endX (.nx δ) = .ok .none := rfl
@[simp] theorem endX_exc (c : Str) : endX (.exc c δ) = .exc c := rfl
@[simp] theorem endD_ite {p : Prop} [Decidable p] (a b : Fl) : endD (if p then a else b) = if p then endD a else endD b := by split <;> rfl
@[simp] theorem endF_ite {p : Prop} [Decidable p] (a b : Fl) : endF (if p then a else b) = if p then endF a else endF b := by split <;> rfl
@[simp] theorem endX_ite {p : Prop} [Decidable p] (a b : Fl) : endX (if p then a else b) = if p then endX a else endX b := by split <;> rfl
@[simp] theorem startE_ev (ds : List D) : startE n ds = ds.map Sl.val ++ List.replicate (n - ds.length) .no := rfl
end
@[simp] theorem isT_int_none  : isT "int" .none = false := rfl
@[simp] theorem isT_int_bool (b : Bool) : isT "int" (.bool b) = true := rfl
@[simp] theorem isT_int_int (i : Int) : isT "int" (.int i) = true := rfl
@[simp] theorem isT_int_str (s : Str) : isT "int" (.str s) = false := rfl
@[simp] theorem isT_int_list (l : List D) : isT "int" (.list l) = false := rfl
@[simp] theorem isT_int_tuple (l : List D) : isT "int" (.tuple l) = false := rfl
@[simp] theorem isT_bool_none  : isT "bool" .none = false := rfl
@[simp] theorem isT_bool_bool (b : Bool) : isT "bool" (.bool b) = true := rfl
@[simp] theorem isT_bool_int (i : Int) : isT "bool" (.int i) = false := rfl
@[simp] theorem isT_bool_str (s : Str) : isT "bool" (.str s) = false := rfl
@[simp] theorem isT_bool_list (l : List D) : isT "bool" (.list l) = false := rfl
@[simp] theorem isT_bool_tuple (l : List D) : isT "bool" (.tuple l) = false := rfl
@[simp] theorem isT_str_none  : isT "str" .none = false := rfl
@[simp] theorem isT_str_bool (b : Bool) : isT "str" (.bool b) = false := rfl
@[simp] theorem isT_str_int (i : Int) : isT "str" (.int i) = false := rfl
@[simp] theorem isT_str_str (s : Str) : isT "str" (.str s) = true := rfl
@[simp] theorem isT_str_list (l : List D) : isT "str" (.list l) = false := rfl
@[simp] theorem isT_str_tuple (l : List D) : isT "str" (.tuple l) = false := rfl
@[simp] theorem isT_tuple_none  : isT "tuple" .none = false := rfl
@[simp] theorem isT_tuple_bool (b : Bool) : isT "tuple" (.bool b) = false := rfl
@[simp] theorem isT_tuple_int (i : Int) : isT "tuple" (.int i) = false := rfl
@[simp] theorem isT_tuple_str (s : Str) : isT "tuple" (.str s) = false := rfl
@[simp] theorem isT_tuple_list (l : List D) : isT "tuple" (.list l) = false := rfl
@[simp] theorem isT_tuple_tuple (l : List D) : isT "tuple" (.tuple l) = true := rfl
@[simp] theorem isT_list_none  : isT "list" .none = false := rfl
@[simp] theorem isT_list_bool (b : Bool) : isT "list" (.bool b) = false := rfl
@[simp] theorem isT_list_int (i : Int) : isT "list" (.int i) = false := rfl
@[simp] theorem isT_list_str (s : Str) : isT "list" (.str s) = false := rfl
@[simp] theorem isT_list_list (l : List D) : isT "list" (.list l) = true := rfl
@[simp] theorem isT_list_tuple (l : List D) : isT "list" (.tuple l) = false := rfl

def retO : Option Sl → Fl
  | some (.own ds) => .rf ds
  | _ => .err
@[simp] theorem retV_ev (i : Nat) (δ : Env) : retV i δ = retO δ[i]? := by unfold retV retO; rfl
@[simp] theorem retO_own (ds : List D) : retO (some (.own ds)) = .rf ds := rfl
def appO (i : Nat) (f : Env → Res D) (δ : Env) : Option Sl → Fl
  | some (.own ds) => onR (f δ) δ fun d => if ds.length < 16777216 then .nx (δ.set i (.own (ds ++ [d]))) else .err
  | _ => .err
@[simp] theorem appS_ev (i : Nat) (f : Env → Res D) (δ : Env) : appS i f δ = appO i f δ δ[i]? := by
  unfold appS ownAt
  cases δ[i]? with
  | none => rfl
  | some s => cases s <;> rfl
@[simp] theorem appO_own (i : Nat) (f : Env → Res D) (δ : Env) (ds : List D) : appO i f δ (some (.own ds)) = onR (f δ) δ fun d => if ds.length < 16777216 then .nx (δ.set i (.own (ds ++ [d]))) else .err := rfl
def extL (i : Nat) (δ : Env) (ds : List D) : D → Fl
  | .list es => if (ds ++ es).length ≤ 16777216 then .nx (δ.set i (.own (ds ++ es))) else .err
  | _ => .err
def extO (i : Nat) (f : Env → Res D) (δ : Env) : Option Sl → Fl
  | some (.own ds) => onR (f δ) δ (extL i δ ds)
  | _ => .err
@[simp] theorem extS_ev (i : Nat) (f : Env → Res D) (δ : Env) : extS i f δ = extO i f δ δ[i]? := by
  unfold extS ownAt
  cases δ[i]? with
  | none => rfl
  | some s =>
    cases s with
    | own ds =>
      show onR (f δ) δ _ = onR (f δ) δ _
      congr 1
    | _ => rfl
@[simp] theorem extO_own (i : Nat) (f : Env → Res D) (δ : Env) (ds : List D) : extO i f δ (some (.own ds)) = onR (f δ) δ (extL i δ ds) := rfl
@[simp] theorem extL_list (i : Nat) (δ : Env) (ds es : List D) : extL i δ ds (.list es) = if (ds ++ es).length ≤ 16777216 then .nx (δ.set i (.own (ds ++ es))) else .err := rfl
/-- xs[k] = d -/
def putL (i : Nat) (δ : Env) (ds : List D) (d : D) : D → Fl
  | .int k => match L2.ixN ds.length k with
    | some j => .nx (δ.set i (.own (ds.set j d)))
    | none => .err
  | _ => .err
def putD (i : Nat) (δ : Env) (kvs : List (D × D)) (d : D) (k : D) : Fl := match keyOf k with
  | some k => if kvs.length < 16777216 then .nx (δ.set i (.ownK (putKD kvs k d))) else .err
  | none => .err
def setO (i : Nat) (fk f : Env → Res D) (δ : Env) : Option Sl → Fl
  | some (.own ds) => onR ((f δ).bind fun d => (fk δ).bind fun k => .ok (d, k)) δ fun p => putL i δ ds p.1 p.2
  | some (.ownK kvs) => onR ((f δ).bind fun d => (fk δ).bind fun k => .ok (d, k)) δ fun p => putD i δ kvs p.1 p.2
  | _ => .err
@[simp] theorem setIS_ev (i : Nat) (fk f : Env → Res D) (δ : Env) : setIS i fk f δ = setO i fk f δ δ[i]? := by
  unfold setIS
  cases δ[i]? with
  | none => rfl
  | some s =>
    cases s with
    | own ds =>
      show onR _ δ _ = onR _ δ _
      congr 1
    | ownK ds => rfl
    | _ => rfl
@[simp] theorem setO_own (i : Nat) (fk f : Env → Res D) (δ : Env) (ds : List D) : setO i fk f δ (some (.own ds)) = onR ((f δ).bind fun d => (fk δ).bind fun k => .ok (d, k)) δ fun p => putL i δ ds p.1 p.2 := rfl
@[simp] theorem setO_ownK (i : Nat) (fk f : Env → Res D) (δ : Env) (kvs : List (D × D)) : setO i fk f δ (some (.ownK kvs)) = onR ((f δ).bind fun d => (fk δ).bind fun k => .ok (d, k)) δ fun p => putD i δ kvs p.1 p.2 := rfl
theorem putL_ok {i : Nat} {δ : Env} {ds : List D} {d : D} {k : Int} (h : 0 ≤ k) (h2 : k < ds.length) : putL i δ ds d (.int k) = .nx (δ.set i (.own (ds.set k.toNat d))) := by
  have e : L2.ixN ds.length k = some k.toNat := by
    unfold L2.ixN
    rw [if_pos h, if_pos h2]
  simp only [putL, e]
@[simp] theorem tmpD_ev (i : Nat) (f : Env → Res D) (δ : Env) : tmpD i f δ = (f (frzE i δ)).bind fun d => if imm d = true then .ok d else .err := rfl
@[simp] theorem tmpF_ev (i : Nat) (f : Env → Res (List D)) (δ : Env) : tmpF i f δ = (f (frzE i δ)).bind fun d => if immA d = true then .ok d else .err := rfl
@[simp] theorem tmpB_ev (i : Nat) (f : Env → Res Bool) (δ : Env) : tmpB i f δ = f (frzE i δ) := rfl
@[simp] theorem imm_int (i : Int) : imm (.int i) = true := rfl
@[simp] theorem imm_bool (i : Bool) : imm (.bool i) = true := rfl
@[simp] theorem forS_ev (is : List Nat) (fi : Env → Res (List D)) (g : D → Env → Option Env) (fb : Env → Fl) (δ : Env) : forS is fi g fb δ = onR (fi δ) δ fun ds => loopL is g fb ds δ := rfl
def backO (i : Nat) (ds : List D) (δ : Env) : Option Sl → Fl
  | some .pin => .nx (δ.set i (.own ds))
  | _ => .err
def forOO (is : List Nat) (i : Nat) (g : D → Env → Option Env) (fb : Env → Fl) (δ : Env) : Option Sl → Fl
  | some (.own ds) => backF i ds (loopL is g fb ds (δ.set i .pin))
  | _ => .err
@[simp] theorem forO_ev (is : List Nat) (i : Nat) (g : D → Env → Option Env) (fb : Env → Fl) (δ : Env) : forO is i g fb δ = forOO is i g fb δ δ[i]? := rfl
@[simp] theorem forOO_own (is : List Nat) (i : Nat) (g : D → Env → Option Env) (fb : Env → Fl) (δ : Env) (ds : List D) : forOO is i g fb δ (some (.own ds)) = backF i ds (loopL is g fb ds (δ.set i .pin)) := rfl
@[simp] theorem backF_ev (i : Nat) (ds : List D) (δ : Env) : backF i ds (.nx δ) = backO i ds δ δ[i]? := rfl
@[simp] theorem backO_pin (i : Nat) (ds : List D) (δ : Env) : backO i ds δ (some .pin) = .nx (δ.set i (.own ds)) := rfl
/-! items by place -/
@[simp] theorem atI_nn {α : Type} (xs : List α) (k : Nat) : L2.atI xs (k : Int) = xs[k]? := by
  unfold L2.atI L2.ixN
  rw [if_pos (by omega)]
  by_cases h : k < xs.length
  · rw [if_pos (by omega)]; simp
  · rw [if_neg (by omega), List.getElem?_eq_none (by omega)]; rfl
theorem atI_of {α : Type} (xs : List α) {i : Int} (h : 0 ≤ i) : L2.atI xs i = xs[i.toNat]? := by
  obtain ⟨k, rfl⟩ := Int.eq_ofNat_of_zero_le h
  exact atI_nn xs k
@[simp] theorem atI_0 {α : Type} (xs : List α) : L2.atI xs 0 = xs[0]? := atI_nn xs 0
@[simp] theorem atI_1 {α : Type} (xs : List α) : L2.atI xs 1 = xs[1]? := atI_nn xs 1
@[simp] theorem atI_2 {α : Type} (xs : List α) : L2.atI xs 2 = xs[2]? := atI_nn xs 2
@[simp] theorem atI_3 {α : Type} (xs : List α) : L2.atI xs 3 = xs[3]? := atI_nn xs 3
@[simp] theorem atI_m1 {α : Type} (xs : List α) : L2.atI xs (-1) = xs.getLast? := by
  unfold L2.atI L2.ixN
  rw [if_neg (by decide), List.getLast?_eq_getElem?]
  cases xs with
  | nil => rfl
  | cons x r =>
    rw [if_pos (by simp; omega)]
    show (x :: r)[_]? = _
    congr 1
    simp
    omega
/-! data without truth values and dicts: == is = -/
mutual
def plain : Nat → D → Bool
  | _, .none => true
  | _, .int _ => true
  | n + 1, .list xs => plainA n xs
  | n + 1, .tuple xs => plainA n xs
  | _, _ => false
def plainA : Nat → List D → Bool
  | _, [] => true
  | n, d :: ds => plain n d && plainA n ds
end
theorem plainA_iff {n : Nat} : ∀ {ds : List D}, plainA n ds = true ↔ ∀ d ∈ ds, plain n d = true
  | [] => by simp [plainA]
  | d :: ds => by simp [plainA, plainA_iff (ds := ds)]
mutual
theorem plain_eqv : ∀ (n m : Nat) (d e : D), plain n d = true → plain m e = true → (PyData.eqv d e = true ↔ d = e)
  | n, m, .none, e, _, h => by cases e <;> simp [PyData.eqv]
  | n, m, .int i, e, _, h => by
    cases e <;> first | (simp [PyData.eqv]; done) | (cases m <;> simp [plain] at h)
  | n, m, .bool b, e, h, _ => by cases n <;> simp [plain] at h
  | n, m, .str b, e, h, _ => by cases n <;> simp [plain] at h
  | n, m, .dict b, e, h, _ => by cases n <;> simp [plain] at h
  | 0, m, .list xs, e, h, _ => by simp [plain] at h
  | 0, m, .tuple xs, e, h, _ => by simp [plain] at h
  | n + 1, m, .list xs, e, h, k => by
    cases e with
    | list ys =>
      cases m with
      | zero => simp [plain] at k
      | succ m =>
        have := plainA_eqv n m xs ys (by simpa [plain] using h) (by simpa [plain] using k)
        simp [PyData.eqv, this]
    | _ => simp [PyData.eqv]
  | n + 1, m, .tuple xs, e, h, k => by
    cases e with
    | tuple ys =>
      cases m with
      | zero => simp [plain] at k
      | succ m =>
        have := plainA_eqv n m xs ys (by simpa [plain] using h) (by simpa [plain] using k)
        simp [PyData.eqv, this]
    | _ => simp [PyData.eqv]
theorem plainA_eqv : ∀ (n m : Nat) (ds es : List D), plainA n ds = true → plainA m es = true → (PyData.eqvAll ds es = true ↔ ds = es)
  | n, m, [], [], _, _ => by simp [PyData.eqvAll]
  | n, m, [], e :: es, _, _ => by simp [PyData.eqvAll]
  | n, m, d :: ds, [], _, _ => by simp [PyData.eqvAll]
  | n, m, d :: ds, e :: es, h, k => by
    have h : plain n d = true ∧ plainA n ds = true := by simpa [plainA] using h
    have k : plain m e = true ∧ plainA m es = true := by simpa [plainA] using k
    simp [PyData.eqvAll, plain_eqv n m d e h.1 k.1, plainA_eqv n m ds es h.2 k.2]
end
mutual
theorem plain_lay : ∀ (n : Nat) (d : D), plain n d = true → d.canLay0 = true ∧ d.depth ≤ n
  | n, .none, _ => by simp [PyData.canLay0, PyData.depth]
  | n, .int i, _ => by simp [PyData.canLay0, PyData.depth]
  | n, .bool b, h => by cases n <;> simp [plain] at h
  | n, .str b, h => by cases n <;> simp [plain] at h
  | n, .dict b, h => by cases n <;> simp [plain] at h
  | 0, .list xs, h => by simp [plain] at h
  | 0, .tuple xs, h => by simp [plain] at h
  | n + 1, .list xs, h => by
    have := plainA_lay n xs (by simpa [plain] using h)
    simp [PyData.canLay0, PyData.depth, this]
  | n + 1, .tuple xs, h => by
    have := plainA_lay n xs (by simpa [plain] using h)
    simp [PyData.canLay0, PyData.depth, this]
theorem plainA_lay : ∀ (n : Nat) (ds : List D), plainA n ds = true → PyData.canLayAll0 ds = true ∧ PyData.depthAll ds ≤ n
  | n, [], _ => by simp [PyData.canLayAll0, PyData.depthAll]
  | n, d :: ds, h => by
    have h : plain n d = true ∧ plainA n ds = true := by simpa [plainA] using h
    have h1 := plain_lay n d h.1
    have h2 := plainA_lay n ds h.2
    simp [PyData.canLayAll0, PyData.depthAll, h1, h2]
    omega
end
theorem plain_ok {n : Nat} {d : D} (h : plain n d = true) (hn : n ≤ 64) : eqOk d = true := by
  have := plain_lay n d h
  unfold eqOk SeqAt.shaped
  rw [this.1, decide_eq_true (by omega)]; rfl
theorem gEq_true {n : Nat} {d : D} (h : plain n d = true) (hn : n ≤ 64) : gEq d d = .ok true := by
  unfold gEq
  rw [if_pos ⟨plain_ok h hn, plain_ok h hn⟩, (plain_eqv n n d d h h).mpr rfl]
theorem gEq_of {n m : Nat} {d e : D} {p : Prop} [Decidable p] (h : plain n d = true) (hn : n ≤ 64) (k : plain m e = true) (hm : m ≤ 64) (hp : d = e ↔ p) : gEq d e = .ok (decide p) := by
  unfold gEq
  rw [if_pos ⟨plain_ok h hn, plain_ok k hm⟩]
  congr 1
  rw [Bool.eq_iff_iff, plain_eqv n m d e h k, hp, decide_eq_true_iff]
theorem gNe_of {n m : Nat} {d e : D} {p : Prop} [Decidable p] (h : plain n d = true) (hn : n ≤ 64) (k : plain m e = true) (hm : m ≤ 64) (hp : d = e ↔ p) : gNe d e = .ok (!decide p) := by
  have := gEq_of h hn k hm hp
  unfold gEq at this
  rw [if_pos ⟨plain_ok h hn, plain_ok k hm⟩] at this
  unfold gNe
  rw [if_pos ⟨plain_ok h hn, plain_ok k hm⟩, Res.ok.inj this]
@[simp] theorem gEq_int (i j : Int) : gEq (.int i) (.int j) = .ok (decide (i = j)) := gEq_of (n := 0) (m := 0) rfl (by decide) rfl (by decide) (by simp)
@[simp] theorem gNe_int (i j : Int) : gNe (.int i) (.int j) = .ok (!decide (i = j)) := gNe_of (n := 0) (m := 0) rfl (by decide) rfl (by decide) (by simp)
@[simp] theorem noX_ite {α : Type} {p : Prop} [Decidable p] (a b : Res α) : noX (if p then a else b) = if p then noX a else noX b := by split <;> rfl
end DL
/-! DL7: loops and comprehensions by an invariant; people as data. -/
namespace DL
open PySem PySem.Spec PyProof.Rows L2
/-- forgets behind a turn -/
def fgF (is : List Nat) : Fl → Fl
  | .nx δ => .nx (fgE is δ)
  | .ct δ => .nx (fgE is δ)
  | r => r
def turnO (is : List Nat) (fb : Env → Fl) : Option Env → Fl
  | some δ => fgF is (fb δ)
  | none => .err
/-- one turn -/
def turnE (is : List Nat) (g : D → Env → Option Env) (fb : Env → Fl) (d : D) (δ : Env) : Fl := turnO is fb (g d δ)
@[simp] theorem fgF_nx (is : List Nat) (δ : Env) : fgF is (.nx δ) = .nx (fgE is δ) := rfl
@[simp] theorem fgF_ct (is : List Nat) (δ : Env) : fgF is (.ct δ) = .nx (fgE is δ) := rfl
@[simp] theorem fgF_ite {p : Prop} [Decidable p] (is : List Nat) (a b : Fl) : fgF is (if p then a else b) = if p then fgF is a else fgF is b := by split <;> rfl
@[simp] theorem turnO_some (is : List Nat) (fb : Env → Fl) (δ : Env) : turnO is fb (some δ) = fgF is (fb δ) := rfl
theorem step {f g : Env → Fl} {δ δ' : Env} {r : Fl} (h : f δ = .nx δ') (k : g δ' = r) : seqS f g δ = r := by rw [seqS_ev, h]; exact k
theorem turn_of {is : List Nat} {g : D → Env → Option Env} {fb : Env → Fl} {d : D} {δ δ1 δ2 δ3 : Env} (h : g d δ = some δ1) (k : fb δ1 = .nx δ2) (e : fgE is δ2 = δ3) : turnE is g fb d δ = .nx δ3 := by
  unfold turnE; rw [h, turnO_some, k, fgF_nx, e]
theorem loopL_inv {A : Type} (e : A → Env) {is : List Nat} {g : D → Env → Option Env} {fb : Env → Fl} : ∀ {ds : List D} (I : Nat → A → Prop)
    (_ : ∀ i a d, ds[i]? = some d → I i a → ∃ a', I (i + 1) a' ∧ turnE is g fb d (e a) = .nx (e a')) {a : A} {δ : Env}, fgE is δ = e a → I 0 a → ∃ a', I ds.length a' ∧ loopL is g fb ds δ = .nx (e a')
  | [], I, _, a, δ, h0, i0 => ⟨a, i0, by show Fl.nx (fgE is δ) = _; rw [h0]⟩
  | d :: ds, I, h, a, δ, h0, i0 => by
    obtain ⟨a1, i1, e1⟩ := h 0 a d rfl i0
    have key : ∃ δ2, fgE is δ2 = e a1 ∧ loopL is g fb (d :: ds) δ = loopL is g fb ds δ2 := by
      unfold turnE at e1
      rw [← h0] at e1
      cases hg : g d (fgE is δ) with
      | none => rw [hg] at e1; cases e1
      | some δ1 =>
        rw [hg] at e1
        have e1 : fgF is (fb δ1) = .nx (e a1) := e1
        cases hf : fb δ1 with
        | nx δ2 => rw [hf] at e1; exact ⟨δ2, Fl.nx.inj e1, by rw [loopL]; simp only [hg, hf]⟩
        | ct δ2 => rw [hf] at e1; exact ⟨δ2, Fl.nx.inj e1, by rw [loopL]; simp only [hg, hf]⟩
        | _ => rw [hf] at e1; cases e1
    obtain ⟨δ2, k1, k2⟩ := key
    obtain ⟨a2, i2, e4⟩ := loopL_inv e (fun i => I (i + 1)) (fun i a d hd hi => h (i + 1) a d (by simpa using hd) hi) k1 i1
    exact ⟨a2, i2, by rw [k2, e4]⟩
/-- .. of a state that is a function of the place -/
theorem loopL_at {is : List Nat} {g : D → Env → Option Env} {fb : Env → Fl} {ds : List D} (e : Nat → Env)
    (h : ∀ i d, ds[i]? = some d → turnE is g fb d (e i) = .nx (e (i + 1))) {δ : Env} (h0 : fgE is δ = e 0) : loopL is g fb ds δ = .nx (e ds.length) := by
  obtain ⟨a, ia, r⟩ := loopL_inv (A := Nat) e (fun i a => a = i) (ds := ds) (is := is) (g := g) (fb := fb) (fun i a d hd hi => by
    subst hi
    exact ⟨a + 1, rfl, h a d hd⟩) h0 rfl
  rw [r, ia]
theorem compL_map {α : Type} {g : D → Env → Option Env} {ft : Env → Res Bool} {fe : Env → Res D} {δ : Env} (enc : α → D) (p : α → Bool) (m : α → D) : ∀ (xs : List α),
    (∀ x ∈ xs, ∃ δ1, g (enc x) δ = some δ1 ∧ ft δ1 = .ok (p x) ∧ (p x = true → fe δ1 = .ok (m x))) → compL g ft fe δ (xs.map enc) = .ok ((xs.filter p).map m)
  | [], _ => rfl
  | x :: xs, h => by
    have ih := compL_map enc p m xs fun y hy => h y (List.mem_cons_of_mem _ hy)
    obtain ⟨δ1, e1, e2, e3⟩ := h x List.mem_cons_self
    rw [List.map_cons]
    unfold compL
    simp only [e1, e2]
    cases q : p x with
    | false => simp only [List.filter_cons, q]; exact ih
    | true => simp only [List.filter_cons, q, e3 q, ih]; rfl
theorem szI_ok {ds : List D} (h : ds.length ≤ 16777216) : szI ds = .ok ds := by unfold szI; rw [if_pos]; exact h
theorem compF_map {α : Type} {vs : List Nat} {fi : Env → Res (List D)} {g : D → Env → Option Env} {ft : Env → Res Bool} {fe : Env → Res D} {δ : Env} (xs : List α) (enc : α → D) (p : α → Bool) (m : α → D)
    (hi : fi δ = .ok (xs.map enc)) (hl : xs.length ≤ 16777216)
    (h : ∀ x ∈ xs, ∃ δ1, g (enc x) (fgE vs δ) = some δ1 ∧ ft δ1 = .ok (p x) ∧ (p x = true → fe δ1 = .ok (m x))) : compF vs fi g ft fe δ = .ok ((xs.filter p).map m) := by
  unfold compF
  rw [hi, Res.bind_ok, szI_ok (by rw [List.length_map]; exact hl), Res.bind_ok]
  exact compL_map enc p m xs h
theorem smI_ok {i : Int} (h : 0 ≤ i) (k : i ≤ 1000000000) : smI i = true := by
  unfold smI
  rw [decide_eq_true (by omega), decide_eq_true k]; rfl
/-- 0 .. n - 1 as ints -/
def rgI (n : Nat) : List Int := List.map (fun i : Nat => (i : Int)) (List.range n)
theorem rgL_0 (n : Nat) : rgL 0 n = (List.range n).map fun i : Nat => PyData.int i := by
  unfold rgL
  simp
theorem rgL_I (n : Nat) : rgL 0 n = (rgI n).map PyData.int := by
  rw [rgL_0]; unfold rgI; rw [List.map_map]; rfl
theorem gR1_ok {n : Int} (h0 : 0 ≤ n) (h : n ≤ 1000000000) : gR1 (.int n) = .ok ((rgI n.toNat).map PyData.int) := by
  show (if smI n = true then Res.ok (rgL 0 n.toNat) else Res.err) = _
  rw [if_pos (smI_ok h0 h), rgL_I]
theorem mem_rgI {n : Nat} {j : Int} : j ∈ rgI n ↔ 0 ≤ j ∧ j < n := by
  unfold rgI
  rw [List.mem_map]
  constructor
  · rintro ⟨i, hi, rfl⟩
    rw [List.mem_range] at hi
    omega
  · rintro ⟨h0, h1⟩
    exact ⟨j.toNat, by rw [List.mem_range]; omega, by show (j.toNat : Int) = j; omega⟩
@[simp] theorem rgI_len (n : Nat) : (rgI n).length = n := by unfold rgI; rw [List.length_map, List.length_range]
theorem rgI_at {n i : Nat} {d : D} (h : ((rgI n).map PyData.int)[i]? = some d) : i < n ∧ d = .int i := by
  unfold rgI at h
  rw [List.map_map, List.getElem?_map] at h
  by_cases hi : i < n
  · rw [List.getElem?_range hi] at h
    cases h
    exact ⟨hi, rfl⟩
  · rw [List.getElem?_eq_none (by rw [List.length_range]; omega)] at h; cases h
theorem rgI_nodup (n : Nat) : (rgI n).Nodup := by
  unfold rgI List.Nodup
  rw [List.pairwise_map]
  exact List.Pairwise.imp (fun {a b} h e => h (by omega)) (List.nodup_range (n := n))
theorem range_at {n i : Nat} {d : D} (h : ((List.range n).map fun i : Nat => PyData.int i)[i]? = some d) : i < n ∧ d = .int i := by
  rw [List.getElem?_map] at h
  by_cases hi : i < n
  · rw [List.getElem?_range hi] at h
    cases h
    exact ⟨hi, rfl⟩
  · rw [List.getElem?_eq_none (by rw [List.length_range]; omega)] at h; cases h
theorem enum_at {ds : List D} {i : Nat} {d : D} (h : (enL 0 ds)[i]? = some d) : ∃ e, ds[i]? = some e ∧ d = .tuple [.int i, e] := by
  obtain ⟨e, h1, h2⟩ := enL_get ds 0 i d h
  exact ⟨e, h1, by rw [h2, Nat.zero_add]⟩
/-! in a row of whole numbers -/
theorem any_eqv (i : Int) (l : List Int) : ((l.map PyData.int).any fun z => PyData.eqv z (.int i)) = l.contains i := by
  induction l with
  | nil => rfl
  | cons a l ih =>
    rw [List.map_cons, List.any_cons, ih, List.contains_cons]
    congr 1
    simp only [PyData.eqv]
    rw [Bool.eq_iff_iff]; simp; exact eq_comm
theorem flat_ints (l : List Int) : (l.map PyData.int).all flatD = true := by
  induction l with
  | nil => rfl
  | cons a l ih => rw [List.map_cons, List.all_cons, ih]; rfl
@[simp] theorem gIn_tup (i : Int) (l : List Int) : gIn (.int i) (.tuple (l.map PyData.int)) = .ok (l.contains i) := by
  dsimp only [gIn, inA]
  rw [if_pos ⟨rfl, flat_ints l⟩, any_eqv]; rfl
@[simp] theorem gIn_lst (i : Int) (l : List Int) : gIn (.int i) (.list (l.map PyData.int)) = .ok (l.contains i) := by
  dsimp only [gIn, inA]
  rw [if_pos ⟨rfl, flat_ints l⟩, any_eqv]; rfl
theorem plain_ints (n : Nat) (l : List Int) : plainA n (l.map PyData.int) = true := by
  rw [plainA_iff]
  intro d hd
  obtain ⟨i, _, rfl⟩ := List.mem_map.mp hd
  cases n <;> rfl
theorem mapint_inj {l m : List Int} : l.map PyData.int = m.map PyData.int ↔ l = m := by
  constructor
  · exact fun h => List.map_inj_right (f := PyData.int) (fun x y => by simp) |>.mp h
  · exact fun h => by rw [h]
@[simp] theorem gEq_lst (l m : List Int) : gEq (.list (l.map PyData.int)) (.list (m.map PyData.int)) = .ok (decide (l = m)) :=
  gEq_of (n := 1) (m := 1) (plain_ints 0 l) (by decide) (plain_ints 0 m) (by decide) (by simp [mapint_inj])
@[simp] theorem gNe_lst (l m : List Int) : gNe (.list (l.map PyData.int)) (.list (m.map PyData.int)) = .ok (!decide (l = m)) :=
  gNe_of (n := 1) (m := 1) (plain_ints 0 l) (by decide) (plain_ints 0 m) (by decide) (by simp [mapint_inj])
@[simp] theorem gEq_tup (l m : List Int) : gEq (.tuple (l.map PyData.int)) (.tuple (m.map PyData.int)) = .ok (decide (l = m)) :=
  gEq_of (n := 1) (m := 1) (plain_ints 0 l) (by decide) (plain_ints 0 m) (by decide) (by simp [mapint_inj])
@[simp] theorem gNe_tup (l m : List Int) : gNe (.tuple (l.map PyData.int)) (.tuple (m.map PyData.int)) = .ok (!decide (l = m)) :=
  gNe_of (n := 1) (m := 1) (plain_ints 0 l) (by decide) (plain_ints 0 m) (by decide) (by simp [mapint_inj])
@[simp] theorem gEq_lst0 (l : List Int) : gEq (.list (l.map PyData.int)) (.list []) = .ok (decide (l = [])) := gEq_lst l []
@[simp] theorem gNe_lst0 (l : List Int) : gNe (.list (l.map PyData.int)) (.list []) = .ok (!decide (l = [])) := gNe_lst l []
@[simp] theorem gEq_00 : gEq (.list []) (.list []) = .ok true := by simpa using gEq_lst [] []
@[simp] theorem gNe_00 : gNe (.list []) (.list []) = .ok false := by simpa using gNe_lst [] []
@[simp] theorem gEq_bool (a b : Bool) : gEq (.bool a) (.bool b) = .ok (a == b) := by
  unfold gEq
  rw [if_pos ⟨rfl, rfl⟩]; simp [PyData.eqv]
@[simp] theorem gNe_bool (a b : Bool) : gNe (.bool a) (.bool b) = .ok (!(a == b)) := by
  unfold gNe
  rw [if_pos ⟨rfl, rfl⟩]; simp [PyData.eqv]

/-! two ways that meet: the choice goes to the leaves -/
section
variable {p : Prop} [Decidable p]
@[simp] theorem pull_nx (a b : Env) : (if p then Fl.nx a else Fl.nx b) = Fl.nx (if p then a else b) := by split <;> rfl
@[simp] theorem pull_ct (a b : Env) : (if p then Fl.ct a else Fl.ct b) = Fl.ct (if p then a else b) := by split <;> rfl
@[simp] theorem pull_cons (a b : Sl) (l m : Env) : (if p then a :: l else b :: m) = (if p then a else b) :: (if p then l else m) := by split <;> rfl
@[simp] theorem pull_val (a b : D) : (if p then Sl.val a else Sl.val b) = Sl.val (if p then a else b) := by split <;> rfl
@[simp] theorem pull_own (a b : List D) : (if p then Sl.own a else Sl.own b) = Sl.own (if p then a else b) := by split <;> rfl
@[simp] theorem pull_int (a b : Int) : (if p then PyData.int a else PyData.int b) = PyData.int (if p then a else b) := by split <;> rfl
@[simp] theorem pull_bool (a b : Bool) : (if p then PyData.bool a else PyData.bool b) = PyData.bool (if p then a else b) := by split <;> rfl
end

/-! ### people -/
/-- born, the parents, who adopted and when, died -/
structure Per where
  born : Int
  par : List Int
  ad : Option (Int × List Int)
  died : Option Int
abbrev Fam := List Per
def intsT (l : List Int) : D := .tuple (l.map .int)
def adD : Option (Int × List Int) → D
  | none => .none
  | some (d, l) => .tuple [.int d, intsT l]
def oiD : Option Int → D
  | none => .none
  | some d => .int d
def perD (p : Per) : D := .tuple [.int p.born, intsT p.par, adD p.ad, oiD p.died]
def famD (f : Fam) : D := .list (f.map perD)
def alive (p : Per) (t : Int) : Bool := decide (p.born ≤ t) && (match p.died with | none => true | some d => decide (t < d))
def parsOn (p : Per) (t : Int) : List Int := match p.ad with
  | some (d, l) => if d ≤ t then l else p.par
  | none => p.par
/-- a child of person i on day t -/
def kid (t i : Int) (p : Per) : Bool := decide (p.born ≤ t) && (parsOn p t).contains i
def kidsOn (f : Fam) (i t : Int) : List Int := (rgI f.length).filter fun c => (f[c.toNat]?).any (kid t i)
@[simp] theorem gIn_T (i : Int) (l : List Int) : gIn (.int i) (intsT l) = .ok (l.contains i) := gIn_tup i l
@[simp] theorem gEq_T (l m : List Int) : gEq (intsT l) (intsT m) = .ok (decide (l = m)) := gEq_tup l m
@[simp] theorem gNe_T (l m : List Int) : gNe (intsT l) (intsT m) = .ok (!decide (l = m)) := gNe_tup l m
@[simp] theorem gSeq_T (l : List Int) : gSeq (intsT l) = .ok (l.map .int) := rfl
@[simp] theorem gLen_T (l : List Int) : gLen (intsT l) = .ok (.int l.length) := by unfold intsT; simp
@[simp] theorem gIx_T (l : List Int) (i : Int) : gIx (intsT l) (.int i) = ofO (L2.atI (l.map PyData.int) i) := rfl
@[simp] theorem isT_T (l : List Int) : isT "tuple" (intsT l) = true := rfl
@[simp] theorem isN_T (l : List Int) : isN (intsT l) = false := rfl
@[simp] theorem isN_ad (o : Option (Int × List Int)) : isN (adD o) = o.isNone := by cases o <;> rfl
@[simp] theorem isN_oi (o : Option Int) : isN (oiD o) = o.isNone := by cases o <;> rfl
@[simp] theorem gIx_per0 (p : Per) : gIx (perD p) (.int 0) = .ok (.int p.born) := by unfold perD; simp
@[simp] theorem gIx_per1 (p : Per) : gIx (perD p) (.int 1) = .ok (intsT p.par) := by unfold perD; simp
@[simp] theorem gIx_per2 (p : Per) : gIx (perD p) (.int 2) = .ok (adD p.ad) := by unfold perD; simp
@[simp] theorem gIx_per3 (p : Per) : gIx (perD p) (.int 3) = .ok (oiD p.died) := by unfold perD; simp
@[simp] theorem gT_per (p : Per) (ts : List D → Env → Option Env) (δ : Env) : gT 4 ts (perD p) δ = ts [.int p.born, intsT p.par, adD p.ad, oiD p.died] δ := rfl
@[simp] theorem gIx_ad0 (d : Int) (l : List Int) : gIx (adD (some (d, l))) (.int 0) = .ok (.int d) := by unfold adD; simp
@[simp] theorem gIx_ad1 (d : Int) (l : List Int) : gIx (adD (some (d, l))) (.int 1) = .ok (intsT l) := by unfold adD; simp
@[simp] theorem oiD_some (d : Int) : oiD (some d) = .int d := rfl
@[simp] theorem oiD_none : oiD none = .none := rfl
@[simp] theorem pull_T {p : Prop} [Decidable p] (a b : List Int) : (if p then intsT a else intsT b) = intsT (if p then a else b) := by split <;> rfl
@[simp] theorem pull_oi {p : Prop} [Decidable p] (a : Int) : (if p then PyData.int a else PyData.none) = oiD (if p then some a else none) := by split <;> rfl
@[simp] theorem gIx_fam (f : Fam) (i : Int) : gIx (famD f) (.int i) = ofO (L2.atI (f.map perD) i) := rfl
@[simp] theorem gLen_fam (f : Fam) : gLen (famD f) = .ok (.int f.length) := by unfold famD; simp
@[simp] theorem gList_fam (f : Fam) : gList (famD f) = .ok (f.map perD) := rfl
theorem fam_at {f : Fam} {j : Int} {p : Per} (h : 0 ≤ j) (e : f[j.toNat]? = some p) : L2.atI (f.map perD) j = some (perD p) := by
  rw [atI_of _ h, List.getElem?_map, e]; rfl
theorem fam_lt {f : Fam} {j : Int} (h : 0 ≤ j) (k : j < f.length) : ∃ p, f[j.toNat]? = some p := ⟨_, List.getElem?_eq_getElem (by omega)⟩
theorem cutL_map {α β : Type} (g : α → β) (xs : List α) (a b : Option Int) : cutL (xs.map g) a b = (cutL xs a b).map g := by
  unfold cutL
  rw [List.length_map, List.map_take, List.map_drop]
theorem mem_cutL {α : Type} {xs : List α} {a b : Option Int} {x : α} (h : x ∈ cutL xs a b) : x ∈ xs := List.mem_of_mem_drop (List.mem_of_mem_take h)
/-- each of l was born ahead of b -/
def Older (bs : List Int) (l : List Int) (b : Int) : Prop := ∀ j ∈ l, 0 ≤ j ∧ ∃ c, bs[j.toNat]? = some c ∧ c < b
theorem Older.app {bs cs l : List Int} {b : Int} (h : Older bs l b) : Older (bs ++ cs) l b := fun j hj => by
  obtain ⟨h0, c, h1, h2⟩ := h j hj
  refine ⟨h0, c, ?_, h2⟩
  rw [List.getElem?_append_left (List.getElem?_eq_some_iff.mp h1).1]; exact h1
theorem Older.sub {bs l m : List Int} {b : Int} (h : Older bs l b) (k : ∀ j ∈ m, j ∈ l) : Older bs m b := fun j hj => h j (k j hj)
structure PerOk (bs : List Int) (p : Per) : Prop where
  par : Older bs p.par p.born
  nd : p.par.Nodup
  len : p.par.length ≤ 2
  ad : ∀ d l, p.ad = some (d, l) → p.born ≤ d ∧ d ≤ p.born + 30 ∧ l ≠ [] ∧ l.Nodup ∧ l.length ≤ 2 ∧ Older bs l p.born ∧ ∀ x, p.died = some x → d < x
  died : ∀ x, p.died = some x → p.born ≤ x ∧ x ≤ 1000000
  b0 : 0 ≤ p.born
  b1 : p.born ≤ 1000000
theorem PerOk.adopt {bs : List Int} {p : Per} (h : PerOk bs p) {d : Int} {l : List Int} (h1 : p.born ≤ d) (h2 : d ≤ p.born + 30) (h3 : l ≠ []) (h4 : l.Nodup) (h5 : l.length ≤ 2) (h6 : Older bs l p.born) (h7 : ∀ x, p.died = some x → d < x) : PerOk bs { p with ad := some (d, l) } :=
  ⟨h.par, h.nd, h.len, fun d' l' e => by cases e; exact ⟨h1, h2, h3, h4, h5, h6, h7⟩, h.died, h.b0, h.b1⟩
theorem PerOk.app {bs cs : List Int} {p : Per} (h : PerOk bs p) : PerOk (bs ++ cs) p := ⟨h.par.app, h.nd, h.len, fun d l e => by
  obtain ⟨h1, h2, h3, h4, h5, h6, h7⟩ := h.ad d l e
  exact ⟨h1, h2, h3, h4, h5, h6.app, h7⟩, h.died, h.b0, h.b1⟩
def FamOk (f : Fam) : Prop := ∀ p ∈ f, PerOk (f.map Per.born) p
theorem plain_intsT (n : Nat) (l : List Int) : plain (n + 1) (intsT l) = true := plain_ints n l
theorem plain_oi (n : Nat) (o : Option Int) : plain n (oiD o) = true := by cases o <;> cases n <;> rfl
theorem plain_ad (n : Nat) (o : Option (Int × List Int)) : plain (n + 2) (adD o) = true := by
  cases o with
  | none => rfl
  | some o => obtain ⟨d, l⟩ := o; simp [adD, plain, plainA, plain_intsT]
theorem plain_per (n : Nat) (p : Per) : plain (n + 3) (perD p) = true := by
  have h1 : plain (n + 2) (intsT p.par) = true := plain_intsT (n + 1) _
  simp [perD, plain, plainA, h1, plain_ad, plain_oi]
theorem plain_fam (f : Fam) : plain 4 (famD f) = true := by
  show plainA 3 (f.map perD) = true
  rw [plainA_iff]
  intro d hd
  obtain ⟨i, _, rfl⟩ := List.mem_map.mp hd
  exact plain_per 0 i
theorem famD_self (f : Fam) : gEq (famD f) (famD f) = .ok true := gEq_true (plain_fam f) (by decide)
end DL
/-! DL8: least, greatest, sorted of data. -/
namespace DL
open PySem PySem.Spec PyProof.Rows L2
/-- data that are asked for their order -/
def ordOk (ds : List D) : Bool := PyData.canLayAll0 ds && decide (PyData.depthAll ds ≤ 60) && ds.all fun x => ds.all fun y => PySem.W.alike x y && !isN x
theorem ordOk_of {ds : List D} (h : ordOk ds = true) : PyData.canLayAll0 ds = true ∧ PyData.depthAll ds ≤ 60 ∧ PySem.W.AlikeAll ds := by
  unfold ordOk at h
  rw [Bool.and_eq_true, Bool.and_eq_true, decide_eq_true_iff, List.all_eq_true] at h
  obtain ⟨⟨h1, h2⟩, h3⟩ := h
  refine ⟨h1, h2, fun x hx y hy => ?_, fun x hx e => ?_⟩
  · have := List.all_eq_true.mp (h3 x hx) y hy
    rw [Bool.and_eq_true] at this
    exact this.1
  · have := List.all_eq_true.mp (h3 x hx) x hx
    rw [Bool.and_eq_true] at this
    subst e
    exact absurd this.2 (by decide)
section
variable {X : Cx} {N : List Str} {sc : Scope} {fn : Str → Bool} {W : WS}
theorem vals_at : ∀ {vs : List V} {us : List Value} {i : Nat} {u : Value}, Vals vs us → us[i]? = some u → ∃ v, vs[i]? = some v ∧ RelV v u
  | _, _, _, _, .nil, h => by cases h
  | _, _, 0, _, .cons r _, h => by cases h; exact ⟨_, rfl, r⟩
  | _, _, i + 1, _, .cons _ t, h => by
    obtain ⟨v, h1, h2⟩ := vals_at (i := i) t (by simpa using h)
    exact ⟨v, by simpa using h1, h2⟩
theorem layAll_at : ∀ {ds : List D} {i : Nat} {d : D}, PyData.canLayAll0 ds = true → ds[i]? = some d → d.canLay0 = true
  | [], _, _, _, h => by cases h
  | e :: ds, 0, d, l, h => by
    have e0 : e = d := by simpa using h
    subst e0
    have : e.canLay0 = true ∧ PyData.canLayAll0 ds = true := by simpa [PyData.canLayAll0] using l
    exact this.1
  | e :: ds, i + 1, d, l, h => by
    have : e.canLay0 = true ∧ PyData.canLayAll0 ds = true := by simpa [PyData.canLayAll0] using l
    exact layAll_at this.2 (by simpa using h)
def rBest (K : PySem.W.Frag) (best : D → List D → D) : List V → Hp → VK → Prop := fun xs H Q => ∃ a vs x ds, xs = [V.ref a] ∧ H a = some (.lst vs) ∧ DpAll K H vs (x :: ds) ∧ ordOk (x :: ds) = true ∧ ∀ (i : Nat) (v : V), vs[i]? = some v → (x :: ds)[i]? = some (best x ds) → Q v H
theorem best_fin {pins : List (Addr × Obj)} {s : Shared} {σ : L2.St} {H : Hp} {vs : List V} {its : List Value} {x b : D} {ds : List D} {as bs : List Addr} {Q : VK} {i : Nat} {v : Value} {h' : Heap} {tk : Nat} (I : Inv X pins σ H s) (rv : Vals vs its) (hr : ReadsAll s.heap its (x :: ds) as) (hl : PyData.canLayAll0 (x :: ds) = true) (hv : its.toArray[i]? = some v) (r : Reads h' v b bs)
    (hk : ∀ b o, s.heap.get? b = some o → h'.get? b = some o) (q : ∀ (i : Nat) (v : V), vs[i]? = some v → (x :: ds)[i]? = some b → Q v H) : EP X pins σ Q v { s with heap := h', toks := tk } := by
  have hv : its[i]? = some v := by simpa using hv
  obtain ⟨w, hw, rw_⟩ := vals_at rv hv
  obtain ⟨cs, rc, hi, _, _⟩ := PySem.W.readsAll_at hr i v hv
  have e : (x :: ds)[i]? = some ((x :: ds).getD i .none) := by rw [List.getD_eq_getElem?_getD, List.getElem?_eq_getElem hi]; rfl
  have := PySem.SeqAt.Reads.unique _ _ _ _ _ (layAll_at hl e) (PySem.W.reads_keeps hk rc) r
  rw [this] at e
  exact ⟨w, H, I.kept hk, rw_, q i w hw e⟩
theorem cr_maxA (hc : X.calm = true) (hu : X.A.units + 65 < cLine) : CallR X (.builtin "max") (rBest X.K PySem.W.maxD) := by
  intro pins s σ H vs us Q I r h
  obtain ⟨a, ws, x, ds, rfl, hs, hd, ho, q⟩ := h
  obtain ⟨h1, h2, h3⟩ := ordOk_of ho
  obtain ⟨its, rv, hl, _⟩ := I.list (SqL.of hs)
  obtain ⟨as, hr⟩ := Dp.readsAll I _ _ _ hd rv
  rw [Vals.ref1 r]
  exact PySem.W.max_list_data (I.ok.hd hc) hl.isList hr h3 (by omega) fun i v h' tk bs hv r hk => best_fin I rv hr h1 hv r hk q
theorem cr_minA (hc : X.calm = true) (hu : X.A.units + 65 < cLine) : CallR X (.builtin "min") (rBest X.K PySem.W.minD) := by
  intro pins s σ H vs us Q I r h
  obtain ⟨a, ws, x, ds, rfl, hs, hd, ho, q⟩ := h
  obtain ⟨h1, h2, h3⟩ := ordOk_of ho
  obtain ⟨its, rv, hl, _⟩ := I.list (SqL.of hs)
  obtain ⟨as, hr⟩ := Dp.readsAll I _ _ _ hd rv
  rw [Vals.ref1 r]
  exact PySem.W.min_list_data (I.ok.hd hc) hl.isList hr h3 (by omega) fun i v h' tk bs hv r hk => best_fin I rv hr h1 hv r hk q
def rMinDf (K : PySem.W.Frag) : List V → List V → Hp → VK → Prop := fun xs zs H Q => ∃ a vs ds z, xs = [V.ref a] ∧ zs = [z] ∧ H a = some (.lst vs) ∧ DpAll K H vs ds ∧ ordOk ds = true ∧ (ds = [] → Q z H) ∧ ∀ y ys (i : Nat) (v : V), ds = y :: ys → vs[i]? = some v → ds[i]? = some (PySem.W.minD y ys) → Q v H
theorem vals_one {z : V} {us : List Value} (h : Vals [z] us) : ∃ u, us = [u] ∧ RelV z u := by
  cases h with
  | cons r t => cases t; exact ⟨_, rfl, r⟩
theorem cr_minDf (hc : X.calm = true) (hu : X.A.units + 65 < cLine) : CallRK X (.builtin "min") [Str.ofString "default"] (rMinDf X.K) := by
  intro pins s σ H xs zs us ws Q I rx rz h
  obtain ⟨a, vs, ds, z, rfl, rfl, hs, hd, ho, q0, q⟩ := h
  obtain ⟨h1, h2, h3⟩ := ordOk_of ho
  obtain ⟨its, rv, hl, _⟩ := I.list (SqL.of hs)
  obtain ⟨as, hr⟩ := Dp.readsAll I _ _ _ hd rv
  obtain ⟨u, rfl, ru⟩ := vals_one rz
  rw [Vals.ref1 rx]
  show wpAny _ _ (call (.builtin "min") [.ref a] [(Str.ofString "default", u)]) _ _ s
  refine PySem.W.min_list_default (I.ok.hd hc) hl.isList hr h3 (by omega) (fun e h' tk hk => ⟨z, H, I.kept hk, ru, q0 e⟩) fun y ys i v h' tk bs e hv r hk => ?_
  subst e
  exact best_fin I rv hr h1 hv r hk fun i v hv he => q y ys i v rfl hv he
def gMax1 : D → Res D
  | .list (x :: ds) => if ordOk (x :: ds) = true then .ok (PySem.W.maxD x ds) else .err
  | _ => .err
def gMin1 : D → Res D
  | .list (x :: ds) => if ordOk (x :: ds) = true then .ok (PySem.W.minD x ds) else .err
  | _ => .err
section
variable {a b : Expr} {fa fb : Env → Res D} {pos : Pos}
theorem PEp.max1 {p : Pos} (c : Ctx X N sc fn) (hm : X.mg "max" = none) (ha : PRp X W a fa) (hg : isGl sc "max" = true := by rfl)
    (he : starEach [a] X.env = (false, eval a X.env) :: starEach [] X.env := by rfl) : PEp X W (.Call (.Name "max" p) [a] [] pos) (un fa gMax1) :=
  PEp.b1 c (cr_maxA c.calm c.u65) (fun σ F H v d Q le r h => by
    unfold gMax1 at h
    split at h
    · rename_i x ds
      split at h
      · rename_i ho
        obtain ⟨l, vs, ex, hs, ra⟩ := r
        refine ⟨l, vs, x, ds, by rw [ex], hs, RpA.dp _ _ (ordOk_of ho).1 (RpA.mono le _ _ ra), ho, fun i w hw e => ?_⟩
        obtain ⟨d, hd, rw_⟩ := ra.at hw
        rw [hd] at e
        cases e
        exact h.ok (Ext.refl le) w rw_
      · exact False.elim h
    · exact False.elim h) hm ha hg (by decide +kernel) (by decide) (by decide) he
theorem PEp.min1 {p : Pos} (c : Ctx X N sc fn) (hm : X.mg "min" = none) (ha : PRp X W a fa) (hg : isGl sc "min" = true := by rfl)
    (he : starEach [a] X.env = (false, eval a X.env) :: starEach [] X.env := by rfl) : PEp X W (.Call (.Name "min" p) [a] [] pos) (un fa gMin1) :=
  PEp.b1 c (cr_minA c.calm c.u65) (fun σ F H v d Q le r h => by
    unfold gMin1 at h
    split at h
    · rename_i x ds
      split at h
      · rename_i ho
        obtain ⟨l, vs, ex, hs, ra⟩ := r
        refine ⟨l, vs, x, ds, by rw [ex], hs, RpA.dp _ _ (ordOk_of ho).1 (RpA.mono le _ _ ra), ho, fun i w hw e => ?_⟩
        obtain ⟨d, hd, rw_⟩ := ra.at hw
        rw [hd] at e
        cases e
        exact h.ok (Ext.refl le) w rw_
      · exact False.elim h
    · exact False.elim h) hm ha hg (by decide +kernel) (by decide) (by decide) he
def bestOr (z : D) : List D → D
  | [] => z
  | y :: ys => PySem.W.minD y ys
def gMinDef : D → D → Res D
  | .list ds, z => if ordOk ds = true then .ok (bestOr z ds) else .err
  | _, _ => .err
def minDefD (fa fb : Env → Res D) : Env → Res D := bin fa fb gMinDef
theorem PEp.minDef {p kpos : Pos} (c : Ctx X N sc fn) (hm : X.mg "min" = none) (ha : PRp X W a fa) (hb : PEp X W b fb) (hg : isGl sc "min" = true := by rfl)
    (he0 : starEach [a] X.env = (false, eval a X.env) :: starEach [] X.env := by rfl)
    (he : backTo pos (starEach [a] X.env) = (false, eval a X.env) :: backTo pos (starEach [] X.env) := by rfl) (hpl : (backTo pos (starEach [a] X.env)).any (·.1) = false := by rfl)
    (hall : (backToKw pos (keywordEach [⟨some "default", b, kpos⟩] X.env)).all (·.1.isSome) = true := by rfl) (hnone : (backToKw pos (keywordEach [⟨some "default", b, kpos⟩] X.env)).any (·.1.isNone) = false := by rfl) (hks : (backToKw pos (keywordEach [⟨some "default", b, kpos⟩] X.env)).filterMap (·.1) = [Str.ofString "default"] := by rfl) :
    PEp X W (.Call (.Name "min" p) [a] [⟨some "default", b, kpos⟩] pos) (minDefD fa fb) := by
  obtain ⟨t, pa, qa⟩ := ha
  obtain ⟨u, pb, qb⟩ := hb
  refine ⟨_, pe_callBK (cr_minDf c.calm c.u65) (c.gl hg) hm (by decide +kernel) (pa_cons pa pa_nil he0) (pk_cons pb pk_nil) (by decide) (by decide) he hpl hall hnone hks, fun C F δ σ H Q s h => ?_⟩
  refine qa C F δ σ H _ s (h.bind.mono fun d F1 H1 x1 h1 v rv => ?_)
  refine qb C F1 δ σ H1 _ (s.ext x1) (h1.bind.mono fun e F2 H2 x2 h2 z rz => ?_)
  have rv := rv.ext x2.ff x2.hh
  cases d with
  | list ds =>
    have h2 : Gd W σ F2 H2 (if ordOk ds = true then .ok (bestOr e ds) else .err) _ := h2
    split at h2
    · rename_i ho
      obtain ⟨l, vs, ex, hs, ra⟩ := rv
      refine ⟨l, vs, ds, z, by rw [ex], rfl, hs, RpA.dp _ _ (ordOk_of ho).1 (RpA.mono x2.le _ _ ra), ho, fun e0 => ?_, fun y ys i w e0 hw he => ?_⟩
      · subst e0; exact h2.ok (Ext.refl x2.le) z rz
      · subst e0
        obtain ⟨d, hd, rw_⟩ := ra.at hw
        rw [hd] at he
        cases he
        exact h2.ok (Ext.refl x2.le) w rw_
    · exact False.elim h2
  | _ => exact False.elim h2
end
end
end DL
/-! DL9: plain facts of the drawn people. -/
namespace DL
open PySem PySem.Spec PyProof.Rows L2
/-- of those asked so far -/
def kidsTo (f : Fam) (i t : Int) (k : Nat) : List Int := (rgI k).filter fun c => (f[c.toNat]?).any (kid t i)
theorem rgI_succ (k : Nat) : rgI (k + 1) = rgI k ++ [(k : Int)] := by
  unfold rgI
  rw [List.range_succ, List.map_append]; rfl
theorem kidsTo_len (f : Fam) (i t : Int) (k : Nat) : (kidsTo f i t k).length ≤ k := by
  have := List.length_filter_le (fun c : Int => (f[c.toNat]?).any (kid t i)) (rgI k)
  rw [rgI_len] at this; exact this
theorem kidsTo_succ {f : Fam} {i t : Int} {k : Nat} {p : Per} (h : f[k]? = some p) : kidsTo f i t (k + 1) = kidsTo f i t k ++ (if kid t i p = true then [(k : Int)] else []) := by
  unfold kidsTo
  rw [rgI_succ, List.filter_append]
  simp [List.filter_cons, h]
theorem parsOn_len {bs : List Int} {p : Per} (h : PerOk bs p) (t : Int) : (parsOn p t).length ≤ 2 := by
  unfold parsOn
  split
  · rename_i d l e
    split
    · exact (h.ad d l e).2.2.2.2.1
    · exact h.len
  · exact h.len
theorem kidsOn_len (f : Fam) (i t : Int) : (kidsOn f i t).length ≤ f.length := kidsTo_len f i t f.length
theorem lg {j : Int} {k : Nat} (h : j.natAbs < 2 ^ k) (hk : 0 < k) : j.natAbs.log2 < k := by
  by_cases h0 : j.natAbs = 0
  · rw [h0]; simpa using hk
  · exact (Nat.log2_lt h0).mpr h
theorem mul_sm {i j : Int} (h : i.natAbs < 2 ^ 200) (k : j.natAbs < 2 ^ 200) : i2 gMul (.int i) (.int j) = .ok (.int (i * j)) := by
  have h1 := lg h (by decide)
  have h2 := lg k (by decide)
  exact i2_mul (by unfold BIGm; omega)
theorem div_sm {i j : Int} (h : 0 < j) (k : j < 1000000000000) : i2 gDiv (.int i) (.int j) = .ok (.int (i / j)) :=
  i2_div h (Nat.lt_trans (lg (k := 200) (by omega) (by decide)) (by decide))
/-- numbers of the stream -/
def strmOk (xs : List Int) : Prop := ∀ x ∈ xs, 0 ≤ x ∧ x < 2147483647
theorem mem_at {el : List Int} {i : Int} (h : el ≠ []) (h0 : 0 ≤ i) (h1 : i < el.length) : ∃ j ∈ el, L2.atI (el.map PyData.int) i = some (.int j) := by
  have hk : i.toNat < el.length := by omega
  exact ⟨el[i.toNat], List.getElem_mem hk, by rw [atI_of _ h0, List.getElem?_map, List.getElem?_eq_getElem hk]; rfl⟩
def houseL : List (List Int) := [[], [], [1, 0], [1, 0], [2], [3], [], [5], [3], [1], [], [2]]
theorem house_at {k : Nat} (h : k < 12) : ∃ l, houseL[k]? = some l ∧ (∀ j ∈ l, 0 ≤ j ∧ j.toNat / 2 < k / 2 ∧ j.toNat < k) ∧ l.Nodup ∧ l.length ≤ 2 := by
  have : ∀ k : Nat, k < 12 → ((∀ j ∈ houseL.getD k [], 0 ≤ j ∧ j.toNat / 2 < k / 2 ∧ j.toNat < k) ∧ (houseL.getD k []).Nodup ∧ (houseL.getD k []).length ≤ 2) := by decide
  obtain ⟨h1, h2, h3⟩ := this k h
  refine ⟨houseL.getD k [], ?_, h1, h2, h3⟩
  have hl : k < houseL.length := h
  rw [List.getD_eq_getElem?_getD, List.getElem?_eq_getElem hl]; rfl
/-- those of the first k born ahead of b -/
def eldersOf (f : Fam) (k : Nat) (b : Int) : List Int := (rgI k).filter fun j => (f[j.toNat]?).any fun p => decide (p.born < b)
theorem elders_old {f : Fam} {k : Nat} {b : Int} : Older (f.map Per.born) (eldersOf f k b) b := fun j hj => by
  obtain ⟨h1, h2⟩ := List.mem_filter.mp hj
  refine ⟨(mem_rgI.mp h1).1, ?_⟩
  cases e : f[j.toNat]? with
  | none => rw [e] at h2; cases h2
  | some p => rw [e] at h2; exact ⟨p.born, by rw [List.getElem?_map, e]; rfl, of_decide_eq_true h2⟩
/-- what the loop of the people has made: i people; sc the scale, ho: of one house -/
structure PplI (sc : Int) (ho : Bool) (i : Nat) (f : Fam) : Prop where
  len : f.length = i
  ok : FamOk f
  noad : ∀ p ∈ f, p.ad = none
  house : ho = true → ∀ (j : Nat) (p : Per), f[j]? = some p → j < 12 → 12 * (j / 2 : Nat) * sc ≤ p.born ∧ p.born ≤ (12 * (j / 2 : Nat) + 10) * sc
theorem PplI.snoc {sc : Int} {ho : Bool} {i : Nat} {f : Fam} {p : Per} (h : PplI sc ho i f) (hp : PerOk (f.map Per.born) p) (ha : p.ad = none) (hh : ho = true → i < 12 → 12 * (i / 2 : Nat) * sc ≤ p.born ∧ p.born ≤ (12 * (i / 2 : Nat) + 10) * sc) : PplI sc ho (i + 1) (f ++ [p]) := by
  refine ⟨by simp [h.len], fun q hq => ?_, fun q hq => ?_, fun ht j q hj hl => ?_⟩
  · rw [List.map_append]
    rcases List.mem_append.mp hq with z | z
    · exact (h.ok q z).app
    · rw [List.mem_singleton] at z; subst z; exact hp.app
  · rcases List.mem_append.mp hq with z | z
    · exact h.noad q z
    · rw [List.mem_singleton] at z; subst z; exact ha
  · by_cases hji : j < i
    · rw [List.getElem?_append_left (by rw [h.len]; exact hji)] at hj
      exact h.house ht j q hj hl
    · have : j = i := by
        have := (List.getElem?_eq_some_iff.mp hj).1
        rw [List.length_append, List.length_singleton, h.len] at this
        omega
      subst this
      rw [List.getElem?_append_right (by rw [h.len]; omega), h.len, Nat.sub_self] at hj
      cases hj
      exact hh ht hl
theorem szL_house : szL (houseL.map intsT) = .ok (houseL.map intsT) := szL_ok (by decide)
/-- all of them born ahead of b -/
theorem elders_all (f : Fam) (b : Int) : Older (f.map Per.born) (eldersOf f f.length b) b := elders_old
/-! order of data -/
theorem itemLt_inl (a b : Int) : itemLt (Sum.inl a) (Sum.inl b) = decide (a < b) := rfl
theorem dataLt_int (a b : Int) : PySem.W.dataLt (.int a) (.int b) = decide (a < b) := by
  unfold PySem.W.dataLt
  simp [PySem.W.keyToks, PyProof.Rows.lexLt, itemLt_inl]
theorem dataLt_pair (a b c d : Int) : PySem.W.dataLt (.tuple [.int a, .int b]) (.tuple [.int c, .int d]) = decide (a < c ∨ (a = c ∧ b < d)) := by
  unfold PySem.W.dataLt
  simp [PySem.W.keyToks, PySem.W.keyToksAll, PyProof.Rows.lexLt, itemLt_inl]
  rw [Bool.eq_iff_iff]
  simp
  omega
theorem ordOk_ints (ns : List Int) : ordOk (ns.map PyData.int) = true := by
  unfold ordOk
  have h := plainA_lay 0 (ns.map PyData.int) (plain_ints 0 ns)
  rw [h.1, decide_eq_true (by omega), Bool.true_and, Bool.true_and]
  refine List.all_eq_true.mpr fun x hx => List.all_eq_true.mpr fun y hy => ?_
  obtain ⟨i, _, rfl⟩ := List.mem_map.mp hx
  obtain ⟨j, _, rfl⟩ := List.mem_map.mp hy
  have : PySem.W.alike (.int i) (.int j) = true := by simp only [PySem.W.alike]
  rw [this]; rfl
theorem bestOr_ints (z : Int) (ns : List Int) : ∃ m, bestOr (.int z) (ns.map PyData.int) = .int m := by
  cases ns with
  | nil => exact ⟨z, rfl⟩
  | cons n ns => exact ⟨ns.foldl min n, PySem.W.minD_ints n ns⟩
@[simp] theorem minDefD_ev (fa fb : Env → Res D) (δ : Env) : minDefD fa fb δ = (fa δ).bind fun x => (fb δ).bind fun y => gMinDef x y := rfl
theorem gMinDef_ints (z : Int) (ns : List Int) : ∃ m, gMinDef (.list (ns.map PyData.int)) (.int z) = .ok (.int m) := by
  obtain ⟨m, h⟩ := bestOr_ints z ns
  refine ⟨m, ?_⟩
  show (if ordOk (ns.map PyData.int) = true then Res.ok (bestOr (.int z) (ns.map PyData.int)) else .err) = _
  rw [if_pos (ordOk_ints ns), h]
/-! marriages, wills, rolls -/
abbrev Wed := Int × Int × Int
def weD (w : Wed) : D := .tuple [.int w.1, .int w.2.1, .int w.2.2]
def paD (a b : Int) : D := .tuple [.int a, .int b]
abbrev Gif := Int × Int × Int
def giD (g : Gif) : D := .tuple [.int g.1, paD g.2.1 g.2.2]
abbrev Wil := Int × Int × List Gif
def wiD (w : Wil) : D := .tuple [.int w.1, .int w.2.1, .tuple (w.2.2.map giD)]
def rollD (f : Fam) (ws : List Wed) (ls : List Wil) : D := .tuple [famD f, .list (ws.map weD), .list (ls.map wiD)]
@[simp] theorem gIx_we0 (w : Wed) : gIx (weD w) (.int 0) = .ok (.int w.1) := by unfold weD; simp
@[simp] theorem gIx_we1 (w : Wed) : gIx (weD w) (.int 1) = .ok (.int w.2.1) := by unfold weD; simp
@[simp] theorem gIx_we2 (w : Wed) : gIx (weD w) (.int 2) = .ok (.int w.2.2) := by unfold weD; simp
@[simp] theorem gT_we (w : Wed) (ts : List D → Env → Option Env) (δ : Env) : gT 3 ts (weD w) δ = ts [.int w.1, .int w.2.1, .int w.2.2] δ := rfl
@[simp] theorem gTup_we (w : Wed) : gTup (weD w) = .ok [.int w.1, .int w.2.1, .int w.2.2] := rfl
@[simp] theorem gIx_gi0 (g : Gif) : gIx (giD g) (.int 0) = .ok (.int g.1) := by unfold giD; simp
@[simp] theorem gIx_gi1 (g : Gif) : gIx (giD g) (.int 1) = .ok (paD g.2.1 g.2.2) := by unfold giD; simp
@[simp] theorem gIx_pa0 (a b : Int) : gIx (paD a b) (.int 0) = .ok (.int a) := by unfold paD; simp
@[simp] theorem gIx_pa1 (a b : Int) : gIx (paD a b) (.int 1) = .ok (.int b) := by unfold paD; simp
@[simp] theorem gT_gi (g : Gif) (ts : List D → Env → Option Env) (δ : Env) : gT 2 ts (giD g) δ = ts [.int g.1, paD g.2.1 g.2.2] δ := rfl
@[simp] theorem gIx_wi0 (w : Wil) : gIx (wiD w) (.int 0) = .ok (.int w.1) := by unfold wiD; simp
@[simp] theorem gIx_wi1 (w : Wil) : gIx (wiD w) (.int 1) = .ok (.int w.2.1) := by unfold wiD; simp
@[simp] theorem gIx_wi2 (w : Wil) : gIx (wiD w) (.int 2) = .ok (.tuple (w.2.2.map giD)) := by unfold wiD; simp
@[simp] theorem gT_wi (w : Wil) (ts : List D → Env → Option Env) (δ : Env) : gT 3 ts (wiD w) δ = ts [.int w.1, .int w.2.1, .tuple (w.2.2.map giD)] δ := rfl
@[simp] theorem gIx_ro0 (f : Fam) (ws : List Wed) (ls : List Wil) : gIx (rollD f ws ls) (.int 0) = .ok (famD f) := by unfold rollD; simp
@[simp] theorem gIx_ro1 (f : Fam) (ws : List Wed) (ls : List Wil) : gIx (rollD f ws ls) (.int 1) = .ok (.list (ws.map weD)) := by unfold rollD; simp
@[simp] theorem gIx_ro2 (f : Fam) (ws : List Wed) (ls : List Wil) : gIx (rollD f ws ls) (.int 2) = .ok (.list (ls.map wiD)) := by unfold rollD; simp
@[simp] theorem gT_ro (f : Fam) (ws : List Wed) (ls : List Wil) (ts : List D → Env → Option Env) (δ : Env) : gT 3 ts (rollD f ws ls) δ = ts [famD f, .list (ws.map weD), .list (ls.map wiD)] δ := rfl
@[simp] theorem gSeq_fam (f : Fam) : gSeq (famD f) = .ok (f.map perD) := rfl
@[simp] theorem cut2of3 (a b c : D) : cutL [a, b, c] none (some 2) = [a, b] := rfl
@[simp] theorem gIn_pair (i a b : Int) : gIn (.int i) (.tuple [.int a, .int b]) = .ok (decide (i = a ∨ i = b)) := by
  have := gIn_tup i [a, b]
  rw [show ([a, b] : List Int).map PyData.int = [.int a, .int b] from rfl] at this
  rw [this]
  congr 1
  rw [Bool.eq_iff_iff]; simp
theorem plain_gi (n : Nat) (g : Gif) : plain (n + 2) (giD g) = true := by simp [giD, paD, plain, plainA]
theorem plain_we (n : Nat) (w : Wed) : plain (n + 1) (weD w) = true := by simp [weD, plain, plainA]
theorem plain_gis (n : Nat) (gs : List Gif) : plain (n + 3) (.tuple (gs.map giD)) = true := by
  show plainA (n + 2) (gs.map giD) = true
  rw [plainA_iff]
  intro d hd
  obtain ⟨g, _, rfl⟩ := List.mem_map.mp hd
  exact plain_gi n g
theorem plain_wi (n : Nat) (w : Wil) : plain (n + 4) (wiD w) = true := by
  simp [wiD, plain, plainA]
  exact plain_gis n w.2.2
theorem plain_roll (f : Fam) (ws : List Wed) (ls : List Wil) : plain 6 (rollD f ws ls) = true := by
  have h1 : plain 5 (famD f) = true := by
    show plainA 4 (f.map perD) = true
    rw [plainA_iff]
    intro d hd
    obtain ⟨i, _, rfl⟩ := List.mem_map.mp hd
    exact plain_per 1 i
  have h2 : plain 5 (.list (ws.map weD)) = true := by
    show plainA 4 (ws.map weD) = true
    rw [plainA_iff]
    intro d hd
    obtain ⟨i, _, rfl⟩ := List.mem_map.mp hd
    exact plain_we 3 i
  have h3 : plain 5 (.list (ls.map wiD)) = true := by
    show plainA 4 (ls.map wiD) = true
    rw [plainA_iff]
    intro d hd
    obtain ⟨i, _, rfl⟩ := List.mem_map.mp hd
    exact plain_wi 0 i
  show plainA 5 _ = true
  simp [plainA, h1, h2, h3]
theorem roll_self (f : Fam) (ws : List Wed) (ls : List Wil) : gNe (rollD f ws ls) (rollD f ws ls) = .ok false := by
  have := gNe_of (p := True) (plain_roll f ws ls) (by decide) (plain_roll f ws ls) (by decide) (by simp)
  simpa using this
/-! the greatest common divisor by rests -/
theorem gcd_step (a b : Int) : Int.gcd a b = Int.gcd b (a % b) := by
  rw [Int.gcd_comm b, Int.emod_def, Int.gcd_sub_mul_left_left]
/-- the pair in lowest terms -/
def low (a b : Int) : D := paD (a / Int.gcd a b) (b / Int.gcd a b)
theorem gcd_lg {a b : Int} (h : 0 < b) (hb : b < 2 ^ 200) : 0 < ((Int.gcd a b : Nat) : Int) ∧ ((Int.gcd a b : Nat) : Int).natAbs.log2 < 9000 := by
  have h1 : 0 < Int.gcd a b := Int.gcd_pos_of_ne_zero_right a (by omega)
  have h2 : Int.gcd a b ≤ b.natAbs := Int.gcd_le_natAbs_right a (by omega)
  refine ⟨by omega, Nat.lt_trans (lg (k := 200) ?_ (by decide)) (by decide)⟩
  have : (2 : Int) ^ 200 = ((2 ^ 200 : Nat) : Int) := by norm_cast
  rw [this] at hb
  omega
/-! loops that may end by a return -/
theorem fgE_get (is : List Nat) : ∀ (δ : Env) (i : Nat), (fgE is δ)[i]? = if i ∈ is ∧ i < δ.length then some .no else δ[i]? := by
  induction is with
  | nil => intro δ i; simp
  | cons j is ih =>
    intro δ i
    rw [fgE_cons, ih, List.length_set]
    by_cases h1 : i ∈ is ∧ i < δ.length
    · rw [if_pos h1, if_pos ⟨List.mem_cons_of_mem _ h1.1, h1.2⟩]
    · rw [if_neg h1]
      by_cases h2 : i = j
      · subst h2
        by_cases h3 : i < δ.length
        · rw [List.getElem?_set_self h3, if_pos ⟨List.mem_cons_self, h3⟩]
        · rw [if_neg (fun z => h3 z.2), List.getElem?_eq_none (by rw [List.length_set]; omega), List.getElem?_eq_none (by omega)]
      · rw [List.getElem?_set_ne (fun z => h2 z.symm), if_neg]
        intro z
        rcases List.mem_cons.mp z.1 with z1 | z1
        · exact h2 z1
        · exact h1 ⟨z1, z.2⟩
theorem fgE_len (is : List Nat) : ∀ δ : Env, (fgE is δ).length = δ.length := by
  induction is with
  | nil => intro δ; rfl
  | cons j is ih => intro δ; rw [fgE_cons, ih, List.length_set]
theorem fgE_fgE (is : List Nat) (δ : Env) : fgE is (fgE is δ) = fgE is δ := by
  apply List.ext_getElem?
  intro i
  rw [fgE_get, fgE_get, fgE_len]
  split <;> rfl
theorem loopL_fg {is : List Nat} {g : D → Env → Option Env} {fb : Env → Fl} (ds : List D) (δ : Env) : loopL is g fb ds (fgE is δ) = loopL is g fb ds δ := by
  cases ds with
  | nil => show Fl.nx _ = Fl.nx _; rw [fgE_fgE]
  | cons d ds => unfold loopL; rw [fgE_fgE]
theorem loopL_nx {is : List Nat} {g : D → Env → Option Env} {fb : Env → Fl} {d : D} {ds : List D} {δ δ' : Env} (h : turnE is g fb d (fgE is δ) = .nx δ') : loopL is g fb (d :: ds) δ = loopL is g fb ds δ' := by
  unfold turnE at h
  cases hg : g d (fgE is δ) with
  | none => rw [hg] at h; cases h
  | some δ1 =>
    rw [hg] at h
    have h : fgF is (fb δ1) = .nx δ' := h
    cases hf : fb δ1 with
    | nx δ2 => rw [hf] at h; rw [loopL]; simp only [hg, hf]; rw [← Fl.nx.inj h, loopL_fg]
    | ct δ2 => rw [hf] at h; rw [loopL]; simp only [hg, hf]; rw [← Fl.nx.inj h, loopL_fg]
    | _ => rw [hf] at h; cases h
theorem loopL_rt {is : List Nat} {g : D → Env → Option Env} {fb : Env → Fl} {d e : D} {ds : List D} {δ : Env} (h : turnE is g fb d (fgE is δ) = .rt e) : loopL is g fb (d :: ds) δ = .rt e := by
  unfold turnE at h
  cases hg : g d (fgE is δ) with
  | none => rw [hg] at h; cases h
  | some δ1 =>
    rw [hg] at h
    have h : fgF is (fb δ1) = .rt e := h
    cases hf : fb δ1 with
    | rt d => rw [hf] at h; rw [loopL]; simp only [hg, hf]; exact h
    | nx δ2 => rw [hf] at h; cases h
    | ct δ2 => rw [hf] at h; cases h
    | _ => rw [hf] at h; cases h
@[simp] theorem fgF_rt (is : List Nat) (d : D) : fgF is (.rt d) = .rt d := rfl
end DL
namespace K07
open PySem PySem.Spec PyProof.Rows L2 DL
def topS (i : Nat) : Stmt := PySem.Challenge.pw_estateroll_k07_spouses_and_wills.main.body.getD i (.Pass ⟨0, 0, 0, 0⟩)
/-! _law_stream -/
abbrev s__law_stream : Stmt := topS 8
abbrev N__law_stream : List Str := ["_law_cell", "_law_many", "_law_found", "_law_number", "_law_k"]
theorem sc__law_stream : FnScope N__law_stream ["_law_cell", "_law_many"] (defScope s__law_stream) := ⟨rfl, rfl, rfl, by decide +kernel, rfl, by decide +kernel, by decide +kernel⟩
def B__law_stream_0 : DL.Env → Fl :=
  (seqS (setS 3 (modD (addD (addD (mulD (rD 3) (cD (.int 48271))) (cD (.int 11))) (rD 4)) (cD (.int 2147483647)))) (appS 2 (vD 3)))
def S__law_stream : DL.Env → Fl :=
  (seqS (setF 2 (lstF nilA)) (seqS (setS 3 (modD (rD 0) (cD (.int 2147483647)))) (seqS (forS [4] (rngI (rD 1)) (gN 4) B__law_stream_0) (retV 2))))
def F__law_stream : List D → Res (List D) := runF S__law_stream 5
/-! _law_some -/
abbrev s__law_some : Stmt := topS 9
abbrev N__law_some : List Str := ["_law_elders", "_law_y", "_law_fewest", "_law_one", "_law_other"]
theorem sc__law_some : FnScope N__law_some ["_law_elders", "_law_y", "_law_fewest"] (defScope s__law_some) := ⟨rfl, rfl, rfl, by decide +kernel, rfl, by decide +kernel, by decide +kernel⟩
def S__law_some : DL.Env → Fl :=
  (seqS (ifS (orB (eqB (rD 0) (valF (lstF nilA))) (andB (eqB (rD 2) (cD (.int 0))) (eqB (modD (divD (rD 1) (cD (.int 7))) (cD (.int 5))) (cD (.int 0)))))
      (retS (tupD nilA))
      nxS) (seqS (setS 3 (ixD (rD 0) (modD (rD 1) (lenD (rD 0))))) (seqS (setS 4 (ixD (rD 0) (modD (divD (rD 1) (cD (.int 60))) (lenD (rD 0))))) (seqS (ifS (orB (eqB (rD 3) (rD 4)) (eqB (modD (divD (rD 1) (cD (.int 3))) (cD (.int 4))) (cD (.int 0))))
      (retS (tupD (consA (vD 3) nilA)))
      nxS) (retS (tupD (consA (vD 3) (consA (vD 4) nilA))))))))
def F__law_some : List D → Res D := runD S__law_some 5
/-! _law_adopting -/
abbrev s__law_adopting : Stmt := topS 11
abbrev N__law_adopting : List Str := ["_law_people_here", "_law_cell", "_law_found", "_law_k", "_law_x", "_law_born", "_law_parents_here", "_law_adopted", "_law_died", "_law_elders", "_law_day", "_law_j"]
theorem sc__law_adopting : FnScope N__law_adopting ["_law_people_here", "_law_cell"] (defScope s__law_adopting) := ⟨rfl, rfl, rfl, by decide +kernel, rfl, by decide +kernel, by decide +kernel⟩
def B__law_adopting_0 : DL.Env → Fl :=
  (seqS (asgS (gT 4 (gCons (gN 5) (gCons (gN 6) (gCons (gN 7) (gCons (gN 8) gNil))))) (ixD (rD 0) (rD 3))) (seqS (seqS (setF 9 (compF [11] (rngI (lenD (rD 0))) (gN 11) (ltB (ixD (ixD (rD 0) (rD 11)) (cD (.int 0))) (rD 5)) (vD 11))) (frzN 9)) (seqS (setS 10 (addD (rD 5) (modD (rD 4) (cD (.int 30))))) (ifS (andB (eqB (modD (divD (rD 4) (cD (.int 30))) (cD (.int 4))) (cD (.int 0))) (andB (neB (rD 9) (valF (lstF nilA))) (orB (isNB (rD 8)) (ltB (rD 10) (rD 8)))))
      (setIS 2 (rD 3) (tupD (consA (vD 5) (consA (vD 6) (consA (tupD (consA (vD 10) (consA (callD 3 F__law_some (consA (vD 9) (consA (divD (rD 4) (cD (.int 120))) (consA (cD (.int 1)) nilA)))) nilA))) (consA (vD 8) nilA))))))
      nxS))))
def S__law_adopting : DL.Env → Fl :=
  (seqS (setF 2 (listF (rD 0))) (seqS (forS [3, 4, 5, 6, 7, 8, 9, 10] (enI (valF (callF 2 F__law_stream (consA (vD 1) (consA (lenD (rD 0)) nilA))))) (gT 2 (gCons (gN 3) (gCons (gN 4) gNil))) B__law_adopting_0) (retV 2)))
def F__law_adopting : List D → Res (List D) := runF S__law_adopting 12
/-! _law_lives -/
abbrev s__law_lives : Stmt := topS 12
abbrev N__law_lives : List Str := ["_law_people_here", "_law_person", "_law_day"]
theorem sc__law_lives : FnScope N__law_lives ["_law_people_here", "_law_person", "_law_day"] (defScope s__law_lives) := ⟨rfl, rfl, rfl, by decide +kernel, rfl, by decide +kernel, by decide +kernel⟩
def S__law_lives : DL.Env → Fl :=
  (seqS (ifS (ltB (rD 2) (ixD (ixD (rD 0) (rD 1)) (cD (.int 0))))
      (retS (cD (.bool false)))
      nxS) (retS (valB (orB (isNB (ixD (ixD (rD 0) (rD 1)) (cD (.int 3)))) (gtB (ixD (ixD (rD 0) (rD 1)) (cD (.int 3))) (rD 2))))))
def F__law_lives : List D → Res D := runD S__law_lives 3
/-! _law_ends -/
abbrev s__law_ends : Stmt := topS 16
abbrev N__law_ends : List Str := ["_law_people_here", "_law_marriage", "_law_ends_here", "_law_one"]
theorem sc__law_ends : FnScope N__law_ends ["_law_people_here", "_law_marriage"] (defScope s__law_ends) := ⟨rfl, rfl, rfl, by decide +kernel, rfl, by decide +kernel, by decide +kernel⟩
def S__law_ends : DL.Env → Fl :=
  (seqS (seqS (setF 2 (compF [3] (seqI (slT (rD 1) noO (someO (cD (.int 2))))) (gN 3) (notNB (ixD (ixD (rD 0) (rD 3)) (cD (.int 3)))) (ixD (ixD (rD 0) (rD 3)) (cD (.int 3))))) (frzN 2)) (retS (minDefD (rD 2) (powD (cD (.int 10)) (cD (.int 9))))))
def F__law_ends : List D → Res D := runD S__law_ends 4
/-! _law_meets -/
abbrev s__law_meets : Stmt := topS 17
abbrev N__law_meets : List Str := ["_law_people_here", "_law_one", "_law_other"]
theorem sc__law_meets : FnScope N__law_meets ["_law_people_here", "_law_one", "_law_other"] (defScope s__law_meets) := ⟨rfl, rfl, rfl, by decide +kernel, rfl, by decide +kernel, by decide +kernel⟩
def S__law_meets : DL.Env → Fl :=
  (retS (valB (andB (gtB (callD 2 F__law_ends (consA (vD 0) (consA (vD 1) nilA))) (ixD (rD 2) (cD (.int 2)))) (gtB (callD 2 F__law_ends (consA (vD 0) (consA (vD 2) nilA))) (ixD (rD 1) (cD (.int 2)))))))
def F__law_meets : List D → Res D := runD S__law_meets 3
/-! _law_weddings -/
abbrev s__law_weddings : Stmt := topS 18
abbrev N__law_weddings : List Str := ["_law_people_here", "_law_cell", "_law_many", "_law_found", "_law_x", "_law_one", "_law_other", "_law_day", "_law_new", "_law_fits", "_law_marriage"]
theorem sc__law_weddings : FnScope N__law_weddings ["_law_people_here", "_law_cell", "_law_many"] (defScope s__law_weddings) := ⟨rfl, rfl, rfl, by decide +kernel, rfl, by decide +kernel, by decide +kernel⟩
def B__law_weddings_0 : DL.Env → Fl :=
  (ifS (orB (inB (rD 5) (slT (rD 10) noO (someO (cD (.int 2))))) (inB (rD 6) (slT (rD 10) noO (someO (cD (.int 2))))))
      (setS 9 (valB (andB (un (rD 9) asB) (notB (un (callD 3 F__law_meets (consA (vD 0) (consA (vD 8) (consA (vD 10) nilA)))) asB)))))
      nxS)
def B__law_weddings_1 : DL.Env → Fl :=
  (seqS (setS 5 (modD (rD 4) (lenD (rD 0)))) (seqS (setS 6 (modD (divD (rD 4) (cD (.int 60))) (lenD (rD 0)))) (seqS (setS 7 (addD (bin (ixD (ixD (rD 0) (rD 5)) (cD (.int 0))) (ixD (ixD (rD 0) (rD 6)) (cD (.int 0))) gMax) (modD (divD (rD 4) (cD (.int 3600))) (cD (.int 40))))) (seqS (setS 8 (tupD (consA (vD 5) (consA (vD 6) (consA (vD 7) nilA))))) (seqS (setS 9 (valB (andB (neB (rD 5) (rD 6)) (andB (un (callD 3 F__law_lives (consA (vD 0) (consA (vD 5) (consA (vD 7) nilA)))) asB) (un (callD 3 F__law_lives (consA (vD 0) (consA (vD 6) (consA (vD 7) nilA)))) asB))))) (seqS (forO [10] 3 (gN 10) B__law_weddings_0) (ifS (un (rD 9) asB)
      (appS 3 (vD 8))
      nxS)))))))
def S__law_weddings : DL.Env → Fl :=
  (seqS (setF 3 (lstF nilA)) (seqS (forS [4, 5, 6, 7, 8, 9, 10] (seqI (valF (callF 2 F__law_stream (consA (vD 1) (consA (vD 2) nilA))))) (gN 4) B__law_weddings_1) (retV 3)))
def F__law_weddings : List D → Res (List D) := runF S__law_weddings 11
/-! _law_gifts -/
abbrev s__law_gifts : Stmt := topS 21
abbrev N__law_gifts : List Str := ["_law_people_here", "_law_person", "_law_x", "_law_named", "_law_k", "_law_one", "_law_over", "_law_more"]
theorem sc__law_gifts : FnScope N__law_gifts ["_law_people_here", "_law_person", "_law_x"] (defScope s__law_gifts) := ⟨rfl, rfl, rfl, by decide +kernel, rfl, by decide +kernel, by decide +kernel⟩
def B__law_gifts_0 : DL.Env → Fl :=
  (seqS (setS 5 (modD (addD (divD (rD 2) (cD (.int 90))) (mulD (rD 4) (addD (cD (.int 1)) (modD (divD (rD 2) (cD (.int 540))) (cD (.int 7)))))) (lenD (rD 0)))) (ifS (andB (neB (rD 5) (rD 1)) (ninB (rD 5) (rD 3)))
      (appS 3 (vD 5))
      nxS))
def S__law_gifts : DL.Env → Fl :=
  (seqS (setF 3 (lstF nilA)) (seqS (forS [4, 5] (rngI (addD (cD (.int 1)) (modD (rD 2) (ixD (valF (lstF (consA (cD (.int 3)) (consA (cD (.int 3)) (consA (cD (.int 10)) nilA))))) (modD (divD (rD 2) (cD (.int 30))) (cD (.int 3))))))) (gN 4) B__law_gifts_0) (frzT 3 (seqS (setS 6 (addD (cD (.int 1)) (modD (divD (rD 2) (cD (.int 3780))) (cD (.int 3))))) (seqS (setS 7 (ixD (valF (lstF (consA (modD (divD (rD 2) (cD (.int 11340))) (cD (.int 4))) (consA (modD (divD (rD 2) (cD (.int 11340))) (cD (.int 900))) nilA)))) (modD (divD (rD 2) (cD (.int 7))) (cD (.int 2))))) (retF (compF [5] (seqI (rD 3)) (gN 5) yesB (tupD (consA (vD 5) (consA (vD 6) (consA (addD (mulD (rD 6) (lenD (rD 3))) (rD 7)) nilA)))))))))))
def F__law_gifts : List D → Res (List D) := runF S__law_gifts 8
/-! _law_lowest -/
abbrev s__law_lowest : Stmt := topS 19
abbrev N__law_lowest : List Str := ["_law_over", "_law_under", "_law_a", "_law_b", "_law_c"]
theorem sc__law_lowest : FnScope N__law_lowest ["_law_over", "_law_under"] (defScope s__law_lowest) := ⟨rfl, rfl, rfl, by decide +kernel, rfl, by decide +kernel, by decide +kernel⟩
def mu__law_lowest_0 : DL.Env → Nat := fun δ => (slI 3 δ).toNat + 1
def B__law_lowest_0 : DL.Env → Fl :=
  (seqS (setS 4 (modD (rD 2) (rD 3))) (seqS (setS 2 (vD 3)) (setS 3 (vD 4))))
def S__law_lowest : DL.Env → Fl :=
  (seqS (setS 2 (vD 0)) (seqS (setS 3 (vD 1)) (seqS (whileS [4] mu__law_lowest_0 (gtB (rD 3) (cD (.int 0))) B__law_lowest_0) (retS (tupD (consA (divD (rD 0) (rD 2)) (consA (divD (rD 1) (rD 2)) nilA)))))))
def F__law_lowest : List D → Res D := runD S__law_lowest 5
/-! _law_wills -/
abbrev s__law_wills : Stmt := topS 22
abbrev N__law_wills : List Str := ["_law_people_here", "_law_cell", "_law_many", "_law_found", "_law_x", "_law_person", "_law_day", "_law_gifts_here", "_law_one", "_law_over", "_law_under"]
theorem sc__law_wills : FnScope N__law_wills ["_law_people_here", "_law_cell", "_law_many"] (defScope s__law_wills) := ⟨rfl, rfl, rfl, by decide +kernel, rfl, by decide +kernel, by decide +kernel⟩
def B__law_wills_0 : DL.Env → Fl :=
  (seqS (setS 5 (modD (rD 4) (lenD (rD 0)))) (seqS (setS 6 (addD (ixD (ixD (rD 0) (rD 5)) (cD (.int 0))) (modD (divD (rD 4) (cD (.int 60))) (cD (.int 30))))) (seqS (setS 7 (valF (callF 3 F__law_gifts (consA (vD 0) (consA (vD 5) (consA (divD (rD 4) (cD (.int 1800))) nilA)))))) (ifS (andB (neB (rD 7) (valF (lstF nilA))) (orB (isNB (ixD (ixD (rD 0) (rD 5)) (cD (.int 3)))) (leB (rD 6) (ixD (ixD (rD 0) (rD 5)) (cD (.int 3))))))
      (appS 3 (tupD (consA (vD 5) (consA (vD 6) (consA (tupleD (valF (compF [8, 9, 10] (seqI (rD 7)) (gT 3 (gCons (gN 8) (gCons (gN 9) (gCons (gN 10) gNil)))) yesB (tupD (consA (vD 8) (consA (callD 2 F__law_lowest (consA (vD 9) (consA (vD 10) nilA))) nilA)))))) nilA)))))
      nxS))))
def S__law_wills : DL.Env → Fl :=
  (seqS (setF 3 (lstF nilA)) (seqS (forS [4, 5, 6, 7] (seqI (valF (callF 2 F__law_stream (consA (vD 1) (consA (vD 2) nilA))))) (gN 4) B__law_wills_0) (retV 3)))
def F__law_wills : List D → Res (List D) := runF S__law_wills 11
/-! _law_people -/
abbrev s__law_people : Stmt := topS 10
abbrev N__law_people : List Str := ["_law_cell", "_law_many", "_law_people_here", "_law_scale", "_law_house", "_law_k", "_law_x", "_law_born", "_law_elders", "_law_parents_here", "_law_died", "_law_j"]
theorem sc__law_people : FnScope N__law_people ["_law_cell", "_law_many"] (defScope s__law_people) := ⟨rfl, rfl, rfl, by decide +kernel, rfl, by decide +kernel, by decide +kernel⟩
def B__law_people_0 : DL.Env → Fl :=
  (seqS (setS 7 (mulD (addD (mulD (cD (.int 5)) (divD (rD 5) (cD (.int 3)))) (modD (rD 6) (cD (.int 11)))) (rD 3))) (seqS (setS 8 (valF (compF [11] (rngI (rD 5)) (gN 11) (ltB (ixD (ixD (rD 2) (rD 11)) (cD (.int 0))) (rD 7)) (vD 11)))) (seqS (setS 9 (callD 3 F__law_some (consA (valF (slF (rD 8) (someO (negD (cD (.int 7)))) noO)) (consA (divD (rD 6) (cD (.int 11))) (consA (cD (.int 0)) nilA))))) (seqS (ifS (andB (gtB (rD 5) (cD (.int 0))) (andB (eqB (modD (divD (rD 6) (cD (.int 13))) (cD (.int 3))) (cD (.int 0))) (eqB (valF (compF [11] (seqI (ixD (ixD (rD 2) (subD (rD 5) (cD (.int 1)))) (cD (.int 1)))) (gN 11) (ninB (rD 11) (rD 8)) (vD 11))) (valF (lstF nilA)))))
      (setS 9 (ixD (ixD (rD 2) (subD (rD 5) (cD (.int 1)))) (cD (.int 1))))
      nxS) (seqS (ifS (andB (eqB (modD (divD (rD 0) (cD (.int 4))) (cD (.int 3))) (cD (.int 0))) (ltB (rD 5) (cD (.int 12))))
      (seqS (setS 7 (mulD (addD (mulD (cD (.int 12)) (divD (rD 5) (cD (.int 2)))) (modD (rD 6) (cD (.int 11)))) (rD 3))) (setS 9 (ixD (rD 4) (rD 5))))
      nxS) (seqS (setS 10 (cD .none)) (seqS (ifS (gtB (modD (divD (rD 6) (cD (.int 500))) (ixD (valF (lstF (consA (cD (.int 4)) (consA (cD (.int 9)) nilA)))) (modD (divD (rD 0) (cD (.int 12))) (cD (.int 2))))) (cD (.int 0)))
      (setS 10 (addD (rD 7) (mulD (modD (divD (rD 6) (cD (.int 1500))) (cD (.int 40))) (rD 3))))
      nxS) (appS 2 (tupD (consA (vD 7) (consA (vD 9) (consA (cD .none) (consA (vD 10) nilA)))))))))))))
def S__law_people : DL.Env → Fl :=
  (seqS (setF 2 (lstF nilA)) (seqS (setS 3 (ixD (valF (lstF (consA (cD (.int 1)) (consA (cD (.int 1)) (consA (cD (.int 1)) (consA (cD (.int 600)) nilA)))))) (modD (rD 0) (cD (.int 4))))) (seqS (setS 4 (valF (lstF (consA (tupD nilA) (consA (tupD nilA) (consA (tupD (consA (cD (.int 1)) (consA (cD (.int 0)) nilA))) (consA (tupD (consA (cD (.int 1)) (consA (cD (.int 0)) nilA))) (consA (tupD (consA (cD (.int 2)) nilA)) (consA (tupD (consA (cD (.int 3)) nilA)) (consA (tupD nilA) (consA (tupD (consA (cD (.int 5)) nilA)) (consA (tupD (consA (cD (.int 3)) nilA)) (consA (tupD (consA (cD (.int 1)) nilA)) (consA (tupD nilA) (consA (tupD (consA (cD (.int 2)) nilA)) nilA))))))))))))))) (seqS (forS [5, 6, 7, 8, 9, 10] (enI (valF (callF 2 F__law_stream (consA (divD (rD 0) (cD (.int 4))) (consA (vD 1) nilA))))) (gT 2 (gCons (gN 5) (gCons (gN 6) gNil))) B__law_people_0) (retV 2)))))
def F__law_people : List D → Res (List D) := runF S__law_people 12
/-! _law_cell_at -/
abbrev s__law_cell_at : Stmt := topS 6
abbrev N__law_cell_at : List Str := ["_law_script", "_law_k"]
theorem sc__law_cell_at : FnScope N__law_cell_at ["_law_script", "_law_k"] (defScope s__law_cell_at) := ⟨rfl, rfl, rfl, by decide +kernel, rfl, by decide +kernel, by decide +kernel⟩
def S__law_cell_at : DL.Env → Fl :=
  (seqS (ifS (ltB (rD 1) (lenD (rD 0)))
      (retS (ixD (rD 0) (rD 1)))
      nxS) (retS (cD (.int 0))))
def F__law_cell_at : List D → Res D := runD S__law_cell_at 2
/-! _law_days -/
abbrev s__law_days : Stmt := topS 25
abbrev N__law_days : List Str := ["_law_roll", "_law_person", "_law_cell", "_law_days_here", "_law_one"]
theorem sc__law_days : FnScope N__law_days ["_law_roll", "_law_person", "_law_cell"] (defScope s__law_days) := ⟨rfl, rfl, rfl, by decide +kernel, rfl, by decide +kernel, by decide +kernel⟩
def S__law_days : DL.Env → Fl :=
  (seqS (setS 3 (valF (catF (valF (catF (valF (lstF (consA (ixD (ixD (ixD (rD 0) (cD (.int 0))) (rD 1)) (cD (.int 0))) nilA))) (valF (compF [4] (seqI (ixD (rD 0) (cD (.int 1)))) (gN 4) yesB (ixD (rD 4) (cD (.int 2))))))) (valF (compF [4] (seqI (ixD (rD 0) (cD (.int 2)))) (gN 4) yesB (ixD (rD 4) (cD (.int 1)))))))) (seqS (setS 3 (valF (catF (rD 3) (valF (compF [4] (seqI (ixD (rD 0) (cD (.int 0)))) (gN 4) (notNB (ixD (rD 4) (cD (.int 3)))) (ixD (rD 4) (cD (.int 3)))))))) (seqS (ifS (eqB (modD (rD 2) (cD (.int 5))) (cD (.int 4)))
      (retS (modD (divD (rD 2) (cD (.int 5))) (cD (.int 201))))
      nxS) (retS (bin (cD (.int 0)) (subD (addD (ixD (rD 3) (modD (divD (rD 2) (cD (.int 5))) (lenD (rD 3)))) (modD (divD (rD 2) (cD (.int 300))) (cD (.int 3)))) (cD (.int 1))) gMax)))))
def F__law_days : List D → Res D := runD S__law_days 5
/-! lives -/
abbrev s_lives : Stmt := topS 1
abbrev N_lives : List Str := ["people", "person", "day", "born", "parents", "adopted", "died"]
theorem sc_lives : FnScope N_lives ["people", "person", "day"] (defScope s_lives) := ⟨rfl, rfl, rfl, by decide +kernel, rfl, by decide +kernel, by decide +kernel⟩
def S_lives : DL.Env → Fl :=
  (seqS (asgS (gT 4 (gCons (gN 3) (gCons (gN 4) (gCons (gN 5) (gCons (gN 6) gNil))))) (ixD (rD 0) (rD 1))) (retS (valB (andB (leB (rD 3) (rD 2)) (orB (isNB (rD 6)) (ltB (rD 2) (rD 6)))))))
def F_lives : List D → Res D := runD S_lives 7
/-! spouse_on -/
abbrev s_spouse_on : Stmt := topS 3
abbrev N_spouse_on : List Str := ["roll", "person", "day", "people", "marriages", "wills", "one", "other", "begun", "mate"]
theorem sc_spouse_on : FnScope N_spouse_on ["roll", "person", "day"] (defScope s_spouse_on) := ⟨rfl, rfl, rfl, by decide +kernel, rfl, by decide +kernel, by decide +kernel⟩
def B_spouse_on_0 : DL.Env → Fl :=
  (ifS (andB (leB (rD 8) (rD 2)) (inB (rD 1) (tupD (consA (vD 6) (consA (vD 7) nilA)))))
      (seqS (setS 9 (subD (addD (rD 6) (rD 7)) (rD 1))) (ifS (un (callD 3 F_lives (consA (vD 3) (consA (vD 9) (consA (vD 2) nilA)))) asB)
      (retS (vD 9))
      nxS))
      nxS)
def S_spouse_on : DL.Env → Fl :=
  (seqS (asgS (gT 3 (gCons (gN 3) (gCons (gN 4) (gCons (gN 5) gNil)))) (vD 0)) (seqS (forS [6, 7, 8, 9] (seqI (vD 4)) (gT 3 (gCons (gN 6) (gCons (gN 7) (gCons (gN 8) gNil)))) B_spouse_on_0) (retS (cD .none))))
def F_spouse_on : List D → Res D := runD S_spouse_on 10
/-! _law_spouse -/
abbrev s__law_spouse : Stmt := topS 23
abbrev N__law_spouse : List Str := ["_law_roll", "_law_person", "_law_day", "_law_mates", "_law_one", "_law_other", "_law_begun"]
theorem sc__law_spouse : FnScope N__law_spouse ["_law_roll", "_law_person", "_law_day"] (defScope s__law_spouse) := ⟨rfl, rfl, rfl, by decide +kernel, rfl, by decide +kernel, by decide +kernel⟩
def B__law_spouse_0 : DL.Env → Fl :=
  (seqS (ifS (andB (leB (rD 6) (rD 2)) (andB (eqB (rD 4) (rD 1)) (un (callD 3 F__law_lives (consA (ixD (rD 0) (cD (.int 0))) (consA (vD 5) (consA (vD 2) nilA)))) asB)))
      (appS 3 (vD 5))
      nxS) (ifS (andB (leB (rD 6) (rD 2)) (andB (eqB (rD 5) (rD 1)) (un (callD 3 F__law_lives (consA (ixD (rD 0) (cD (.int 0))) (consA (vD 4) (consA (vD 2) nilA)))) asB)))
      (appS 3 (vD 4))
      nxS))
def S__law_spouse : DL.Env → Fl :=
  (seqS (setF 3 (lstF nilA)) (seqS (forS [4, 5, 6] (seqI (ixD (rD 0) (cD (.int 1)))) (gT 3 (gCons (gN 4) (gCons (gN 5) (gCons (gN 6) gNil)))) B__law_spouse_0) (frzT 3 (retS (ixD (valF (catF (rD 3) (valF (lstF (consA (cD .none) nilA))))) (cD (.int 0)))))))
def F__law_spouse : List D → Res D := runD S__law_spouse 7
/-! will_on -/
abbrev s_will_on : Stmt := topS 4
abbrev N_will_on : List Str := ["roll", "person", "day", "found", "latest", "one", "begun", "gifts"]
theorem sc_will_on : FnScope N_will_on ["roll", "person", "day"] (defScope s_will_on) := ⟨rfl, rfl, rfl, by decide +kernel, rfl, by decide +kernel, by decide +kernel⟩
def B_will_on_0 : DL.Env → Fl :=
  (ifS (andB (eqB (rD 5) (rD 1)) (chainB (fun i j => decide (i ≤ j)) (fun i j => decide (i ≤ j)) (rD 4) (rD 6) (rD 2)))
      (seqS (setS 3 (vD 7)) (setS 4 (vD 6)))
      nxS)
def S_will_on : DL.Env → Fl :=
  (seqS (setS 3 (tupD nilA)) (seqS (setS 4 (negD (cD (.int 1)))) (seqS (forS [5, 6, 7] (seqI (ixD (rD 0) (cD (.int 2)))) (gT 3 (gCons (gN 5) (gCons (gN 6) (gCons (gN 7) gNil)))) B_will_on_0) (retS (vD 3)))))
def F_will_on : List D → Res D := runD S_will_on 8
/-! _law_will -/
abbrev s__law_will : Stmt := topS 24
abbrev N__law_will : List Str := ["_law_roll", "_law_person", "_law_day", "_law_found", "_law_k", "_law_one", "_law_begun", "_law_gifts_here"]
theorem sc__law_will : FnScope N__law_will ["_law_roll", "_law_person", "_law_day"] (defScope s__law_will) := ⟨rfl, rfl, rfl, by decide +kernel, rfl, by decide +kernel, by decide +kernel⟩
def S__law_will : DL.Env → Fl :=
  (seqS (seqS (setF 3 (compF [4, 5, 6, 7] (enI (ixD (rD 0) (cD (.int 2)))) (gT 2 (gCons (gN 4) (gCons (gT 3 (gCons (gN 5) (gCons (gN 6) (gCons (gN 7) gNil)))) gNil))) (andB (eqB (rD 5) (rD 1)) (leB (rD 6) (rD 2))) (tupD (consA (vD 6) (consA (vD 4) nilA))))) (frzN 3)) (seqS (ifS (eqB (rD 3) (valF (lstF nilA)))
      (retS (tupD nilA))
      nxS) (retS (ixD (ixD (ixD (rD 0) (cD (.int 2))) (ixD (un (rD 3) gMax1) (cD (.int 1)))) (cD (.int 2))))))
def F__law_will : List D → Res D := runD S__law_will 8
/-! _law_whole -/
abbrev s__law_whole : Stmt := topS 7
abbrev N__law_whole : List Str := ["_law_found"]
theorem sc__law_whole : FnScope N__law_whole ["_law_found"] (defScope s__law_whole) := ⟨rfl, rfl, rfl, by decide +kernel, rfl, by decide +kernel, by decide +kernel⟩
def S__law_whole : DL.Env → Fl :=
  (retS (valB (andB (isiB "int" (rD 0)) (notB (isiB "bool" (rD 0))))))
def F__law_whole : List D → Res D := runD S__law_whole 1
/-! law -/
abbrev s_law : Stmt := topS 26
abbrev N_law : List Str := ["_law_script", "_law_many", "_law_people_here", "_law_weddings_here", "_law_wills_here", "_law_roll", "_law_handed", "_law_k", "_law_cell", "_law_person", "_law_day", "_law_mate", "_law_due", "_law_gifts_here", "_law_one", "_law_gift"]
theorem sc_law : FnScope N_law ["_law_script"] (defScope s_law) := ⟨rfl, rfl, rfl, by decide +kernel, rfl, by decide +kernel, by decide +kernel⟩
def B_law_0 : DL.Env → Fl :=
  (seqS (setS 9 (modD (divD (rD 8) (cD (.int 7))) (rD 1))) (seqS (setS 10 (callD 3 F__law_days (consA (vD 5) (consA (vD 9) (consA (divD (rD 8) (cD (.int 3))) nilA))))) (seqS (ifS (andB (eqB (modD (rD 7) (cD (.int 2))) (cD (.int 1))) (neB (rD 4) (valF (lstF nilA))))
      (seqS (setS 9 (ixD (ixD (rD 4) (modD (divD (rD 8) (cD (.int 420))) (lenD (rD 4)))) (cD (.int 0)))) (setS 10 (addD (ixD (ixD (rD 4) (modD (divD (rD 8) (cD (.int 420))) (lenD (rD 4)))) (cD (.int 1))) (modD (divD (rD 8) (cD (.int 3780))) (cD (.int 2))))))
      nxS) (seqS (setS 11 (callD 3 F_spouse_on (consA (vD 6) (consA (vD 9) (consA (vD 10) nilA))))) (seqS (setS 12 (callD 3 F__law_spouse (consA (vD 5) (consA (vD 9) (consA (vD 10) nilA))))) (seqS (ifS (orB (neB (rD 11) (rD 12)) (andB (notNB (rD 11)) (notB (un (callD 1 F__law_whole (consA (vD 11) nilA)) asB))))
      (retS (cD (.bool false)))
      nxS) (seqS (setS 13 (callD 3 F_will_on (consA (vD 6) (consA (vD 9) (consA (vD 10) nilA))))) (ifS (orB (notB (isiB "tuple" (rD 13))) (orB (neB (rD 13) (callD 3 F__law_will (consA (vD 5) (consA (vD 9) (consA (vD 10) nilA))))) (neB (rD 6) (rD 5))))
      (retS (cD (.bool false)))
      nxS))))))))
def S_law : DL.Env → Fl :=
  (seqS (setS 1 (addD (cD (.int 1)) (modD (callD 2 F__law_cell_at (consA (vD 0) (consA (cD (.int 0)) nilA))) (cD (.int 12))))) (seqS (setS 2 (valF (callF 2 F__law_adopting (consA (valF (callF 2 F__law_people (consA (callD 2 F__law_cell_at (consA (vD 0) (consA (cD (.int 1)) nilA))) (consA (vD 1) nilA)))) (consA (callD 2 F__law_cell_at (consA (vD 0) (consA (cD (.int 2)) nilA))) nilA))))) (seqS (setS 3 (valF (callF 3 F__law_weddings (consA (vD 2) (consA (callD 2 F__law_cell_at (consA (vD 0) (consA (cD (.int 3)) nilA))) (consA (modD (divD (callD 2 F__law_cell_at (consA (vD 0) (consA (cD (.int 0)) nilA))) (cD (.int 12))) (cD (.int 13))) nilA)))))) (seqS (setF 4 (callF 3 F__law_wills (consA (vD 2) (consA (callD 2 F__law_cell_at (consA (vD 0) (consA (cD (.int 4)) nilA))) (consA (modD (divD (callD 2 F__law_cell_at (consA (vD 0) (consA (cD (.int 0)) nilA))) (cD (.int 156))) (cD (.int 9))) nilA))))) (seqS (ifS (andB (neB (rD 4) (valF (lstF nilA))) (eqB (modD (callD 2 F__law_cell_at (consA (vD 0) (consA (cD (.int 4)) nilA))) (cD (.int 3))) (cD (.int 1))))
      (appS 4 (tupD (consA (ixD (ixD (rD 4) (cD (.int 0))) (cD (.int 0))) (consA (ixD (ixD (rD 4) (cD (.int 0))) (cD (.int 1))) (consA (ixD (ixD (rD 4) (negD (cD (.int 1)))) (cD (.int 2))) nilA)))))
      nxS) (seqS (setF 4 (compF [14] (seqI (rD 4)) (gN 14) (ninB (ixD (rD 14) (cD (.int 0))) (valF (compF [15] (seqI (ixD (rD 14) (cD (.int 2)))) (gN 15) yesB (ixD (rD 15) (cD (.int 0)))))) (vD 14))) (frzT 4 (seqS (setS 5 (tupD (consA (vD 2) (consA (vD 3) (consA (vD 4) nilA))))) (seqS (setS 6 (tupD (consA (valF (listF (rD 2))) (consA (valF (listF (rD 3))) (consA (valF (listF (rD 4))) nilA))))) (seqS (forS [7, 8, 9, 10, 11, 12, 13] (enI (valF (catF (valF (callF 2 F__law_stream (consA (callD 2 F__law_cell_at (consA (vD 0) (consA (cD (.int 5)) nilA))) (consA (cD (.int 4)) nilA)))) (valF (callF 2 F__law_stream (consA (callD 2 F__law_cell_at (consA (vD 0) (consA (cD (.int 6)) nilA))) (consA (cD (.int 4)) nilA))))))) (gT 2 (gCons (gN 7) (gCons (gN 8) gNil))) B_law_0) (retS (cD (.bool true)))))))))))))
def F_law : List D → Res D := runD S_law 16
end K07
namespace K07
open PySem PySem.Spec PyProof.Rows L2 DL
theorem E_cell_at (ns : List Int) (i : Int) (h : 0 ≤ i) : ∃ c, F__law_cell_at [scrD (ns.map PyData.int), .int i] = .ok (.int c) := by
  refine ⟨ns.getD i.toNat 0, ?_⟩
  unfold F__law_cell_at S__law_cell_at
  simp [runD_ev, atI_of _ h]
  by_cases hl : i < ns.length
  · have : i.toNat < ns.length := by omega
    simp [hl, this]
  · have : ns.length ≤ i.toNat := by omega
    simp [hl, this]
theorem E_stream (c : Int) (n : Nat) (hn : n ≤ 1000000) : ∃ xs : List Int, F__law_stream [.int c, .int n] = .ok (xs.map PyData.int) ∧ xs.length = n ∧ strmOk xs := by
  unfold F__law_stream S__law_stream
  simp only [runF_ev]
  have h0 := Int.emod_nonneg c (b := 2147483647) (by decide)
  have h1 := Int.emod_lt_of_pos c (b := 2147483647) (by decide)
  obtain ⟨⟨num, xs⟩, ⟨i1, i2, i3⟩, r⟩ := loopL_inv (A := Int × List Int) (fun a => [.val (.int c), .val (.int n), .own (a.2.map PyData.int), .val (.int a.1), .no]) (is := [4]) (g := gN 4)
    (fb := B__law_stream_0) (ds := (rgI n).map PyData.int)
    (fun i a => (0 ≤ a.1 ∧ a.1 < 2147483647) ∧ a.2.length = i ∧ strmOk a.2) (by
      rintro i ⟨num, xs⟩ d hd ⟨⟨b0, b1⟩, hl, hx⟩
      dsimp only at b0 b1 hl hx
      obtain ⟨hi, rfl⟩ := rgI_at hd
      have g0 := Int.emod_nonneg (num * 48271 + 11 + i) (b := 2147483647) (by decide)
      have g1 := Int.emod_lt_of_pos (num * 48271 + 11 + i) (b := 2147483647) (by decide)
      refine ⟨((num * 48271 + 11 + i) % 2147483647, xs ++ [(num * 48271 + 11 + i) % 2147483647]), ⟨⟨g0, g1⟩, by simp [hl], fun x hx' => ?_⟩, ?_⟩
      · rcases List.mem_append.mp hx' with h | h
        · exact hx x h
        · rw [List.mem_singleton] at h; subst h; exact ⟨g0, g1⟩
      · have : xs.length < 16777216 := by omega
        simp [turnE, B__law_stream_0, mul_sm (i := num) (j := 48271) (by omega) (by decide), i2_mod (j := 2147483647) (by decide), this])
    (a := (c % 2147483647, [])) (δ := [.val (.int c), .val (.int n), .own [], .val (.int (c % 2147483647)), .no]) rfl ⟨⟨h0, h1⟩, rfl, fun _ h => by cases h⟩
  refine ⟨xs, ?_, by simpa using i2, i3⟩
  simp [i2_mod (j := 2147483647) (by decide), gR1_ok (n := n) (by omega) (by omega), r]
theorem E_some (el : List Int) (y few : Int) : ∃ l, F__law_some [.list (el.map PyData.int), .int y, .int few] = .ok (intsT l) ∧ (∀ j ∈ l, j ∈ el) ∧ l.Nodup ∧ l.length ≤ 2 ∧ (few ≠ 0 → el ≠ [] → l ≠ []) := by
  have d7 : i2 gDiv (.int y) (.int 7) = .ok (.int (y / 7)) := i2_div (by decide) (by decide)
  have m5 : i2 gMod (.int (y / 7)) (.int 5) = .ok (.int (y / 7 % 5)) := i2_mod (by decide)
  have d60 : i2 gDiv (.int y) (.int 60) = .ok (.int (y / 60)) := i2_div (by decide) (by decide)
  have d3 : i2 gDiv (.int y) (.int 3) = .ok (.int (y / 3)) := i2_div (by decide) (by decide)
  have m4 : i2 gMod (.int (y / 3)) (.int 4) = .ok (.int (y / 3 % 4)) := i2_mod (by decide)
  unfold F__law_some S__law_some
  simp only [runD_ev]
  by_cases he : el = []
  · subst he
    refine ⟨[], ?_, by simp, by simp, by simp, by simp⟩
    have : gEq (.list []) (.list []) = .ok true := gEq_lst [] []
    simp [this, intsT]
  · have hp : 0 < (el.length : Int) := by
      cases el with
      | nil => exact absurd rfl he
      | cons a l => simp
    have ma : i2 gMod (.int y) (.int el.length) = .ok (.int (y % el.length)) := i2_mod hp
    have mb : i2 gMod (.int (y / 60)) (.int el.length) = .ok (.int (y / 60 % el.length)) := i2_mod hp
    obtain ⟨a, ia, ea⟩ := mem_at he (Int.emod_nonneg y (by omega)) (Int.emod_lt_of_pos y hp)
    obtain ⟨b, ib, eb⟩ := mem_at he (Int.emod_nonneg (y / 60) (by omega)) (Int.emod_lt_of_pos (y / 60) hp)
    by_cases hf : few = 0 ∧ y / 7 % 5 = 0
    · refine ⟨[], ?_, by simp, by simp, by simp, fun h => absurd hf.1 h⟩
      simp [he, hf, d7, m5, intsT]
    · by_cases hc : a = b ∨ y / 3 % 4 = 0
      · refine ⟨[a], ?_, by simpa using ia, by simp, by simp, by simp⟩
        simp [he, hf, d7, m5, ma, d60, mb, ea, eb, d3, m4, hc, intsT]
      · refine ⟨[a, b], ?_, by simp [ia, ib], ?_, by simp, by simp⟩
        · simp [he, hf, d7, m5, ma, d60, mb, ea, eb, d3, m4, hc, intsT]
        · simpa using fun h => hc (.inl h)
theorem elders_comp (c many sc : Int) (f : Fam) (k : Nat) (x b : Int) (hk : k ≤ f.length) (hl : k ≤ 1000000) (s8 s9 s10 s11 : Sl) (hs : D) :
    compF [11] (rngI (rD 5)) (gN 11) (ltB (ixD (ixD (rD 2) (rD 11)) (cD (.int 0))) (rD 7)) (vD 11) [.val (.int c), .val (.int many), .own (f.map perD), .val (.int sc), .val hs, .val (.int k), .val (.int x), .val (.int b), s8, s9, s10, s11] = .ok ((eldersOf f k b).map PyData.int) := by
  refine compF_map (rgI k) PyData.int (fun j => (f[j.toNat]?).any fun p => decide (p.born < b)) PyData.int ?_ (by rw [rgI_len]; omega) fun j hj => ?_
  · simp [gR1_ok (n := (k : Int)) (by omega) (by omega)]
  · obtain ⟨h0, h1⟩ := mem_rgI.mp hj
    obtain ⟨p, hp⟩ := fam_lt (f := f) h0 (by omega)
    refine ⟨_, rfl, ?_, fun _ => ?_⟩
    · simp [fam_at h0 hp, hp]
    · simp
abbrev houseD : D := .list (houseL.map intsT)
abbrev envP (c many sc : Int) (f : Fam) : DL.Env := [.val (.int c), .val (.int many), .own (f.map perD), .val (.int sc), .val houseD, .no, .no, .no, .no, .no, .no, .no]
theorem people_turn {c many sc x : Int} {f : Fam} {i : Nat} (hi : i < 100) (hx : 0 ≤ x ∧ x < 2147483647) (hs : sc = 1 ∨ sc = 600) (h : PplI sc (decide (c / 4 % 3 = 0)) i f) :
    ∃ f', PplI sc (decide (c / 4 % 3 = 0)) (i + 1) f' ∧ turnE [5, 6, 7, 8, 9, 10] (gT 2 (gCons (gN 5) (gCons (gN 6) gNil))) B__law_people_0 (.tuple [.int i, .int x]) (envP c many sc f) = .nx (envP c many sc f') := by
  -- the first born and parents
  have q1 : 0 ≤ (5 * ((i : Int) / 3) + x % 11) * sc ∧ (5 * ((i : Int) / 3) + x % 11) * sc ≤ 200000 := by rcases hs with rfl | rfl <;> omega
  have n1 : i2 gMul (.int 5) (.int ((i : Int) / 3)) = .ok (.int (5 * ((i : Int) / 3))) := mul_sm (by decide) (by omega)
  have n2 : i2 gMul (.int (5 * ((i : Int) / 3) + x % 11)) (.int sc) = .ok (.int ((5 * ((i : Int) / 3) + x % 11) * sc)) := mul_sm (by omega) (by rcases hs with rfl | rfl <;> decide)
  have n3 : i2 gMul (.int 12) (.int ((i : Int) / 2)) = .ok (.int (12 * ((i : Int) / 2))) := mul_sm (by decide) (by omega)
  have n4 : i2 gMul (.int (12 * ((i : Int) / 2) + x % 11)) (.int sc) = .ok (.int ((12 * ((i : Int) / 2) + x % 11) * sc)) := mul_sm (by omega) (by rcases hs with rfl | rfl <;> decide)
  have n5 : i2 gMul (.int (x / 1500 % 40)) (.int sc) = .ok (.int (x / 1500 % 40 * sc)) := mul_sm (by omega) (by rcases hs with rfl | rfl <;> decide)
  have hlen : f.length < 16777216 := by rw [h.len]; omega
  generalize hb1 : (5 * ((i : Int) / 3) + x % 11) * sc = b1 at *
  generalize he : eldersOf f i b1 = el
  have hel : Older (f.map Per.born) el b1 := he ▸ elders_old
  obtain ⟨l1, e1, l1a, l1b, l1c, _⟩ := E_some (cutL el (some (-7)) none) (x / 11) 0
  have cut7 : cutL (el.map PyData.int) (some (-7)) none = (cutL el (some (-7)) none).map PyData.int := cutL_map _ _ _ _
  have ec := fun s8 s9 s10 s11 => elders_comp c many sc f i x b1 (by rw [h.len]; exact Nat.le_refl _) (by omega) s8 s9 s10 s11 houseD
  rw [he] at ec
  -- the parents, first
  have par1 : ∃ P : List Int, Older (f.map Per.born) P b1 ∧ P.Nodup ∧ P.length ≤ 2 ∧ ∀ s10 s11 (rest : DL.Env → Fl), (seqS (ifS (andB (gtB (rD 5) (cD (.int 0))) (andB (eqB (modD (divD (rD 6) (cD (.int 13))) (cD (.int 3))) (cD (.int 0))) (eqB (valF (compF [11] (seqI (ixD (ixD (rD 2) (subD (rD 5) (cD (.int 1)))) (cD (.int 1)))) (gN 11) (ninB (rD 11) (rD 8)) (vD 11))) (valF (lstF nilA)))))
      (setS 9 (ixD (ixD (rD 2) (subD (rD 5) (cD (.int 1)))) (cD (.int 1)))) nxS) rest) [.val (.int c), .val (.int many), .own (f.map perD), .val (.int sc), .val houseD, .val (.int i), .val (.int x), .val (.int b1), .val (.list (el.map PyData.int)), .val (intsT l1), s10, s11] =
      rest [.val (.int c), .val (.int many), .own (f.map perD), .val (.int sc), .val houseD, .val (.int i), .val (.int x), .val (.int b1), .val (.list (el.map PyData.int)), .val (intsT P), s10, s11] := by
    have o1 : Older (f.map Per.born) l1 b1 := hel.sub fun j hj => mem_cutL (l1a j hj)
    by_cases h0 : i = 0
    · refine ⟨l1, o1, l1b, l1c, fun s10 s11 rest => ?_⟩
      simp [h0]
    · have hp : ∃ q, f[((i : Int) - 1).toNat]? = some q := fam_lt (by omega) (by rw [h.len]; omega)
      obtain ⟨q, hq⟩ := hp
      have hqm : q ∈ f := List.mem_of_getElem? hq
      have hat : L2.atI (f.map perD) ((i : Int) - 1) = some (perD q) := fam_at (by omega) hq
      have cmp : ∀ s9 s10 s11, compF [11] (seqI (ixD (ixD (rD 2) (subD (rD 5) (cD (.int 1)))) (cD (.int 1)))) (gN 11) (ninB (rD 11) (rD 8)) (vD 11) [.val (.int c), .val (.int many), .own (f.map perD), .val (.int sc), .val houseD, .val (.int i), .val (.int x), .val (.int b1), .val (.list (el.map PyData.int)), s9, s10, s11] = .ok ((q.par.filter fun j => !el.contains j).map PyData.int) := fun s9 s10 s11 =>
        compF_map q.par PyData.int (fun j => !el.contains j) PyData.int (by simp [hat]) (by have := (h.ok q hqm).len; omega) fun j hj => ⟨_, rfl, by simp, fun _ => by simp⟩
      have hi0 : 0 < i := by omega
      have hi1 : 0 < (i : Int) := by omega
      by_cases hd : x / 13 % 3 = 0
      · by_cases hc : ∀ a, a ∈ q.par → a ∈ el
        · refine ⟨q.par, hel.sub hc, (h.ok q hqm).nd, (h.ok q hqm).len, fun s10 s11 rest => ?_⟩
          simp [hi0, hi1, div_sm, i2_mod, cmp, hd, hat]
          rw [if_pos hc]
        · refine ⟨l1, o1, l1b, l1c, fun s10 s11 rest => ?_⟩
          simp [hi0, hi1, div_sm, i2_mod, cmp, hd, hat]
          rw [if_neg hc]
      · refine ⟨l1, o1, l1b, l1c, fun s10 s11 rest => ?_⟩
        simp [hi0, hi1, div_sm, i2_mod, cmp, hd, hat]
  obtain ⟨P, P1, P2, P3, hP⟩ := par1
  -- .. in the house
  have par2 : ∃ (B : Int) (P' : List Int), Older (f.map Per.born) P' B ∧ P'.Nodup ∧ P'.length ≤ 2 ∧ 0 ≤ B ∧ B ≤ 200000 ∧ (decide (c / 4 % 3 = 0) = true → i < 12 → 12 * (i / 2 : Nat) * sc ≤ B ∧ B ≤ (12 * (i / 2 : Nat) + 10) * sc) ∧
      ∀ s8 s10 s11 (rest : DL.Env → Fl), (seqS (ifS (andB (eqB (modD (divD (rD 0) (cD (.int 4))) (cD (.int 3))) (cD (.int 0))) (ltB (rD 5) (cD (.int 12))))
      (seqS (setS 7 (mulD (addD (mulD (cD (.int 12)) (divD (rD 5) (cD (.int 2)))) (modD (rD 6) (cD (.int 11)))) (rD 3))) (setS 9 (ixD (rD 4) (rD 5))))
      nxS) rest) [.val (.int c), .val (.int many), .own (f.map perD), .val (.int sc), .val houseD, .val (.int i), .val (.int x), .val (.int b1), s8, .val (intsT P), s10, s11] =
      rest [.val (.int c), .val (.int many), .own (f.map perD), .val (.int sc), .val houseD, .val (.int i), .val (.int x), .val (.int B), s8, .val (intsT P'), s10, s11] := by
    by_cases hh : c / 4 % 3 = 0
    · by_cases hi12 : i < 12
      · obtain ⟨l, el1, l2, l3, l4⟩ := house_at hi12
        have hB : 0 ≤ (12 * ((i : Int) / 2) + x % 11) * sc ∧ (12 * ((i : Int) / 2) + x % 11) * sc ≤ 200000 ∧ 12 * (i / 2 : Nat) * sc ≤ (12 * ((i : Int) / 2) + x % 11) * sc ∧ (12 * ((i : Int) / 2) + x % 11) * sc ≤ (12 * (i / 2 : Nat) + 10) * sc := by rcases hs with rfl | rfl <;> omega
        refine ⟨(12 * ((i : Int) / 2) + x % 11) * sc, l, fun j hj => ?_, l3, l4, hB.1, hB.2.1, fun _ _ => hB.2.2, fun s8 s10 s11 rest => ?_⟩
        · obtain ⟨j0, j1, j2⟩ := l2 j hj
          obtain ⟨q, hq⟩ := fam_lt (f := f) j0 (by rw [h.len]; omega)
          refine ⟨j0, q.born, by rw [List.getElem?_map, hq]; rfl, ?_⟩
          have hb := (h.house (by rw [hh]; rfl) j.toNat q hq (by omega)).2
          rcases hs with rfl | rfl <;> omega
        · have : (i : Int) < 12 := by omega
          simp [div_sm, i2_mod, hh, this, n3, n4, hi12, el1]
      · refine ⟨b1, P, P1, P2, P3, q1.1, q1.2, fun _ z => absurd z hi12, fun s8 s10 s11 rest => ?_⟩
        have : ¬ (i : Int) < 12 := by omega
        simp [div_sm, i2_mod, hh, this, hi12]
    · refine ⟨b1, P, P1, P2, P3, q1.1, q1.2, fun z => absurd (of_decide_eq_true z) hh, fun s8 s10 s11 rest => ?_⟩
      simp [div_sm, i2_mod, hh]
  obtain ⟨B, P', p1, p2, p3, B0, B1, hh, hP'⟩ := par2
  obtain ⟨m, m0, em⟩ : ∃ m : Int, 0 < m ∧ L2.atI [PyData.int 4, PyData.int 9] (c / 12 % 2) = some (.int m) := by
    have : c / 12 % 2 = 0 ∨ c / 12 % 2 = 1 := by omega
    rcases this with e | e <;> rw [e]
    · exact ⟨4, by decide, by simp⟩
    · exact ⟨9, by decide, by simp⟩
  have hdd : ∀ y, (if 0 < x / 500 % m then some (B + x / 1500 % 40 * sc) else none) = some y → B ≤ y ∧ y ≤ 1000000 := by
    intro y hy
    split at hy
    · cases hy
      rcases hs with rfl | rfl <;> omega
    · cases hy
  refine ⟨f ++ [⟨B, P', none, if 0 < x / 500 % m then some (B + x / 1500 % 40 * sc) else none⟩], h.snoc ⟨p1, p2, p3, fun d l z => by simp at z, hdd, B0, by show B ≤ 1000000; omega⟩ rfl hh, ?_⟩
  refine turn_of (δ1 := [.val (.int c), .val (.int many), .own (f.map perD), .val (.int sc), .val houseD, .val (.int i), .val (.int x), .no, .no, .no, .no, .no]) (δ2 := [.val (.int c), .val (.int many), .own ((f ++ [Per.mk B P' none (if 0 < x / 500 % m then some (B + x / 1500 % 40 * sc) else none)]).map perD), .val (.int sc), .val houseD, .val (.int i), .val (.int x), .val (.int B), .val (.list (el.map PyData.int)), .val (intsT P'), .val (oiD (if 0 < x / 500 % m then some (B + x / 1500 % 40 * sc) else none)), .no]) (by simp) ?_ (by simp)
  unfold B__law_people_0
  refine step (δ' := [.val (.int c), .val (.int many), .own (f.map perD), .val (.int sc), .val houseD, .val (.int i), .val (.int x), .val (.int b1), .no, .no, .no, .no]) (by simp [div_sm, i2_mod, n1, n2]) ?_
  refine step (δ' := [.val (.int c), .val (.int many), .own (f.map perD), .val (.int sc), .val houseD, .val (.int i), .val (.int x), .val (.int b1), .val (.list (el.map PyData.int)), .no, .no, .no]) (by simp [ec]) ?_
  refine step (δ' := [.val (.int c), .val (.int many), .own (f.map perD), .val (.int sc), .val houseD, .val (.int i), .val (.int x), .val (.int b1), .val (.list (el.map PyData.int)), .val (intsT l1), .no, .no]) (by simp [div_sm, cut7, e1]) ?_
  rw [hP, hP']
  simp [div_sm, i2_mod, i2_mod m0, em, n5, hlen, perD, adD]
theorem E_people (c : Int) (n : Nat) (hn : n ≤ 100) : ∃ f : Fam, F__law_people [.int c, .int n] = .ok (f.map perD) ∧ f.length = n ∧ FamOk f ∧ ∀ p ∈ f, p.ad = none := by
  obtain ⟨xs, ex, xl, xo⟩ := E_stream (c / 4) n (by omega)
  obtain ⟨sc, es, hs⟩ : ∃ sc : Int, L2.atI [PyData.int 1, PyData.int 1, PyData.int 1, PyData.int 600] (c % 4) = some (.int sc) ∧ (sc = 1 ∨ sc = 600) := by
    have : c % 4 = 0 ∨ c % 4 = 1 ∨ c % 4 = 2 ∨ c % 4 = 3 := by omega
    rcases this with e | e | e | e <;> rw [e]
    · exact ⟨1, by simp, .inl rfl⟩
    · exact ⟨1, by simp, .inl rfl⟩
    · exact ⟨1, by simp, .inl rfl⟩
    · exact ⟨600, by simp, .inr rfl⟩
  obtain ⟨f, hf, r⟩ := loopL_inv (envP c n sc) (is := [5, 6, 7, 8, 9, 10]) (g := gT 2 (gCons (gN 5) (gCons (gN 6) gNil))) (fb := B__law_people_0) (ds := enL 0 (xs.map PyData.int)) (PplI sc (decide (c / 4 % 3 = 0))) (by
    intro i f d hd hi
    obtain ⟨e, h1, rfl⟩ := enum_at hd
    rw [List.getElem?_map] at h1
    cases hx : xs[i]? with
    | none => rw [hx] at h1; cases h1
    | some x =>
      rw [hx] at h1
      cases h1
      have := (List.getElem?_eq_some_iff.mp hx).1
      exact people_turn (by omega) (xo x (List.mem_of_getElem? hx)) hs hi) (a := []) (δ := envP c n sc []) rfl ⟨rfl, fun _ h => (nomatch h), fun _ h => (nomatch h), fun _ j p hj => by cases hj⟩
  have hlen : f.length = n := by rw [hf.len, enL_length, List.length_map, xl]
  refine ⟨f, ?_, hlen, hf.ok, hf.noad⟩
  unfold F__law_people S__law_people
  simp only [runF_ev]
  have hh : (houseL.map intsT : List D) = [.tuple [], .tuple [], .tuple [.int 1, .int 0], .tuple [.int 1, .int 0], .tuple [.int 2], .tuple [.int 3], .tuple [], .tuple [.int 5], .tuple [.int 3], .tuple [.int 1], .tuple [], .tuple [.int 2]] := rfl
  have sh := szL_house
  rw [hh] at sh
  have r' := r
  simp only [envP, houseD, hh] at r'
  simp [i2_mod, es, sh, div_sm, ex]
  rw [List.map_nil] at r'
  rw [r']
  simp
abbrev envA (c : Int) (f g : Fam) : DL.Env := [.val (famD f), .val (.int c), .own (g.map perD), .no, .no, .no, .no, .no, .no, .no, .no, .no]
theorem adopt_turn {c x : Int} {f g : Fam} {i : Nat} (hi : i < f.length) (hn : f.length ≤ 100) (hx : 0 ≤ x ∧ x < 2147483647) (hf : FamOk f) (h1 : g.map Per.born = f.map Per.born) (h2 : FamOk g) :
    ∃ g', (g'.map Per.born = f.map Per.born ∧ FamOk g') ∧ turnE [3, 4, 5, 6, 7, 8, 9, 10] (gT 2 (gCons (gN 3) (gCons (gN 4) gNil))) B__law_adopting_0 (.tuple [.int i, .int x]) (envA c f g) = .nx (envA c f g') := by
  have hl : g.length = f.length := by simpa using congrArg List.length h1
  obtain ⟨p, hp⟩ := fam_lt (f := f) (j := i) (by omega) (by omega)
  have hpm : p ∈ f := List.mem_of_getElem? hp
  have hok := hf p hpm
  have hat : L2.atI (f.map perD) (i : Int) = some (perD p) := fam_at (by omega) hp
  rw [atI_nn] at hat
  generalize he : eldersOf f f.length p.born = el
  have hel : Older (f.map Per.born) el p.born := he ▸ elders_all f p.born
  have ec : ∀ s2 s3 s4 s6 s7 s8 s9 s10 s11, compF [11] (rngI (lenD (rD 0))) (gN 11) (ltB (ixD (ixD (rD 0) (rD 11)) (cD (.int 0))) (rD 5)) (vD 11) [.val (famD f), .val (.int c), s2, s3, s4, .val (.int p.born), s6, s7, s8, s9, s10, s11] = .ok (el.map PyData.int) := by
    intro s2 s3 s4 s6 s7 s8 s9 s10 s11
    rw [← he]
    refine compF_map (rgI f.length) PyData.int (fun j => (f[j.toNat]?).any fun q => decide (q.born < p.born)) PyData.int ?_ (by rw [rgI_len]; omega) fun j hj => ?_
    · simp [gR1_ok (n := (f.length : Int)) (by omega) (by omega)]
    · obtain ⟨h0, h1⟩ := mem_rgI.mp hj
      obtain ⟨q, hq⟩ := fam_lt (f := f) h0 (by omega)
      refine ⟨_, rfl, ?_, fun _ => ?_⟩
      · simp [fam_at h0 hq, hq]
      · simp
  obtain ⟨l, e1, l1, l2, l3, l4⟩ := E_some el (x / 120) 1
  by_cases hc : x / 30 % 4 = 0 ∧ el ≠ [] ∧ (∀ y, p.died = some y → p.born + x % 30 < y)
  · refine ⟨g.set i { p with ad := some (p.born + x % 30, l) }, ⟨?_, fun q hq => ?_⟩, ?_⟩
    · rw [List.map_set, h1]
      have : (f.map Per.born)[i]'(by simpa using hi) = p.born := by
        have := (List.getElem?_eq_some_iff.mp hp).2
        rw [List.getElem_map]; simpa using congrArg Per.born this
      show (f.map Per.born).set i p.born = _
      rw [← this, List.set_getElem_self]
    · have e : (g.set i { p with ad := some (p.born + x % 30, l) }).map Per.born = f.map Per.born := by
        rw [List.map_set, h1]
        have : (f.map Per.born)[i]'(by simpa using hi) = p.born := by
          have := (List.getElem?_eq_some_iff.mp hp).2
          rw [List.getElem_map]; simpa using congrArg Per.born this
        show (f.map Per.born).set i p.born = _
        rw [← this, List.set_getElem_self]
      rw [e]
      rcases List.mem_or_eq_of_mem_set hq with z | z
      · rw [← h1]; exact h2 q z
      · subst z
        exact hok.adopt (by omega) (by omega) (l4 (by decide) hc.2.1) l2 l3 (hel.sub l1) hc.2.2
    · refine turn_of (δ1 := [.val (famD f), .val (.int c), .own (g.map perD), .val (.int i), .val (.int x), .no, .no, .no, .no, .no, .no, .no]) (δ2 := [.val (famD f), .val (.int c), .own ((g.set i { p with ad := some (p.born + x % 30, l) }).map perD), .val (.int i), .val (.int x), .val (.int p.born), .val (intsT p.par), .val (adD p.ad), .val (oiD p.died), .val (.list (el.map PyData.int)), .val (.int (p.born + x % 30)), .no]) (by simp) ?_ (by simp)
      unfold B__law_adopting_0
      have hput := fun δ d => putL_ok (i := 2) (δ := δ) (ds := g.map perD) (d := d) (k := (i : Int)) (by omega) (by rw [List.length_map]; omega)
      cases hdd : p.died with
      | none => simp [hat, ec, div_sm, i2_mod, hc, hdd, e1, hput, perD, adD, List.map_set]
      | some y =>
        have := hc.2.2 y hdd
        simp [hat, ec, div_sm, i2_mod, hc, hdd, e1, hput, perD, adD, List.map_set, this]
  · refine ⟨g, ⟨h1, h2⟩, ?_⟩
    refine turn_of (δ1 := [.val (famD f), .val (.int c), .own (g.map perD), .val (.int i), .val (.int x), .no, .no, .no, .no, .no, .no, .no]) (δ2 := [.val (famD f), .val (.int c), .own (g.map perD), .val (.int i), .val (.int x), .val (.int p.born), .val (intsT p.par), .val (adD p.ad), .val (oiD p.died), .val (.list (el.map PyData.int)), .val (.int (p.born + x % 30)), .no]) (by simp) ?_ (by simp)
    unfold B__law_adopting_0
    by_cases c1 : x / 30 % 4 = 0
    · by_cases c2 : el = []
      · simp [hat, ec, div_sm, i2_mod, c1, c2]
      · cases hdd : p.died with
        | none => exact absurd ⟨c1, c2, fun y h => by rw [hdd] at h; cases h⟩ hc
        | some y =>
          have c3 : ¬ p.born + x % 30 < y := fun z => hc ⟨c1, c2, fun y' h => by rw [hdd] at h; cases h; exact z⟩
          simp [hat, ec, div_sm, i2_mod, c1, c2, hdd, c3]
    · simp [hat, ec, div_sm, i2_mod, c1]
theorem E_adopting {f : Fam} (c : Int) (hf : FamOk f) (hn : f.length ≤ 100) : ∃ g : Fam, F__law_adopting [famD f, .int c] = .ok (g.map perD) ∧ g.length = f.length ∧ FamOk g := by
  obtain ⟨xs, ex, xl, xo⟩ := E_stream c f.length (by omega)
  obtain ⟨g, ⟨hg1, hg2⟩, r⟩ := loopL_inv (envA c f) (is := [3, 4, 5, 6, 7, 8, 9, 10]) (g := gT 2 (gCons (gN 3) (gCons (gN 4) gNil))) (fb := B__law_adopting_0) (ds := enL 0 (xs.map PyData.int)) (fun _ g => g.map Per.born = f.map Per.born ∧ FamOk g) (by
    intro i g d hd hi
    obtain ⟨e, h1, rfl⟩ := enum_at hd
    rw [List.getElem?_map] at h1
    cases hx : xs[i]? with
    | none => rw [hx] at h1; cases h1
    | some x =>
      rw [hx] at h1
      cases h1
      have := (List.getElem?_eq_some_iff.mp hx).1
      exact adopt_turn (by omega) hn (xo x (List.mem_of_getElem? hx)) hf hi.1 hi.2) (a := f) (δ := envA c f f) rfl ⟨rfl, hf⟩
  refine ⟨g, ?_, by simpa using congrArg List.length hg1, hg2⟩
  unfold F__law_adopting S__law_adopting
  simp only [runF_ev]
  simp [ex, r]
theorem E_lives {f : Fam} {i t : Int} {p : Per} (h0 : 0 ≤ i) (hp : f[i.toNat]? = some p) : F_lives [famD f, .int i, .int t] = .ok (.bool (alive p t)) := by
  unfold F_lives S_lives
  simp only [runD_ev]
  cases hd : p.died <;> simp [fam_at h0 hp, hd, alive]
theorem E_llives {f : Fam} {i t : Int} {p : Per} (h0 : 0 ≤ i) (hp : f[i.toNat]? = some p) : F__law_lives [famD f, .int i, .int t] = .ok (.bool (alive p t)) := by
  unfold F__law_lives S__law_lives
  simp only [runD_ev]
  by_cases hb : t < p.born
  · have : ¬ p.born ≤ t := by omega
    cases hd : p.died <;> simp [fam_at h0 hp, hd, alive, hb, this]
  · have : p.born ≤ t := by omega
    cases hd : p.died <;> simp [fam_at h0 hp, hd, alive, hb, this]
theorem E_whole (d : D) : F__law_whole [d] = .ok (.bool (isT "int" d && !isT "bool" d)) := by
  unfold F__law_whole S__law_whole
  simp [runD_ev]
theorem lowest_loop (u v : Int) : ∀ (n : Nat) (a b : Int) (z : Sl), 0 ≤ b → b < n → (b = 0 → 0 ≤ a) → ∃ z', whileN [4] (gtB (rD 3) (cD (.int 0))) B__law_lowest_0 n [.val (.int u), .val (.int v), .val (.int a), .val (.int b), z] = .nx [.val (.int u), .val (.int v), .val (.int (Int.gcd a b)), .val (.int 0), z']
  | 0, a, b, z, h0, h1, _ => by omega
  | n + 1, a, b, z, h0, h1, h2 => by
    by_cases hb : 0 < b
    · have hm := Int.emod_nonneg a (b := b) (by omega)
      have hm2 := Int.emod_lt_of_pos a hb
      obtain ⟨z', ih⟩ := lowest_loop u v n b (a % b) (.val (.int (a % b))) hm (by omega) (fun _ => by omega)
      rw [gcd_step a b]
      have hB : B__law_lowest_0 [.val (.int u), .val (.int v), .val (.int a), .val (.int b), .no] = .nx [.val (.int u), .val (.int v), .val (.int b), .val (.int (a % b)), .val (.int (a % b))] := by
        unfold B__law_lowest_0
        simp [i2_mod hb]
      exact ⟨z', by simp [whileN, hb, hB, ih]⟩
    · have : b = 0 := by omega
      subst this
      refine ⟨.no, ?_⟩
      simp [whileN]
      have := h2 rfl
      omega
theorem E_lowest (a b : Int) (h : 0 < b) (hb : b < 2 ^ 200) : F__law_lowest [.int a, .int b] = .ok (low a b) := by
  unfold F__law_lowest S__law_lowest
  simp only [runD_ev]
  obtain ⟨z, e⟩ := lowest_loop a b (b.toNat + 1) a b .no (by omega) (by omega) (by omega)
  obtain ⟨g1, g2⟩ := gcd_lg (a := a) h hb
  simp [whileS, mu__law_lowest_0, slI, e, i2_div g1 g2, low, paD]
/-- two of the family, not the same -/
def WedOk (n : Nat) (w : Wed) : Prop := (0 ≤ w.1 ∧ w.1 < n) ∧ (0 ≤ w.2.1 ∧ w.2.1 < n) ∧ w.1 ≠ w.2.1
theorem E_ends {f : Fam} {w : Wed} (h : (0 ≤ w.1 ∧ w.1 < f.length) ∧ (0 ≤ w.2.1 ∧ w.2.1 < f.length)) : ∃ e, F__law_ends [famD f, weD w] = .ok (.int e) := by
  obtain ⟨p, hp⟩ := fam_lt h.1.1 h.1.2
  obtain ⟨q, hq⟩ := fam_lt h.2.1 h.2.2
  have p9 : i2 gPow (.int 10) (.int 9) = .ok (.int 1000000000) := i2_pow (by decide)
  have key : ∃ l : List Int, compF [3] (seqI (slT (rD 1) noO (someO (cD (.int 2))))) (gN 3) (notNB (ixD (ixD (rD 0) (rD 3)) (cD (.int 3)))) (ixD (ixD (rD 0) (rD 3)) (cD (.int 3))) [.val (famD f), .val (weD w), .no, .no] = .ok (l.map PyData.int) := by
    cases h1 : p.died with
    | none =>
      cases h2 : q.died with
      | none => exact ⟨[], by simp [compF, compL, szI_ok, fam_at h.1.1 hp, fam_at h.2.1 hq, h1, h2]⟩
      | some y => exact ⟨[y], by simp [compF, compL, szI_ok, fam_at h.1.1 hp, fam_at h.2.1 hq, h1, h2]⟩
    | some x =>
      cases h2 : q.died with
      | none => exact ⟨[x], by simp [compF, compL, szI_ok, fam_at h.1.1 hp, fam_at h.2.1 hq, h1, h2]⟩
      | some y => exact ⟨[x, y], by simp [compF, compL, szI_ok, fam_at h.1.1 hp, fam_at h.2.1 hq, h1, h2]⟩
  obtain ⟨l, hl⟩ := key
  obtain ⟨m, hm⟩ := gMinDef_ints 1000000000 l
  refine ⟨m, ?_⟩
  unfold F__law_ends S__law_ends
  simp only [runD_ev]
  simp [hl, p9, hm]
theorem E_meets {f : Fam} {v w : Wed} (h : (0 ≤ v.1 ∧ v.1 < f.length) ∧ (0 ≤ v.2.1 ∧ v.2.1 < f.length)) (k : (0 ≤ w.1 ∧ w.1 < f.length) ∧ (0 ≤ w.2.1 ∧ w.2.1 < f.length)) : ∃ b, F__law_meets [famD f, weD v, weD w] = .ok (.bool b) := by
  obtain ⟨e, he⟩ := E_ends h
  obtain ⟨g, hg⟩ := E_ends k
  refine ⟨decide (w.2.2 < e) && decide (v.2.2 < g), ?_⟩
  unfold F__law_meets S__law_meets
  simp only [runD_ev]
  simp [he, hg]
abbrev envW (c m : Int) (f : Fam) (ws : List Wed) : DL.Env := [.val (famD f), .val (.int c), .val (.int m), .own (ws.map weD), .no, .no, .no, .no, .no, .no, .no]
theorem wed_turn {c m x : Int} {f : Fam} {ws : List Wed} (h0 : 0 < f.length) (hx : 0 ≤ x ∧ x < 2147483647) (hw : ∀ w ∈ ws, WedOk f.length w) (hl : ws.length < 16777216) :
    ∃ ws', (∀ w ∈ ws', WedOk f.length w) ∧ ws'.length ≤ ws.length + 1 ∧ turnE [4, 5, 6, 7, 8, 9, 10] (gN 4) B__law_weddings_1 (.int x) (envW c m f ws) = .nx (envW c m f ws') := by
  have np : 0 < (f.length : Int) := by omega
  have a0 := Int.emod_nonneg x (b := (f.length : Int)) (by omega)
  have a1 := Int.emod_lt_of_pos x np
  have b0 := Int.emod_nonneg (x / 60) (b := (f.length : Int)) (by omega)
  have b1 := Int.emod_lt_of_pos (x / 60) np
  generalize ha : x % (f.length : Int) = a at *
  generalize hb : x / 60 % (f.length : Int) = b at *
  obtain ⟨p, hp⟩ := fam_lt a0 a1
  obtain ⟨q, hq⟩ := fam_lt b0 b1
  generalize hd : (if p.born < q.born then q.born else p.born) + x / 3600 % 40 = d
  have m1 : i2 gMod (.int x) (.int f.length) = .ok (.int a) := by rw [i2_mod np, ha]
  have m2 : i2 gMod (.int (x / 60)) (.int f.length) = .ok (.int b) := by rw [i2_mod np, hb]
  generalize hf0 : (decide (a ≠ b) && (alive p d && alive q d)) = f0
  have wn : (0 ≤ ((a, b, d) : Wed).1 ∧ ((a, b, d) : Wed).1 < f.length) ∧ (0 ≤ ((a, b, d) : Wed).2.1 ∧ ((a, b, d) : Wed).2.1 < f.length) := ⟨⟨a0, a1⟩, ⟨b0, b1⟩⟩
  -- the marriages so far
  obtain ⟨f1, hf1, r⟩ := loopL_inv (A := Bool) (fun z => [.val (famD f), .val (.int c), .val (.int m), .pin, .val (.int x), .val (.int a), .val (.int b), .val (.int d), .val (weD (a, b, d)), .val (.bool z), .no]) (is := [10]) (g := gN 10) (fb := B__law_weddings_0) (ds := ws.map weD) (fun _ z => z = true → f0 = true) (by
    intro i z e he hz
    rw [List.getElem?_map] at he
    cases hi : ws[i]? with
    | none => rw [hi] at he; cases he
    | some w =>
      rw [hi] at he
      cases he
      have wo := hw w (List.mem_of_getElem? hi)
      obtain ⟨t, ht⟩ := E_meets (f := f) wn ⟨wo.1, wo.2.1⟩
      by_cases hc : (a = w.1 ∨ a = w.2.1) ∨ (b = w.1 ∨ b = w.2.1)
      · refine ⟨z && !t, fun h => hz (by cases z <;> simp_all), ?_⟩
        unfold turnE B__law_weddings_0
        by_cases hc1 : a = w.1 ∨ a = w.2.1
        · cases z <;> simp [hc1, ht]
        · have hc2 := hc.resolve_left hc1
          cases z <;> simp [hc1, hc2, ht]
      · refine ⟨z, hz, ?_⟩
        unfold turnE B__law_weddings_0
        have hc1 : ¬ (a = w.1 ∨ a = w.2.1) := fun y => hc (.inl y)
        have hc2 : ¬ (b = w.1 ∨ b = w.2.1) := fun y => hc (.inr y)
        simp [hc1, hc2]) (a := f0) (δ := [.val (famD f), .val (.int c), .val (.int m), .pin, .val (.int x), .val (.int a), .val (.int b), .val (.int d), .val (weD (a, b, d)), .val (.bool f0), .no]) rfl id
  refine ⟨if f1 = true then ws ++ [(a, b, d)] else ws, fun w hw' => ?_, by split <;> simp, ?_⟩
  · split at hw'
    · rename_i hf
      rcases List.mem_append.mp hw' with z | z
      · exact hw w z
      · rw [List.mem_singleton] at z
        subst z
        have := hf1 hf
        rw [← hf0, Bool.and_eq_true, decide_eq_true_iff] at this
        exact ⟨wn.1, wn.2, this.1⟩
    · exact hw w hw'
  · refine turn_of (δ1 := [.val (famD f), .val (.int c), .val (.int m), .own (ws.map weD), .val (.int x), .no, .no, .no, .no, .no, .no]) (δ2 := [.val (famD f), .val (.int c), .val (.int m), .own ((if f1 = true then ws ++ [(a, b, d)] else ws).map weD), .val (.int x), .val (.int a), .val (.int b), .val (.int d), .val (weD (a, b, d)), .val (.bool f1), .no]) (by simp) ?_ (by simp)
    unfold B__law_weddings_1
    refine step (δ' := [.val (famD f), .val (.int c), .val (.int m), .own (ws.map weD), .val (.int x), .val (.int a), .no, .no, .no, .no, .no]) (by simp [m1]) ?_
    refine step (δ' := [.val (famD f), .val (.int c), .val (.int m), .own (ws.map weD), .val (.int x), .val (.int a), .val (.int b), .no, .no, .no, .no]) (by simp [div_sm, m2]) ?_
    refine step (δ' := [.val (famD f), .val (.int c), .val (.int m), .own (ws.map weD), .val (.int x), .val (.int a), .val (.int b), .val (.int d), .no, .no, .no]) (by simp [div_sm, i2_mod, fam_at a0 hp, fam_at b0 hq, hd]) ?_
    refine step (δ' := [.val (famD f), .val (.int c), .val (.int m), .own (ws.map weD), .val (.int x), .val (.int a), .val (.int b), .val (.int d), .val (weD (a, b, d)), .no, .no]) (by simp [weD]) ?_
    refine step (δ' := [.val (famD f), .val (.int c), .val (.int m), .own (ws.map weD), .val (.int x), .val (.int a), .val (.int b), .val (.int d), .val (weD (a, b, d)), .val (.bool f0), .no]) (by
      rw [← hf0]
      by_cases hab : a = b
      · subst hab; simp
      · cases h1 : alive p d <;> simp [hab, E_llives a0 hp, E_llives b0 hq, h1]) ?_
    refine step (δ' := [.val (famD f), .val (.int c), .val (.int m), .own (ws.map weD), .val (.int x), .val (.int a), .val (.int b), .val (.int d), .val (weD (a, b, d)), .val (.bool f1), .no]) (by simp [r]) ?_
    cases f1 <;> simp [hl]
theorem E_weddings {f : Fam} (c : Int) (n : Nat) (h0 : 0 < f.length) (hn : n ≤ 1000) : ∃ ws : List Wed, F__law_weddings [famD f, .int c, .int n] = .ok (ws.map weD) ∧ (∀ w ∈ ws, WedOk f.length w) ∧ ws.length ≤ n := by
  obtain ⟨xs, ex, xl, xo⟩ := E_stream c n (by omega)
  obtain ⟨ws, ⟨hw, hl⟩, r⟩ := loopL_inv (envW c n f) (is := [4, 5, 6, 7, 8, 9, 10]) (g := gN 4) (fb := B__law_weddings_1) (ds := xs.map PyData.int) (fun i ws => (∀ w ∈ ws, WedOk f.length w) ∧ (i ≤ n → ws.length ≤ i)) (by
    intro i ws d hd hi
    rw [List.getElem?_map] at hd
    cases hx : xs[i]? with
    | none => rw [hx] at hd; cases hd
    | some x =>
      rw [hx] at hd
      cases hd
      have hk := (List.getElem?_eq_some_iff.mp hx).1
      have := hi.2 (by omega)
      obtain ⟨ws', h1, h2, h3⟩ := wed_turn (c := c) (m := n) h0 (xo x (List.mem_of_getElem? hx)) hi.1 (by omega)
      exact ⟨ws', ⟨h1, fun _ => by omega⟩, h3⟩) (a := []) (δ := envW c n f []) rfl ⟨fun _ h => (nomatch h), fun _ => by simp⟩
  refine ⟨ws, ?_, hw, by have := hl (by rw [List.length_map, xl]; exact Nat.le_refl _); rw [List.length_map, xl] at this; exact this⟩
  unfold F__law_weddings S__law_weddings
  simp only [runF_ev]
  simp only [envW, List.map_nil] at r
  simp [ex, r]
/-- a gift as it is drawn -/
def GifOk (n : Nat) (g : Wed) : Prop := (0 ≤ g.1 ∧ g.1 < n) ∧ 0 < g.2.1 ∧ 0 < g.2.2 ∧ g.2.2 < 2 ^ 200
theorem E_gifts {f : Fam} (p x : Int) (h0 : 0 < f.length) (hx : 0 ≤ x ∧ x < 2147483647) : ∃ gs : List Wed, F__law_gifts [famD f, .int p, .int x] = .ok (gs.map weD) ∧ (∀ g ∈ gs, GifOk f.length g) ∧ gs.length ≤ 10 ∧ (∀ g ∈ gs, g.1 ≠ p) := by
  have np : 0 < (f.length : Int) := by omega
  obtain ⟨b, eb, b0, b1⟩ : ∃ b : Int, L2.atI [PyData.int 3, PyData.int 3, PyData.int 10] (x / 30 % 3) = some (.int b) ∧ 0 < b ∧ b ≤ 10 := by
    have : x / 30 % 3 = 0 ∨ x / 30 % 3 = 1 ∨ x / 30 % 3 = 2 := by omega
    rcases this with e | e | e <;> rw [e]
    · exact ⟨3, by simp, by decide, by decide⟩
    · exact ⟨3, by simp, by decide, by decide⟩
    · exact ⟨10, by simp, by decide, by decide⟩
  have mb0 := Int.emod_nonneg x (b := b) (by omega)
  have mb1 := Int.emod_lt_of_pos x b0
  obtain ⟨nm, ⟨hl, hn⟩, r⟩ := loopL_inv (A := List Int) (fun nm => [.val (famD f), .val (.int p), .val (.int x), .own (nm.map PyData.int), .no, .no, .no, .no]) (is := [4, 5]) (g := gN 4) (fb := B__law_gifts_0) (ds := (rgI (1 + x % b).toNat).map PyData.int) (fun i nm => nm.length ≤ i ∧ ∀ j ∈ nm, (0 ≤ j ∧ j < f.length) ∧ j ≠ p) (by
    intro i nm d hd hi
    obtain ⟨hi', rfl⟩ := rgI_at hd
    have mm : i2 gMul (.int (i : Int)) (.int (1 + x / 540 % 7)) = .ok (.int (i * (1 + x / 540 % 7))) := mul_sm (by omega) (by omega)
    have c0 := Int.emod_nonneg (x / 90 + i * (1 + x / 540 % 7)) (b := (f.length : Int)) (by omega)
    have c1 := Int.emod_lt_of_pos (x / 90 + i * (1 + x / 540 % 7)) np
    have mf : i2 gMod (.int (x / 90 + i * (1 + x / 540 % 7))) (.int f.length) = .ok (.int ((x / 90 + i * (1 + x / 540 % 7)) % f.length)) := i2_mod np
    generalize hc : (x / 90 + (i : Int) * (1 + x / 540 % 7)) % (f.length : Int) = cc at *
    have hlen : nm.length < 16777216 := by have := hi.1; omega
    by_cases h1 : cc = p
    · refine ⟨nm, ⟨by have := hi.1; omega, hi.2⟩, ?_⟩
      unfold turnE B__law_gifts_0
      simp [div_sm, i2_mod, mm, mf, h1]
    · by_cases h2 : cc ∈ nm
      · refine ⟨nm, ⟨by have := hi.1; omega, hi.2⟩, ?_⟩
        unfold turnE B__law_gifts_0
        simp [div_sm, i2_mod, mm, mf, h1, h2]
      · refine ⟨nm ++ [cc], ⟨by have := hi.1; simp; omega, fun j hj => ?_⟩, ?_⟩
        · rcases List.mem_append.mp hj with z | z
          · exact hi.2 j z
          · rw [List.mem_singleton] at z; subst z; exact ⟨⟨c0, c1⟩, h1⟩
        · unfold turnE B__law_gifts_0
          simp [div_sm, i2_mod, mm, mf, h1, h2, hlen]) (a := []) (δ := [.val (famD f), .val (.int p), .val (.int x), .own [], .no, .no, .no, .no]) rfl ⟨Nat.zero_le _, fun _ h => (nomatch h)⟩
  rw [List.length_map, rgI_len] at hl
  have hl10 : nm.length ≤ 10 := by omega
  obtain ⟨o, eo, o0, o1⟩ : ∃ o : Int, 1 + x / 3780 % 3 = o ∧ 0 < o ∧ o ≤ 3 := ⟨_, rfl, by omega, by omega⟩
  obtain ⟨m, em, m0, m1⟩ : ∃ m : Int, L2.atI [PyData.int (x / 11340 % 4), PyData.int (x / 11340 % 900)] (x / 7 % 2) = some (.int m) ∧ 0 ≤ m ∧ m < 900 := by
    have : x / 7 % 2 = 0 ∨ x / 7 % 2 = 1 := by omega
    rcases this with e | e <;> rw [e]
    · exact ⟨x / 11340 % 4, by simp, by omega, by omega⟩
    · exact ⟨x / 11340 % 900, by simp, by omega, by omega⟩
  have mo : i2 gMul (.int o) (.int nm.length) = .ok (.int (o * nm.length)) := mul_sm (by omega) (by omega)
  have ob : 0 ≤ o * (nm.length : Int) ∧ o * (nm.length : Int) ≤ 30 := by
    have : o = 1 ∨ o = 2 ∨ o = 3 := by omega
    rcases this with e | e | e <;> rw [e] <;> omega
  have op : nm ≠ [] → 0 < o * (nm.length : Int) := fun h => Int.mul_pos o0 (by cases hz : nm with | nil => exact absurd hz h | cons a l => simp)
  refine ⟨nm.map fun j => (j, o, o * (nm.length : Int) + m), ?_, fun g hg => ?_, by rw [List.length_map]; exact hl10, fun g hg => ?_⟩
  · have rm : gR1 (.int (1 + x % b)) = .ok ((rgI (1 + x % b).toNat).map PyData.int) := gR1_ok (by omega) (by omega)
    have cm : compF [5] (seqI (rD 3)) (gN 5) yesB (tupD (consA (vD 5) (consA (vD 6) (consA (addD (mulD (rD 6) (lenD (rD 3))) (rD 7)) nilA)))) [.val (famD f), .val (.int p), .val (.int x), .val (.list (nm.map PyData.int)), .no, .no, .val (.int o), .val (.int m)] = .ok (nm.map fun j => weD (j, o, o * (nm.length : Int) + m)) := by
      have := compF_map (vs := [5]) (fi := seqI (rD 3)) (g := gN 5) (ft := yesB) (fe := tupD (consA (vD 5) (consA (vD 6) (consA (addD (mulD (rD 6) (lenD (rD 3))) (rD 7)) nilA)))) (δ := [.val (famD f), .val (.int p), .val (.int x), .val (.list (nm.map PyData.int)), .no, .no, .val (.int o), .val (.int m)]) nm PyData.int (fun _ => true) (fun j => weD (j, o, o * (nm.length : Int) + m)) (by simp) (by omega) (fun j hj => ⟨_, rfl, by simp, fun _ => by simp [mo, weD]⟩)
      rw [this, List.filter_eq_self.mpr fun _ _ => rfl]
    unfold F__law_gifts S__law_gifts
    simp only [runF_ev]
    simp [i2_mod, i2_mod b0, div_sm, eb, rm, r, eo, em, cm]
  · obtain ⟨j, hj, rfl⟩ := List.mem_map.mp hg
    have := op (fun z => by rw [z] at hj; cases hj)
    exact ⟨(hn j hj).1, o0, by show 0 < o * (nm.length : Int) + m; omega, by show o * (nm.length : Int) + m < 2 ^ 200; omega⟩
  · obtain ⟨j, hj, rfl⟩ := List.mem_map.mp hg
    exact (hn j hj).2
/-- a gift in lowest terms -/
def gOf (g : Wed) : Gif := (g.1, g.2.1 / Int.gcd g.2.1 g.2.2, g.2.2 / Int.gcd g.2.1 g.2.2)
structure WilOk (f : Fam) (w : Wil) : Prop where
  who : 0 ≤ w.1 ∧ w.1 < f.length
  day : 0 ≤ w.2.1
  few : w.2.2.length ≤ 10
abbrev envL (c m : Int) (f : Fam) (ls : List Wil) : DL.Env := [.val (famD f), .val (.int c), .val (.int m), .own (ls.map wiD), .no, .no, .no, .no, .no, .no, .no]
theorem wil_turn {c m x : Int} {f : Fam} {ls : List Wil} (hf : FamOk f) (h0 : 0 < f.length) (hx : 0 ≤ x ∧ x < 2147483647) (hw : ∀ w ∈ ls, WilOk f w) (hl : ls.length < 16777216) :
    ∃ ls', (∀ w ∈ ls', WilOk f w) ∧ ls'.length ≤ ls.length + 1 ∧ turnE [4, 5, 6, 7] (gN 4) B__law_wills_0 (.int x) (envL c m f ls) = .nx (envL c m f ls') := by
  have np : 0 < (f.length : Int) := by omega
  have a0 := Int.emod_nonneg x (b := (f.length : Int)) (by omega)
  have a1 := Int.emod_lt_of_pos x np
  have m1 : i2 gMod (.int x) (.int f.length) = .ok (.int (x % f.length)) := i2_mod np
  generalize ha : x % (f.length : Int) = a at *
  obtain ⟨p, hp⟩ := fam_lt a0 a1
  have pok := hf p (List.mem_of_getElem? hp)
  have pb := pok.b0
  obtain ⟨gs, eg, g1, g2, _⟩ := E_gifts (f := f) a (x / 1800) h0 (by omega)
  have cm : ∀ s1 s2 s3 s4, compF [8, 9, 10] (seqI (rD 7)) (gT 3 (gCons (gN 8) (gCons (gN 9) (gCons (gN 10) gNil)))) yesB (tupD (consA (vD 8) (consA (callD 2 F__law_lowest (consA (vD 9) (consA (vD 10) nilA))) nilA))) [s1, s2, s3, s4, .val (.int x), .val (.int a), .val (.int (p.born + x / 60 % 30)), .val (.list (gs.map weD)), .no, .no, .no] = .ok ((gs.map gOf).map giD) := by
    intro s1 s2 s3 s4
    have := compF_map (vs := [8, 9, 10]) (fi := seqI (rD 7)) (g := gT 3 (gCons (gN 8) (gCons (gN 9) (gCons (gN 10) gNil)))) (ft := yesB) (fe := tupD (consA (vD 8) (consA (callD 2 F__law_lowest (consA (vD 9) (consA (vD 10) nilA))) nilA))) (δ := [s1, s2, s3, s4, .val (.int x), .val (.int a), .val (.int (p.born + x / 60 % 30)), .val (.list (gs.map weD)), .no, .no, .no]) gs weD (fun _ => true) (fun g => giD (gOf g)) (by simp) (by omega) (fun g hg => ⟨_, gT_we g _ _, by simp, fun _ => by
      have := g1 g hg
      simp [E_lowest _ _ this.2.2.1 this.2.2.2, giD, gOf, low]⟩)
    rw [this, List.filter_eq_self.mpr fun _ _ => rfl, List.map_map]; rfl
  refine ⟨if gs ≠ [] ∧ (∀ y, p.died = some y → p.born + x / 60 % 30 ≤ y) then ls ++ [(a, p.born + x / 60 % 30, gs.map gOf)] else ls, fun w hw' => ?_, by split <;> simp, ?_⟩
  · split at hw'
    · rcases List.mem_append.mp hw' with z | z
      · exact hw w z
      · rw [List.mem_singleton] at z
        subst z
        exact ⟨⟨a0, a1⟩, by show 0 ≤ p.born + x / 60 % 30; omega, by show (gs.map gOf).length ≤ 10; rw [List.length_map]; exact g2⟩
    · exact hw w hw'
  · have hne : gNe (.list (gs.map weD)) (.list []) = .ok (!decide (gs = [])) := by
      refine gNe_of (n := 3) (m := 1) ?_ (by decide) rfl (by decide) (by simp)
      show plainA 2 (gs.map weD) = true
      rw [plainA_iff]
      intro d hd
      obtain ⟨i, _, rfl⟩ := List.mem_map.mp hd
      exact plain_we 1 i
    refine turn_of (δ1 := [.val (famD f), .val (.int c), .val (.int m), .own (ls.map wiD), .val (.int x), .no, .no, .no, .no, .no, .no]) (δ2 := [.val (famD f), .val (.int c), .val (.int m), .own ((if gs ≠ [] ∧ (∀ y, p.died = some y → p.born + x / 60 % 30 ≤ y) then ls ++ [(a, p.born + x / 60 % 30, gs.map gOf)] else ls).map wiD), .val (.int x), .val (.int a), .val (.int (p.born + x / 60 % 30)), .val (.list (gs.map weD)), .no, .no, .no]) (by simp) ?_ (by simp)
    unfold B__law_wills_0
    refine step (δ' := [.val (famD f), .val (.int c), .val (.int m), .own (ls.map wiD), .val (.int x), .val (.int a), .no, .no, .no, .no, .no]) (by simp [m1]) ?_
    refine step (δ' := [.val (famD f), .val (.int c), .val (.int m), .own (ls.map wiD), .val (.int x), .val (.int a), .val (.int (p.born + x / 60 % 30)), .no, .no, .no, .no]) (by simp [div_sm, i2_mod, fam_at a0 hp]) ?_
    refine step (δ' := [.val (famD f), .val (.int c), .val (.int m), .own (ls.map wiD), .val (.int x), .val (.int a), .val (.int (p.born + x / 60 % 30)), .val (.list (gs.map weD)), .no, .no, .no]) (by simp [div_sm, eg]) ?_
    by_cases h1 : gs = []
    · simp [h1]
    · cases hd : p.died with
      | none =>
        have : wiD (a, p.born + x / 60 % 30, gs.map gOf) = .tuple [.int a, .int (p.born + x / 60 % 30), .tuple ((gs.map gOf).map giD)] := rfl
        simp only [List.map_map] at this
        simp [hne, h1, fam_at a0 hp, hd, cm, hl, this]
      | some y =>
        have : wiD (a, p.born + x / 60 % 30, gs.map gOf) = .tuple [.int a, .int (p.born + x / 60 % 30), .tuple ((gs.map gOf).map giD)] := rfl
        simp only [List.map_map] at this
        by_cases h2 : p.born + x / 60 % 30 ≤ y
        · simp [hne, h1, fam_at a0 hp, hd, cm, hl, this, h2]
        · simp [hne, h1, fam_at a0 hp, hd, h2]
theorem E_wills {f : Fam} (c : Int) (n : Nat) (hf : FamOk f) (h0 : 0 < f.length) (hn : n ≤ 1000) : ∃ ls : List Wil, F__law_wills [famD f, .int c, .int n] = .ok (ls.map wiD) ∧ (∀ w ∈ ls, WilOk f w) ∧ ls.length ≤ n := by
  obtain ⟨xs, ex, xl, xo⟩ := E_stream c n (by omega)
  obtain ⟨ls, ⟨hw, hl⟩, r⟩ := loopL_inv (envL c n f) (is := [4, 5, 6, 7]) (g := gN 4) (fb := B__law_wills_0) (ds := xs.map PyData.int) (fun i ls => (∀ w ∈ ls, WilOk f w) ∧ (i ≤ n → ls.length ≤ i)) (by
    intro i ls d hd hi
    rw [List.getElem?_map] at hd
    cases hx : xs[i]? with
    | none => rw [hx] at hd; cases hd
    | some x =>
      rw [hx] at hd
      cases hd
      have hk := (List.getElem?_eq_some_iff.mp hx).1
      have := hi.2 (by omega)
      obtain ⟨ls', h1, h2, h3⟩ := wil_turn (c := c) (m := n) hf h0 (xo x (List.mem_of_getElem? hx)) hi.1 (by omega)
      exact ⟨ls', ⟨h1, fun _ => by omega⟩, h3⟩) (a := []) (δ := envL c n f []) rfl ⟨fun _ h => (nomatch h), fun _ => by simp⟩
  refine ⟨ls, ?_, hw, by have := hl (by rw [List.length_map, xl]; exact Nat.le_refl _); rw [List.length_map, xl] at this; exact this⟩
  unfold F__law_wills S__law_wills
  simp only [runF_ev]
  simp only [envL, List.map_nil] at r
  simp [ex, r]
/-- whom p is married to by w on day t, alive -/
def mate (f : Fam) (p t : Int) (w : Wed) : Option Int :=
  if w.2.2 ≤ t then (if p = w.1 then (if (f[w.2.1.toNat]?).any (fun q => alive q t) = true then some w.2.1 else none) else if p = w.2.1 then (if (f[w.1.toNat]?).any (fun q => alive q t) = true then some w.1 else none) else none) else none
theorem spouse_loop {f : Fam} {p t : Int} {r3 r5 : D} {s0 : Sl} : ∀ {ws : List Wed}, (∀ w ∈ ws, WedOk f.length w) →
    loopL [6, 7, 8, 9] (gT 3 (gCons (gN 6) (gCons (gN 7) (gCons (gN 8) gNil)))) B_spouse_on_0 (ws.map weD) [s0, .val (.int p), .val (.int t), .val (famD f), .val r3, .val r5, .no, .no, .no, .no] = match (ws.filterMap (mate f p t)).head? with
      | some m => .rt (.int m)
      | none => .nx [s0, .val (.int p), .val (.int t), .val (famD f), .val r3, .val r5, .no, .no, .no, .no]
  | [], _ => rfl
  | w :: ws, h => by
    have ih := spouse_loop (f := f) (p := p) (t := t) (r3 := r3) (r5 := r5) (s0 := s0) (ws := ws) fun w hw => h w (List.mem_cons_of_mem _ hw)
    obtain ⟨⟨a0, a1⟩, ⟨b0, b1⟩, ab⟩ := h w List.mem_cons_self
    obtain ⟨x, hx⟩ := fam_lt a0 a1
    obtain ⟨y, hy⟩ := fam_lt b0 b1
    have key : turnE [6, 7, 8, 9] (gT 3 (gCons (gN 6) (gCons (gN 7) (gCons (gN 8) gNil)))) B_spouse_on_0 (weD w) [s0, .val (.int p), .val (.int t), .val (famD f), .val r3, .val r5, .no, .no, .no, .no] = match mate f p t w with
      | some m => .rt (.int m)
      | none => .nx [s0, .val (.int p), .val (.int t), .val (famD f), .val r3, .val r5, .no, .no, .no, .no] := by
      unfold turnE B_spouse_on_0 mate
      by_cases h1 : w.2.2 ≤ t
      · by_cases h2 : p = w.1
        · have e : w.1 + w.2.1 - p = w.2.1 := by omega
          have := E_lives (t := t) b0 hy
          cases h3 : alive y t <;> simp [h1, h2, hy, h3] <;> (rw [h2] at e; simp [e, this, h3])
        · by_cases h4 : p = w.2.1
          · have e : w.1 + w.2.1 - p = w.1 := by omega
            have := E_lives (t := t) a0 hx
            have h5 : ¬ w.2.1 = w.1 := fun z => ab z.symm
            cases h3 : alive x t <;> simp [h1, h4, hx, h3, h5] <;> (rw [h4] at e; simp [e, this, h3])
          · simp [h1, h2, h4]
      · simp [h1]
    rw [List.map_cons, List.filterMap_cons]
    cases hm : mate f p t w with
    | none => rw [hm] at key; rw [loopL_nx key, ih]
    | some m => rw [hm] at key; rw [loopL_rt key]; rfl
theorem E_spouse_on {f : Fam} {ws : List Wed} {ls : List Wil} {p t : Int} (h : ∀ w ∈ ws, WedOk f.length w) : F_spouse_on [rollD f ws ls, .int p, .int t] = .ok (oiD (ws.filterMap (mate f p t)).head?) := by
  have r := spouse_loop (f := f) (p := p) (t := t) (r3 := .list (ws.map weD)) (r5 := .list (ls.map wiD)) (s0 := .val (rollD f ws ls)) h
  unfold F_spouse_on S_spouse_on
  simp only [runD_ev]
  cases hm : (ws.filterMap (mate f p t)).head? with
  | none => rw [hm] at r; simp [r]
  | some m => rw [hm] at r; simp [r]
theorem E_lspouse {f : Fam} {ws : List Wed} {ls : List Wil} {p t : Int} (h : ∀ w ∈ ws, WedOk f.length w) (hl : ws.length ≤ 1000) : F__law_spouse [rollD f ws ls, .int p, .int t] = .ok (oiD (ws.filterMap (mate f p t)).head?) := by
  obtain ⟨ms, ⟨hm, hn⟩, r⟩ := loopL_inv (A := List Int) (fun ms => [.val (rollD f ws ls), .val (.int p), .val (.int t), .own (ms.map PyData.int), .no, .no, .no]) (is := [4, 5, 6]) (g := gT 3 (gCons (gN 4) (gCons (gN 5) (gCons (gN 6) gNil)))) (fb := B__law_spouse_0) (ds := ws.map weD) (fun i ms => ms = (ws.take i).filterMap (mate f p t) ∧ ms.length ≤ i) (by
    intro i ms d hd hi
    rw [List.getElem?_map] at hd
    cases hw : ws[i]? with
    | none => rw [hw] at hd; cases hd
    | some w =>
      rw [hw] at hd
      cases hd
      have hk := (List.getElem?_eq_some_iff.mp hw).1
      have hlen : ms.length < 16777216 := by have := hi.2; omega
      obtain ⟨⟨a0, a1⟩, ⟨b0, b1⟩, ab⟩ := h w (List.mem_of_getElem? hw)
      obtain ⟨x, hx⟩ := fam_lt a0 a1
      obtain ⟨y, hy⟩ := fam_lt b0 b1
      have ex := E_llives (t := t) a0 hx
      have ey := E_llives (t := t) b0 hy
      have ba : ¬ w.2.1 = w.1 := fun z => ab z.symm
      refine ⟨ms ++ (mate f p t w).toList, ⟨?_, ?_⟩, ?_⟩
      · rw [List.take_add_one, hw, List.filterMap_append, ← hi.1]
        cases hm : mate f p t w <;> simp [hm]
      · have := hi.2
        cases mate f p t w <;> simp <;> omega
      · unfold turnE B__law_spouse_0 mate
        by_cases h1 : w.2.2 ≤ t
        · by_cases h2 : p = w.1
          · subst h2
            cases h3 : alive y t <;> simp [h1, hy, h3, ey, hlen, ba]
          · have h2' : ¬ w.1 = p := fun z => h2 z.symm
            by_cases h4 : p = w.2.1
            · subst h4
              cases h3 : alive x t <;> simp [h1, hx, h3, ex, hlen, ab, ba]
            · have h4' : ¬ w.2.1 = p := fun z => h4 z.symm
              simp [h1, h2, h4, h2', h4']
        · simp [h1]) (a := []) (δ := [.val (rollD f ws ls), .val (.int p), .val (.int t), .own [], .no, .no, .no]) rfl ⟨rfl, Nat.zero_le _⟩
  rw [List.length_map, List.take_length] at hm
  rw [List.length_map] at hn
  have hz : (ms.map PyData.int ++ [PyData.none]).length ≤ 16777216 := by simp; omega
  unfold F__law_spouse S__law_spouse
  simp only [runD_ev]
  rw [← hm]
  simp [r, szL_ok hz]
  cases ms <;> simp
/-- the will that counts: the last of the latest -/
def stepW (p t : Int) (acc : List Gif × Int) (w : Wil) : List Gif × Int := if w.1 = p ∧ acc.2 ≤ w.2.1 ∧ w.2.1 ≤ t then (w.2.2, w.2.1) else acc
def willOf (ls : List Wil) (p t : Int) : List Gif := (ls.foldl (stepW p t) ([], -1)).1
theorem will_loop {p t : Int} {s0 : Sl} : ∀ (ls : List Wil) (acc : List Gif × Int),
    loopL [5, 6, 7] (gT 3 (gCons (gN 5) (gCons (gN 6) (gCons (gN 7) gNil)))) B_will_on_0 (ls.map wiD) [s0, .val (.int p), .val (.int t), .val (.tuple (acc.1.map giD)), .val (.int acc.2), .no, .no, .no] =
      .nx [s0, .val (.int p), .val (.int t), .val (.tuple ((ls.foldl (stepW p t) acc).1.map giD)), .val (.int (ls.foldl (stepW p t) acc).2), .no, .no, .no]
  | [], acc => rfl
  | w :: ls, acc => by
    have key : turnE [5, 6, 7] (gT 3 (gCons (gN 5) (gCons (gN 6) (gCons (gN 7) gNil)))) B_will_on_0 (wiD w) [s0, .val (.int p), .val (.int t), .val (.tuple (acc.1.map giD)), .val (.int acc.2), .no, .no, .no] =
        .nx [s0, .val (.int p), .val (.int t), .val (.tuple ((stepW p t acc w).1.map giD)), .val (.int (stepW p t acc w).2), .no, .no, .no] := by
      unfold turnE B_will_on_0 stepW
      by_cases h1 : w.1 = p
      · by_cases h2 : acc.2 ≤ w.2.1
        · by_cases h3 : w.2.1 ≤ t <;> simp [h1, h2, h3]
        · simp [h1, h2]
      · simp [h1]
    rw [List.map_cons, loopL_nx key, will_loop ls (stepW p t acc w)]
    rfl
theorem E_will_on {f : Fam} {ws : List Wed} {ls : List Wil} {p t : Int} : F_will_on [rollD f ws ls, .int p, .int t] = .ok (.tuple ((willOf ls p t).map giD)) := by
  have r := will_loop (p := p) (t := t) (s0 := .val (rollD f ws ls)) ls ([], -1)
  unfold F_will_on S_will_on
  simp only [runD_ev]
  simp only [List.map_nil] at r
  simp [r, willOf]
/-! the same by the greatest -/
def pkD (x : Int × Int) : D := .tuple [.int x.1, .int x.2]
def pick (a y : Int × Int) : Int × Int := if a.1 < y.1 ∨ (a.1 = y.1 ∧ a.2 < y.2) then y else a
theorem maxD_pairs : ∀ (xs : List (Int × Int)) (x : Int × Int), PySem.W.maxD (pkD x) (xs.map pkD) = pkD (xs.foldl pick x)
  | [], x => rfl
  | y :: xs, x => by
    have := maxD_pairs xs (pick x y)
    unfold PySem.W.maxD at this ⊢
    rw [List.map_cons, List.foldl_cons, List.foldl_cons, ← this]
    congr 1
    unfold pick
    rw [show PySem.W.dataLt (pkD x) (pkD y) = _ from dataLt_pair x.1 x.2 y.1 y.2]
    by_cases h : x.1 < y.1 ∨ x.1 = y.1 ∧ x.2 < y.2
    · rw [if_pos h, if_pos (by simpa using h)]
    · rw [if_neg h, if_neg (by simpa using h)]
theorem ordOk_pairs (xs : List (Int × Int)) : ordOk (xs.map pkD) = true := by
  have hp : DL.plainA 1 (xs.map pkD) = true := by
    rw [plainA_iff]
    intro d hd
    obtain ⟨x, _, rfl⟩ := List.mem_map.mp hd
    simp [pkD, DL.plain, DL.plainA]
  unfold ordOk
  have h := plainA_lay 1 (xs.map pkD) hp
  rw [h.1, decide_eq_true (by omega), Bool.true_and, Bool.true_and]
  refine List.all_eq_true.mpr fun x hx => List.all_eq_true.mpr fun y hy => ?_
  obtain ⟨i, _, rfl⟩ := List.mem_map.mp hx
  obtain ⟨j, _, rfl⟩ := List.mem_map.mp hy
  have : PySem.W.alike (pkD i) (pkD j) = true := by simp only [pkD, PySem.W.alike, PySem.W.alikeAll, Bool.and_self]
  rw [this]; rfl
theorem gMax1_pairs (x : Int × Int) (xs : List (Int × Int)) : gMax1 (.list ((x :: xs).map pkD)) = .ok (pkD (xs.foldl pick x)) := by
  have ho := ordOk_pairs (x :: xs)
  show (if ordOk ((x :: xs).map pkD) = true then Res.ok (PySem.W.maxD (pkD x) (xs.map pkD)) else .err) = _
  rw [if_pos ho, maxD_pairs]
/-- item and place -/
abbrev WK := Wil × Nat
def wkD (x : WK) : D := .tuple [.int x.2, wiD x.1]
def wkey (x : WK) : Int × Int := (x.1.2.1, (x.2 : Int))
theorem enL_wills : ∀ (ls : List Wil) (k : Nat), enL k (ls.map wiD) = (ls.zipIdx k).map wkD
  | [], _ => rfl
  | w :: ls, k => by
    show PyData.tuple [.int (k : Nat), wiD w] :: enL (k + 1) (ls.map wiD) = _
    rw [enL_wills ls (k + 1)]; rfl
def stepK (acc : List Gif × Int) (x : WK) : List Gif × Int := if acc.2 ≤ x.1.2.1 then (x.1.2.2, x.1.2.1) else acc
def condK (p t : Int) (x : WK) : Bool := decide (x.1.1 = p) && decide (x.1.2.1 ≤ t)
theorem fold_cond (p t : Int) : ∀ (ls : List Wil) (k : Nat) (acc : List Gif × Int), ls.foldl (stepW p t) acc = ((ls.zipIdx k).filter (condK p t)).foldl stepK acc
  | [], _, _ => rfl
  | w :: ls, k, acc => by
    rw [List.zipIdx_cons, List.foldl_cons, List.filter_cons, fold_cond p t ls (k + 1)]
    unfold condK stepW
    by_cases h1 : w.1 = p
    · by_cases h3 : w.2.1 ≤ t
      · by_cases h2 : acc.2 ≤ w.2.1 <;> simp [h1, h2, h3, stepK]
      · simp [h1, h3]
    · simp [h1]
theorem pick_run (ls : List Wil) : ∀ (L : List WK) (a : Int × Int) (acc : List Gif × Int) (k : Nat) (w : Wil), acc.2 = a.1 → a.2 = (k : Int) → ls[k]? = some w → acc.1 = w.2.2 → (∀ y ∈ L, k < y.2) → L.Pairwise (fun x y => x.2 < y.2) → (∀ y ∈ L, ls[y.2]? = some y.1) →
    ∃ (k' : Nat) (w' : Wil), ((L.map wkey).foldl pick a).2 = (k' : Int) ∧ ls[k']? = some w' ∧ (L.foldl stepK acc).1 = w'.2.2
  | [], a, acc, k, w, h1, h2, h3, h4, _, _, _ => ⟨k, w, h2, h3, h4⟩
  | y :: L, a, acc, k, w, h1, h2, h3, h4, h5, h6, h7 => by
    rw [List.map_cons, List.foldl_cons, List.foldl_cons]
    have hy := h5 y List.mem_cons_self
    have h6' := List.pairwise_cons.mp h6
    by_cases hc : a.1 ≤ y.1.2.1
    · have e1 : pick a (wkey y) = wkey y := by
        unfold pick wkey
        rw [if_pos]
        simp only
        omega
      have e2 : stepK acc y = (y.1.2.2, y.1.2.1) := by unfold stepK; rw [if_pos (by omega)]
      rw [e1, e2]
      exact pick_run ls L _ _ y.2 y.1 rfl rfl (h7 y List.mem_cons_self) rfl (fun z hz => h6'.1 z hz) h6'.2 fun z hz => h7 z (List.mem_cons_of_mem _ hz)
    · have e1 : pick a (wkey y) = a := by
        unfold pick wkey
        rw [if_neg]
        simp only
        omega
      have e2 : stepK acc y = acc := by unfold stepK; rw [if_neg (by omega)]
      rw [e1, e2]
      exact pick_run ls L a acc k w h1 h2 h3 h4 (fun z hz => h5 z (List.mem_cons_of_mem _ hz)) h6'.2 fun z hz => h7 z (List.mem_cons_of_mem _ hz)
theorem zip_pw : ∀ (ls : List Wil) (k : Nat), (ls.zipIdx k).Pairwise (fun x y => x.2 < y.2) ∧ ∀ y ∈ ls.zipIdx k, k ≤ y.2 ∧ ls[y.2 - k]? = some y.1
  | [], _ => ⟨List.Pairwise.nil, fun _ h => (nomatch h)⟩
  | w :: ls, k => by
    obtain ⟨h1, h2⟩ := zip_pw ls (k + 1)
    rw [List.zipIdx_cons]
    refine ⟨List.pairwise_cons.mpr ⟨fun y hy => by have := (h2 y hy).1; show k < y.2; omega, h1⟩, fun y hy => ?_⟩
    rcases List.mem_cons.mp hy with z | z
    · subst z; exact ⟨Nat.le_refl _, by simp⟩
    · obtain ⟨a, b⟩ := h2 y z
      refine ⟨by omega, ?_⟩
      have : y.2 - k = (y.2 - (k + 1)) + 1 := by omega
      rw [this]; simpa using b
theorem will_same {f : Fam} (ls : List Wil) (p t : Int) (h : ∀ w ∈ ls, WilOk f w) : match (ls.zipIdx.filter (condK p t)).map wkey with
    | [] => willOf ls p t = []
    | x :: xs => ∃ (k : Nat) (w : Wil), (xs.foldl pick x).2 = (k : Int) ∧ ls[k]? = some w ∧ willOf ls p t = w.2.2 := by
  unfold willOf
  rw [fold_cond p t ls 0]
  obtain ⟨pw, mem⟩ := zip_pw ls 0
  cases hL : ls.zipIdx.filter (condK p t) with
  | nil => rfl
  | cons y L =>
    have hy : ∀ z ∈ y :: L, z ∈ ls.zipIdx := fun z hz => (List.mem_filter.mp (hL ▸ hz)).1
    have pf : (y :: L).Pairwise (fun x y => x.2 < y.2) := hL ▸ pw.filter _
    have pf' := List.pairwise_cons.mp pf
    have at_ : ∀ z ∈ y :: L, ls[z.2]? = some z.1 := fun z hz => by have := (mem z (hy z hz)).2; simpa using this
    have day := (h y.1 (List.mem_of_getElem? (at_ y List.mem_cons_self))).day
    obtain ⟨k, w, k1, k2, k3⟩ := pick_run ls L (wkey y) (y.1.2.2, y.1.2.1) y.2 y.1 rfl rfl (at_ y List.mem_cons_self) rfl pf'.1 pf'.2 fun z hz => at_ z (List.mem_cons_of_mem _ hz)
    refine ⟨k, w, k1, k2, ?_⟩
    rw [List.foldl_cons]
    have : stepK ([], -1) y = (y.1.2.2, y.1.2.1) := by unfold stepK; rw [if_pos (by show (-1 : Int) ≤ y.1.2.1; omega)]
    rw [this]; exact k3
theorem E_lwill {f : Fam} {ws : List Wed} {ls : List Wil} {p t : Int} (h : ∀ w ∈ ls, WilOk f w) (hl : ls.length ≤ 1000) : F__law_will [rollD f ws ls, .int p, .int t] = .ok (.tuple ((willOf ls p t).map giD)) := by
  have cm : compF [4, 5, 6, 7] (enI (ixD (rD 0) (cD (.int 2)))) (gT 2 (gCons (gN 4) (gCons (gT 3 (gCons (gN 5) (gCons (gN 6) (gCons (gN 7) gNil)))) gNil))) (andB (eqB (rD 5) (rD 1)) (leB (rD 6) (rD 2))) (tupD (consA (vD 6) (consA (vD 4) nilA))) [.val (rollD f ws ls), .val (.int p), .val (.int t), .no, .no, .no, .no, .no] = .ok (((ls.zipIdx.filter (condK p t)).map wkey).map pkD) := by
    have := compF_map (vs := [4, 5, 6, 7]) (fi := enI (ixD (rD 0) (cD (.int 2)))) (g := gT 2 (gCons (gN 4) (gCons (gT 3 (gCons (gN 5) (gCons (gN 6) (gCons (gN 7) gNil)))) gNil))) (ft := andB (eqB (rD 5) (rD 1)) (leB (rD 6) (rD 2))) (fe := tupD (consA (vD 6) (consA (vD 4) nilA))) (δ := [.val (rollD f ws ls), .val (.int p), .val (.int t), .no, .no, .no, .no, .no]) ls.zipIdx wkD (condK p t) (fun x => pkD (wkey x)) (by simp [enL_wills]) (by rw [List.length_zipIdx]; omega) (fun x hx => ⟨_, by unfold wkD; simp; rfl, by
      unfold condK
      by_cases h1 : x.1.1 = p <;> simp [h1], fun _ => by simp [pkD, wkey]⟩)
    rw [this, List.map_map]; rfl
  have ws_ := will_same ls p t h
  generalize hK : (ls.zipIdx.filter (condK p t)).map wkey = K at *
  unfold F__law_will S__law_will
  simp only [runD_ev]
  cases K with
  | nil =>
    have ws_ : willOf ls p t = [] := ws_
    rw [ws_]
    simp [cm]
  | cons x xs =>
    obtain ⟨k, w, k1, k2, k3⟩ := ws_
    have hg : gEq (.list ((x :: xs).map pkD)) (.list []) = .ok false := by
      have := gEq_of (n := 3) (m := 1) (d := .list ((x :: xs).map pkD)) (e := .list []) (p := False) (by
        show DL.plainA 2 ((x :: xs).map pkD) = true
        rw [plainA_iff]
        intro d hd
        obtain ⟨y, _, rfl⟩ := List.mem_map.mp hd
        simp [pkD, DL.plain, DL.plainA]) (by decide) rfl (by decide) (by simp)
      simpa using this
    have gm := gMax1_pairs x xs
    have ix : gIx (pkD (xs.foldl pick x)) (.int 1) = .ok (.int k) := by unfold pkD; simp [k1]
    rw [k3]
    rw [List.map_cons] at hg gm cm
    simp [cm, hg, gm, ix, k2]
theorem died_map (f : Fam) : ((f.filter fun p => p.died.isSome).map fun p => oiD p.died) = (f.filterMap Per.died).map PyData.int := by
  induction f with
  | nil => rfl
  | cons p f ih =>
    rw [List.filter_cons, List.filterMap_cons]
    cases h : p.died with
    | none => simp [ih]
    | some d => simp [ih, h]
theorem E_days {f : Fam} {ws : List Wed} {ls : List Wil} {p : Int} (y : Int) (h0 : 0 ≤ p) (h1 : p < f.length) (hf : f.length ≤ 1000) (hw : ws.length ≤ 1000) (hl : ls.length ≤ 1000) : ∃ t, F__law_days [rollD f ws ls, .int p, .int y] = .ok (.int t) := by
  obtain ⟨q, hq⟩ := fam_lt h0 h1
  have c1 : compF [4] (seqI (ixD (rD 0) (cD (.int 1)))) (gN 4) yesB (ixD (rD 4) (cD (.int 2))) [.val (rollD f ws ls), .val (.int p), .val (.int y), .no, .no] = .ok ((ws.map fun w => w.2.2).map PyData.int) := by
    have := compF_map (vs := [4]) (fi := seqI (ixD (rD 0) (cD (.int 1)))) (g := gN 4) (ft := yesB) (fe := ixD (rD 4) (cD (.int 2))) (δ := [.val (rollD f ws ls), .val (.int p), .val (.int y), .no, .no]) ws weD (fun _ => true) (fun w => .int w.2.2) (by simp) (by omega) (fun w hw => ⟨_, rfl, by simp, fun _ => by simp⟩)
    rw [this, List.filter_eq_self.mpr fun _ _ => rfl, List.map_map]; rfl
  have c2 : compF [4] (seqI (ixD (rD 0) (cD (.int 2)))) (gN 4) yesB (ixD (rD 4) (cD (.int 1))) [.val (rollD f ws ls), .val (.int p), .val (.int y), .no, .no] = .ok ((ls.map fun w => w.2.1).map PyData.int) := by
    have := compF_map (vs := [4]) (fi := seqI (ixD (rD 0) (cD (.int 2)))) (g := gN 4) (ft := yesB) (fe := ixD (rD 4) (cD (.int 1))) (δ := [.val (rollD f ws ls), .val (.int p), .val (.int y), .no, .no]) ls wiD (fun _ => true) (fun w => .int w.2.1) (by simp) (by omega) (fun w hw => ⟨_, rfl, by simp, fun _ => by simp⟩)
    rw [this, List.filter_eq_self.mpr fun _ _ => rfl, List.map_map]; rfl
  have c3 : ∀ s3, compF [4] (seqI (ixD (rD 0) (cD (.int 0)))) (gN 4) (notNB (ixD (rD 4) (cD (.int 3)))) (ixD (rD 4) (cD (.int 3))) [.val (rollD f ws ls), .val (.int p), .val (.int y), s3, .no] = .ok ((f.filterMap Per.died).map PyData.int) := by
    intro s3
    have := compF_map (vs := [4]) (fi := seqI (ixD (rD 0) (cD (.int 0)))) (g := gN 4) (ft := notNB (ixD (rD 4) (cD (.int 3)))) (fe := ixD (rD 4) (cD (.int 3))) (δ := [.val (rollD f ws ls), .val (.int p), .val (.int y), s3, .no]) f perD (fun p => p.died.isSome) (fun p => oiD p.died) (by simp) (by omega) (fun w hw => ⟨_, rfl, by simp, fun _ => by simp⟩)
    rw [this, died_map]
  have hd : (f.filterMap Per.died).length ≤ f.length := List.length_filterMap_le _ _
  have z1 : szL (PyData.int q.born :: (ws.map fun w => w.2.2).map PyData.int) = .ok (PyData.int q.born :: (ws.map fun w => w.2.2).map PyData.int) := szL_ok (by simp; omega)
  have z2 : szL (PyData.int q.born :: ((ws.map fun w => w.2.2).map PyData.int ++ (ls.map fun w => w.2.1).map PyData.int)) = .ok (PyData.int q.born :: ((ws.map fun w => w.2.2).map PyData.int ++ (ls.map fun w => w.2.1).map PyData.int)) := szL_ok (by simp; omega)
  have z3 : szL (PyData.int q.born :: ((ws.map fun w => w.2.2).map PyData.int ++ ((ls.map fun w => w.2.1).map PyData.int ++ (f.filterMap Per.died).map PyData.int))) = .ok (PyData.int q.born :: ((ws.map fun w => w.2.2).map PyData.int ++ ((ls.map fun w => w.2.1).map PyData.int ++ (f.filterMap Per.died).map PyData.int))) := szL_ok (by simp; omega)
  generalize hL : (q.born :: ((ws.map fun w => w.2.2) ++ ((ls.map fun w => w.2.1) ++ f.filterMap Per.died))) = L at *
  have hLD : (PyData.int q.born :: ((ws.map fun w => w.2.2).map PyData.int ++ ((ls.map fun w => w.2.1).map PyData.int ++ (f.filterMap Per.died).map PyData.int))) = L.map PyData.int := by
    rw [← hL, List.map_cons, List.map_append, List.map_append]
  have hne : L ≠ [] := by rw [← hL]; simp
  have hp0 : 0 < (L.length : Int) := by rw [← hL]; simp; omega
  obtain ⟨j, _, ej⟩ := mem_at hne (Int.emod_nonneg (y / 5) (by omega)) (Int.emod_lt_of_pos (y / 5) hp0)
  rw [hLD] at z3
  unfold F__law_days S__law_days
  simp only [runD_ev]
  have s0 : startE 5 [rollD f ws ls, .int p, .int y] = [.val (rollD f ws ls), .val (.int p), .val (.int y), .no, .no] := rfl
  rw [s0, step (δ' := [.val (rollD f ws ls), .val (.int p), .val (.int y), .val (.list (PyData.int q.born :: ((ws.map fun w => w.2.2).map PyData.int ++ (ls.map fun w => w.2.1).map PyData.int))), .no]) (by
    simp only [List.map_map] at z1 z2 c1 c2 ⊢
    simp [fam_at h0 hq, c1, c2]
    simp [z1, z2]) rfl, step (δ' := [.val (rollD f ws ls), .val (.int p), .val (.int y), .val (.list (L.map PyData.int)), .no]) (by
    simp only [catF_ev, rD_ev, valF_ev, c3, Res.bind_ok, List.getElem?_cons_succ, List.getElem?_cons_zero, slR_val, ofLst_list, setS_ev, List.cons_append, List.append_assoc, hLD, z3, onR_ok]
    rfl) rfl]
  by_cases h5 : y % 5 = 4
  · exact ⟨y / 5 % 201, by simp [div_sm, i2_mod, h5]⟩
  · exact ⟨if 0 < j + y / 300 % 3 - 1 then j + y / 300 % 3 - 1 else 0, by simp [div_sm, i2_mod, i2_mod hp0, h5, ej]⟩
theorem law_true (ns : List Int) (h : ns.length ≤ 63) : F_law [scrD (ns.map PyData.int)] = .ok (.bool true) := by
  obtain ⟨c0, e0⟩ := E_cell_at ns 0 (by decide)
  obtain ⟨c1, e1⟩ := E_cell_at ns 1 (by decide)
  obtain ⟨c2, e2⟩ := E_cell_at ns 2 (by decide)
  obtain ⟨c3, e3⟩ := E_cell_at ns 3 (by decide)
  obtain ⟨c4, e4⟩ := E_cell_at ns 4 (by decide)
  obtain ⟨c5, e5⟩ := E_cell_at ns 5 (by decide)
  obtain ⟨c6, e6⟩ := E_cell_at ns 6 (by decide)
  generalize hS : scrD (ns.map PyData.int) = S at *
  obtain ⟨n, hn, n0, n1⟩ : ∃ n : Nat, 1 + c0 % 12 = (n : Int) ∧ 0 < n ∧ n ≤ 12 := ⟨(1 + c0 % 12).toNat, by omega, by omega, by omega⟩
  obtain ⟨a, ha, a1⟩ : ∃ a : Nat, c0 / 12 % 13 = (a : Int) ∧ a ≤ 12 := ⟨(c0 / 12 % 13).toNat, by omega, by omega⟩
  obtain ⟨b, hb, b1⟩ : ∃ b : Nat, c0 / 156 % 9 = (b : Int) ∧ b ≤ 8 := ⟨(c0 / 156 % 9).toNat, by omega, by omega⟩
  obtain ⟨f0, ef0, l0, ok0, _⟩ := E_people c1 n (by omega)
  obtain ⟨f, ef, l1, ok⟩ := E_adopting c2 ok0 (by omega)
  have ln : f.length = n := by omega
  obtain ⟨ws, ew, wok, wl⟩ := E_weddings (f := f) c3 a (by omega) (by omega)
  obtain ⟨ls, el, lok, ll⟩ := E_wills (f := f) c4 b ok (by omega) (by omega)
  obtain ⟨xs1, ex1, xl1, xo1⟩ := E_stream c5 4 (by decide)
  obtain ⟨xs2, ex2, xl2, xo2⟩ := E_stream c6 4 (by decide)
  have ex1' : F__law_stream [.int c5, .int 4] = .ok (xs1.map PyData.int) := ex1
  have ex2' : F__law_stream [.int c6, .int 4] = .ok (xs2.map PyData.int) := ex2
  have ef0' : (PyData.list (f0.map perD)) = famD f0 := rfl
  have ef' : (PyData.list (f.map perD)) = famD f := rfl
  have hne : ∀ ls : List Wil, gNe (.list (ls.map wiD)) (.list []) = .ok (!decide (ls = [])) := fun ls => by
    refine gNe_of (n := 6) (m := 1) ?_ (by decide) rfl (by decide) (by simp)
    show DL.plainA 5 (ls.map wiD) = true
    rw [plainA_iff]
    intro d hd
    obtain ⟨i, _, rfl⟩ := List.mem_map.mp hd
    exact plain_wi 1 i
  -- two wills of a day
  obtain ⟨ls1, ok1, ll1, st1⟩ : ∃ ls1 : List Wil, (∀ w ∈ ls1, WilOk f w) ∧ ls1.length ≤ 9 ∧ ∀ (s14 s15 : Sl) (rest : DL.Env → Fl), (seqS (ifS (andB (neB (rD 4) (valF (lstF nilA))) (eqB (modD (callD 2 F__law_cell_at (consA (vD 0) (consA (cD (.int 4)) nilA))) (cD (.int 3))) (cD (.int 1))))
      (appS 4 (tupD (consA (ixD (ixD (rD 4) (cD (.int 0))) (cD (.int 0))) (consA (ixD (ixD (rD 4) (cD (.int 0))) (cD (.int 1))) (consA (ixD (ixD (rD 4) (negD (cD (.int 1)))) (cD (.int 2))) nilA)))))
      nxS) rest) [.val S, .val (.int n), .val (famD f), .val (.list (ws.map weD)), .own (ls.map wiD), .no, .no, .no, .no, .no, .no, .no, .no, .no, s14, s15] = rest [.val S, .val (.int n), .val (famD f), .val (.list (ws.map weD)), .own (ls1.map wiD), .no, .no, .no, .no, .no, .no, .no, .no, .no, s14, s15] := by
    by_cases hc : ls ≠ [] ∧ c4 % 3 = 1
    · obtain ⟨x, l', hx⟩ : ∃ x l', ls = x :: l' := by
        cases hz : ls with
        | nil => exact absurd hz hc.1
        | cons x l' => exact ⟨x, l', rfl⟩
      obtain ⟨y, hy⟩ : ∃ y, ls.getLast? = some y := ⟨ls.getLast hc.1, List.getLast?_eq_getLast hc.1⟩
      have hxo := lok x (by rw [hx]; exact List.mem_cons_self)
      refine ⟨ls ++ [(x.1, x.2.1, y.2.2)], fun w hw => ?_, by simp; omega, fun s14 s15 rest => ?_⟩
      · rcases List.mem_append.mp hw with z | z
        · exact lok w z
        · rw [List.mem_singleton] at z; subst z; exact ⟨hxo.who, hxo.day, (lok y (List.mem_of_getLast? hy)).few⟩
      · have h0 : (ls.map wiD)[0]? = some (wiD x) := by rw [hx]; rfl
        have hL : (ls.map wiD).getLast? = some (wiD y) := by rw [List.getLast?_map, hy]; rfl
        have hlen : (ls.map wiD).length < 16777216 := by rw [List.length_map]; omega
        generalize hM : ls.map wiD = M at *
        have hne' : gNe (.list M) (.list []) = .ok true := by rw [← hM, hne, decide_eq_false hc.1]; rfl
        have hwi : PyData.tuple [.int x.1, .int x.2.1, .tuple (y.2.2.map giD)] = wiD (x.1, x.2.1, y.2.2) := rfl
        rw [List.map_append, hM]
        simp [hne', e4, i2_mod, hc.2, h0, hL, hlen, hwi]
    · refine ⟨ls, lok, by omega, fun s14 s15 rest => ?_⟩
      by_cases h1 : ls = []
      · simp [h1]
      · have h2 : ¬ c4 % 3 = 1 := fun z => hc ⟨h1, z⟩
        simp [hne, h1, e4, i2_mod, h2]
  -- none names the testator
  generalize hF : (ls1.filter fun w => !(w.2.2.map Prod.fst).contains w.1) = ls2
  have ok2 : ∀ w ∈ ls2, WilOk f w := fun w hw => ok1 w (by rw [← hF] at hw; exact (List.mem_filter.mp hw).1)
  have ll2 : ls2.length ≤ 9 := by rw [← hF]; exact Nat.le_trans (List.length_filter_le _ _) ll1
  have cm : compF [14] (seqI (rD 4)) (gN 14) (ninB (ixD (rD 14) (cD (.int 0))) (valF (compF [15] (seqI (ixD (rD 14) (cD (.int 2)))) (gN 15) yesB (ixD (rD 15) (cD (.int 0)))))) (vD 14) [.val S, .val (.int n), .val (famD f), .val (.list (ws.map weD)), .own (ls1.map wiD), .no, .no, .no, .no, .no, .no, .no, .no, .no, .no, .no] = .ok (ls2.map wiD) := by
    rw [← hF]
    refine compF_map ls1 wiD (fun w => !(w.2.2.map Prod.fst).contains w.1) wiD ?_ (by omega) fun w hw => ⟨_, rfl, ?_, fun _ => ?_⟩
    · simp
    · have hz : w.2.2.length ≤ 16777216 := Nat.le_trans (ok1 w hw).few (by decide)
      · have := compF_map (vs := [15]) (fi := seqI (ixD (rD 14) (cD (.int 2)))) (g := gN 15) (ft := yesB) (fe := ixD (rD 15) (cD (.int 0))) (δ := [.val S, .val (.int n), .val (famD f), .val (.list (ws.map weD)), .own (ls1.map wiD), .no, .no, .no, .no, .no, .no, .no, .no, .no, .val (wiD w), .no]) w.2.2 giD (fun _ => true) (fun g => .int g.1) (by simp) hz (fun g hg => ⟨_, rfl, by simp, fun _ => by simp⟩)
        rw [List.filter_eq_self.mpr fun _ _ => rfl] at this
        have e : (w.2.2.map fun g => PyData.int g.1) = (w.2.2.map Prod.fst).map PyData.int := by rw [List.map_map]; rfl
        rw [e] at this
        simp only [fgE_cons, fgE_nil, List.set_cons_succ, List.set_cons_zero, ninB_ev, ixD_ev, rD_ev, cD_ev, Res.bind_ok, List.getElem?_cons_succ, List.getElem?_cons_zero, slR_val, gIx_wi0, valF_ev, this, gNin_ev, gIn_lst]
    · simp
  have cat : szL (xs1.map PyData.int ++ xs2.map PyData.int) = .ok (xs1.map PyData.int ++ xs2.map PyData.int) := szL_ok (by simp; omega)
  have xo : ∀ x ∈ xs1 ++ xs2, 0 ≤ x ∧ x < 2147483647 := fun x hx => by
    rcases List.mem_append.mp hx with z | z
    · exact xo1 x z
    · exact xo2 x z
  generalize hR : rollD f ws ls2 = R
  have r := loopL_at (is := [7, 8, 9, 10, 11, 12, 13]) (g := gT 2 (gCons (gN 7) (gCons (gN 8) gNil))) (fb := B_law_0) (ds := enL 0 ((xs1 ++ xs2).map PyData.int)) (fun _ => [.val S, .val (.int n), .val (famD f), .val (.list (ws.map weD)), .val (.list (ls2.map wiD)), .val R, .val R, .no, .no, .no, .no, .no, .no, .no, .no, .no]) (by
    intro k d hd
    obtain ⟨e, h1, rfl⟩ := enum_at hd
    rw [List.getElem?_map] at h1
    cases hx : (xs1 ++ xs2)[k]? with
    | none => rw [hx] at h1; cases h1
    | some x =>
      rw [hx] at h1
      cases h1
      have hxx := xo x (List.mem_of_getElem? hx)
      have np : 0 < (n : Int) := by omega
      have p0 := Int.emod_nonneg (x / 7) (b := (n : Int)) (by omega)
      have p1 := Int.emod_lt_of_pos (x / 7) np
      obtain ⟨d, hd⟩ := E_days (f := f) (ws := ws) (ls := ls2) (p := x / 7 % n) (x / 3) p0 (by omega) (by omega) (by omega) (by omega)
      rw [hR] at hd
      have who : ∃ p t : Int, ∀ rest : DL.Env → Fl, (seqS (setS 9 (modD (divD (rD 8) (cD (.int 7))) (rD 1))) (seqS (setS 10 (callD 3 F__law_days (consA (vD 5) (consA (vD 9) (consA (divD (rD 8) (cD (.int 3))) nilA))))) (seqS (ifS (andB (eqB (modD (rD 7) (cD (.int 2))) (cD (.int 1))) (neB (rD 4) (valF (lstF nilA))))
      (seqS (setS 9 (ixD (ixD (rD 4) (modD (divD (rD 8) (cD (.int 420))) (lenD (rD 4)))) (cD (.int 0)))) (setS 10 (addD (ixD (ixD (rD 4) (modD (divD (rD 8) (cD (.int 420))) (lenD (rD 4)))) (cD (.int 1))) (modD (divD (rD 8) (cD (.int 3780))) (cD (.int 2))))))
      nxS) rest))) [.val S, .val (.int n), .val (famD f), .val (.list (ws.map weD)), .val (.list (ls2.map wiD)), .val R, .val R, .val (.int k), .val (.int x), .no, .no, .no, .no, .no, .no, .no] = rest [.val S, .val (.int n), .val (famD f), .val (.list (ws.map weD)), .val (.list (ls2.map wiD)), .val R, .val R, .val (.int k), .val (.int x), .val (.int p), .val (.int t), .no, .no, .no, .no, .no] := by
        by_cases hc : (k : Int) % 2 = 1 ∧ ls2 ≠ []
        · have hp0 : 0 < (ls2.length : Int) := by
            cases hz : ls2 with
            | nil => exact absurd hz hc.2
            | cons a l => simp
          have i0 := Int.emod_nonneg (x / 420) (b := (ls2.length : Int)) (by omega)
          have i1 := Int.emod_lt_of_pos (x / 420) hp0
          have hw : ∃ w, L2.atI (ls2.map wiD) (x / 420 % (ls2.length : Int)) = some (wiD w) := by
            have hk : (x / 420 % (ls2.length : Int)).toNat < ls2.length := by omega
            exact ⟨ls2[(x / 420 % (ls2.length : Int)).toNat], by rw [atI_of _ i0, List.getElem?_map, List.getElem?_eq_getElem hk]; rfl⟩
          obtain ⟨w, hw⟩ := hw
          exact ⟨w.1, w.2.1 + x / 3780 % 2, fun rest => by simp [div_sm, i2_mod, i2_mod np, i2_mod hp0, hd, hne, hc, hw]⟩
        · refine ⟨x / 7 % n, d, fun rest => ?_⟩
          by_cases h2 : (k : Int) % 2 = 1
          · have : ls2 = [] := Decidable.byContradiction fun z => hc ⟨h2, z⟩
            simp [div_sm, i2_mod, i2_mod np, hd, h2, this]
          · simp [div_sm, i2_mod, i2_mod np, hd, h2]
      obtain ⟨p, t, hw⟩ := who
      have s1 := E_spouse_on (f := f) (ws := ws) (ls := ls2) (p := p) (t := t) (by rw [ln] at wok ⊢; exact wok)
      have s2 := E_lspouse (f := f) (ws := ws) (ls := ls2) (p := p) (t := t) wok (by omega)
      have s3 := E_will_on (f := f) (ws := ws) (ls := ls2) (p := p) (t := t)
      have s4 := E_lwill (f := f) (ws := ws) (ls := ls2) (p := p) (t := t) ok2 (by omega)
      have s5 : gNe R R = .ok false := by rw [← hR]; exact roll_self f ws ls2
      rw [hR] at s1 s2 s3 s4
      generalize hM : (ws.filterMap (mate f p t)).head? = M at *
      generalize hG : (PyData.tuple ((willOf ls2 p t).map giD)) = GD at *
      have s6 : gNe (oiD M) (oiD M) = .ok false := by
        have := gNe_of (p := True) (plain_oi 0 M) (by decide) (plain_oi 0 M) (by decide) (by simp)
        simpa using this
      have s7 : gNe GD GD = .ok false := by
        have hpl : DL.plain 3 GD = true := by rw [← hG]; exact plain_gis 0 _
        have := gNe_of (p := True) hpl (by decide) hpl (by decide) (by simp)
        simpa using this
      have s8 : isT "tuple" GD = true := by rw [← hG]; rfl
      refine turn_of (δ1 := [.val S, .val (.int n), .val (famD f), .val (.list (ws.map weD)), .val (.list (ls2.map wiD)), .val R, .val R, .val (.int k), .val (.int x), .no, .no, .no, .no, .no, .no, .no]) (δ2 := [.val S, .val (.int n), .val (famD f), .val (.list (ws.map weD)), .val (.list (ls2.map wiD)), .val R, .val R, .val (.int k), .val (.int x), .val (.int p), .val (.int t), .val (oiD M), .val (oiD M), .val GD, .no, .no]) (by simp) ?_ (by simp)
      unfold B_law_0
      rw [hw]
      cases M with
      | none => simp [s1, s2, s3, s4, s5, s7, s8, show gNe PyData.none PyData.none = .ok false from s6]
      | some m => simp [s1, s2, s3, s4, s5, s7, s8, E_whole]) (δ := [.val S, .val (.int n), .val (famD f), .val (.list (ws.map weD)), .val (.list (ls2.map wiD)), .val R, .val R, .no, .no, .no, .no, .no, .no, .no, .no, .no]) rfl
  unfold F_law S_law
  simp only [runD_ev]
  have s0 : startE 16 [S] = [.val S, .no, .no, .no, .no, .no, .no, .no, .no, .no, .no, .no, .no, .no, .no, .no] := rfl
  rw [s0]
  rw [step (δ' := [.val S, .val (.int n), .no, .no, .no, .no, .no, .no, .no, .no, .no, .no, .no, .no, .no, .no]) (by simp [e0, i2_mod, hn]) rfl]
  rw [step (δ' := [.val S, .val (.int n), .val (famD f), .no, .no, .no, .no, .no, .no, .no, .no, .no, .no, .no, .no, .no]) (by simp [e1, e2, ef0, ef0', ef, ef']) rfl]
  rw [step (δ' := [.val S, .val (.int n), .val (famD f), .val (.list (ws.map weD)), .no, .no, .no, .no, .no, .no, .no, .no, .no, .no, .no, .no]) (by simp [e0, e3, div_sm, i2_mod, ha, ew]) rfl]
  rw [step (δ' := [.val S, .val (.int n), .val (famD f), .val (.list (ws.map weD)), .own (ls.map wiD), .no, .no, .no, .no, .no, .no, .no, .no, .no, .no, .no]) (by simp [e0, e4, div_sm, i2_mod, hb, el]) rfl]
  rw [st1]
  rw [step (δ' := [.val S, .val (.int n), .val (famD f), .val (.list (ws.map weD)), .own (ls2.map wiD), .no, .no, .no, .no, .no, .no, .no, .no, .no, .no, .no]) (by simp [cm]) rfl]
  have hR' : (PyData.tuple [famD f, .list (ws.map weD), .list (ls2.map wiD)]) = R := by rw [← hR]; rfl
  rw [List.map_append] at r
  simp [hR', ef', e5, e6, ex1', ex2', cat, r]
end K07
namespace K07
open PySem PySem.Spec PyProof.Rows L2 DL
theorem b__law_stream {X : Cx} (c : Ctx X N__law_stream (defScope s__law_stream) (fun _ => true)) (hk : X.env.scope.kind = .function)
    (m_range : X.mg "range" = none) : PSsp X W0 (defBody s__law_stream) S__law_stream :=
  (PSsp.cons (PSp.setF c 2 (PFp.lst PAp.nil)) (PSsp.cons (PSp.set c 3 (PEp.mod (PRp.var c 0) (PEp.rd PEp.int))) (PSsp.cons (PSp.for_ c [4] (PIp.range c m_range (PRp.var c 1)) (PGp.name c 4)
      (PSsp.cons (PSp.set c 3 (PEp.mod (PEp.rd (PEp.add (PEp.rd (PEp.add (PEp.rd (PEp.mul (PRp.var c 3) (PEp.rd PEp.int))) (PEp.rd PEp.int))) (PRp.var c 4))) (PEp.rd PEp.int))) (PSsp.one (PSp.append c 2 (PEp.var c 3))))) (PSsp.one (PSp.retV c 2)))))
theorem kn__law_stream {P : Program} {w : World} {K : PySem.W.Frag} {mg : Str → Option Value} {base : Heap} (T : Top K mg "_law_stream" s__law_stream)
    (m_range : mg "range" = none) : Kn P w K mg base CX0 "_law_stream" 1 (spN K mg 2 F__law_stream) :=
  Kn.defN (k := 0) T sc__law_stream 2 rfl 5 rfl (fun _ _ _ _ _ _ us hl => match us, hl with | [_, _], _ => rfl) fun X e1 e2 e3 e4 e5 hr hk c => by
    subst e1; subst e2; subst e3; subst e4; subst e5
    exact b__law_stream c hk m_range 
theorem b__law_some {X : Cx} (c : Ctx X N__law_some (defScope s__law_some) (fun _ => true)) (hk : X.env.scope.kind = .function)
    (m_len : X.mg "len" = none) : PSsp X W0 (defBody s__law_some) S__law_some :=
  (PSsp.cons (PSp.if_ (PBw.pb (PBw.or (PBp.eq c (PRp.var c 0) (PFp.rd (PFp.lst PAp.nil))) (PBw.or1 (PBw.pb (PBw.and (PBp.eq c (PRp.var c 2) (PEp.rd PEp.int)) (PBw.and1 (PBp.eq c (PEp.rd (PEp.mod (PEp.rd (PEp.div (PRp.var c 1) (PEp.rd PEp.int))) (PEp.rd PEp.int))) (PEp.rd PEp.int))))))))
      (PSsp.one (PSp.ret (PEp.tup PAp.nil)))
      PSsp.nil) (PSsp.cons (PSp.set c 3 (PEp.ix c (PRp.var c 0) (PEp.rd (PEp.mod (PRp.var c 1) (PEp.rd (PEp.len c m_len (PRp.var c 0))))))) (PSsp.cons (PSp.set c 4 (PEp.ix c (PRp.var c 0) (PEp.rd (PEp.mod (PEp.rd (PEp.div (PRp.var c 1) (PEp.rd PEp.int))) (PEp.rd (PEp.len c m_len (PRp.var c 0))))))) (PSsp.cons (PSp.if_ (PBw.pb (PBw.or (PBp.eq c (PRp.var c 3) (PRp.var c 4)) (PBw.or1 (PBp.eq c (PEp.rd (PEp.mod (PEp.rd (PEp.div (PRp.var c 1) (PEp.rd PEp.int))) (PEp.rd PEp.int))) (PEp.rd PEp.int)))))
      (PSsp.one (PSp.ret (PEp.tup (PAp.cons (PEp.var c 3) PAp.nil))))
      PSsp.nil) (PSsp.one (PSp.ret (PEp.tup (PAp.cons (PEp.var c 3) (PAp.cons (PEp.var c 4) PAp.nil)))))))))
theorem kn__law_some {P : Program} {w : World} {K : PySem.W.Frag} {mg : Str → Option Value} {base : Heap} (T : Top K mg "_law_some" s__law_some)
    (m_len : mg "len" = none) : Kn P w K mg base CX0 "_law_some" 1 (spF K mg 3 F__law_some) :=
  Kn.def_ (k := 0) T sc__law_some 3 rfl 5 rfl (fun _ _ _ _ _ _ us hl => match us, hl with | [_, _, _], _ => rfl) fun X e1 e2 e3 e4 e5 hr hk c => by
    subst e1; subst e2; subst e3; subst e4; subst e5
    exact b__law_some c hk m_len 
theorem b__law_adopting {X : Cx} (c : Ctx X N__law_adopting (defScope s__law_adopting) (fun _ => true)) (hk : X.env.scope.kind = .function)
    (m_enumerate : X.mg "enumerate" = none)
    (m_len : X.mg "len" = none)
    (m_list : X.mg "list" = none)
    (m_range : X.mg "range" = none)
    (h__law_stream : Cal X.prog X.w X.K X.mg X.base X.A CX0 "_law_stream" (spN X.K X.mg 2 (F__law_stream)))
    (h__law_some : Cal X.prog X.w X.K X.mg X.base X.A CX0 "_law_some" (spF X.K X.mg 3 (F__law_some))) : PSsp X W0 (defBody s__law_adopting) S__law_adopting :=
  (PSsp.cons (PSp.setF c 2 (PFp.list c m_list (PRp.var c 0))) (PSsp.cons (PSp.for_ c [3, 4, 5, 6, 7, 8, 9, 10] (PIp.enum c m_enumerate (PFp.val (PFp.call c h__law_stream (PAp.cons (PEp.var c 1) (PAp.cons (PEp.len c m_len (PRp.var c 0)) PAp.nil))))) (PGp.tup (n := 2) c (PGm.cons (PGp.name c 3) (PGm.cons (PGp.name c 4) PGm.nil)))
      (PSsp.cons (PSp.asg (PEp.ix c (PRp.var c 0) (PRp.var c 3)) (PGp.tup (n := 4) c (PGm.cons (PGp.name c 5) (PGm.cons (PGp.name c 6) (PGm.cons (PGp.name c 7) (PGm.cons (PGp.name c 8) PGm.nil)))))) (PSsp.cons (PSp.frzB 9 (PSp.setLc c 9 [("_law_j", 11)] (PIp.h (PIp.range c m_range (PEp.rd (PEp.len c m_len (PRp.var c 0))))) (fun _ c' => (PGp.name c' 11)) (fun _ c' => (PTq.one (PBp.lt (PEp.rd (PEp.ix c' (PEp.rd (PEp.ix c' (PRp.var c' 0) (PRp.var c' 11))) (PEp.rd PEp.int))) (PRp.var c' 5)))) (fun _ c' => (PEp.var c' 11)) hk)) (PSsp.cons (PSp.set c 10 (PEp.add (PRp.var c 5) (PEp.rd (PEp.mod (PRp.var c 4) (PEp.rd PEp.int))))) (PSsp.one (PSp.if_ (PBw.pb (PBw.and (PBp.eq c (PEp.rd (PEp.mod (PEp.rd (PEp.div (PRp.var c 4) (PEp.rd PEp.int))) (PEp.rd PEp.int))) (PEp.rd PEp.int)) (PBw.and (PBp.ne c (PRp.var c 9) (PFp.rd (PFp.lst PAp.nil))) (PBw.and1 (PBw.pb (PBw.or (PBp.isN (PRp.var c 8)) (PBw.or1 (PBp.lt (PRp.var c 10) (PRp.var c 8)))))))))
      (PSsp.one (PSp.setI c 2 (PEp.tup (PAp.cons (PEp.var c 5) (PAp.cons (PEp.var c 6) (PAp.cons (PEp.tup (PAp.cons (PEp.var c 10) (PAp.cons (PEp.call c h__law_some (PAp.cons (PEp.var c 9) (PAp.cons (PEp.div (PRp.var c 4) (PEp.rd PEp.int)) (PAp.cons PEp.int PAp.nil)))) PAp.nil))) (PAp.cons (PEp.var c 8) PAp.nil))))) (PRp.var c 3)))
      PSsp.nil)))))) (PSsp.one (PSp.retV c 2))))
theorem kn__law_adopting {P : Program} {w : World} {K : PySem.W.Frag} {mg : Str → Option Value} {base : Heap} (T : Top K mg "_law_adopting" s__law_adopting)
    (m_enumerate : mg "enumerate" = none)
    (m_len : mg "len" = none)
    (m_list : mg "list" = none)
    (m_range : mg "range" = none)
    (h__law_stream : Kn P w K mg base CX0 "_law_stream" 1 (spN K mg 2 (F__law_stream)))
    (h__law_some : Kn P w K mg base CX0 "_law_some" 1 (spF K mg 3 (F__law_some))) : Kn P w K mg base CX0 "_law_adopting" 2 (spN K mg 2 F__law_adopting) :=
  Kn.defN (k := 1) T sc__law_adopting 2 rfl 12 rfl (fun _ _ _ _ _ _ us hl => match us, hl with | [_, _], _ => rfl) fun X e1 e2 e3 e4 e5 hr hk c => by
    subst e1; subst e2; subst e3; subst e4; subst e5
    exact b__law_adopting c hk m_enumerate m_len m_list m_range (h__law_stream.cal hr (by decide)) (h__law_some.cal hr (by decide))
theorem b__law_lives {X : Cx} (c : Ctx X N__law_lives (defScope s__law_lives) (fun _ => true)) (hk : X.env.scope.kind = .function) : PSsp X W0 (defBody s__law_lives) S__law_lives :=
  (PSsp.cons (PSp.if_ (PBp.lt (PRp.var c 2) (PEp.rd (PEp.ix c (PEp.rd (PEp.ix c (PRp.var c 0) (PRp.var c 1))) (PEp.rd PEp.int))))
      (PSsp.one (PSp.ret PEp.bl))
      PSsp.nil) (PSsp.one (PSp.ret (PBp.val (PBw.pb (PBw.or (PBp.isN (PEp.rd (PEp.ix c (PEp.rd (PEp.ix c (PRp.var c 0) (PRp.var c 1))) (PEp.rd PEp.int)))) (PBw.or1 (PBp.gt (PEp.rd (PEp.ix c (PEp.rd (PEp.ix c (PRp.var c 0) (PRp.var c 1))) (PEp.rd PEp.int))) (PRp.var c 2)))))))))
theorem kn__law_lives {P : Program} {w : World} {K : PySem.W.Frag} {mg : Str → Option Value} {base : Heap} (T : Top K mg "_law_lives" s__law_lives) : Kn P w K mg base CX0 "_law_lives" 1 (spF K mg 3 F__law_lives) :=
  Kn.def_ (k := 0) T sc__law_lives 3 rfl 3 rfl (fun _ _ _ _ _ _ us hl => match us, hl with | [_, _, _], _ => rfl) fun X e1 e2 e3 e4 e5 hr hk c => by
    subst e1; subst e2; subst e3; subst e4; subst e5
    exact b__law_lives c hk  
theorem b__law_ends {X : Cx} (c : Ctx X N__law_ends (defScope s__law_ends) (fun _ => true)) (hk : X.env.scope.kind = .function)
    (m_min : X.mg "min" = none) : PSsp X W0 (defBody s__law_ends) S__law_ends :=
  (PSsp.cons (PSp.frzB 2 (PSp.setLc c 2 [("_law_one", 3)] (PIh.seq (PEp.rd (PEp.slice (PRp.var c 1) POp.no (POp.some (PEp.rd PEp.int))))) (fun _ c' => (PGp.name c' 3)) (fun _ c' => (PTq.one (PBp.notN (PEp.rd (PEp.ix c' (PEp.rd (PEp.ix c' (PRp.var c' 0) (PRp.var c' 3))) (PEp.rd PEp.int)))))) (fun _ c' => (PEp.ix c' (PEp.rd (PEp.ix c' (PRp.var c' 0) (PRp.var c' 3))) (PEp.rd PEp.int))) hk)) (PSsp.one (PSp.ret (PEp.minDef c m_min (PRp.var c 2) (PEp.pow (PEp.rd PEp.int) (PEp.rd PEp.int))))))
theorem kn__law_ends {P : Program} {w : World} {K : PySem.W.Frag} {mg : Str → Option Value} {base : Heap} (T : Top K mg "_law_ends" s__law_ends)
    (m_min : mg "min" = none) : Kn P w K mg base CX0 "_law_ends" 1 (spF K mg 2 F__law_ends) :=
  Kn.def_ (k := 0) T sc__law_ends 2 rfl 4 rfl (fun _ _ _ _ _ _ us hl => match us, hl with | [_, _], _ => rfl) fun X e1 e2 e3 e4 e5 hr hk c => by
    subst e1; subst e2; subst e3; subst e4; subst e5
    exact b__law_ends c hk m_min 
theorem b__law_meets {X : Cx} (c : Ctx X N__law_meets (defScope s__law_meets) (fun _ => true)) (hk : X.env.scope.kind = .function)
    (h__law_ends : Cal X.prog X.w X.K X.mg X.base X.A CX0 "_law_ends" (spF X.K X.mg 2 (F__law_ends))) : PSsp X W0 (defBody s__law_meets) S__law_meets :=
  (PSsp.one (PSp.ret (PBp.val (PBw.pb (PBw.and (PBp.gt (PEp.rd (PEp.call c h__law_ends (PAp.cons (PEp.var c 0) (PAp.cons (PEp.var c 1) PAp.nil)))) (PEp.rd (PEp.ix c (PRp.var c 2) (PEp.rd PEp.int)))) (PBw.and1 (PBp.gt (PEp.rd (PEp.call c h__law_ends (PAp.cons (PEp.var c 0) (PAp.cons (PEp.var c 2) PAp.nil)))) (PEp.rd (PEp.ix c (PRp.var c 1) (PEp.rd PEp.int))))))))))
theorem kn__law_meets {P : Program} {w : World} {K : PySem.W.Frag} {mg : Str → Option Value} {base : Heap} (T : Top K mg "_law_meets" s__law_meets)
    (h__law_ends : Kn P w K mg base CX0 "_law_ends" 1 (spF K mg 2 (F__law_ends))) : Kn P w K mg base CX0 "_law_meets" 2 (spF K mg 3 F__law_meets) :=
  Kn.def_ (k := 1) T sc__law_meets 3 rfl 3 rfl (fun _ _ _ _ _ _ us hl => match us, hl with | [_, _, _], _ => rfl) fun X e1 e2 e3 e4 e5 hr hk c => by
    subst e1; subst e2; subst e3; subst e4; subst e5
    exact b__law_meets c hk  (h__law_ends.cal hr (by decide))
theorem b__law_weddings {X : Cx} (c : Ctx X N__law_weddings (defScope s__law_weddings) (fun _ => true)) (hk : X.env.scope.kind = .function)
    (m_len : X.mg "len" = none)
    (m_max : X.mg "max" = none)
    (h__law_stream : Cal X.prog X.w X.K X.mg X.base X.A CX0 "_law_stream" (spN X.K X.mg 2 (F__law_stream)))
    (h__law_lives : Cal X.prog X.w X.K X.mg X.base X.A CX0 "_law_lives" (spF X.K X.mg 3 (F__law_lives)))
    (h__law_meets : Cal X.prog X.w X.K X.mg X.base X.A CX0 "_law_meets" (spF X.K X.mg 3 (F__law_meets))) : PSsp X W0 (defBody s__law_weddings) S__law_weddings :=
  (PSsp.cons (PSp.setF c 3 (PFp.lst PAp.nil)) (PSsp.cons (PSp.for_ c [4, 5, 6, 7, 8, 9, 10] (PIp.seq (PFp.val (PFp.call c h__law_stream (PAp.cons (PEp.var c 1) (PAp.cons (PEp.var c 2) PAp.nil))))) (PGp.name c 4)
      (PSsp.cons (PSp.set c 5 (PEp.mod (PRp.var c 4) (PEp.rd (PEp.len c m_len (PRp.var c 0))))) (PSsp.cons (PSp.set c 6 (PEp.mod (PEp.rd (PEp.div (PRp.var c 4) (PEp.rd PEp.int))) (PEp.rd (PEp.len c m_len (PRp.var c 0))))) (PSsp.cons (PSp.set c 7 (PEp.add (PEp.rd (PEp.max2 c m_max (PEp.rd (PEp.ix c (PEp.rd (PEp.ix c (PRp.var c 0) (PRp.var c 5))) (PEp.rd PEp.int))) (PEp.rd (PEp.ix c (PEp.rd (PEp.ix c (PRp.var c 0) (PRp.var c 6))) (PEp.rd PEp.int))))) (PEp.rd (PEp.mod (PEp.rd (PEp.div (PRp.var c 4) (PEp.rd PEp.int))) (PEp.rd PEp.int))))) (PSsp.cons (PSp.set c 8 (PEp.tup (PAp.cons (PEp.var c 5) (PAp.cons (PEp.var c 6) (PAp.cons (PEp.var c 7) PAp.nil))))) (PSsp.cons (PSp.set c 9 (PBp.val (PBw.pb (PBw.and (PBp.ne c (PRp.var c 5) (PRp.var c 6)) (PBw.and (PRp.bool (PEp.rd (PEp.call c h__law_lives (PAp.cons (PEp.var c 0) (PAp.cons (PEp.var c 5) (PAp.cons (PEp.var c 7) PAp.nil)))))) (PBw.and1 (PRp.bool (PEp.rd (PEp.call c h__law_lives (PAp.cons (PEp.var c 0) (PAp.cons (PEp.var c 6) (PAp.cons (PEp.var c 7) PAp.nil)))))))))))) (PSsp.cons (PSp.forO c [10] 3 (PGp.name c 10)
      (PSsp.one (PSp.if_ (PBw.pb (PBw.or (PBp.in_ c (PRp.var c 5) (PEp.rd (PEp.slice (PRp.var c 10) POp.no (POp.some (PEp.rd PEp.int))))) (PBw.or1 (PBp.in_ c (PRp.var c 6) (PEp.rd (PEp.slice (PRp.var c 10) POp.no (POp.some (PEp.rd PEp.int))))))))
      (PSsp.one (PSp.set c 9 (PBp.val (PBw.pb (PBw.and (PRp.bool (PRp.var c 9)) (PBw.and1 (PBp.not (PRp.bool (PEp.rd (PEp.call c h__law_meets (PAp.cons (PEp.var c 0) (PAp.cons (PEp.var c 8) (PAp.cons (PEp.var c 10) PAp.nil)))))))))))))
      PSsp.nil))) (PSsp.one (PSp.if_ (PRp.bool (PRp.var c 9))
      (PSsp.one (PSp.append c 3 (PEp.var c 8)))
      PSsp.nil))))))))) (PSsp.one (PSp.retV c 3))))
theorem kn__law_weddings {P : Program} {w : World} {K : PySem.W.Frag} {mg : Str → Option Value} {base : Heap} (T : Top K mg "_law_weddings" s__law_weddings)
    (m_len : mg "len" = none)
    (m_max : mg "max" = none)
    (h__law_stream : Kn P w K mg base CX0 "_law_stream" 1 (spN K mg 2 (F__law_stream)))
    (h__law_lives : Kn P w K mg base CX0 "_law_lives" 1 (spF K mg 3 (F__law_lives)))
    (h__law_meets : Kn P w K mg base CX0 "_law_meets" 2 (spF K mg 3 (F__law_meets))) : Kn P w K mg base CX0 "_law_weddings" 3 (spN K mg 3 F__law_weddings) :=
  Kn.defN (k := 2) T sc__law_weddings 3 rfl 11 rfl (fun _ _ _ _ _ _ us hl => match us, hl with | [_, _, _], _ => rfl) fun X e1 e2 e3 e4 e5 hr hk c => by
    subst e1; subst e2; subst e3; subst e4; subst e5
    exact b__law_weddings c hk m_len m_max (h__law_stream.cal hr (by decide)) (h__law_lives.cal hr (by decide)) (h__law_meets.cal hr (by decide))
theorem b__law_gifts {X : Cx} (c : Ctx X N__law_gifts (defScope s__law_gifts) (fun _ => true)) (hk : X.env.scope.kind = .function)
    (m_len : X.mg "len" = none)
    (m_range : X.mg "range" = none) : PSsp X W0 (defBody s__law_gifts) S__law_gifts :=
  (PSsp.cons (PSp.setF c 3 (PFp.lst PAp.nil)) (PSsp.cons (PSp.for_ c [4, 5] (PIp.range c m_range (PEp.rd (PEp.add (PEp.rd PEp.int) (PEp.rd (PEp.mod (PRp.var c 2) (PEp.rd (PEp.ix c (PFp.rd (PFp.lst (PAp.cons PEp.int (PAp.cons PEp.int (PAp.cons PEp.int PAp.nil))))) (PEp.rd (PEp.mod (PEp.rd (PEp.div (PRp.var c 2) (PEp.rd PEp.int))) (PEp.rd PEp.int)))))))))) (PGp.name c 4)
      (PSsp.cons (PSp.set c 5 (PEp.mod (PEp.rd (PEp.add (PEp.rd (PEp.div (PRp.var c 2) (PEp.rd PEp.int))) (PEp.rd (PEp.mul (PRp.var c 4) (PEp.rd (PEp.add (PEp.rd PEp.int) (PEp.rd (PEp.mod (PEp.rd (PEp.div (PRp.var c 2) (PEp.rd PEp.int))) (PEp.rd PEp.int))))))))) (PEp.rd (PEp.len c m_len (PRp.var c 0))))) (PSsp.one (PSp.if_ (PBw.pb (PBw.and (PBp.ne c (PRp.var c 5) (PRp.var c 1)) (PBw.and1 (PBp.nin c (PRp.var c 5) (PRp.var c 3)))))
      (PSsp.one (PSp.append c 3 (PEp.var c 5)))
      PSsp.nil)))) (PSsp.frz 3 (PSsp.cons (PSp.set c 6 (PEp.add (PEp.rd PEp.int) (PEp.rd (PEp.mod (PEp.rd (PEp.div (PRp.var c 2) (PEp.rd PEp.int))) (PEp.rd PEp.int))))) (PSsp.cons (PSp.set c 7 (PEp.ix c (PFp.rd (PFp.lst (PAp.cons (PEp.mod (PEp.rd (PEp.div (PRp.var c 2) (PEp.rd PEp.int))) (PEp.rd PEp.int)) (PAp.cons (PEp.mod (PEp.rd (PEp.div (PRp.var c 2) (PEp.rd PEp.int))) (PEp.rd PEp.int)) PAp.nil)))) (PEp.rd (PEp.mod (PEp.rd (PEp.div (PRp.var c 2) (PEp.rd PEp.int))) (PEp.rd PEp.int))))) (PSsp.one (PSp.retF (PFp.lc c [("_law_one", 5)] (PIh.seq (PRp.var c 3)) (fun _ c' => (PGp.name c' 5)) (fun _ c' => PTq.no) (fun _ c' => (PEp.tup (PAp.cons (PEp.var c' 5) (PAp.cons (PEp.var c' 6) (PAp.cons (PEp.add (PEp.rd (PEp.mul (PRp.var c' 6) (PEp.rd (PEp.len c' m_len (PRp.var c' 3))))) (PRp.var c' 7)) PAp.nil)))))))))))))
theorem kn__law_gifts {P : Program} {w : World} {K : PySem.W.Frag} {mg : Str → Option Value} {base : Heap} (T : Top K mg "_law_gifts" s__law_gifts)
    (m_len : mg "len" = none)
    (m_range : mg "range" = none) : Kn P w K mg base CX0 "_law_gifts" 1 (spN K mg 3 F__law_gifts) :=
  Kn.defN (k := 0) T sc__law_gifts 3 rfl 8 rfl (fun _ _ _ _ _ _ us hl => match us, hl with | [_, _, _], _ => rfl) fun X e1 e2 e3 e4 e5 hr hk c => by
    subst e1; subst e2; subst e3; subst e4; subst e5
    exact b__law_gifts c hk m_len m_range 
theorem b__law_lowest {X : Cx} (c : Ctx X N__law_lowest (defScope s__law_lowest) (fun _ => true)) (hk : X.env.scope.kind = .function) : PSsp X W0 (defBody s__law_lowest) S__law_lowest :=
  (PSsp.cons (PSp.set c 2 (PEp.var c 0)) (PSsp.cons (PSp.set c 3 (PEp.var c 1)) (PSsp.cons (PSp.while_ c [4] mu__law_lowest_0 (PBp.gt (PRp.var c 3) (PEp.rd PEp.int))
      (PSsp.cons (PSp.set c 4 (PEp.mod (PRp.var c 2) (PRp.var c 3))) (PSsp.cons (PSp.set c 2 (PEp.var c 3)) (PSsp.one (PSp.set c 3 (PEp.var c 4)))))) (PSsp.one (PSp.ret (PEp.tup (PAp.cons (PEp.div (PRp.var c 0) (PRp.var c 2)) (PAp.cons (PEp.div (PRp.var c 1) (PRp.var c 2)) PAp.nil))))))))
theorem kn__law_lowest {P : Program} {w : World} {K : PySem.W.Frag} {mg : Str → Option Value} {base : Heap} (T : Top K mg "_law_lowest" s__law_lowest) : Kn P w K mg base CX0 "_law_lowest" 1 (spF K mg 2 F__law_lowest) :=
  Kn.def_ (k := 0) T sc__law_lowest 2 rfl 5 rfl (fun _ _ _ _ _ _ us hl => match us, hl with | [_, _], _ => rfl) fun X e1 e2 e3 e4 e5 hr hk c => by
    subst e1; subst e2; subst e3; subst e4; subst e5
    exact b__law_lowest c hk  
theorem b__law_wills {X : Cx} (c : Ctx X N__law_wills (defScope s__law_wills) (fun _ => true)) (hk : X.env.scope.kind = .function)
    (m_len : X.mg "len" = none)
    (m_tuple : X.mg "tuple" = none)
    (h__law_stream : Cal X.prog X.w X.K X.mg X.base X.A CX0 "_law_stream" (spN X.K X.mg 2 (F__law_stream)))
    (h__law_gifts : Cal X.prog X.w X.K X.mg X.base X.A CX0 "_law_gifts" (spN X.K X.mg 3 (F__law_gifts)))
    (h__law_lowest : Cal X.prog X.w X.K X.mg X.base X.A CX0 "_law_lowest" (spF X.K X.mg 2 (F__law_lowest))) : PSsp X W0 (defBody s__law_wills) S__law_wills :=
  (PSsp.cons (PSp.setF c 3 (PFp.lst PAp.nil)) (PSsp.cons (PSp.for_ c [4, 5, 6, 7] (PIp.seq (PFp.val (PFp.call c h__law_stream (PAp.cons (PEp.var c 1) (PAp.cons (PEp.var c 2) PAp.nil))))) (PGp.name c 4)
      (PSsp.cons (PSp.set c 5 (PEp.mod (PRp.var c 4) (PEp.rd (PEp.len c m_len (PRp.var c 0))))) (PSsp.cons (PSp.set c 6 (PEp.add (PEp.rd (PEp.ix c (PEp.rd (PEp.ix c (PRp.var c 0) (PRp.var c 5))) (PEp.rd PEp.int))) (PEp.rd (PEp.mod (PEp.rd (PEp.div (PRp.var c 4) (PEp.rd PEp.int))) (PEp.rd PEp.int))))) (PSsp.cons (PSp.set c 7 (PFp.val (PFp.call c h__law_gifts (PAp.cons (PEp.var c 0) (PAp.cons (PEp.var c 5) (PAp.cons (PEp.div (PRp.var c 4) (PEp.rd PEp.int)) PAp.nil)))))) (PSsp.one (PSp.if_ (PBw.pb (PBw.and (PBp.ne c (PRp.var c 7) (PFp.rd (PFp.lst PAp.nil))) (PBw.and1 (PBw.pb (PBw.or (PBp.isN (PEp.rd (PEp.ix c (PEp.rd (PEp.ix c (PRp.var c 0) (PRp.var c 5))) (PEp.rd PEp.int)))) (PBw.or1 (PBp.le (PRp.var c 6) (PEp.rd (PEp.ix c (PEp.rd (PEp.ix c (PRp.var c 0) (PRp.var c 5))) (PEp.rd PEp.int))))))))))
      (PSsp.one (PSp.append c 3 (PEp.tup (PAp.cons (PEp.var c 5) (PAp.cons (PEp.var c 6) (PAp.cons (PEp.tupleOf c m_tuple (PFp.rd (PFp.lc c [("_law_one", 8), ("_law_over", 9), ("_law_under", 10)] (PIh.seq (PRp.var c 7)) (fun _ c' => (PGp.tup (n := 3) c' (PGm.cons (PGp.name c' 8) (PGm.cons (PGp.name c' 9) (PGm.cons (PGp.name c' 10) PGm.nil))))) (fun _ c' => PTq.no) (fun _ c' => (PEp.tup (PAp.cons (PEp.var c' 8) (PAp.cons (PEp.call c' h__law_lowest (PAp.cons (PEp.var c' 9) (PAp.cons (PEp.var c' 10) PAp.nil))) PAp.nil))))))) PAp.nil))))))
      PSsp.nil)))))) (PSsp.one (PSp.retV c 3))))
theorem kn__law_wills {P : Program} {w : World} {K : PySem.W.Frag} {mg : Str → Option Value} {base : Heap} (T : Top K mg "_law_wills" s__law_wills)
    (m_len : mg "len" = none)
    (m_tuple : mg "tuple" = none)
    (h__law_stream : Kn P w K mg base CX0 "_law_stream" 1 (spN K mg 2 (F__law_stream)))
    (h__law_gifts : Kn P w K mg base CX0 "_law_gifts" 1 (spN K mg 3 (F__law_gifts)))
    (h__law_lowest : Kn P w K mg base CX0 "_law_lowest" 1 (spF K mg 2 (F__law_lowest))) : Kn P w K mg base CX0 "_law_wills" 2 (spN K mg 3 F__law_wills) :=
  Kn.defN (k := 1) T sc__law_wills 3 rfl 11 rfl (fun _ _ _ _ _ _ us hl => match us, hl with | [_, _, _], _ => rfl) fun X e1 e2 e3 e4 e5 hr hk c => by
    subst e1; subst e2; subst e3; subst e4; subst e5
    exact b__law_wills c hk m_len m_tuple (h__law_stream.cal hr (by decide)) (h__law_gifts.cal hr (by decide)) (h__law_lowest.cal hr (by decide))
theorem b__law_people {X : Cx} (c : Ctx X N__law_people (defScope s__law_people) (fun _ => true)) (hk : X.env.scope.kind = .function)
    (m_enumerate : X.mg "enumerate" = none)
    (m_range : X.mg "range" = none)
    (h__law_stream : Cal X.prog X.w X.K X.mg X.base X.A CX0 "_law_stream" (spN X.K X.mg 2 (F__law_stream)))
    (h__law_some : Cal X.prog X.w X.K X.mg X.base X.A CX0 "_law_some" (spF X.K X.mg 3 (F__law_some))) : PSsp X W0 (defBody s__law_people) S__law_people :=
  (PSsp.cons (PSp.setF c 2 (PFp.lst PAp.nil)) (PSsp.cons (PSp.set c 3 (PEp.ix c (PFp.rd (PFp.lst (PAp.cons PEp.int (PAp.cons PEp.int (PAp.cons PEp.int (PAp.cons PEp.int PAp.nil)))))) (PEp.rd (PEp.mod (PRp.var c 0) (PEp.rd PEp.int))))) (PSsp.cons (PSp.set c 4 (PFp.val (PFp.lst (PAp.cons (PEp.tup PAp.nil) (PAp.cons (PEp.tup PAp.nil) (PAp.cons (PEp.tup (PAp.cons PEp.int (PAp.cons PEp.int PAp.nil))) (PAp.cons (PEp.tup (PAp.cons PEp.int (PAp.cons PEp.int PAp.nil))) (PAp.cons (PEp.tup (PAp.cons PEp.int PAp.nil)) (PAp.cons (PEp.tup (PAp.cons PEp.int PAp.nil)) (PAp.cons (PEp.tup PAp.nil) (PAp.cons (PEp.tup (PAp.cons PEp.int PAp.nil)) (PAp.cons (PEp.tup (PAp.cons PEp.int PAp.nil)) (PAp.cons (PEp.tup (PAp.cons PEp.int PAp.nil)) (PAp.cons (PEp.tup PAp.nil) (PAp.cons (PEp.tup (PAp.cons PEp.int PAp.nil)) PAp.nil))))))))))))))) (PSsp.cons (PSp.for_ c [5, 6, 7, 8, 9, 10] (PIp.enum c m_enumerate (PFp.val (PFp.call c h__law_stream (PAp.cons (PEp.div (PRp.var c 0) (PEp.rd PEp.int)) (PAp.cons (PEp.var c 1) PAp.nil))))) (PGp.tup (n := 2) c (PGm.cons (PGp.name c 5) (PGm.cons (PGp.name c 6) PGm.nil)))
      (PSsp.cons (PSp.set c 7 (PEp.mul (PEp.rd (PEp.add (PEp.rd (PEp.mul (PEp.rd PEp.int) (PEp.rd (PEp.div (PRp.var c 5) (PEp.rd PEp.int))))) (PEp.rd (PEp.mod (PRp.var c 6) (PEp.rd PEp.int))))) (PRp.var c 3))) (PSsp.cons (PSp.set c 8 (PFp.val (PFp.lc c [("_law_j", 11)] (PIp.h (PIp.range c m_range (PRp.var c 5))) (fun _ c' => (PGp.name c' 11)) (fun _ c' => (PTq.one (PBp.lt (PEp.rd (PEp.ix c' (PEp.rd (PEp.ix c' (PRp.var c' 2) (PRp.var c' 11))) (PEp.rd PEp.int))) (PRp.var c' 7)))) (fun _ c' => (PEp.var c' 11)))) (hs := sw_cell c)) (PSsp.cons (PSp.set c 9 (PEp.call c h__law_some (PAp.cons (PFp.val (PFp.slice (PRp.var c 8) (POp.some (PEp.rd (PEp.neg (PEp.rd PEp.int)))) POp.no)) (PAp.cons (PEp.div (PRp.var c 6) (PEp.rd PEp.int)) (PAp.cons PEp.int PAp.nil))))) (PSsp.cons (PSp.if_ (PBw.pb (PBw.and (PBp.gt (PRp.var c 5) (PEp.rd PEp.int)) (PBw.and (PBp.eq c (PEp.rd (PEp.mod (PEp.rd (PEp.div (PRp.var c 6) (PEp.rd PEp.int))) (PEp.rd PEp.int))) (PEp.rd PEp.int)) (PBw.and1 (PBp.eq c (PFp.rd (PFp.lc c [("_law_j", 11)] (PIh.seq (PEp.rd (PEp.ix c (PEp.rd (PEp.ix c (PRp.var c 2) (PEp.rd (PEp.sub (PRp.var c 5) (PEp.rd PEp.int))))) (PEp.rd PEp.int)))) (fun _ c' => (PGp.name c' 11)) (fun _ c' => (PTq.one (PBp.nin c' (PRp.var c' 11) (PRp.var c' 8)))) (fun _ c' => (PEp.var c' 11)))) (PFp.rd (PFp.lst PAp.nil)))))))
      (PSsp.one (PSp.set c 9 (PEp.ix c (PEp.rd (PEp.ix c (PRp.var c 2) (PEp.rd (PEp.sub (PRp.var c 5) (PEp.rd PEp.int))))) (PEp.rd PEp.int))))
      PSsp.nil) (PSsp.cons (PSp.if_ (PBw.pb (PBw.and (PBp.eq c (PEp.rd (PEp.mod (PEp.rd (PEp.div (PRp.var c 0) (PEp.rd PEp.int))) (PEp.rd PEp.int))) (PEp.rd PEp.int)) (PBw.and1 (PBp.lt (PRp.var c 5) (PEp.rd PEp.int)))))
      (PSsp.cons (PSp.set c 7 (PEp.mul (PEp.rd (PEp.add (PEp.rd (PEp.mul (PEp.rd PEp.int) (PEp.rd (PEp.div (PRp.var c 5) (PEp.rd PEp.int))))) (PEp.rd (PEp.mod (PRp.var c 6) (PEp.rd PEp.int))))) (PRp.var c 3))) (PSsp.one (PSp.set c 9 (PEp.ix c (PRp.var c 4) (PRp.var c 5)))))
      PSsp.nil) (PSsp.cons (PSp.set c 10 PEp.non) (PSsp.cons (PSp.if_ (PBp.gt (PEp.rd (PEp.mod (PEp.rd (PEp.div (PRp.var c 6) (PEp.rd PEp.int))) (PEp.rd (PEp.ix c (PFp.rd (PFp.lst (PAp.cons PEp.int (PAp.cons PEp.int PAp.nil)))) (PEp.rd (PEp.mod (PEp.rd (PEp.div (PRp.var c 0) (PEp.rd PEp.int))) (PEp.rd PEp.int))))))) (PEp.rd PEp.int))
      (PSsp.one (PSp.set c 10 (PEp.add (PRp.var c 7) (PEp.rd (PEp.mul (PEp.rd (PEp.mod (PEp.rd (PEp.div (PRp.var c 6) (PEp.rd PEp.int))) (PEp.rd PEp.int))) (PRp.var c 3))))))
      PSsp.nil) (PSsp.one (PSp.append c 2 (PEp.tup (PAp.cons (PEp.var c 7) (PAp.cons (PEp.var c 9) (PAp.cons PEp.non (PAp.cons (PEp.var c 10) PAp.nil))))))))))))))) (PSsp.one (PSp.retV c 2))))))
theorem kn__law_people {P : Program} {w : World} {K : PySem.W.Frag} {mg : Str → Option Value} {base : Heap} (T : Top K mg "_law_people" s__law_people)
    (m_enumerate : mg "enumerate" = none)
    (m_range : mg "range" = none)
    (h__law_stream : Kn P w K mg base CX0 "_law_stream" 1 (spN K mg 2 (F__law_stream)))
    (h__law_some : Kn P w K mg base CX0 "_law_some" 1 (spF K mg 3 (F__law_some))) : Kn P w K mg base CX0 "_law_people" 2 (spN K mg 2 F__law_people) :=
  Kn.defN (k := 1) T sc__law_people 2 rfl 12 rfl (fun _ _ _ _ _ _ us hl => match us, hl with | [_, _], _ => rfl) fun X e1 e2 e3 e4 e5 hr hk c => by
    subst e1; subst e2; subst e3; subst e4; subst e5
    exact b__law_people c hk m_enumerate m_range (h__law_stream.cal hr (by decide)) (h__law_some.cal hr (by decide))
theorem b__law_cell_at {X : Cx} (c : Ctx X N__law_cell_at (defScope s__law_cell_at) (fun _ => true)) (hk : X.env.scope.kind = .function)
    (m_len : X.mg "len" = none) : PSsp X W0 (defBody s__law_cell_at) S__law_cell_at :=
  (PSsp.cons (PSp.if_ (PBp.lt (PRp.var c 1) (PEp.rd (PEp.len c m_len (PRp.var c 0))))
      (PSsp.one (PSp.ret (PEp.ix c (PRp.var c 0) (PRp.var c 1))))
      PSsp.nil) (PSsp.one (PSp.ret PEp.int)))
theorem kn__law_cell_at {P : Program} {w : World} {K : PySem.W.Frag} {mg : Str → Option Value} {base : Heap} (T : Top K mg "_law_cell_at" s__law_cell_at)
    (m_len : mg "len" = none) : Kn P w K mg base CX0 "_law_cell_at" 1 (spF K mg 2 F__law_cell_at) :=
  Kn.def_ (k := 0) T sc__law_cell_at 2 rfl 2 rfl (fun _ _ _ _ _ _ us hl => match us, hl with | [_, _], _ => rfl) fun X e1 e2 e3 e4 e5 hr hk c => by
    subst e1; subst e2; subst e3; subst e4; subst e5
    exact b__law_cell_at c hk m_len 
theorem b__law_days {X : Cx} (c : Ctx X N__law_days (defScope s__law_days) (fun _ => true)) (hk : X.env.scope.kind = .function)
    (m_len : X.mg "len" = none)
    (m_max : X.mg "max" = none) : PSsp X W0 (defBody s__law_days) S__law_days :=
  (PSsp.cons (PSp.set c 3 (PFp.val (PFp.cat (PFp.rd (PFp.cat (PFp.rd (PFp.lst (PAp.cons (PEp.ix c (PEp.rd (PEp.ix c (PEp.rd (PEp.ix c (PRp.var c 0) (PEp.rd PEp.int))) (PRp.var c 1))) (PEp.rd PEp.int)) PAp.nil))) (PFp.rd (PFp.lc c [("_law_one", 4)] (PIh.seq (PEp.rd (PEp.ix c (PRp.var c 0) (PEp.rd PEp.int)))) (fun _ c' => (PGp.name c' 4)) (fun _ c' => PTq.no) (fun _ c' => (PEp.ix c' (PRp.var c' 4) (PEp.rd PEp.int))))))) (PFp.rd (PFp.lc c [("_law_one", 4)] (PIh.seq (PEp.rd (PEp.ix c (PRp.var c 0) (PEp.rd PEp.int)))) (fun _ c' => (PGp.name c' 4)) (fun _ c' => PTq.no) (fun _ c' => (PEp.ix c' (PRp.var c' 4) (PEp.rd PEp.int)))))))) (PSsp.cons (PSp.set c 3 (PFp.val (PFp.cat (PRp.var c 3) (PFp.rd (PFp.lc c [("_law_one", 4)] (PIh.seq (PEp.rd (PEp.ix c (PRp.var c 0) (PEp.rd PEp.int)))) (fun _ c' => (PGp.name c' 4)) (fun _ c' => (PTq.one (PBp.notN (PEp.rd (PEp.ix c' (PRp.var c' 4) (PEp.rd PEp.int)))))) (fun _ c' => (PEp.ix c' (PRp.var c' 4) (PEp.rd PEp.int)))))))) (PSsp.cons (PSp.if_ (PBp.eq c (PEp.rd (PEp.mod (PRp.var c 2) (PEp.rd PEp.int))) (PEp.rd PEp.int))
      (PSsp.one (PSp.ret (PEp.mod (PEp.rd (PEp.div (PRp.var c 2) (PEp.rd PEp.int))) (PEp.rd PEp.int))))
      PSsp.nil) (PSsp.one (PSp.ret (PEp.max2 c m_max (PEp.rd PEp.int) (PEp.rd (PEp.sub (PEp.rd (PEp.add (PEp.rd (PEp.ix c (PRp.var c 3) (PEp.rd (PEp.mod (PEp.rd (PEp.div (PRp.var c 2) (PEp.rd PEp.int))) (PEp.rd (PEp.len c m_len (PRp.var c 3))))))) (PEp.rd (PEp.mod (PEp.rd (PEp.div (PRp.var c 2) (PEp.rd PEp.int))) (PEp.rd PEp.int))))) (PEp.rd PEp.int)))))))))
theorem kn__law_days {P : Program} {w : World} {K : PySem.W.Frag} {mg : Str → Option Value} {base : Heap} (T : Top K mg "_law_days" s__law_days)
    (m_len : mg "len" = none)
    (m_max : mg "max" = none) : Kn P w K mg base CX0 "_law_days" 1 (spF K mg 3 F__law_days) :=
  Kn.def_ (k := 0) T sc__law_days 3 rfl 5 rfl (fun _ _ _ _ _ _ us hl => match us, hl with | [_, _, _], _ => rfl) fun X e1 e2 e3 e4 e5 hr hk c => by
    subst e1; subst e2; subst e3; subst e4; subst e5
    exact b__law_days c hk m_len m_max 
theorem b_lives {X : Cx} (c : Ctx X N_lives (defScope s_lives) (fun _ => true)) (hk : X.env.scope.kind = .function) : PSsp X W0 (defBody s_lives) S_lives :=
  (PSsp.cons (PSp.asg (PEp.ix c (PRp.var c 0) (PRp.var c 1)) (PGp.tup (n := 4) c (PGm.cons (PGp.name c 3) (PGm.cons (PGp.name c 4) (PGm.cons (PGp.name c 5) (PGm.cons (PGp.name c 6) PGm.nil)))))) (PSsp.one (PSp.ret (PBp.val (PBw.pb (PBw.and (PBp.le (PRp.var c 3) (PRp.var c 2)) (PBw.and1 (PBw.pb (PBw.or (PBp.isN (PRp.var c 6)) (PBw.or1 (PBp.lt (PRp.var c 2) (PRp.var c 6))))))))))))
theorem kn_lives {P : Program} {w : World} {K : PySem.W.Frag} {mg : Str → Option Value} {base : Heap} (T : Top K mg "lives" s_lives) : Kn P w K mg base CX0 "lives" 1 (spF K mg 3 F_lives) :=
  Kn.def_ (k := 0) T sc_lives 3 rfl 7 rfl (fun _ _ _ _ _ _ us hl => match us, hl with | [_, _, _], _ => rfl) fun X e1 e2 e3 e4 e5 hr hk c => by
    subst e1; subst e2; subst e3; subst e4; subst e5
    exact b_lives c hk  
theorem b_spouse_on {X : Cx} (c : Ctx X N_spouse_on (defScope s_spouse_on) (fun _ => true)) (hk : X.env.scope.kind = .function)
    (h_lives : Cal X.prog X.w X.K X.mg X.base X.A CX0 "lives" (spF X.K X.mg 3 (F_lives))) : PSsp X W0 (defBody s_spouse_on) S_spouse_on :=
  (PSsp.cons (PSp.asg (PEp.var c 0) (PGp.tup (n := 3) c (PGm.cons (PGp.name c 3) (PGm.cons (PGp.name c 4) (PGm.cons (PGp.name c 5) PGm.nil))))) (PSsp.cons (PSp.for_ c [6, 7, 8, 9] (PIp.seq (PEp.var c 4)) (PGp.tup (n := 3) c (PGm.cons (PGp.name c 6) (PGm.cons (PGp.name c 7) (PGm.cons (PGp.name c 8) PGm.nil))))
      (PSsp.one (PSp.if_ (PBw.pb (PBw.and (PBp.le (PRp.var c 8) (PRp.var c 2)) (PBw.and1 (PBp.in_ c (PRp.var c 1) (PEp.rd (PEp.tup (PAp.cons (PEp.var c 6) (PAp.cons (PEp.var c 7) PAp.nil))))))))
      (PSsp.cons (PSp.set c 9 (PEp.sub (PEp.rd (PEp.add (PRp.var c 6) (PRp.var c 7))) (PRp.var c 1))) (PSsp.one (PSp.if_ (PRp.bool (PEp.rd (PEp.call c h_lives (PAp.cons (PEp.var c 3) (PAp.cons (PEp.var c 9) (PAp.cons (PEp.var c 2) PAp.nil))))))
      (PSsp.one (PSp.ret (PEp.var c 9)))
      PSsp.nil)))
      PSsp.nil))) (PSsp.one (PSp.ret PEp.non))))
theorem kn_spouse_on {P : Program} {w : World} {K : PySem.W.Frag} {mg : Str → Option Value} {base : Heap} (T : Top K mg "spouse_on" s_spouse_on)
    (h_lives : Kn P w K mg base CX0 "lives" 1 (spF K mg 3 (F_lives))) : Kn P w K mg base CX0 "spouse_on" 2 (spF K mg 3 F_spouse_on) :=
  Kn.def_ (k := 1) T sc_spouse_on 3 rfl 10 rfl (fun _ _ _ _ _ _ us hl => match us, hl with | [_, _, _], _ => rfl) fun X e1 e2 e3 e4 e5 hr hk c => by
    subst e1; subst e2; subst e3; subst e4; subst e5
    exact b_spouse_on c hk  (h_lives.cal hr (by decide))
theorem b__law_spouse {X : Cx} (c : Ctx X N__law_spouse (defScope s__law_spouse) (fun _ => true)) (hk : X.env.scope.kind = .function)
    (h__law_lives : Cal X.prog X.w X.K X.mg X.base X.A CX0 "_law_lives" (spF X.K X.mg 3 (F__law_lives))) : PSsp X W0 (defBody s__law_spouse) S__law_spouse :=
  (PSsp.cons (PSp.setF c 3 (PFp.lst PAp.nil)) (PSsp.cons (PSp.for_ c [4, 5, 6] (PIp.seq (PEp.ix c (PRp.var c 0) (PEp.rd PEp.int))) (PGp.tup (n := 3) c (PGm.cons (PGp.name c 4) (PGm.cons (PGp.name c 5) (PGm.cons (PGp.name c 6) PGm.nil))))
      (PSsp.cons (PSp.if_ (PBw.pb (PBw.and (PBp.le (PRp.var c 6) (PRp.var c 2)) (PBw.and (PBp.eq c (PRp.var c 4) (PRp.var c 1)) (PBw.and1 (PRp.bool (PEp.rd (PEp.call c h__law_lives (PAp.cons (PEp.ix c (PRp.var c 0) (PEp.rd PEp.int)) (PAp.cons (PEp.var c 5) (PAp.cons (PEp.var c 2) PAp.nil))))))))))
      (PSsp.one (PSp.append c 3 (PEp.var c 5)))
      PSsp.nil) (PSsp.one (PSp.if_ (PBw.pb (PBw.and (PBp.le (PRp.var c 6) (PRp.var c 2)) (PBw.and (PBp.eq c (PRp.var c 5) (PRp.var c 1)) (PBw.and1 (PRp.bool (PEp.rd (PEp.call c h__law_lives (PAp.cons (PEp.ix c (PRp.var c 0) (PEp.rd PEp.int)) (PAp.cons (PEp.var c 4) (PAp.cons (PEp.var c 2) PAp.nil))))))))))
      (PSsp.one (PSp.append c 3 (PEp.var c 4)))
      PSsp.nil)))) (PSsp.frz 3 (PSsp.one (PSp.ret (PEp.ix c (PFp.rd (PFp.cat (PRp.var c 3) (PFp.rd (PFp.lst (PAp.cons PEp.non PAp.nil))))) (PEp.rd PEp.int)))))))
theorem kn__law_spouse {P : Program} {w : World} {K : PySem.W.Frag} {mg : Str → Option Value} {base : Heap} (T : Top K mg "_law_spouse" s__law_spouse)
    (h__law_lives : Kn P w K mg base CX0 "_law_lives" 1 (spF K mg 3 (F__law_lives))) : Kn P w K mg base CX0 "_law_spouse" 2 (spF K mg 3 F__law_spouse) :=
  Kn.def_ (k := 1) T sc__law_spouse 3 rfl 7 rfl (fun _ _ _ _ _ _ us hl => match us, hl with | [_, _, _], _ => rfl) fun X e1 e2 e3 e4 e5 hr hk c => by
    subst e1; subst e2; subst e3; subst e4; subst e5
    exact b__law_spouse c hk  (h__law_lives.cal hr (by decide))
theorem b_will_on {X : Cx} (c : Ctx X N_will_on (defScope s_will_on) (fun _ => true)) (hk : X.env.scope.kind = .function) : PSsp X W0 (defBody s_will_on) S_will_on :=
  (PSsp.cons (PSp.set c 3 (PEp.tup PAp.nil)) (PSsp.cons (PSp.set c 4 (PEp.neg (PEp.rd PEp.int))) (PSsp.cons (PSp.for_ c [5, 6, 7] (PIp.seq (PEp.ix c (PRp.var c 0) (PEp.rd PEp.int))) (PGp.tup (n := 3) c (PGm.cons (PGp.name c 5) (PGm.cons (PGp.name c 6) (PGm.cons (PGp.name c 7) PGm.nil))))
      (PSsp.one (PSp.if_ (PBw.pb (PBw.and (PBp.eq c (PRp.var c 5) (PRp.var c 1)) (PBw.and1 (PBp.leLe (PRp.var c 4) (PRp.var c 6) (PRp.var c 2)))))
      (PSsp.cons (PSp.set c 3 (PEp.var c 7)) (PSsp.one (PSp.set c 4 (PEp.var c 6))))
      PSsp.nil))) (PSsp.one (PSp.ret (PEp.var c 3))))))
theorem kn_will_on {P : Program} {w : World} {K : PySem.W.Frag} {mg : Str → Option Value} {base : Heap} (T : Top K mg "will_on" s_will_on) : Kn P w K mg base CX0 "will_on" 1 (spF K mg 3 F_will_on) :=
  Kn.def_ (k := 0) T sc_will_on 3 rfl 8 rfl (fun _ _ _ _ _ _ us hl => match us, hl with | [_, _, _], _ => rfl) fun X e1 e2 e3 e4 e5 hr hk c => by
    subst e1; subst e2; subst e3; subst e4; subst e5
    exact b_will_on c hk  
theorem b__law_will {X : Cx} (c : Ctx X N__law_will (defScope s__law_will) (fun _ => true)) (hk : X.env.scope.kind = .function)
    (m_enumerate : X.mg "enumerate" = none)
    (m_max : X.mg "max" = none) : PSsp X W0 (defBody s__law_will) S__law_will :=
  (PSsp.cons (PSp.frzB 3 (PSp.setLc c 3 [("_law_k", 4), ("_law_one", 5), ("_law_begun", 6), ("_law_gifts_here", 7)] (PIh.enum c m_enumerate (PEp.rd (PEp.ix c (PRp.var c 0) (PEp.rd PEp.int)))) (fun _ c' => (PGp.tup (n := 2) c' (PGm.cons (PGp.name c' 4) (PGm.cons (PGp.tup (n := 3) c' (PGm.cons (PGp.name c' 5) (PGm.cons (PGp.name c' 6) (PGm.cons (PGp.name c' 7) PGm.nil)))) PGm.nil)))) (fun _ c' => (PTq.one (PBw.pb (PBw.and (PBp.eq c' (PRp.var c' 5) (PRp.var c' 1)) (PBw.and1 (PBp.le (PRp.var c' 6) (PRp.var c' 2))))))) (fun _ c' => (PEp.tup (PAp.cons (PEp.var c' 6) (PAp.cons (PEp.var c' 4) PAp.nil)))) hk)) (PSsp.cons (PSp.if_ (PBp.eq c (PRp.var c 3) (PFp.rd (PFp.lst PAp.nil)))
      (PSsp.one (PSp.ret (PEp.tup PAp.nil)))
      PSsp.nil) (PSsp.one (PSp.ret (PEp.ix c (PEp.rd (PEp.ix c (PEp.rd (PEp.ix c (PRp.var c 0) (PEp.rd PEp.int))) (PEp.rd (PEp.ix c (PEp.rd (PEp.max1 c m_max (PRp.var c 3))) (PEp.rd PEp.int))))) (PEp.rd PEp.int))))))
theorem kn__law_will {P : Program} {w : World} {K : PySem.W.Frag} {mg : Str → Option Value} {base : Heap} (T : Top K mg "_law_will" s__law_will)
    (m_enumerate : mg "enumerate" = none)
    (m_max : mg "max" = none) : Kn P w K mg base CX0 "_law_will" 1 (spF K mg 3 F__law_will) :=
  Kn.def_ (k := 0) T sc__law_will 3 rfl 8 rfl (fun _ _ _ _ _ _ us hl => match us, hl with | [_, _, _], _ => rfl) fun X e1 e2 e3 e4 e5 hr hk c => by
    subst e1; subst e2; subst e3; subst e4; subst e5
    exact b__law_will c hk m_enumerate m_max 
theorem b__law_whole {X : Cx} (c : Ctx X N__law_whole (defScope s__law_whole) (fun _ => true)) (hk : X.env.scope.kind = .function)
    (m_bool : X.mg "bool" = none)
    (m_int : X.mg "int" = none)
    (m_isinstance : X.mg "isinstance" = none) : PSsp X W0 (defBody s__law_whole) S__law_whole :=
  (PSsp.one (PSp.ret (PBp.val (PBw.pb (PBw.and (PBp.isi (T := "int") c m_isinstance m_int (PRp.var c 0)) (PBw.and1 (PBp.not (PBp.isi (T := "bool") c m_isinstance m_bool (PRp.var c 0)))))))))
theorem kn__law_whole {P : Program} {w : World} {K : PySem.W.Frag} {mg : Str → Option Value} {base : Heap} (T : Top K mg "_law_whole" s__law_whole)
    (m_bool : mg "bool" = none)
    (m_int : mg "int" = none)
    (m_isinstance : mg "isinstance" = none) : Kn P w K mg base CX0 "_law_whole" 1 (spF K mg 1 F__law_whole) :=
  Kn.def_ (k := 0) T sc__law_whole 1 rfl 1 rfl (fun _ _ _ _ _ _ us hl => match us, hl with | [_], _ => rfl) fun X e1 e2 e3 e4 e5 hr hk c => by
    subst e1; subst e2; subst e3; subst e4; subst e5
    exact b__law_whole c hk m_bool m_int m_isinstance 
theorem b_law {X : Cx} (c : Ctx X N_law (defScope s_law) (fun _ => true)) (hk : X.env.scope.kind = .function)
    (m_enumerate : X.mg "enumerate" = none)
    (m_isinstance : X.mg "isinstance" = none)
    (m_len : X.mg "len" = none)
    (m_list : X.mg "list" = none)
    (m_tuple : X.mg "tuple" = none)
    (h__law_adopting : Cal X.prog X.w X.K X.mg X.base X.A CX0 "_law_adopting" (spN X.K X.mg 2 (F__law_adopting)))
    (h__law_weddings : Cal X.prog X.w X.K X.mg X.base X.A CX0 "_law_weddings" (spN X.K X.mg 3 (F__law_weddings)))
    (h__law_wills : Cal X.prog X.w X.K X.mg X.base X.A CX0 "_law_wills" (spN X.K X.mg 3 (F__law_wills)))
    (h__law_people : Cal X.prog X.w X.K X.mg X.base X.A CX0 "_law_people" (spN X.K X.mg 2 (F__law_people)))
    (h__law_cell_at : Cal X.prog X.w X.K X.mg X.base X.A CX0 "_law_cell_at" (spF X.K X.mg 2 (F__law_cell_at)))
    (h__law_days : Cal X.prog X.w X.K X.mg X.base X.A CX0 "_law_days" (spF X.K X.mg 3 (F__law_days)))
    (h_spouse_on : Cal X.prog X.w X.K X.mg X.base X.A CX0 "spouse_on" (spF X.K X.mg 3 (F_spouse_on)))
    (h__law_spouse : Cal X.prog X.w X.K X.mg X.base X.A CX0 "_law_spouse" (spF X.K X.mg 3 (F__law_spouse)))
    (h_will_on : Cal X.prog X.w X.K X.mg X.base X.A CX0 "will_on" (spF X.K X.mg 3 (F_will_on)))
    (h__law_stream : Cal X.prog X.w X.K X.mg X.base X.A CX0 "_law_stream" (spN X.K X.mg 2 (F__law_stream)))
    (h__law_will : Cal X.prog X.w X.K X.mg X.base X.A CX0 "_law_will" (spF X.K X.mg 3 (F__law_will)))
    (h__law_whole : Cal X.prog X.w X.K X.mg X.base X.A CX0 "_law_whole" (spF X.K X.mg 1 (F__law_whole))) : PSsp X W0 (defBody s_law) S_law :=
  (PSsp.cons (PSp.set c 1 (PEp.add (PEp.rd PEp.int) (PEp.rd (PEp.mod (PEp.rd (PEp.call c h__law_cell_at (PAp.cons (PEp.var c 0) (PAp.cons PEp.int PAp.nil)))) (PEp.rd PEp.int))))) (PSsp.cons (PSp.set c 2 (PFp.val (PFp.call c h__law_adopting (PAp.cons (PFp.val (PFp.call c h__law_people (PAp.cons (PEp.call c h__law_cell_at (PAp.cons (PEp.var c 0) (PAp.cons PEp.int PAp.nil))) (PAp.cons (PEp.var c 1) PAp.nil)))) (PAp.cons (PEp.call c h__law_cell_at (PAp.cons (PEp.var c 0) (PAp.cons PEp.int PAp.nil))) PAp.nil))))) (PSsp.cons (PSp.set c 3 (PFp.val (PFp.call c h__law_weddings (PAp.cons (PEp.var c 2) (PAp.cons (PEp.call c h__law_cell_at (PAp.cons (PEp.var c 0) (PAp.cons PEp.int PAp.nil))) (PAp.cons (PEp.mod (PEp.rd (PEp.div (PEp.rd (PEp.call c h__law_cell_at (PAp.cons (PEp.var c 0) (PAp.cons PEp.int PAp.nil)))) (PEp.rd PEp.int))) (PEp.rd PEp.int)) PAp.nil)))))) (PSsp.cons (PSp.setF c 4 (PFp.call c h__law_wills (PAp.cons (PEp.var c 2) (PAp.cons (PEp.call c h__law_cell_at (PAp.cons (PEp.var c 0) (PAp.cons PEp.int PAp.nil))) (PAp.cons (PEp.mod (PEp.rd (PEp.div (PEp.rd (PEp.call c h__law_cell_at (PAp.cons (PEp.var c 0) (PAp.cons PEp.int PAp.nil)))) (PEp.rd PEp.int))) (PEp.rd PEp.int)) PAp.nil))))) (PSsp.cons (PSp.if_ (PBw.pb (PBw.and (PBp.ne c (PRp.var c 4) (PFp.rd (PFp.lst PAp.nil))) (PBw.and1 (PBp.eq c (PEp.rd (PEp.mod (PEp.rd (PEp.call c h__law_cell_at (PAp.cons (PEp.var c 0) (PAp.cons PEp.int PAp.nil)))) (PEp.rd PEp.int))) (PEp.rd PEp.int)))))
      (PSsp.one (PSp.append c 4 (PEp.tup (PAp.cons (PEp.ix c (PEp.rd (PEp.ix c (PRp.var c 4) (PEp.rd PEp.int))) (PEp.rd PEp.int)) (PAp.cons (PEp.ix c (PEp.rd (PEp.ix c (PRp.var c 4) (PEp.rd PEp.int))) (PEp.rd PEp.int)) (PAp.cons (PEp.ix c (PEp.rd (PEp.ix c (PRp.var c 4) (PEp.rd (PEp.neg (PEp.rd PEp.int))))) (PEp.rd PEp.int)) PAp.nil))))))
      PSsp.nil) (PSsp.cons (PSp.setLc c 4 [("_law_one", 14)] (PIh.seq (PRp.var c 4)) (fun _ c' => (PGp.name c' 14)) (fun _ c' => (PTq.one (PBp.nin c' (PEp.rd (PEp.ix c' (PRp.var c' 14) (PEp.rd PEp.int))) (PFp.rd (PFp.lc c' [("_law_gift", 15)] (PIh.seq (PEp.rd (PEp.ix c' (PRp.var c' 14) (PEp.rd PEp.int)))) (fun _ c'' => (PGp.name c'' 15)) (fun _ c'' => PTq.no) (fun _ c'' => (PEp.ix c'' (PRp.var c'' 15) (PEp.rd PEp.int)))))))) (fun _ c' => (PEp.var c' 14)) hk) (PSsp.frz 4 (PSsp.cons (PSp.set c 5 (PEp.tup (PAp.cons (PEp.var c 2) (PAp.cons (PEp.var c 3) (PAp.cons (PEp.var c 4) PAp.nil))))) (PSsp.cons (PSp.set c 6 (PEp.tup (PAp.cons (PFp.val (PFp.list c m_list (PRp.var c 2))) (PAp.cons (PFp.val (PFp.list c m_list (PRp.var c 3))) (PAp.cons (PFp.val (PFp.list c m_list (PRp.var c 4))) PAp.nil))))) (PSsp.cons (PSp.for_ c [7, 8, 9, 10, 11, 12, 13] (PIp.enum c m_enumerate (PFp.val (PFp.cat (PFp.rd (PFp.call c h__law_stream (PAp.cons (PEp.call c h__law_cell_at (PAp.cons (PEp.var c 0) (PAp.cons PEp.int PAp.nil))) (PAp.cons PEp.int PAp.nil)))) (PFp.rd (PFp.call c h__law_stream (PAp.cons (PEp.call c h__law_cell_at (PAp.cons (PEp.var c 0) (PAp.cons PEp.int PAp.nil))) (PAp.cons PEp.int PAp.nil))))))) (PGp.tup (n := 2) c (PGm.cons (PGp.name c 7) (PGm.cons (PGp.name c 8) PGm.nil)))
      (PSsp.cons (PSp.set c 9 (PEp.mod (PEp.rd (PEp.div (PRp.var c 8) (PEp.rd PEp.int))) (PRp.var c 1))) (PSsp.cons (PSp.set c 10 (PEp.call c h__law_days (PAp.cons (PEp.var c 5) (PAp.cons (PEp.var c 9) (PAp.cons (PEp.div (PRp.var c 8) (PEp.rd PEp.int)) PAp.nil))))) (PSsp.cons (PSp.if_ (PBw.pb (PBw.and (PBp.eq c (PEp.rd (PEp.mod (PRp.var c 7) (PEp.rd PEp.int))) (PEp.rd PEp.int)) (PBw.and1 (PBp.ne c (PRp.var c 4) (PFp.rd (PFp.lst PAp.nil))))))
      (PSsp.cons (PSp.set c 9 (PEp.ix c (PEp.rd (PEp.ix c (PRp.var c 4) (PEp.rd (PEp.mod (PEp.rd (PEp.div (PRp.var c 8) (PEp.rd PEp.int))) (PEp.rd (PEp.len c m_len (PRp.var c 4))))))) (PEp.rd PEp.int))) (PSsp.one (PSp.set c 10 (PEp.add (PEp.rd (PEp.ix c (PEp.rd (PEp.ix c (PRp.var c 4) (PEp.rd (PEp.mod (PEp.rd (PEp.div (PRp.var c 8) (PEp.rd PEp.int))) (PEp.rd (PEp.len c m_len (PRp.var c 4))))))) (PEp.rd PEp.int))) (PEp.rd (PEp.mod (PEp.rd (PEp.div (PRp.var c 8) (PEp.rd PEp.int))) (PEp.rd PEp.int)))))))
      PSsp.nil) (PSsp.cons (PSp.set c 11 (PEp.call c h_spouse_on (PAp.cons (PEp.var c 6) (PAp.cons (PEp.var c 9) (PAp.cons (PEp.var c 10) PAp.nil))))) (PSsp.cons (PSp.set c 12 (PEp.call c h__law_spouse (PAp.cons (PEp.var c 5) (PAp.cons (PEp.var c 9) (PAp.cons (PEp.var c 10) PAp.nil))))) (PSsp.cons (PSp.if_ (PBw.pb (PBw.or (PBp.ne c (PRp.var c 11) (PRp.var c 12)) (PBw.or1 (PBw.pb (PBw.and (PBp.notN (PRp.var c 11)) (PBw.and1 (PBp.not (PRp.bool (PEp.rd (PEp.call c h__law_whole (PAp.cons (PEp.var c 11) PAp.nil)))))))))))
      (PSsp.one (PSp.ret PEp.bl))
      PSsp.nil) (PSsp.cons (PSp.set c 13 (PEp.call c h_will_on (PAp.cons (PEp.var c 6) (PAp.cons (PEp.var c 9) (PAp.cons (PEp.var c 10) PAp.nil))))) (PSsp.one (PSp.if_ (PBw.pb (PBw.or (PBp.not (PBp.isi (T := "tuple") c m_isinstance m_tuple (PRp.var c 13))) (PBw.or (PBp.ne c (PRp.var c 13) (PEp.rd (PEp.call c h__law_will (PAp.cons (PEp.var c 5) (PAp.cons (PEp.var c 9) (PAp.cons (PEp.var c 10) PAp.nil)))))) (PBw.or1 (PBp.ne c (PRp.var c 6) (PRp.var c 5))))))
      (PSsp.one (PSp.ret PEp.bl))
      PSsp.nil)))))))))) (PSsp.one (PSp.ret PEp.bl))))))))))))
theorem fn_law {P : Program} {w : World} {K : PySem.W.Frag} {mg : Str → Option Value} {base : Heap} {f : Addr} {fd : FuncData} (T : Fun K "law" "law" s_law f fd)
    (m_enumerate : mg "enumerate" = none)
    (m_isinstance : mg "isinstance" = none)
    (m_len : mg "len" = none)
    (m_list : mg "list" = none)
    (m_tuple : mg "tuple" = none)
    (h__law_adopting : Kn P w K mg base CX0 "_law_adopting" 2 (spN K mg 2 (F__law_adopting)))
    (h__law_weddings : Kn P w K mg base CX0 "_law_weddings" 3 (spN K mg 3 (F__law_weddings)))
    (h__law_wills : Kn P w K mg base CX0 "_law_wills" 2 (spN K mg 3 (F__law_wills)))
    (h__law_people : Kn P w K mg base CX0 "_law_people" 2 (spN K mg 2 (F__law_people)))
    (h__law_cell_at : Kn P w K mg base CX0 "_law_cell_at" 1 (spF K mg 2 (F__law_cell_at)))
    (h__law_days : Kn P w K mg base CX0 "_law_days" 1 (spF K mg 3 (F__law_days)))
    (h_spouse_on : Kn P w K mg base CX0 "spouse_on" 2 (spF K mg 3 (F_spouse_on)))
    (h__law_spouse : Kn P w K mg base CX0 "_law_spouse" 2 (spF K mg 3 (F__law_spouse)))
    (h_will_on : Kn P w K mg base CX0 "will_on" 1 (spF K mg 3 (F_will_on)))
    (h__law_stream : Kn P w K mg base CX0 "_law_stream" 1 (spN K mg 2 (F__law_stream)))
    (h__law_will : Kn P w K mg base CX0 "_law_will" 1 (spF K mg 3 (F__law_will)))
    (h__law_whole : Kn P w K mg base CX0 "_law_whole" 1 (spF K mg 1 (F__law_whole))) : FnOk P w K mg base CX0 4 f fd ["_law_script"] (spF K mg 1 F_law) :=
  ok_def (k := 3) T sc_law 1 rfl 16 rfl fun X e1 e2 e3 e4 e5 hr hk c => by
    subst e1; subst e2; subst e3; subst e4; subst e5
    exact b_law c hk m_enumerate m_isinstance m_len m_list m_tuple (h__law_adopting.cal hr (by decide)) (h__law_weddings.cal hr (by decide)) (h__law_wills.cal hr (by decide)) (h__law_people.cal hr (by decide)) (h__law_cell_at.cal hr (by decide)) (h__law_days.cal hr (by decide)) (h_spouse_on.cal hr (by decide)) (h__law_spouse.cal hr (by decide)) (h_will_on.cal hr (by decide)) (h__law_stream.cal hr (by decide)) (h__law_will.cal hr (by decide)) (h__law_whole.cal hr (by decide))
theorem all_mk {l : PySem.W.OpenLaw} {w : World} {K : PySem.W.Frag} {h : Heap} {mg : Str → Option Value} {fa f0 f1 f2 f3 f4 f5 f6 f7 f8 f9 f10 f11 f12 f13 f14 f15 f16 f17 f18 f19 : Addr} (X : K.In h) (G : h.Ns mainGlobals mg) (hfa : mg "law" = some (.ref fa))
    {od0 an0 : Option Addr} {sl0 : Array (Option Value)} {oc0 kV0 dc0 pm0 cd0 ct0 : Value}
    {od1 an1 : Option Addr} {sl1 : Array (Option Value)} {oc1 kV1 dc1 pm1 cd1 ct1 : Value}
    {od2 an2 : Option Addr} {sl2 : Array (Option Value)} {oc2 kV2 dc2 pm2 cd2 ct2 : Value}
    {od3 an3 : Option Addr} {sl3 : Array (Option Value)} {oc3 kV3 dc3 pm3 cd3 ct3 : Value}
    {od4 an4 : Option Addr} {sl4 : Array (Option Value)} {oc4 kV4 dc4 pm4 cd4 ct4 : Value}
    {od5 an5 : Option Addr} {sl5 : Array (Option Value)} {oc5 kV5 dc5 pm5 cd5 ct5 : Value}
    {od6 an6 : Option Addr} {sl6 : Array (Option Value)} {oc6 kV6 dc6 pm6 cd6 ct6 : Value}
    {od7 an7 : Option Addr} {sl7 : Array (Option Value)} {oc7 kV7 dc7 pm7 cd7 ct7 : Value}
    {od8 an8 : Option Addr} {sl8 : Array (Option Value)} {oc8 kV8 dc8 pm8 cd8 ct8 : Value}
    {od9 an9 : Option Addr} {sl9 : Array (Option Value)} {oc9 kV9 dc9 pm9 cd9 ct9 : Value}
    {od10 an10 : Option Addr} {sl10 : Array (Option Value)} {oc10 kV10 dc10 pm10 cd10 ct10 : Value}
    {od11 an11 : Option Addr} {sl11 : Array (Option Value)} {oc11 kV11 dc11 pm11 cd11 ct11 : Value}
    {od12 an12 : Option Addr} {sl12 : Array (Option Value)} {oc12 kV12 dc12 pm12 cd12 ct12 : Value}
    {od13 an13 : Option Addr} {sl13 : Array (Option Value)} {oc13 kV13 dc13 pm13 cd13 ct13 : Value}
    {od14 an14 : Option Addr} {sl14 : Array (Option Value)} {oc14 kV14 dc14 pm14 cd14 ct14 : Value}
    {od15 an15 : Option Addr} {sl15 : Array (Option Value)} {oc15 kV15 dc15 pm15 cd15 ct15 : Value}
    {od16 an16 : Option Addr} {sl16 : Array (Option Value)} {oc16 kV16 dc16 pm16 cd16 ct16 : Value}
    {od17 an17 : Option Addr} {sl17 : Array (Option Value)} {oc17 kV17 dc17 pm17 cd17 ct17 : Value}
    {od18 an18 : Option Addr} {sl18 : Array (Option Value)} {oc18 kV18 dc18 pm18 cd18 ct18 : Value}
    {od19 an19 : Option Addr} {sl19 : Array (Option Value)} {oc19 kV19 dc19 pm19 cd19 ct19 : Value}
    (a0 : PySem.W.nsIn K mainGlobals "_law_stream" = some (some (.ref f0))) (l0 : K.lookup f0 = some ⟨oc0, od0, .func (PySem.W.fnOf "_law_stream" "_law_stream" (defArgs s__law_stream) (defBody s__law_stream) (defScope s__law_stream) .none kV0 dc0 pm0 an0 cd0 ct0), sl0⟩) (c0 : PySem.W.codeIn K cd0 "_law_stream" = true) (k0 : PySem.W.keepIn K (.ref f0) = true)
    (a1 : PySem.W.nsIn K mainGlobals "_law_some" = some (some (.ref f1))) (l1 : K.lookup f1 = some ⟨oc1, od1, .func (PySem.W.fnOf "_law_some" "_law_some" (defArgs s__law_some) (defBody s__law_some) (defScope s__law_some) .none kV1 dc1 pm1 an1 cd1 ct1), sl1⟩) (c1 : PySem.W.codeIn K cd1 "_law_some" = true) (k1 : PySem.W.keepIn K (.ref f1) = true)
    (a2 : PySem.W.nsIn K mainGlobals "_law_adopting" = some (some (.ref f2))) (l2 : K.lookup f2 = some ⟨oc2, od2, .func (PySem.W.fnOf "_law_adopting" "_law_adopting" (defArgs s__law_adopting) (defBody s__law_adopting) (defScope s__law_adopting) .none kV2 dc2 pm2 an2 cd2 ct2), sl2⟩) (c2 : PySem.W.codeIn K cd2 "_law_adopting" = true) (k2 : PySem.W.keepIn K (.ref f2) = true)
    (a3 : PySem.W.nsIn K mainGlobals "_law_lives" = some (some (.ref f3))) (l3 : K.lookup f3 = some ⟨oc3, od3, .func (PySem.W.fnOf "_law_lives" "_law_lives" (defArgs s__law_lives) (defBody s__law_lives) (defScope s__law_lives) .none kV3 dc3 pm3 an3 cd3 ct3), sl3⟩) (c3 : PySem.W.codeIn K cd3 "_law_lives" = true) (k3 : PySem.W.keepIn K (.ref f3) = true)
    (a4 : PySem.W.nsIn K mainGlobals "_law_ends" = some (some (.ref f4))) (l4 : K.lookup f4 = some ⟨oc4, od4, .func (PySem.W.fnOf "_law_ends" "_law_ends" (defArgs s__law_ends) (defBody s__law_ends) (defScope s__law_ends) .none kV4 dc4 pm4 an4 cd4 ct4), sl4⟩) (c4 : PySem.W.codeIn K cd4 "_law_ends" = true) (k4 : PySem.W.keepIn K (.ref f4) = true)
    (a5 : PySem.W.nsIn K mainGlobals "_law_meets" = some (some (.ref f5))) (l5 : K.lookup f5 = some ⟨oc5, od5, .func (PySem.W.fnOf "_law_meets" "_law_meets" (defArgs s__law_meets) (defBody s__law_meets) (defScope s__law_meets) .none kV5 dc5 pm5 an5 cd5 ct5), sl5⟩) (c5 : PySem.W.codeIn K cd5 "_law_meets" = true) (k5 : PySem.W.keepIn K (.ref f5) = true)
    (a6 : PySem.W.nsIn K mainGlobals "_law_weddings" = some (some (.ref f6))) (l6 : K.lookup f6 = some ⟨oc6, od6, .func (PySem.W.fnOf "_law_weddings" "_law_weddings" (defArgs s__law_weddings) (defBody s__law_weddings) (defScope s__law_weddings) .none kV6 dc6 pm6 an6 cd6 ct6), sl6⟩) (c6 : PySem.W.codeIn K cd6 "_law_weddings" = true) (k6 : PySem.W.keepIn K (.ref f6) = true)
    (a7 : PySem.W.nsIn K mainGlobals "_law_gifts" = some (some (.ref f7))) (l7 : K.lookup f7 = some ⟨oc7, od7, .func (PySem.W.fnOf "_law_gifts" "_law_gifts" (defArgs s__law_gifts) (defBody s__law_gifts) (defScope s__law_gifts) .none kV7 dc7 pm7 an7 cd7 ct7), sl7⟩) (c7 : PySem.W.codeIn K cd7 "_law_gifts" = true) (k7 : PySem.W.keepIn K (.ref f7) = true)
    (a8 : PySem.W.nsIn K mainGlobals "_law_lowest" = some (some (.ref f8))) (l8 : K.lookup f8 = some ⟨oc8, od8, .func (PySem.W.fnOf "_law_lowest" "_law_lowest" (defArgs s__law_lowest) (defBody s__law_lowest) (defScope s__law_lowest) .none kV8 dc8 pm8 an8 cd8 ct8), sl8⟩) (c8 : PySem.W.codeIn K cd8 "_law_lowest" = true) (k8 : PySem.W.keepIn K (.ref f8) = true)
    (a9 : PySem.W.nsIn K mainGlobals "_law_wills" = some (some (.ref f9))) (l9 : K.lookup f9 = some ⟨oc9, od9, .func (PySem.W.fnOf "_law_wills" "_law_wills" (defArgs s__law_wills) (defBody s__law_wills) (defScope s__law_wills) .none kV9 dc9 pm9 an9 cd9 ct9), sl9⟩) (c9 : PySem.W.codeIn K cd9 "_law_wills" = true) (k9 : PySem.W.keepIn K (.ref f9) = true)
    (a10 : PySem.W.nsIn K mainGlobals "_law_people" = some (some (.ref f10))) (l10 : K.lookup f10 = some ⟨oc10, od10, .func (PySem.W.fnOf "_law_people" "_law_people" (defArgs s__law_people) (defBody s__law_people) (defScope s__law_people) .none kV10 dc10 pm10 an10 cd10 ct10), sl10⟩) (c10 : PySem.W.codeIn K cd10 "_law_people" = true) (k10 : PySem.W.keepIn K (.ref f10) = true)
    (a11 : PySem.W.nsIn K mainGlobals "_law_cell_at" = some (some (.ref f11))) (l11 : K.lookup f11 = some ⟨oc11, od11, .func (PySem.W.fnOf "_law_cell_at" "_law_cell_at" (defArgs s__law_cell_at) (defBody s__law_cell_at) (defScope s__law_cell_at) .none kV11 dc11 pm11 an11 cd11 ct11), sl11⟩) (c11 : PySem.W.codeIn K cd11 "_law_cell_at" = true) (k11 : PySem.W.keepIn K (.ref f11) = true)
    (a12 : PySem.W.nsIn K mainGlobals "_law_days" = some (some (.ref f12))) (l12 : K.lookup f12 = some ⟨oc12, od12, .func (PySem.W.fnOf "_law_days" "_law_days" (defArgs s__law_days) (defBody s__law_days) (defScope s__law_days) .none kV12 dc12 pm12 an12 cd12 ct12), sl12⟩) (c12 : PySem.W.codeIn K cd12 "_law_days" = true) (k12 : PySem.W.keepIn K (.ref f12) = true)
    (a13 : PySem.W.nsIn K mainGlobals "lives" = some (some (.ref f13))) (l13 : K.lookup f13 = some ⟨oc13, od13, .func (PySem.W.fnOf "lives" "lives" (defArgs s_lives) (defBody s_lives) (defScope s_lives) .none kV13 dc13 pm13 an13 cd13 ct13), sl13⟩) (c13 : PySem.W.codeIn K cd13 "lives" = true) (k13 : PySem.W.keepIn K (.ref f13) = true)
    (a14 : PySem.W.nsIn K mainGlobals "spouse_on" = some (some (.ref f14))) (l14 : K.lookup f14 = some ⟨oc14, od14, .func (PySem.W.fnOf "spouse_on" "spouse_on" (defArgs s_spouse_on) (defBody s_spouse_on) (defScope s_spouse_on) .none kV14 dc14 pm14 an14 cd14 ct14), sl14⟩) (c14 : PySem.W.codeIn K cd14 "spouse_on" = true) (k14 : PySem.W.keepIn K (.ref f14) = true)
    (a15 : PySem.W.nsIn K mainGlobals "_law_spouse" = some (some (.ref f15))) (l15 : K.lookup f15 = some ⟨oc15, od15, .func (PySem.W.fnOf "_law_spouse" "_law_spouse" (defArgs s__law_spouse) (defBody s__law_spouse) (defScope s__law_spouse) .none kV15 dc15 pm15 an15 cd15 ct15), sl15⟩) (c15 : PySem.W.codeIn K cd15 "_law_spouse" = true) (k15 : PySem.W.keepIn K (.ref f15) = true)
    (a16 : PySem.W.nsIn K mainGlobals "will_on" = some (some (.ref f16))) (l16 : K.lookup f16 = some ⟨oc16, od16, .func (PySem.W.fnOf "will_on" "will_on" (defArgs s_will_on) (defBody s_will_on) (defScope s_will_on) .none kV16 dc16 pm16 an16 cd16 ct16), sl16⟩) (c16 : PySem.W.codeIn K cd16 "will_on" = true) (k16 : PySem.W.keepIn K (.ref f16) = true)
    (a17 : PySem.W.nsIn K mainGlobals "_law_will" = some (some (.ref f17))) (l17 : K.lookup f17 = some ⟨oc17, od17, .func (PySem.W.fnOf "_law_will" "_law_will" (defArgs s__law_will) (defBody s__law_will) (defScope s__law_will) .none kV17 dc17 pm17 an17 cd17 ct17), sl17⟩) (c17 : PySem.W.codeIn K cd17 "_law_will" = true) (k17 : PySem.W.keepIn K (.ref f17) = true)
    (a18 : PySem.W.nsIn K mainGlobals "_law_whole" = some (some (.ref f18))) (l18 : K.lookup f18 = some ⟨oc18, od18, .func (PySem.W.fnOf "_law_whole" "_law_whole" (defArgs s__law_whole) (defBody s__law_whole) (defScope s__law_whole) .none kV18 dc18 pm18 an18 cd18 ct18), sl18⟩) (c18 : PySem.W.codeIn K cd18 "_law_whole" = true) (k18 : PySem.W.keepIn K (.ref f18) = true)
    (a19 : PySem.W.nsIn K mainGlobals "law" = some (some (.ref f19))) (l19 : K.lookup f19 = some ⟨oc19, od19, .func (PySem.W.fnOf "law" "law" (defArgs s_law) (defBody s_law) (defScope s_law) .none kV19 dc19 pm19 an19 cd19 ct19), sl19⟩) (c19 : PySem.W.codeIn K cd19 "law" = true) (k19 : PySem.W.keepIn K (.ref f19) = true)
    (z_bool : PySem.W.nsIn K mainGlobals "bool" = some none)
    (z_enumerate : PySem.W.nsIn K mainGlobals "enumerate" = some none)
    (z_int : PySem.W.nsIn K mainGlobals "int" = some none)
    (z_isinstance : PySem.W.nsIn K mainGlobals "isinstance" = some none)
    (z_len : PySem.W.nsIn K mainGlobals "len" = some none)
    (z_list : PySem.W.nsIn K mainGlobals "list" = some none)
    (z_max : PySem.W.nsIn K mainGlobals "max" = some none)
    (z_min : PySem.W.nsIn K mainGlobals "min" = some none)
    (z_range : PySem.W.nsIn K mainGlobals "range" = some none)
    (z_tuple : PySem.W.nsIn K mainGlobals "tuple" = some none)
    (hL : ∀ ns : List Int, ns.length ≤ 63 → F_law [scrD (ns.map PyData.int)] = .ok (.bool true)) :
    ∃ fd : FuncData, (∀ (s : Shared) (v : Value), BindsTo s fd ⟨[v], []⟩ [("_law_script", v)]) ∧ ∀ base : Heap, K.In base → base.Ns mainGlobals mg → FnOk l.prog w K mg base CX0 4 fa fd ["_law_script"] (spLaw K 63) := by
  have e := hfa.symm.trans (PySem.W.mg_of X G a19)
  cases e
  have m_bool := PySem.W.mg_none_of X G z_bool
  have m_enumerate := PySem.W.mg_none_of X G z_enumerate
  have m_int := PySem.W.mg_none_of X G z_int
  have m_isinstance := PySem.W.mg_none_of X G z_isinstance
  have m_len := PySem.W.mg_none_of X G z_len
  have m_list := PySem.W.mg_none_of X G z_list
  have m_max := PySem.W.mg_none_of X G z_max
  have m_min := PySem.W.mg_none_of X G z_min
  have m_range := PySem.W.mg_none_of X G z_range
  have m_tuple := PySem.W.mg_none_of X G z_tuple
  refine ⟨PySem.W.fnOf "law" "law" (defArgs s_law) (defBody s_law) (defScope s_law) .none kV19 dc19 pm19 an19 cd19 ct19, fun s v => .of_eq rfl, fun base _ _ => ?_⟩
  have T0 : Top K mg "_law_stream" s__law_stream := ⟨_, _, fun_mk (st := s__law_stream) l0 c0 k0, PySem.W.mg_of X G a0⟩
  have h__law_stream := kn__law_stream (P := l.prog) (w := w) (base := base) T0 m_range
  have T1 : Top K mg "_law_some" s__law_some := ⟨_, _, fun_mk (st := s__law_some) l1 c1 k1, PySem.W.mg_of X G a1⟩
  have h__law_some := kn__law_some (P := l.prog) (w := w) (base := base) T1 m_len
  have T2 : Top K mg "_law_adopting" s__law_adopting := ⟨_, _, fun_mk (st := s__law_adopting) l2 c2 k2, PySem.W.mg_of X G a2⟩
  have h__law_adopting := kn__law_adopting (P := l.prog) (w := w) (base := base) T2 m_enumerate m_len m_list m_range h__law_stream h__law_some
  have T3 : Top K mg "_law_lives" s__law_lives := ⟨_, _, fun_mk (st := s__law_lives) l3 c3 k3, PySem.W.mg_of X G a3⟩
  have h__law_lives := kn__law_lives (P := l.prog) (w := w) (base := base) T3 
  have T4 : Top K mg "_law_ends" s__law_ends := ⟨_, _, fun_mk (st := s__law_ends) l4 c4 k4, PySem.W.mg_of X G a4⟩
  have h__law_ends := kn__law_ends (P := l.prog) (w := w) (base := base) T4 m_min
  have T5 : Top K mg "_law_meets" s__law_meets := ⟨_, _, fun_mk (st := s__law_meets) l5 c5 k5, PySem.W.mg_of X G a5⟩
  have h__law_meets := kn__law_meets (P := l.prog) (w := w) (base := base) T5 h__law_ends
  have T6 : Top K mg "_law_weddings" s__law_weddings := ⟨_, _, fun_mk (st := s__law_weddings) l6 c6 k6, PySem.W.mg_of X G a6⟩
  have h__law_weddings := kn__law_weddings (P := l.prog) (w := w) (base := base) T6 m_len m_max h__law_stream h__law_lives h__law_meets
  have T7 : Top K mg "_law_gifts" s__law_gifts := ⟨_, _, fun_mk (st := s__law_gifts) l7 c7 k7, PySem.W.mg_of X G a7⟩
  have h__law_gifts := kn__law_gifts (P := l.prog) (w := w) (base := base) T7 m_len m_range
  have T8 : Top K mg "_law_lowest" s__law_lowest := ⟨_, _, fun_mk (st := s__law_lowest) l8 c8 k8, PySem.W.mg_of X G a8⟩
  have h__law_lowest := kn__law_lowest (P := l.prog) (w := w) (base := base) T8 
  have T9 : Top K mg "_law_wills" s__law_wills := ⟨_, _, fun_mk (st := s__law_wills) l9 c9 k9, PySem.W.mg_of X G a9⟩
  have h__law_wills := kn__law_wills (P := l.prog) (w := w) (base := base) T9 m_len m_tuple h__law_stream h__law_gifts h__law_lowest
  have T10 : Top K mg "_law_people" s__law_people := ⟨_, _, fun_mk (st := s__law_people) l10 c10 k10, PySem.W.mg_of X G a10⟩
  have h__law_people := kn__law_people (P := l.prog) (w := w) (base := base) T10 m_enumerate m_range h__law_stream h__law_some
  have T11 : Top K mg "_law_cell_at" s__law_cell_at := ⟨_, _, fun_mk (st := s__law_cell_at) l11 c11 k11, PySem.W.mg_of X G a11⟩
  have h__law_cell_at := kn__law_cell_at (P := l.prog) (w := w) (base := base) T11 m_len
  have T12 : Top K mg "_law_days" s__law_days := ⟨_, _, fun_mk (st := s__law_days) l12 c12 k12, PySem.W.mg_of X G a12⟩
  have h__law_days := kn__law_days (P := l.prog) (w := w) (base := base) T12 m_len m_max
  have T13 : Top K mg "lives" s_lives := ⟨_, _, fun_mk (st := s_lives) l13 c13 k13, PySem.W.mg_of X G a13⟩
  have h_lives := kn_lives (P := l.prog) (w := w) (base := base) T13 
  have T14 : Top K mg "spouse_on" s_spouse_on := ⟨_, _, fun_mk (st := s_spouse_on) l14 c14 k14, PySem.W.mg_of X G a14⟩
  have h_spouse_on := kn_spouse_on (P := l.prog) (w := w) (base := base) T14 h_lives
  have T15 : Top K mg "_law_spouse" s__law_spouse := ⟨_, _, fun_mk (st := s__law_spouse) l15 c15 k15, PySem.W.mg_of X G a15⟩
  have h__law_spouse := kn__law_spouse (P := l.prog) (w := w) (base := base) T15 h__law_lives
  have T16 : Top K mg "will_on" s_will_on := ⟨_, _, fun_mk (st := s_will_on) l16 c16 k16, PySem.W.mg_of X G a16⟩
  have h_will_on := kn_will_on (P := l.prog) (w := w) (base := base) T16 
  have T17 : Top K mg "_law_will" s__law_will := ⟨_, _, fun_mk (st := s__law_will) l17 c17 k17, PySem.W.mg_of X G a17⟩
  have h__law_will := kn__law_will (P := l.prog) (w := w) (base := base) T17 m_enumerate m_max
  have T18 : Top K mg "_law_whole" s__law_whole := ⟨_, _, fun_mk (st := s__law_whole) l18 c18 k18, PySem.W.mg_of X G a18⟩
  have h__law_whole := kn__law_whole (P := l.prog) (w := w) (base := base) T18 m_bool m_int m_isinstance
  exact law_of (fn_law (fun_mk (st := s_law) l19 c19 k19) m_enumerate m_isinstance m_len m_list m_tuple h__law_adopting h__law_weddings h__law_wills h__law_people h__law_cell_at h__law_days h_spouse_on h__law_spouse h_will_on h__law_stream h__law_will h__law_whole) hL
end K07
open PySem PySem.W PyProof.Rows
set_option maxHeartbeats 0 in
theorem PySem.Challenge.cw_estateroll_k07_spouses_and_wills_holds : PySem.Challenge.rw_estateroll_k07_spouses_and_wills.Holds := by
  w_on; o_law; k_head; (case hw => w_witness2)
  k_fill
  refine L2.walk_of (l := PySem.Challenge.rw_estateroll_k07_spouses_and_wills) (n := 63) (k := 4) (x := "_law_script") (CX := fun _ => L2.CX0) (sp := fun w => DL.spLaw _ 63) rfl (by decide) rfl ⟨rfl, by decide, by decide⟩ (fun w h Y => PySem.W.kIn_of Y) ?F (fun _ _ a ns hl _ hS => ⟨a, ns, rfl, hS, hl, fun _ => rfl⟩) (fun _ _ _ _ _ h => h)
  case F =>
    intro w mg fa h KX G hmg
    refine' K07.all_mk KX G hmg ?a0 ?l0 ?c0 ?k0 ?a1 ?l1 ?c1 ?k1 ?a2 ?l2 ?c2 ?k2 ?a3 ?l3 ?c3 ?k3 ?a4 ?l4 ?c4 ?k4 ?a5 ?l5 ?c5 ?k5 ?a6 ?l6 ?c6 ?k6 ?a7 ?l7 ?c7 ?k7 ?a8 ?l8 ?c8 ?k8 ?a9 ?l9 ?c9 ?k9 ?a10 ?l10 ?c10 ?k10 ?a11 ?l11 ?c11 ?k11 ?a12 ?l12 ?c12 ?k12 ?a13 ?l13 ?c13 ?k13 ?a14 ?l14 ?c14 ?k14 ?a15 ?l15 ?c15 ?k15 ?a16 ?l16 ?c16 ?k16 ?a17 ?l17 ?c17 ?k17 ?a18 ?l18 ?c18 ?k18 ?a19 ?l19 ?c19 ?k19 ?z_bool ?z_enumerate ?z_int ?z_isinstance ?z_len ?z_list ?z_max ?z_min ?z_range ?z_tuple K07.law_true
    (case a0 => k_is)
    (case l0 => k_is)
    (case c0 => k_is)
    (case k0 => k_is)
    (case a1 => k_is)
    (case l1 => k_is)
    (case c1 => k_is)
    (case k1 => k_is)
    (case a2 => k_is)
    (case l2 => k_is)
    (case c2 => k_is)
    (case k2 => k_is)
    (case a3 => k_is)
    (case l3 => k_is)
    (case c3 => k_is)
    (case k3 => k_is)
    (case a4 => k_is)
    (case l4 => k_is)
    (case c4 => k_is)
    (case k4 => k_is)
    (case a5 => k_is)
    (case l5 => k_is)
    (case c5 => k_is)
    (case k5 => k_is)
    (case a6 => k_is)
    (case l6 => k_is)
    (case c6 => k_is)
    (case k6 => k_is)
    (case a7 => k_is)
    (case l7 => k_is)
    (case c7 => k_is)
    (case k7 => k_is)
    (case a8 => k_is)
    (case l8 => k_is)
    (case c8 => k_is)
    (case k8 => k_is)
    (case a9 => k_is)
    (case l9 => k_is)
    (case c9 => k_is)
    (case k9 => k_is)
    (case a10 => k_is)
    (case l10 => k_is)
    (case c10 => k_is)
    (case k10 => k_is)
    (case a11 => k_is)
    (case l11 => k_is)
    (case c11 => k_is)
    (case k11 => k_is)
    (case a12 => k_is)
    (case l12 => k_is)
    (case c12 => k_is)
    (case k12 => k_is)
    (case a13 => k_is)
    (case l13 => k_is)
    (case c13 => k_is)
    (case k13 => k_is)
    (case a14 => k_is)
    (case l14 => k_is)
    (case c14 => k_is)
    (case k14 => k_is)
    (case a15 => k_is)
    (case l15 => k_is)
    (case c15 => k_is)
    (case k15 => k_is)
    (case a16 => k_is)
    (case l16 => k_is)
    (case c16 => k_is)
    (case k16 => k_is)
    (case a17 => k_is)
    (case l17 => k_is)
    (case c17 => k_is)
    (case k17 => k_is)
    (case a18 => k_is)
    (case l18 => k_is)
    (case c18 => k_is)
    (case k18 => k_is)
    (case a19 => k_is)
    (case l19 => k_is)
    (case c19 => k_is)
    (case k19 => k_is)
    (case z_bool => k_is)
    (case z_enumerate => k_is)
    (case z_int => k_is)
    (case z_isinstance => k_is)
    (case z_len => k_is)
    (case z_list => k_is)
    (case z_max => k_is)
    (case z_min => k_is)
    (case z_range => k_is)
    (case z_tuple => k_is)
