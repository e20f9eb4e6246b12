import PyProof.Rows.All
import Wide.All
import OpenK.AllK
import Wide.FinOn
import HandS.ForMost
import HandS.ForExc
import HandS.Wide
import HandS.IsInst
import HandS.Deep
import HandS.Flow
import HandS.Conv
import HandS.Lambda
import HandS.EndTab
import KE.KDictKeyed
import HandS.TupAny
import HandS.CallSlots
import KE.DataMinMax
import KE.SortData
import HandS.SortKw
import KE.SortKeyHeap
import HandS.HeadHook4
import HandS.HeadWalk
import HandS.Head2
import HandS.HeadEnd
import KE.KDictDisplayH
import HandS.TupLen
import HandS.SortInts
import HandS.TryOnly
import HandS.WordsExc
import HandS.HeadHook1
import PySem.Challenge.RW_estateroll_k14_whole_far_off
set_option Elab.async false
set_option linter.all false
set_option maxRecDepth 100000
set_option maxHeartbeats 4000000
/-! DL0: data in the tracked heap, environments of data, and how both lie in the hand layer's states. -/
namespace DL
open PySem PySem.Spec PyProof.Rows L2

abbrev D := PyData

/-- a key as data -/
def kD : Key → D
  | .inl i => .int i
  | .inr x => .str x

/-- the law's own script as data: a list that may stand in the written part (no dict has the key None here) -/
def scrD (ds : List D) : D := .dict [(.none, .list ds)]

mutual
/-- v shows the data d in the tracked heap F -/
inductive Rp (K : PySem.W.Frag) (F : Hp) : V → D → Prop
  | non : Rp K F .non .none
  | bl (b : Bool) : Rp K F (.bl b) (.bool b)
  | int (i : Int) : Rp K F (.int i) (.int i)
  | str (x : Str) : Rp K F (.str x) (.str x)
  | lst {a : Addr} {vs : List V} {ds : List D} : F a = some (.lst vs) → RpA K F vs ds → Rp K F (.ref a) (.list ds)
  | tup {a : Addr} {vs : List V} {ds : List D} : SqT K F a vs → RpA K F vs ds → Rp K F (.ref a) (.tuple ds)
  | scr {a : Addr} {ns : List Int} : SqL K F a (ns.map V.int) → Rp K F (.ref a) (scrD (ns.map PyData.int))
  | dK {a : Addr} {ks : List (Key × V)} {kvs : List (D × D)} : F a = some (.dK ks) → RpK K F ks kvs → Rp K F (.ref a) (.dict kvs)
inductive RpA (K : PySem.W.Frag) (F : Hp) : List V → List D → Prop
  | nil : RpA K F [] []
  | cons {v : V} {vs : List V} {d : D} {ds : List D} : Rp K F v d → RpA K F vs ds → RpA K F (v :: vs) (d :: ds)
inductive RpK (K : PySem.W.Frag) (F : Hp) : List (Key × V) → List (D × D) → Prop
  | nil : RpK K F [] []
  | cons {k : Key} {v : V} {ks : List (Key × V)} {d : D} {kvs : List (D × D)} : Rp K F v d → RpK K F ks kvs → RpK K F ((k, v) :: ks) ((kD k, d) :: kvs)
end

theorem Same.rd {H H' : Hp} {a : Addr} {u : HO} (e : Same H H') (h : Rd H a u) : Rd H' a u := by
  rcases h with h | ⟨o, h⟩
  · exact .inl (e _ _ h)
  · exact .inr ⟨o, e _ _ h⟩
theorem Same.sqT {K : PySem.W.Frag} {H H' : Hp} {a : Addr} {xs : List V} (e : Same H H') (h : SqT K H a xs) : SqT K H' a xs := by
  rcases h with (h | ⟨o, h⟩) | h
  · exact .inl (.inl (e _ _ h))
  · exact .inl (.inr ⟨o, e _ _ h⟩)
  · exact .inr h

section
variable {K : PySem.W.Frag} {F F' : Hp}
mutual
theorem Rp.mono (e : Same F F') : ∀ (d : D) (v : V), Rp K F v d → Rp K F' v d
  | .none, _, h => by cases h; exact .non
  | .bool b, _, h => by cases h; exact .bl b
  | .int i, _, h => by cases h; exact .int i
  | .str x, _, h => by cases h; exact .str x
  | .list ds, _, h => by
    cases h with
    | lst hs ha => exact .lst (e _ _ hs) (RpA.mono e ds _ ha)
  | .tuple ds, _, h => by
    cases h with
    | tup hs ha => exact .tup (Same.sqT e hs) (RpA.mono e ds _ ha)
  | .dict kvs, _, h => by
    cases h with
    | dK hs ha => exact .dK (e _ _ hs) (RpK.mono e kvs _ ha)
    | scr hs => exact .scr (e.seq hs)
theorem RpA.mono (e : Same F F') : ∀ (ds : List D) (vs : List V), RpA K F vs ds → RpA K F' vs ds
  | [], _, h => by cases h; exact .nil
  | d :: ds, _, h => by
    cases h with
    | cons h1 h2 => exact .cons (Rp.mono e d _ h1) (RpA.mono e ds _ h2)
theorem RpK.mono (e : Same F F') : ∀ (kvs : List (D × D)) (ks : List (Key × V)), RpK K F ks kvs → RpK K F' ks kvs
  | [], _, h => by cases h; exact .nil
  | (_, d) :: kvs, _, h => by
    cases h with
    | cons h1 h2 => exact .cons (Rp.mono e d _ h1) (RpK.mono e kvs _ h2)
end

/-! data that no list and no dict stands in -/
mutual
def imm : D → Bool
  | .none => true
  | .bool _ => true
  | .int _ => true
  | .str _ => true
  | .list _ => false
  | .tuple ds => immA ds
  | .dict _ => false
def immA : List D → Bool
  | [] => true
  | d :: ds => imm d && immA ds
end

/-- such data leans on tuples alone -/
def TupSame (F F' : Hp) : Prop := ∀ a vs, Rd F a (.tup vs) → Rd F' a (.tup vs)
mutual
theorem Rp.imm (e : TupSame F F') : ∀ (d : D) (v : V), imm d = true → Rp K F v d → Rp K F' v d
  | .none, _, _, h => by cases h; exact .non
  | .bool b, _, _, h => by cases h; exact .bl b
  | .int i, _, _, h => by cases h; exact .int i
  | .str x, _, _, h => by cases h; exact .str x
  | .list ds, _, i, _ => by simp [DL.imm] at i
  | .tuple ds, _, i, h => by
    cases h with
    | tup hs ha =>
      refine .tup ?_ (RpA.imm e ds _ (by simpa [DL.imm] using i) ha)
      rcases hs with hs | hs
      · exact .inl (e _ _ hs)
      · exact .inr hs
  | .dict _, _, i, _ => by simp [DL.imm] at i
theorem RpA.imm (e : TupSame F F') : ∀ (ds : List D) (vs : List V), immA ds = true → RpA K F vs ds → RpA K F' vs ds
  | [], _, _, h => by cases h; exact .nil
  | d :: ds, _, i, h => by
    have i' : DL.imm d = true ∧ immA ds = true := by simpa [immA] using i
    cases h with
    | cons h1 h2 => exact .cons (Rp.imm e d _ i'.1 h1) (RpA.imm e ds _ i'.2 h2)
end

theorem RpA.length : ∀ {vs : List V} {ds : List D}, RpA K F vs ds → vs.length = ds.length
  | _, _, .nil => rfl
  | _, _, .cons _ h => by simp [RpA.length h]
theorem RpA.get : ∀ {vs : List V} {ds : List D} {i : Nat} {d : D}, RpA K F vs ds → ds[i]? = some d → ∃ v, vs[i]? = some v ∧ Rp K F v d
  | _, _, _, _, .nil, e => by simp at e
  | _, _, 0, _, .cons r _, e => by simp at e; subst e; exact ⟨_, rfl, r⟩
  | _, _, i + 1, d, .cons _ t, e => by
    obtain ⟨u, h1, h2⟩ := RpA.get (i := i) (d := d) t (by simpa using e)
    exact ⟨u, by simpa using h1, h2⟩
theorem RpA.at : ∀ {vs : List V} {ds : List D} {i : Nat} {v : V}, RpA K F vs ds → vs[i]? = some v → ∃ d, ds[i]? = some d ∧ Rp K F v d
  | _, _, _, _, .nil, e => by simp at e
  | _, _, 0, _, .cons r _, e => by simp at e; subst e; exact ⟨_, rfl, r⟩
  | _, _, i + 1, d, .cons _ t, e => by
    obtain ⟨u, h1, h2⟩ := RpA.at (i := i) (v := d) t (by simpa using e)
    exact ⟨u, by simpa using h1, h2⟩
theorem RpA.append : ∀ {vs ws : List V} {ds es : List D}, RpA K F vs ds → RpA K F ws es → RpA K F (vs ++ ws) (ds ++ es)
  | _, _, _, _, .nil, s => s
  | _, _, _, _, .cons r t, s => .cons r (RpA.append t s)
theorem RpA.one {v : V} {d : D} (h : Rp K F v d) : RpA K F [v] [d] := .cons h .nil
theorem RpA.take : ∀ {vs : List V} {ds : List D} (n : Nat), RpA K F vs ds → RpA K F (vs.take n) (ds.take n)
  | _, _, 0, _ => .nil
  | _, _, _ + 1, .nil => .nil
  | _, _, n + 1, .cons r t => .cons r (RpA.take n t)
theorem RpA.drop : ∀ {vs : List V} {ds : List D} (n : Nat), RpA K F vs ds → RpA K F (vs.drop n) (ds.drop n)
  | _, _, 0, r => r
  | _, _, _ + 1, .nil => .nil
  | _, _, n + 1, .cons _ t => RpA.drop n t
theorem RpA.set {v : V} {d : D} (r : Rp K F v d) : ∀ {vs : List V} {ds : List D} (i : Nat), RpA K F vs ds → RpA K F (vs.set i v) (ds.set i d)
  | _, _, _, .nil => .nil
  | _, _, 0, .cons _ t => .cons r t
  | _, _, i + 1, .cons q t => .cons q (RpA.set r i t)
theorem RpA.reverse {vs : List V} {ds : List D} (h : RpA K F vs ds) : RpA K F vs.reverse ds.reverse := by
  induction vs generalizing ds with
  | nil => cases h; exact .nil
  | cons v vs ih =>
    cases h with
    | cons h1 h2 =>
      rw [List.reverse_cons, List.reverse_cons]
      exact (ih h2).append (.one h1)
theorem RpA.rep {vs : List V} {ds : List D} (h : RpA K F vs ds) : ∀ k : Nat, RpA K F (List.replicate k vs).flatten (List.replicate k ds).flatten
  | 0 => .nil
  | k + 1 => by
    rw [List.replicate_succ, List.replicate_succ, List.flatten_cons, List.flatten_cons]
    exact h.append (RpA.rep h k)
theorem RpA.ints : ∀ ns : List Int, RpA K F (ns.map V.int) (ns.map PyData.int)
  | [] => .nil
  | n :: ns => .cons (.int n) (RpA.ints ns)

/-! ### into the layer's own data -/
mutual
theorem Rp.dp : ∀ (d : D) (v : V), d.canLay0 = true → Rp K F v d → Dp K F v d
  | .none, _, _, h => by cases h; exact .non
  | .bool b, _, _, h => by cases h; exact .bl b
  | .int i, _, _, h => by cases h; exact .int i
  | .str x, _, _, h => by cases h; exact .str x
  | .list ds, _, i, h => by
    cases h with
    | lst hs ha => exact .lst (SqL.of hs) (RpA.dp ds _ (by simpa [PyData.canLay0] using i) ha)
  | .tuple ds, _, i, h => by
    cases h with
    | tup hs ha => exact .tup hs (RpA.dp ds _ (by simpa [PyData.canLay0] using i) ha)
  | .dict _, _, i, _ => by simp [PyData.canLay0] at i
theorem RpA.dp : ∀ (ds : List D) (vs : List V), PyData.canLayAll0 ds = true → RpA K F vs ds → DpAll K F vs ds
  | [], _, _, h => by cases h; exact .nil
  | d :: ds, _, i, h => by
    have i' : d.canLay0 = true ∧ PyData.canLayAll0 ds = true := by simpa [PyData.canLayAll0] using i
    cases h with
    | cons h1 h2 => exact .cons (Rp.dp d _ i'.1 h1) (RpA.dp ds _ i'.2 h2)
end
end

/-! ### tables of code objects: they grow where a lambda is made -/
/-- the tables, by place and by the name that their code objects bear -/
class TabP where
  T : List (Addr × Str)
  W : World
  BC : Addr
variable [TabP]
def Tb (H : Hp) : Prop := LamX.Tabs TabP.T H
def NT (o : HO) (p : Option HO) : Prop := match o with
  | .tbl _ => ∃ qs, p = some (.tbl qs)
  | o => p = some o
theorem NT.of {o : HO} {p : Option HO} (h : p = some o) : NT o p := by
  cases o with
  | tbl ps => exact ⟨ps, h⟩
  | _ => exact h
theorem NT.some {o : HO} {p : Option HO} (h : NT o p) : p ≠ none := by
  cases o with
  | tbl ps => obtain ⟨qs, e⟩ := h; rw [e]; exact fun z => nomatch z
  | _ => rw [show p = _ from h]; exact fun z => nomatch z
theorem NT.keep {o : HO} {p : Option HO} (h : NT o p) (n : ∀ ps, o ≠ .tbl ps) : p = Option.some o := by
  cases o with
  | tbl ps => exact absurd rfl (n ps)
  | _ => exact h
/-- all stays but the tables, which stay tables -/
def SameN (H H' : Hp) : Prop := ∀ a o, H a = some o → NT o (H' a)
theorem SameN.refl (H : Hp) : SameN H H := fun _ _ e => .of e
theorem Same.n {H H' : Hp} (h : Same H H') : SameN H H' := fun a o e => .of (h a o e)
theorem NT.trans {o : HO} {p : Addr → Option HO} {a : Addr} {H' : Hp} (h : NT o (p a)) (k : SameN p H') : NT o (H' a) := by
  cases o with
  | tbl ps =>
    obtain ⟨qs, e⟩ := h
    exact k a (.tbl qs) e
  | _ => exact k _ _ (show p a = _ from h)
theorem SameN.trans {H H1 H2 : Hp} (a : SameN H H1) (b : SameN H1 H2) : SameN H H2 := fun c o e => (a c o e).trans b
theorem SameN.free {H H' : Hp} (h : SameN H H') {a : Addr} (e : H' a = none) : H a = none := by
  cases q : H a with
  | none => rfl
  | some o => exact absurd e (h a o q).some
theorem SameN.seq {K : PySem.W.Frag} {H H' : Hp} {a : Addr} {xs : List V} (e : SameN H H') (h : SqL K H a xs) : SqL K H' a xs := by
  rcases h with (h | ⟨o, h⟩) | h
  · exact .inl (.inl (e _ _ h))
  · exact .inl (.inr ⟨o, e _ _ h⟩)
  · exact .inr h
theorem Tb.same {H H' : Hp} (h : Tb H) (e : Same H H') : Tb H' := LamX.Tabs.ext h e
/-- a dict whose keys are pairs (int, bool): by its object -/
def dbo (a : Addr) (od : Obj) : HO := .ext fun h => h.get? a = some od
/-- a list, a dict of one's own is no table and no code object -/
def Own1 (o : HO) : Prop := (∃ vs, o = .lst vs) ∨ (∃ ks, o = .dK ks) ∨ (∃ a od, o = dbo a od ∧ od.ExactDict ∧ ∃ es ep, od.data = .dict es ep) ∨ ∃ C dx fs, o = .ins C dx fs
theorem dbo_code {a c : Addr} {od : Obj} {es : Array DictEntry} {ep : Nat} {q : Str} (hd : od.data = .dict es ep) : dbo a od ≠ LamX.CodeO c q := fun e => by
  unfold dbo LamX.CodeO at e
  have f := congrFun (HO.ext.inj e) { objs := Array.replicate (a + 1) od }
  have get : ∀ b : Addr, ({ objs := Array.replicate (a + 1) od } : Heap).get? b = if b < a + 1 then some od else none := fun b => by
    unfold Heap.get?
    dsimp only
    rw [Array.getElem?_replicate]
    by_cases hb : b < a + 1
    · rw [if_pos hb]
      obtain ⟨c, d, dt, sl⟩ := od
      dsimp only at hd
      subst hd
      rfl
    · rw [if_neg hb]
  obtain ⟨oc, vs, t, h1, h2, _⟩ := f.mp (by rw [get, if_pos (Nat.lt_succ_self a)])
  rw [get] at h1
  split at h1
  · cases h1; rw [hd] at h2; cases h2
  · cases h1
theorem Tb.upd {H : Hp} {a : Addr} {u o : HO} (h : Tb H) (e : H a = some u) (hu : Own1 u) : Tb (L2.upd H a o) := by
  intro p hp
  obtain ⟨ps, h1, h2, h3⟩ := h p hp
  have n1 : p.1 ≠ a := fun z => by
    rw [z, e] at h1
    rcases hu with ⟨vs, rfl⟩ | ⟨ks, rfl⟩ | ⟨b, od, rfl, _⟩ | ⟨C, dx, fs, rfl⟩
    · cases h1
    · cases h1
    · cases h1
    · cases h1
  refine ⟨ps, by rw [upd_ne n1]; exact h1, h2, fun pos cv hc => ?_⟩
  obtain ⟨c, e1, e2⟩ := h3 pos cv hc
  have n2 : c ≠ a := fun z => by
    rw [z, e] at e2
    rcases hu with ⟨vs, rfl⟩ | ⟨ks, rfl⟩ | ⟨b, od, rfl, _, es, ep, hd⟩ | ⟨C, dx, fs, rfl⟩
    · unfold LamX.CodeO at e2; cases e2
    · unfold LamX.CodeO at e2; cases e2
    · exact dbo_code hd (Option.some.inj e2)
    · unfold LamX.CodeO at e2; cases e2
  exact ⟨c, e1, by rw [upd_ne n2]; exact e2⟩

/-! ### from one state of the tracked heap to a later one -/
/-- no tables -/
def NoT (F : Hp) : Prop := ∀ a ps, F a ≠ some (.tbl ps)
/-- F: what is known for good; H: all that is tracked. New things of F are new in H; what was tracked stays -/
structure Ext (F H F' H' : Hp) : Prop where
  ff : Same F F'
  nw : ∀ a o, F' a = some o → F a = some o ∨ H a = none
  le : Same F' H'
  hh : SameN H H'
  tb : Tb H → Tb H'
  nt : NoT F → NoT F'
theorem Ext.refl {F H : Hp} (h : Same F H) : Ext F H F H := ⟨Same.refl _, fun _ _ e => .inl e, h, SameN.refl _, id, id⟩
theorem Ext.trans {F H F1 H1 F2 H2 : Hp} (a : Ext F H F1 H1) (b : Ext F1 H1 F2 H2) : Ext F H F2 H2 :=
  ⟨a.ff.trans b.ff, fun c o e => by
    rcases b.nw c o e with z | z
    · exact a.nw c o z
    · exact .inr (a.hh.free z), b.le, a.hh.trans b.hh, fun t => b.tb (a.tb t), fun t => b.nt (a.nt t)⟩
theorem same_new {H : Hp} {p : Addr} (h : H p = none) (o : HO) : Same H (upd H p o) := fun b u q => by rw [upd_ne (ne_of_none q h)]; exact q
theorem Same.none {F H : Hp} (h : Same F H) {p : Addr} (e : H p = Option.none) : F p = Option.none := h.free e
/-- a new thing, known for good -/
theorem Ext.newF {F H F' H' : Hp} (x : Ext F H F' H') {p : Addr} (h : H' p = none) (o : HO) (ho : ∀ ps, o ≠ .tbl ps := by exact fun _ z => nomatch z) : Ext F H (upd F' p o) (upd H' p o) := by
  refine x.trans ⟨same_new (x.le.free h) o, fun a u e => ?_, fun a u e => ?_, (Same.n (same_new h o)), fun t => t.same (same_new h o), fun t a ps e => ?_⟩
  · by_cases ha : a = p
    · exact .inr (by rw [ha]; exact h)
    · rw [upd_ne ha] at e; exact .inl e
  · by_cases ha : a = p
    · rw [ha] at e ⊢; rw [upd_same] at e ⊢; exact e
    · rw [upd_ne ha] at e ⊢; exact x.le _ _ e
  · by_cases ha : a = p
    · rw [ha, upd_same] at e; exact ho ps (Option.some.inj e)
    · rw [upd_ne ha] at e; exact t a ps e
/-- a new thing, of one's own -/
theorem Ext.newH {F H F' H' : Hp} (x : Ext F H F' H') {p : Addr} (h : H' p = none) (o : HO) : Ext F H F' (upd H' p o) :=
  ⟨x.ff, x.nw, x.le.trans (same_new h o), x.hh.trans (Same.n (same_new h o)), fun t => (x.tb t).same (same_new h o), x.nt⟩
/-- a new thing of one's own is changed -/
theorem Ext.chg {F H F' H' : Hp} (x : Ext F H F' H') {p : Addr} (h : H p = none) (hF : F' p = none) {u : HO} (hu : H' p = some u) (ho : Own1 u) (o : HO) : Ext F H F' (upd H' p o) :=
  ⟨x.ff, x.nw, fun b u e => by rw [upd_ne (ne_of_none e hF)]; exact x.le _ _ e, fun b u e => by rw [upd_ne (ne_of_none e h)]; exact x.hh _ _ e, fun t => (x.tb t).upd hu ho, x.nt⟩
/-- a new thing of one's own is known for good from now on -/
theorem Ext.frz {F H F' H' : Hp} (x : Ext F H F' H') {p : Addr} {o : HO} (h : H p = none) (hF : F' p = none) (e : H' p = some o) (ho : ∀ ps, o ≠ .tbl ps := by exact fun _ z => nomatch z) : Ext F H (upd F' p o) H' :=
  ⟨x.ff.trans (same_new hF o), fun a u q => by
    by_cases ha : a = p
    · exact .inr (by rw [ha]; exact h)
    · rw [upd_ne ha] at q; exact x.nw _ _ q, fun a u q => by
    by_cases ha : a = p
    · rw [ha] at q ⊢; rw [upd_same] at q; rw [← q]; exact e
    · rw [upd_ne ha] at q; exact x.le _ _ q, x.hh, x.tb, fun t a ps q => by
    by_cases ha : a = p
    · rw [ha, upd_same] at q; exact ho ps (Option.some.inj q)
    · rw [upd_ne ha] at q; exact x.nt t a ps q⟩

/-! ### environments -/
/-- what a slot holds: nothing that is known; data; a list, a dict of the def's own, of which nobody else knows -/
structure Bk where
  pe : List D
  ma : List D
  wi : List D
  de : List (D × D)
  ot : List D
inductive Sl where
  | bk (p fz : Bool) (B : Bk) | no | val (d : D) | own (ds : List D) | ownK (kvs : List (D × D)) | pin | deep (es : Option (List D))
  | ownN (p : Bool) (kvs : List ((Int × Bool) × D)) | bor (p : Bool) (kvs : List ((Int × Bool) × D))
/-- a pair (int, bool) as a key -/
def nk (k : Int × Bool) : NestedKey := .tup [.num k.1, .num (if k.2 = true then 1 else 0)]
def nkV (k : Int × Bool) : List V := [.int k.1, .bl k.2]
def entN (x : NestedKey × Addr × Value) : DictEntry := ⟨x.1.hash TabP.W, .ref x.2.1, x.2.2⟩
/-- the dict's entries, by their keys; F knows the keys' tuples -/
def NX (K : PySem.W.Frag) (F : Hp) (a : Addr) (od : Obj) (xs : List (NestedKey × Addr × Value)) : Prop :=
  (a == sysModules) = false ∧ xs.length ≤ sizeLine ∧ (xs.map (·.1)).Nodup ∧ od.ExactDict ∧ (∃ es ep, od.data = .dict es ep ∧ es.toList = xs.map entN) ∧ ∀ x ∈ xs, ∃ k, x.1 = nk k ∧ SqT K F x.2.1 (nkV k)
/-- .. and the data -/
def NP (K : PySem.W.Frag) (F : Hp) : List ((Int × Bool) × D) → List (NestedKey × Addr × Value) → Prop :=
  Paired fun (kv : (Int × Bool) × D) (x : NestedKey × Addr × Value) => x.1 = nk kv.1 ∧ SqT K F x.2.1 (nkV kv.1) ∧ ∃ v, RelV v x.2.2 ∧ Rp K F v kv.2
def NR (K : PySem.W.Frag) (F : Hp) (a : Addr) (od : Obj) (kvs : List ((Int × Bool) × D)) : Prop := ∃ xs, NX K F a od xs ∧ NP K F kvs xs
theorem NR.mono {K : PySem.W.Frag} {F F' : Hp} {a : Addr} {od : Obj} {kvs : List ((Int × Bool) × D)} (e : Same F F') (h : NR K F a od kvs) : NR K F' a od kvs := by
  obtain ⟨xs, ⟨h0, h1, h2, h3, h4, h5⟩, h6⟩ := h
  exact ⟨xs, ⟨h0, h1, h2, h3, h4, fun x hx => let ⟨k, z1, z2⟩ := h5 x hx; ⟨k, z1, Same.sqT e z2⟩⟩, Paired.mapP h6 fun _ _ ⟨z1, z2, v, z3, z4⟩ => ⟨z1, Same.sqT e z2, v, z3, Rp.mono e _ _ z4⟩⟩
theorem NR.own1 {K : PySem.W.Frag} {F : Hp} {a : Addr} {od : Obj} {kvs : List ((Int × Bool) × D)} (h : NR K F a od kvs) : Own1 (dbo a od) := by
  obtain ⟨xs, ⟨_, _, _, h3, ⟨es, ep, h4, _⟩, _⟩, _⟩ := h
  exact .inr (.inr (.inl ⟨a, od, rfl, h3, es, ep, h4⟩))
abbrev Env := List Sl
/-- the entry: what was known for good, what was tracked, what of it may be changed -/
structure Ent where
  F0 : Hp
  H0 : Hp
  own : Addr → Prop
  pins : Nat → V
/-- what slot i owns in the deep: data over Fd, whose rows of numbers are its own -/
structure DeepOk (K : PySem.W.Frag) (F : Hp) (G : Addr → Option Nat) (H : Hp) (i : Nat) (vs : List V) (es : List D) (Fd : Hp) : Prop where
  ra : RpA K Fd vs es
  nt : NoT Fd
  le : Same Fd H
  pr : ∀ b o, Fd b = some o → F b = some o ∨ G b = some i
  il : ∀ b w ws, Fd b = some (.lst (.int w :: ws)) → G b = some i
theorem DeepOk.mono {K : PySem.W.Frag} {F F' : Hp} {G G' : Addr → Option Nat} {H H' : Hp} {i : Nat} {vs : List V} {es : List D} {Fd : Hp} (d : DeepOk K F G H i vs es Fd) (hF : Same F F') (hG : ∀ b, G b = some i → G' b = some i) (hH : ∀ b o, Fd b = some o → H' b = some o) : DeepOk K F' G' H' i vs es Fd :=
  ⟨d.ra, d.nt, fun b o e => hH b o e, fun b o e => (d.pr b o e).elim (fun z => .inl (hF b o z)) (fun z => .inr (hG b z)), fun b w ws e => hG b (d.il b w ws e)⟩
/-- a list, a dict that an attribute holds: one's own, or known for good -/
def AtL (K : PySem.W.Frag) (F : Hp) (G : Addr → Option Nat) (H : Hp) (i : Nat) (p : Addr) (ds : List D) : Bool → Prop
  | true => ∃ vs, F p = some (.lst vs) ∧ RpA K F vs ds
  | false => ∃ vs, G p = some i ∧ H p = some (.lst vs) ∧ RpA K F vs ds
def AtK (K : PySem.W.Frag) (F : Hp) (G : Addr → Option Nat) (H : Hp) (i : Nat) (p : Addr) (ds : List (D × D)) : Bool → Prop
  | true => ∃ vs, F p = some (.dK vs) ∧ RpK K F vs ds
  | false => ∃ vs, G p = some i ∧ H p = some (.dK vs) ∧ RpK K F vs ds
def AtI (F : Hp) (G : Addr → Option Nat) (H : Hp) (i : Nat) (a : Addr) (o : HO) : Bool → Prop
  | true => F a = some o
  | false => G a = some i ∧ H a = some o
theorem AtI.mono {F F' : Hp} {G G' : Addr → Option Nat} {H H' : Hp} {i : Nat} {a : Addr} {o : HO} {fz : Bool} (h : AtI F G H i a o fz) (ho : ∀ ps, o ≠ .tbl ps) (hF : Same F F') (hG : ∀ b, G b = some i → G' b = some i) (hH : ∀ b o, G b = some i → H b = some o → (∀ ps, o ≠ .tbl ps) → H' b = some o) : AtI F' G' H' i a o fz := by
  cases fz with
  | true => exact hF _ _ h
  | false => exact ⟨hG _ h.1, hH _ _ h.1 h.2 ho⟩
def bkNs (ap am aw ad ao : Addr) : List (Str × V) := [("people", .ref ap), ("marriages", .ref am), ("wills", .ref aw), ("deals", .ref ad), ("other", .ref ao)]
/-- a book: an instance whose attributes are lists and a dict of its own -/
structure BkO (K : PySem.W.Frag) (F : Hp) (G : Addr → Option Nat) (H : Hp) (i : Nat) (fz : Bool) (a : Addr) (B : Bk) : Prop where
  ex : ∃ dx fs ap am aw ad ao, AtI F G H i a (.ins TabP.BC dx fs) fz ∧ fs.length ≤ 5 ∧ (∀ f, fs.lookup f = (bkNs ap am aw ad ao).lookup f) ∧ [ap, am, aw, ao].Nodup ∧
    AtL K F G H i ap B.pe fz ∧ AtL K F G H i am B.ma fz ∧ AtL K F G H i aw B.wi fz ∧ AtK K F G H i ad B.de fz ∧ AtL K F G H i ao B.ot fz
theorem AtL.mono {K : PySem.W.Frag} {F F' : Hp} {G G' : Addr → Option Nat} {H H' : Hp} {i : Nat} {p : Addr} {ds : List D} {fz : Bool} (h : AtL K F G H i p ds fz) (hF : Same F F') (hG : ∀ b, G b = some i → G' b = some i) (hH : ∀ b o, G b = some i → H b = some o → (∀ ps, o ≠ .tbl ps) → H' b = some o) : AtL K F' G' H' i p ds fz := by
  cases fz with
  | true => obtain ⟨vs, h1, h2⟩ := h; exact ⟨vs, hF _ _ h1, RpA.mono hF _ _ h2⟩
  | false => obtain ⟨vs, h0, h1, h2⟩ := h; exact ⟨vs, hG _ h0, hH _ _ h0 h1 (fun _ z => nomatch z), RpA.mono hF _ _ h2⟩
theorem AtK.mono {K : PySem.W.Frag} {F F' : Hp} {G G' : Addr → Option Nat} {H H' : Hp} {i : Nat} {p : Addr} {ds : List (D × D)} {fz : Bool} (h : AtK K F G H i p ds fz) (hF : Same F F') (hG : ∀ b, G b = some i → G' b = some i) (hH : ∀ b o, G b = some i → H b = some o → (∀ ps, o ≠ .tbl ps) → H' b = some o) : AtK K F' G' H' i p ds fz := by
  cases fz with
  | true => obtain ⟨vs, h1, h2⟩ := h; exact ⟨vs, hF _ _ h1, RpK.mono hF _ _ h2⟩
  | false => obtain ⟨vs, h0, h1, h2⟩ := h; exact ⟨vs, hG _ h0, hH _ _ h0 h1 (fun _ z => nomatch z), RpK.mono hF _ _ h2⟩
theorem BkO.mono {K : PySem.W.Frag} {F F' : Hp} {G G' : Addr → Option Nat} {H H' : Hp} {i : Nat} {fz : Bool} {a : Addr} {B : Bk} (h : BkO K F G H i fz a B) (hF : Same F F') (hG : ∀ b, G b = some i → G' b = some i) (hH : ∀ b o, G b = some i → H b = some o → (∀ ps, o ≠ .tbl ps) → H' b = some o) : BkO K F' G' H' i fz a B := by
  obtain ⟨dx, fs, ap, am, aw, ad, ao, h1, h3, h4, h5, k1, k2, k3, k4, k5⟩ := h.ex
  exact ⟨dx, fs, ap, am, aw, ad, ao, h1.mono (fun _ z => nomatch z) hF hG hH, h3, h4, h5, k1.mono hF hG hH, k2.mono hF hG hH, k3.mono hF hG hH, k4.mono hF hG hH, k5.mono hF hG hH⟩
def SlOk (K : PySem.W.Frag) (P : Nat → V) (F : Hp) (G : Addr → Option Nat) (H : Hp) (i : Nat) (x : Option V) : Sl → Prop
  | .no => True
  | .bk p fz B => ∃ a, x = some (.ref a) ∧ (p = true → P i = .ref a) ∧ BkO K F G H i fz a B
  | .pin => x = some (P i)
  | .val d => ∃ v, x = some v ∧ Rp K F v d
  | .own ds => ∃ a vs, x = some (.ref a) ∧ G a = some i ∧ H a = some (.lst vs) ∧ RpA K F vs ds
  | .ownK kvs => ∃ a ks, x = some (.ref a) ∧ G a = some i ∧ H a = some (.dK ks) ∧ RpK K F ks kvs
  | .ownN p kvs => ∃ a od, x = some (.ref a) ∧ G a = some i ∧ H a = some (dbo a od) ∧ NR K F a od kvs ∧ (p = true → P i = .ref a)
  | .bor p kvs => ∃ a od, x = some (.ref a) ∧ G a = none ∧ H a = some (dbo a od) ∧ NR K F a od kvs ∧ (p = true → P i = .ref a)
  | .deep es => ∃ a vs Fd, x = some (.ref a) ∧ G a = some i ∧ H a = some (.lst vs) ∧ ∀ ds, es = some ds → DeepOk K F G H i vs ds Fd
/-- the tables stand, and are not known for good -/
def TF (F H : Hp) : Prop := Tb H ∧ NoT F
theorem TF.ext {F H F' H' : Hp} (t : TF F H) (x : Ext F H F' H') : TF F' H' := ⟨x.tb t.1, x.nt t.2⟩
structure SatG (K : PySem.W.Frag) (C : Ent) (F : Hp) (δ : Env) (σ : L2.St) (H : Hp) (G : Addr → Option Nat) : Prop where
  le : Same F H
  f0 : Same C.F0 F
  nw : ∀ a o, F a = some o → C.F0 a = some o ∨ C.H0 a = none ∨ C.own a
  keep : ∀ a o, C.H0 a = some o → C.own a ∨ NT o (H a)
  alive : ∀ a, C.own a → H a ≠ none
  dis : ∀ a i, G a = some i → F a = none
  live : ∀ a i, G a = some i → H a ≠ none
  mine : ∀ a i, G a = some i → C.H0 a = none ∨ C.own a
  len : σ.length = δ.length
  tf : TF F H
  sl : ∀ i s, δ[i]? = some s → SlOk K C.pins F G H i (σ[i]?).join s
def Sat (K : PySem.W.Frag) (C : Ent) (F : Hp) (δ : Env) (σ : L2.St) (H : Hp) : Prop := ∃ G, SatG K C F δ σ H G

section
variable {K : PySem.W.Frag} {C : Ent} {F F' H H' : Hp} {δ : Env} {σ : L2.St}
theorem Sat.le (s : Sat K C F δ σ H) : Same F H := let ⟨_, g⟩ := s; g.le
theorem Sat.tf (s : Sat K C F δ σ H) : TF F H := let ⟨_, g⟩ := s; g.tf
theorem Sat.len (s : Sat K C F δ σ H) : σ.length = δ.length := let ⟨_, g⟩ := s; g.len
theorem SatG.h0 {G : Addr → Option Nat} (g : SatG K C F δ σ H G) {a : Addr} (h : H a = none) : C.H0 a = none ∧ ¬ C.own a := by
  have no : ¬ C.own a := fun z => g.alive a z h
  refine ⟨?_, no⟩
  cases q : C.H0 a with
  | none => rfl
  | some o =>
    rcases g.keep a o q with z | z
    · exact absurd z no
    · exact absurd h z.some
/-- what an expression makes of the heap leaves all slots as they are -/
theorem SatG.ext {G : Addr → Option Nat} (g : SatG K C F δ σ H G) (x : Ext F H F' H') : SatG K C F' δ σ H' G := by
  refine ⟨x.le, g.f0.trans x.ff, fun a o e => ?_, fun a o e => ?_, fun a z e => ?_, fun a i e => ?_, fun a i e z => ?_, g.mine, g.len, g.tf.ext x, fun i s e => ?_⟩
  · rcases x.nw a o e with z | z
    · exact g.nw a o z
    · exact .inr (.inl (g.h0 z).1)
  · rcases g.keep a o e with z | z
    · exact .inl z
    · exact .inr (z.trans x.hh)
  · exact g.alive a z (x.hh.free e)
  · cases q : F' a with
    | none => rfl
    | some o =>
      rcases x.nw a o q with z | z
      · rw [g.dis a i e] at z; cases z
      · exact absurd z (g.live a i e)
  · exact g.live a i e (x.hh.free z)
  · have q := g.sl i s e
    cases s with
    | no => trivial
    | bk p fz B =>
      obtain ⟨a, h1, h0, hb⟩ := q
      exact ⟨a, h1, h0, hb.mono x.ff (fun _ z => z) fun b o _ z n => (x.hh b o z).keep n⟩
    | pin => exact q
    | val d =>
      obtain ⟨v, h1, h2⟩ := q
      exact ⟨v, h1, Rp.mono x.ff _ _ h2⟩
    | own ds =>
      obtain ⟨a, vs, h1, h2, h3, h4⟩ := q
      exact ⟨a, vs, h1, h2, x.hh _ _ h3, RpA.mono x.ff _ _ h4⟩
    | ownK kvs =>
      obtain ⟨a, vs, h1, h2, h3, h4⟩ := q
      exact ⟨a, vs, h1, h2, x.hh _ _ h3, RpK.mono x.ff _ _ h4⟩
    | deep es =>
      obtain ⟨a, vs, Fd, h1, h2, h3, h4⟩ := q
      exact ⟨a, vs, Fd, h1, h2, x.hh _ _ h3, fun ds e => (h4 ds e).mono x.ff (fun _ z => z) fun b o z => (x.hh _ _ ((h4 ds e).le b o z)).keep fun ps y => (h4 ds e).nt b ps (y ▸ z)⟩
    | ownN p kvs =>
      obtain ⟨a, es, h1, h2, h3, h4, h5⟩ := q
      exact ⟨a, es, h1, h2, x.hh _ _ h3, h4.mono x.ff, h5⟩
    | bor p kvs =>
      obtain ⟨a, es, h1, h2, h3, h4, h5⟩ := q
      exact ⟨a, es, h1, h2, x.hh _ _ h3, h4.mono x.ff, h5⟩
theorem Sat.ext (s : Sat K C F δ σ H) (x : Ext F H F' H') : Sat K C F' δ σ H' := let ⟨G, g⟩ := s; ⟨G, g.ext x⟩

/-- slots forgotten -/
def fgE (is : List Nat) (δ : Env) : Env := is.foldl (fun δ i => δ.set i .no) δ
theorem Sat.set_no (s : Sat K C F δ σ H) (i : Nat) : Sat K C F (δ.set i .no) σ H := by
  obtain ⟨G, g⟩ := s
  refine ⟨G, g.le, g.f0, g.nw, g.keep, g.alive, g.dis, g.live, g.mine, by rw [List.length_set]; exact g.len, g.tf, fun j s e => ?_⟩
  by_cases hj : i = j
  · subst hj
    by_cases hl : i < δ.length
    · rw [List.getElem?_set_self hl] at e; cases e; trivial
    · rw [List.getElem?_eq_none (by rw [List.length_set]; omega)] at e; cases e
  · rw [List.getElem?_set_ne hj] at e; exact g.sl j s e
theorem Sat.fg (is : List Nat) : ∀ {δ : Env}, Sat K C F δ σ H → Sat K C F (fgE is δ) σ H := by
  induction is with
  | nil => intro δ s; exact s
  | cons i is ih => intro δ s; exact ih (s.set_no i)
/-- a slot takes data -/
theorem Sat.set_val (s : Sat K C F δ σ H) {i : Nat} {v : V} {d : D} (r : Rp K F v d) : Sat K C F (δ.set i (.val d)) (σ.set i (some v)) H := by
  obtain ⟨G, g⟩ := s
  refine ⟨G, g.le, g.f0, g.nw, g.keep, g.alive, g.dis, g.live, g.mine, by rw [List.length_set, List.length_set]; exact g.len, g.tf, fun j s e => ?_⟩
  by_cases hj : i = j
  · subst hj
    by_cases hl : i < δ.length
    · rw [List.getElem?_set_self hl] at e
      cases e
      rw [List.getElem?_set_self (by rw [g.len]; exact hl)]
      exact ⟨v, rfl, r⟩
    · rw [List.getElem?_eq_none (by rw [List.length_set]; omega)] at e; cases e
  · rw [List.getElem?_set_ne hj] at e ⊢; exact g.sl j s e
/-- a slot takes a new list (o: any new thing) of the def's own -/
theorem Sat.set_new (s : Sat K C F δ σ H) {i : Nat} {a : Addr} {o : HO} {q : Sl} (hH : H a = none) {F' : Hp} {H' : Hp} (x : Ext F H F' H') (hF : F' a = none) (e' : H' a = some o)
    (ok : ∀ G : Addr → Option Nat, G a = some i → SlOk K C.pins F' G H' i (some (.ref a)) q) : Sat K C F' (δ.set i q) (σ.set i (some (.ref a))) H' := by
  have s' := s.ext x
  obtain ⟨G, g⟩ := s
  have g0 := g.h0 hH
  have gn : G a = none := by
    cases z : G a with
    | none => rfl
    | some j => exact absurd hH (g.live a j z)
  obtain ⟨G', g'⟩ := s'
  -- the owners as they were ahead, and a
  have e0 : ∀ b j, (if b = a then some i else G b) = some j → (b = a ∧ j = i) ∨ (b ≠ a ∧ G b = some j) := fun b j z => by
    by_cases hb : b = a
    · rw [if_pos hb] at z; cases z; exact .inl ⟨hb, rfl⟩
    · rw [if_neg hb] at z; exact .inr ⟨hb, z⟩
  have disG : ∀ b j, G b = some j → F' b = none := fun b j z => by
    cases q : F' b with
    | none => rfl
    | some u =>
      rcases x.nw b u q with y | y
      · rw [g.dis b j z] at y; cases y
      · exact absurd y (g.live b j z)
  refine ⟨fun b => if b = a then some i else G b, x.le, g'.f0, g'.nw, g'.keep, g'.alive, fun b j z => ?_, fun b j z => ?_, fun b j z => ?_, by rw [List.length_set, List.length_set]; exact g.len, g'.tf, fun j s e => ?_⟩
  · rcases e0 b j z with ⟨rfl, _⟩ | ⟨_, z⟩
    · exact hF
    · exact disG b j z
  · rcases e0 b j z with ⟨rfl, _⟩ | ⟨_, z⟩
    · rw [e']; exact fun y => nomatch y
    · exact fun y => g.live b j z (x.hh.free y)
  · rcases e0 b j z with ⟨rfl, _⟩ | ⟨_, z⟩
    · exact .inl g0.1
    · exact g.mine b j z
  · by_cases hj : i = j
    · subst hj
      by_cases hl : i < δ.length
      · rw [List.getElem?_set_self hl] at e
        cases e
        rw [List.getElem?_set_self (by rw [g.len]; exact hl)]
        exact ok _ (if_pos rfl)
      · rw [List.getElem?_eq_none (by rw [List.length_set]; omega)] at e; cases e
    · rw [List.getElem?_set_ne hj] at e ⊢
      have q := g.sl j s e
      have ne : ∀ {b : Addr}, G b = some j → (if b = a then some i else G b) = some j := fun {b} z => by
        by_cases hb : b = a
        · rw [hb, gn] at z; cases z
        · rw [if_neg hb]; exact z
      cases s with
      | no => trivial
      | bk p fz B =>
        obtain ⟨b, h1, h0, hb⟩ := q
        exact ⟨b, h1, h0, hb.mono x.ff (fun _ z => ne z) fun c o _ z n => (x.hh c o z).keep n⟩
      | pin => exact q
      | val d =>
        obtain ⟨v, h1, h2⟩ := q
        exact ⟨v, h1, Rp.mono x.ff _ _ h2⟩
      | own ds =>
        obtain ⟨b, vs, h1, h2, h3, h4⟩ := q
        exact ⟨b, vs, h1, ne h2, x.hh _ _ h3, RpA.mono x.ff _ _ h4⟩
      | ownK kvs =>
        obtain ⟨b, vs, h1, h2, h3, h4⟩ := q
        exact ⟨b, vs, h1, ne h2, x.hh _ _ h3, RpK.mono x.ff _ _ h4⟩
      | deep es =>
        obtain ⟨b, vs, Fd, h1, h2, h3, h4⟩ := q
        exact ⟨b, vs, Fd, h1, ne h2, x.hh _ _ h3, fun ds e => (h4 ds e).mono x.ff (fun _ z => ne z) fun b o z => (x.hh _ _ ((h4 ds e).le b o z)).keep fun ps y => (h4 ds e).nt b ps (y ▸ z)⟩
      | ownN p kvs =>
        obtain ⟨b, es, h1, h2, h3, h4, h5⟩ := q
        exact ⟨b, es, h1, ne h2, x.hh _ _ h3, h4.mono x.ff, h5⟩
      | bor p kvs =>
        obtain ⟨b, es, h1, h2, h3, h4, h5⟩ := q
        exact ⟨b, es, h1, by
          have : b ≠ a := ne_of_none h3 hH
          show (if b = a then some i else G b) = none
          rw [if_neg this]; exact h2, x.hh _ _ h3, h4.mono x.ff, h5⟩
/-- the thing that slot i owns is changed -/
theorem Sat.put (s : Sat K C F δ σ H) {i : Nat} {a : Addr} {o u0 : HO} {q : Sl} {q0 : Sl} (hu : H a = some u0) (ho : Own1 u0) (hi : δ[i]? = some q0) (hx : (σ[i]?).join = some (.ref a))
    (hG : ∀ G, SatG K C F δ σ H G → G a = some i) (ok : ∀ G : Addr → Option Nat, G a = some i → SlOk K C.pins F G (upd H a o) i (some (.ref a)) q) : Sat K C F (δ.set i q) σ (upd H a o) := by
  obtain ⟨G, g⟩ := s
  have ga := hG G g
  have fa := g.dis a i ga
  refine ⟨G, fun b u e => ?_, g.f0, g.nw, fun b u e => ?_, fun b z e => ?_, g.dis, fun b j z e => ?_, g.mine, by rw [List.length_set]; exact g.len, ⟨g.tf.1.upd hu ho, g.tf.2⟩, fun j s e => ?_⟩
  · rw [upd_ne (ne_of_none e fa)]; exact g.le _ _ e
  · by_cases hb : b = a
    · rcases g.mine a i ga with z | z
      · rw [hb, z] at e; cases e
      · exact .inl (hb ▸ z)
    · rw [upd_ne hb]; exact g.keep b u e
  · by_cases hb : b = a
    · rw [hb, upd_same] at e; cases e
    · rw [upd_ne hb] at e; exact g.alive b z e
  · by_cases hb : b = a
    · rw [hb, upd_same] at e; cases e
    · rw [upd_ne hb] at e; exact g.live b j z e
  · by_cases hj : i = j
    · subst hj
      have hl : i < δ.length := (List.getElem?_eq_some_iff.mp hi).1
      rw [List.getElem?_set_self hl] at e
      cases e
      rw [hx]
      exact ok G ga
    · rw [List.getElem?_set_ne hj] at e
      have q := g.sl j s e
      have ne : ∀ {b : Addr}, G b = some j → b ≠ a := fun {b} z h => by
        rw [h, ga] at z; cases z; exact hj rfl
      cases s with
      | no => trivial
      | bk p fz B =>
        obtain ⟨b, h1, h0, hb⟩ := q
        exact ⟨b, h1, h0, hb.mono (Same.refl _) (fun _ z => z) fun c o gc z _ => by rw [upd_ne (ne gc)]; exact z⟩
      | pin => exact q
      | val d => exact q
      | own ds =>
        obtain ⟨b, vs, h1, h2, h3, h4⟩ := q
        exact ⟨b, vs, h1, h2, by rw [upd_ne (ne h2)]; exact h3, h4⟩
      | ownK kvs =>
        obtain ⟨b, vs, h1, h2, h3, h4⟩ := q
        exact ⟨b, vs, h1, h2, by rw [upd_ne (ne h2)]; exact h3, h4⟩
      | deep es =>
        obtain ⟨b, vs, Fd, h1, h2, h3, h4⟩ := q
        exact ⟨b, vs, Fd, h1, h2, by rw [upd_ne (ne h2)]; exact h3, fun ds e => (h4 ds e).mono (Same.refl _) (fun _ z => z) fun b o z => by
          have hb : b ≠ a := by
            rcases (h4 ds e).pr b o z with y | y
            · exact ne_of_none y fa
            · exact ne y
          rw [upd_ne hb]; exact (h4 ds e).le b o z⟩
      | ownN p kvs =>
        obtain ⟨b, es, h1, h2, h3, h4, h5⟩ := q
        exact ⟨b, es, h1, h2, by rw [upd_ne (ne h2)]; exact h3, h4, h5⟩
      | bor p kvs =>
        obtain ⟨b, es, h1, h2, h3, h4, h5⟩ := q
        exact ⟨b, es, h1, h2, by
          have : b ≠ a := fun z => by rw [z, ga] at h2; cases h2
          rw [upd_ne this]; exact h3, h4, h5⟩
theorem Sat.get (s : Sat K C F δ σ H) {i : Nat} {q : Sl} (hi : δ[i]? = some q) : ∃ G, SatG K C F δ σ H G ∧ SlOk K C.pins F G H i (σ[i]?).join q := let ⟨G, g⟩ := s; ⟨G, g, g.sl i q hi⟩

/-- what slot i owns is data from now on -/
def frzS : Sl → Sl
  | .own ds => .val (.list ds)
  | .ownK kvs => .val (.dict kvs)
  | .bk p _ B => .bk p true B
  | s => s
def frzE (i : Nat) (δ : Env) : Env := match δ[i]? with
  | some s => δ.set i (frzS s)
  | none => δ
theorem SatG.frz {G : Addr → Option Nat} (g : SatG K C F δ σ H G) {i : Nat} {a : Addr} {o : HO} {d : D} {q : Sl} (ho : Own1 o) (hi : δ[i]? = some q) (hx : (σ[i]?).join = some (.ref a)) (ga : G a = some i) (ha : H a = some o) (r : Rp K (upd F a o) (.ref a) d) :
    SatG K C (upd F a o) (δ.set i (.val d)) σ H (fun b => if b = a then none else G b) := by
  have fa := g.dis a i ga
  have ff := same_new fa o
  refine ⟨fun b u e => ?_, g.f0.trans ff, fun b u e => ?_, g.keep, g.alive, fun b j z => ?_, fun b j z => ?_, fun b j z => ?_, by rw [List.length_set]; exact g.len, ⟨g.tf.1, fun b2 ps => ?_⟩, fun j s e => ?_⟩
  · by_cases hb : b = a
    · rw [hb, upd_same] at e; rw [hb, ← e]; exact ha
    · rw [upd_ne hb] at e; exact g.le _ _ e
  · by_cases hb : b = a
    · rw [hb]; exact .inr (g.mine a i ga)
    · rw [upd_ne hb] at e; exact g.nw b u e
  · by_cases hb : b = a
    · rw [if_pos hb] at z; cases z
    · rw [if_neg hb] at z; rw [upd_ne hb]; exact g.dis b j z
  · by_cases hb : b = a
    · rw [if_pos hb] at z; cases z
    · rw [if_neg hb] at z; exact g.live b j z
  · by_cases hb : b = a
    · rw [if_pos hb] at z; cases z
    · rw [if_neg hb] at z; exact g.mine b j z
  · intro z
    by_cases hb : b2 = a
    · rw [hb, upd_same] at z
      rcases ho with ⟨vs, rfl⟩ | ⟨ks, rfl⟩ | ⟨b, od, rfl, _⟩ | ⟨C, dx, fs, rfl⟩ <;> cases z
    · rw [upd_ne hb] at z; exact g.tf.2 _ _ z
  · by_cases hj : i = j
    · subst hj
      rw [List.getElem?_set_self (List.getElem?_eq_some_iff.mp hi).1] at e
      cases e
      exact ⟨_, hx, r⟩
    · rw [List.getElem?_set_ne hj] at e
      have q := g.sl j s e
      have ne : ∀ {b : Addr}, G b = some j → (if b = a then none else G b) = some j := fun {b} z => by
        by_cases hb : b = a
        · rw [hb, ga] at z; cases z; exact absurd rfl hj
        · rw [if_neg hb]; exact z
      cases s with
      | no => trivial
      | bk p fz B =>
        obtain ⟨b, h1, h0, hb⟩ := q
        exact ⟨b, h1, h0, hb.mono ff (fun _ z => ne z) fun c o _ z _ => z⟩
      | pin => exact q
      | val d =>
        obtain ⟨v, h1, h2⟩ := q
        exact ⟨v, h1, Rp.mono ff _ _ h2⟩
      | own ds =>
        obtain ⟨b, vs, h1, h2, h3, h4⟩ := q
        exact ⟨b, vs, h1, ne h2, h3, RpA.mono ff _ _ h4⟩
      | ownK kvs =>
        obtain ⟨b, vs, h1, h2, h3, h4⟩ := q
        exact ⟨b, vs, h1, ne h2, h3, RpK.mono ff _ _ h4⟩
      | deep es =>
        obtain ⟨b, vs, Fd, h1, h2, h3, h4⟩ := q
        exact ⟨b, vs, Fd, h1, ne h2, h3, fun ds e => (h4 ds e).mono ff (fun _ z => ne z) (h4 ds e).le⟩
      | ownN p kvs =>
        obtain ⟨b, es, h1, h2, h3, h4, h5⟩ := q
        exact ⟨b, es, h1, ne h2, h3, h4.mono ff, h5⟩
      | bor p kvs =>
        obtain ⟨b, es, h1, h2, h3, h4, h5⟩ := q
        exact ⟨b, es, h1, by
          have : b ≠ a := fun z => by rw [z, ga] at h2; cases h2
          show (if b = a then none else G b) = none
          rw [if_neg this]; exact h2, h3, h4.mono ff, h5⟩
open Classical in
/-- all that P tells, of slot i, is frozen -/
theorem Sat.frzMany {G : Addr → Option Nat} (g : SatG K C F δ σ H G) {i : Nat} {q0 q : Sl} (hi : δ[i]? = some q0) (P : Addr → Prop) (hP : ∀ b, P b → G b = some i ∧ ∃ o, H b = some o ∧ ((∃ vs, o = .lst vs) ∨ (∃ ks, o = .dK ks) ∨ ∃ C dx fs, o = .ins C dx fs))
    (ok : ∀ F1 : Hp, Same F F1 → (∀ b, P b → F1 b = H b) → ∀ G1 : Addr → Option Nat, (∀ b, ¬ P b → G1 b = G b) → SlOk K C.pins F1 G1 H i (σ[i]?).join q) : ∃ F1, Same F F1 ∧ Sat K C F1 (δ.set i q) σ H ∧
    (∀ F' H', Ext F1 H F' H' → ∃ F2, Ext F H F2 H' ∧ TupSame F' F2 ∧ Same F2 F') := by
  let F1 : Hp := fun b => if P b then H b else F b
  have p1 : ∀ b, P b → F1 b = H b := fun b h => if_pos h
  have p0 : ∀ b, ¬ P b → F1 b = F b := fun b h => if_neg h
  have ff : Same F F1 := fun b o e => by
    by_cases h : P b
    · rw [g.dis b i (hP b h).1] at e; cases e
    · rw [p0 b h]; exact e
  have ne : ∀ b j, j ≠ i → G b = some j → (if P b then none else G b) = some j := fun b j hj z => by
    rw [if_neg (fun y => hj (by rw [(hP b y).1] at z; cases z; rfl))]; exact z
  refine ⟨F1, ff, ⟨fun b => if P b then none else G b, fun b o e => ?_, g.f0.trans ff, fun b o e => ?_, g.keep, g.alive, fun b j z => ?_, fun b j z => ?_, fun b j z => ?_, by rw [List.length_set]; exact g.len, ⟨g.tf.1, fun b ps e => ?_⟩, fun j s e => ?_⟩, fun F' H' x => ?_⟩
  · by_cases h : P b
    · rw [p1 b h] at e; exact e
    · rw [p0 b h] at e; exact g.le b o e
  · by_cases h : P b
    · exact .inr (g.mine b i (hP b h).1)
    · rw [p0 b h] at e; exact g.nw b o e
  · by_cases h : P b
    · rw [if_pos h] at z; cases z
    · rw [if_neg h] at z; rw [p0 b h]; exact g.dis b j z
  · by_cases h : P b
    · rw [if_pos h] at z; cases z
    · rw [if_neg h] at z; exact g.live b j z
  · by_cases h : P b
    · rw [if_pos h] at z; cases z
    · rw [if_neg h] at z; exact g.mine b j z
  · by_cases h : P b
    · rw [p1 b h] at e
      obtain ⟨_, o, e1, e2⟩ := hP b h
      rw [e1] at e; cases e
      rcases e2 with ⟨_, z⟩ | ⟨_, z⟩ | ⟨_, _, _, z⟩ <;> cases z
    · rw [p0 b h] at e; exact g.tf.2 _ _ e
  · by_cases hj : i = j
    · subst hj
      rw [List.getElem?_set_self (List.getElem?_eq_some_iff.mp hi).1] at e
      cases e
      exact ok F1 ff p1 _ fun b h => if_neg h
    · rw [List.getElem?_set_ne hj] at e
      have q := g.sl j s e
      have hji : j ≠ i := fun z => hj z.symm
      cases s with
      | no => trivial
      | bk p fz B =>
        obtain ⟨b, h1, h0, hb⟩ := q
        exact ⟨b, h1, h0, hb.mono ff (fun _ z => ne _ j hji z) fun c o _ z _ => z⟩
      | pin => exact q
      | val d =>
        obtain ⟨v, h1, h2⟩ := q
        exact ⟨v, h1, Rp.mono ff _ _ h2⟩
      | own ds =>
        obtain ⟨b, vs, h1, h2, h3, h4⟩ := q
        exact ⟨b, vs, h1, ne _ j hji h2, h3, RpA.mono ff _ _ h4⟩
      | ownK kvs =>
        obtain ⟨b, vs, h1, h2, h3, h4⟩ := q
        exact ⟨b, vs, h1, ne _ j hji h2, h3, RpK.mono ff _ _ h4⟩
      | deep es =>
        obtain ⟨b, vs, Fd, h1, h2, h3, h4⟩ := q
        exact ⟨b, vs, Fd, h1, ne _ j hji h2, h3, fun ds e => (h4 ds e).mono ff (fun _ z => ne _ j hji z) (h4 ds e).le⟩
      | ownN p kvs =>
        obtain ⟨b, es, h1, h2, h3, h4, h5⟩ := q
        exact ⟨b, es, h1, ne _ j hji h2, h3, h4.mono ff, h5⟩
      | bor p kvs =>
        obtain ⟨b, es, h1, h2, h3, h4, h5⟩ := q
        exact ⟨b, es, h1, by
          show (if P b then none else G b) = none
          split
          · rfl
          · exact h2, h3, h4.mono ff, h5⟩
  · have e1 : ∀ b, P b → ∃ o, F' b = some o ∧ ((∃ vs, o = .lst vs) ∨ (∃ ks, o = .dK ks) ∨ ∃ C dx fs, o = .ins C dx fs) := fun b h => by
      obtain ⟨_, o, z1, z2⟩ := hP b h
      exact ⟨o, x.ff b o (by rw [p1 b h]; exact z1), z2⟩
    obtain ⟨F2, q1, q0⟩ : ∃ F2 : Hp, (∀ b, P b → F2 b = none) ∧ ∀ b, ¬ P b → F2 b = F' b := ⟨fun b => if P b then none else F' b, fun b h => if_pos h, fun b h => if_neg h⟩
    have np : ∀ b o, F b = some o → ¬ P b := fun b o e h => by rw [g.dis b i (hP b h).1] at e; cases e
    refine ⟨F2, ⟨fun b u e => ?_, fun b u e => ?_, fun b u e => ?_, x.hh, x.tb, fun t b ps e => ?_⟩, fun b vs h => ?_, fun b u e => ?_⟩
    · rw [q0 b (np b u e)]; exact x.ff b u (by rw [p0 b (np b u e)]; exact e)
    · by_cases h : P b
      · rw [q1 b h] at e; cases e
      · rw [q0 b h] at e
        rcases x.nw b u e with z | z
        · rw [p0 b h] at z; exact .inl z
        · exact .inr z
    · by_cases h : P b
      · rw [q1 b h] at e; cases e
      · rw [q0 b h] at e; exact x.le b u e
    · by_cases h : P b
      · rw [q1 b h] at e; cases e
      · rw [q0 b h] at e
        refine x.nt (fun c qs q => ?_) b ps e
        by_cases hc : P c
        · rw [p1 c hc] at q
          obtain ⟨_, o, z1, z2⟩ := hP c hc
          rw [z1] at q; cases q
          rcases z2 with ⟨_, z⟩ | ⟨_, z⟩ | ⟨_, _, _, z⟩ <;> cases z
        · rw [p0 c hc] at q; exact t c qs q
    · have nb : ¬ P b := fun hb => by
        obtain ⟨o, z1, z2⟩ := e1 b hb
        rcases h with h | ⟨ob, h⟩
        · rw [z1] at h; cases h; rcases z2 with ⟨_, z⟩ | ⟨_, z⟩ | ⟨_, _, _, z⟩ <;> cases z
        · rw [z1] at h; cases h; rcases z2 with ⟨_, z⟩ | ⟨_, z⟩ | ⟨_, _, _, z⟩ <;> cases z
      rcases h with h | ⟨ob, h⟩
      · exact .inl (by rw [q0 b nb]; exact h)
      · exact .inr ⟨ob, by rw [q0 b nb]; exact h⟩
    · by_cases h : P b
      · rw [q1 b h] at e; cases e
      · rw [q0 b h] at e; exact e
/-- the thing at a is not known -/
def del (F : Hp) (a : Addr) : Hp := fun b => if b = a then none else F b
theorem del_same {F : Hp} {a : Addr} : del F a a = none := if_pos rfl
theorem del_ne {F : Hp} {a b : Addr} (h : b ≠ a) : del F a b = F b := if_neg h
/-- slot i is frozen: a later F; what is imm over it is so over F too -/
theorem Sat.frz (s : Sat K C F δ σ H) (i : Nat) : ∃ F1, Same F F1 ∧ Sat K C F1 (frzE i δ) σ H ∧
    (∀ F' H', Ext F1 H F' H' → ∃ F2, Ext F H F2 H' ∧ TupSame F' F2 ∧ Same F2 F') := by
  have triv : frzE i δ = δ → ∃ F1, Same F F1 ∧ Sat K C F1 (frzE i δ) σ H ∧ (∀ F' H', Ext F1 H F' H' → ∃ F2, Ext F H F2 H' ∧ TupSame F' F2 ∧ Same F2 F') := fun e =>
    ⟨F, Same.refl _, by rw [e]; exact s, fun F' H' x => ⟨F', x, fun _ _ h => h, Same.refl _⟩⟩
  -- what is taken off again behind
  have off : ∀ (G : Addr → Option Nat), SatG K C F δ σ H G → ∀ (a : Addr) (o : HO), G a = some i → H a = some o → (∀ vs, ¬ o = .tup vs) → (∀ ob vs, ¬ o = .frz ob (.tup vs)) → (∀ ps, ¬ o = .tbl ps) → ∀ F' H', Ext (upd F a o) H F' H' → ∃ F2, Ext F H F2 H' ∧ TupSame F' F2 ∧ Same F2 F' := by
    intro G g a o ga ha nt nf no F' H' x
    have fa := g.dis a i ga
    have e1 : F' a = some o := x.ff a o upd_same
    refine ⟨del F' a, ⟨fun b u e => ?_, fun b u e => ?_, fun b u e => ?_, x.hh, x.tb, fun t b ps e => ?_⟩, fun b vs h => ?_, fun b u e => ?_⟩
    · have hb : b ≠ a := ne_of_none e fa
      rw [del_ne hb]; exact x.ff b u (by rw [upd_ne hb]; exact e)
    · by_cases hb : b = a
      · rw [hb, del_same] at e; cases e
      · rw [del_ne hb] at e
        rcases x.nw b u e with z | z
        · rw [upd_ne hb] at z; exact .inl z
        · exact .inr z
    · by_cases hb : b = a
      · rw [hb, del_same] at e; cases e
      · rw [del_ne hb] at e; exact x.le b u e
    · by_cases hb : b = a
      · rw [hb, del_same] at e; cases e
      · rw [del_ne hb] at e
        refine x.nt (fun c qs q => ?_) b ps e
        by_cases hc : c = a
        · rw [hc, upd_same] at q; exact no qs (Option.some.inj q)
        · rw [upd_ne hc] at q; exact t c qs q
    · have hb : b ≠ a := fun z => by
        rcases h with h | ⟨ob, h⟩
        · rw [z, e1] at h; exact nt vs (Option.some.inj h)
        · rw [z, e1] at h; exact nf ob vs (Option.some.inj h)
      rcases h with h | ⟨ob, h⟩
      · exact .inl (by rw [del_ne hb]; exact h)
      · exact .inr ⟨ob, by rw [del_ne hb]; exact h⟩
    · by_cases hb : b = a
      · rw [hb, del_same] at e; cases e
      · rw [del_ne hb] at e; exact e
  cases hi : δ[i]? with
  | none => exact triv (by unfold frzE; rw [hi])
  | some q =>
    have hset : frzE i δ = δ.set i (frzS q) := by unfold frzE; rw [hi]
    have same : frzS q = q → frzE i δ = δ := fun e => by
      rw [hset, e]
      have hl := (List.getElem?_eq_some_iff.mp hi)
      obtain ⟨hl, e2⟩ := hl
      rw [← e2]; exact List.set_getElem_self hl
    cases q with
    | no => exact triv (same rfl)
    | bk p fz B =>
      cases fz with
      | true => exact triv (same rfl)
      | false =>
        obtain ⟨G, g⟩ := s
        obtain ⟨a, h1, h0, hb⟩ := g.sl i _ hi
        obtain ⟨dx, fs, ap, am, aw, ad, ao, ⟨b1, b2⟩, b3, b4, b5, ⟨vp, p1, p2, p3⟩, ⟨vm, m1, m2, m3⟩, ⟨vw, w1, w2, w3⟩, ⟨kd, d1, d2, d3⟩, ⟨vo, o1, o2, o3⟩⟩ := hb.ex
        rw [hset]
        refine Sat.frzMany g hi (fun b => b = ap ∨ b = am ∨ b = aw ∨ b = ad ∨ b = ao ∨ b = a) (fun b hb => ?_) fun F1 s1 e1 G1 n1 => ?_
        · rcases hb with rfl | rfl | rfl | rfl | rfl | rfl
          · exact ⟨p1, _, p2, .inl ⟨_, rfl⟩⟩
          · exact ⟨m1, _, m2, .inl ⟨_, rfl⟩⟩
          · exact ⟨w1, _, w2, .inl ⟨_, rfl⟩⟩
          · exact ⟨d1, _, d2, .inr (.inl ⟨_, rfl⟩)⟩
          · exact ⟨o1, _, o2, .inl ⟨_, rfl⟩⟩
          · exact ⟨b1, _, b2, .inr (.inr ⟨_, _, _, rfl⟩)⟩
        · exact ⟨a, h1, h0, ⟨dx, fs, ap, am, aw, ad, ao, (e1 _ (.inr (.inr (.inr (.inr (.inr rfl)))))).trans b2, b3, b4, b5, ⟨vp, (e1 _ (.inl rfl)).trans p2, RpA.mono s1 _ _ p3⟩, ⟨vm, (e1 _ (.inr (.inl rfl))).trans m2, RpA.mono s1 _ _ m3⟩, ⟨vw, (e1 _ (.inr (.inr (.inl rfl)))).trans w2, RpA.mono s1 _ _ w3⟩, ⟨kd, (e1 _ (.inr (.inr (.inr (.inl rfl))))).trans d2, RpK.mono s1 _ _ d3⟩, ⟨vo, (e1 _ (.inr (.inr (.inr (.inr (.inl rfl)))))).trans o2, RpA.mono s1 _ _ o3⟩⟩⟩
    | pin => exact triv (same rfl)
    | val d => exact triv (same rfl)
    | deep es => exact triv (same rfl)
    | ownN p kvs => exact triv (same rfl)
    | bor p kvs => exact triv (same rfl)
    | own ds =>
      obtain ⟨G, g⟩ := s
      obtain ⟨a, vs, h1, h2, h3, h4⟩ := g.sl i _ hi
      have ff := same_new (g.dis a i h2) (.lst vs)
      refine ⟨upd F a (.lst vs), ff, ?_, off G g a _ h2 h3 (fun _ z => nomatch z) (fun _ _ z => nomatch z) (fun _ z => nomatch z)⟩
      rw [hset]
      exact ⟨_, g.frz (.inl ⟨_, rfl⟩) hi h1 h2 h3 (.lst upd_same (RpA.mono ff _ _ h4))⟩
    | ownK kvs =>
      obtain ⟨G, g⟩ := s
      obtain ⟨a, vs, h1, h2, h3, h4⟩ := g.sl i _ hi
      have ff := same_new (g.dis a i h2) (.dK vs)
      refine ⟨upd F a (.dK vs), ff, ?_, off G g a _ h2 h3 (fun _ z => nomatch z) (fun _ _ z => nomatch z) (fun _ z => nomatch z)⟩
      rw [hset]
      exact ⟨_, g.frz (.inr (.inl ⟨_, rfl⟩)) hi h1 h2 h3 (.dK upd_same (RpK.mono ff _ _ h4))⟩
end
end DL
/-! DL1: judgements over data: an expression computes a function of the environment. -/
namespace DL
open PySem PySem.Spec PyProof.Rows L2
variable [TabP]

/-- an answer; an exception of the own class of that name; nothing is said -/
inductive Res (α : Type) where
  | ok (a : α) | exc (c : Str) | err
def Res.bind {α β : Type} (r : Res α) (g : α → Res β) : Res β := match r with
  | .ok a => g a
  | .exc c => .exc c
  | .err => .err
@[simp] theorem Res.bind_ok {α β : Type} (a : α) (g : α → Res β) : (Res.ok a).bind g = g a := rfl
@[simp] theorem Res.bind_exc {α β : Type} (c : Str) (g : α → Res β) : (Res.exc c).bind g = .exc c := rfl
@[simp] theorem Res.bind_err {α β : Type} (g : α → Res β) : (Res.err).bind g = .err := rfl
def Res.map {α β : Type} (f : α → β) (r : Res α) : Res β := r.bind fun a => .ok (f a)
def ofO {α : Type} : Option α → Res α
  | some a => .ok a
  | none => .err
/-- what is wished of an own exception, by its class's name -/
abbrev WS := Str → L2.St → Hp → Prop
abbrev W0 : WS := fun _ _ _ => False

/-- the good of an answer, from F and H on -/
def Gd {α : Type} (W : WS) (σ : L2.St) (F H : Hp) (r : Res α) (P : α → Hp → Hp → Prop) : Prop := match r with
  | .ok a => ∀ F' H', Ext F H F' H' → P a F' H'
  | .exc c => ∀ F' H', Ext F H F' H' → W c σ H'
  | .err => False
theorem Gd.mono {α : Type} {W : WS} {σ : L2.St} {F H : Hp} {r : Res α} {P P' : α → Hp → Hp → Prop} (h : Gd W σ F H r P) (k : ∀ a F' H', Ext F H F' H' → P a F' H' → P' a F' H') : Gd W σ F H r P' := by
  cases r with
  | ok a => exact fun F' H' x => k a F' H' x (h F' H' x)
  | exc c => exact h
  | err => exact h
theorem Gd.ext {α : Type} {W : WS} {σ : L2.St} {F H F' H' : Hp} {r : Res α} {P : α → Hp → Hp → Prop} (h : Gd W σ F H r P) (x : Ext F H F' H') : Gd W σ F' H' r P := by
  cases r with
  | ok a => exact fun F2 H2 y => h F2 H2 (x.trans y)
  | exc c => exact fun F2 H2 y => h F2 H2 (x.trans y)
  | err => exact h
theorem Gd.bind {α β : Type} {W : WS} {σ : L2.St} {F H : Hp} {r : Res α} {g : α → Res β} {P : β → Hp → Hp → Prop} (h : Gd W σ F H (r.bind g) P) : Gd W σ F H r (fun a F' H' => Gd W σ F' H' (g a) P) := by
  cases r with
  | ok a => exact fun F' H' x => Gd.ext h x
  | exc c => exact h
  | err => exact h
/-- .. told from F and H on still -/
theorem Gd.bind2 {α β : Type} {W : WS} {σ : L2.St} {F H : Hp} {r : Res α} {g : α → Res β} {P : β → Hp → Hp → Prop} (h : Gd W σ F H (r.bind g) P) : Gd W σ F H r (fun a _ _ => Gd W σ F H (g a) P) := by
  cases r with
  | ok a => exact fun F' H' x => h
  | exc c => exact h
  | err => exact h
theorem Gd.ok {α : Type} {W : WS} {σ : L2.St} {F H F' H' : Hp} {a : α} {P : α → Hp → Hp → Prop} (h : Gd W σ F H (.ok a) P) (x : Ext F H F' H') : P a F' H' := h F' H' x

/-- the value of a list or dict that may be one's own yet -/
def Rt (K : PySem.W.Frag) (F H : Hp) (v : V) : D → Prop
  | .list ds => ∃ a vs, v = .ref a ∧ H a = some (.lst vs) ∧ RpA K F vs ds
  | .dict kvs => (∃ a ks, v = .ref a ∧ H a = some (.dK ks) ∧ RpK K F ks kvs) ∨ Rp K F v (.dict kvs)
  | .none => Rp K F v .none
  | .bool b => Rp K F v (.bool b)
  | .int i => Rp K F v (.int i)
  | .str x => Rp K F v (.str x)
  | .tuple ds => Rp K F v (.tuple ds)
theorem Rt.ext {K : PySem.W.Frag} {F H F' H' : Hp} {v : V} {d : D} (r : Rt K F H v d) (ff : Same F F') (hh : SameN H H') : Rt K F' H' v d := by
  cases d with
  | list ds => obtain ⟨a, vs, h1, h2, h3⟩ := r; exact ⟨a, vs, h1, hh _ _ h2, RpA.mono ff _ _ h3⟩
  | dict kvs =>
    rcases r with ⟨a, ks, h1, h2, h3⟩ | r
    · exact .inl ⟨a, ks, h1, hh _ _ h2, RpK.mono ff _ _ h3⟩
    · exact .inr (Rp.mono ff _ _ r)
  | none => exact Rp.mono ff _ _ r
  | bool b => exact Rp.mono ff _ _ r
  | int i => exact Rp.mono ff _ _ r
  | str x => exact Rp.mono ff _ _ r
  | tuple ds => exact Rp.mono ff _ _ r
theorem Rp.rt {K : PySem.W.Frag} {F H : Hp} {v : V} {d : D} (r : Rp K F v d) (le : Same F H) : Rt K F H v d := by
  cases d with
  | list ds => cases r with | lst h1 h2 => exact ⟨_, _, rfl, le _ _ h1, h2⟩
  | dict kvs => exact .inr r
  | none => exact r
  | bool b => exact r
  | int i => exact r
  | str x => exact r
  | tuple ds => exact r
/-- .. as data over all that is tracked -/
theorem Rt.rp {K : PySem.W.Frag} {F H : Hp} {v : V} {d : D} (r : Rt K F H v d) (le : Same F H) : Rp K H v d := by
  cases d with
  | list ds => obtain ⟨a, vs, h1, h2, h3⟩ := r; subst h1; exact .lst h2 (RpA.mono le _ _ h3)
  | dict kvs =>
    rcases r with ⟨a, ks, h1, h2, h3⟩ | r
    · subst h1; exact .dK h2 (RpK.mono le _ _ h3)
    · exact Rp.mono le _ _ r
  | none => exact Rp.mono le _ _ r
  | bool b => exact Rp.mono le _ _ r
  | int i => exact Rp.mono le _ _ r
  | str x => exact Rp.mono le _ _ r
  | tuple ds => exact Rp.mono le _ _ r
theorem Rt.int {K : PySem.W.Frag} {F H : Hp} {v : V} {i : Int} (r : Rt K F H v (.int i)) : v = .int i := by cases (show Rp K F v (.int i) from r); rfl
theorem Rt.bool {K : PySem.W.Frag} {F H : Hp} {v : V} {i : Bool} (r : Rt K F H v (.bool i)) : v = .bl i := by cases (show Rp K F v (.bool i) from r); rfl

/-! ### the judgements -/
section
variable (X : Cx) (W : WS)
def PEp (e : Expr) (f : Env → Res D) : Prop := ∃ t, PE X e t ∧ ∀ C F δ σ H Q, Sat X.K C F δ σ H → Gd W σ F H (f δ) (fun d F' H' => ∀ v, Rp X.K F' v d → Q v H') → t σ H Q
def PRp (e : Expr) (f : Env → Res D) : Prop := ∃ t, PE X e t ∧ ∀ C F δ σ H Q, Sat X.K C F δ σ H → Gd W σ F H (f δ) (fun d F' H' => ∀ v, Rt X.K F' H' v d → Q v H') → t σ H Q
/-- a new list -/
def PFp (e : Expr) (f : Env → Res (List D)) : Prop := ∃ t, PE X e t ∧ ∀ C F δ σ H Q, Sat X.K C F δ σ H →
  Gd W σ F H (f δ) (fun ds F' H' => ∀ a vs, H a = none → F' a = none → H' a = some (.lst vs) → RpA X.K F' vs ds → Q (.ref a) H') → t σ H Q
/-- a new dict -/
def PKp (e : Expr) (f : Env → Res (List (D × D))) : Prop := ∃ t, PE X e t ∧ ∀ C F δ σ H Q, Sat X.K C F δ σ H →
  Gd W σ F H (f δ) (fun ds F' H' => ∀ a vs, H a = none → F' a = none → H' a = some (.dK vs) → RpK X.K F' vs ds → Q (.ref a) H') → t σ H Q
/-- a truth value, and as a test -/
def PVb (e : Expr) (f : Env → Res Bool) : Prop := ∃ t, PE X e t ∧ ∀ C F δ σ H Q, Sat X.K C F δ σ H → Gd W σ F H (f δ) (fun b _ H' => Q (.bl b) H') → t σ H Q
def PTb (e : Expr) (f : Env → Res Bool) : Prop := ∃ t, PT X e t ∧ ∀ C F δ σ H Q, Sat X.K C F δ σ H → Gd W σ F H (f δ) (fun b _ H' => Q b H') → t σ H Q
def PWb (e : Expr) (f : Env → Res Bool) : Prop := ∃ t, PW X e t ∧ ∀ C F δ σ H Q, Sat X.K C F δ σ H → Gd W σ F H (f δ) (fun b _ H' => Q b H') → t σ H Q
def PBp (e : Expr) (f : Env → Res Bool) : Prop := PVb X W e f ∧ PTb X W e f
def PBw (e : Expr) (f : Env → Res Bool) : Prop := PVb X W e f ∧ PWb X W e f
/-- arguments -/
def PAp (es : List Expr) (f : Env → Res (List D)) : Prop := ∃ t, PA X es t ∧ ∀ C F δ σ H Q, Sat X.K C F δ σ H → Gd W σ F H (f δ) (fun ds F' H' => ∀ vs, RpA X.K F' vs ds → Q vs H') → t σ H Q
end

/-- what a body's context is -/
structure Ctx (X : Cx) (N : List Str) (sc : Scope) (fn : Str → Bool) : Prop where
  hN : X.N = N
  nd : N.Nodup
  sc : X.env.scope = sc
  fn : X.fn = fn
  calm : X.calm = true
  un : X.A.units + 100 < cLine
  po : PassesOwn (model X.prog X.w) X.A X.env X.xe
def isLoc (sc : Scope) (x : Str) : Bool := match sc.names.lookup x with
  | some .local => true
  | some .cell => true
  | _ => false
def isVis (sc : Scope) (x : Str) : Bool := match sc.names.lookup x with
  | some .local => true
  | some .cell => true
  | some .free => true
  | _ => false
def isGl (sc : Scope) (x : Str) : Bool := match sc.names.lookup x with
  | some .globalImplicit => true
  | _ => false
section
variable {X : Cx} {N : List Str} {sc : Scope} {fn : Str → Bool} {W : WS}
theorem Ctx.vis (c : Ctx X N sc fn) {x : Str} (h : isVis sc x = true) : Vis X.env.scope x := by
  rw [c.sc]
  unfold isVis at h
  unfold Vis
  split at h
  · exact .inl (by assumption)
  · exact .inr (.inl (by assumption))
  · exact .inr (.inr (by assumption))
  · cases h
theorem Ctx.loc (c : Ctx X N sc fn) {x : Str} (h : isLoc sc x = true) : L2.Loc X.env.scope x := by
  rw [c.sc]
  unfold isLoc at h
  unfold L2.Loc
  split at h
  · exact .inl (by assumption)
  · exact .inr (by assumption)
  · cases h
theorem Ctx.gl (c : Ctx X N sc fn) {x : Str} (h : isGl sc x = true) : Gl X x := by
  show X.env.scope.names.lookup x = some .globalImplicit
  rw [c.sc]
  unfold isGl at h
  split at h
  · assumption
  · cases h
/-- a slot that may be stored -/
def stOk (sc : Scope) (fn : Str → Bool) (x : Str) : Bool := isLoc sc x && (fn x || (match sc.names.lookup x with | some .local => true | _ => false))
theorem Ctx.st (c : Ctx X N sc fn) {x : Str} (h : stOk sc fn x = true) : L2.Loc X.env.scope x ∧ (X.fn x = true ∨ X.env.scope.names.lookup x = some .local) := by
  unfold stOk at h
  rw [Bool.and_eq_true, Bool.or_eq_true] at h
  refine ⟨c.loc h.1, ?_⟩
  rw [c.fn, c.sc]
  rcases h.2 with z | z
  · exact .inl z
  · split at z
    · exact .inr (by assumption)
    · cases z

/-! ### from one judgement to another -/
theorem PEp.rd {e : Expr} {f : Env → Res D} (h : PEp X W e f) : PRp X W e f := by
  obtain ⟨t, p, q⟩ := h
  exact ⟨t, p, fun C F δ σ H Q s g => q C F δ σ H Q s (g.mono fun d F' H' x k v r => k v (r.rt x.le))⟩
def valF (f : Env → Res (List D)) : Env → Res D := fun δ => (f δ).bind fun ds => .ok (.list ds)
def valK (f : Env → Res (List (D × D))) : Env → Res D := fun δ => (f δ).bind fun ds => .ok (.dict ds)
def valB (f : Env → Res Bool) : Env → Res D := fun δ => (f δ).bind fun b => .ok (.bool b)
theorem PFp.rd {e : Expr} {f : Env → Res (List D)} (h : PFp X W e f) : PRp X W e (valF f) := by
  obtain ⟨t, p, q⟩ := h
  refine ⟨t, p, fun C F δ σ H Q s g => q C F δ σ H Q s (g.bind.mono fun ds F' H' x k a vs h1 h2 h3 h4 => ?_)⟩
  exact k.ok (Ext.refl x.le) _ ⟨a, vs, rfl, h3, h4⟩
/-- a new list, known for good from now on -/
theorem PFp.val {e : Expr} {f : Env → Res (List D)} (h : PFp X W e f) : PEp X W e (valF f) := by
  obtain ⟨t, p, q⟩ := h
  refine ⟨t, p, fun C F δ σ H Q s g => q C F δ σ H Q s (g.bind2.mono fun ds F' H' x k a vs h1 h2 h3 h4 => ?_)⟩
  exact k.ok (x.frz h1 h2 h3) _ (.lst upd_same (RpA.mono (same_new h2 _) _ _ h4))
theorem PKp.val {e : Expr} {f : Env → Res (List (D × D))} (h : PKp X W e f) : PEp X W e (valK f) := by
  obtain ⟨t, p, q⟩ := h
  refine ⟨t, p, fun C F δ σ H Q s g => q C F δ σ H Q s (g.bind2.mono fun ds F' H' x k a vs h1 h2 h3 h4 => ?_)⟩
  exact k.ok (x.frz h1 h2 h3) _ (.dK upd_same (RpK.mono (same_new h2 _) _ _ h4))
def un (fa : Env → Res D) {β : Type} (g : D → Res β) : Env → Res β := fun δ => (fa δ).bind fun x => g x
def asB : D → Res Bool
  | .bool b => .ok b
  | _ => .err
theorem PRp.bool {e : Expr} {f : Env → Res D} (h : PRp X W e f) (he : ∀ whole, isTrue e X.env whole = (do let v ← whole; standAt e.pos; holding [v] (truthy v)) := by intro _; rfl) : PBp X W e (un f asB) := by
  obtain ⟨t, p, q⟩ := h
  refine ⟨⟨t, p, fun C F δ σ H Q s g => q C F δ σ H Q s (g.bind.mono fun d F' H' x k v r => ?_)⟩, ⟨_, pt_val p he, fun C F δ σ H Q s g => q C F δ σ H _ s (g.bind.mono fun d F' H' x k v r => ?_)⟩⟩
  · cases d with
    | bool b => rw [Rt.bool r]; exact k.ok (Ext.refl x.le)
    | _ => exact False.elim k
  · cases d with
    | bool b => rw [Rt.bool r]; exact ⟨b, rfl, k.ok (Ext.refl x.le)⟩
    | _ => exact False.elim k
theorem PBp.val {e : Expr} {f : Env → Res Bool} (h : PBp X W e f) : PEp X W e (valB f) := by
  obtain ⟨⟨t, p, q⟩, _⟩ := h
  refine ⟨t, p, fun C F δ σ H Q s g => q C F δ σ H Q s (g.bind.mono fun b F' H' x k => ?_)⟩
  exact k.ok (Ext.refl x.le) _ (.bl b)
theorem PBw.pb {e : Expr} {f : Env → Res Bool} (h : PBw X W e f) : PBp X W e f := by
  obtain ⟨h1, t, p, q⟩ := h
  exact ⟨h1, t, p.pt, q⟩

/-! ### names, constants -/
def vD (i : Nat) : Env → Res D := fun δ => match δ[i]? with
  | some (.val d) => .ok d
  | _ => .err
/-- .. to be read -/
def rD (i : Nat) : Env → Res D := fun δ => match δ[i]? with
  | some (.val d) => .ok d
  | some (.own ds) => .ok (.list ds)
  | some (.ownK kvs) => .ok (.dict kvs)
  | _ => .err
theorem join_some {α : Type} {o : Option (Option α)} {v : α} (h : o.join = some v) : o = some (some v) := by
  cases o with
  | none => cases h
  | some p => exact congrArg some h
theorem PEp.var (c : Ctx X N sc fn) (i : Nat) {x : Str} {pos : Pos} (hN : N[i]? = some x := by rfl) (hv : isVis sc x = true := by rfl) (hd : (x == ("__debug__" : Str)) = false := by decide) (hcd : (x == ("__classdict__" : Str)) = false := by decide) : PEp X W (.Name x pos) (vD i) := by
  refine ⟨_, pe_var (i := i) (by rw [c.hN]; exact hN) (c.vis hv) hd hcd, fun C F δ σ H Q s g => ?_⟩
  unfold vD at g
  split at g
  · rename_i d e
    obtain ⟨G, g', v, h1, h2⟩ := s.get e
    exact ⟨v, join_some h1, g.ok (Ext.refl s.le) v h2⟩
  · exact False.elim g
theorem PRp.var (c : Ctx X N sc fn) (i : Nat) {x : Str} {pos : Pos} (hN : N[i]? = some x := by rfl) (hv : isVis sc x = true := by rfl) (hd : (x == ("__debug__" : Str)) = false := by decide) (hcd : (x == ("__classdict__" : Str)) = false := by decide) : PRp X W (.Name x pos) (rD i) := by
  refine ⟨_, pe_var (i := i) (by rw [c.hN]; exact hN) (c.vis hv) hd hcd, fun C F δ σ H Q s g => ?_⟩
  unfold rD at g
  split at g
  · rename_i d e
    obtain ⟨G, g', v, h1, h2⟩ := s.get e
    exact ⟨v, join_some h1, g.ok (Ext.refl s.le) v (h2.rt s.le)⟩
  · rename_i d e
    obtain ⟨G, g', a, vs, h1, h2, h3, h4⟩ := s.get e
    exact ⟨_, join_some h1, g.ok (Ext.refl s.le) _ ⟨a, vs, rfl, h3, h4⟩⟩
  · rename_i d e
    obtain ⟨G, g', a, vs, h1, h2, h3, h4⟩ := s.get e
    exact ⟨_, join_some h1, g.ok (Ext.refl s.le) _ (.inl ⟨a, vs, rfl, h3, h4⟩)⟩
  · exact False.elim g
def cD (d : D) : Env → Res D := fun _ => .ok d
theorem PEp.int {i : Int} {j pos} : PEp X W (.Constant (.int i) j pos) (cD (.int i)) := ⟨_, pe_int, fun C F δ σ H Q s g => g.ok (Ext.refl s.le) _ (.int i)⟩
theorem PEp.bl {i : Bool} {j pos} : PEp X W (.Constant (.bool i) j pos) (cD (.bool i)) := ⟨_, pe_bl, fun C F δ σ H Q s g => g.ok (Ext.refl s.le) _ (.bl i)⟩
theorem PEp.non {j pos} : PEp X W (.Constant .none j pos) (cD .none) := ⟨_, pe_non, fun C F δ σ H Q s g => g.ok (Ext.refl s.le) _ .non⟩
theorem PEp.str {x : Str} {j pos} : PEp X W (.Constant (.str x) j pos) (cD (.str x)) := ⟨_, pe_str, fun C F δ σ H Q s g => g.ok (Ext.refl s.le) _ (.str x)⟩

/-! ### operators -/
def bin (fa fb : Env → Res D) {β : Type} (g : D → D → Res β) : Env → Res β := fun δ => (fa δ).bind fun x => (fb δ).bind fun y => g x y
/-- two operands, then what the reading r asks -/
theorem bin_run {β : Type} {ta tb : TE} {a b : Expr} {fa fb : Env → Res D} {r : R2} {g : D → D → Res β} {P : VK → β → Hp → Hp → Prop}
    (ha : ∀ C F δ σ H Q, Sat X.K C F δ σ H → Gd W σ F H (fa δ) (fun d F' H' => ∀ v, Rt X.K F' H' v d → Q v H') → ta σ H Q)
    (hb : ∀ C F δ σ H Q, Sat X.K C F δ σ H → Gd W σ F H (fb δ) (fun d F' H' => ∀ v, Rt X.K F' H' v d → Q v H') → tb σ H Q)
    {F H : Hp} {δ : Env} {σ : L2.St} {C : Ent} {Q : VK} (s : Sat X.K C F δ σ H) (h : Gd W σ F H (bin fa fb g δ) (P Q))
    (hop : ∀ F' H' x y d e, Ext F H F' H' → Rt X.K F' H' x d → Rt X.K F' H' y e → Gd W σ F' H' (g d e) (P Q) → r x y H' Q) : tOp r ta tb σ H Q := by
  refine ha C F δ σ H _ s (h.bind.mono fun d F1 H1 x1 h1 x rx => ?_)
  refine hb C F1 δ σ H1 _ (s.ext x1) (h1.bind.mono fun e F2 H2 x2 h2 y ry => ?_)
  exact hop F2 H2 x y d e (x1.trans x2) (rx.ext x2.ff x2.hh) ry h2
theorem un_run {β : Type} {ta : TE} {fa : Env → Res D} {r : V → Hp → VK → Prop} {g : D → Res β} {P : VK → β → Hp → Hp → Prop}
    (ha : ∀ C F δ σ H Q, Sat X.K C F δ σ H → Gd W σ F H (fa δ) (fun d F' H' => ∀ v, Rt X.K F' H' v d → Q v H') → ta σ H Q)
    {F H : Hp} {δ : Env} {σ : L2.St} {C : Ent} {Q : VK} (s : Sat X.K C F δ σ H) (h : Gd W σ F H (un fa g δ) (P Q))
    (hop : ∀ F' H' x d, Ext F H F' H' → Rt X.K F' H' x d → Gd W σ F' H' (g d) (P Q) → r x H' Q) : tUn r ta σ H Q := by
  refine ha C F δ σ H _ s (h.bind.mono fun d F1 H1 x1 h1 x rx => ?_)
  exact hop F1 H1 x d x1 rx h1

/-- ints in, an int out, where ok says so -/
def i2 (g : Int → Int → Option Int) : D → D → Res D
  | .int i, .int j => match g i j with
    | some k => .ok (.int k)
    | none => .err
  | _, _ => .err
theorem i2_run {K : PySem.W.Frag} {g : Int → Int → Option Int} {r : R2} {σ : L2.St} (hr : ∀ i j k H Q, g i j = some k → Q (.int k) H → r (.int i) (.int j) H Q)
    {F H : Hp} {x y : V} {d e : D} {Q : VK} (le : Same F H) (rx : Rt K F H x d) (ry : Rt K F H y e) (h : Gd W σ F H (i2 g d e) (fun d F' H' => ∀ v, Rp K F' v d → Q v H')) : r x y H Q := by
  unfold i2 at h
  split at h
  · rename_i i j
    rw [Rt.int rx, Rt.int ry]
    split at h
    · rename_i k q
      exact hr i j k H Q q (h.ok (Ext.refl le) _ (.int k))
    · exact False.elim h
  · exact False.elim h
/-- numbers that a product is asked of -/
def BIGm : Nat := 450000
def gAdd (i j : Int) : Option Int := some (i + j)
def gSub (i j : Int) : Option Int := some (i - j)
def gMul (i j : Int) : Option Int := if i.natAbs.log2 + j.natAbs.log2 < BIGm then some (i * j) else none
def gDiv (i j : Int) : Option Int := if 0 < j ∧ j.natAbs.log2 < 9000 then some (i / j) else none
def gMod (i j : Int) : Option Int := if 0 < j then some (i % j) else none
def gPow (i j : Int) : Option Int := if 0 ≤ j ∧ j ≤ 1000 ∧ i.natAbs < 1000 then some (i ^ j.toNat) else none
theorem PEp.binop {op : Operator} {r : R2} {g : Int → Int → Option Int} {a b : Expr} {fa fb : Env → Res D} {pos : Pos} (ho : OpR X (binaryOp op) r) (hr : ∀ i j k H Q, g i j = some k → Q (.int k) H → r (.int i) (.int j) H Q)
    (ha : PRp X W a fa) (hb : PRp X W b fb) : PEp X W (.BinOp a op b pos) (bin fa fb (i2 g)) := by
  obtain ⟨ta, pa, qa⟩ := ha
  obtain ⟨tb, pb, qb⟩ := hb
  refine ⟨_, pe_op ho pa pb, fun C F δ σ H Q s h => ?_⟩
  exact bin_run (a := a) (b := b) (P := fun Q d F' H' => ∀ v, Rp X.K F' v d → Q v H') qa qb s h fun F' H' x y d e x1 rx ry h => i2_run hr x1.le rx ry h
def addD (fa fb : Env → Res D) : Env → Res D := bin fa fb (i2 gAdd)
def subD (fa fb : Env → Res D) : Env → Res D := bin fa fb (i2 gSub)
def mulD (fa fb : Env → Res D) : Env → Res D := bin fa fb (i2 gMul)
def divD (fa fb : Env → Res D) : Env → Res D := bin fa fb (i2 gDiv)
def modD (fa fb : Env → Res D) : Env → Res D := bin fa fb (i2 gMod)
def powD (fa fb : Env → Res D) : Env → Res D := bin fa fb (i2 gPow)
section
variable {a b : Expr} {fa fb : Env → Res D} {pos : Pos}
theorem PEp.add (ha : PRp X W a fa) (hb : PRp X W b fb) : PEp X W (.BinOp a .Add b pos) (addD fa fb) :=
  PEp.binop op_add (fun i j k H Q e q => ⟨i, j, rfl, rfl, by cases e; exact q⟩) ha hb
theorem PEp.sub (ha : PRp X W a fa) (hb : PRp X W b fb) : PEp X W (.BinOp a .Sub b pos) (subD fa fb) :=
  PEp.binop op_sub (fun i j k H Q e q => ⟨i, j, rfl, rfl, by cases e; exact q⟩) ha hb
theorem PEp.mul (ha : PRp X W a fa) (hb : PRp X W b fb) : PEp X W (.BinOp a .Mult b pos) (mulD fa fb) :=
  PEp.binop op_mulW (fun i j k H Q e q => by
    unfold gMul at e
    split at e
    · rename_i h
      cases e
      refine ⟨i, j, rfl, rfl, ?_, q⟩
      show i.natAbs.log2 + j.natAbs.log2 < 1000000
      unfold BIGm at h
      omega
    · cases e) ha hb
theorem PEp.div (ha : PRp X W a fa) (hb : PRp X W b fb) : PEp X W (.BinOp a .FloorDiv b pos) (divD fa fb) :=
  PEp.binop op_fdivW (fun i j k H Q e q => by
    unfold gDiv at e
    split at e
    · rename_i h
      cases e
      exact ⟨i, j, rfl, rfl, h, q⟩
    · cases e) ha hb
theorem PEp.mod (ha : PRp X W a fa) (hb : PRp X W b fb) : PEp X W (.BinOp a .Mod b pos) (modD fa fb) :=
  PEp.binop op_mod (fun i j k H Q e q => by
    unfold gMod at e
    split at e
    · rename_i h
      cases e
      exact ⟨i, j, rfl, rfl, h, q⟩
    · cases e) ha hb
theorem PEp.pow (ha : PRp X W a fa) (hb : PRp X W b fb) : PEp X W (.BinOp a .Pow b pos) (powD fa fb) :=
  PEp.binop op_pow (fun i j k H Q e q => by
    unfold gPow at e
    split at e
    · rename_i h
      cases e
      refine ⟨i, j, rfl, rfl, ⟨h.1, by omega, ?_⟩, q⟩
      have : (1000 : Nat) < 2 ^ 64 := by decide
      omega
    · cases e) ha hb
def gNeg : D → Res D
  | .int i => .ok (.int (-i))
  | _ => .err
def negD (fa : Env → Res D) : Env → Res D := un fa gNeg
theorem PEp.neg (ha : PRp X W a fa) : PEp X W (.UnaryOp .USub a pos) (negD fa) := by
  obtain ⟨ta, pa, qa⟩ := ha
  refine ⟨_, pe_un un_neg pa, fun C F δ σ H Q s h => ?_⟩
  refine un_run (P := fun Q d F' H' => ∀ v, Rp X.K F' v d → Q v H') qa s h fun F' H' x d x1 rx h => ?_
  cases d with
  | int i => rw [Rt.int rx]; exact ⟨i, rfl, h.ok (Ext.refl x1.le) _ (.int (-i))⟩
  | _ => exact False.elim h

/-! ### comparisons -/
/-- a comparison's answer -/
theorem PBp.cmp {op : CmpOp} {r : R2} {g : D → D → Res Bool} (ho : OpR X (compareOp op) r)
    (hr : ∀ σ F H x y d e Q, Same F H → Rt X.K F H x d → Rt X.K F H y e → Gd W σ F H (g d e) (fun b _ H' => Q (.bl b) H') → r x y H Q)
    (ha : PRp X W a fa) (hb : PRp X W b fb) (hm : behindInMarks op b = false) : PBp X W (.Compare a [op] [b] pos) (bin fa fb g) := by
  obtain ⟨ta, pa, qa⟩ := ha
  obtain ⟨tb, pb, qb⟩ := hb
  refine ⟨⟨_, pe_cmpR ho pa pb hm, fun C F δ σ H Q s h => ?_⟩, ⟨_, pt_cmpR ho pa pb hm, fun C F δ σ H Q s h => ?_⟩⟩
  · exact bin_run (a := a) (b := b) (P := fun Q d _ H' => Q (.bl d) H') qa qb s h fun F' H' x y d e x1 rx ry h => hr σ F' H' x y d e Q x1.le rx ry h
  · refine bin_run (a := a) (b := b) (Q := fun x H' => ∃ k, x = .bl k ∧ Q k H') (P := fun Q d _ H' => Q (.bl d) H') qa qb s (h.mono fun b F' H' _ q => ⟨b, rfl, q⟩) fun F' H' x y d e x1 rx ry h => hr σ F' H' x y d e _ x1.le rx ry h
def b2 (g : Int → Int → Bool) : D → D → Res Bool
  | .int i, .int j => .ok (g i j)
  | _, _ => .err
theorem b2_run {K : PySem.W.Frag} {g : Int → Int → Bool} {F H : Hp} {x y : V} {d e : D} {Q : VK} {σ : L2.St} (le : Same F H) (rx : Rt K F H x d) (ry : Rt K F H y e)
    (h : Gd W σ F H (b2 g d e) (fun b _ H' => Q (.bl b) H')) : rI0 (fun i j => .bl (g i j)) x y H Q := by
  unfold b2 at h
  split at h
  · rename_i i j
    rw [Rt.int rx, Rt.int ry]
    exact ⟨i, j, rfl, rfl, h.ok (Ext.refl le)⟩
  · exact False.elim h
def ltB (fa fb : Env → Res D) : Env → Res Bool := bin fa fb (b2 fun i j => decide (i < j))
def leB (fa fb : Env → Res D) : Env → Res Bool := bin fa fb (b2 fun i j => decide (i ≤ j))
def gtB (fa fb : Env → Res D) : Env → Res Bool := bin fa fb (b2 fun i j => decide (j < i))
def geB (fa fb : Env → Res D) : Env → Res Bool := bin fa fb (b2 fun i j => decide (j ≤ i))
theorem PBp.lt (ha : PRp X W a fa) (hb : PRp X W b fb) : PBp X W (.Compare a [.Lt] [b] pos) (ltB fa fb) := PBp.cmp op_lt (fun _ _ _ _ _ _ _ _ le rx ry h => b2_run le rx ry h) ha hb (nomark _)
theorem PBp.le (ha : PRp X W a fa) (hb : PRp X W b fb) : PBp X W (.Compare a [.LtE] [b] pos) (leB fa fb) := PBp.cmp op_le (fun _ _ _ _ _ _ _ _ le rx ry h => b2_run le rx ry h) ha hb (nomark _)
theorem PBp.gt (ha : PRp X W a fa) (hb : PRp X W b fb) : PBp X W (.Compare a [.Gt] [b] pos) (gtB fa fb) := PBp.cmp op_gt (fun _ _ _ _ _ _ _ _ le rx ry h => b2_run le rx ry h) ha hb (nomark _)
theorem PBp.ge (ha : PRp X W a fa) (hb : PRp X W b fb) : PBp X W (.Compare a [.GtE] [b] pos) (geB fa fb) := PBp.cmp op_ge (fun _ _ _ _ _ _ _ _ le rx ry h => b2_run le rx ry h) ha hb (nomark _)
/-- data that == is asked of -/
def eqOk (d : D) : Bool := SeqAt.shaped d
def gEq (d e : D) : Res Bool := if eqOk d = true ∧ eqOk e = true then .ok (PyData.eqv d e) else .err
def gNe (d e : D) : Res Bool := if eqOk d = true ∧ eqOk e = true then .ok (!PyData.eqv d e) else .err
theorem eqOk_lay {d : D} (h : eqOk d = true) : d.canLay0 = true := (Bool.and_eq_true_iff.mp h).1
def eqB (fa fb : Env → Res D) : Env → Res Bool := bin fa fb gEq
def neB (fa fb : Env → Res D) : Env → Res Bool := bin fa fb gNe
theorem PBp.eq (c : Ctx X N sc fn) (ha : PRp X W a fa) (hb : PRp X W b fb) : PBp X W (.Compare a [.Eq] [b] pos) (eqB fa fb) :=
  PBp.cmp (op_eqD (Nat.lt_of_le_of_lt (Nat.add_le_add_left (by decide) _) c.un)) (fun σ F H x y d e Q le rx ry h => by
    unfold gEq at h
    split at h
    · rename_i k
      exact ⟨d, e, Rp.dp _ _ (eqOk_lay k.1) (rx.rp le), Rp.dp _ _ (eqOk_lay k.2) (ry.rp le), k.1, k.2, h.ok (Ext.refl le)⟩
    · exact False.elim h) ha hb (nomark _)
theorem PBp.ne (c : Ctx X N sc fn) (ha : PRp X W a fa) (hb : PRp X W b fb) : PBp X W (.Compare a [.NotEq] [b] pos) (neB fa fb) :=
  PBp.cmp (op_neD (Nat.lt_of_le_of_lt (Nat.add_le_add_left (by decide) _) c.un)) (fun σ F H x y d e Q le rx ry h => by
    unfold gNe at h
    split at h
    · rename_i k
      exact ⟨d, e, Rp.dp _ _ (eqOk_lay k.1) (rx.rp le), Rp.dp _ _ (eqOk_lay k.2) (ry.rp le), k.1, k.2, h.ok (Ext.refl le)⟩
    · exact False.elim h) ha hb (nomark _)
/-- is None -/
def isN : D → Bool
  | .none => true
  | _ => false
theorem Rt.isN {K : PySem.W.Frag} {F H : Hp} {v : V} {d : D} (r : Rt K F H v d) : decide (v = .non) = DL.isN d := by
  cases d with
  | none => cases (show Rp K F v .none from r); rfl
  | bool b => cases (show Rp K F v (.bool b) from r); rfl
  | int b => cases (show Rp K F v (.int b) from r); rfl
  | str b => cases (show Rp K F v (.str b) from r); rfl
  | tuple ds => cases (show Rp K F v (.tuple ds) from r); rfl
  | list ds => obtain ⟨a, vs, rfl, _⟩ := r; rfl
  | dict ds =>
    rcases r with ⟨a, vs, rfl, _⟩ | r
    · rfl
    · cases r <;> rfl
def isNB (fa : Env → Res D) : Env → Res Bool := un fa fun d => .ok (isN d)
def notNB (fa : Env → Res D) : Env → Res Bool := un fa fun d => .ok (!isN d)
theorem PBp.isN {j pos'} (ha : PRp X W a fa) : PBp X W (.Compare a [.Is] [.Constant .none j pos'] pos) (isNB fa) := by
  obtain ⟨ta, pa, qa⟩ := ha
  refine ⟨⟨_, pe_cmp (pc_isN pa), fun C F δ σ H Q s h => ?_⟩, ⟨_, pt_cmp (pc_isN pa), fun C F δ σ H Q s h => ?_⟩⟩
  · refine qa C F δ σ H _ s (h.bind.mono fun d F' H' x k v r => ?_)
    rw [r.isN]; exact k.ok (Ext.refl x.le)
  · refine qa C F δ σ H _ s (h.bind.mono fun d F' H' x k v r => ?_)
    exact ⟨_, rfl, by rw [r.isN]; exact k.ok (Ext.refl x.le)⟩
theorem PBp.notN {j pos'} (ha : PRp X W a fa) : PBp X W (.Compare a [.IsNot] [.Constant .none j pos'] pos) (notNB fa) := by
  obtain ⟨ta, pa, qa⟩ := ha
  refine ⟨⟨_, pe_cmp (pc_notN pa), fun C F δ σ H Q s h => ?_⟩, ⟨_, pt_cmp (pc_notN pa), fun C F δ σ H Q s h => ?_⟩⟩
  · refine qa C F δ σ H _ s (h.bind.mono fun d F' H' x k v r => ?_)
    rw [r.isN]; exact k.ok (Ext.refl x.le)
  · refine qa C F δ σ H _ s (h.bind.mono fun d F' H' x k v r => ?_)
    exact ⟨_, rfl, by rw [r.isN]; exact k.ok (Ext.refl x.le)⟩
/-- a op b op' c, whole numbers -/
def chainB (g g' : Int → Int → Bool) (fa fb fc : Env → Res D) : Env → Res Bool := fun δ => (fa δ).bind fun x => (fb δ).bind fun y => (b2 g x y).bind fun k => if k = true then (fc δ).bind fun z => b2 g' y z else .ok false
theorem PBp.chain {op op' : CmpOp} {g g' : Int → Int → Bool} {fc : Env → Res D} {e : Expr} (ho : OpR X (compareOp op) (rI0 fun i j => .bl (g i j))) (ho' : OpR X (compareOp op') (rI0 fun i j => .bl (g' i j)))
    (ha : PRp X W a fa) (hb : PRp X W b fb) (hc : PRp X W e fc) (hm : lastMarks [op, op'] [b, e] = false) : PBp X W (.Compare a [op, op'] [b, e] pos) (chainB g g' fa fb fc) := by
  obtain ⟨ta, pa, qa⟩ := ha
  obtain ⟨tb, pb, qb⟩ := hb
  obtain ⟨tc, pc, qc⟩ := hc
  have main : ∀ C F δ σ H Q, Sat X.K C F δ σ H → Gd W σ F H (chainB g g' fa fb fc δ) (fun b _ H' => Q (.bl b) H') → tChain (rI0 fun i j => .bl (g i j)) (rI0 fun i j => .bl (g' i j)) ta tb tc σ H Q := by
    intro C F δ σ H Q s h
    refine qa C F δ σ H _ s (h.bind.mono fun d F1 H1 x1 h1 x rx => ?_)
    refine qb C F1 δ σ H1 _ (s.ext x1) (h1.bind.mono fun e F2 H2 x2 h2 y ry => ?_)
    have rx := rx.ext x2.ff x2.hh
    refine b2_run (W := W) (σ := σ) x2.le rx ry (h2.bind.mono fun k F3 H3 x3 h3 => ⟨k, rfl, ?_⟩)
    cases k with
    | false => rw [if_neg Bool.false_ne_true] at h3 ⊢; exact h3.ok (Ext.refl x3.le)
    | true =>
      rw [if_pos rfl] at h3 ⊢
      refine qc C F3 δ σ H3 _ (((s.ext x1).ext x2).ext x3) (h3.bind.mono fun z F4 H4 x4 h4 u ru => ?_)
      exact b2_run x4.le ((ry.ext x3.ff x3.hh).ext x4.ff x4.hh) ru h4
  exact ⟨⟨_, pe_chain ho ho' pa pb pc hm, main⟩, ⟨_, pt_chain ho ho' pa pb pc hm, fun C F δ σ H Q s h => main C F δ σ H _ s (h.mono fun b F' H' _ q => ⟨b, rfl, q⟩)⟩⟩
theorem PBp.leLe {fc : Env → Res D} {e : Expr} (ha : PRp X W a fa) (hb : PRp X W b fb) (hc : PRp X W e fc) (hm : lastMarks [.LtE, .LtE] [b, e] = false := by with_unfolding_all rfl) :
    PBp X W (.Compare a [.LtE, .LtE] [b, e] pos) (chainB (fun i j => decide (i ≤ j)) (fun i j => decide (i ≤ j)) fa fb fc) := PBp.chain op_le op_le ha hb hc hm
theorem PBp.leLt {fc : Env → Res D} {e : Expr} (ha : PRp X W a fa) (hb : PRp X W b fb) (hc : PRp X W e fc) (hm : lastMarks [.LtE, .Lt] [b, e] = false := by with_unfolding_all rfl) :
    PBp X W (.Compare a [.LtE, .Lt] [b, e] pos) (chainB (fun i j => decide (i ≤ j)) (fun i j => decide (i < j)) fa fb fc) := PBp.chain op_le op_lt ha hb hc hm

/-! ### and, or, not; a if t else b -/
variable {f g : Env → Res Bool} {rest : List Expr}
def andB (f g : Env → Res Bool) : Env → Res Bool := fun δ => (f δ).bind fun b => if b = true then g δ else .ok false
def orB (f g : Env → Res Bool) : Env → Res Bool := fun δ => (f δ).bind fun b => if b = true then .ok true else g δ
def notB (f : Env → Res Bool) : Env → Res Bool := fun δ => (f δ).bind fun b => .ok (!b)
theorem PBw.and1 (h : PBp X W a f) : PBw X W (.BoolOp .And [a] pos) f := by
  obtain ⟨⟨t, p, q⟩, t', p', q'⟩ := h
  exact ⟨⟨t, pe_one p, q⟩, t', pw_and1 p', q'⟩
theorem PBw.or1 (h : PBp X W a f) : PBw X W (.BoolOp .Or [a] pos) f := by
  obtain ⟨⟨t, p, q⟩, t', p', q'⟩ := h
  exact ⟨⟨t, pe_one p, q⟩, t', pw_or1 p', q'⟩
theorem PBw.and (h : PBp X W a f) (h2 : PBw X W (.BoolOp .And (b :: rest) pos) g) : PBw X W (.BoolOp .And (a :: b :: rest) pos) (andB f g) := by
  obtain ⟨⟨t, p, q⟩, t', p', q'⟩ := h
  obtain ⟨⟨u, r, v⟩, u', r', v'⟩ := h2
  refine ⟨⟨_, pe_and p r, fun C F δ σ H Q s h => ?_⟩, _, pw_and p' r', fun C F δ σ H Q s h => ?_⟩
  · refine q C F δ σ H _ s (h.bind.mono fun b F1 H1 x1 h1 => ⟨b, rfl, ?_⟩)
    cases b with
    | true => rw [if_pos rfl] at h1 ⊢; exact v C F1 δ σ H1 Q (s.ext x1) h1
    | false => rw [if_neg Bool.false_ne_true] at h1 ⊢; exact h1.ok (Ext.refl x1.le)
  · refine q' C F δ σ H _ s (h.bind.mono fun b F1 H1 x1 h1 => ?_)
    cases b with
    | true => rw [if_pos rfl] at h1 ⊢; exact v' C F1 δ σ H1 Q (s.ext x1) h1
    | false => rw [if_neg Bool.false_ne_true] at h1 ⊢; exact h1.ok (Ext.refl x1.le)
theorem PBw.or (h : PBp X W a f) (h2 : PBw X W (.BoolOp .Or (b :: rest) pos) g) : PBw X W (.BoolOp .Or (a :: b :: rest) pos) (orB f g) := by
  obtain ⟨⟨t, p, q⟩, t', p', q'⟩ := h
  obtain ⟨⟨u, r, v⟩, u', r', v'⟩ := h2
  refine ⟨⟨_, pe_or p r, fun C F δ σ H Q s h => ?_⟩, _, pw_or p' r', fun C F δ σ H Q s h => ?_⟩
  · refine q C F δ σ H _ s (h.bind.mono fun b F1 H1 x1 h1 => ⟨b, rfl, ?_⟩)
    cases b with
    | false => rw [if_neg Bool.false_ne_true] at h1 ⊢; exact v C F1 δ σ H1 Q (s.ext x1) h1
    | true => rw [if_pos rfl] at h1 ⊢; exact h1.ok (Ext.refl x1.le)
  · refine q' C F δ σ H _ s (h.bind.mono fun b F1 H1 x1 h1 => ?_)
    cases b with
    | false => rw [if_neg Bool.false_ne_true] at h1 ⊢; exact v' C F1 δ σ H1 Q (s.ext x1) h1
    | true => rw [if_pos rfl] at h1 ⊢; exact h1.ok (Ext.refl x1.le)
theorem PBp.not (h : PBp X W a f) : PBp X W (.UnaryOp .Not a pos) (notB f) := by
  obtain ⟨⟨t, p, q⟩, t', p', q'⟩ := h
  refine ⟨⟨_, pe_not p, fun C F δ σ H Q s h => ?_⟩, _, pt_not p', fun C F δ σ H Q s h => ?_⟩
  · exact q C F δ σ H _ s (h.bind.mono fun b F1 H1 x1 h1 => ⟨b, rfl, h1.ok (Ext.refl x1.le)⟩)
  · exact q' C F δ σ H _ s (h.bind.mono fun b F1 H1 x1 h1 => h1.ok (Ext.refl x1.le))
def ifD {α : Type} (t : Env → Res Bool) (fa fb : Env → Res α) : Env → Res α := fun δ => (t δ).bind fun b => if b = true then fa δ else fb δ
theorem PEp.ifE {c : Expr} {t : Env → Res Bool} (hc : PBp X W c t) (ha : PEp X W a fa) (hb : PEp X W b fb) : PEp X W (.IfExp c a b pos) (ifD t fa fb) := by
  obtain ⟨_, t', p', q'⟩ := hc
  obtain ⟨ta, pa, qa⟩ := ha
  obtain ⟨tb, pb, qb⟩ := hb
  refine ⟨_, pe_ifExp p' pa pb, fun C F δ σ H Q s h => ?_⟩
  refine q' C F δ σ H _ s (h.bind.mono fun b F1 H1 x1 h1 => ?_)
  cases b with
  | true => rw [if_pos rfl] at h1 ⊢; exact qa C F1 δ σ H1 Q (s.ext x1) h1
  | false => rw [if_neg Bool.false_ne_true] at h1 ⊢; exact qb C F1 δ σ H1 Q (s.ext x1) h1
end

/-! ### displays, items -/
section
variable {e : Expr} {es : List Expr} {f : Env → Res D} {fs : Env → Res (List D)} {pos : Pos}
def nilA : Env → Res (List D) := fun _ => .ok []
def consA (f : Env → Res D) (fs : Env → Res (List D)) : Env → Res (List D) := fun δ => (f δ).bind fun d => (fs δ).bind fun ds => .ok (d :: ds)
theorem PAp.nil : PAp X W [] nilA := ⟨_, pa_nil, fun C F δ σ H Q s g => g.ok (Ext.refl s.le) [] .nil⟩
theorem PAp.cons (h : PEp X W e f) (hr : PAp X W es fs) (hs : starEach (e :: es) X.env = (false, eval e X.env) :: starEach es X.env := by rfl) : PAp X W (e :: es) (consA f fs) := by
  obtain ⟨t, p, q⟩ := h
  obtain ⟨u, r, v⟩ := hr
  refine ⟨_, pa_cons p r hs, fun C F δ σ H Q s h => ?_⟩
  refine q C F δ σ H _ s (h.bind.mono fun d F1 H1 x1 h1 x rx => ?_)
  refine v C F1 δ σ H1 _ (s.ext x1) (h1.bind.mono fun ds F2 H2 x2 h2 vs rs => ?_)
  exact h2.ok (Ext.refl x2.le) _ (.cons (Rp.mono x2.ff _ _ rx) rs)
def szL (ds : List D) : Res (List D) := if ds.length ≤ sizeLine then .ok ds else .err
theorem Gd.szL {σ : L2.St} {F H : Hp} {ds : List D} {P : List D → Hp → Hp → Prop} (h : Gd W σ F H (szL ds) P) : ds.length ≤ sizeLine ∧ Gd W σ F H (.ok ds) P := by
  unfold DL.szL at h
  split at h
  · exact ⟨by assumption, h⟩
  · exact False.elim h
def tupD (fs : Env → Res (List D)) : Env → Res D := fun δ => (fs δ).bind fun ds => (szL ds).bind fun ds => .ok (.tuple ds)
def lstF (fs : Env → Res (List D)) : Env → Res (List D) := fun δ => (fs δ).bind szL
theorem PEp.tup {k : Nat} (h : PAp X W es fs) : PEp X W (.Tuple es k pos) (tupD fs) := by
  obtain ⟨t, p, q⟩ := h
  refine ⟨_, pe_tup p, fun C F δ σ H Q s h => ?_⟩
  refine q C F δ σ H _ s (h.bind.mono fun ds F1 H1 x1 h1 vs rs => ?_)
  obtain ⟨z, h2⟩ := Gd.szL h1.bind
  refine ⟨by rw [rs.length]; exact z, fun p hp => ?_⟩
  refine (h2.ok (Ext.refl x1.le)).ok ((Ext.refl x1.le).newF hp (.tup vs)) _ (.tup (SqT.of upd_same) (RpA.mono (same_new (x1.le.free hp) _) _ _ rs))
theorem PFp.lst (h : PAp X W es fs) : PFp X W (.List es pos) (lstF fs) := by
  obtain ⟨t, p, q⟩ := h
  refine ⟨_, pe_lst p, fun C F δ σ H Q s h => ?_⟩
  refine q C F δ σ H _ s ((Gd.bind2 h).mono fun ds F1 H1 x1 hb vs rs => ?_)
  obtain ⟨z, h2⟩ := Gd.szL hb
  refine ⟨by rw [rs.length]; exact z, fun p hp => ?_⟩
  exact h2.ok (x1.newH hp (.lst vs)) p vs (x1.hh.free hp) (x1.le.free hp) upd_same rs

end
end
end DL
/-! DL2: items, slices, in, calls. -/
namespace DL
open PySem PySem.Spec PyProof.Rows L2
variable [TabP]

/-! ### dicts by keys that are ints and texts -/
def keyOf : D → Option Key
  | .int i => some (.inl i)
  | .str x => some (.inr x)
  | _ => none
theorem keyOf_kD (k : Key) : keyOf (kD k) = some k := by cases k <;> rfl
theorem kD_of {d : D} {k : Key} (h : keyOf d = some k) : d = kD k := by
  cases d <;> cases h <;> rfl
def lookK (kvs : List (D × D)) (k : Key) : Option D := (kvs.find? fun kv => decide (keyOf kv.1 = some k)).map (·.2)
def putKD (kvs : List (D × D)) (k : Key) (d : D) : List (D × D) :=
  if (kvs.any fun kv => decide (keyOf kv.1 = some k)) = true then kvs.map (fun kv => if keyOf kv.1 = some k then (kv.1, d) else kv) else kvs ++ [(kD k, d)]
section
variable {K : PySem.W.Frag} {F H : Hp}
theorem RpK.any (k : Key) : ∀ {ks : List (Key × V)} {kvs : List (D × D)}, RpK K F ks kvs → (ks.any fun kv => decide (kv.1 = k)) = kvs.any fun kv => decide (keyOf kv.1 = some k)
  | _, _, .nil => rfl
  | _, _, .cons (k := j) r t => by
    rw [List.any_cons, List.any_cons, RpK.any k t]
    have : decide (j = k) = decide (keyOf (kD j) = some k) := by
      rw [keyOf_kD]
      by_cases e : j = k
      · simp [e]
      · rw [decide_eq_false e, decide_eq_false (fun z => e (Option.some.inj z))]
    show (decide (j = k) || _) = (decide (keyOf (kD j) = some k) || _)
    rw [this]
theorem RpK.val (k : Key) : ∀ {ks : List (Key × V)} {kvs : List (D × D)}, RpK K F ks kvs → (valV ks k = none ∧ lookK kvs k = none) ∨ ∃ v d, valV ks k = some v ∧ lookK kvs k = some d ∧ Rp K F v d
  | _, _, .nil => .inl ⟨rfl, rfl⟩
  | _, _, .cons (k := j) (v := v) (d := d) r t => by
    by_cases e : j = k
    · refine .inr ⟨v, d, valV_pos (p := (j, v)) e, ?_, r⟩
      unfold lookK
      rw [List.find?_cons_of_pos (by rw [keyOf_kD, e]; simp)]
      rfl
    · have h1 := valV_neg (p := (j, v)) (r := by assumption) e
      have h2 : ∀ r : List (D × D), lookK ((kD j, d) :: r) k = lookK r k := fun r => by
        unfold lookK
        rw [List.find?_cons_of_neg (by rw [keyOf_kD]; simp; exact e)]
      rw [h1, h2]
      exact RpK.val k t
theorem RpK.repl (k : Key) {v : V} {d : D} (r : Rp K F v d) : ∀ {ks : List (Key × V)} {kvs : List (D × D)}, RpK K F ks kvs →
    RpK K F (ks.map fun kv => if kv.1 = k then (kv.1, v) else kv) (kvs.map fun kv => if keyOf kv.1 = some k then (kv.1, d) else kv)
  | _, _, .nil => .nil
  | _, _, .cons (k := j) r' t => by
    rw [List.map_cons, List.map_cons]
    by_cases e : j = k
    · rw [if_pos e, if_pos (by rw [keyOf_kD, e])]
      exact .cons r (RpK.repl k r t)
    · rw [if_neg e, if_neg (by rw [keyOf_kD]; exact fun z => e (Option.some.inj z))]
      exact .cons r' (RpK.repl k r t)
theorem RpK.append : ∀ {ks js : List (Key × V)} {kvs jvs : List (D × D)}, RpK K F ks kvs → RpK K F js jvs → RpK K F (ks ++ js) (kvs ++ jvs)
  | _, _, _, _, .nil, h => h
  | _, _, _, _, .cons r t, h => .cons r (RpK.append t h)
theorem RpK.put (k : Key) {v : V} {d : D} (r : Rp K F v d) {ks : List (Key × V)} {kvs : List (D × D)} (h : RpK K F ks kvs) : RpK K F (putK ks k v) (putKD kvs k d) := by
  unfold putK putKD
  rw [h.any k]
  split
  · exact h.repl k r
  · exact h.append (.cons r .nil)
theorem RpK.length : ∀ {ks : List (Key × V)} {kvs : List (D × D)}, RpK K F ks kvs → ks.length = kvs.length
  | _, _, .nil => rfl
  | _, _, .cons _ h => by simp [RpK.length h]
theorem RpK.keys : ∀ {ks : List (Key × V)} {kvs : List (D × D)}, RpK K F ks kvs → RpA K F (ks.map fun kv => kV kv.1) (kvs.map (·.1))
  | _, _, .nil => .nil
  | _, _, .cons (k := j) _ h => .cons (by cases j with | inl i => exact .int i | inr x => exact .str x) (RpK.keys h)
/-- the law's own script, told by its form -/
def scrOf : List (D × D) → Option (List D)
  | [(.none, .list ds)] => some ds
  | _ => none
theorem RpK.noScr {ks : List (Key × V)} {kvs : List (D × D)} (h : RpK K F ks kvs) : scrOf kvs = none := by
  cases h with
  | nil => rfl
  | @cons k v ks d kvs r t => cases k <;> rfl
theorem Rt.dict {v : V} {kvs : List (D × D)} (r : Rt K F H v (.dict kvs)) (le : Same F H) :
    (∃ a ks, v = .ref a ∧ H a = some (.dK ks) ∧ RpK K F ks kvs ∧ scrOf kvs = none) ∨ ∃ (a : Addr) (ns : List Int), v = .ref a ∧ SqL K H a (ns.map V.int) ∧ scrOf kvs = some (ns.map PyData.int) := by
  rcases r with ⟨a, ks, h1, h2, h3⟩ | r
  · exact .inl ⟨a, ks, h1, h2, h3, h3.noScr⟩
  · cases r with
    | dK h2 h3 => exact .inl ⟨_, _, rfl, le _ _ h2, h3, h3.noScr⟩
    | scr h => exact .inr ⟨_, _, rfl, le.seq h, rfl⟩
theorem Rp.key {v : V} {d : D} {k : Key} (r : Rp K F v d) (h : keyOf d = some k) : v = kV k := by
  cases d with
  | int i => cases h; cases r; rfl
  | str i => cases h; cases r; rfl
  | _ => cases h
theorem Rt.key {v : V} {d : D} {k : Key} (r : Rt K F H v d) (h : keyOf d = some k) : v = kV k := by
  cases d with
  | int i => exact Rp.key (K := K) (F := F) r h
  | str i => exact Rp.key (K := K) (F := F) r h
  | _ => cases h
end

section
variable {X : Cx} {N : List Str} {sc : Scope} {fn : Str → Bool} {W : WS}
theorem Ctx.u1 (c : Ctx X N sc fn) : X.A.units + 1 < cLine := Nat.lt_of_le_of_lt (Nat.add_le_add_left (by decide) _) c.un

/-! ### an item -/
def rIxD : R2 := fun x y H Q => ∃ a v, x = .ref a ∧ DGet H a y (some v) ∧ Q v H
theorem ix_dict (hu : X.A.units + 1 < cLine) : IxR X rIxD := by
  intro value slice pins s σ H x y v u Q I rx ry h hs
  obtain ⟨a, z, ex, g, q⟩ := h
  subst ex
  obtain rfl : v = Value.ref a := rx
  have hT := dict_typeIs I g
  unfold subscriptTail
  refine wpAny_bind ?_
  rw [getitemInPython_of_ne hT.not_modules]
  refine wpAny_bind (wpAny_specialOf hT PySem.F.slot_dict_getitem.lookup ?_)
  have fin : wpAny (model X.prog X.w) X.A (subscripted slice false (.ref a) u) (fun r s₃ => wpAny (model X.prog X.w) X.A (letTemporaryGo value (.ref a) r >>= fun _ => pure r) (EP X pins σ Q) X.xe s₃) X.xe s := by
    rw [hs]
    exact wpAny_operating (d_getItem hu I g ry fun w' s3 I3 rw' => wpAny_bind (wpAny_letTemporaryGo (wpAny_pure ⟨z, H, I3, rw', q⟩)))
  first
    | exact wpAny_pure (wpAny_bind fin)
    | exact wpAny_bind (wpAny_pure (wpAny_bind fin))
    | exact wpAny_bind fin
def gIx : D → D → Res D
  | .list ds, .int i => ofO (atI ds i)
  | .tuple ds, .int i => ofO (atI ds i)
  | .dict kvs, k => match scrOf kvs with
    | some ds => (match k with
      | .int i => ofO (atI ds i)
      | _ => .err)
    | none => (match keyOf k with
      | some k => ofO (lookK kvs k)
      | none => .err)
  | _, _ => .err
theorem ofO_ok {α : Type} {o : Option α} {σ : L2.St} {F H : Hp} {P : α → Hp → Hp → Prop} (h : Gd W σ F H (ofO o) P) : ∃ a, o = some a ∧ Gd W σ F H (.ok a) P := by
  cases o with
  | some a => exact ⟨a, rfl, h⟩
  | none => exact False.elim h
theorem RpA.atI {K : PySem.W.Frag} {F : Hp} {vs : List V} {ds : List D} {i : Int} {d : D} (h : RpA K F vs ds) (e : atI ds i = some d) : ∃ v, L2.atI vs i = some v ∧ Rp K F v d := by
  unfold L2.atI at e ⊢
  rw [h.length]
  cases q : ixN ds.length i with
  | none => rw [q] at e; cases e
  | some j =>
    rw [q] at e
    exact h.get e
def ixD (fa fb : Env → Res D) : Env → Res D := bin fa fb gIx
section
variable {a b e : Expr} {fa fb f : Env → Res D} {pos : Pos}
theorem PEp.ix (c : Ctx X N sc fn) (ha : PRp X W a fa) (hb : PRp X W b fb) (hs : PlainIx b := by exact fun _ _ => rfl) : PEp X W (.Subscript a b pos) (ixD fa fb) := by
  obtain ⟨ta, pa, qa⟩ := ha
  obtain ⟨tb, pb, qb⟩ := hb
  refine ⟨_, pe_ix ((ix_list.or ix_tup).or (ix_dict c.u1)) pa pb hs, fun C F δ σ H Q s h => ?_⟩
  refine bin_run (a := a) (b := b) (P := fun Q d F' H' => ∀ v, Rp X.K F' v d → Q v H') qa qb s h fun F' H' x y d e x1 rx ry h => ?_
  unfold gIx at h
  split at h
  · rename_i ds i
    obtain ⟨p, vs, ex, hs, ra⟩ := rx
    obtain ⟨z, ez, h⟩ := ofO_ok h
    obtain ⟨v, ev, rv⟩ := ra.atI ez
    exact .inl (.inl ⟨p, vs, i, v, ex, Rt.int ry, SqL.of hs, ev, h.ok (Ext.refl x1.le) v rv⟩)
  · rename_i ds i
    cases (show Rp X.K F' x (.tuple ds) from rx) with
    | tup hs ra =>
      obtain ⟨z, ez, h⟩ := ofO_ok h
      obtain ⟨v, ev, rv⟩ := ra.atI ez
      exact .inl (.inr ⟨_, _, i, v, rfl, Rt.int ry, Same.sqT x1.le hs, ev, h.ok (Ext.refl x1.le) v rv⟩)
  · rename_i kvs k
    rcases rx.dict x1.le with ⟨p, ks, ex, hs, ra, e0⟩ | ⟨p, ns, ex, hs, e0⟩
    · rw [e0] at h
      dsimp only at h
      split at h
      · rename_i k' hk
        obtain ⟨z, ez, h⟩ := ofO_ok h
        rcases ra.val k' with ⟨_, l2⟩ | ⟨v, d, l1, l2, rv⟩
        · rw [l2] at ez; cases ez
        · rw [l2] at ez
          cases ez
          refine .inr ⟨p, v, ex, ?_, h.ok (Ext.refl x1.le) v rv⟩
          rw [ry.key hk, ← l1]
          exact DGet.k hs
      · exact False.elim h
    · rw [e0] at h
      dsimp only at h
      split at h
      · rename_i i
        obtain ⟨z, ez, h⟩ := ofO_ok h
        obtain ⟨v, ev, rv⟩ := (RpA.ints (K := X.K) (F := F') ns).atI ez
        exact .inl (.inl ⟨p, _, i, v, ex, Rt.int ry, hs, ev, h.ok (Ext.refl x1.le) v rv⟩)
      · exact False.elim h
  · exact False.elim h

/-! ### slices -/
def POp (X : Cx) (W : WS) (e : Option Expr) (f : Env → Res (Option Int)) : Prop := ∃ t, PO X e t ∧ ∀ C F δ σ H Q, Sat X.K C F δ σ H → Gd W σ F H (f δ) (fun o _ H' => Q o H') → t σ H Q
def noO : Env → Res (Option Int) := fun _ => .ok none
def gO : D → Res (Option Int)
  | .int i => .ok (some i)
  | _ => .err
def someO (f : Env → Res D) : Env → Res (Option Int) := un f gO
theorem POp.no : POp X W none noO := ⟨_, po_none, fun C F δ σ H Q s g => g.ok (Ext.refl s.le)⟩
theorem POp.some (h : PRp X W e f) : POp X W (some e) (someO f) := by
  obtain ⟨t, p, q⟩ := h
  refine ⟨_, po_some p, fun C F δ σ H Q s h => ?_⟩
  refine q C F δ σ H _ s (h.bind.mono fun d F1 H1 x1 h1 v rv => ?_)
  cases d with
  | int i => exact ⟨i, Rt.int rv, h1.ok (Ext.refl x1.le)⟩
  | _ => exact False.elim h1
def cutL {α : Type} (xs : List α) (lo hi : Option Int) : List α := (xs.drop (HT.sIx xs.length 0 lo)).take (HT.sIx xs.length xs.length hi - HT.sIx xs.length 0 lo)
theorem RpA.cut {K : PySem.W.Frag} {F : Hp} {vs : List V} {ds : List D} (h : RpA K F vs ds) (lo hi : Option Int) : RpA K F (cutV vs lo hi) (cutL ds lo hi) := by
  unfold cutV cutL
  rw [h.length]
  exact (h.drop _).take _
def gLst : D → Res (List D)
  | .list ds => .ok ds
  | .dict kvs => ofO (scrOf kvs)
  | _ => .err
def ofLst : D → Res (List D)
  | .list ds => .ok ds
  | _ => .err
def gTup : D → Res (List D)
  | .tuple ds => .ok ds
  | _ => .err
def slF (f : Env → Res D) (fl fu : Env → Res (Option Int)) : Env → Res (List D) := fun δ => (f δ).bind fun x => (fl δ).bind fun l => (fu δ).bind fun u => (gLst x).bind fun ds => .ok (cutL ds l u)
def slT (f : Env → Res D) (fl fu : Env → Res (Option Int)) : Env → Res D := fun δ => (f δ).bind fun x => (fl δ).bind fun l => (fu δ).bind fun u => (gTup x).bind fun ds => .ok (.tuple (cutL ds l u))
theorem PFp.slice {lo hi : Option Expr} {fl fu : Env → Res (Option Int)} {p2 : Pos} (ha : PRp X W a fa) (hl : POp X W lo fl) (hu : POp X W hi fu) : PFp X W (.Subscript a (.Slice lo hi none p2) pos) (slF fa fl fu) := by
  obtain ⟨t, p, q⟩ := ha
  obtain ⟨tl, pl, ql⟩ := hl
  obtain ⟨tu, pu, qu⟩ := hu
  refine ⟨_, pe_slice sl_list p pl pu, fun C F δ σ H Q s h => ?_⟩
  refine q C F δ σ H _ s ((Gd.bind2 h).mono fun d F1 H1 x1 h1 x rx => ?_)
  refine ql C F1 δ σ H1 _ (s.ext x1) (((h1.bind2).ext x1).mono fun l F2 H2 x2 h2 => ?_)
  refine qu C F2 δ σ H2 _ ((s.ext x1).ext x2) (((h2.bind2).ext (x1.trans x2)).mono fun u F3 H3 x3 h3 => ?_)
  cases d with
  | list ds =>
    obtain ⟨a, vs, ex, hs, ra⟩ := rx
    have x13 := x1.trans (x2.trans x3)
    refine ⟨a, vs, ex, SqL.of (x3.hh _ _ (x2.hh _ _ hs)), fun p hp => ?_⟩
    have h4 : Gd W σ F H (.ok (cutL ds l u)) _ := h3
    exact h4.ok (x13.newH hp _) p _ (x13.hh.free hp) (x13.le.free hp) upd_same (RpA.mono x3.ff _ _ (RpA.mono x2.ff _ _ (ra.cut l u)))
  | dict kvs =>
    have x13 := x1.trans (x2.trans x3)
    have rx3 := (rx.ext x2.ff x2.hh).ext x3.ff x3.hh
    rcases rx3.dict x3.le with ⟨p, ks, ex, hs, ra, e0⟩ | ⟨p, ns, ex, hs, e0⟩
    · dsimp only [gLst] at h3
      rw [e0] at h3; exact False.elim h3
    · dsimp only [gLst] at h3
      rw [e0] at h3
      refine ⟨p, _, ex, hs, fun p hp => ?_⟩
      have h4 : Gd W σ F H (.ok (cutL (ns.map PyData.int) l u)) _ := h3
      exact h4.ok (x13.newH hp _) p _ (x13.hh.free hp) (x13.le.free hp) upd_same ((RpA.ints ns).cut l u)
  | _ => exact False.elim h3
theorem PEp.slice {lo hi : Option Expr} {fl fu : Env → Res (Option Int)} {p2 : Pos} (ha : PRp X W a fa) (hl : POp X W lo fl) (hu : POp X W hi fu) : PEp X W (.Subscript a (.Slice lo hi none p2) pos) (slT fa fl fu) := by
  obtain ⟨t, p, q⟩ := ha
  obtain ⟨tl, pl, ql⟩ := hl
  obtain ⟨tu, pu, qu⟩ := hu
  refine ⟨_, pe_slice sl_tupA p pl pu, fun C F δ σ H Q s h => ?_⟩
  refine q C F δ σ H _ s ((Gd.bind2 h).mono fun d F1 H1 x1 h1 x rx => ?_)
  refine ql C F1 δ σ H1 _ (s.ext x1) (((h1.bind2).ext x1).mono fun l F2 H2 x2 h2 => ?_)
  refine qu C F2 δ σ H2 _ ((s.ext x1).ext x2) (((h2.bind2).ext (x1.trans x2)).mono fun u F3 H3 x3 h3 => ?_)
  cases d with
  | tuple ds =>
    cases (show Rp X.K F1 x (.tuple ds) from rx) with
    | @tup a vs _ hs ra =>
      have x13 := x1.trans (x2.trans x3)
      have rc := RpA.mono x3.ff _ _ (RpA.mono x2.ff _ _ (ra.cut l u))
      have hs3 : SqT X.K F3 a vs := Same.sqT x3.ff (Same.sqT x2.ff hs)
      refine ⟨a, vs, rfl, Same.sqT x13.le hs3, fun hw => ?_, fun hw p hp => ?_⟩
      · have e1 : cutV vs l u = vs := by
          unfold cutV
          rw [hw.1, hw.2, List.drop_zero, Nat.sub_zero, List.take_length]
        rw [e1] at rc
        have h4 : Gd W σ F H (.ok (PyData.tuple (cutL ds l u))) _ := h3
        exact h4.ok x13 _ (.tup hs3 rc)
      · have h4 : Gd W σ F H (.ok (PyData.tuple (cutL ds l u))) _ := h3
        exact h4.ok (x13.newF hp _) _ (.tup (SqT.of upd_same) (RpA.mono (same_new (x13.le.free hp) _) _ _ rc))
  | _ => exact False.elim h3

/-! ### in, not in -/
def flatD : D → Bool
  | .none => true
  | .bool _ => true
  | .int _ => true
  | .str _ => true
  | _ => false
theorem flat_v {K : PySem.W.Frag} {F : Hp} {v : V} {d : D} (r : Rp K F v d) (h : flatD d = true) : flatV v = true := by
  cases r <;> first | rfl | cases h
theorem flat_all {K : PySem.W.Frag} {F : Hp} : ∀ {vs : List V} {ds : List D}, RpA K F vs ds → ds.all flatD = true → vs.all flatV = true
  | _, _, .nil, _ => rfl
  | _, _, .cons r t, h => by
    rw [List.all_cons, Bool.and_eq_true] at h
    rw [List.all_cons, flat_v r h.1, flat_all t h.2]; rfl
theorem flat_eq {K : PySem.W.Frag} {F F' : Hp} {x y : V} {d e : D} (rx : Rp K F x d) (ry : Rp K F' y e) (hd : flatD d = true) (he : flatD e = true) : eqV x y = PyData.eqv d e := by
  cases rx <;> cases ry <;> first | (simp only [eqV, PyData.eqv]; done) | rfl | cases hd | cases he
theorem flat_in {K : PySem.W.Frag} {F F' : Hp} {x : V} {d : D} (rx : Rp K F' x d) (hd : flatD d = true) : ∀ {vs : List V} {ds : List D}, RpA K F vs ds → ds.all flatD = true → inV x vs = ds.any fun z => PyData.eqv z d
  | _, _, .nil, _ => rfl
  | _, _, .cons r t, h => by
    rw [List.all_cons, Bool.and_eq_true] at h
    have ih := flat_in rx hd t h.2
    unfold inV at ih ⊢
    rw [List.any_cons, List.any_cons, ih, flat_eq r rx h.1 hd]
/-- x in y: the answer -/
def inA (d : D) : D → Option Bool
  | .list ds => if flatD d = true ∧ ds.all flatD = true then some (ds.any fun z => PyData.eqv z d) else if eqOk d = true ∧ eqOk (.list ds) = true then some (ds.any fun z => PyData.eqv z d) else none
  | .tuple ds => if flatD d = true ∧ ds.all flatD = true then some (ds.any fun z => PyData.eqv z d) else none
  | .dict kvs => match scrOf kvs with
    | some _ => none
    | none => (keyOf d).map fun k => (lookK kvs k).isSome
  | _ => none
def gIn (d e : D) : Res Bool := ofO (inA d e)
def gNin (d e : D) : Res Bool := (gIn d e).bind fun b => .ok (!b)
def rInK (neg : Bool) : R2 := fun y x H Q => ∃ a o, x = .ref a ∧ DGet H a y o ∧ Q (.bl (if neg then !o.isSome else o.isSome)) H
theorem op_inK (hu : X.A.units + 1 < cLine) : OpR X (compareOp .In) (rInK false) := by
  intro pins s σ H x y v u Q I rx ry h
  obtain ⟨a, o, ey, g, q⟩ := h
  subst ey
  obtain rfl : u = Value.ref a := ry
  exact d_in hu I g rx fun s3 I3 => ⟨.bl o.isSome, H, I3, rfl, q⟩
theorem op_ninK (hu : X.A.units + 1 < cLine) : OpR X (compareOp .NotIn) (rInK true) := by
  intro pins s σ H x y v u Q I rx ry h
  obtain ⟨a, o, ey, g, q⟩ := h
  subst ey
  obtain rfl : u = Value.ref a := ry
  exact d_notIn hu I g rx fun s3 I3 => ⟨.bl (!o.isSome), H, I3, rfl, q⟩
theorem in_run {K : PySem.W.Frag} (neg : Bool) {F H : Hp} {x y : V} {d e : D} {b : Bool} {Q : VK} (le : Same F H) (rx : Rt K F H x d) (ry : Rt K F H y e) (h : inA d e = some b) (q : Q (.bl (if neg then !b else b)) H) :
    (rIn K neg x y H Q ∨ (∃ d ds, Dp K H x d ∧ Dp K H y (.list ds) ∧ SeqAt.shaped d = true ∧ SeqAt.shaped (.list ds) = true ∧ Q (.bl (if neg then !(ds.any fun z => PyData.eqv z d) else ds.any fun z => PyData.eqv z d)) H)) ∨ rInK neg x y H Q := by
  unfold inA at h
  split at h
  · rename_i ds
    split at h
    · rename_i c
      cases h
      obtain ⟨a, vs, ey, hs, ra⟩ := ry
      have rx' := rx.rp le
      refine .inl (.inl ⟨a, vs, ey, .inl (SqL.of hs), flat_v rx' c.1, flat_all ra c.2, ?_⟩)
      rw [flat_in rx' c.1 ra c.2]; exact q
    · split at h
      · rename_i c
        cases h
        exact .inl (.inr ⟨d, ds, Rp.dp _ _ (eqOk_lay c.1) (rx.rp le), Rp.dp _ _ (eqOk_lay c.2) (ry.rp le), c.1, c.2, q⟩)
      · cases h
  · rename_i ds
    split at h
    · rename_i c
      cases h
      cases (show Rp K F y (.tuple ds) from ry) with
      | tup hs ra =>
        have rx' := rx.rp le
        refine .inl (.inl ⟨_, _, rfl, .inr (Same.sqT le hs), flat_v rx' c.1, flat_all ra c.2, ?_⟩)
        rw [flat_in rx' c.1 ra c.2]; exact q
    · cases h
  · rename_i kvs
    rcases ry.dict le with ⟨a, ks, ey, hs, ra, e0⟩ | ⟨a, ns, ey, hs, e0⟩
    · rw [e0] at h
      dsimp only at h
      cases hk : keyOf d with
      | none => rw [hk] at h; cases h
      | some k =>
        rw [hk] at h
        cases h
        dsimp only at q
        refine .inr ⟨a, valV ks k, ey, by rw [rx.key hk]; exact DGet.k hs, ?_⟩
        rcases ra.val k with ⟨l1, l2⟩ | ⟨v, d', l1, l2, _⟩
        · rw [l2] at q; rw [l1]; exact q
        · rw [l2] at q; rw [l1]; exact q
    · rw [e0] at h; cases h
  · cases h
def inB (fa fb : Env → Res D) : Env → Res Bool := bin fa fb gIn
def ninB (fa fb : Env → Res D) : Env → Res Bool := bin fa fb gNin
theorem Ctx.u65 (c : Ctx X N sc fn) : X.A.units + 65 < cLine := Nat.lt_of_le_of_lt (Nat.add_le_add_left (by decide) _) c.un
theorem PBp.in_ (c : Ctx X N sc fn) (ha : PRp X W a fa) (hb : PRp X W b fb) (hm : behindInMarks .In b = false := by rfl) : PBp X W (.Compare a [.In] [b] pos) (inB fa fb) :=
  PBp.cmp ((op_in_seq.or (op_inD c.u65)).or (op_inK c.u1)) (fun σ F H x y d e Q le rx ry h => by
    obtain ⟨b, eb, h⟩ := ofO_ok h
    exact in_run false le rx ry eb (h.ok (Ext.refl le))) ha hb hm
theorem PBp.nin (c : Ctx X N sc fn) (ha : PRp X W a fa) (hb : PRp X W b fb) (hm : behindInMarks .NotIn b = false := by rfl) : PBp X W (.Compare a [.NotIn] [b] pos) (ninB fa fb) :=
  PBp.cmp ((op_notIn_seq.or (op_notInD c.u65)).or (op_ninK c.u1)) (fun σ F H x y d e Q le rx ry h => by
    unfold gNin gIn at h
    cases q : inA d e with
    | none => rw [q] at h; exact False.elim h
    | some b => rw [q] at h; exact in_run true le rx ry q ((show Gd W σ F H (.ok (!b)) _ from h).ok (Ext.refl le))) ha hb hm

/-! ### built-in calls -/
/-- a built-in function or type of one argument, an answer that is no new thing -/
theorem PEp.b1 {id : String} {r : List V → Hp → VK → Prop} {g : D → Res D} {x : Str} {p : Pos} (c : Ctx X N sc fn) (hc : CallR X (.builtin id) r)
    (hr : ∀ σ F H v d Q, Same F H → Rt X.K F H v d → Gd W σ F H (g d) (fun d F' H' => ∀ v, Rp X.K F' v d → Q v H') → r [v] H Q)
    (hm : X.mg x = none) (ha : PRp X W a fa) (hg : isGl sc x = true := by rfl) (hv : bootBuiltins x = some (.builtin id) := by decide +kernel) (hn : x ≠ "__name__" := by decide) (hdb : (x == ("__debug__" : Str)) = false := by decide)
    (he : starEach [a] X.env = (false, eval a X.env) :: starEach [] X.env := by rfl) : PEp X W (.Call (.Name x p) [a] [] pos) (un fa g) := by
  obtain ⟨t, pa, qa⟩ := ha
  refine ⟨_, pe_callB hc (c.gl hg) hm hv (pa_cons pa pa_nil he) hn hdb he rfl, fun C F δ σ H Q s h => ?_⟩
  refine qa C F δ σ H _ s (h.bind.mono fun d F1 H1 x1 h1 v rv => ?_)
  exact hr σ F1 H1 v d Q x1.le rv h1
theorem PEp.bT {T : String} {r : List V → Hp → VK → Prop} {g : D → Res D} {x : Str} {p : Pos} (c : Ctx X N sc fn) (hc : CallR X (.type T) r)
    (hr : ∀ σ F H v d Q, Same F H → Rt X.K F H v d → Gd W σ F H (g d) (fun d F' H' => ∀ v, Rp X.K F' v d → Q v H') → r [v] H Q)
    (hm : X.mg x = none) (ha : PRp X W a fa) (hg : isGl sc x = true := by rfl) (hv : bootBuiltins x = some (.type T) := by decide +kernel) (hn : x ≠ "__name__" := by decide) (hdb : (x == ("__debug__" : Str)) = false := by decide)
    (he : starEach [a] X.env = (false, eval a X.env) :: starEach [] X.env := by rfl) : PEp X W (.Call (.Name x p) [a] [] pos) (un fa g) := by
  obtain ⟨t, pa, qa⟩ := ha
  refine ⟨_, pe_callTy hc (c.gl hg) hm hv (pa_cons pa pa_nil he) hn hdb he rfl, fun C F δ σ H Q s h => ?_⟩
  refine qa C F δ σ H _ s (h.bind.mono fun d F1 H1 x1 h1 v rv => ?_)
  exact hr σ F1 H1 v d Q x1.le rv h1
/-- .. that makes a new list -/
theorem PFp.bT {T : String} {r : List V → Hp → VK → Prop} {g : D → Res (List D)} {x : Str} {p : Pos} (c : Ctx X N sc fn) (hc : CallR X (.type T) r)
    (hr : ∀ σ F0 H0 F H v d Q, Ext F0 H0 F H → Rt X.K F H v d → Gd W σ F0 H0 (g d) (fun ds F' H' => ∀ a vs, H0 a = none → F' a = none → H' a = some (.lst vs) → RpA X.K F' vs ds → Q (.ref a) H') → r [v] H Q)
    (hm : X.mg x = none) (ha : PRp X W a fa) (hg : isGl sc x = true := by rfl) (hv : bootBuiltins x = some (.type T) := by decide +kernel) (hn : x ≠ "__name__" := by decide) (hdb : (x == ("__debug__" : Str)) = false := by decide)
    (he : starEach [a] X.env = (false, eval a X.env) :: starEach [] X.env := by rfl) : PFp X W (.Call (.Name x p) [a] [] pos) (un fa g) := by
  obtain ⟨t, pa, qa⟩ := ha
  refine ⟨_, pe_callTy hc (c.gl hg) hm hv (pa_cons pa pa_nil he) hn hdb he rfl, fun C F δ σ H Q s h => ?_⟩
  refine qa C F δ σ H _ s ((Gd.bind2 h).mono fun d F1 H1 x1 h1 v rv => ?_)
  exact hr σ F H F1 H1 v d Q x1 rv h1
theorem PFp.b1 {id : String} {r : List V → Hp → VK → Prop} {g : D → Res (List D)} {x : Str} {p : Pos} (c : Ctx X N sc fn) (hc : CallR X (.builtin id) r)
    (hr : ∀ σ F0 H0 F H v d Q, Ext F0 H0 F H → Rt X.K F H v d → Gd W σ F0 H0 (g d) (fun ds F' H' => ∀ a vs, H0 a = none → F' a = none → H' a = some (.lst vs) → RpA X.K F' vs ds → Q (.ref a) H') → r [v] H Q)
    (hm : X.mg x = none) (ha : PRp X W a fa) (hg : isGl sc x = true := by rfl) (hv : bootBuiltins x = some (.builtin id) := by decide +kernel) (hn : x ≠ "__name__" := by decide) (hdb : (x == ("__debug__" : Str)) = false := by decide)
    (he : starEach [a] X.env = (false, eval a X.env) :: starEach [] X.env := by rfl) : PFp X W (.Call (.Name x p) [a] [] pos) (un fa g) := by
  obtain ⟨t, pa, qa⟩ := ha
  refine ⟨_, pe_callB hc (c.gl hg) hm hv (pa_cons pa pa_nil he) hn hdb he rfl, fun C F δ σ H Q s h => ?_⟩
  refine qa C F δ σ H _ s ((Gd.bind2 h).mono fun d F1 H1 x1 h1 v rv => ?_)
  exact hr σ F H F1 H1 v d Q x1 rv h1
/-- two arguments -/
theorem PEp.b2 {id : String} {r : List V → Hp → VK → Prop} {g : D → D → Res D} {x : Str} {p : Pos} (c : Ctx X N sc fn) (hc : CallR X (.builtin id) r)
    (hr : ∀ σ F H v u d e Q, Same F H → Rt X.K F H v d → Rt X.K F H u e → Gd W σ F H (g d e) (fun d F' H' => ∀ v, Rp X.K F' v d → Q v H') → r [v, u] H Q)
    (hm : X.mg x = none) (ha : PRp X W a fa) (hb : PRp X W b fb) (hg : isGl sc x = true := by rfl) (hv : bootBuiltins x = some (.builtin id) := by decide +kernel) (hn : x ≠ "__name__" := by decide) (hdb : (x == ("__debug__" : Str)) = false := by decide)
    (he : starEach [a, b] X.env = (false, eval a X.env) :: starEach [b] X.env := by rfl) (he2 : starEach [b] X.env = (false, eval b X.env) :: starEach [] X.env := by rfl) (hpl : (backTo pos (starEach [b] X.env)).any (·.1) = false := by rfl) : PEp X W (.Call (.Name x p) [a, b] [] pos) (bin fa fb g) := by
  obtain ⟨t, pa, qa⟩ := ha
  obtain ⟨u, pb, qb⟩ := hb
  refine ⟨_, pe_callB hc (c.gl hg) hm hv (pa_cons pa (pa_cons pb pa_nil he2) he) hn hdb he hpl, fun C F δ σ H Q s h => ?_⟩
  refine qa C F δ σ H _ s (h.bind.mono fun d F1 H1 x1 h1 v rv => ?_)
  refine qb C F1 δ σ H1 _ (s.ext x1) (h1.bind.mono fun e F2 H2 x2 h2 u ru => ?_)
  exact hr σ F2 H2 v u d e Q x2.le (rv.ext x2.ff x2.hh) ru h2

/-- len -/
def gLen : D → Res D
  | .list ds => .ok (.int ds.length)
  | .tuple ds => .ok (.int ds.length)
  | .dict kvs => match scrOf kvs with
    | some ds => .ok (.int ds.length)
    | none => .ok (.int kvs.length)
  | _ => .err
def lenD (f : Env → Res D) : Env → Res D := un f gLen
theorem call_lenDict : CallR X (.builtin "len") (fun xs H Q => ∃ a kvs, xs = [V.ref a] ∧ H a = some (.dK kvs) ∧ Q (.int kvs.length) H) := by
  intro pins s σ H xs us Q I r h
  obtain ⟨a, kvs, rfl, hk, q⟩ := h
  obtain ⟨u, rfl, rx⟩ := vals1 r
  obtain rfl : u = Value.ref a := rx
  exact d_len I (.inl hk) fun t s' I' => ⟨.int kvs.length, H, I', ⟨t, rfl⟩, q⟩
theorem PEp.len {p : Pos} (c : Ctx X N sc fn) (hm : X.mg "len" = none) (ha : PRp X W a fa) (hg : isGl sc "len" = true := by rfl)
    (he : starEach [a] X.env = (false, eval a X.env) :: starEach [] X.env := by rfl) : PEp X W (.Call (.Name "len" p) [a] [] pos) (lenD fa) :=
  PEp.b1 c (call_len_seq.or call_lenDict) (fun σ F H v d Q le r h => by
    cases d with
    | list ds =>
      obtain ⟨a, vs, ex, hs, ra⟩ := r
      refine .inl ⟨a, vs, by rw [ex], .inl (SqL.of hs), ?_⟩
      rw [ra.length]; exact h.ok (Ext.refl le) _ (.int _)
    | tuple ds =>
      cases (show Rp X.K F v (.tuple ds) from r) with
      | tup hs ra =>
        refine .inl ⟨_, _, rfl, .inr (Same.sqT le hs), ?_⟩
        rw [ra.length]; exact h.ok (Ext.refl le) _ (.int _)
    | dict kvs =>
      dsimp only [gLen] at h
      rcases r.dict le with ⟨a, ks, ex, hs, ra, e0⟩ | ⟨a, ns, ex, hs, e0⟩
      · rw [e0] at h
        refine .inr ⟨a, ks, by rw [ex], hs, ?_⟩
        rw [ra.length]; exact (show Gd W σ F H (.ok (PyData.int kvs.length)) _ from h).ok (Ext.refl le) _ (.int _)
      · rw [e0] at h
        refine .inl ⟨a, _, by rw [ex], .inl hs, ?_⟩
        have z := (show Gd W σ F H (.ok (PyData.int (ns.map PyData.int).length)) _ from h).ok (Ext.refl le) _ (.int _)
        rw [List.length_map] at z ⊢; exact z
    | _ => exact False.elim h) hm ha hg PySem.boot_len (by decide) (by decide) he

/-- max, min of two whole numbers -/
def gMax : D → D → Res D
  | .int i, .int j => .ok (.int (if j > i then j else i))
  | _, _ => .err
def gMin : D → D → Res D
  | .int i, .int j => .ok (.int (if j < i then j else i))
  | _, _ => .err
theorem PEp.max2 {p : Pos} (c : Ctx X N sc fn) (hm : X.mg "max" = none) (ha : PRp X W a fa) (hb : PRp X W b fb) (hg : isGl sc "max" = true := by rfl)
    (he : starEach [a, b] X.env = (false, eval a X.env) :: starEach [b] X.env := by rfl) (he2 : starEach [b] X.env = (false, eval b X.env) :: starEach [] X.env := by rfl) (hpl : (backTo pos (starEach [b] X.env)).any (·.1) = false := by rfl) :
    PEp X W (.Call (.Name "max" p) [a, b] [] pos) (bin fa fb gMax) :=
  PEp.b2 c (call_max2 c.calm) (fun σ F H v u d e Q le rv ru h => by
    unfold gMax at h
    split at h
    · rename_i i j
      exact ⟨i, j, by rw [Rt.int rv, Rt.int ru], h.ok (Ext.refl le) _ (.int _)⟩
    · exact False.elim h) hm ha hb hg (by decide +kernel) (by decide) (by decide) he he2 hpl
theorem PEp.min2 {p : Pos} (c : Ctx X N sc fn) (hm : X.mg "min" = none) (ha : PRp X W a fa) (hb : PRp X W b fb) (hg : isGl sc "min" = true := by rfl)
    (he : starEach [a, b] X.env = (false, eval a X.env) :: starEach [b] X.env := by rfl) (he2 : starEach [b] X.env = (false, eval b X.env) :: starEach [] X.env := by rfl) (hpl : (backTo pos (starEach [b] X.env)).any (·.1) = false := by rfl) :
    PEp X W (.Call (.Name "min" p) [a, b] [] pos) (bin fa fb gMin) :=
  PEp.b2 c (call_min2 c.calm) (fun σ F H v u d e Q le rv ru h => by
    unfold gMin at h
    split at h
    · rename_i i j
      exact ⟨i, j, by rw [Rt.int rv, Rt.int ru], h.ok (Ext.refl le) _ (.int _)⟩
    · exact False.elim h) hm ha hb hg (by decide +kernel) (by decide) (by decide) he he2 hpl

/-- isinstance(x, T), T a built-in class -/
def tyD : D → String
  | .none => "NoneType"
  | .bool _ => "bool"
  | .int _ => "int"
  | .str _ => "str"
  | .list _ => "list"
  | .tuple _ => "tuple"
  | .dict kvs => match scrOf kvs with
    | some _ => "list"
    | none => "dict"
theorem SqL.ty {K : PySem.W.Frag} {H : Hp} {a : Addr} {vs : List V} (h : SqL K H a vs) : TyX K H (.ref a) (.type "list") := by
  rcases h with (h | ⟨o, h⟩) | ⟨o, its, n, h1, h2, _⟩
  · exact .base (.lst h)
  · exact .base (.frz h)
  · exact .kList h1 h2
theorem SqT.ty {K : PySem.W.Frag} {H : Hp} {a : Addr} {vs : List V} (h : SqT K H a vs) : TyX K H (.ref a) (.type "tuple") := by
  rcases h with (h | ⟨o, h⟩) | ⟨o, its, n, h1, h2, _⟩
  · exact .base (.tup h)
  · exact .fTuple h
  · exact .kTuple h1 h2
theorem Rt.ty {K : PySem.W.Frag} {F H : Hp} {v : V} {d : D} (r : Rt K F H v d) (le : Same F H) : TyX K H v (.type (tyD d)) := by
  cases d with
  | none => cases (show Rp K F v .none from r); exact .base .non
  | bool b => cases (show Rp K F v (.bool b) from r); exact .base (.bl b)
  | int b => cases (show Rp K F v (.int b) from r); exact .base (.int b)
  | str b => cases (show Rp K F v (.str b) from r); exact .base (.str b)
  | tuple ds => cases (show Rp K F v (.tuple ds) from r) with | tup hs _ => exact SqT.ty (Same.sqT le hs)
  | list ds => obtain ⟨a, vs, rfl, hs, _⟩ := r; exact SqL.ty (SqL.of hs)
  | dict ds =>
    dsimp only [tyD]
    rcases r.dict le with ⟨a, ks, ex, hs, ra, e0⟩ | ⟨a, ns, ex, hs, e0⟩
    · rw [e0, ex]; exact .base (.dK hs)
    · rw [e0, ex]; exact SqL.ty hs
/-- the classes that are asked about -/
def isT : String → D → Bool
  | "int", .int _ => true
  | "int", .bool _ => true
  | "bool", .bool _ => true
  | "str", .str _ => true
  | "tuple", .tuple _ => true
  | "list", .list _ => true
  | "list", .dict kvs => (scrOf kvs).isSome
  | _, _ => false
/-- by the class's name alone -/
def isTy (T t : String) : Bool := decide (t = T) || (decide (T = "int") && decide (t = "bool"))
theorem isT_dict (T : String) (kvs : List (D × D)) : isT T (.dict kvs) = (decide (T = "list") && (scrOf kvs).isSome) := by
  by_cases h : T = "list"
  · subst h; rfl
  · rw [decide_eq_false h]
    unfold isT
    split <;> first | rfl | (exfalso; apply h; rfl) | simp_all
theorem kit_of {T : String} (h1 : kitB "NoneType" T = some (isT T .none)) (h2 : kitB "bool" T = some (isT T (.bool true))) (h3 : kitB "int" T = some (isT T (.int 0))) (h4 : kitB "str" T = some (isT T (.str ""))) (h5 : kitB "list" T = some (isT T (.list []))) (h6 : kitB "tuple" T = some (isT T (.tuple [])))
    (h7 : kitB "list" T = some (decide (T = "list"))) (h8 : kitB "dict" T = some false)
    (e2 : ∀ b, isT T (.bool b) = isT T (.bool true)) (e3 : ∀ b, isT T (.int b) = isT T (.int 0)) (e4 : ∀ b, isT T (.str b) = isT T (.str "")) (e5 : ∀ b, isT T (.list b) = isT T (.list [])) (e6 : ∀ b, isT T (.tuple b) = isT T (.tuple [])) : ∀ d, kitB (tyD d) T = some (isT T d)
  | .none => h1
  | .bool b => by rw [e2]; exact h2
  | .int b => by rw [e3]; exact h3
  | .str b => by rw [e4]; exact h4
  | .list b => by rw [e5]; exact h5
  | .tuple b => by rw [e6]; exact h6
  | .dict kvs => by
    rw [isT_dict]
    show kitB (match scrOf kvs with | some _ => "list" | none => "dict") T = _
    cases scrOf kvs with
    | none => rw [Option.isSome_none, Bool.and_false]; exact h8
    | some ds => rw [Option.isSome_some, Bool.and_true]; exact h7
theorem kit_int : ∀ d, kitB (tyD d) "int" = some (isT "int" d) := kit_of (by decide +kernel) (by decide +kernel) (by decide +kernel) (by decide +kernel) (by decide +kernel) (by decide +kernel) (by decide +kernel) (by decide +kernel) (fun _ => rfl) (fun _ => rfl) (fun _ => rfl) (fun _ => rfl) (fun _ => rfl)
theorem kit_bool : ∀ d, kitB (tyD d) "bool" = some (isT "bool" d) := kit_of (by decide +kernel) (by decide +kernel) (by decide +kernel) (by decide +kernel) (by decide +kernel) (by decide +kernel) (by decide +kernel) (by decide +kernel) (fun _ => rfl) (fun _ => rfl) (fun _ => rfl) (fun _ => rfl) (fun _ => rfl)
theorem kit_str : ∀ d, kitB (tyD d) "str" = some (isT "str" d) := kit_of (by decide +kernel) (by decide +kernel) (by decide +kernel) (by decide +kernel) (by decide +kernel) (by decide +kernel) (by decide +kernel) (by decide +kernel) (fun _ => rfl) (fun _ => rfl) (fun _ => rfl) (fun _ => rfl) (fun _ => rfl)
theorem kit_list : ∀ d, kitB (tyD d) "list" = some (isT "list" d) := kit_of (by decide +kernel) (by decide +kernel) (by decide +kernel) (by decide +kernel) (by decide +kernel) (by decide +kernel) (by decide +kernel) (by decide +kernel) (fun _ => rfl) (fun _ => rfl) (fun _ => rfl) (fun _ => rfl) (fun _ => rfl)
theorem kit_tuple : ∀ d, kitB (tyD d) "tuple" = some (isT "tuple" d) := kit_of (by decide +kernel) (by decide +kernel) (by decide +kernel) (by decide +kernel) (by decide +kernel) (by decide +kernel) (by decide +kernel) (by decide +kernel) (fun _ => rfl) (fun _ => rfl) (fun _ => rfl) (fun _ => rfl) (fun _ => rfl)
def isiB (T : String) (f : Env → Res D) : Env → Res Bool := un f fun d => .ok (isT T d)
theorem PBp.isi {T : String} {x : Str} {p p' : Pos} (c : Ctx X N sc fn) (hm : X.mg "isinstance" = none) (hmT : X.mg x = none) (ha : PRp X W a fa) (hT : ∀ d, kitB (tyD d) T = some (isT T d) := by first | exact kit_int | exact kit_bool | exact kit_tuple | exact kit_list | exact kit_str) (hg : isGl sc "isinstance" = true := by rfl) (hgT : isGl sc x = true := by rfl)
    (hv : bootBuiltins x = some (.type T) := by decide +kernel) (hn : x ≠ "__name__" := by decide) (hdb : (x == ("__debug__" : Str)) = false := by decide)
    (he : starEach [a, .Name x p'] X.env = (false, eval a X.env) :: starEach [.Name x p'] X.env := by rfl)
    (ht : ∀ whole, isTrue (.Call (.Name "isinstance" p) [a, .Name x p'] [] pos) X.env whole = (do let v ← whole; standAt pos; holding [v] (truthy v)) := by intro _; rfl) : PBp X W (.Call (.Name "isinstance" p) [a, .Name x p'] [] pos) (isiB T fa) := by
  obtain ⟨t, pa, qa⟩ := ha
  have pe := pe_callB (pos := pos) (p := p) call_isi (c.gl hg) hm (by decide +kernel) (pa_cons pa (pa_cons (pe_bltn (v := .ty T) (pos := p') (c.gl hgT) hmT hv rfl hn hdb) pa_nil rfl) he) (by decide) (by decide) he rfl
  have main : ∀ C F δ σ H Q, Sat X.K C F δ σ H → Gd W σ F H (isiB T fa δ) (fun b _ H' => Q (.bl b) H') → tCB (rIsi X.K) (tCons t (tCons (tC (.ty T)) tNil)) σ H Q := fun C F δ σ H Q s h => by
    refine qa C F δ σ H _ s (h.bind.mono fun d F1 H1 x1 h1 v rv => ?_)
    exact ⟨v, .ty T, _, _, isT T d, rfl, .ty T, rv.ty x1.le, kit_ty (hT d), h1.ok (Ext.refl x1.le)⟩
  exact ⟨⟨_, pe, main⟩, ⟨_, pt_val pe ht, fun C F δ σ H Q s h => main C F δ σ H _ s (h.mono fun b F' H' _ q => ⟨b, rfl, q⟩)⟩⟩

/-- list(x) -/
def gList : D → Res (List D)
  | .list ds => .ok ds
  | .tuple ds => .ok ds
  | .dict kvs => match scrOf kvs with
    | some ds => .ok ds
    | none => .ok (kvs.map (·.1))
  | _ => .err
def listF (f : Env → Res D) : Env → Res (List D) := un f gList
theorem PFp.list {p : Pos} (c : Ctx X N sc fn) (hm : X.mg "list" = none) (ha : PRp X W a fa) (hg : isGl sc "list" = true := by rfl)
    (he : starEach [a] X.env = (false, eval a X.env) :: starEach [] X.env := by rfl) : PFp X W (.Call (.Name "list" p) [a] [] pos) (listF fa) :=
  PFp.bT c (call_list_of.or (call_list_dK c.calm)) (fun σ F0 H0 F H v d Q x r h => by
    cases d with
    | list ds =>
      obtain ⟨a, vs, ex, hs, ra⟩ := r
      refine .inl ⟨a, vs, by rw [ex], .inl (SqL.of hs), fun l hl => ?_⟩
      exact (show Gd W σ F0 H0 (.ok ds) _ from h).ok (x.newH hl _) l vs (x.hh.free hl) (x.le.free hl) upd_same ra
    | tuple ds =>
      cases (show Rp X.K F v (.tuple ds) from r) with
      | tup hs ra =>
        refine .inl ⟨_, _, rfl, .inr (Same.sqT x.le hs), fun l hl => ?_⟩
        exact (show Gd W σ F0 H0 (.ok ds) _ from h).ok (x.newH hl _) l _ (x.hh.free hl) (x.le.free hl) upd_same ra
    | dict kvs =>
      dsimp only [gList] at h
      rcases r.dict x.le with ⟨a, ks, ex, hs, ra, e0⟩ | ⟨a, ns, ex, hs, e0⟩
      · rw [e0] at h
        refine .inr ⟨a, ks, by rw [ex], hs, fun l hl => ?_⟩
        exact (show Gd W σ F0 H0 (.ok (kvs.map (·.1))) _ from h).ok (x.newH hl _) l _ (x.hh.free hl) (x.le.free hl) upd_same ra.keys
      · rw [e0] at h
        refine .inl ⟨a, _, by rw [ex], .inl hs, fun l hl => ?_⟩
        exact (show Gd W σ F0 H0 (.ok (ns.map PyData.int)) _ from h).ok (x.newH hl _) l _ (x.hh.free hl) (x.le.free hl) upd_same (RpA.ints ns)
    | _ => exact False.elim h) hm ha hg (by decide +kernel) (by decide) (by decide) he
/-- tuple(x) -/
def gTuple : D → Res D
  | .list ds => .ok (.tuple ds)
  | .tuple ds => .ok (.tuple ds)
  | _ => .err
def tupleD (f : Env → Res D) : Env → Res D := un f gTuple
theorem PEp.tupleOf {p : Pos} (c : Ctx X N sc fn) (hm : X.mg "tuple" = none) (ha : PRp X W a fa) (hg : isGl sc "tuple" = true := by rfl)
    (he : starEach [a] X.env = (false, eval a X.env) :: starEach [] X.env := by rfl) : PEp X W (.Call (.Name "tuple" p) [a] [] pos) (tupleD fa) :=
  PEp.bT c call_tuple_of (fun σ F H v d Q le r h => by
    cases d with
    | list ds =>
      obtain ⟨a, vs, ex, hs, ra⟩ := r
      refine ⟨a, vs, by rw [ex], .inl ⟨SqL.of hs, fun l hl => ?_⟩⟩
      exact (show Gd W σ F H (.ok (PyData.tuple ds)) _ from h).ok ((Ext.refl le).newF hl _) _ (.tup (SqT.of upd_same) (RpA.mono (same_new (le.free hl) _) _ _ ra))
    | tuple ds =>
      cases (show Rp X.K F v (.tuple ds) from r) with
      | tup hs ra => exact ⟨_, _, rfl, .inr ⟨Same.sqT le hs, (show Gd W σ F H (.ok (PyData.tuple ds)) _ from h).ok (Ext.refl le) _ (.tup hs ra)⟩⟩
    | _ => exact False.elim h) hm ha hg (by decide +kernel) (by decide) (by decide) he
/-- int(x), x a truth value or an int -/
def gInt : D → Res D
  | .int i => .ok (.int i)
  | .bool b => .ok (.int (if b then 1 else 0))
  | _ => .err
theorem PEp.intOf {p : Pos} (c : Ctx X N sc fn) (hm : X.mg "int" = none) (ha : PRp X W a fa) (hg : isGl sc "int" = true := by rfl)
    (he : starEach [a] X.env = (false, eval a X.env) :: starEach [] X.env := by rfl) : PEp X W (.Call (.Name "int" p) [a] [] pos) (un fa gInt) :=
  PEp.bT c call_int1 (fun σ F H v d Q le r h => by
    cases d with
    | int i => exact .inl ⟨i, by rw [Rt.int r], (show Gd W σ F H (.ok (PyData.int i)) _ from h).ok (Ext.refl le) _ (.int i)⟩
    | bool b => exact .inr ⟨b, by rw [Rt.bool r], (show Gd W σ F H (.ok (PyData.int (if b then 1 else 0))) _ from h).ok (Ext.refl le) _ (.int _)⟩
    | _ => exact False.elim h) hm ha hg (by decide +kernel) (by decide) (by decide) he
/-- sum(xs) of whole numbers -/
def intsOf : List D → Option (List Int)
  | [] => some []
  | .int i :: r => (intsOf r).map (i :: ·)
  | _ :: _ => none
theorem intsOf_map : ∀ {ds : List D} {ns : List Int}, intsOf ds = some ns → ds = ns.map PyData.int
  | [], ns, h => by cases h; rfl
  | .int i :: r, ns, h => by
    unfold intsOf at h
    cases q : intsOf r with
    | none => rw [q] at h; cases h
    | some ms => rw [q] at h; cases h; rw [List.map_cons, intsOf_map q]
  | .none :: _, _, h => by cases h
  | .bool _ :: _, _, h => by cases h
  | .str _ :: _, _, h => by cases h
  | .list _ :: _, _, h => by cases h
  | .tuple _ :: _, _, h => by cases h
  | .dict _ :: _, _, h => by cases h
theorem intsOf_int (ns : List Int) : intsOf (ns.map PyData.int) = some ns := by
  induction ns with
  | nil => rfl
  | cons n ns ih => rw [List.map_cons]; unfold intsOf; rw [ih]; rfl
theorem RpA.vints {K : PySem.W.Frag} {F : Hp} : ∀ {vs : List V} {ns : List Int}, RpA K F vs (ns.map PyData.int) → vs = ns.map V.int
  | _, [], h => by cases h; rfl
  | _, n :: ns, h => by
    cases h with
    | cons r t => cases r; rw [List.map_cons, RpA.vints t]
def gSum : D → Res D
  | .list ds => (ofO (intsOf ds)).bind fun ns => .ok (.int ns.sum)
  | _ => .err
theorem PEp.sum {p : Pos} (c : Ctx X N sc fn) (hm : X.mg "sum" = none) (ha : PRp X W a fa) (hg : isGl sc "sum" = true := by rfl)
    (he : starEach [a] X.env = (false, eval a X.env) :: starEach [] X.env := by rfl) : PEp X W (.Call (.Name "sum" p) [a] [] pos) (un fa gSum) :=
  PEp.b1 c (cr_sum c.calm) (fun σ F H v d Q le r h => by
    cases d with
    | list ds =>
      obtain ⟨a, vs, ex, hs, ra⟩ := r
      dsimp only [gSum] at h
      cases q : intsOf ds with
      | none => rw [q] at h; exact False.elim h
      | some ns =>
        rw [q] at h
        rw [intsOf_map q] at ra
        rw [ra.vints] at hs
        exact ⟨a, ns, by rw [ex], SqL.of hs, (show Gd W σ F H (.ok (PyData.int ns.sum)) _ from h).ok (Ext.refl le) _ (.int _)⟩
    | _ => exact False.elim h) hm ha hg (by decide +kernel) (by decide) (by decide) he

/-! ### lists put together -/
def catF (fa fb : Env → Res D) : Env → Res (List D) := fun δ => (fa δ).bind fun x => (fb δ).bind fun y => (ofLst x).bind fun xs => (ofLst y).bind fun ys => szL (xs ++ ys)
theorem PFp.cat (ha : PRp X W a fa) (hb : PRp X W b fb) : PFp X W (.BinOp a .Add b pos) (catF fa fb) := by
  obtain ⟨ta, pa, qa⟩ := ha
  obtain ⟨tb, pb, qb⟩ := hb
  refine ⟨_, pe_op op_cat pa pb, fun C F δ σ H Q s h => ?_⟩
  refine qa C F δ σ H _ s ((Gd.bind2 h).mono fun d F1 H1 x1 h1 x rx => ?_)
  refine qb C F1 δ σ H1 _ (s.ext x1) (((h1.bind2).ext x1).mono fun e F2 H2 x2 h2 y ry => ?_)
  have x12 := x1.trans x2
  cases d with
  | list ds =>
    cases e with
    | list es =>
      obtain ⟨l, vs, ex, hs, ra⟩ := rx.ext x2.ff x2.hh
      obtain ⟨l2, ws, ey, hs2, ra2⟩ := ry
      obtain ⟨z, h3⟩ := Gd.szL (show Gd W σ F H (szL (ds ++ es)) _ from h2)
      refine ⟨l, l2, vs, ws, ex, ey, hs, hs2, by rw [← List.length_append, (ra.append ra2).length]; exact z, fun p hp => ?_⟩
      exact h3.ok (x12.newH hp _) p _ (x12.hh.free hp) (x12.le.free hp) upd_same (ra.append ra2)
    | _ => exact False.elim h2
  | _ => exact False.elim h2
end
end
end DL
/-! DL3: calls of own defs, comprehensions, statements. -/
namespace DL
open PySem PySem.Spec PyProof.Rows L2
variable [TabP]

/-! ### what a def promises -/
def spF (K : PySem.W.Frag) (mg : Str → Option Value) (n : Nat) (φ : List D → Res D) : Sp := fun vs H Q E => ∃ F ds, Same F H ∧ TF F H ∧ RpA K F vs ds ∧ ds.length = n ∧ match φ ds with
  | .ok d => ∀ F' H', Ext F H F' H' → ∀ v, Rp K F' v d → Q v H'
  | .exc c => ∀ F' H' A, Ext F H F' H' → mg c = some (.ref A) → E (.ref A) none H'
  | .err => False
/-- .. of a def that hands back a new list -/
def spN (K : PySem.W.Frag) (mg : Str → Option Value) (n : Nat) (φ : List D → Res (List D)) : Sp := fun vs H Q E => ∃ F ds, Same F H ∧ TF F H ∧ RpA K F vs ds ∧ ds.length = n ∧ match φ ds with
  | .ok es => ∀ F' H', Ext F H F' H' → ∀ a ws, H a = none → F' a = none → H' a = some (.lst ws) → RpA K F' ws es → Q (.ref a) H'
  | .exc c => ∀ F' H' A, Ext F H F' H' → mg c = some (.ref A) → E (.ref A) none H'
  | .err => False
def asL (φ : List D → Res (List D)) : List D → Res D := fun ds => (φ ds).bind fun es => .ok (.list es)
theorem spN_of {K : PySem.W.Frag} {mg : Str → Option Value} {n : Nat} {φ : List D → Res (List D)} {vs : List V} {H : Hp} {Q : VK} {E : XK} (h : spF K mg n (asL φ) vs H Q E) : spN K mg n φ vs H Q E := by
  obtain ⟨F, ds, h1, h0, h2, h3, h4⟩ := h
  refine ⟨F, ds, h1, h0, h2, h3, ?_⟩
  unfold asL at h4
  cases q : φ ds with
  | ok es =>
    rw [q] at h4
    intro F' H' x a ws e1 e2 e3 e4
    exact h4 _ _ (x.frz e1 e2 e3) _ (.lst upd_same (RpA.mono (same_new e2 _) _ _ e4))
  | exc c => rw [q] at h4; exact h4
  | err => rw [q] at h4; exact h4

/-- a def that may be called: its promise, room for it, its name -/
structure Cal (P : Program) (w : World) (K : PySem.W.Frag) (mg : Str → Option Value) (base : Heap) (A : Around) (CX : CXT) (x : Str) (sp : Sp) : Prop where
  ex : ∃ f fd ps k, FnOk P w K mg base CX k f fd ps sp ∧ Room k A ∧ mg x = some (.ref f) ∧ PySem.W.keepIn K (.ref f) = true ∧ Binds K fd ps []
theorem Cal.imp {P : Program} {w : World} {K : PySem.W.Frag} {mg : Str → Option Value} {base : Heap} {A : Around} {CX : CXT} {x : Str} {sp sp' : Sp} (c : Cal P w K mg base A CX x sp) (h : ∀ vs H Q E, sp' vs H Q E → sp vs H Q E) : Cal P w K mg base A CX x sp' := by
  obtain ⟨f, fd, ps, k, F, r, m, kp, b⟩ := c.ex
  exact ⟨f, fd, ps, k, F.imp h, r, m, kp, b⟩
theorem Cal.val {P : Program} {w : World} {K : PySem.W.Frag} {mg : Str → Option Value} {base : Heap} {A : Around} {CX : CXT} {x : Str} {n : Nat} {φ : List D → Res (List D)} (c : Cal P w K mg base A CX x (spN K mg n φ)) : Cal P w K mg base A CX x (spF K mg n (asL φ)) :=
  c.imp fun _ _ _ _ h => spN_of h
def noX {α : Type} : Res α → Res α
  | .ok a => .ok a
  | _ => .err
@[simp] theorem noX_ok {α : Type} (a : α) : noX (.ok a) = .ok a := rfl

section
variable {X : Cx} {N : List Str} {sc : Scope} {fn : Str → Bool} {W : WS}
/-- what the body wishes of own exceptions is what W says -/
def Tk (X : Cx) (W : WS) : Prop := Takes X (fun cls d σ H => d = none ∧ ∃ c, X.mg c = some cls ∧ W c σ H)
theorem tk0 : Tk X W0 := takes0.imp fun c d σ H ⟨_, _, _, h⟩ => h

def ln {α : Type} (n : Nat) (ds : List D) (r : Res α) : Res α := if ds.length = n then r else .err
theorem Gd.ln {α : Type} {σ : L2.St} {F H : Hp} {n : Nat} {ds : List D} {r : Res α} {P : α → Hp → Hp → Prop} (h : Gd W σ F H (ln n ds r) P) : ds.length = n ∧ Gd W σ F H r P := by
  unfold DL.ln at h
  split at h
  · exact ⟨by assumption, h⟩
  · exact False.elim h
def callD (n : Nat) (φ : List D → Res D) (fs : Env → Res (List D)) : Env → Res D := fun δ => (fs δ).bind fun ds => ln n ds (noX (φ ds))
def callF (n : Nat) (φ : List D → Res (List D)) (fs : Env → Res (List D)) : Env → Res (List D) := fun δ => (fs δ).bind fun ds => ln n ds (noX (φ ds))
def callX (n : Nat) (φ : List D → Res D) (fs : Env → Res (List D)) : Env → Res D := fun δ => (fs δ).bind fun ds => ln n ds (φ ds)
section
variable {e : Expr} {es : List Expr} {fs : Env → Res (List D)} {x : Str} {p pos : Pos} {n : Nat}
/-- a def that raises nothing -/
theorem PEp.call {φ : List D → Res D} (c : Ctx X N sc fn) (h : Cal X.prog X.w X.K X.mg X.base X.A CX0 x (spF X.K X.mg n φ)) (ha : PAp X W (e :: es) fs) (hg : isGl sc x = true := by rfl) (hdb : (x == ("__debug__" : Str)) = false := by decide)
    (he : starEach (e :: es) X.env = (false, eval e X.env) :: starEach es X.env := by rfl) (hpl : (backTo pos (starEach es X.env)).any (·.1) = false := by rfl) : PEp X W (.Call (.Name x p) (e :: es) [] pos) (callD n φ fs) := by
  obtain ⟨f, fd, ps, k, F, r, m, kp, b⟩ := h.ex
  obtain ⟨t, pa, qa⟩ := ha
  refine ⟨_, pe_call F r (c.gl hg) m kp b .nil pass0 pa hdb he hpl, fun C F δ σ H Q s h => ?_⟩
  refine qa C F δ σ H _ s ((Gd.bind h).mono fun ds F1 H1 x1 h1 vs rv => ?_)
  obtain ⟨hl, h1⟩ := Gd.ln h1
  refine ⟨F1, ds, x1.le, (s.ext x1).tf, by rw [List.append_nil]; exact rv, hl, ?_⟩
  cases q : φ ds with
  | ok d => rw [q] at h1; exact fun F' H' x2 v r2 => h1 F' H' x2 v r2
  | exc c => rw [q] at h1; exact False.elim h1
  | err => rw [q] at h1; exact False.elim h1
theorem PFp.call {φ : List D → Res (List D)} (c : Ctx X N sc fn) (h : Cal X.prog X.w X.K X.mg X.base X.A CX0 x (spN X.K X.mg n φ)) (ha : PAp X W (e :: es) fs) (hg : isGl sc x = true := by rfl) (hdb : (x == ("__debug__" : Str)) = false := by decide)
    (he : starEach (e :: es) X.env = (false, eval e X.env) :: starEach es X.env := by rfl) (hpl : (backTo pos (starEach es X.env)).any (·.1) = false := by rfl) : PFp X W (.Call (.Name x p) (e :: es) [] pos) (callF n φ fs) := by
  obtain ⟨f, fd, ps, k, F, r, m, kp, b⟩ := h.ex
  obtain ⟨t, pa, qa⟩ := ha
  refine ⟨_, pe_call F r (c.gl hg) m kp b .nil pass0 pa hdb he hpl, fun C F δ σ H Q s h => ?_⟩
  refine qa C F δ σ H _ s ((Gd.bind2 h).mono fun ds F1 H1 x1 h1 vs rv => ?_)
  obtain ⟨hl, h1⟩ := Gd.ln h1
  refine ⟨F1, ds, x1.le, (s.ext x1).tf, by rw [List.append_nil]; exact rv, hl, ?_⟩
  cases q : φ ds with
  | ok d => rw [q] at h1; exact fun F' H' x2 a ws e1 e2 e3 e4 => h1 F' H' (x1.trans x2) a ws (x1.hh.free e1) e2 e3 e4
  | exc c => rw [q] at h1; exact False.elim h1
  | err => rw [q] at h1; exact False.elim h1
/-- a def that may raise -/
theorem PEp.callX {φ : List D → Res D} (c : Ctx X N sc fn) (tk : Tk X W) (h : Cal X.prog X.w X.K X.mg X.base X.A (L2.CX X.prog X.w) x (spF X.K X.mg n φ)) (ha : PAp X W (e :: es) fs) (hg : isGl sc x = true := by rfl) (hdb : (x == ("__debug__" : Str)) = false := by decide)
    (he : starEach (e :: es) X.env = (false, eval e X.env) :: starEach es X.env := by rfl) (hpl : (backTo pos (starEach es X.env)).any (·.1) = false := by rfl) : PEp X W (.Call (.Name x p) (e :: es) [] pos) (callX n φ fs) := by
  obtain ⟨f, fd, ps, k, F, r, m, kp, b⟩ := h.ex
  obtain ⟨t, pa, qa⟩ := ha
  refine ⟨_, pe_callSD F r (c.gl hg) m kp b .nil (fun σ => passAt tk σ) pa hdb he hpl, fun C F δ σ H Q s h => ?_⟩
  refine qa C F δ σ H _ s ((Gd.bind h).mono fun ds F1 H1 x1 h1 vs rv => ?_)
  obtain ⟨hl, h1⟩ := Gd.ln h1
  refine ⟨F1, ds, x1.le, (s.ext x1).tf, by rw [List.append_nil]; exact rv, hl, ?_⟩
  cases q : φ ds with
  | ok d => rw [q] at h1; exact fun F' H' x2 v r2 => h1 F' H' x2 v r2
  | exc c => rw [q] at h1; exact fun F' H' A x2 em => ⟨rfl, c, em, h1 F' H' x2⟩
  | err => rw [q] at h1; exact False.elim h1
end

/-! ### what is gone through -/
/-- J goes through things that show the data ds -/
def Wk (K : PySem.W.Frag) (F : Hp) (J : It) (ds : List D) : Prop := ∀ (i : Nat) (F1 H1 : Hp), Same F F1 → Same F1 H1 → (ds.length ≤ i → J.stop i H1) ∧ ∀ d, ds[i]? = some d → J.go i H1 ∧ ∀ x H', J.yld i H1 x H' → ∃ F', Ext F1 H1 F' H' ∧ Rp K F' x d
def PIp (X : Cx) (W : WS) (tg iter : Expr) (f : Env → Res (List D)) : Prop := ∃ wi, PI X tg iter wi ∧ ∀ C F δ σ H R, Sat X.K C F δ σ H → Gd W σ F H (f δ) (fun ds F' H' => ∀ J, Wk X.K F' J ds → R J H') → wi σ H R
/-- .. in a comprehension, within which all that is tracked stays: over a list of one's own too -/
def WkH (K : PySem.W.Frag) (F H : Hp) (J : It) (ds : List D) : Prop := ∀ (i : Nat) (F1 H1 : Hp), Same F F1 → Same F1 H1 → SameN H H1 → (ds.length ≤ i → J.stop i H1) ∧ ∀ d, ds[i]? = some d → J.go i H1 ∧ ∀ x H', J.yld i H1 x H' → ∃ F', Ext F1 H1 F' H' ∧ Rp K F' x d
def PIh (X : Cx) (W : WS) (tg iter : Expr) (f : Env → Res (List D)) : Prop := ∃ wi, PI X tg iter wi ∧ ∀ C F δ σ H R, Sat X.K C F δ σ H → Gd W σ F H (f δ) (fun ds F' H' => ∀ J, WkH X.K F' H' J ds → R J H') → wi σ H R
theorem PIp.h {tg iter : Expr} {f : Env → Res (List D)} (h : PIp X W tg iter f) : PIh X W tg iter f := by
  obtain ⟨wi, p, q⟩ := h
  exact ⟨wi, p, fun C F δ σ H R s g => q C F δ σ H R s (g.mono fun ds F' H' x k J w => k J fun i F1 H1 e1 e2 _ => w i F1 H1 e1 e2)⟩
theorem wk_list {K : PySem.W.Frag} {F : Hp} {a : Addr} {vs : List V} {ds : List D} (hs : F a = some (.lst vs)) (ra : RpA K F vs ds) : Wk K F (Itl K a) ds := fun i F1 H1 e1 e2 => by
  have h1 : SqL K H1 a vs := SqL.of (e2 _ _ (e1 _ _ hs))
  refine ⟨fun h => ⟨vs, h1, by rw [ra.length]; exact h⟩, fun d hd => ?_⟩
  obtain ⟨v, hv, rv⟩ := ra.get hd
  refine ⟨⟨vs, v, h1, hv⟩, fun x H' ⟨eH, y⟩ => ⟨F1, by rw [eH]; exact Ext.refl e2, ?_⟩⟩
  have e := y vs h1
  rw [hv] at e
  cases e
  exact Rp.mono e1 _ _ rv
theorem wkh_list {K : PySem.W.Frag} {F H : Hp} {a : Addr} {vs : List V} {ds : List D} (hs : SqL K H a vs) (ra : RpA K F vs ds) : WkH K F H (Itl K a) ds := fun i F1 H1 e1 e2 e3 => by
  have h1 : SqL K H1 a vs := e3.seq hs
  refine ⟨fun h => ⟨vs, h1, by rw [ra.length]; exact h⟩, fun d hd => ?_⟩
  obtain ⟨v, hv, rv⟩ := ra.get hd
  refine ⟨⟨vs, v, h1, hv⟩, fun x H' ⟨eH, y⟩ => ⟨F1, by rw [eH]; exact Ext.refl e2, ?_⟩⟩
  have e := y vs h1
  rw [hv] at e
  cases e
  exact Rp.mono e1 _ _ rv
theorem wk_tup {K : PySem.W.Frag} {F : Hp} {a : Addr} {vs : List V} {ds : List D} (hs : SqT K F a vs) (ra : RpA K F vs ds) : Wk K F (Itt K a) ds := fun i F1 H1 e1 e2 => by
  have h1 : SqT K H1 a vs := Same.sqT e2 (Same.sqT e1 hs)
  refine ⟨fun h => ⟨vs, h1, by rw [ra.length]; exact h⟩, fun d hd => ?_⟩
  obtain ⟨v, hv, rv⟩ := ra.get hd
  refine ⟨⟨vs, v, h1, hv⟩, fun x H' ⟨eH, y⟩ => ⟨F1, by rw [eH]; exact Ext.refl e2, ?_⟩⟩
  have e := y vs h1
  rw [hv] at e
  cases e
  exact Rp.mono e1 _ _ rv
/-- a list or a tuple -/
def iSeq (K : PySem.W.Frag) (tl : TE) : TI := fun σ H R => tl σ H fun x H1 => (∃ a, x = .ref a ∧ (∃ xs, SqL K H1 a xs) ∧ R (Itl K a) H1) ∨ ∃ a, x = .ref a ∧ (∃ xs, SqT K H1 a xs) ∧ R (Itt K a) H1
theorem pi_seq {tg l : Expr} {tl : TE} (hl : PE X l tl) : PI X tg l (iSeq X.K tl) := by
  refine ⟨fun pins s σ H R I h => ?_⟩
  refine thn (hl.run pins s σ H _ I h) fun v s1 ⟨x, H1, I1, r1, q1⟩ => ?_
  rcases q1 with ⟨a, e, ⟨xs, hq⟩, q⟩ | ⟨a, e, ⟨xs, hq⟩, q⟩
  · subst e
    obtain rfl : v = Value.ref a := r1
    obtain ⟨its, rv, p, hz⟩ := I1.list hq
    refine wpAny_pyIter_list p.isList ?_
    refine ⟨s1.heap.objs.size, [s1.heap.objs.size], _, _, H1, rfl, I1.kept (t' := s1.toks) fun b o e => Heap.get?_push_of_some _ e, turn_list a _, ⟨_, Heap.get?_push_size _ rfl, rfl, rfl⟩, fun b hb => ?_, q⟩
    obtain rfl : b = s1.heap.objs.size := by simpa using hb
    exact I1.fpOk (Nat.le_refl _) (I1.hok.fresh (Nat.le_refl _))
  · subst e
    obtain rfl : v = Value.ref a := r1
    obtain ⟨its, rv, p, hz⟩ := I1.tuple hq
    refine wpAny_pyIter_tuple (show s1.heap.IsTuple a its.toArray from p) ?_
    refine ⟨s1.heap.objs.size, [s1.heap.objs.size], _, _, H1, rfl, I1.kept (t' := s1.toks) fun b o e => Heap.get?_push_of_some _ e, turn_tuple a _, ⟨_, Heap.get?_push_size _ rfl, rfl, rfl⟩, fun b hb => ?_, q⟩
    obtain rfl : b = s1.heap.objs.size := by simpa using hb
    exact I1.fpOk (Nat.le_refl _) (I1.hok.fresh (Nat.le_refl _))
/-- what is gone through, of a list or a tuple -/
def gSeq : D → Res (List D)
  | .list ds => .ok ds
  | .tuple ds => .ok ds
  | _ => .err
def seqI (f : Env → Res D) : Env → Res (List D) := un f gSeq
theorem PIp.seq {tg e : Expr} {f : Env → Res D} (h : PEp X W e f) : PIp X W tg e (seqI f) := by
  obtain ⟨t, p, q⟩ := h
  refine ⟨_, pi_seq p, fun C F δ σ H R s g => ?_⟩
  refine q C F δ σ H _ s ((Gd.bind g).mono fun d F1 H1 x1 h1 v rv => ?_)
  cases d with
  | list ds =>
    cases rv with
    | lst hs ra => exact .inl ⟨_, rfl, ⟨_, SqL.of (x1.le _ _ hs)⟩, (show Gd W σ F1 H1 (.ok ds) _ from h1).ok (Ext.refl x1.le) _ (wk_list hs ra)⟩
  | tuple ds =>
    cases rv with
    | tup hs ra => exact .inr ⟨_, rfl, ⟨_, Same.sqT x1.le hs⟩, (show Gd W σ F1 H1 (.ok ds) _ from h1).ok (Ext.refl x1.le) _ (wk_tup hs ra)⟩
  | _ => exact False.elim h1
theorem PIh.seq {tg e : Expr} {f : Env → Res D} (h : PRp X W e f) : PIh X W tg e (seqI f) := by
  obtain ⟨t, p, q⟩ := h
  refine ⟨_, pi_seq p, fun C F δ σ H R s g => ?_⟩
  refine q C F δ σ H _ s ((Gd.bind g).mono fun d F1 H1 x1 h1 v rv => ?_)
  cases d with
  | list ds =>
    obtain ⟨a, vs, ex, hs, ra⟩ := rv
    exact .inl ⟨a, ex, ⟨_, SqL.of hs⟩, (show Gd W σ F1 H1 (.ok ds) _ from h1).ok (Ext.refl x1.le) _ (wkh_list (SqL.of hs) ra)⟩
  | tuple ds =>
    cases (show Rp X.K F1 v (.tuple ds) from rv) with
    | tup hs ra => exact .inr ⟨_, rfl, ⟨_, Same.sqT x1.le hs⟩, (show Gd W σ F1 H1 (.ok ds) _ from h1).ok (Ext.refl x1.le) _ fun i F2 H2 e1 e2 _ => wk_tup hs ra i F2 H2 e1 e2⟩
  | _ => exact False.elim h1
/-- a list of the law's own script too -/
def seqIs (f : Env → Res D) : Env → Res (List D) := un f gLst
theorem PIh.scr {tg e : Expr} {f : Env → Res D} (h : PRp X W e f) : PIh X W tg e (seqIs f) := by
  obtain ⟨t, p, q⟩ := h
  refine ⟨_, pi_seq p, fun C F δ σ H R s g => ?_⟩
  refine q C F δ σ H _ s ((Gd.bind g).mono fun d F1 H1 x1 h1 v rv => ?_)
  cases d with
  | list ds =>
    obtain ⟨a, vs, ex, hs, ra⟩ := rv
    exact .inl ⟨a, ex, ⟨_, SqL.of hs⟩, (show Gd W σ F1 H1 (.ok ds) _ from h1).ok (Ext.refl x1.le) _ (wkh_list (SqL.of hs) ra)⟩
  | dict kvs =>
    dsimp only [gLst] at h1
    rcases rv.dict x1.le with ⟨p, ks, ex, hs, ra, e0⟩ | ⟨p, ns, ex, hs, e0⟩
    · rw [e0] at h1; exact False.elim h1
    · rw [e0] at h1
      exact .inl ⟨p, ex, ⟨_, hs⟩, (show Gd W σ F1 H1 (.ok (ns.map PyData.int)) _ from h1).ok (Ext.refl x1.le) _ (wkh_list hs (RpA.ints ns))⟩
  | _ => exact False.elim h1
def rgL (lo : Int) (n : Nat) : List D := (List.range n).map fun i => PyData.int (lo + (i : Nat))
theorem wk_rng {K : PySem.W.Frag} {F : Hp} {lo : Int} {n : Nat} : Wk K F (Itr lo n) (rgL lo n) := fun i F1 H1 e1 e2 => by
  refine ⟨fun h => by unfold rgL at h; rw [List.length_map, List.length_range] at h; exact h, fun d hd => ?_⟩
  unfold rgL at hd
  rw [List.getElem?_map] at hd
  have hi : i < n := by
    cases q : (List.range n)[i]? with
    | none => rw [q] at hd; cases hd
    | some j => exact List.length_range (n := n) ▸ (List.getElem?_eq_some_iff.mp q).1
  rw [List.getElem?_range hi] at hd
  cases hd
  exact ⟨hi, fun x H' ⟨eH, ex⟩ => ⟨F1, by rw [eH]; exact Ext.refl e2, by rw [ex]; exact .int _⟩⟩
def smI (i : Int) : Bool := decide (-1000000000 ≤ i) && decide (i ≤ 1000000000)
def gR1 : D → Res (List D)
  | .int j => if smI j = true then .ok (rgL 0 j.toNat) else .err
  | _ => .err
def gR2 : D → D → Res (List D)
  | .int i, .int j => if smI i = true ∧ smI j = true then .ok (rgL i (j - i).toNat) else .err
  | _, _ => .err
def rngI (f : Env → Res D) : Env → Res (List D) := un f gR1
def rngI2 (f g : Env → Res D) : Env → Res (List D) := bin f g gR2
theorem smI_of {i : Int} (h : smI i = true) : -1000000000 ≤ i ∧ i ≤ 1000000000 := by
  unfold smI at h
  rw [Bool.and_eq_true] at h
  exact ⟨of_decide_eq_true h.1, of_decide_eq_true h.2⟩
theorem PIp.range {tg e : Expr} {f : Env → Res D} {p pos : Pos} (c : Ctx X N sc fn) (hm : X.mg "range" = none) (h : PRp X W e f) (hg : isGl sc "range" = true := by rfl) (he : starEach [e] X.env = [(false, eval e X.env)] := by rfl) : PIp X W tg (.Call (.Name "range" p) [e] [] pos) (rngI f) := by
  obtain ⟨t, pe, q⟩ := h
  refine ⟨_, pi_range1 (c.gl hg) hm (pa_cons pe pa_nil he) he, fun C F δ σ H R s g => ?_⟩
  refine q C F δ σ H _ s ((Gd.bind g).mono fun d F1 H1 x1 h1 v rv => ?_)
  cases d with
  | int j =>
    dsimp only [gR1] at h1
    split at h1
    · rename_i k
      obtain ⟨k1, k2⟩ := smI_of k
      have e1 : (1000000000 : Int) < 2 ^ 62 := by decide
      refine ⟨j, by rw [Rt.int rv], by omega, by omega, h1.ok (Ext.refl x1.le) _ ?_⟩
      exact wk_rng
    · exact False.elim h1
  | _ => exact False.elim h1
theorem PIp.range2 {tg e e2 : Expr} {f f2 : Env → Res D} {p pos : Pos} (c : Ctx X N sc fn) (hm : X.mg "range" = none) (h : PRp X W e f) (h2 : PRp X W e2 f2) (hg : isGl sc "range" = true := by rfl) (he : starEach [e, e2] X.env = [(false, eval e X.env), (false, eval e2 X.env)] := by rfl)
    (he2 : starEach [e2] X.env = [(false, eval e2 X.env)] := by rfl) : PIp X W tg (.Call (.Name "range" p) [e, e2] [] pos) (rngI2 f f2) := by
  obtain ⟨t, pe, q⟩ := h
  obtain ⟨t2, pe2, q2⟩ := h2
  refine ⟨_, pi_range2 (c.gl hg) hm (pa_cons pe (pa_cons pe2 pa_nil he2) (by rw [he, he2])) he he2, fun C F δ σ H R s g => ?_⟩
  refine q C F δ σ H _ s ((Gd.bind g).mono fun d F1 H1 x1 h1 v rv => ?_)
  refine q2 C F1 δ σ H1 _ (s.ext x1) ((Gd.bind h1).mono fun d2 F2 H2 x2 h3 v2 rv2 => ?_)
  unfold gR2 at h3
  split at h3
  · rename_i i j
    split at h3
    · rename_i k
      obtain ⟨k1, k2⟩ := smI_of k.1
      obtain ⟨k3, k4⟩ := smI_of k.2
      have e1 : (1000000000 : Int) < 2 ^ 62 := by decide
      refine ⟨i, j, by rw [Rt.int rv, Rt.int rv2], ⟨by omega, by omega, by omega, by omega⟩, h3.ok (Ext.refl x2.le) _ ?_⟩
      exact wk_rng
    · exact False.elim h3
  · exact False.elim h3
/-- enumerate(xs) -/
def enL : Nat → List D → List D
  | _, [] => []
  | i, d :: ds => .tuple [.int (i : Nat), d] :: enL (i + 1) ds
theorem enL_get : ∀ (ds : List D) (k i : Nat) (d : D), (enL k ds)[i]? = some d → ∃ e, ds[i]? = some e ∧ d = .tuple [.int ((k + i : Nat) : Int), e]
  | [], _, _, _, h => by cases h
  | e :: ds, k, 0, d, h => by cases h; exact ⟨e, rfl, rfl⟩
  | e :: ds, k, i + 1, d, h => by
    obtain ⟨e', h1, h2⟩ := enL_get ds (k + 1) i d h
    refine ⟨e', h1, ?_⟩
    rw [h2, show k + 1 + i = k + (i + 1) by omega]
theorem enL_length : ∀ (ds : List D) (k : Nat), (enL k ds).length = ds.length
  | [], _ => rfl
  | d :: ds, k => by show (enL (k + 1) ds).length + 1 = ds.length + 1; rw [enL_length ds]
theorem wkh_enum {K : PySem.W.Frag} {F H : Hp} {a : Addr} {vs : List V} {ds : List D} (hs : SqL K H a vs) (ra : RpA K F vs ds) : WkH K F H (Ite K a) (enL 0 ds) := fun i F1 H1 e1 e2 e3 => by
  have h1 : SqL K H1 a vs := e3.seq hs
  refine ⟨fun h => ⟨vs, h1, by rw [ra.length, ← enL_length ds 0]; exact h⟩, fun d hd => ?_⟩
  obtain ⟨e, he, ed⟩ := enL_get ds 0 i d hd
  obtain ⟨v, hv, rv⟩ := ra.get he
  refine ⟨⟨vs, v, h1, hv⟩, fun x H' ⟨T, y, ex, hT, eH, hy⟩ => ?_⟩
  have e := hy vs h1
  rw [hv] at e
  cases e
  refine ⟨upd F1 T (.tup [.int (i : Nat), v]), by rw [eH]; exact (Ext.refl e2).newF hT _, ?_⟩
  rw [ex, ed]
  refine .tup (SqT.of upd_same) (.cons ?_ (.one (Rp.mono (e1.trans (same_new (e2.free hT) _)) _ _ rv)))
  rw [Nat.zero_add]
  exact .int _
theorem wk_enum {K : PySem.W.Frag} {F : Hp} {a : Addr} {vs : List V} {ds : List D} (hs : F a = some (.lst vs)) (ra : RpA K F vs ds) : Wk K F (Ite K a) (enL 0 ds) := fun i F1 H1 e1 e2 =>
  wkh_enum (H := F) (SqL.of hs) ra i F1 H1 e1 e2 (Same.n (e1.trans e2))
def gEn : D → Res (List D)
  | .list ds => .ok (enL 0 ds)
  | _ => .err
def enI (f : Env → Res D) : Env → Res (List D) := un f gEn
theorem PIp.enum {elts : List Expr} {kk : Nat} {tpos : Pos} {e : Expr} {f : Env → Res D} {p pos : Pos} (c : Ctx X N sc fn) (hm : X.mg "enumerate" = none) (h : PEp X W e f) (hg : isGl sc "enumerate" = true := by rfl) (he : starEach [e] X.env = [(false, eval e X.env)] := by rfl) :
    PIp X W (.Tuple elts kk tpos) (.Call (.Name "enumerate" p) [e] [] pos) (enI f) := by
  obtain ⟨t, pe, q⟩ := h
  refine ⟨_, pi_enum (c.gl hg) hm (pa_cons pe pa_nil he) he, fun C F δ σ H R s g => ?_⟩
  refine q C F δ σ H _ s ((Gd.bind g).mono fun d F1 H1 x1 h1 v rv => ?_)
  cases d with
  | list ds =>
    cases rv with
    | lst hs ra => exact ⟨_, _, rfl, SqL.of (x1.le _ _ hs), (show Gd W σ F1 H1 (.ok (enL 0 ds)) _ from h1).ok (Ext.refl x1.le) _ (wk_enum hs ra)⟩
  | _ => exact False.elim h1
theorem PIh.enum {elts : List Expr} {kk : Nat} {tpos : Pos} {e : Expr} {f : Env → Res D} {p pos : Pos} (c : Ctx X N sc fn) (hm : X.mg "enumerate" = none) (h : PRp X W e f) (hg : isGl sc "enumerate" = true := by rfl) (he : starEach [e] X.env = [(false, eval e X.env)] := by rfl) :
    PIh X W (.Tuple elts kk tpos) (.Call (.Name "enumerate" p) [e] [] pos) (enI f) := by
  obtain ⟨t, pe, q⟩ := h
  refine ⟨_, pi_enum (c.gl hg) hm (pa_cons pe pa_nil he) he, fun C F δ σ H R s g => ?_⟩
  refine q C F δ σ H _ s ((Gd.bind g).mono fun d F1 H1 x1 h1 v rv => ?_)
  cases d with
  | list ds =>
    obtain ⟨a, vs, ex, hs, ra⟩ := rv
    exact ⟨a, _, by rw [ex], SqL.of hs, (show Gd W σ F1 H1 (.ok (enL 0 ds)) _ from h1).ok (Ext.refl x1.le) _ (wkh_enum (SqL.of hs) ra)⟩
  | _ => exact False.elim h1
/-- zip(xs, ys) -/
def zipL : List D → List D → List D
  | d :: ds, e :: es => .tuple [d, e] :: zipL ds es
  | _, _ => []
theorem zipL_get : ∀ (ds es : List D) (i : Nat) (d : D), (zipL ds es)[i]? = some d → ∃ x y, ds[i]? = some x ∧ es[i]? = some y ∧ d = .tuple [x, y]
  | [], _, _, _, h => by cases h
  | _ :: _, [], _, _, h => by cases h
  | x :: ds, y :: es, 0, d, h => by cases h; exact ⟨x, y, rfl, rfl, rfl⟩
  | x :: ds, y :: es, i + 1, d, h => zipL_get ds es i d h
theorem zipL_le : ∀ (ds es : List D) (i : Nat), (zipL ds es).length ≤ i → ds.length ≤ i ∨ es.length ≤ i
  | [], _, i, _ => .inl (Nat.zero_le _)
  | _ :: _, [], i, _ => .inr (Nat.zero_le _)
  | _ :: ds, _ :: es, 0, h => by cases h
  | _ :: ds, _ :: es, i + 1, h => by
    rcases zipL_le ds es i (Nat.le_of_succ_le_succ h) with z | z
    · exact .inl (Nat.succ_le_succ z)
    · exact .inr (Nat.succ_le_succ z)
theorem wk_zip {K : PySem.W.Frag} {F : Hp} {a b : Addr} {vs ws : List V} {ds es : List D} (hs : F a = some (.lst vs)) (ra : RpA K F vs ds) (hs2 : F b = some (.lst ws)) (ra2 : RpA K F ws es) : Wk K F (Itz K a b) (zipL ds es) := fun i F1 H1 e1 e2 => by
  have h1 : SqL K H1 a vs := SqL.of (e2 _ _ (e1 _ _ hs))
  have h2 : SqL K H1 b ws := SqL.of (e2 _ _ (e1 _ _ hs2))
  refine ⟨fun h => ⟨vs, ws, h1, h2, by rw [ra.length, ra2.length]; exact zipL_le ds es i h⟩, fun d hd => ?_⟩
  obtain ⟨x, y, hx, hy, ed⟩ := zipL_get ds es i d hd
  obtain ⟨v, hv, rv⟩ := ra.get hx
  obtain ⟨u, hu, ru⟩ := ra2.get hy
  refine ⟨⟨vs, ws, v, u, h1, h2, hv, hu⟩, fun z H' ⟨T, x', y', ez, hT, eH, hx', hy'⟩ => ?_⟩
  have e3 := hx' vs h1
  have e4 := hy' ws h2
  rw [hv] at e3
  rw [hu] at e4
  cases e3
  cases e4
  refine ⟨upd F1 T (.tup [v, u]), by rw [eH]; exact (Ext.refl e2).newF hT _, ?_⟩
  rw [ez, ed]
  have ff := e1.trans (same_new (e2.free hT) (.tup [v, u]))
  exact .tup (SqT.of upd_same) (.cons (Rp.mono ff _ _ rv) (.one (Rp.mono ff _ _ ru)))
def gZip : D → D → Res (List D)
  | .list ds, .list es => .ok (zipL ds es)
  | _, _ => .err
def zipI (f g : Env → Res D) : Env → Res (List D) := bin f g gZip
theorem PIp.zip {elts : List Expr} {kk : Nat} {tpos : Pos} {e e2 : Expr} {f f2 : Env → Res D} {p pos : Pos} (c : Ctx X N sc fn) (hm : X.mg "zip" = none) (h : PEp X W e f) (h2 : PEp X W e2 f2) (hg : isGl sc "zip" = true := by rfl)
    (he : starEach [e, e2] X.env = (false, eval e X.env) :: starEach [e2] X.env := by rfl) (he2 : starEach [e2] X.env = (false, eval e2 X.env) :: starEach [] X.env := by rfl) (hpl : (backTo pos (starEach [e2] X.env)).any (·.1) = false := by rfl) :
    PIp X W (.Tuple elts kk tpos) (.Call (.Name "zip" p) [e, e2] [] pos) (zipI f f2) := by
  obtain ⟨t, pe, q⟩ := h
  obtain ⟨t2, pe2, q2⟩ := h2
  refine ⟨_, pi_zip (c.gl hg) hm (pa_cons pe (pa_cons pe2 pa_nil he2) he) he hpl, fun C F δ σ H R s g => ?_⟩
  refine q C F δ σ H _ s ((Gd.bind g).mono fun d F1 H1 x1 h1 v rv => ?_)
  refine q2 C F1 δ σ H1 _ (s.ext x1) ((Gd.bind h1).mono fun d2 F2 H2 x2 h3 v2 rv2 => ?_)
  have rv := Rp.mono x2.ff _ _ rv
  unfold gZip at h3
  split at h3
  · cases rv with
    | lst hs ra =>
      cases rv2 with
      | lst hs2 ra2 => exact ⟨_, _, _, _, rfl, SqL.of (x2.le _ _ hs), SqL.of (x2.le _ _ hs2), h3.ok (Ext.refl x2.le) _ (wk_zip hs ra hs2 ra2)⟩
  · exact False.elim h3

/-! ### targets -/
/-- slots stored, one after another -/
def setM (σ : L2.St) (ps : List (Nat × V)) : L2.St := ps.foldl (fun σ p => σ.set p.1 (some p.2)) σ
def PGp (X : Cx) (tg : Expr) (is : List Nat) (g : D → Env → Option Env) : Prop := ∃ t, PG X tg t ∧ ∀ C F δ σ H v d Q, Sat X.K C F δ σ H → Rp X.K F v d → (∃ δ', g d δ = some δ' ∧ ∀ ps : List (Nat × V), ps.map (·.1) = is → Sat X.K C F δ' (setM σ ps) H → Q (setM σ ps) H) → t v σ H Q
def PGm (X : Cx) (ts : List Expr) (is : List Nat) (g : List D → Env → Option Env) : Prop := ∃ t, PGs X ts t ∧ ∀ C F δ σ H vs ds Q, Sat X.K C F δ σ H → RpA X.K F vs ds → (∃ δ', g ds δ = some δ' ∧ ∀ ps : List (Nat × V), ps.map (·.1) = is → Sat X.K C F δ' (setM σ ps) H → Q (setM σ ps) H) → t vs σ H Q
def gN (i : Nat) : D → Env → Option Env := fun d δ => some (δ.set i (.val d))
theorem PGp.name (c : Ctx X N sc fn) (i : Nat) {x : Str} {pos : Pos} (hN : N[i]? = some x := by rfl) (hx : stOk sc fn x = true := by rfl) : PGp X (.Name x pos) [i] (gN i) := by
  obtain ⟨h1, h2⟩ := c.st hx
  refine ⟨_, pg_name (i := i) (by rw [c.hN]; exact c.nd) (by rw [c.hN]; exact hN) h1 h2, fun C F δ σ H v d Q s r h => ?_⟩
  obtain ⟨δ', e, q⟩ := h
  cases e
  exact q [(i, v)] rfl (s.set_val r)
def gNil : List D → Env → Option Env
  | [], δ => some δ
  | _, _ => none
def gCons (g : D → Env → Option Env) (gs : List D → Env → Option Env) : List D → Env → Option Env
  | d :: ds, δ => (g d δ).bind (gs ds)
  | [], _ => none
theorem PGm.nil : PGm X [] [] gNil := by
  refine ⟨_, pgs_nil, fun C F δ σ H vs ds Q s r h => ?_⟩
  obtain ⟨δ', e, q⟩ := h
  cases r with
  | nil => cases e; exact ⟨rfl, q [] rfl s⟩
  | cons _ _ => cases e
theorem setM_app (σ : L2.St) (ps qs : List (Nat × V)) : setM (setM σ ps) qs = setM σ (ps ++ qs) := by unfold setM; rw [List.foldl_append]
theorem PGm.cons {e : Expr} {es : List Expr} {is js : List Nat} {g : D → Env → Option Env} {gs : List D → Env → Option Env} (h : PGp X e is g) (h2 : PGm X es js gs)
    (hs : (assignEach (e :: es) X.env).map (·.2) = assign e X.env :: (assignEach es X.env).map (·.2) := by rfl) : PGm X (e :: es) (is ++ js) (gCons g gs) := by
  obtain ⟨t, p, q⟩ := h
  obtain ⟨u, p2, q2⟩ := h2
  refine ⟨_, pgs_cons p p2 hs, fun C F δ σ H vs ds Q s r h => ?_⟩
  obtain ⟨δ', e, k⟩ := h
  cases r with
  | nil => cases e
  | @cons v vs d ds r rs =>
    refine ⟨v, vs, rfl, ?_⟩
    dsimp only [gCons] at e
    cases ed : g d δ with
    | none => rw [ed] at e; cases e
    | some δ1 =>
      rw [ed] at e
      refine q C F δ σ H v d _ s r ⟨δ1, ed, fun ps hp s1 => ?_⟩
      refine q2 C F δ1 _ H vs ds _ s1 rs ⟨δ', e, fun qs hq s2 => ?_⟩
      rw [setM_app] at s2 ⊢
      exact k (ps ++ qs) (by rw [List.map_append, hp, hq]) s2
def gT (n : Nat) (gs : List D → Env → Option Env) : D → Env → Option Env
  | .tuple ds, δ => if ds.length = n then gs ds δ else none
  | _, _ => none
theorem PGp.tup {es : List Expr} {k : Nat} {pos : Pos} {n : Nat} {is : List Nat} {gs : List D → Env → Option Env} (c : Ctx X N sc fn) (h : PGm X es is gs) (hn : (assignEach es X.env).length = n := by rfl) (hst : (assignEach es X.env).findIdx? (·.1) = none := by rfl) :
    PGp X (.Tuple es k pos) is (gT n gs) := by
  obtain ⟨t, p, q⟩ := h
  refine ⟨_, pg_tup c.calm p hn hst, fun C F δ σ H v d Q s r h => ?_⟩
  obtain ⟨δ', e, k⟩ := h
  cases d with
  | tuple ds =>
    dsimp only [gT] at e
    split at e
    · rename_i hl
      cases r with
      | tup hs ra => exact ⟨_, _, rfl, Same.sqT s.le hs, by rw [ra.length]; exact hl, q C F δ σ H _ ds _ s ra ⟨δ', e, k⟩⟩
    · cases e
  | _ => cases e

/-! ### list comprehensions -/
def yesB : Env → Res Bool := fun _ => .ok true
/-- the items that a comprehension makes -/
def compL (g : D → Env → Option Env) (ft : Env → Res Bool) (fe : Env → Res D) (δ : Env) : List D → Res (List D)
  | [] => .ok []
  | d :: ds => match g d δ with
    | none => .err
    | some δ1 => match ft δ1 with
      | .ok true => (match fe δ1 with
        | .ok y => (match compL g ft fe δ ds with
          | .ok ys => .ok (y :: ys)
          | _ => .err)
        | _ => .err)
      | .ok false => compL g ft fe δ ds
      | _ => .err
def szI (ds : List D) : Res (List D) := if ds.length ≤ sizeLine then .ok ds else .err
def compF (vs : List Nat) (fi : Env → Res (List D)) (g : D → Env → Option Env) (ft : Env → Res Bool) (fe : Env → Res D) : Env → Res (List D) := fun δ => (fi δ).bind fun ds => (szI ds).bind fun ds => compL g ft fe (fgE vs δ) ds
/-- a clause's tests -/
def PTq (X : Cx) (ifs : List Expr) (f : Env → Res Bool) : Prop := ∃ t, PTs X ifs t ∧ ∀ C F δ σ H Q, Sat X.K C F δ σ H → Gd W0 σ F H (f δ) (fun b _ H' => Q b H') → t σ H Q
theorem PTq.no : PTq X [] yesB := ⟨_, pts_nil, fun C F δ σ H Q s g => g.ok (Ext.refl s.le)⟩
theorem PTq.one {e : Expr} {f : Env → Res Bool} (h : PBp X W0 e f) : PTq X [e] f := by
  obtain ⟨_, t, p, q⟩ := h
  exact ⟨_, pts_one p, q⟩
abbrev Blk (X : Cx) (scope : Scope) (s : Shared) (H : Hp) (C : Addr) (cl : List (Str × Addr)) (fp : List Addr) : Cx := X.blk s H scope (compEnvC scope cl C X.env) fp
theorem Ctx.blk (c : Ctx X N sc fn) {scope : Scope} {s : Shared} {H : Hp} {C : Addr} {cl : List (Str × Addr)} {fp : List Addr} : Ctx (Blk X scope s H C cl fp) N (relS scope sc) (fun x => scope.names.lookup x == some .cell) := by
  refine ⟨c.hN, c.nd, ?_, rfl, c.calm, c.un, PassesOwn.never⟩
  show relS scope X.env.scope = relS scope sc
  rw [c.sc]
theorem wipe_set {σ : L2.St} {i : Nat} {o : Option V} : ∀ {vs : List Nat}, i ∈ vs → wipe (σ.set i o) vs = wipe σ vs
  | [], h => by cases h
  | v :: vs, h => by
    show (wipe (σ.set i o) vs).set v none = (wipe σ vs).set v none
    by_cases hi : i ∈ vs
    · rw [wipe_set hi]
    · have e : i = v := by
        rcases List.mem_cons.mp h with z | z
        · exact z
        · exact absurd z hi
      subst e
      have push : ∀ (ws : List Nat), i ∉ ws → wipe (σ.set i o) ws = (wipe σ ws).set i o := by
        intro ws
        induction ws with
        | nil => intro _; rfl
        | cons w ws ih =>
          intro hw
          have h1 : i ≠ w := fun z => hw (by rw [z]; exact List.mem_cons_self)
          have h2 : i ∉ ws := fun z => hw (List.mem_cons_of_mem _ z)
          show (wipe (σ.set i o) ws).set w none = ((wipe σ ws).set w none).set i o
          rw [ih h2, List.set_comm _ _ h1]
      rw [push vs hi, List.set_set]
theorem wipe_setM {vs : List Nat} : ∀ (ps : List (Nat × V)) (σ : L2.St), (∀ p ∈ ps, p.1 ∈ vs) → wipe (setM σ ps) vs = wipe σ vs
  | [], _, _ => rfl
  | p :: ps, σ, h => by
    show wipe (setM (σ.set p.1 (some p.2)) ps) vs = wipe σ vs
    rw [wipe_setM ps _ fun q hq => h q (List.mem_cons_of_mem _ hq), wipe_set (h p List.mem_cons_self)]
theorem wipe_wipe {vs : List Nat} (σ : L2.St) : ∀ us : List Nat, (∀ i ∈ us, i ∈ vs) → wipe (wipe σ us) vs = wipe σ vs
  | [], _ => rfl
  | u :: us, h => by
    show wipe ((wipe σ us).set u none) vs = wipe σ vs
    rw [wipe_set (h u List.mem_cons_self), wipe_wipe σ us fun i hi => h i (List.mem_cons_of_mem _ hi)]
theorem fgE_set : ∀ (vs : List Nat) (δ : Env) (i : Nat), fgE vs (δ.set i .no) = (fgE vs δ).set i .no
  | [], _, _ => rfl
  | v :: vs, δ, i => by
    show fgE vs ((δ.set i .no).set v .no) = (fgE vs (δ.set v .no)).set i .no
    by_cases h : i = v
    · subst h
      rw [List.set_set, ← fgE_set vs (δ.set i .no) i, List.set_set]
    · rw [List.set_comm _ _ h, fgE_set vs (δ.set v .no) i]
theorem Sat.wipe {K : PySem.W.Frag} {C : Ent} {F H : Hp} : ∀ (vs : List Nat) {δ : Env} {σ : L2.St}, Sat K C F δ σ H → Sat K C F (fgE vs δ) (L2.wipe σ vs) H
  | [], _, _, s => s
  | v :: vs, δ, σ, s => by
    have ih := Sat.wipe vs (s)
    show Sat K C F (fgE vs (δ.set v .no)) ((L2.wipe σ vs).set v none) H
    rw [fgE_set]
    obtain ⟨G, g⟩ := ih
    refine ⟨G, g.le, g.f0, g.nw, g.keep, g.alive, g.dis, g.live, g.mine, by rw [List.length_set, List.length_set]; exact g.len, g.tf, fun j s e => ?_⟩
    by_cases hj : v = j
    · subst hj
      by_cases hl : v < (fgE vs δ).length
      · rw [List.getElem?_set_self hl] at e; cases e; trivial
      · rw [List.getElem?_eq_none (by rw [List.length_set]; omega)] at e; cases e
    · rw [List.getElem?_set_ne hj] at e ⊢; exact g.sl j s e

section
variable {elt tg iter : Expr} {ifs : List Expr} {scope : Scope} {own : List (Str × Nat)} {pos : Pos} {fi : Env → Res (List D)} {g : D → Env → Option Env} {is : List Nat} {ft : Env → Res Bool} {fe : Env → Res D}
/-- the reading of a comprehension -/
theorem lc_sem {wi : TI} {tg_ : TG} {tt : TT} {te : TE} {Kf : PySem.W.Frag} {vs : List Nat}
    (qi : ∀ C F δ σ H R, Sat Kf C F δ σ H → Gd W σ F H (fi δ) (fun ds F' H' => ∀ J, WkH Kf F' H' J ds → R J H') → wi σ H R)
    (qg : ∀ C F δ σ H v d Q, Sat Kf C F δ σ H → Rp Kf F v d → (∃ δ', g d δ = some δ' ∧ ∀ ps : List (Nat × V), ps.map (·.1) = is → Sat Kf C F δ' (setM σ ps) H → Q (setM σ ps) H) → tg_ v σ H Q)
    (qt : ∀ C F δ σ H Q, Sat Kf C F δ σ H → Gd W0 σ F H (ft δ) (fun b _ H' => Q b H') → tt σ H Q)
    (qe : ∀ C F δ σ H Q, Sat Kf C F δ σ H → Gd W0 σ F H (fe δ) (fun d F' H' => ∀ v, Rp Kf F' v d → Q v H') → te σ H Q)
    (hv : ∀ i ∈ is, i ∈ vs) {C : Ent} {F : Hp} {δ : Env} {σ : L2.St} {H : Hp} {Q : VK} (s : Sat Kf C F δ σ H)
    (h : Gd W σ F H (compF vs fi g ft fe δ) (fun ds F' H' => ∀ a vs, H a = none → F' a = none → H' a = some (.lst vs) → RpA Kf F' vs ds → Q (.ref a) H')) : tLc wi tg_ tt te vs σ H Q := by
  refine qi C F δ σ H _ s ((Gd.bind2 h).mono fun ds F1 H1 x1 h1 J wk => fun D hD => ?_)
  have h1 := h1.bind2
  unfold szI at h1
  split at h1
  case isFalse => exact False.elim h1
  rename_i hsz
  have h1 := h1.ok (Ext.refl s.le)
  have hDH := x1.hh.free hD
  have hDF := x1.le.free hD
  have xD : Ext F1 H1 F1 (upd H1 D (.lst [])) := (Ext.refl x1.le).newH hD _
  have sw := (s.wipe vs).ext x1
  -- the invariant: what is made so far, and what the rest makes gives the whole
  refine ⟨fun i m Hi => ∃ Fi accV acc, m = ds.length - i ∧ i ≤ ds.length ∧ Ext F1 H1 Fi Hi ∧ Fi D = none ∧ Hi D = some (.lst accV) ∧ RpA Kf Fi accV acc ∧ acc.length ≤ i ∧
    Gd W σ F H ((compL g ft fe (fgE vs δ) (ds.drop i)).bind fun r => .ok (acc ++ r)) (fun ds F' H' => ∀ a vs, H a = none → F' a = none → H' a = some (.lst vs) → RpA Kf F' vs ds → Q (.ref a) H'),
    ⟨ds.length, F1, [], [], by simp, Nat.zero_le _, xD, hDF, upd_same, .nil, Nat.le_refl _, ?_⟩, ?_⟩
  · rw [List.drop_zero]
    cases q : compL g ft fe (fgE vs δ) ds with
    | ok r => rw [q] at h1; exact h1
    | exc c => rw [q] at h1; exact h1
    | err => rw [q] at h1; exact h1
  rintro i m Hi ⟨Fi, accV, acc, rfl, hi, xi, hFi, hHi, ra, hla, hg⟩
  obtain ⟨ws, wg⟩ := wk i Fi Hi xi.ff xi.le xi.hh
  by_cases hlt : i < ds.length
  · right
    have hd : ds[i]? = some ds[i] := by rw [List.getElem?_eq_getElem hlt]
    obtain ⟨go, yld⟩ := wg _ hd
    rw [List.drop_eq_getElem_cons hlt] at hg
    refine ⟨go, fun H' => ∃ F' accV' acc', Ext F1 H1 F' H' ∧ F' D = none ∧ H' D = some (.lst accV') ∧ RpA Kf F' accV' acc' ∧ acc'.length ≤ i + 1 ∧
      Gd W σ F H ((compL g ft fe (fgE vs δ) (ds.drop (i + 1))).bind fun r => .ok (acc' ++ r)) (fun ds F' H' => ∀ a vs, H a = none → F' a = none → H' a = some (.lst vs) → RpA Kf F' vs ds → Q (.ref a) H'),
      fun H' ⟨F', accV', acc', k1, k2, k3, k4, k5, k6⟩ => ⟨ds.length - (i + 1), by omega, F', accV', acc', rfl, hlt, k1, k2, k3, k4, k5, k6⟩, fun x H2 hy => ?_⟩
    obtain ⟨F2, x2, rx⟩ := yld x H2 hy
    have xi2 := xi.trans x2
    have hF2 : F2 D = none := by
      cases q : F2 D with
      | none => rfl
      | some o =>
        rcases x2.nw D o q with z | z
        · rw [hFi] at z; cases z
        · rw [hHi] at z; cases z
    have s2 := sw.ext xi2
    unfold compL at hg
    cases eg : g ds[i] (fgE vs δ) with
    | none => rw [eg] at hg; exact False.elim hg
    | some δ1 =>
      rw [eg] at hg
      dsimp only at hg
      refine qg C F2 _ _ H2 x ds[i] _ s2 rx ⟨δ1, eg, fun ps hp s3 => ⟨(wipe_setM ps _ (fun p hp2 => hv _ (by rw [← hp]; exact List.mem_map_of_mem hp2))).trans (wipe_wipe σ vs fun _ z => z), ?_⟩⟩
      refine qt C F2 δ1 _ H2 _ s3 ?_
      cases et : ft δ1 with
      | err => rw [et] at hg; exact False.elim hg
      | exc c => rw [et] at hg; exact False.elim hg
      | ok b =>
        rw [et] at hg
        intro F3 H3 x3
        have xi3 := xi2.trans x3
        have hF3 : F3 D = none := by
          cases q : F3 D with
          | none => rfl
          | some o =>
            rcases x3.nw D o q with z | z
            · rw [hF2] at z; cases z
            · rw [x2.hh _ _ hHi] at z; cases z
        cases b with
        | false =>
          rw [if_neg Bool.false_ne_true]
          exact ⟨F3, accV, acc, xi3, hF3, x3.hh _ _ (x2.hh _ _ hHi), RpA.mono (x2.ff.trans x3.ff) _ _ ra, Nat.le_succ_of_le hla, hg⟩
        | true =>
          rw [if_pos rfl]
          refine qe C F3 δ1 _ H3 _ (s3.ext x3) ?_
          dsimp only at hg
          cases ee : fe δ1 with
          | err => rw [ee] at hg; exact False.elim hg
          | exc c => rw [ee] at hg; exact False.elim hg
          | ok y =>
            rw [ee] at hg
            intro F4 H4 x4 v rv
            have hF4 : F4 D = none := by
              cases q : F4 D with
              | none => rfl
              | some o =>
                rcases x4.nw D o q with z | z
                · rw [hF3] at z; cases z
                · rw [x3.hh _ _ (x2.hh _ _ hHi)] at z; cases z
            have e4 : H4 D = some (.lst accV) := x4.hh _ _ (x3.hh _ _ (x2.hh _ _ hHi))
            have ra4 : RpA Kf F4 accV acc := RpA.mono ((x2.ff.trans x3.ff).trans x4.ff) _ _ ra
            refine ⟨accV, e4, by rw [ra.length]; omega, F4, accV ++ [v], acc ++ [y], (xi3.trans x4).chg hD hF4 e4 (.inl ⟨_, rfl⟩) _, hF4, upd_same, ra4.append (.one rv), by rw [List.length_append]; exact Nat.succ_le_succ hla, ?_⟩
            dsimp only at hg
            cases er : compL g ft fe (fgE vs δ) (ds.drop (i + 1)) with
            | ok r =>
              rw [er] at hg
              rw [Res.bind_ok, List.append_assoc]
              exact hg
            | exc c => rw [er] at hg; exact False.elim hg
            | err => rw [er] at hg; exact False.elim hg
  · left
    have e : i = ds.length := by omega
    subst e
    refine ⟨ws (Nat.le_refl _), ?_⟩
    rw [List.drop_length] at hg
    have hg : Gd W σ F H (.ok (acc ++ [])) _ := hg
    rw [List.append_nil] at hg
    exact hg.ok (x1.trans xi) D accV hDH hFi hHi ra
/-- one reading for all of a comprehension's contexts -/
theorem pe_all {ι : Type} {f : Env → Res D} {e : Expr} {B : ι → Cx} (he : ∀ i, PEp (B i) W0 e f) : ∃ t : TE, (∀ i, PE (B i) e t) ∧ ∀ (Kf : PySem.W.Frag), (∀ i, (B i).K = Kf) → ∀ C F δ σ H Q, Sat Kf C F δ σ H → Gd W0 σ F H (f δ) (fun d F' H' => ∀ v, Rp Kf F' v d → Q v H') → t σ H Q := by
  refine ⟨fun σ H Q => ∀ i, (he i).choose σ H Q, fun i => ⟨fun pins s σ H Q I h => (he i).choose_spec.1.run pins s σ H Q I (h i)⟩, fun Kf hK C F δ σ H Q s g i => ?_⟩
  have e := hK i
  subst e
  exact (he i).choose_spec.2 C F δ σ H Q s g
theorem pt_all {ι : Type} {f : Env → Res Bool} {es : List Expr} {B : ι → Cx} (he : ∀ i, PTq (B i) es f) : ∃ t : TT, (∀ i, PTs (B i) es t) ∧ ∀ (Kf : PySem.W.Frag), (∀ i, (B i).K = Kf) → ∀ C F δ σ H Q, Sat Kf C F δ σ H → Gd W0 σ F H (f δ) (fun b _ H' => Q b H') → t σ H Q := by
  refine ⟨fun σ H Q => ∀ i, (he i).choose σ H Q, fun i => ⟨fun pins s σ H Q I h => (he i).choose_spec.1.run pins s σ H Q I (h i)⟩, fun Kf hK C F δ σ H Q s g i => ?_⟩
  have e := hK i
  subst e
  exact (he i).choose_spec.2 C F δ σ H Q s g
theorem pg_all {ι : Type} {g : D → Env → Option Env} {is : List Nat} {e : Expr} {B : ι → Cx} (he : ∀ i, PGp (B i) e is g) : ∃ t : TG, (∀ i, PG (B i) e t) ∧ ∀ (Kf : PySem.W.Frag), (∀ i, (B i).K = Kf) → ∀ C F δ σ H v d Q, Sat Kf C F δ σ H → Rp Kf F v d → (∃ δ', g d δ = some δ' ∧ ∀ ps : List (Nat × V), ps.map (·.1) = is → Sat Kf C F δ' (setM σ ps) H → Q (setM σ ps) H) → t v σ H Q := by
  refine ⟨fun v σ H Q => ∀ i, (he i).choose v σ H Q, fun i => ⟨fun pins s σ H v u Q I r h => (he i).choose_spec.1.run pins s σ H v u Q I r (h i)⟩, fun Kf hK C F δ σ H v d Q s r g i => ?_⟩
  have e := hK i
  subst e
  exact (he i).choose_spec.2 C F δ σ H v d Q s r g
abbrev BlkI := Shared × Hp × Addr × List (Str × Addr) × List Addr
abbrev BlkOf (X : Cx) (scope : Scope) (b : BlkI) : Cx := Blk X scope b.1 b.2.1 b.2.2.1 b.2.2.2.1 b.2.2.2.2
theorem all_mem {is vs : List Nat} (hv : is.all (fun i => vs.contains i) = true) : ∀ i ∈ is, i ∈ vs := fun i hi => by
  have z := List.all_eq_true.mp hv i hi
  exact List.contains_iff_mem.mp z
theorem PFp.lc (c : Ctx X N sc fn) (own : List (Str × Nat)) (hi : PIh X W tg iter fi)
    (hg : ∀ b, Ctx (BlkOf X scope b) N (relS scope sc) (fun x => scope.names.lookup x == some .cell) → PGp (BlkOf X scope b) tg is g)
    (ht : ∀ b, Ctx (BlkOf X scope b) N (relS scope sc) (fun x => scope.names.lookup x == some .cell) → PTq (BlkOf X scope b) ifs ft)
    (he : ∀ b, Ctx (BlkOf X scope b) N (relS scope sc) (fun x => scope.names.lookup x == some .cell) → PEp (BlkOf X scope b) W0 elt fe)
    (ok : blkC N sc scope own = true := by decide +kernel) (hv : is.all (fun i => (own.map (·.2)).contains i) = true := by decide +kernel) (hs : ∀ x, foldedSetIterable iter X.env x = pure x := by intro _; rfl) :
    PFp X W (.ListComp elt [⟨tg, iter, ifs, 0⟩] scope pos) (compF (own.map (·.2)) fi g ft fe) := by
  obtain ⟨wi, pi_, qi⟩ := hi
  obtain ⟨t1, p1, q1⟩ := pg_all (B := BlkOf X scope) fun b => hg b c.blk
  obtain ⟨t2, p2, q2⟩ := pt_all (B := BlkOf X scope) fun b => ht b c.blk
  obtain ⟨t3, p3, q3⟩ := pe_all (B := BlkOf X scope) fun b => he b c.blk
  refine ⟨_, pe_lc c.calm (by rw [c.hN]; exact c.nd) pi_ (blkOk_by (own := own) (by rw [c.hN, c.sc]; exact ok)) (fun s H C cl fp => p1 (s, H, C, cl, fp)) (fun s H C cl fp => p2 (s, H, C, cl, fp)) (fun s H C cl fp => p3 (s, H, C, cl, fp)) hs, fun C F δ σ H Q s h => ?_⟩
  exact lc_sem qi (q1 X.K fun _ => rfl) (q2 X.K fun _ => rfl) (q3 X.K fun _ => rfl) (all_mem hv) s h
end
end
end DL
/-! DL4: statements, defs. -/
namespace DL
open PySem PySem.Spec PyProof.Rows L2
variable [TabP]

/-- how a statement ends: on, with an environment; with a value; with a new list; out of the loop; to its next turn; by an own exception; nothing is said -/
inductive Fl where
  | nx (δ : Env) | rt (d : D) | rf (ds : List D) | bk (δ : Env) | ct (δ : Env) | exc (c : Str) (δ : Env) | err | rn (i : Nat) (δ : Env) | rb (d : D) (δ : Env)
def Gs (K : PySem.W.Frag) (W : WS) (C : Ent) (F : Hp) (E : Ends) : Fl → Prop
  | .nx δ => ∀ F' σ' H', Same F F' → Sat K C F' δ σ' H' → E.nx σ' H'
  | .rt d => ∀ F' δ' σ' H' v, Same F F' → Sat K C F' δ' σ' H' → Rp K F' v d → E.rt v H'
  | .rf ds => ∀ F' δ' σ' H' a vs, Same F F' → Sat K C F' δ' σ' H' → (C.H0 a = none ∨ C.own a) → F' a = none → H' a = some (.lst vs) → RpA K F' vs ds → E.rt (.ref a) H'
  | .bk δ => ∀ F' σ' H', Same F F' → Sat K C F' δ σ' H' → E.bk σ' H'
  | .ct δ => ∀ F' σ' H', Same F F' → Sat K C F' δ σ' H' → E.ct σ' H'
  | .exc c δ => ∀ F' σ' H', Same F F' → Sat K C F' δ σ' H' → W c σ' H'
  | .err => False
  | .rn i δ => ∀ F' σ' H' v, Same F F' → Sat K C F' δ σ' H' → (σ'[i]?).join = some v → E.rt v H'
  | .rb d δ => ∀ F' σ' H' v, Same F F' → Sat K C F' δ σ' H' → Rp K F' v d → E.rt v H'
theorem Gs.mono {K : PySem.W.Frag} {W : WS} {C : Ent} {F F1 : Hp} {E : Ends} {r : Fl} (h : Gs K W C F E r) (e : Same F F1) : Gs K W C F1 E r := by
  cases r with
  | nx δ => exact fun F' σ' H' e1 s => h F' σ' H' (e.trans e1) s
  | rt d => exact fun F' δ' σ' H' v e1 s r => h F' δ' σ' H' v (e.trans e1) s r
  | rf ds => exact fun F' δ' σ' H' a vs e1 s => h F' δ' σ' H' a vs (e.trans e1) s
  | bk δ => exact fun F' σ' H' e1 s => h F' σ' H' (e.trans e1) s
  | ct δ => exact fun F' σ' H' e1 s => h F' σ' H' (e.trans e1) s
  | exc c δ => exact fun F' σ' H' e1 s => h F' σ' H' (e.trans e1) s
  | rn i δ => exact fun F' σ' H' v e1 s => h F' σ' H' v (e.trans e1) s
  | rb d δ => exact fun F' σ' H' v e1 s => h F' σ' H' v (e.trans e1) s
  | err => exact h
/-- what follows an expression's answer -/
def onR {α : Type} (r : Res α) (δ : Env) (k : α → Fl) : Fl := match r with
  | .ok a => k a
  | .exc c => .exc c δ
  | .err => .err
@[simp] theorem onR_ok {α : Type} (a : α) (δ : Env) (k : α → Fl) : onR (.ok a) δ k = k a := rfl
@[simp] theorem onR_exc {α : Type} (c : Str) (δ : Env) (k : α → Fl) : onR (.exc c) δ k = .exc c δ := rfl
@[simp] theorem onR_err {α : Type} (δ : Env) (k : α → Fl) : onR (.err) δ k = .err := rfl
theorem Gs.on {α : Type} {K : PySem.W.Frag} {W : WS} {C : Ent} {F H : Hp} {δ : Env} {σ : L2.St} {E : Ends} {r : Res α} {k : α → Fl} {P : α → Hp → Hp → Prop} (s : Sat K C F δ σ H) (h : Gs K W C F E (onR r δ k))
    (hk : ∀ a F' H', Ext F H F' H' → Sat K C F' δ σ H' → Gs K W C F' E (k a) → P a F' H') : Gd W σ F H r P := by
  cases r with
  | ok a => exact fun F' H' x => hk a F' H' x (s.ext x) (h.mono x.ff)
  | exc c => exact fun F' H' x => h F' σ H' x.ff (s.ext x)
  | err => exact h

section
variable (X : Cx) (W : WS)
def PSp (st : Stmt) (f : Env → Fl) : Prop := ∃ t, PS X st t ∧ ∀ C F δ σ H E, Sat X.K C F δ σ H → Gs X.K W C F E (f δ) → t E σ H
def PSsp (st : List Stmt) (f : Env → Fl) : Prop := ∃ t, PSs X st t ∧ ∀ C F δ σ H E, Sat X.K C F δ σ H → Gs X.K W C F E (f δ) → t E σ H
end
section
variable {X : Cx} {N : List Str} {sc : Scope} {fn : Str → Bool} {W : WS}
section
variable {st : Stmt} {rest : List Stmt} {e : Expr} {pos : Pos} {f g : Env → Fl}
def nxS : Env → Fl := fun δ => .nx δ
def seqS (f g : Env → Fl) : Env → Fl := fun δ => match f δ with
  | .nx δ' => g δ'
  | r => r
theorem PSsp.nil : PSsp X W [] nxS := ⟨_, pss_nil, fun C F δ σ H E s g => g F σ H (Same.refl _) s⟩
theorem Gs.nxt {K : PySem.W.Frag} {C : Ent} {F : Hp} {E : Ends} {r : Fl} {g : Env → Fl} {u : TS} (h : Gs K W C F E (match r with | .nx δ' => g δ' | r => r))
    (hu : ∀ F' δ σ H, Same F F' → Sat K C F' δ σ H → Gs K W C F' E (g δ) → u E σ H) : Gs K W C F { E with nx := u E } r := by
  cases r with
  | nx δ' => exact fun F' σ' H' e s => hu F' δ' σ' H' e s (h.mono e)
  | rt d => exact h
  | rf ds => exact h
  | rn i δ => exact h
  | rb d δ => exact h
  | bk δ => exact h
  | ct δ => exact h
  | exc c δ => exact h
  | err => exact h
theorem PSsp.cons (h1 : PSp X W st f) (h2 : PSsp X W rest g) : PSsp X W (st :: rest) (seqS f g) := by
  obtain ⟨t, p, q⟩ := h1
  obtain ⟨u, p2, q2⟩ := h2
  exact ⟨_, pss_cons p p2, fun C F δ σ H E s h => q C F δ σ H _ s (Gs.nxt h fun F' δ' σ' H' e s' g' => q2 C F' δ' σ' H' E s' g')⟩
theorem PSsp.one (h1 : PSp X W st f) : PSsp X W [st] f := by
  obtain ⟨t, p, q⟩ := h1
  exact ⟨_, pss_one p, q⟩
/-- what slot i owns is data from here on -/
def frzT (i : Nat) (f : Env → Fl) : Env → Fl := fun δ => f (frzE i δ)
theorem PSsp.frz (i : Nat) {sts : List Stmt} (h : PSsp X W sts f) : PSsp X W sts (frzT i f) := by
  obtain ⟨t, p, q⟩ := h
  refine ⟨t, p, fun C F δ σ H E s g => ?_⟩
  obtain ⟨F1, e, s1, _⟩ := s.frz i
  exact q C F1 _ σ H E s1 (g.mono e)
/-- slots forgotten -/
def fgT (is : List Nat) (f : Env → Fl) : Env → Fl := fun δ => f (fgE is δ)
theorem PSsp.fg (is : List Nat) {sts : List Stmt} (h : PSsp X W sts f) : PSsp X W sts (fgT is f) := by
  obtain ⟨t, p, q⟩ := h
  exact ⟨t, p, fun C F δ σ H E s g => q C F _ σ H E (s.fg is) g⟩
theorem PSp.pass : PSp X W (.Pass pos) nxS := ⟨_, ps_pass, fun C F δ σ H E s g => g F σ H (Same.refl _) s⟩
theorem PSp.brk : PSp X W (.Break pos) (fun δ => .bk δ) := ⟨_, ps_break, fun C F δ σ H E s g => g F σ H (Same.refl _) s⟩
theorem PSp.cont : PSp X W (.Continue pos) (fun δ => .ct δ) := ⟨_, ps_continue, fun C F δ σ H E s g => g F σ H (Same.refl _) s⟩
theorem PSp.doc {x : Str} {j : Nat} {pos' : Pos} : PSp X W (.Expr (.Constant (.str x) j pos) pos') nxS := ⟨_, ps_doc, fun C F δ σ H E s g => g F σ H (Same.refl _) s⟩
/-- an expression whose value goes -/
def dropS (f : Env → Res D) : Env → Fl := fun δ => onR (f δ) δ fun _ => .nx δ
theorem PSp.expr {f : Env → Res D} (h : PEp X W e f) (hs : swapsWith e none pos.line X.env = pure false := by rfl) : PSp X W (.Expr e pos) (dropS f) := by
  obtain ⟨t, p, q⟩ := h
  exact ⟨_, ps_expr p hs, fun C F δ σ H E s g => q C F δ σ H _ s (Gs.on s g fun d F' H' x s' g' v r => g' F' σ H' (Same.refl _) s')⟩
/-- return -/
def retS (f : Env → Res D) : Env → Fl := fun δ => onR (f δ) δ fun d => .rt d
def retF (f : Env → Res (List D)) : Env → Fl := fun δ => onR (f δ) δ fun d => .rf d
def retV (i : Nat) : Env → Fl := fun δ => match δ[i]? with
  | some (.own ds) => .rf ds
  | _ => .err
theorem PSp.ret {f : Env → Res D} (h : PEp X W e f) : PSp X W (.Return (some e) pos) (retS f) := by
  obtain ⟨t, p, q⟩ := h
  exact ⟨_, ps_ret p, fun C F δ σ H E s g => q C F δ σ H _ s (Gs.on s g fun d F' H' x s' g' v r => g' F' δ σ H' v (Same.refl _) s' r)⟩
theorem PSp.retF {f : Env → Res (List D)} (h : PFp X W e f) : PSp X W (.Return (some e) pos) (retF f) := by
  obtain ⟨t, p, q⟩ := h
  refine ⟨_, ps_ret p, fun C F δ σ H E s g => q C F δ σ H _ s (Gs.on s g fun ds F' H' x s' g' a vs h1 h2 h3 h4 => ?_)⟩
  obtain ⟨G, sg⟩ := s
  exact g' F' δ σ H' a vs (Same.refl _) s' (.inl (sg.h0 h1).1) h2 h3 h4
theorem PSp.retV (c : Ctx X N sc fn) (i : Nat) {x : Str} {pos' : Pos} (hN : N[i]? = some x := by rfl) (hv : isVis sc x = true := by rfl) (hd : (x == ("__debug__" : Str)) = false := by decide) (hcd : (x == ("__classdict__" : Str)) = false := by decide) : PSp X W (.Return (some (.Name x pos')) pos) (retV i) := by
  refine ⟨_, ps_ret (pe_var (i := i) (by rw [c.hN]; exact hN) (c.vis hv) hd hcd), fun C F δ σ H E s g => ?_⟩
  unfold DL.retV at g
  split at g
  · rename_i ds e
    obtain ⟨G, g', a, vs, h1, h2, h3, h4⟩ := s.get e
    exact ⟨_, join_some h1, g F δ σ H a vs (Same.refl _) s (g'.mine a i h2) (g'.dis a i h2) h3 h4⟩
  · exact False.elim g
theorem PSp.retN : PSp X W (.Return none pos) (fun _ => .rt .none) := ⟨_, ps_retN, fun C F δ σ H E s g => g F δ σ H _ (Same.refl _) s .non⟩
/-- if -/
def ifS (c : Env → Res Bool) (f g : Env → Fl) : Env → Fl := fun δ => onR (c δ) δ fun b => if b = true then f δ else g δ
theorem PSp.if_ {c : Expr} {fc : Env → Res Bool} {a b : List Stmt} (hc : PBp X W c fc) (ha : PSsp X W a f) (hb : PSsp X W b g) : PSp X W (.If c a b pos) (ifS fc f g) := by
  obtain ⟨_, tc, pc, qc⟩ := hc
  obtain ⟨ta, pa, qa⟩ := ha
  obtain ⟨tb, pb, qb⟩ := hb
  refine ⟨_, ps_if pc pa pb, fun C F δ σ H E s h => qc C F δ σ H _ s (Gs.on s h fun b F' H' x s' h' => ?_)⟩
  cases b with
  | true => rw [if_pos rfl] at h' ⊢; exact qa C F' δ σ H' E s' h'
  | false => rw [if_neg Bool.false_ne_true] at h' ⊢; exact qb C F' δ σ H' E s' h'
/-- name = e -/
def setS (i : Nat) (f : Env → Res D) : Env → Fl := fun δ => onR (f δ) δ fun d => .nx (δ.set i (.val d))
def setF (i : Nat) (f : Env → Res (List D)) : Env → Fl := fun δ => onR (f δ) δ fun ds => .nx (δ.set i (.own ds))
def setK (i : Nat) (f : Env → Res (List (D × D))) : Env → Fl := fun δ => onR (f δ) δ fun ds => .nx (δ.set i (.ownK ds))
theorem PSp.set {f : Env → Res D} (c : Ctx X N sc fn) (i : Nat) {x : Str} {pos' : Pos} (h : PEp X W e f) (hN : N[i]? = some x := by rfl) (hx : stOk sc fn x = true := by rfl) (hs : swapsWith e (some (.Name x pos')) pos.line X.env = pure false := by rfl) :
    PSp X W (.Assign [.Name x pos'] e pos) (setS i f) := by
  obtain ⟨t, p, q⟩ := h
  obtain ⟨h1, h2⟩ := c.st hx
  exact ⟨_, ps_set (i := i) (by rw [c.hN]; exact c.nd) (by rw [c.hN]; exact hN) h1 p hs h2, fun C F δ σ H E s g => q C F δ σ H _ s (Gs.on s g fun d F' H' x s' g' v r => g' F' _ H' (Same.refl _) (s'.set_val r))⟩
theorem PSp.setF {f : Env → Res (List D)} (c : Ctx X N sc fn) (i : Nat) {x : Str} {pos' : Pos} (h : PFp X W e f) (hN : N[i]? = some x := by rfl) (hx : stOk sc fn x = true := by rfl) (hs : swapsWith e (some (.Name x pos')) pos.line X.env = pure false := by rfl) :
    PSp X W (.Assign [.Name x pos'] e pos) (setF i f) := by
  obtain ⟨t, p, q⟩ := h
  obtain ⟨h1, h2⟩ := c.st hx
  refine ⟨_, ps_set (i := i) (by rw [c.hN]; exact c.nd) (by rw [c.hN]; exact hN) h1 p hs h2, fun C F δ σ H E s g => q C F δ σ H _ s (Gs.on s g fun ds F' H' x s' g' a vs k1 k2 k3 k4 => ?_)⟩
  exact g' F' _ H' (Same.refl _) (s.set_new k1 x k2 k3 fun G gG => ⟨a, vs, rfl, gG, k3, k4⟩)
theorem PSp.setK {f : Env → Res (List (D × D))} (c : Ctx X N sc fn) (i : Nat) {x : Str} {pos' : Pos} (h : PKp X W e f) (hN : N[i]? = some x := by rfl) (hx : stOk sc fn x = true := by rfl) (hs : swapsWith e (some (.Name x pos')) pos.line X.env = pure false := by rfl) :
    PSp X W (.Assign [.Name x pos'] e pos) (setK i f) := by
  obtain ⟨t, p, q⟩ := h
  obtain ⟨h1, h2⟩ := c.st hx
  refine ⟨_, ps_set (i := i) (by rw [c.hN]; exact c.nd) (by rw [c.hN]; exact hN) h1 p hs h2, fun C F δ σ H E s g => q C F δ σ H _ s (Gs.on s g fun ds F' H' x s' g' a vs k1 k2 k3 k4 => ?_)⟩
  exact g' F' _ H' (Same.refl _) (s.set_new k1 x k2 k3 fun G gG => ⟨a, vs, rfl, gG, k3, k4⟩)
/-- name = [.. for ..], the list of one's own -/
theorem PSp.setLc (c : Ctx X N sc fn) (i : Nat) (own : List (Str × Nat)) {x : Str} {pos' lpos : Pos} {elt tg iter : Expr} {ifs : List Expr} {scope : Scope} {fi : Env → Res (List D)} {gg : D → Env → Option Env} {is : List Nat} {ft : Env → Res Bool} {fe : Env → Res D} (hi : PIh X W tg iter fi)
    (hg : ∀ b, Ctx (BlkOf X scope b) N (relS scope sc) (fun x => scope.names.lookup x == some .cell) → PGp (BlkOf X scope b) tg is gg)
    (ht : ∀ b, Ctx (BlkOf X scope b) N (relS scope sc) (fun x => scope.names.lookup x == some .cell) → PTq (BlkOf X scope b) ifs ft)
    (he : ∀ b, Ctx (BlkOf X scope b) N (relS scope sc) (fun x => scope.names.lookup x == some .cell) → PEp (BlkOf X scope b) W0 elt fe)
    (hk : X.env.scope.kind = .function) (hN : N[i]? = some x := by rfl) (hx : (match sc.names.lookup x with | some .local => true | _ => false) = true := by rfl) (hl : (pos'.line == lpos.line) = true := by rfl)
    (ha : (scope.names.any fun (n, k) => n == x && (k == .local || k == .cell)) = false := by decide +kernel)
    (ok : blkC N sc scope own = true := by decide +kernel) (hv : is.all (fun i => (own.map (·.2)).contains i) = true := by decide +kernel) (hs : ∀ x, foldedSetIterable iter X.env x = pure x := by intro _; rfl) :
    PSp X W (.Assign [.Name x pos'] (.ListComp elt [⟨tg, iter, ifs, 0⟩] scope lpos) pos) (DL.setF i (compF (own.map (·.2)) fi gg ft fe)) := by
  obtain ⟨wi, pi_, qi⟩ := hi
  obtain ⟨t1, p1, q1⟩ := pg_all (B := BlkOf X scope) fun b => hg b c.blk
  obtain ⟨t2, p2, q2⟩ := pt_all (B := BlkOf X scope) fun b => ht b c.blk
  obtain ⟨t3, p3, q3⟩ := pe_all (B := BlkOf X scope) fun b => he b c.blk
  have hloc : X.env.scope.names.lookup x = some .local := by
    rw [c.sc]
    split at hx
    · assumption
    · cases hx
  refine ⟨_, ps_setLc (i := i) c.calm (by rw [c.hN]; exact c.nd) (by rw [c.hN]; exact hN) hloc (sw_true hk hloc hl ha) pi_ (blkOk_by (own := own) (by rw [c.hN, c.sc]; exact ok)) (fun s H C cl fp => p1 (s, H, C, cl, fp)) (fun s H C cl fp => p2 (s, H, C, cl, fp)) (fun s H C cl fp => p3 (s, H, C, cl, fp)) hs, fun C F δ σ H E s h => ?_⟩
  refine lc_sem qi (q1 X.K fun _ => rfl) (q2 X.K fun _ => rfl) (q3 X.K fun _ => rfl) (all_mem hv) s (Gs.on s h fun ds F' H' x s' g' a vs k1 k2 k3 k4 => ?_)
  exact g' F' _ H' (Same.refl _) (s.set_new k1 x k2 k3 fun G gG => ⟨a, vs, rfl, gG, k3, k4⟩)
/-- what slot i owns is data at once -/
def frzN (i : Nat) : Env → Fl := fun δ => .nx (frzE i δ)
theorem PSp.frzB (i : Nat) (h : PSp X W st f) : PSp X W st (seqS f (frzN i)) := by
  obtain ⟨t, p, q⟩ := h
  refine ⟨t, p, fun C F δ σ H E s g => q C F δ σ H E s ?_⟩
  unfold seqS at g
  cases r : f δ with
  | nx δ' =>
    rw [r] at g
    intro F' σ' H' e s'
    obtain ⟨F1, e1, s1, _⟩ := s'.frz i
    exact g F1 σ' H' (e.trans e1) s1
  | rt d => rw [r] at g; exact g
  | rf ds => rw [r] at g; exact g
  | rn i δ => rw [r] at g; exact g
  | rb d δ => rw [r] at g; exact g
  | bk δ => rw [r] at g; exact g
  | ct δ => rw [r] at g; exact g
  | exc c δ => rw [r] at g; exact g
  | err => rw [r] at g; exact g
/-- a target of any form = e -/
def asgS (g : D → Env → Option Env) (f : Env → Res D) : Env → Fl := fun δ => onR (f δ) δ fun d => match g d δ with
  | some δ' => .nx δ'
  | none => .err
theorem PSp.asg {tg : Expr} {is : List Nat} {g : D → Env → Option Env} {f : Env → Res D} (h : PEp X W e f) (hg : PGp X tg is g) (hs : swapsWithSole [tg] e pos.line X.env = pure false := by rfl) (hw : swappedStores [tg] e X.env = pure none := by rfl)
    (h1 : (assignEach [tg] X.env).map (·.2) = [assign tg X.env] := by rfl) : PSp X W (.Assign [tg] e pos) (asgS g f) := by
  obtain ⟨t, p, q⟩ := h
  obtain ⟨u, p2, q2⟩ := hg
  refine ⟨_, ps_asg p p2 hs hw h1, fun C F δ σ H E s h => q C F δ σ H _ s (Gs.on s h fun d F' H' x s' h' v r => ?_)⟩
  cases ed : g d δ with
  | none => rw [ed] at h'; exact False.elim h'
  | some δ' =>
    rw [ed] at h'
    exact q2 C F' δ σ H' v d _ s' r ⟨δ', ed, fun ps _ s2 => h' F' _ H' (Same.refl _) s2⟩
/-- x, y = a, b with two local names -/
def parS (i j : Nat) (fa fb : Env → Res D) : Env → Fl := fun δ => onR ((fa δ).bind fun x => (fb δ).bind fun y => .ok (x, y)) δ fun p => .nx ((δ.set i (.val p.1)).set j (.val p.2))
theorem PSp.par {a b : Expr} {fa fb : Env → Res D} {x y : Str} {px py pt pt2 : Pos} {kt k2 : Nat} (c : Ctx X N sc fn) (i j : Nat) (ha : PEp X W a fa) (hb : PEp X W b fb) (hi : N[i]? = some x := by rfl) (hj : N[j]? = some y := by rfl) (hij : i ≠ j := by decide)
    (hx : sc.names.lookup x = some .local := by rfl) (hy : sc.names.lookup y = some .local := by rfl) (hab : starEach [a, b] X.env = (false, eval a X.env) :: starEach [b] X.env := by rfl) (hb' : starEach [b] X.env = (false, eval b X.env) :: starEach [] X.env := by rfl)
    (hw : swappedStores [.Tuple [.Name x px, .Name y py] kt pt] (.Tuple [a, b] k2 pt2) X.env = pure (some [x, y]))
    (hs : swapsWithSole [.Tuple [.Name x px, .Name y py] kt pt] (.Tuple [a, b] k2 pt2) pos.line X.env = pure false := by rfl) :
    PSp X W (.Assign [.Tuple [.Name x px, .Name y py] kt pt] (.Tuple [a, b] k2 pt2) pos) (parS i j fa fb) := by
  obtain ⟨t, p, q⟩ := ha
  obtain ⟨u, p2, q2⟩ := hb
  refine ⟨_, ps_par (i := i) (j := j) c.calm (by rw [c.hN]; exact c.nd) (by rw [c.hN]; exact hi) (by rw [c.hN]; exact hj) hij (by rw [c.sc]; exact hx) (by rw [c.sc]; exact hy) (pa_cons p (pa_cons p2 pa_nil hb') hab) hw hs, fun C F δ σ H E s h => ?_⟩
  have h1 : Gd W σ F H ((fa δ).bind fun x => (fb δ).bind fun y => .ok (x, y)) (fun p F' H' => Sat X.K C F' δ σ H' ∧ Gs X.K W C F' E (.nx ((δ.set i (.val p.1)).set j (.val p.2)))) := Gs.on s h fun p F' H' x s' h' => ⟨s', h'⟩
  refine q C F δ σ H _ s (h1.bind.mono fun d F1 H1 x1 h2 v rv => ?_)
  refine q2 C F1 δ σ H1 _ (s.ext x1) (h2.bind.mono fun d2 F2 H2 x2 h3 v2 rv2 => ?_)
  obtain ⟨s', h4⟩ := h3.ok (Ext.refl x2.le)
  exact ⟨v, v2, rfl, h4 F2 _ H2 (Same.refl _) ((s'.set_val (Rp.mono x2.ff _ _ rv)).set_val rv2)⟩
end

/-! ### a list, a dict of one's own is changed -/
theorem Sat.put_own {K : PySem.W.Frag} {C : Ent} {F H : Hp} {δ : Env} {σ : L2.St} (s : Sat K C F δ σ H) {i : Nat} {a : Addr} {ds es : List D} {ws : List V} (hi : δ[i]? = some (.own ds)) (hx : (σ[i]?).join = some (.ref a)) (r : RpA K F ws es) :
    Sat K C F (δ.set i (.own es)) σ (upd H a (.lst ws)) := by
  obtain ⟨G0, g0, b0, vs0, k1, k2, k3, k4⟩ := s.get hi
  rw [hx] at k1
  cases k1
  exact s.put k3 (.inl ⟨_, rfl⟩) hi hx (fun G g => by
    obtain ⟨b, vs, h1, h2, _, _⟩ := g.sl i _ hi
    rw [hx] at h1
    cases h1
    exact h2) fun G gG => ⟨a, ws, rfl, gG, upd_same, r⟩
theorem Sat.put_ownK {K : PySem.W.Frag} {C : Ent} {F H : Hp} {δ : Env} {σ : L2.St} (s : Sat K C F δ σ H) {i : Nat} {a : Addr} {ds es : List (D × D)} {ws : List (Key × V)} (hi : δ[i]? = some (.ownK ds)) (hx : (σ[i]?).join = some (.ref a)) (r : RpK K F ws es) :
    Sat K C F (δ.set i (.ownK es)) σ (upd H a (.dK ws)) := by
  obtain ⟨G0, g0, b0, vs0, k1, k2, k3, k4⟩ := s.get hi
  rw [hx] at k1
  cases k1
  exact s.put k3 (.inr (.inl ⟨_, rfl⟩)) hi hx (fun G g => by
    obtain ⟨b, vs, h1, h2, _, _⟩ := g.sl i _ hi
    rw [hx] at h1
    cases h1
    exact h2) fun G gG => ⟨a, ws, rfl, gG, upd_same, r⟩
def ownAt (i : Nat) (δ : Env) : Option (List D) := match δ[i]? with
  | some (.own ds) => some ds
  | _ => none
def ownKAt (i : Nat) (δ : Env) : Option (List (D × D)) := match δ[i]? with
  | some (.ownK ds) => some ds
  | _ => none
theorem ownAt_of {i : Nat} {δ : Env} {ds : List D} (h : ownAt i δ = some ds) : δ[i]? = some (.own ds) := by
  unfold ownAt at h
  split at h
  · cases h; assumption
  · cases h
theorem ownKAt_of {i : Nat} {δ : Env} {ds : List (D × D)} (h : ownKAt i δ = some ds) : δ[i]? = some (.ownK ds) := by
  unfold ownKAt at h
  split at h
  · cases h; assumption
  · cases h
section
variable {e : Expr} {pos : Pos} {x : Str} {p apos cpos : Pos}
/-- xs.append(e) -/
def appS (i : Nat) (f : Env → Res D) : Env → Fl := fun δ => match ownAt i δ with
  | some ds => onR (f δ) δ fun d => if ds.length < sizeLine then .nx (δ.set i (.own (ds ++ [d]))) else .err
  | none => .err
theorem PSp.append (c : Ctx X N sc fn) (i : Nat) {f : Env → Res D} (h : PEp X W e f) (hN : N[i]? = some x := by rfl) (hv : isVis sc x = true := by rfl) (hd : (x == ("__debug__" : Str)) = false := by decide) (hcd : (x == ("__classdict__" : Str)) = false := by decide)
    (hbase : attributeBase (.Name x p) "append" X.env (eval (.Name x p) X.env) = eval (.Name x p) X.env := by rfl)
    (hfew : ((backTo cpos (starEach [e] X.env)).all (fun x => !x.1) && (backToKw cpos (keywordEach [] X.env)).all (fun x => x.1.isSome)
      && decide (([e] : List Expr).length + ([] : List Keyword).length + (if ([] : List Keyword).isEmpty then 0 else 1) < 30)) = true := by rfl)
    (hline : (apos.endLine == cpos.line) = true := by rfl) (hs : starEach [e] X.env = (false, eval e X.env) :: starEach [] X.env := by rfl)
    (hsw : swapsWith (.Call (.Attribute (.Name x p) "append" apos) [e] [] cpos) none pos.line X.env = pure false := by rfl) :
    PSp X W (.Expr (.Call (.Attribute (.Name x p) "append" apos) [e] [] cpos) pos) (appS i f) := by
  obtain ⟨t, pe, q⟩ := h
  refine ⟨_, ps_expr (pe_bm PySem.F.plainAttrs_list PySem.F.slot_list_append PySem.F.type_list_append mt_append (pe_var (i := i) (by rw [c.hN]; exact hN) (c.vis hv) hd hcd) (pa_cons pe pa_nil hs) hbase hfew hline hs rfl) hsw, fun C F δ σ H E s g => ?_⟩
  unfold appS at g
  split at g
  · rename_i ds e0
    have e0 := ownAt_of e0
    obtain ⟨G, g', a, vs, h1, h2, h3, h4⟩ := s.get e0
    refine ⟨_, join_some h1, .inl ⟨rfl, vs, SqL.of h3⟩, q C F δ σ H _ s (Gs.on s g fun d F' H' x s' k v r => ?_)⟩
    split at k
    · rename_i hz
      have h4' := RpA.mono x.ff _ _ h4
      refine ⟨a, vs, v, rfl, rfl, x.hh _ _ h3, by rw [h4.length]; exact hz, ?_⟩
      exact k F' σ _ (Same.refl _) (s'.put_own e0 h1 (h4'.append (.one r)))
    · exact False.elim k
  · exact False.elim g
/-- xs.extend(e) -/
def extS (i : Nat) (f : Env → Res D) : Env → Fl := fun δ => match ownAt i δ with
  | some ds => onR (f δ) δ fun d => match d with
    | .list es => if (ds ++ es).length ≤ sizeLine then .nx (δ.set i (.own (ds ++ es))) else .err
    | _ => .err
  | none => .err
theorem PSp.extend (c : Ctx X N sc fn) (i : Nat) {f : Env → Res D} (h : PRp X W e f) (hN : N[i]? = some x := by rfl) (hv : isVis sc x = true := by rfl) (hd : (x == ("__debug__" : Str)) = false := by decide) (hcd : (x == ("__classdict__" : Str)) = false := by decide)
    (hbase : attributeBase (.Name x p) "extend" X.env (eval (.Name x p) X.env) = eval (.Name x p) X.env := by rfl)
    (hfew : ((backTo cpos (starEach [e] X.env)).all (fun x => !x.1) && (backToKw cpos (keywordEach [] X.env)).all (fun x => x.1.isSome)
      && decide (([e] : List Expr).length + ([] : List Keyword).length + (if ([] : List Keyword).isEmpty then 0 else 1) < 30)) = true := by rfl)
    (hline : (apos.endLine == cpos.line) = true := by rfl) (hs : starEach [e] X.env = (false, eval e X.env) :: starEach [] X.env := by rfl)
    (hsw : swapsWith (.Call (.Attribute (.Name x p) "extend" apos) [e] [] cpos) none pos.line X.env = pure false := by rfl) :
    PSp X W (.Expr (.Call (.Attribute (.Name x p) "extend" apos) [e] [] cpos) pos) (extS i f) := by
  obtain ⟨t, pe, q⟩ := h
  refine ⟨_, ps_expr (pe_bm PySem.F.plainAttrs_list PySem.F.slot_list_extend PySem.F.type_list_extend mt_extend (pe_var (i := i) (by rw [c.hN]; exact hN) (c.vis hv) hd hcd) (pa_cons pe pa_nil hs) hbase hfew hline hs rfl) hsw, fun C F δ σ H E s g => ?_⟩
  unfold extS at g
  split at g
  · rename_i ds e0
    have e0 := ownAt_of e0
    obtain ⟨G, g', a, vs, h1, h2, h3, h4⟩ := s.get e0
    refine ⟨_, join_some h1, .inl ⟨rfl, vs, SqL.of h3⟩, q C F δ σ H _ s (Gs.on s g fun d F' H' x s' k v r => ?_)⟩
    cases d with
    | list es =>
      dsimp only at k
      split at k
      · rename_i hz
        obtain ⟨b, ws, ex, hb, rb⟩ := r
        have h4' := RpA.mono x.ff _ _ h4
        refine ⟨a, b, vs, ws, rfl, by rw [ex], x.hh _ _ h3, hb, by rw [h4.length, rb.length, ← List.length_append]; exact hz, ?_⟩
        exact k F' σ _ (Same.refl _) (s'.put_own e0 h1 (h4'.append rb))
      · exact False.elim k
    | _ => exact False.elim k
  · exact False.elim g
/-- xs[k] = e -/
def setIS (i : Nat) (fk f : Env → Res D) : Env → Fl := fun δ => match δ[i]? with
  | some (.own ds) => onR ((f δ).bind fun d => (fk δ).bind fun k => .ok (d, k)) δ fun p => (match p.2 with
    | .int k => (match ixN ds.length k with
      | some j => .nx (δ.set i (.own (ds.set j p.1)))
      | none => .err)
    | _ => .err)
  | some (.ownK kvs) => onR ((f δ).bind fun d => (fk δ).bind fun k => .ok (d, k)) δ fun p => (match keyOf p.2 with
    | some k => if kvs.length < sizeLine then .nx (δ.set i (.ownK (putKD kvs k p.1))) else .err
    | none => .err)
  | _ => .err
/-- by values: lists and dicts -/
def rSetD : V → V → V → Hp → (Hp → Prop) → Prop := fun o i v H Q => ∃ a H', o = .ref a ∧ DPut H a i v H' ∧ Q H'
theorem set_dict (hu : X.A.units + 1 < cLine) : PSet X rSetD := by
  intro pins s σ H o i v ov iv u Q I ro ri rv h
  obtain ⟨a, H', eo, g, q⟩ := h
  subst eo
  obtain rfl : ov = Value.ref a := ro
  exact d_setItem hu I g ri rv fun s' I' => ⟨H', I', q⟩
theorem PSet.or {t t' : TSet} (h : PSet X t) (h' : PSet X t') : PSet X (fun o i v H Q => t o i v H Q ∨ t' o i v H Q) := by
  intro pins s σ H o i v ov iv u Q I ro ri rv q
  rcases q with q | q
  · exact h pins s σ H o i v ov iv u Q I ro ri rv q
  · exact h' pins s σ H o i v ov iv u Q I ro ri rv q
theorem PSp.setI {k : Expr} {spos : Pos} (c : Ctx X N sc fn) (i : Nat) {f fk : Env → Res D} (h : PEp X W e f) (hk : PRp X W k fk) (hN : N[i]? = some x := by rfl) (hv : isVis sc x = true := by rfl) (hd : (x == ("__debug__" : Str)) = false := by decide) (hcd : (x == ("__classdict__" : Str)) = false := by decide)
    (ha : ∀ v, assign (.Subscript (.Name x p) k spos) X.env v = (do
      let ov ← holding [v] (eval (.Name x p) X.env)
      let iv ← holding [v, ov] (eval k X.env)
      standAt spos
      holding [v, ov, iv] (setItem ov iv v)
      release [v, ov, iv] []) := by intro _; rfl)
    (hs : swapsWithSole [.Subscript (.Name x p) k spos] e pos.line X.env = pure false := by rfl) (hw : swappedStores [.Subscript (.Name x p) k spos] e X.env = pure none := by rfl)
    (h1 : (assignEach [.Subscript (.Name x p) k spos] X.env).map (·.2) = [assign (.Subscript (.Name x p) k spos) X.env] := by rfl) :
    PSp X W (.Assign [.Subscript (.Name x p) k spos] e pos) (setIS i fk f) := by
  obtain ⟨t, pe, q⟩ := h
  obtain ⟨u, pk, qk⟩ := hk
  refine ⟨_, ps_asg pe (pg_sub (pe_var (i := i) (by rw [c.hN]; exact hN) (c.vis hv) hd hcd) pk (PSet.or set_list (set_dict c.u1)) ha) hs hw h1, fun C F δ σ H E s g => ?_⟩
  unfold setIS at g
  split at g
  · rename_i ds e0
    obtain ⟨G, g', a, vs, h1, h2, h3, h4⟩ := s.get e0
    have g1 : Gd W σ F H ((f δ).bind fun d => (fk δ).bind fun k => .ok (d, k)) (fun p F' H' => Ext F H F' H' ∧ Sat X.K C F' δ σ H' ∧ Gs X.K W C F' E _) := Gs.on s g fun p F' H' x s' h' => ⟨x, s', h'⟩
    refine q C F δ σ H _ s (g1.bind.mono fun d F1 H1 x1 g2 v rv => ?_)
    refine ⟨_, join_some h1, qk C F1 δ σ H1 _ (s.ext x1) (g2.bind.mono fun k F2 H2 x2 g3 z rz => ?_)⟩
    obtain ⟨x3, s', g4⟩ := g3.ok (Ext.refl x2.le)
    dsimp only at g4
    split at g4
    · rename_i k
      split at g4
      · rename_i j ej
        have h4' := RpA.mono x3.ff _ _ h4
        refine .inl ⟨a, vs, k, j, rfl, Rt.int rz, x3.hh _ _ h3, by rw [h4.length]; exact ej, ?_⟩
        exact g4 F2 σ _ (Same.refl _) (s'.put_own e0 h1 (h4'.set (Rp.mono x2.ff _ _ rv) j))
      · exact False.elim g4
    · exact False.elim g4
  · rename_i ds e0
    obtain ⟨G, g', a, vs, h1, h2, h3, h4⟩ := s.get e0
    have g1 : Gd W σ F H ((f δ).bind fun d => (fk δ).bind fun k => .ok (d, k)) (fun p F' H' => Ext F H F' H' ∧ Sat X.K C F' δ σ H' ∧ Gs X.K W C F' E _) := Gs.on s g fun p F' H' x s' h' => ⟨x, s', h'⟩
    refine q C F δ σ H _ s (g1.bind.mono fun d F1 H1 x1 g2 v rv => ?_)
    refine ⟨_, join_some h1, qk C F1 δ σ H1 _ (s.ext x1) (g2.bind.mono fun k F2 H2 x2 g3 z rz => ?_)⟩
    obtain ⟨x3, s', g4⟩ := g3.ok (Ext.refl x2.le)
    dsimp only at g4
    split at g4
    · rename_i k ek
      split at g4
      · rename_i hz
        have h4' := RpK.mono x3.ff _ _ h4
        refine .inr ⟨a, _, rfl, ?_, g4 F2 σ _ (Same.refl _) (s'.put_ownK e0 h1 (h4'.put k (Rp.mono x2.ff _ _ rv)))⟩
        rw [rz.key ek]
        exact DPut.k (x3.hh _ _ h3) (by rw [h4.length]; exact hz)
      · exact False.elim g4
    · exact False.elim g4
  · exact False.elim g

/-! ### loops -/
variable {body : List Stmt} {fb : Env → Fl}
/-- the turns of a for: the slots is are forgotten ahead of each turn and behind the last -/
def loopL (is : List Nat) (g : D → Env → Option Env) (fb : Env → Fl) : List D → Env → Fl
  | [], δ => .nx (fgE is δ)
  | d :: ds, δ => match g d (fgE is δ) with
    | none => .err
    | some δ1 => match fb δ1 with
      | .nx δ2 => loopL is g fb ds δ2
      | .ct δ2 => loopL is g fb ds δ2
      | .bk δ2 => .nx (fgE is δ2)
      | .rt d => .rt d
      | .rf ds => .rf ds
      | .rn i δ => .rn i δ
      | .rb d δ => .rb d δ
      | .exc c δ => .exc c δ
      | .err => .err
def forS (is : List Nat) (fi : Env → Res (List D)) (g : D → Env → Option Env) (fb : Env → Fl) : Env → Fl := fun δ => onR (fi δ) δ fun ds => loopL is g fb ds δ
theorem PSp.for_ {tg iter : Expr} {js : List Nat} {fi : Env → Res (List D)} {g : D → Env → Option Env} (c : Ctx X N sc fn) (is : List Nat) (hi : PIp X W tg iter fi) (hg : PGp X tg js g) (hb : PSsp X W body fb) (hs : ∀ x, foldedSetIterable iter X.env x = pure x := by intro _; rfl) :
    PSp X W (.For tg iter body [] pos) (forS is fi g fb) := by
  obtain ⟨wi, pi_, qi⟩ := hi
  obtain ⟨t1, p1, q1⟩ := hg
  obtain ⟨t2, p2, q2⟩ := hb
  refine ⟨_, ps_for c.po c.calm pi_ p1 p2 hs, fun C F δ σ H E s h => ?_⟩
  refine qi C F δ σ H _ s (Gs.on s h fun ds F1 H1 x1 s1 h1 J wk => ?_)
  refine ⟨fun i m σi Hi => ∃ Fi δi, m = ds.length - i ∧ i ≤ ds.length ∧ Same F1 Fi ∧ Sat X.K C Fi δi σi Hi ∧ Gs X.K W C Fi E (loopL is g fb (ds.drop i) δi), ⟨ds.length, F1, δ, by simp, Nat.zero_le _, Same.refl _, s1, by rw [List.drop_zero]; exact h1⟩, ?_⟩
  rintro i m σi Hi ⟨Fi, δi, rfl, hi, ei, si, gi⟩
  obtain ⟨ws, wg⟩ := wk i Fi Hi ei si.le
  by_cases hlt : i < ds.length
  · right
    have hd : ds[i]? = some ds[i] := by rw [List.getElem?_eq_getElem hlt]
    obtain ⟨go, yld⟩ := wg _ hd
    rw [List.drop_eq_getElem_cons hlt] at gi
    refine ⟨go, fun σ' H' => ∃ F' δ', Same F1 F' ∧ Sat X.K C F' δ' σ' H' ∧ Gs X.K W C F' E (loopL is g fb (ds.drop (i + 1)) δ'), fun σ' H' ⟨F', δ', k1, k2, k3⟩ => ⟨ds.length - (i + 1), by omega, F', δ', rfl, hlt, k1, k2, k3⟩, fun x H2 hy => ?_⟩
    obtain ⟨F2, x2, rx⟩ := yld x H2 hy
    have s2 := (si.ext x2).fg is
    have gi := gi.mono x2.ff
    unfold loopL at gi
    cases eg : g ds[i] (fgE is δi) with
    | none => rw [eg] at gi; exact False.elim gi
    | some δ1 =>
      rw [eg] at gi
      dsimp only at gi
      refine q1 C F2 _ σi H2 x ds[i] _ s2 rx ⟨δ1, eg, fun ps _ s3 => ?_⟩
      refine q2 C F2 δ1 _ H2 _ s3 ?_
      have e12 := ei.trans x2.ff
      cases ef : fb δ1 with
      | nx δ2 => rw [ef] at gi; exact fun F' σ' H' e s4 => ⟨F', δ2, e12.trans e, s4, gi.mono e⟩
      | ct δ2 => rw [ef] at gi; exact fun F' σ' H' e s4 => ⟨F', δ2, e12.trans e, s4, gi.mono e⟩
      | bk δ2 => rw [ef] at gi; exact fun F' σ' H' e s4 => gi F' σ' H' e (s4.fg is)
      | rt d => rw [ef] at gi; exact gi
      | rf ds => rw [ef] at gi; exact gi
      | rn i δ => rw [ef] at gi; exact gi
      | rb d δ => rw [ef] at gi; exact gi
      | exc c δ => rw [ef] at gi; exact gi
      | err => rw [ef] at gi; exact False.elim gi
  · left
    have e : i = ds.length := by omega
    subst e
    rw [List.drop_length] at gi
    exact ⟨ws (Nat.le_refl _), gi Fi σi Hi (Same.refl _) (si.fg is)⟩
/-- the turns of a while, at most n -/
def whileN (is : List Nat) (t : Env → Res Bool) (fb : Env → Fl) : Nat → Env → Fl
  | 0, _ => .err
  | n + 1, δ => onR (t (fgE is δ)) (fgE is δ) fun b => if b = true then (match fb (fgE is δ) with
      | .nx δ2 => whileN is t fb n δ2
      | .ct δ2 => whileN is t fb n δ2
      | .bk δ2 => .nx (fgE is δ2)
      | .rt d => .rt d
      | .rf ds => .rf ds
      | .rn i δ => .rn i δ
      | .rb d δ => .rb d δ
      | .exc c δ => .exc c δ
      | .err => .err) else .nx (fgE is δ)
def whileS (is : List Nat) (μ : Env → Nat) (t : Env → Res Bool) (fb : Env → Fl) : Env → Fl := fun δ => whileN is t fb (μ δ) δ
theorem PSp.while_ {t : Env → Res Bool} {cnd : Expr} (c : Ctx X N sc fn) (is : List Nat) (μ : Env → Nat) (ht : PBp X W cnd t) (hb : PSsp X W body fb) : PSp X W (.While cnd body [] pos) (whileS is μ t fb) := by
  obtain ⟨_, t1, p1, q1⟩ := ht
  obtain ⟨t2, p2, q2⟩ := hb
  refine ⟨_, ps_while c.po p1 p2, fun C F δ σ H E s h => ?_⟩
  refine ⟨fun m σi Hi => ∃ Fi δi, Same F Fi ∧ Sat X.K C Fi δi σi Hi ∧ Gs X.K W C Fi E (whileN is t fb m δi), ⟨μ δ, F, δ, Same.refl _, s, h⟩, ?_⟩
  rintro m σi Hi ⟨Fi, δi, ei, si, gi⟩
  cases m with
  | zero => exact False.elim gi
  | succ m =>
    have si := si.fg is
    refine q1 C Fi _ σi Hi _ si (Gs.on si gi fun b F2 H2 x2 s2 g2 => ?_)
    cases b with
    | false => rw [if_neg Bool.false_ne_true] at g2 ⊢; exact g2 F2 σi H2 (Same.refl _) s2
    | true =>
      rw [if_pos rfl] at g2 ⊢
      refine ⟨fun σ' H' => ∃ F' δ', Same F F' ∧ Sat X.K C F' δ' σ' H' ∧ Gs X.K W C F' E (whileN is t fb m δ'), fun σ' H' k => ⟨m, Nat.lt_succ_self _, k⟩, ?_⟩
      refine q2 C F2 _ σi H2 _ s2 ?_
      have e12 := ei.trans x2.ff
      cases ef : fb (fgE is δi) with
      | nx δ2 => rw [ef] at g2; exact fun F' σ' H' e s4 => ⟨F', δ2, e12.trans e, s4, g2.mono e⟩
      | ct δ2 => rw [ef] at g2; exact fun F' σ' H' e s4 => ⟨F', δ2, e12.trans e, s4, g2.mono e⟩
      | bk δ2 => rw [ef] at g2; exact fun F' σ' H' e s4 => g2 F' σ' H' e (s4.fg is)
      | rt d => rw [ef] at g2; exact g2
      | rf ds => rw [ef] at g2; exact g2
      | rn i δ => rw [ef] at g2; exact g2
      | rb d δ => rw [ef] at g2; exact g2
      | exc c δ => rw [ef] at g2; exact g2
      | err => rw [ef] at g2; exact False.elim g2

/-! ### what is asked of an own list is told at once, and leans on nothing of it -/
def impR (r : Res D) : Res D := r.bind fun d => if imm d = true then .ok d else .err
def tmpD (i : Nat) (f : Env → Res D) : Env → Res D := fun δ => impR (f (frzE i δ))
theorem PEp.tmp (i : Nat) {f : Env → Res D} (h : PEp X W e f) : PEp X W e (tmpD i f) := by
  obtain ⟨t, p, q⟩ := h
  refine ⟨t, p, fun C F δ σ H Q s g => ?_⟩
  unfold tmpD at g
  obtain ⟨F1, e1, s1, off⟩ := s.frz i
  refine q C F1 _ σ H Q s1 ?_
  cases r : f (frzE i δ) with
  | ok d =>
    rw [r] at g
    intro F' H' x v rv
    obtain ⟨F2, x2, ts, sm⟩ := off F' H' x
    dsimp only [impR, Res.bind] at g
    split at g
    · rename_i him
      exact g F2 H' x2 v (Rp.imm ts d v him rv)
    · exact False.elim g
  | exc c =>
    rw [r] at g
    intro F' H' x
    obtain ⟨F2, x2, ts, sm⟩ := off F' H' x
    exact g F2 H' x2
  | err => rw [r] at g; exact False.elim g
def impF (r : Res (List D)) : Res (List D) := r.bind fun d => if immA d = true then .ok d else .err
def tmpF (i : Nat) (f : Env → Res (List D)) : Env → Res (List D) := fun δ => impF (f (frzE i δ))
theorem PFp.tmp (i : Nat) {f : Env → Res (List D)} (h : PFp X W e f) : PFp X W e (tmpF i f) := by
  obtain ⟨t, p, q⟩ := h
  refine ⟨t, p, fun C F δ σ H Q s g => ?_⟩
  unfold tmpF at g
  obtain ⟨F1, e1, s1, off⟩ := s.frz i
  refine q C F1 _ σ H Q s1 ?_
  cases r : f (frzE i δ) with
  | ok d =>
    rw [r] at g
    intro F' H' x a vs h1 h2 h3 h4
    obtain ⟨F2, x2, ts, sm⟩ := off F' H' x
    dsimp only [impF, Res.bind] at g
    split at g
    · rename_i him
      exact g F2 H' x2 a vs h1 (sm.free h2) h3 (RpA.imm ts d vs him h4)
    · exact False.elim g
  | exc c =>
    rw [r] at g
    intro F' H' x
    obtain ⟨F2, x2, ts, sm⟩ := off F' H' x
    exact g F2 H' x2
  | err => rw [r] at g; exact False.elim g
def tmpB (i : Nat) (f : Env → Res Bool) : Env → Res Bool := fun δ => f (frzE i δ)
theorem PBp.tmp (i : Nat) {f : Env → Res Bool} (h : PBp X W e f) : PBp X W e (tmpB i f) := by
  obtain ⟨⟨t, p, q⟩, t', p', q'⟩ := h
  have main : ∀ {P : Bool → Hp → Prop} {F1 F H : Hp} {σ : L2.St} {δ : Env}, (∀ F' H', Ext F1 H F' H' → ∃ F2, Ext F H F2 H' ∧ TupSame F' F2 ∧ Same F2 F') → Gd W σ F H (f δ) (fun b _ H' => P b H') → Gd W σ F1 H (f δ) (fun b _ H' => P b H') := by
    intro P F1 F H σ δ off g
    cases r : f δ with
    | ok b =>
      rw [r] at g
      intro F' H' x
      obtain ⟨F2, x2, _⟩ := off F' H' x
      exact g F2 H' x2
    | exc c =>
      rw [r] at g
      intro F' H' x
      obtain ⟨F2, x2, _⟩ := off F' H' x
      exact g F2 H' x2
    | err => rw [r] at g; exact False.elim g
  refine ⟨⟨t, p, fun C F δ σ H Q s g => ?_⟩, ⟨t', p', fun C F δ σ H Q s g => ?_⟩⟩
  · obtain ⟨F1, e1, s1, off⟩ := s.frz i
    exact q C F1 _ σ H Q s1 (main (P := fun b H' => Q (.bl b) H') off g)
  · obtain ⟨F1, e1, s1, off⟩ := s.frz i
    exact q' C F1 _ σ H Q s1 (main (P := fun b H' => Q b H') off g)
end

/-! ### a def as a whole -/
/-- the environment at the entry -/
def startE (n : Nat) (ds : List D) : Env := ds.map Sl.val ++ List.replicate (n - ds.length) .no
/-- what a def hands back -/
def runD (f : Env → Fl) (n : Nat) (ds : List D) : Res D := match f (startE n ds) with
  | .rt d => .ok d
  | .rf es => .ok (.list es)
  | .nx _ => .ok .none
  | _ => .err
/-- .. or raises -/
def runX (f : Env → Fl) (n : Nat) (ds : List D) : Res D := match f (startE n ds) with
  | .rt d => .ok d
  | .rf es => .ok (.list es)
  | .nx _ => .ok .none
  | .exc c _ => .exc c
  | _ => .err
def runF (f : Env → Fl) (n : Nat) (ds : List D) : Res (List D) := match f (startE n ds) with
  | .rf es => .ok es
  | _ => .err
theorem sat_start {K : PySem.W.Frag} {F H : Hp} {N : List Str} {vs : List V} {ds : List D} (le : Same F H) (tf : TF F H) (r : RpA K F vs ds) : Sat K ⟨F, H, fun _ => False, fun _ => .non⟩ F (startE N.length ds) (L2.start N vs) H := by
  have hl := r.length
  refine ⟨fun _ => none, le, Same.refl _, fun a o e => .inl e, fun a o e => .inr (.of e), fun a z => z.elim, fun a i e => (nomatch e), fun a i e => (nomatch e), fun a i e => (nomatch e), ?_, tf, fun i s e => ?_⟩
  · unfold L2.start startE
    rw [List.length_append, List.length_append, List.length_map, List.length_map, List.length_replicate, List.length_replicate, hl]
  · unfold startE at e
    by_cases hi : i < ds.length
    · rw [List.getElem?_append_left (by rw [List.length_map]; exact hi), List.getElem?_map] at e
      cases hd : ds[i]? with
      | none => rw [hd] at e; cases e
      | some d =>
        rw [hd] at e
        cases e
        obtain ⟨v, hv, rv⟩ := r.get hd
        unfold L2.start
        rw [List.getElem?_append_left (by rw [List.length_map, hl]; exact hi), List.getElem?_map, hv]
        exact ⟨v, rfl, rv⟩
    · rw [List.getElem?_append_right (by rw [List.length_map]; omega), List.getElem?_replicate] at e
      split at e
      · cases e; trivial
      · cases e
theorem Sat.ext0 {K : PySem.W.Frag} {F0 H0 F H : Hp} {δ : Env} {σ : L2.St} (s : Sat K ⟨F0, H0, fun _ => False, fun _ => .non⟩ F δ σ H) : Ext F0 H0 F H := by
  obtain ⟨G, g⟩ := s
  refine ⟨g.f0, fun a o e => ?_, g.le, fun a o e => ?_, fun _ => g.tf.1, fun _ => g.tf.2⟩
  · rcases g.nw a o e with z | z | z
    · exact .inl z
    · exact .inr z
    · exact z.elim
  · rcases g.keep a o e with z | z
    · exact z.elim
    · exact z
section
variable {P : Program} {w : World} {K : PySem.W.Frag} {mg : Str → Option Value} {base : Heap} {x qual : Str} {st : Stmt} {f : Addr} {fd : FuncData} {N ps : List Str} {k : Nat} {fb : Env → Fl}
theorem ctx_nox (S : FnScope N ps (defScope st)) {CX : CXT} {A : Around} {outer : List PySem.Env} {s : Shared} {H : Hp} {E : XK} {cdv : Value} (hr : Room k (A.deeper (envOfC qual (defScope st) s.heap.objs.size f cdv))) :
    Ctx (cxOf CX P w K mg base N qual (defScope st) f cdv A outer s H E).nox N (defScope st) (fun _ => true) :=
  ⟨rfl, S.nd, rfl, rfl, rfl, by have := hr.un; show (A.deeper _).units + 100 < cLine; omega, PassesOwn.never⟩
theorem len_of {n : Nat} {φ : List D → Res D} (hn : n = ps.length) : ∀ vs H Q E, spF K mg n φ vs H Q E → vs.length = ps.length := fun vs H Q E ⟨F, ds, h1, h0, h2, h3, _⟩ => by rw [h2.length, h3, hn]
theorem len_ofN {n : Nat} {φ : List D → Res (List D)} (hn : n = ps.length) : ∀ vs H Q E, spN K mg n φ vs H Q E → vs.length = ps.length := fun vs H Q E ⟨F, ds, h1, h0, h2, h3, _⟩ => by rw [h2.length, h3, hn]
/-- a def that raises nothing, by its body -/
theorem ok_def (Fn : Fun K x qual st f fd) (S : FnScope N ps (defScope st)) (n : Nat) (hn : n = ps.length) (m : Nat) (hm : N.length = m)
    (hb : ∀ X : Cx, X.prog = P → X.w = w → X.K = K → X.mg = mg → X.base = base → Room k X.A → X.env.scope.kind = .function → Ctx X N (defScope st) (fun _ => true) → PSsp X W0 (defBody st) fb) :
    FnOk P w K mg base CX0 (k + 1) f fd ps (spF K mg n (runD fb m)) := by
  refine Fn.ok S (len_of hn) fun cdv A outer s H vs Q E hr h => ?_
  obtain ⟨t, p, q⟩ := hb (cxOf CX0 P w K mg base N qual (defScope st) f cdv A outer s H E).nox rfl rfl rfl rfl rfl hr S.kind (ctx_nox S hr)
  refine ⟨t, p, ?_⟩
  obtain ⟨F, ds, h1, h0, h2, h3, h4⟩ := h
  have s0 := sat_start (N := N) h1 h0 h2
  rw [hm] at s0
  refine q ⟨F, H, fun _ => False, fun _ => .non⟩ F _ _ H _ s0 ?_
  unfold runD at h4
  cases r : fb (startE m ds) with
  | nx δ => rw [r] at h4; exact fun F' σ' H' e s => h4 F' H' s.ext0 _ .non
  | rt d => rw [r] at h4; exact fun F' δ' σ' H' v e s rv => h4 F' H' s.ext0 v rv
  | rf es =>
    rw [r] at h4
    intro F' δ' σ' H' a ws e s h5 h6 h7 h8
    have z : H a = none := h5.elim id False.elim
    exact h4 _ H' (s.ext0.frz z h6 h7) _ (.lst upd_same (RpA.mono (same_new h6 _) _ _ h8))
  | rn i δ => rw [r] at h4; exact h4.elim
  | rb d δ => rw [r] at h4; exact h4.elim
  | bk δ => rw [r] at h4; exact h4.elim
  | ct δ => rw [r] at h4; exact h4.elim
  | exc c δ => rw [r] at h4; exact h4.elim
  | err => rw [r] at h4; exact h4.elim
theorem ok_defN (Fn : Fun K x qual st f fd) (S : FnScope N ps (defScope st)) (n : Nat) (hn : n = ps.length) (m : Nat) (hm : N.length = m)
    (hb : ∀ X : Cx, X.prog = P → X.w = w → X.K = K → X.mg = mg → X.base = base → Room k X.A → X.env.scope.kind = .function → Ctx X N (defScope st) (fun _ => true) → PSsp X W0 (defBody st) fb) :
    FnOk P w K mg base CX0 (k + 1) f fd ps (spN K mg n (runF fb m)) := by
  refine Fn.ok S (len_ofN hn) fun cdv A outer s H vs Q E hr h => ?_
  obtain ⟨t, p, q⟩ := hb (cxOf CX0 P w K mg base N qual (defScope st) f cdv A outer s H E).nox rfl rfl rfl rfl rfl hr S.kind (ctx_nox S hr)
  refine ⟨t, p, ?_⟩
  obtain ⟨F, ds, h1, h0, h2, h3, h4⟩ := h
  have s0 := sat_start (N := N) h1 h0 h2
  rw [hm] at s0
  refine q ⟨F, H, fun _ => False, fun _ => .non⟩ F _ _ H _ s0 ?_
  unfold runF at h4
  cases r : fb (startE m ds) with
  | rf es =>
    rw [r] at h4
    intro F' δ' σ' H' a ws e s h5 h6 h7 h8
    exact h4 F' H' s.ext0 a ws (h5.elim id False.elim) h6 h7 h8
  | _ => rw [r] at h4; exact h4.elim
end
end
end DL
/-! DL5: two stores in one; defs known at the top. -/
namespace DL
open PySem PySem.Spec PyProof.Rows L2
variable [TabP]
def isStar : Expr → Bool
  | .Starred .. => true
  | _ => false
theorem sw2 {env : PySem.Env} {a b : Expr} {x y : Str} {px py pt pt2 : Pos} {kt k2 : Nat} (hk : env.blockKind = .function) (hx : env.kindOf x = some .local) (hy : env.kindOf y = some .local)
    (hl : py.line = px.line) (hxy : x ≠ y) (hva : isStar a = false) (hvb : isStar b = false) (hf : ([a, b].all (foldedForSure 8)) = false) (hc : ([a, b].all (constantsAlone 8)) = false) :
    swappedStores [.Tuple [.Name x px, .Name y py] kt pt] (.Tuple [a, b] k2 pt2) env = pure (some [x, y]) := by
  unfold swappedStores
  have e : ([x, y] : List Str).eraseDups = [x, y] := by
    have : (y == x) = false := by simpa using fun h => hxy h.symm
    simp [List.eraseDups_cons, this]
  simp [hk, hx, hy, hl, hf, hc, Expr.pos]
  have h1 : ∀ p q : Prop, ¬ p → ¬ q → ¬ (p ∨ q) := fun _ _ h k z => z.elim h k
  rw [if_neg (h1 _ _ (by intro h; split at h; cases hva; cases h) (by intro h; split at h; cases hvb; cases h)), e]
  rfl

section
variable {X : Cx} {N : List Str} {sc : Scope} {fn : Str → Bool} {W : WS}
theorem PSp.par2 {a b : Expr} {fa fb : Env → Res D} {x y : Str} {px py pt pt2 pos : Pos} {kt k2 : Nat} (c : Ctx X N sc fn) (i j : Nat) (ha : PEp X W a fa) (hb : PEp X W b fb) (hk : X.env.scope.kind = .function) (hi : N[i]? = some x := by rfl) (hj : N[j]? = some y := by rfl) (hij : i ≠ j := by decide)
    (hx : sc.names.lookup x = some .local := by rfl) (hy : sc.names.lookup y = some .local := by rfl) (hab : starEach [a, b] X.env = (false, eval a X.env) :: starEach [b] X.env := by rfl) (hb' : starEach [b] X.env = (false, eval b X.env) :: starEach [] X.env := by rfl)
    (hl : py.line = px.line := by rfl) (hxy : x ≠ y := by decide) (hva : isStar a = false := by rfl) (hvb : isStar b = false := by rfl) (hf : ([a, b].all (foldedForSure 8)) = false := by rfl) (hc : ([a, b].all (constantsAlone 8)) = false := by rfl)
    (hs : swapsWithSole [.Tuple [.Name x px, .Name y py] kt pt] (.Tuple [a, b] k2 pt2) pos.line X.env = pure false := by rfl) :
    PSp X W (.Assign [.Tuple [.Name x px, .Name y py] kt pt] (.Tuple [a, b] k2 pt2) pos) (parS i j fa fb) := by
  refine PSp.par c i j ha hb hi hj hij hx hy hab hb' (sw2 ?_ ?_ ?_ hl hxy hva hvb hf hc) hs
  · unfold PySem.Env.blockKind; rw [hk]; rfl
  · exact (congrArg (fun s : Scope => s.names.lookup x) c.sc).trans hx
  · exact (congrArg (fun s : Scope => s.names.lookup y) c.sc).trans hy
end

section
variable {X : Cx} {N : List Str} {sc : Scope} {fn : Str → Bool} {W : WS}
theorem sw_cell (c : Ctx X N sc fn) {x : Str} {e : Expr} {g : List Comprehension} {s : Scope} {p pos' : Pos} {l : Nat} (h : sc.names.lookup x = some .cell := by rfl) : swapsWith (.ListComp e g s p) (some (.Name x pos')) l X.env = pure false := by
  have hk : X.env.kindOf x = some .cell := (congrArg (fun s : Scope => s.names.lookup x) c.sc).trans h
  have h2 : (NameKind.cell == NameKind.local) = false := by decide
  unfold swapsWith
  simp [hk, h2]
end

/-! ### a for over a list of one's own -/
/-- slot i's list stands aside: its address is kept -/
theorem Sat.aside {K : PySem.W.Frag} {C : Ent} {F H : Hp} {δ : Env} {σ : L2.St} {i : Nat} {ds : List D} (s : Sat K C F δ σ H) (hi : δ[i]? = some (.own ds)) : ∃ (C' : Ent) (a : Addr) (vs : List V), (σ[i]?).join = some (.ref a) ∧ H a = some (.lst vs) ∧ RpA K F vs ds ∧ Sat K C' F (δ.set i .pin) σ H ∧
    (∀ F' δ' σ' H', Sat K C' F' δ' σ' H' → Same F F' ∧ H' a = some (.lst vs) ∧ (δ'[i]? = some .pin → Sat K C F' (δ'.set i (.own ds)) σ' H')) := by
  obtain ⟨G, g⟩ := s
  obtain ⟨a, vs, h1, h2, h3, h4⟩ := g.sl i _ hi
  refine ⟨⟨F, H, fun b => b ≠ a ∧ G b ≠ none, fun k => if k = i then .ref a else C.pins k⟩, a, vs, h1, h3, h4, ⟨fun b => if b = a then none else G b, g.le, Same.refl _, fun b o e => .inl e, fun b o e => .inr (.of e), fun b z e => ?_, fun b j z => ?_, fun b j z => ?_, fun b j z => ?_, by rw [List.length_set]; exact g.len, g.tf, fun j q e => ?_⟩, fun F' δ' σ' H' s' => ?_⟩
  · cases q : G b with
    | none => exact z.2 q
    | some j => exact g.live b j q e
  · by_cases hb : b = a
    · rw [if_pos hb] at z; cases z
    · rw [if_neg hb] at z; exact g.dis b j z
  · by_cases hb : b = a
    · rw [if_pos hb] at z; cases z
    · rw [if_neg hb] at z; exact g.live b j z
  · by_cases hb : b = a
    · rw [if_pos hb] at z; cases z
    · rw [if_neg hb] at z; exact .inr ⟨hb, by rw [z]; exact fun y => nomatch y⟩
  · by_cases hj : i = j
    · subst hj
      rw [List.getElem?_set_self (List.getElem?_eq_some_iff.mp hi).1] at e
      cases e
      show (σ[i]?).join = some (if i = i then V.ref a else C.pins i)
      rw [if_pos rfl]; exact h1
    · rw [List.getElem?_set_ne hj] at e
      have z := g.sl j q e
      have ne : ∀ {b : Addr}, G b = some j → (if b = a then none else G b) = some j := fun {b} y => by
        by_cases hb : b = a
        · rw [hb, h2] at y; cases y; exact absurd rfl hj
        · rw [if_neg hb]; exact y
      cases q with
      | no => trivial
      | bk p fz B =>
        obtain ⟨b, h1, h0, hb⟩ := z
        exact ⟨b, h1, fun y => by show (if j = i then V.ref a else C.pins j) = _; rw [if_neg (fun y => hj y.symm)]; exact h0 y, hb.mono (Same.refl _) (fun _ y => ne y) fun _ _ _ y _ => y⟩
      | pin =>
        show (σ[j]?).join = some (if j = i then V.ref a else C.pins j)
        rw [if_neg (fun y => hj y.symm)]; exact z
      | val d => exact z
      | own es =>
        obtain ⟨b, ws, k1, k2, k3, k4⟩ := z
        exact ⟨b, ws, k1, ne k2, k3, k4⟩
      | ownK es =>
        obtain ⟨b, ws, k1, k2, k3, k4⟩ := z
        exact ⟨b, ws, k1, ne k2, k3, k4⟩
      | deep es =>
        obtain ⟨b, ws, Fd, k1, k2, k3, k4⟩ := z
        exact ⟨b, ws, Fd, k1, ne k2, k3, fun ds e => (k4 ds e).mono (Same.refl _) (fun _ y => ne y) (k4 ds e).le⟩
      | ownN p kvs =>
        obtain ⟨b, es, k1, k2, k3, k4, k5⟩ := z
        exact ⟨b, es, k1, ne k2, k3, k4, fun y => by show (if j = i then V.ref a else C.pins j) = _; rw [if_neg (fun y => hj y.symm)]; exact k5 y⟩
      | bor p kvs =>
        obtain ⟨b, es, k1, k2, k3, k4, k5⟩ := z
        exact ⟨b, es, k1, (show (if b = a then none else G b) = none by
          split
          · rfl
          · exact k2), k3, k4, fun y => by show (if j = i then V.ref a else C.pins j) = _; rw [if_neg (fun y => hj y.symm)]; exact k5 y⟩
  · obtain ⟨G', g'⟩ := s'
    have ha : H' a = some (.lst vs) := by
      rcases g'.keep a _ h3 with z | z
      · exact absurd rfl z.1
      · exact z
    have fa : F a = none := g.dis a i h2
    have fa' : F' a = none := by
      cases q : F' a with
      | none => rfl
      | some o =>
        rcases g'.nw a o q with z | z | z
        · rw [show F a = some o from z] at fa; cases fa
        · rw [show H a = none from z] at h3; cases h3
        · exact absurd rfl z.1
    have ga' : G' a = none := by
      cases q : G' a with
      | none => rfl
      | some j =>
        rcases g'.mine a j q with z | z
        · rw [show H a = none from z] at h3; cases h3
        · exact absurd rfl z.1
    have own0 : ∀ b, (b ≠ a ∧ G b ≠ none) → C.H0 b = none ∨ C.own b := fun b z => by
      cases q : G b with
      | none => exact absurd q z.2
      | some j => exact g.mine b j q
    refine ⟨g'.f0, ha, fun hp => ⟨fun b => if b = a then some i else G' b, g'.le, g.f0.trans g'.f0, fun b o e => ?_, fun b o e => ?_, fun b z e => ?_, fun b j z => ?_, fun b j z => ?_, fun b j z => ?_, by rw [List.length_set]; exact g'.len, g'.tf, fun j q e => ?_⟩⟩
    · rcases g'.nw b o e with z | z | z
      · exact g.nw b o z
      · exact .inr (.inl (g.h0 (show H b = none from z)).1)
      · exact .inr (own0 b z)
    · rcases g.keep b o e with z | z
      · exact .inl z
      · cases q : H b with
        | none => exact absurd q z.some
        | some o2 =>
          rcases g'.keep b o2 q with y | y
          · rcases own0 b y with x | x
            · rw [x] at e; cases e
            · exact .inl x
          · rw [q] at z
            cases o with
            | tbl ps =>
              obtain ⟨qs, e3⟩ := z
              cases e3
              exact .inr y
            | _ =>
              have z : some o2 = some _ := z
              cases z
              exact .inr y
    · have hb := g.alive b z
      cases q : H b with
      | none => exact hb q
      | some o =>
        rcases g'.keep b o q with y | y
        · exact g'.alive b y e
        · exact y.some e
    · by_cases hb : b = a
      · rw [hb]; exact fa'
      · rw [if_neg hb] at z; exact g'.dis b j z
    · by_cases hb : b = a
      · rw [hb, ha]; exact fun y => nomatch y
      · rw [if_neg hb] at z; exact g'.live b j z
    · by_cases hb : b = a
      · rw [hb]; exact g.mine a i h2
      · rw [if_neg hb] at z
        rcases g'.mine b j z with y | y
        · exact .inl (g.h0 (show H b = none from y)).1
        · exact own0 b y
    · by_cases hj : i = j
      · subst hj
        have hl := (List.getElem?_eq_some_iff.mp hp).1
        rw [List.getElem?_set_self hl] at e
        cases e
        have z : (σ'[i]?).join = some (if i = i then V.ref a else C.pins i) := g'.sl i _ hp
        rw [if_pos rfl] at z
        exact ⟨a, vs, z, if_pos rfl, ha, RpA.mono g'.f0 _ _ h4⟩
      · rw [List.getElem?_set_ne hj] at e
        have z := g'.sl j q e
        have ne : ∀ {b : Addr}, G' b = some j → (if b = a then some i else G' b) = some j := fun {b} y => by
          by_cases hb : b = a
          · rw [hb, ga'] at y; cases y
          · rw [if_neg hb]; exact y
        cases q with
        | no => trivial
        | bk p fz B =>
          obtain ⟨b, h1, h0, hb⟩ := z
          exact ⟨b, h1, fun y => by have k6 : (if j = i then V.ref a else C.pins j) = .ref b := h0 y; rw [if_neg (fun y => hj y.symm)] at k6; exact k6, hb.mono (Same.refl _) (fun _ y => ne y) fun _ _ _ y _ => y⟩
        | pin =>
          have z : (σ'[j]?).join = some (if j = i then V.ref a else C.pins j) := z
          rw [if_neg (fun y => hj y.symm)] at z
          exact z
        | val d => exact z
        | own es =>
          obtain ⟨b, ws, k1, k2, k3, k4⟩ := z
          exact ⟨b, ws, k1, ne k2, k3, k4⟩
        | ownK es =>
          obtain ⟨b, ws, k1, k2, k3, k4⟩ := z
          exact ⟨b, ws, k1, ne k2, k3, k4⟩
        | deep es =>
          obtain ⟨b, ws, Fd, k1, k2, k3, k4⟩ := z
          exact ⟨b, ws, Fd, k1, ne k2, k3, fun ds e => (k4 ds e).mono (Same.refl _) (fun _ y => ne y) (k4 ds e).le⟩
        | ownN p kvs =>
          obtain ⟨b, es, k1, k2, k3, k4, k5⟩ := z
          exact ⟨b, es, k1, ne k2, k3, k4, fun y => by
            have k6 : (if j = i then V.ref a else C.pins j) = .ref b := k5 y
            rw [if_neg (fun y => hj y.symm)] at k6; exact k6⟩
        | bor p kvs =>
          obtain ⟨b, es, k1, k2, k3, k4, k5⟩ := z
          exact ⟨b, es, k1, by show (if b = a then some i else G' b) = none; rw [if_neg (fun y => by rw [y, ha] at k3; cases k3)]; exact k2, k3, k4, fun y => by
            have k6 : (if j = i then V.ref a else C.pins j) = .ref b := k5 y
            rw [if_neg (fun y => hj y.symm)] at k6; exact k6⟩
/-- the own list of slot i is put back -/
def backF (i : Nat) (ds : List D) : Fl → Fl
  | .nx δ => match δ[i]? with
    | some .pin => .nx (δ.set i (.own ds))
    | _ => .err
  | _ => .err
def forO (is : List Nat) (i : Nat) (g : D → Env → Option Env) (fb : Env → Fl) : Env → Fl := fun δ => match δ[i]? with
  | some (.own ds) => backF i ds (loopL is g fb ds (δ.set i .pin))
  | _ => .err
section
variable {X : Cx} {N : List Str} {sc : Scope} {fn : Str → Bool} {W : WS} {pos : Pos} {body : List Stmt} {fb : Env → Fl}
theorem PSp.forO {tg : Expr} {js : List Nat} {g : D → Env → Option Env} {x : Str} {p : Pos} (c : Ctx X N sc fn) (is : List Nat) (i : Nat) (hg : PGp X tg js g) (hb : PSsp X W body fb) (hN : N[i]? = some x := by rfl) (hv : isVis sc x = true := by rfl) (hd : (x == ("__debug__" : Str)) = false := by decide) (hcd : (x == ("__classdict__" : Str)) = false := by decide)
    (hs : ∀ y, foldedSetIterable (.Name x p) X.env y = pure y := by intro _; rfl) : PSp X W (.For tg (.Name x p) body [] pos) (DL.forO is i g fb) := by
  obtain ⟨t1, p1, q1⟩ := hg
  obtain ⟨t2, p2, q2⟩ := hb
  refine ⟨_, ps_for c.po c.calm (pi_seq (pe_var (i := i) (by rw [c.hN]; exact hN) (c.vis hv) hd hcd)) p1 p2 hs, fun C F δ σ H E s h => ?_⟩
  unfold DL.forO at h
  cases hi : δ[i]? with
  | none => rw [hi] at h; exact False.elim h
  | some sl =>
    rw [hi] at h
    cases sl with
    | own ds =>
      dsimp only at h
      obtain ⟨C', a, vs, h1, h3, h4, s0, back⟩ := s.aside hi
      refine ⟨.ref a, join_some h1, .inl ⟨a, rfl, ⟨vs, SqL.of h3⟩, ?_⟩⟩
      refine ⟨fun k m σi Hi => ∃ Fi δi, m = ds.length - k ∧ k ≤ ds.length ∧ Sat X.K C' Fi δi σi Hi ∧ Gs X.K W C Fi E (backF i ds (loopL is g fb (ds.drop k) δi)), ⟨ds.length, F, _, by simp, Nat.zero_le _, s0, by rw [List.drop_zero]; exact h⟩, ?_⟩
      rintro k m σi Hi ⟨Fi, δi, rfl, hk, si, gi⟩
      obtain ⟨eF, hA, bk⟩ := back _ _ _ _ si
      have hS : SqL X.K Hi a vs := SqL.of hA
      by_cases hlt : k < ds.length
      · right
        have hd' : ds[k]? = some ds[k] := by rw [List.getElem?_eq_getElem hlt]
        obtain ⟨v, hv', rv⟩ := h4.get hd'
        rw [List.drop_eq_getElem_cons hlt] at gi
        refine ⟨⟨vs, v, hS, hv'⟩, fun σ' H' => ∃ F' δ', Sat X.K C' F' δ' σ' H' ∧ Gs X.K W C F' E (backF i ds (loopL is g fb (ds.drop (k + 1)) δ')), fun σ' H' ⟨F', δ', k2, k3⟩ => ⟨ds.length - (k + 1), by omega, F', δ', rfl, hlt, k2, k3⟩, fun y H2 hy => ?_⟩
        obtain ⟨eH, hy⟩ := hy
        have e := hy vs hS
        rw [hv'] at e
        cases e
        subst eH
        have s2 := si.fg is
        unfold loopL at gi
        cases eg : g ds[k] (fgE is δi) with
        | none => rw [eg] at gi; exact False.elim gi
        | some δ1 =>
          rw [eg] at gi
          dsimp only at gi
          refine q1 C' Fi _ σi _ _ ds[k] _ s2 (Rp.mono eF _ _ rv) ⟨δ1, eg, fun ps _ s3 => ?_⟩
          refine q2 C' Fi δ1 _ _ _ s3 ?_
          cases ef : fb δ1 with
          | nx δ2 => rw [ef] at gi; exact fun F' σ' H' e s4 => ⟨F', δ2, s4, gi.mono e⟩
          | ct δ2 => rw [ef] at gi; exact fun F' σ' H' e s4 => ⟨F', δ2, s4, gi.mono e⟩
          | bk δ2 =>
            rw [ef] at gi
            intro F' σ' H' e s4
            have gi := gi.mono e
            dsimp only [backF] at gi
            split at gi
            · rename_i hp
              obtain ⟨_, _, b2⟩ := back _ _ _ _ (s4.fg is)
              exact gi F' σ' H' (Same.refl _) (b2 hp)
            · exact False.elim gi
          | rt d => rw [ef] at gi; exact False.elim gi
          | rf ds => rw [ef] at gi; exact False.elim gi
          | rn i δ => rw [ef] at gi; exact False.elim gi
          | rb d δ => rw [ef] at gi; exact False.elim gi
          | exc c δ => rw [ef] at gi; exact False.elim gi
          | err => rw [ef] at gi; exact False.elim gi
      · left
        have e : k = ds.length := by omega
        subst e
        rw [List.drop_length] at gi
        refine ⟨⟨vs, hS, by rw [h4.length]; exact Nat.le_refl _⟩, ?_⟩
        dsimp only [backF, loopL] at gi
        split at gi
        · rename_i hp
          obtain ⟨_, _, b2⟩ := back _ _ _ _ (si.fg is)
          exact gi Fi σi Hi (Same.refl _) (b2 hp)
        · exact False.elim gi
    | _ => exact False.elim h
end
/-! ### defs known at the top -/
/-- a def that the top binds to its own name -/
structure Top (K : PySem.W.Frag) (mg : Str → Option Value) (x : Str) (st : Stmt) : Prop where
  ex : ∃ f fd, Fun K x x st f fd ∧ mg x = some (.ref f)
/-- .. its promise, at a level -/
structure Kn (P : Program) (w : World) (K : PySem.W.Frag) (mg : Str → Option Value) (base : Heap) (CX : CXT) (x : Str) (k : Nat) (sp : Sp) : Prop where
  ex : ∃ f fd ps, FnOk P w K mg base CX k f fd ps sp ∧ mg x = some (.ref f) ∧ PySem.W.keepIn K (.ref f) = true ∧ Binds K fd ps []
section
variable {P : Program} {w : World} {K : PySem.W.Frag} {mg : Str → Option Value} {base : Heap} {CX : CXT} {x : Str} {st : Stmt} {N ps : List Str} {k : Nat} {fb : Env → Fl} {sp : Sp}
theorem Kn.cal (h : Kn P w K mg base CX x k sp) {A : Around} {j : Nat} (hr : Room j A) (hk : k ≤ j) : Cal P w K mg base A CX x sp := by
  obtain ⟨f, fd, ps, F, m, kp, b⟩ := h.ex
  exact ⟨f, fd, ps, k, F, hr.mono hk, m, kp, b⟩
/-- .. for what a body says of its own world -/
theorem Kn.calX (h : Kn P w K mg base CX x k sp) {X : Cx} {j : Nat} (e1 : X.prog = P) (e2 : X.w = w) (e3 : X.K = K) (e4 : X.mg = mg) (e5 : X.base = base) (hr : Room j X.A) (hk : k ≤ j) : Cal X.prog X.w X.K X.mg X.base X.A CX x sp := by
  subst e1; subst e2; subst e3; subst e4; subst e5
  exact h.cal hr hk
abbrev BindT (x : Str) (st : Stmt) (ps : List Str) : Prop := ∀ (kV doc pm : Value) (an : Option Addr) (cdv ct : Value) (us : List Value), us.length = ps.length → bindArgs (PySem.W.fnOf x x (defArgs st) (defBody st) (defScope st) .none kV doc pm an cdv ct) ⟨us, []⟩ = pure (ps.zip us)
abbrev BodyT (P : Program) (w : World) (K : PySem.W.Frag) (mg : Str → Option Value) (base : Heap) (k : Nat) (N : List Str) (st : Stmt) (fb : Env → Fl) : Prop :=
  ∀ X : Cx, X.prog = P → X.w = w → X.K = K → X.mg = mg → X.base = base → Room k X.A → X.env.scope.kind = .function → Ctx X N (defScope st) (fun _ => true) → PSsp X W0 (defBody st) fb
theorem Kn.def_ (T : Top K mg x st) (S : FnScope N ps (defScope st)) (n : Nat) (hn : n = ps.length) (m : Nat) (hm : N.length = m) (hbd : BindT x st ps) (hb : BodyT P w K mg base k N st fb) : Kn P w K mg base CX0 x (k + 1) (spF K mg n (runD fb m)) := by
  obtain ⟨f, fd, F, e⟩ := T.ex
  exact ⟨f, fd, ps, ok_def F S n hn m hm hb, e, F.kp, F.binds hbd⟩
theorem Kn.defN (T : Top K mg x st) (S : FnScope N ps (defScope st)) (n : Nat) (hn : n = ps.length) (m : Nat) (hm : N.length = m) (hbd : BindT x st ps) (hb : BodyT P w K mg base k N st fb) : Kn P w K mg base CX0 x (k + 1) (spN K mg n (runF fb m)) := by
  obtain ⟨f, fd, F, e⟩ := T.ex
  exact ⟨f, fd, ps, ok_defN F S n hn m hm hb, e, F.kp, F.binds hbd⟩
/-- of nothing nothing is promised -/
theorem Kn.err (T : Top K mg x st) (n : Nat) (hbd : BindT x st ps) : Kn P w K mg base CX0 x k (spF K mg n fun _ => .err) := by
  obtain ⟨f, fd, F, e⟩ := T.ex
  exact ⟨f, fd, ps, ⟨fun vs H Q E h => by obtain ⟨_, _, _, _, _, _, z⟩ := h; exact z.elim, fun A outer s H args us vs Q E hr he hb hv h => by obtain ⟨_, _, _, _, _, _, z⟩ := h; exact z.elim⟩, e, F.kp, F.binds hbd⟩
theorem Kn.errN (T : Top K mg x st) (n : Nat) (hbd : BindT x st ps) : Kn P w K mg base CX0 x k (spN K mg n fun _ => .err) := by
  obtain ⟨f, fd, F, e⟩ := T.ex
  exact ⟨f, fd, ps, ⟨fun vs H Q E h => by obtain ⟨_, _, _, _, _, _, z⟩ := h; exact z.elim, fun A outer s H args us vs Q E hr he hb hv h => by obtain ⟨_, _, _, _, _, _, z⟩ := h; exact z.elim⟩, e, F.kp, F.binds hbd⟩
/-- all but the tables -/
def strip (H : Hp) : Hp := fun a => match H a with
  | some (.tbl _) => none
  | o => o
theorem strip_le {H : Hp} : Same (strip H) H := fun a o e => by
  unfold strip at e
  split at e
  · cases e
  · exact e
theorem strip_not {H : Hp} : NoT (strip H) := fun a ps e => by
  unfold strip at e
  split at e
  · cases e
  · rename_i n; exact n ps e
theorem strip_seq {K : PySem.W.Frag} {H : Hp} {a : Addr} {xs : List V} (h : SqL K H a xs) : SqL K (strip H) a xs := by
  rcases h with (h | ⟨o, h⟩) | h
  · exact .inl (.inl (by unfold strip; rw [h]))
  · exact .inl (.inr ⟨o, by unfold strip; rw [h]⟩)
  · exact .inr h
/-- the law's own promise: True, for every script of at most n numbers -/
def spLaw (K : PySem.W.Frag) (n : Nat) : Sp := fun vs H Q _ => ∃ (a : Addr) (ns : List Int), vs = [.ref a] ∧ SqL K H a (ns.map V.int) ∧ ns.length ≤ n ∧ Tb H ∧ ∀ H', Q (.bl true) H'
theorem law_of {n k : Nat} {f : Addr} {fd : FuncData} {φ : List D → Res D} (F : FnOk P w K mg base CX k f fd ps (spF K mg 1 φ)) (h : ∀ ns : List Int, ns.length ≤ n → φ [scrD (ns.map PyData.int)] = .ok (.bool true)) : FnOk P w K mg base CX k f fd ps (spLaw K n) :=
  F.imp fun vs H Q E ⟨a, ns, e, hs, hl, tb, q⟩ => by
    subst e
    refine ⟨strip H, [scrD (ns.map PyData.int)], strip_le, ⟨tb, strip_not⟩, .cons (.scr (strip_seq hs)) .nil, rfl, ?_⟩
    rw [h ns hl]
    intro F' H' x v r
    cases r
    exact q _
end
/-- what an int slot holds -/
def slI (i : Nat) (δ : Env) : Int := match δ[i]? with
  | some (.val (.int n)) => n
  | _ => 0
end DL
/-! DL6: meanings are reckoned by simp. -/
namespace DL
open PySem PySem.Spec PyProof.Rows L2
variable [TabP]
section
variable {α β : Type} {p : Prop} [Decidable p]
@[simp] theorem Res.ite_ok (a b : α) : (if p then Res.ok a else Res.ok b) = Res.ok (if p then a else b) := by split <;> rfl
@[simp] theorem Res.bind_ite (a b : Res α) (k : α → Res β) : (if p then a else b).bind k = if p then a.bind k else b.bind k := by split <;> rfl
@[simp] theorem onR_ite (a b : Res α) (δ : Env) (k : α → Fl) : onR (if p then a else b) δ k = if p then onR a δ k else onR b δ k := by split <;> rfl
end
def slV : Option Sl → Res D
  | some (.val d) => .ok d
  | _ => .err
def slR : Option Sl → Res D
  | some (.val d) => .ok d
  | some (.own ds) => .ok (.list ds)
  | some (.ownK kvs) => .ok (.dict kvs)
  | _ => .err
@[simp] theorem slV_val (d : D) : slV (some (.val d)) = .ok d := rfl
@[simp] theorem slR_val (d : D) : slR (some (.val d)) = .ok d := rfl
@[simp] theorem slR_own (ds : List D) : slR (some (.own ds)) = .ok (.list ds) := rfl
@[simp] theorem slR_ownK (ds : List (D × D)) : slR (some (.ownK ds)) = .ok (.dict ds) := rfl
section
variable (δ : Env) (i j n : Nat)
@[simp] theorem vD_ev : vD i δ = slV δ[i]? := rfl
@[simp] theorem rD_ev : rD i δ = slR δ[i]? := rfl
@[simp] theorem cD_ev (d : D) : cD d δ = .ok d := rfl
@[simp] theorem bin_ev {β : Type} (fa fb : Env → Res D) (g : D → D → Res β) : bin fa fb g δ = (fa δ).bind fun x => (fb δ).bind fun y => g x y := rfl
@[simp] theorem un_ev {β : Type} (fa : Env → Res D) (g : D → Res β) : un fa g δ = (fa δ).bind g := rfl
variable (fa fb fc : Env → Res D)
@[simp] theorem addD_ev : addD fa fb δ = (fa δ).bind fun x => (fb δ).bind fun y => i2 gAdd x y := rfl
@[simp] theorem subD_ev : subD fa fb δ = (fa δ).bind fun x => (fb δ).bind fun y => i2 gSub x y := rfl
@[simp] theorem mulD_ev : mulD fa fb δ = (fa δ).bind fun x => (fb δ).bind fun y => i2 gMul x y := rfl
@[simp] theorem divD_ev : divD fa fb δ = (fa δ).bind fun x => (fb δ).bind fun y => i2 gDiv x y := rfl
@[simp] theorem modD_ev : modD fa fb δ = (fa δ).bind fun x => (fb δ).bind fun y => i2 gMod x y := rfl
@[simp] theorem powD_ev : powD fa fb δ = (fa δ).bind fun x => (fb δ).bind fun y => i2 gPow x y := rfl
@[simp] theorem negD_ev : negD fa δ = (fa δ).bind gNeg := rfl
@[simp] theorem gNeg_ev (i : Int) : gNeg (.int i) = .ok (.int (-i)) := rfl
@[simp] theorem i2_add (i j : Int) : i2 gAdd (.int i) (.int j) = .ok (.int (i + j)) := rfl
@[simp] theorem i2_sub (i j : Int) : i2 gSub (.int i) (.int j) = .ok (.int (i - j)) := rfl
theorem i2_mul {i j : Int} (h : i.natAbs.log2 + j.natAbs.log2 < BIGm) : i2 gMul (.int i) (.int j) = .ok (.int (i * j)) := by simp only [i2, gMul, if_pos h]
theorem i2_div {i j : Int} (h : 0 < j) (h2 : j.natAbs.log2 < 9000) : i2 gDiv (.int i) (.int j) = .ok (.int (i / j)) := by simp only [i2, gDiv, if_pos (And.intro h h2)]
theorem i2_mod {i j : Int} (h : 0 < j) : i2 gMod (.int i) (.int j) = .ok (.int (i % j)) := by simp only [i2, gMod, if_pos h]
theorem i2_pow {i j : Int} (h : 0 ≤ j ∧ j ≤ 1000 ∧ i.natAbs < 1000) : i2 gPow (.int i) (.int j) = .ok (.int (i ^ j.toNat)) := by simp only [i2, gPow, if_pos h]
@[simp] theorem b2_ev (g : Int → Int → Bool) (i j : Int) : b2 g (.int i) (.int j) = .ok (g i j) := rfl
@[simp] theorem ltB_ev : ltB fa fb δ = (fa δ).bind fun x => (fb δ).bind fun y => b2 (fun i j => decide (i < j)) x y := rfl
@[simp] theorem leB_ev : leB fa fb δ = (fa δ).bind fun x => (fb δ).bind fun y => b2 (fun i j => decide (i ≤ j)) x y := rfl
@[simp] theorem gtB_ev : gtB fa fb δ = (fa δ).bind fun x => (fb δ).bind fun y => b2 (fun i j => decide (j < i)) x y := rfl
@[simp] theorem geB_ev : geB fa fb δ = (fa δ).bind fun x => (fb δ).bind fun y => b2 (fun i j => decide (j ≤ i)) x y := rfl
@[simp] theorem eqB_ev : eqB fa fb δ = (fa δ).bind fun x => (fb δ).bind fun y => gEq x y := rfl
@[simp] theorem neB_ev : neB fa fb δ = (fa δ).bind fun x => (fb δ).bind fun y => gNe x y := rfl
@[simp] theorem inB_ev : inB fa fb δ = (fa δ).bind fun x => (fb δ).bind fun y => gIn x y := rfl
@[simp] theorem ninB_ev : ninB fa fb δ = (fa δ).bind fun x => (fb δ).bind fun y => gNin x y := rfl
@[simp] theorem gNin_ev (x y : D) : gNin x y = (gIn x y).bind fun b => .ok (!b) := rfl
@[simp] theorem isNB_ev : isNB fa δ = (fa δ).bind fun d => .ok (isN d) := rfl
@[simp] theorem notNB_ev : notNB fa δ = (fa δ).bind fun d => .ok (!isN d) := rfl
@[simp] theorem isN_none : isN .none = true := rfl
@[simp] theorem isN_int (i : Int) : isN (.int i) = false := rfl
@[simp] theorem isN_bool (i : Bool) : isN (.bool i) = false := rfl
@[simp] theorem isN_tuple (l : List D) : isN (.tuple l) = false := rfl
@[simp] theorem isN_list (l : List D) : isN (.list l) = false := rfl
@[simp] theorem chainB_ev (g g' : Int → Int → Bool) : chainB g g' fa fb fc δ = (fa δ).bind fun x => (fb δ).bind fun y => (b2 g x y).bind fun k => if k = true then (fc δ).bind fun z => b2 g' y z else .ok false := rfl
variable (f g : Env → Res Bool)
@[simp] theorem andB_ev : andB f g δ = (f δ).bind fun b => if b = true then g δ else .ok false := rfl
@[simp] theorem orB_ev : orB f g δ = (f δ).bind fun b => if b = true then .ok true else g δ := rfl
@[simp] theorem notB_ev : notB f δ = (f δ).bind fun b => .ok (!b) := rfl
@[simp] theorem ifD_ev {α : Type} (a b : Env → Res α) : ifD f a b δ = (f δ).bind fun t => if t = true then a δ else b δ := rfl
@[simp] theorem asB_ev (b : Bool) : asB (.bool b) = .ok b := rfl
@[simp] theorem yesB_ev : yesB δ = .ok true := rfl
variable (fs : Env → Res (List D)) (fl fu : Env → Res (Option Int))
@[simp] theorem nilA_ev : nilA δ = .ok [] := rfl
@[simp] theorem consA_ev : consA fa fs δ = (fa δ).bind fun d => (fs δ).bind fun ds => .ok (d :: ds) := rfl
@[simp] theorem tupD_ev : tupD fs δ = (fs δ).bind fun ds => (szL ds).bind fun ds => .ok (.tuple ds) := rfl
@[simp] theorem lstF_ev : lstF fs δ = (fs δ).bind szL := rfl
theorem szL_ok {ds : List D} (h : ds.length ≤ 16777216) : szL ds = .ok ds := by unfold szL; rw [if_pos]; exact h
@[simp] theorem szL0 : szL [] = .ok [] := rfl
@[simp] theorem szL1 (a : D) : szL [a] = .ok [a] := rfl
@[simp] theorem szL2 (a b : D) : szL [a, b] = .ok [a, b] := rfl
@[simp] theorem szL3 (a b c : D) : szL [a, b, c] = .ok [a, b, c] := rfl
@[simp] theorem szL4 (a b c d : D) : szL [a, b, c, d] = .ok [a, b, c, d] := rfl
@[simp] theorem szL5 (a b c d e : D) : szL [a, b, c, d, e] = .ok [a, b, c, d, e] := rfl
@[simp] theorem valF_ev : valF fs δ = (fs δ).bind fun ds => .ok (.list ds) := rfl
@[simp] theorem valB_ev : valB f δ = (f δ).bind fun b => .ok (.bool b) := rfl
@[simp] theorem ixD_ev : ixD fa fb δ = (fa δ).bind fun x => (fb δ).bind fun y => gIx x y := rfl
@[simp] theorem gIx_list (ds : List D) (i : Int) : gIx (.list ds) (.int i) = ofO (atI ds i) := rfl
@[simp] theorem gIx_tuple (ds : List D) (i : Int) : gIx (.tuple ds) (.int i) = ofO (atI ds i) := rfl
@[simp] theorem gIx_scr (ds : List D) (i : Int) : gIx (scrD ds) (.int i) = ofO (atI ds i) := rfl
@[simp] theorem ofO_some {α : Type} (a : α) : ofO (some a) = .ok a := rfl
@[simp] theorem ofO_none {α : Type} : (ofO none : Res α) = .err := rfl
@[simp] theorem noO_ev : noO δ = .ok none := rfl
@[simp] theorem someO_ev : someO fa δ = (fa δ).bind gO := rfl
@[simp] theorem gO_ev (i : Int) : gO (.int i) = .ok (some i) := rfl
@[simp] theorem slF_ev : slF fa fl fu δ = (fa δ).bind fun x => (fl δ).bind fun l => (fu δ).bind fun u => (gLst x).bind fun ds => .ok (cutL ds l u) := rfl
@[simp] theorem slT_ev : slT fa fl fu δ = (fa δ).bind fun x => (fl δ).bind fun l => (fu δ).bind fun u => (gTup x).bind fun ds => .ok (.tuple (cutL ds l u)) := rfl
@[simp] theorem gLst_list (ds : List D) : gLst (.list ds) = .ok ds := rfl
@[simp] theorem gLst_scr (ds : List D) : gLst (scrD ds) = .ok ds := rfl
@[simp] theorem ofLst_list (ds : List D) : ofLst (.list ds) = .ok ds := rfl
@[simp] theorem gTup_tuple (ds : List D) : gTup (.tuple ds) = .ok ds := rfl
@[simp] theorem lenD_ev : lenD fa δ = (fa δ).bind gLen := rfl
@[simp] theorem gLen_list (ds : List D) : gLen (.list ds) = .ok (.int ds.length) := rfl
@[simp] theorem gLen_tuple (ds : List D) : gLen (.tuple ds) = .ok (.int ds.length) := rfl
@[simp] theorem gLen_scr (ds : List D) : gLen (scrD ds) = .ok (.int ds.length) := rfl
@[simp] theorem listF_ev : listF fa δ = (fa δ).bind gList := rfl
@[simp] theorem gList_list (ds : List D) : gList (.list ds) = .ok ds := rfl
@[simp] theorem gList_tuple (ds : List D) : gList (.tuple ds) = .ok ds := rfl
@[simp] theorem gList_scr (ds : List D) : gList (scrD ds) = .ok ds := rfl
@[simp] theorem tupleD_ev : tupleD fa δ = (fa δ).bind gTuple := rfl
@[simp] theorem gTuple_list (ds : List D) : gTuple (.list ds) = .ok (.tuple ds) := rfl
@[simp] theorem gTuple_tuple (ds : List D) : gTuple (.tuple ds) = .ok (.tuple ds) := rfl
@[simp] theorem gInt_int (i : Int) : gInt (.int i) = .ok (.int i) := rfl
@[simp] theorem gInt_bool (b : Bool) : gInt (.bool b) = .ok (.int (if b then 1 else 0)) := rfl
@[simp] theorem gMax_ev (i j : Int) : gMax (.int i) (.int j) = .ok (.int (if i < j then j else i)) := rfl
@[simp] theorem gMin_ev (i j : Int) : gMin (.int i) (.int j) = .ok (.int (if j < i then j else i)) := rfl
@[simp] theorem isiB_ev (T : String) : isiB T fa δ = (fa δ).bind fun d => .ok (isT T d) := rfl
@[simp] theorem catF_ev : catF fa fb δ = (fa δ).bind fun x => (fb δ).bind fun y => (ofLst x).bind fun xs => (ofLst y).bind fun ys => szL (xs ++ ys) := rfl
@[simp] theorem callD_ev (φ : List D → Res D) : callD n φ fs δ = (fs δ).bind fun ds => ln n ds (noX (φ ds)) := rfl
@[simp] theorem callF_ev (φ : List D → Res (List D)) : callF n φ fs δ = (fs δ).bind fun ds => ln n ds (noX (φ ds)) := rfl
@[simp] theorem callX_ev (φ : List D → Res D) : callX n φ fs δ = (fs δ).bind fun ds => ln n ds (φ ds) := rfl
@[simp] theorem ln1 {α : Type} (a : D) (r : Res α) : ln 1 [a] r = r := rfl
@[simp] theorem ln2 {α : Type} (a b : D) (r : Res α) : ln 2 [a, b] r = r := rfl
@[simp] theorem ln3 {α : Type} (a b c : D) (r : Res α) : ln 3 [a, b, c] r = r := rfl
@[simp] theorem ln4 {α : Type} (a b c d : D) (r : Res α) : ln 4 [a, b, c, d] r = r := rfl
@[simp] theorem ln5 {α : Type} (a b c d e : D) (r : Res α) : ln 5 [a, b, c, d, e] r = r := rfl
@[simp] theorem ln6 {α : Type} (a b c d e f : D) (r : Res α) : ln 6 [a, b, c, d, e, f] r = r := rfl
@[simp] theorem ln7 {α : Type} (a b c d e f g : D) (r : Res α) : ln 7 [a, b, c, d, e, f, g] r = r := rfl
@[simp] theorem seqI_ev : seqI fa δ = (fa δ).bind gSeq := rfl
@[simp] theorem gSeq_list (ds : List D) : gSeq (.list ds) = .ok ds := rfl
@[simp] theorem gSeq_tuple (ds : List D) : gSeq (.tuple ds) = .ok ds := rfl
@[simp] theorem seqIs_ev : seqIs fa δ = (fa δ).bind gLst := rfl
@[simp] theorem rngI_ev : rngI fa δ = (fa δ).bind gR1 := rfl
@[simp] theorem rngI2_ev : rngI2 fa fb δ = (fa δ).bind fun x => (fb δ).bind fun y => gR2 x y := rfl
@[simp] theorem enI_ev : enI fa δ = (fa δ).bind gEn := rfl
@[simp] theorem gEn_list (ds : List D) : gEn (.list ds) = .ok (enL 0 ds) := rfl
@[simp] theorem zipI_ev : zipI fa fb δ = (fa δ).bind fun x => (fb δ).bind fun y => gZip x y := rfl
@[simp] theorem gZip_list (ds es : List D) : gZip (.list ds) (.list es) = .ok (zipL ds es) := rfl
@[simp] theorem gN_ev (d : D) : gN i d δ = some (δ.set i (.val d)) := rfl
@[simp] theorem gNil_ev : gNil [] δ = some δ := rfl
@[simp] theorem gCons_ev (t : D → Env → Option Env) (ts : List D → Env → Option Env) (d : D) (ds : List D) : gCons t ts (d :: ds) δ = (t d δ).bind (ts ds) := rfl
@[simp] theorem gT2 (ts : List D → Env → Option Env) (a b : D) : gT 2 ts (.tuple [a, b]) δ = ts [a, b] δ := rfl
@[simp] theorem gT3 (ts : List D → Env → Option Env) (a b c : D) : gT 3 ts (.tuple [a, b, c]) δ = ts [a, b, c] δ := rfl
@[simp] theorem gT4 (ts : List D → Env → Option Env) (a b c d : D) : gT 4 ts (.tuple [a, b, c, d]) δ = ts [a, b, c, d] δ := rfl
@[simp] theorem fgE_nil : fgE [] δ = δ := rfl
@[simp] theorem fgE_cons (is : List Nat) : fgE (i :: is) δ = fgE is (δ.set i .no) := rfl
def frzO (i : Nat) (δ : Env) : Option Sl → Env
  | some s => δ.set i (frzS s)
  | none => δ
@[simp] theorem frzE_ev : frzE i δ = frzO i δ δ[i]? := rfl
@[simp] theorem frzO_own (ds : List D) : frzO i δ (some (.own ds)) = δ.set i (.val (.list ds)) := rfl
@[simp] theorem frzO_ownK (ds : List (D × D)) : frzO i δ (some (.ownK ds)) = δ.set i (.val (.dict ds)) := rfl
@[simp] theorem frzO_val (d : D) : frzO i δ (some (.val d)) = δ.set i (.val d) := rfl
/-! statements -/
def thn (r : Fl) (g : Env → Fl) : Fl := match r with
  | .nx δ => g δ
  | r => r
variable (s t : Env → Fl)
@[simp] theorem seqS_ev : seqS s t δ = thn (s δ) t := rfl
@[simp] theorem thn_nx : thn (.nx δ) t = t δ := rfl
@[simp] theorem thn_rt (d : D) : thn (.rt d) t = .rt d := rfl
@[simp] theorem thn_rf (d : List D) : thn (.rf d) t = .rf d := rfl
@[simp] theorem thn_ct : thn (.ct δ) t = .ct δ := rfl
@[simp] theorem thn_bk : thn (.bk δ) t = .bk δ := rfl
@[simp] theorem thn_exc (c : Str) : thn (.exc c δ) t = .exc c δ := rfl
@[simp] theorem thn_err : thn .err t = .err := rfl
@[simp] theorem thn_ite {p : Prop} [Decidable p] (a b : Fl) : thn (if p then a else b) t = if p then thn a t else thn b t := by split <;> rfl
@[simp] theorem nxS_ev : nxS δ = .nx δ := rfl
@[simp] theorem frzT_ev : frzT i s δ = s (frzE i δ) := rfl
@[simp] theorem frzN_ev : frzN i δ = .nx (frzE i δ) := rfl
@[simp] theorem dropS_ev : dropS fa δ = onR (fa δ) δ fun _ => .nx δ := rfl
@[simp] theorem retS_ev : retS fa δ = onR (fa δ) δ fun d => .rt d := rfl
@[simp] theorem retF_ev : retF fs δ = onR (fs δ) δ fun d => .rf d := rfl
def ownF : Option Sl → Fl
  | some (.own ds) => .rf ds
  | _ => .err
@[simp] theorem ifS_ev : ifS f s t δ = onR (f δ) δ fun b => if b = true then s δ else t δ := rfl
@[simp] theorem setS_ev : setS i fa δ = onR (fa δ) δ fun d => .nx (δ.set i (.val d)) := rfl
@[simp] theorem setF_ev : setF i fs δ = onR (fs δ) δ fun d => .nx (δ.set i (.own d)) := rfl
@[simp] theorem setK_ev (fk : Env → Res (List (D × D))) : setK i fk δ = onR (fk δ) δ fun d => .nx (δ.set i (.ownK d)) := rfl
def asgO : Option Env → Fl
  | some δ => .nx δ
  | none => .err
@[simp] theorem asgS_ev (gt : D → Env → Option Env) : asgS gt fa δ = onR (fa δ) δ fun d => asgO (gt d δ) := rfl
@[simp] theorem asgO_some : asgO (some δ) = .nx δ := rfl
@[simp] theorem parS_ev : parS i j fa fb δ = onR ((fa δ).bind fun x => (fb δ).bind fun y => .ok (x, y)) δ fun p => .nx ((δ.set i (.val p.1)).set j (.val p.2)) := rfl
def endD : Fl → Res D
  | .rt d => .ok d
  | .rf es => .ok (.list es)
  | .nx _ => .ok .none
  | _ => .err
def endF : Fl → Res (List D)
  | .rf es => .ok es
  | _ => .err
def endX : Fl → Res D
  | .rt d => .ok d
  | .rf es => .ok (.list es)
  | .nx _ => .ok .none
  | .exc c _ => .exc c
  | _ => .err
theorem runD_ev (ds : List D) : runD s n ds = endD (s (startE n ds)) := rfl
theorem runF_ev (ds : List D) : runF s n ds = endF (s (startE n ds)) := rfl
theorem runX_ev (ds : List D) : runX s n ds = endX (s (startE n ds)) := rfl
@[simp] theorem endD_rt (d : D) : endD (.rt d) = .ok d := rfl
@[simp] theorem endD_rf (d : List D) : endD (.rf d) = .ok (.list d) := rfl
@[simp] theorem endD_nx : endD (.nx δ) = .ok .none := rfl
@[simp] theorem endF_rf (d : List D) : endF (.rf d) = .ok d := rfl
@[simp] theorem endX_rt (d : D) : endX (.rt d) = .ok d := rfl
@[simp] theorem endX_rf (d : List D) : endX (.rf d) = .ok (.list d) := rfl
@[simp] theorem endX_nx : endX (.nx δ) = .ok .none := rfl
@[simp] theorem endX_exc (c : Str) : endX (.exc c δ) = .exc c := rfl
@[simp] theorem endD_ite {p : Prop} [Decidable p] (a b : Fl) : endD (if p then a else b) = if p then endD a else endD b := by split <;> rfl
@[simp] theorem endF_ite {p : Prop} [Decidable p] (a b : Fl) : endF (if p then a else b) = if p then endF a else endF b := by split <;> rfl
@[simp] theorem endX_ite {p : Prop} [Decidable p] (a b : Fl) : endX (if p then a else b) = if p then endX a else endX b := by split <;> rfl
@[simp] theorem startE_ev (ds : List D) : startE n ds = ds.map Sl.val ++ List.replicate (n - ds.length) .no := rfl
end
@[simp] theorem isT_int_none  : isT "int" .none = false := rfl
@[simp] theorem isT_int_bool (b : Bool) : isT "int" (.bool b) = true := rfl
@[simp] theorem isT_int_int (i : Int) : isT "int" (.int i) = true := rfl
@[simp] theorem isT_int_str (s : Str) : isT "int" (.str s) = false := rfl
@[simp] theorem isT_int_list (l : List D) : isT "int" (.list l) = false := rfl
@[simp] theorem isT_int_tuple (l : List D) : isT "int" (.tuple l) = false := rfl
@[simp] theorem isT_bool_none  : isT "bool" .none = false := rfl
@[simp] theorem isT_bool_bool (b : Bool) : isT "bool" (.bool b) = true := rfl
@[simp] theorem isT_bool_int (i : Int) : isT "bool" (.int i) = false := rfl
@[simp] theorem isT_bool_str (s : Str) : isT "bool" (.str s) = false := rfl
@[simp] theorem isT_bool_list (l : List D) : isT "bool" (.list l) = false := rfl
@[simp] theorem isT_bool_tuple (l : List D) : isT "bool" (.tuple l) = false := rfl
@[simp] theorem isT_str_none  : isT "str" .none = false := rfl
@[simp] theorem isT_str_bool (b : Bool) : isT "str" (.bool b) = false := rfl
@[simp] theorem isT_str_int (i : Int) : isT "str" (.int i) = false := rfl
@[simp] theorem isT_str_str (s : Str) : isT "str" (.str s) = true := rfl
@[simp] theorem isT_str_list (l : List D) : isT "str" (.list l) = false := rfl
@[simp] theorem isT_str_tuple (l : List D) : isT "str" (.tuple l) = false := rfl
@[simp] theorem isT_tuple_none  : isT "tuple" .none = false := rfl
@[simp] theorem isT_tuple_bool (b : Bool) : isT "tuple" (.bool b) = false := rfl
@[simp] theorem isT_tuple_int (i : Int) : isT "tuple" (.int i) = false := rfl
@[simp] theorem isT_tuple_str (s : Str) : isT "tuple" (.str s) = false := rfl
@[simp] theorem isT_tuple_list (l : List D) : isT "tuple" (.list l) = false := rfl
@[simp] theorem isT_tuple_tuple (l : List D) : isT "tuple" (.tuple l) = true := rfl
@[simp] theorem isT_list_none  : isT "list" .none = false := rfl
@[simp] theorem isT_list_bool (b : Bool) : isT "list" (.bool b) = false := rfl
@[simp] theorem isT_list_int (i : Int) : isT "list" (.int i) = false := rfl
@[simp] theorem isT_list_str (s : Str) : isT "list" (.str s) = false := rfl
@[simp] theorem isT_list_list (l : List D) : isT "list" (.list l) = true := rfl
@[simp] theorem isT_list_tuple (l : List D) : isT "list" (.tuple l) = false := rfl

def retO : Option Sl → Fl
  | some (.own ds) => .rf ds
  | _ => .err
@[simp] theorem retV_ev (i : Nat) (δ : Env) : retV i δ = retO δ[i]? := by unfold retV retO; rfl
@[simp] theorem retO_own (ds : List D) : retO (some (.own ds)) = .rf ds := rfl
def appO (i : Nat) (f : Env → Res D) (δ : Env) : Option Sl → Fl
  | some (.own ds) => onR (f δ) δ fun d => if ds.length < 16777216 then .nx (δ.set i (.own (ds ++ [d]))) else .err
  | _ => .err
@[simp] theorem appS_ev (i : Nat) (f : Env → Res D) (δ : Env) : appS i f δ = appO i f δ δ[i]? := by
  unfold appS ownAt
  cases δ[i]? with
  | none => rfl
  | some s => cases s <;> rfl
@[simp] theorem appO_own (i : Nat) (f : Env → Res D) (δ : Env) (ds : List D) : appO i f δ (some (.own ds)) = onR (f δ) δ fun d => if ds.length < 16777216 then .nx (δ.set i (.own (ds ++ [d]))) else .err := rfl
def extL (i : Nat) (δ : Env) (ds : List D) : D → Fl
  | .list es => if (ds ++ es).length ≤ 16777216 then .nx (δ.set i (.own (ds ++ es))) else .err
  | _ => .err
def extO (i : Nat) (f : Env → Res D) (δ : Env) : Option Sl → Fl
  | some (.own ds) => onR (f δ) δ (extL i δ ds)
  | _ => .err
@[simp] theorem extS_ev (i : Nat) (f : Env → Res D) (δ : Env) : extS i f δ = extO i f δ δ[i]? := by
  unfold extS ownAt
  cases δ[i]? with
  | none => rfl
  | some s =>
    cases s with
    | own ds =>
      show onR (f δ) δ _ = onR (f δ) δ _
      congr 1
    | _ => rfl
@[simp] theorem extO_own (i : Nat) (f : Env → Res D) (δ : Env) (ds : List D) : extO i f δ (some (.own ds)) = onR (f δ) δ (extL i δ ds) := rfl
@[simp] theorem extL_list (i : Nat) (δ : Env) (ds es : List D) : extL i δ ds (.list es) = if (ds ++ es).length ≤ 16777216 then .nx (δ.set i (.own (ds ++ es))) else .err := rfl
/-- xs[k] = d -/
def putL (i : Nat) (δ : Env) (ds : List D) (d : D) : D → Fl
  | .int k => match L2.ixN ds.length k with
    | some j => .nx (δ.set i (.own (ds.set j d)))
    | none => .err
  | _ => .err
def putD (i : Nat) (δ : Env) (kvs : List (D × D)) (d : D) (k : D) : Fl := match keyOf k with
  | some k => if kvs.length < 16777216 then .nx (δ.set i (.ownK (putKD kvs k d))) else .err
  | none => .err
def setO (i : Nat) (fk f : Env → Res D) (δ : Env) : Option Sl → Fl
  | some (.own ds) => onR ((f δ).bind fun d => (fk δ).bind fun k => .ok (d, k)) δ fun p => putL i δ ds p.1 p.2
  | some (.ownK kvs) => onR ((f δ).bind fun d => (fk δ).bind fun k => .ok (d, k)) δ fun p => putD i δ kvs p.1 p.2
  | _ => .err
@[simp] theorem setIS_ev (i : Nat) (fk f : Env → Res D) (δ : Env) : setIS i fk f δ = setO i fk f δ δ[i]? := by
  unfold setIS
  cases δ[i]? with
  | none => rfl
  | some s =>
    cases s with
    | own ds =>
      show onR _ δ _ = onR _ δ _
      congr 1
    | ownK ds => rfl
    | _ => rfl
@[simp] theorem setO_own (i : Nat) (fk f : Env → Res D) (δ : Env) (ds : List D) : setO i fk f δ (some (.own ds)) = onR ((f δ).bind fun d => (fk δ).bind fun k => .ok (d, k)) δ fun p => putL i δ ds p.1 p.2 := rfl
@[simp] theorem setO_ownK (i : Nat) (fk f : Env → Res D) (δ : Env) (kvs : List (D × D)) : setO i fk f δ (some (.ownK kvs)) = onR ((f δ).bind fun d => (fk δ).bind fun k => .ok (d, k)) δ fun p => putD i δ kvs p.1 p.2 := rfl
theorem putL_ok {i : Nat} {δ : Env} {ds : List D} {d : D} {k : Int} (h : 0 ≤ k) (h2 : k < ds.length) : putL i δ ds d (.int k) = .nx (δ.set i (.own (ds.set k.toNat d))) := by
  have e : L2.ixN ds.length k = some k.toNat := by
    unfold L2.ixN
    rw [if_pos h, if_pos h2]
  simp only [putL, e]
@[simp] theorem tmpD_ev (i : Nat) (f : Env → Res D) (δ : Env) : tmpD i f δ = (f (frzE i δ)).bind fun d => if imm d = true then .ok d else .err := rfl
@[simp] theorem tmpF_ev (i : Nat) (f : Env → Res (List D)) (δ : Env) : tmpF i f δ = (f (frzE i δ)).bind fun d => if immA d = true then .ok d else .err := rfl
@[simp] theorem tmpB_ev (i : Nat) (f : Env → Res Bool) (δ : Env) : tmpB i f δ = f (frzE i δ) := rfl
@[simp] theorem imm_int (i : Int) : imm (.int i) = true := rfl
@[simp] theorem imm_bool (i : Bool) : imm (.bool i) = true := rfl
@[simp] theorem forS_ev (is : List Nat) (fi : Env → Res (List D)) (g : D → Env → Option Env) (fb : Env → Fl) (δ : Env) : forS is fi g fb δ = onR (fi δ) δ fun ds => loopL is g fb ds δ := rfl
def backO (i : Nat) (ds : List D) (δ : Env) : Option Sl → Fl
  | some .pin => .nx (δ.set i (.own ds))
  | _ => .err
def forOO (is : List Nat) (i : Nat) (g : D → Env → Option Env) (fb : Env → Fl) (δ : Env) : Option Sl → Fl
  | some (.own ds) => backF i ds (loopL is g fb ds (δ.set i .pin))
  | _ => .err
@[simp] theorem forO_ev (is : List Nat) (i : Nat) (g : D → Env → Option Env) (fb : Env → Fl) (δ : Env) : forO is i g fb δ = forOO is i g fb δ δ[i]? := rfl
@[simp] theorem forOO_own (is : List Nat) (i : Nat) (g : D → Env → Option Env) (fb : Env → Fl) (δ : Env) (ds : List D) : forOO is i g fb δ (some (.own ds)) = backF i ds (loopL is g fb ds (δ.set i .pin)) := rfl
@[simp] theorem backF_ev (i : Nat) (ds : List D) (δ : Env) : backF i ds (.nx δ) = backO i ds δ δ[i]? := rfl
@[simp] theorem backO_pin (i : Nat) (ds : List D) (δ : Env) : backO i ds δ (some .pin) = .nx (δ.set i (.own ds)) := rfl
/-! items by place -/
@[simp] theorem atI_nn {α : Type} (xs : List α) (k : Nat) : L2.atI xs (k : Int) = xs[k]? := by
  unfold L2.atI L2.ixN
  rw [if_pos (by omega)]
  by_cases h : k < xs.length
  · rw [if_pos (by omega)]; simp
  · rw [if_neg (by omega), List.getElem?_eq_none (by omega)]; rfl
theorem atI_of {α : Type} (xs : List α) {i : Int} (h : 0 ≤ i) : L2.atI xs i = xs[i.toNat]? := by
  obtain ⟨k, rfl⟩ := Int.eq_ofNat_of_zero_le h
  exact atI_nn xs k
@[simp] theorem atI_0 {α : Type} (xs : List α) : L2.atI xs 0 = xs[0]? := atI_nn xs 0
@[simp] theorem atI_1 {α : Type} (xs : List α) : L2.atI xs 1 = xs[1]? := atI_nn xs 1
@[simp] theorem atI_2 {α : Type} (xs : List α) : L2.atI xs 2 = xs[2]? := atI_nn xs 2
@[simp] theorem atI_3 {α : Type} (xs : List α) : L2.atI xs 3 = xs[3]? := atI_nn xs 3
@[simp] theorem atI_m1 {α : Type} (xs : List α) : L2.atI xs (-1) = xs.getLast? := by
  unfold L2.atI L2.ixN
  rw [if_neg (by decide), List.getLast?_eq_getElem?]
  cases xs with
  | nil => rfl
  | cons x r =>
    rw [if_pos (by simp; omega)]
    show (x :: r)[_]? = _
    congr 1
    simp
    omega
/-! data without truth values and dicts: == is = -/
mutual
def plain : Nat → D → Bool
  | _, .none => true
  | _, .int _ => true
  | _, .str x => PyData.strOk x
  | n + 1, .list xs => plainA n xs
  | n + 1, .tuple xs => plainA n xs
  | _, _ => false
def plainA : Nat → List D → Bool
  | _, [] => true
  | n, d :: ds => plain n d && plainA n ds
end
theorem plainA_iff {n : Nat} : ∀ {ds : List D}, plainA n ds = true ↔ ∀ d ∈ ds, plain n d = true
  | [] => by simp [plainA]
  | d :: ds => by simp [plainA, plainA_iff (ds := ds)]
mutual
theorem plain_eqv : ∀ (n m : Nat) (d e : D), plain n d = true → plain m e = true → (PyData.eqv d e = true ↔ d = e)
  | n, m, .none, e, _, h => by cases e <;> simp [PyData.eqv]
  | n, m, .int i, e, _, h => by
    cases e <;> first | (simp [PyData.eqv]; done) | (cases m <;> simp [plain] at h)
  | n, m, .bool b, e, h, _ => by cases n <;> simp [plain] at h
  | n, m, .str i, e, _, h => by
    cases e <;> first | (simp [PyData.eqv]; done) | (cases m <;> simp [plain] at h)
  | n, m, .dict b, e, h, _ => by cases n <;> simp [plain] at h
  | 0, m, .list xs, e, h, _ => by simp [plain] at h
  | 0, m, .tuple xs, e, h, _ => by simp [plain] at h
  | n + 1, m, .list xs, e, h, k => by
    cases e with
    | list ys =>
      cases m with
      | zero => simp [plain] at k
      | succ m =>
        have := plainA_eqv n m xs ys (by simpa [plain] using h) (by simpa [plain] using k)
        simp [PyData.eqv, this]
    | _ => simp [PyData.eqv]
  | n + 1, m, .tuple xs, e, h, k => by
    cases e with
    | tuple ys =>
      cases m with
      | zero => simp [plain] at k
      | succ m =>
        have := plainA_eqv n m xs ys (by simpa [plain] using h) (by simpa [plain] using k)
        simp [PyData.eqv, this]
    | _ => simp [PyData.eqv]
theorem plainA_eqv : ∀ (n m : Nat) (ds es : List D), plainA n ds = true → plainA m es = true → (PyData.eqvAll ds es = true ↔ ds = es)
  | n, m, [], [], _, _ => by simp [PyData.eqvAll]
  | n, m, [], e :: es, _, _ => by simp [PyData.eqvAll]
  | n, m, d :: ds, [], _, _ => by simp [PyData.eqvAll]
  | n, m, d :: ds, e :: es, h, k => by
    have h : plain n d = true ∧ plainA n ds = true := by simpa [plainA] using h
    have k : plain m e = true ∧ plainA m es = true := by simpa [plainA] using k
    simp [PyData.eqvAll, plain_eqv n m d e h.1 k.1, plainA_eqv n m ds es h.2 k.2]
end
mutual
theorem plain_lay : ∀ (n : Nat) (d : D), plain n d = true → d.canLay0 = true ∧ d.depth ≤ n
  | n, .none, _ => by simp [PyData.canLay0, PyData.depth]
  | n, .int i, _ => by simp [PyData.canLay0, PyData.depth]
  | n, .bool b, h => by cases n <;> simp [plain] at h
  | n, .str i, h => by
    have h : PyData.strOk i = true := by cases n <;> simpa [plain] using h
    simp [PyData.canLay0, PyData.depth, h]
  | n, .dict b, h => by cases n <;> simp [plain] at h
  | 0, .list xs, h => by simp [plain] at h
  | 0, .tuple xs, h => by simp [plain] at h
  | n + 1, .list xs, h => by
    have := plainA_lay n xs (by simpa [plain] using h)
    simp [PyData.canLay0, PyData.depth, this]
  | n + 1, .tuple xs, h => by
    have := plainA_lay n xs (by simpa [plain] using h)
    simp [PyData.canLay0, PyData.depth, this]
theorem plainA_lay : ∀ (n : Nat) (ds : List D), plainA n ds = true → PyData.canLayAll0 ds = true ∧ PyData.depthAll ds ≤ n
  | n, [], _ => by simp [PyData.canLayAll0, PyData.depthAll]
  | n, d :: ds, h => by
    have h : plain n d = true ∧ plainA n ds = true := by simpa [plainA] using h
    have h1 := plain_lay n d h.1
    have h2 := plainA_lay n ds h.2
    simp [PyData.canLayAll0, PyData.depthAll, h1, h2]
    omega
end
theorem plain_ok {n : Nat} {d : D} (h : plain n d = true) (hn : n ≤ 64) : eqOk d = true := by
  have := plain_lay n d h
  unfold eqOk SeqAt.shaped
  rw [this.1, decide_eq_true (by omega)]; rfl
theorem gEq_true {n : Nat} {d : D} (h : plain n d = true) (hn : n ≤ 64) : gEq d d = .ok true := by
  unfold gEq
  rw [if_pos ⟨plain_ok h hn, plain_ok h hn⟩, (plain_eqv n n d d h h).mpr rfl]
theorem gEq_of {n m : Nat} {d e : D} {p : Prop} [Decidable p] (h : plain n d = true) (hn : n ≤ 64) (k : plain m e = true) (hm : m ≤ 64) (hp : d = e ↔ p) : gEq d e = .ok (decide p) := by
  unfold gEq
  rw [if_pos ⟨plain_ok h hn, plain_ok k hm⟩]
  congr 1
  rw [Bool.eq_iff_iff, plain_eqv n m d e h k, hp, decide_eq_true_iff]
theorem gNe_of {n m : Nat} {d e : D} {p : Prop} [Decidable p] (h : plain n d = true) (hn : n ≤ 64) (k : plain m e = true) (hm : m ≤ 64) (hp : d = e ↔ p) : gNe d e = .ok (!decide p) := by
  have := gEq_of h hn k hm hp
  unfold gEq at this
  rw [if_pos ⟨plain_ok h hn, plain_ok k hm⟩] at this
  unfold gNe
  rw [if_pos ⟨plain_ok h hn, plain_ok k hm⟩, Res.ok.inj this]
@[simp] theorem gEq_int (i j : Int) : gEq (.int i) (.int j) = .ok (decide (i = j)) := gEq_of (n := 0) (m := 0) rfl (by decide) rfl (by decide) (by simp)
@[simp] theorem gNe_int (i j : Int) : gNe (.int i) (.int j) = .ok (!decide (i = j)) := gNe_of (n := 0) (m := 0) rfl (by decide) rfl (by decide) (by simp)
@[simp] theorem noX_ite {α : Type} {p : Prop} [Decidable p] (a b : Res α) : noX (if p then a else b) = if p then noX a else noX b := by split <;> rfl
end DL
/-! DL7: loops and comprehensions by an invariant; people as data. -/
namespace DL
open PySem PySem.Spec PyProof.Rows L2
variable [TabP]
/-- forgets behind a turn -/
def fgF (is : List Nat) : Fl → Fl
  | .nx δ => .nx (fgE is δ)
  | .ct δ => .nx (fgE is δ)
  | r => r
def turnO (is : List Nat) (fb : Env → Fl) : Option Env → Fl
  | some δ => fgF is (fb δ)
  | none => .err
/-- one turn -/
def turnE (is : List Nat) (g : D → Env → Option Env) (fb : Env → Fl) (d : D) (δ : Env) : Fl := turnO is fb (g d δ)
@[simp] theorem fgF_nx (is : List Nat) (δ : Env) : fgF is (.nx δ) = .nx (fgE is δ) := rfl
@[simp] theorem fgF_ct (is : List Nat) (δ : Env) : fgF is (.ct δ) = .nx (fgE is δ) := rfl
@[simp] theorem fgF_ite {p : Prop} [Decidable p] (is : List Nat) (a b : Fl) : fgF is (if p then a else b) = if p then fgF is a else fgF is b := by split <;> rfl
@[simp] theorem turnO_some (is : List Nat) (fb : Env → Fl) (δ : Env) : turnO is fb (some δ) = fgF is (fb δ) := rfl
theorem step {f g : Env → Fl} {δ δ' : Env} {r : Fl} (h : f δ = .nx δ') (k : g δ' = r) : seqS f g δ = r := by rw [seqS_ev, h]; exact k
theorem turn_of {is : List Nat} {g : D → Env → Option Env} {fb : Env → Fl} {d : D} {δ δ1 δ2 δ3 : Env} (h : g d δ = some δ1) (k : fb δ1 = .nx δ2) (e : fgE is δ2 = δ3) : turnE is g fb d δ = .nx δ3 := by
  unfold turnE; rw [h, turnO_some, k, fgF_nx, e]
theorem loopL_inv {A : Type} (e : A → Env) {is : List Nat} {g : D → Env → Option Env} {fb : Env → Fl} : ∀ {ds : List D} (I : Nat → A → Prop)
    (_ : ∀ i a d, ds[i]? = some d → I i a → ∃ a', I (i + 1) a' ∧ turnE is g fb d (e a) = .nx (e a')) {a : A} {δ : Env}, fgE is δ = e a → I 0 a → ∃ a', I ds.length a' ∧ loopL is g fb ds δ = .nx (e a')
  | [], I, _, a, δ, h0, i0 => ⟨a, i0, by show Fl.nx (fgE is δ) = _; rw [h0]⟩
  | d :: ds, I, h, a, δ, h0, i0 => by
    obtain ⟨a1, i1, e1⟩ := h 0 a d rfl i0
    have key : ∃ δ2, fgE is δ2 = e a1 ∧ loopL is g fb (d :: ds) δ = loopL is g fb ds δ2 := by
      unfold turnE at e1
      rw [← h0] at e1
      cases hg : g d (fgE is δ) with
      | none => rw [hg] at e1; cases e1
      | some δ1 =>
        rw [hg] at e1
        have e1 : fgF is (fb δ1) = .nx (e a1) := e1
        cases hf : fb δ1 with
        | nx δ2 => rw [hf] at e1; exact ⟨δ2, Fl.nx.inj e1, by rw [loopL]; simp only [hg, hf]⟩
        | ct δ2 => rw [hf] at e1; exact ⟨δ2, Fl.nx.inj e1, by rw [loopL]; simp only [hg, hf]⟩
        | _ => rw [hf] at e1; cases e1
    obtain ⟨δ2, k1, k2⟩ := key
    obtain ⟨a2, i2, e4⟩ := loopL_inv e (fun i => I (i + 1)) (fun i a d hd hi => h (i + 1) a d (by simpa using hd) hi) k1 i1
    exact ⟨a2, i2, by rw [k2, e4]⟩
/-- .. of a state that is a function of the place -/
theorem loopL_at {is : List Nat} {g : D → Env → Option Env} {fb : Env → Fl} {ds : List D} (e : Nat → Env)
    (h : ∀ i d, ds[i]? = some d → turnE is g fb d (e i) = .nx (e (i + 1))) {δ : Env} (h0 : fgE is δ = e 0) : loopL is g fb ds δ = .nx (e ds.length) := by
  obtain ⟨a, ia, r⟩ := loopL_inv (A := Nat) e (fun i a => a = i) (ds := ds) (is := is) (g := g) (fb := fb) (fun i a d hd hi => by
    subst hi
    exact ⟨a + 1, rfl, h a d hd⟩) h0 rfl
  rw [r, ia]
theorem compL_map {α : Type} {g : D → Env → Option Env} {ft : Env → Res Bool} {fe : Env → Res D} {δ : Env} (enc : α → D) (p : α → Bool) (m : α → D) : ∀ (xs : List α),
    (∀ x ∈ xs, ∃ δ1, g (enc x) δ = some δ1 ∧ ft δ1 = .ok (p x) ∧ (p x = true → fe δ1 = .ok (m x))) → compL g ft fe δ (xs.map enc) = .ok ((xs.filter p).map m)
  | [], _ => rfl
  | x :: xs, h => by
    have ih := compL_map enc p m xs fun y hy => h y (List.mem_cons_of_mem _ hy)
    obtain ⟨δ1, e1, e2, e3⟩ := h x List.mem_cons_self
    rw [List.map_cons]
    unfold compL
    simp only [e1, e2]
    cases q : p x with
    | false => simp only [List.filter_cons, q]; exact ih
    | true => simp only [List.filter_cons, q, e3 q, ih]; rfl
theorem szI_ok {ds : List D} (h : ds.length ≤ 16777216) : szI ds = .ok ds := by unfold szI; rw [if_pos]; exact h
theorem compF_map {α : Type} {vs : List Nat} {fi : Env → Res (List D)} {g : D → Env → Option Env} {ft : Env → Res Bool} {fe : Env → Res D} {δ : Env} (xs : List α) (enc : α → D) (p : α → Bool) (m : α → D)
    (hi : fi δ = .ok (xs.map enc)) (hl : xs.length ≤ 16777216)
    (h : ∀ x ∈ xs, ∃ δ1, g (enc x) (fgE vs δ) = some δ1 ∧ ft δ1 = .ok (p x) ∧ (p x = true → fe δ1 = .ok (m x))) : compF vs fi g ft fe δ = .ok ((xs.filter p).map m) := by
  unfold compF
  rw [hi, Res.bind_ok, szI_ok (by rw [List.length_map]; exact hl), Res.bind_ok]
  exact compL_map enc p m xs h
theorem smI_ok {i : Int} (h : 0 ≤ i) (k : i ≤ 1000000000) : smI i = true := by
  unfold smI
  rw [decide_eq_true (by omega), decide_eq_true k]; rfl
/-- 0 .. n - 1 as ints -/
def rgI (n : Nat) : List Int := List.map (fun i : Nat => (i : Int)) (List.range n)
theorem rgL_0 (n : Nat) : rgL 0 n = (List.range n).map fun i : Nat => PyData.int i := by
  unfold rgL
  simp
theorem rgL_I (n : Nat) : rgL 0 n = (rgI n).map PyData.int := by
  rw [rgL_0]; unfold rgI; rw [List.map_map]; rfl
theorem gR1_ok {n : Int} (h0 : 0 ≤ n) (h : n ≤ 1000000000) : gR1 (.int n) = .ok ((rgI n.toNat).map PyData.int) := by
  show (if smI n = true then Res.ok (rgL 0 n.toNat) else Res.err) = _
  rw [if_pos (smI_ok h0 h), rgL_I]
theorem mem_rgI {n : Nat} {j : Int} : j ∈ rgI n ↔ 0 ≤ j ∧ j < n := by
  unfold rgI
  rw [List.mem_map]
  constructor
  · rintro ⟨i, hi, rfl⟩
    rw [List.mem_range] at hi
    omega
  · rintro ⟨h0, h1⟩
    exact ⟨j.toNat, by rw [List.mem_range]; omega, by show (j.toNat : Int) = j; omega⟩
@[simp] theorem rgI_len (n : Nat) : (rgI n).length = n := by unfold rgI; rw [List.length_map, List.length_range]
theorem rgI_at {n i : Nat} {d : D} (h : ((rgI n).map PyData.int)[i]? = some d) : i < n ∧ d = .int i := by
  unfold rgI at h
  rw [List.map_map, List.getElem?_map] at h
  by_cases hi : i < n
  · rw [List.getElem?_range hi] at h
    cases h
    exact ⟨hi, rfl⟩
  · rw [List.getElem?_eq_none (by rw [List.length_range]; omega)] at h; cases h
theorem rgI_nodup (n : Nat) : (rgI n).Nodup := by
  unfold rgI List.Nodup
  rw [List.pairwise_map]
  exact List.Pairwise.imp (fun {a b} h e => h (by omega)) (List.nodup_range (n := n))
theorem range_at {n i : Nat} {d : D} (h : ((List.range n).map fun i : Nat => PyData.int i)[i]? = some d) : i < n ∧ d = .int i := by
  rw [List.getElem?_map] at h
  by_cases hi : i < n
  · rw [List.getElem?_range hi] at h
    cases h
    exact ⟨hi, rfl⟩
  · rw [List.getElem?_eq_none (by rw [List.length_range]; omega)] at h; cases h
theorem enum_at {ds : List D} {i : Nat} {d : D} (h : (enL 0 ds)[i]? = some d) : ∃ e, ds[i]? = some e ∧ d = .tuple [.int i, e] := by
  obtain ⟨e, h1, h2⟩ := enL_get ds 0 i d h
  exact ⟨e, h1, by rw [h2, Nat.zero_add]⟩
/-! in a row of whole numbers -/
theorem any_eqv (i : Int) (l : List Int) : ((l.map PyData.int).any fun z => PyData.eqv z (.int i)) = l.contains i := by
  induction l with
  | nil => rfl
  | cons a l ih =>
    rw [List.map_cons, List.any_cons, ih, List.contains_cons]
    congr 1
    simp only [PyData.eqv]
    rw [Bool.eq_iff_iff]; simp; exact eq_comm
theorem flat_ints (l : List Int) : (l.map PyData.int).all flatD = true := by
  induction l with
  | nil => rfl
  | cons a l ih => rw [List.map_cons, List.all_cons, ih]; rfl
@[simp] theorem gIn_tup (i : Int) (l : List Int) : gIn (.int i) (.tuple (l.map PyData.int)) = .ok (l.contains i) := by
  dsimp only [gIn, inA]
  rw [if_pos ⟨rfl, flat_ints l⟩, any_eqv]; rfl
@[simp] theorem gIn_lst (i : Int) (l : List Int) : gIn (.int i) (.list (l.map PyData.int)) = .ok (l.contains i) := by
  dsimp only [gIn, inA]
  rw [if_pos ⟨rfl, flat_ints l⟩, any_eqv]; rfl
theorem plain_ints (n : Nat) (l : List Int) : plainA n (l.map PyData.int) = true := by
  rw [plainA_iff]
  intro d hd
  obtain ⟨i, _, rfl⟩ := List.mem_map.mp hd
  cases n <;> rfl
theorem mapint_inj {l m : List Int} : l.map PyData.int = m.map PyData.int ↔ l = m := by
  constructor
  · exact fun h => List.map_inj_right (f := PyData.int) (fun x y => by simp) |>.mp h
  · exact fun h => by rw [h]
@[simp] theorem gEq_lst (l m : List Int) : gEq (.list (l.map PyData.int)) (.list (m.map PyData.int)) = .ok (decide (l = m)) :=
  gEq_of (n := 1) (m := 1) (plain_ints 0 l) (by decide) (plain_ints 0 m) (by decide) (by simp [mapint_inj])
@[simp] theorem gNe_lst (l m : List Int) : gNe (.list (l.map PyData.int)) (.list (m.map PyData.int)) = .ok (!decide (l = m)) :=
  gNe_of (n := 1) (m := 1) (plain_ints 0 l) (by decide) (plain_ints 0 m) (by decide) (by simp [mapint_inj])
@[simp] theorem gEq_tup (l m : List Int) : gEq (.tuple (l.map PyData.int)) (.tuple (m.map PyData.int)) = .ok (decide (l = m)) :=
  gEq_of (n := 1) (m := 1) (plain_ints 0 l) (by decide) (plain_ints 0 m) (by decide) (by simp [mapint_inj])
@[simp] theorem gNe_tup (l m : List Int) : gNe (.tuple (l.map PyData.int)) (.tuple (m.map PyData.int)) = .ok (!decide (l = m)) :=
  gNe_of (n := 1) (m := 1) (plain_ints 0 l) (by decide) (plain_ints 0 m) (by decide) (by simp [mapint_inj])
@[simp] theorem gEq_lst0 (l : List Int) : gEq (.list (l.map PyData.int)) (.list []) = .ok (decide (l = [])) := gEq_lst l []
@[simp] theorem gNe_lst0 (l : List Int) : gNe (.list (l.map PyData.int)) (.list []) = .ok (!decide (l = [])) := gNe_lst l []
@[simp] theorem gEq_00 : gEq (.list []) (.list []) = .ok true := by simpa using gEq_lst [] []
@[simp] theorem gNe_00 : gNe (.list []) (.list []) = .ok false := by simpa using gNe_lst [] []
@[simp] theorem gEq_bool (a b : Bool) : gEq (.bool a) (.bool b) = .ok (a == b) := by
  unfold gEq
  rw [if_pos ⟨rfl, rfl⟩]; simp [PyData.eqv]
@[simp] theorem gNe_bool (a b : Bool) : gNe (.bool a) (.bool b) = .ok (!(a == b)) := by
  unfold gNe
  rw [if_pos ⟨rfl, rfl⟩]; simp [PyData.eqv]

/-! two ways that meet: the choice goes to the leaves -/
section
variable {p : Prop} [Decidable p]
@[simp] theorem pull_nx (a b : Env) : (if p then Fl.nx a else Fl.nx b) = Fl.nx (if p then a else b) := by split <;> rfl
@[simp] theorem pull_ct (a b : Env) : (if p then Fl.ct a else Fl.ct b) = Fl.ct (if p then a else b) := by split <;> rfl
@[simp] theorem pull_cons (a b : Sl) (l m : Env) : (if p then a :: l else b :: m) = (if p then a else b) :: (if p then l else m) := by split <;> rfl
@[simp] theorem pull_val (a b : D) : (if p then Sl.val a else Sl.val b) = Sl.val (if p then a else b) := by split <;> rfl
@[simp] theorem pull_own (a b : List D) : (if p then Sl.own a else Sl.own b) = Sl.own (if p then a else b) := by split <;> rfl
@[simp] theorem pull_int (a b : Int) : (if p then PyData.int a else PyData.int b) = PyData.int (if p then a else b) := by split <;> rfl
@[simp] theorem pull_bool (a b : Bool) : (if p then PyData.bool a else PyData.bool b) = PyData.bool (if p then a else b) := by split <;> rfl
end

/-! ### people -/
/-- born, the parents, who adopted and when, died -/
structure Per where
  born : Int
  par : List Int
  ad : Option (Int × List Int)
  died : Option Int
abbrev Fam := List Per
def intsT (l : List Int) : D := .tuple (l.map .int)
def adD : Option (Int × List Int) → D
  | none => .none
  | some (d, l) => .tuple [.int d, intsT l]
def oiD : Option Int → D
  | none => .none
  | some d => .int d
def perD (p : Per) : D := .tuple [.int p.born, intsT p.par, adD p.ad, oiD p.died]
def famD (f : Fam) : D := .list (f.map perD)
def alive (p : Per) (t : Int) : Bool := decide (p.born ≤ t) && (match p.died with | none => true | some d => decide (t < d))
def parsOn (p : Per) (t : Int) : List Int := match p.ad with
  | some (d, l) => if d ≤ t then l else p.par
  | none => p.par
/-- a child of person i on day t -/
def kid (t i : Int) (p : Per) : Bool := decide (p.born ≤ t) && (parsOn p t).contains i
def kidsOn (f : Fam) (i t : Int) : List Int := (rgI f.length).filter fun c => (f[c.toNat]?).any (kid t i)
@[simp] theorem gIn_T (i : Int) (l : List Int) : gIn (.int i) (intsT l) = .ok (l.contains i) := gIn_tup i l
@[simp] theorem gEq_T (l m : List Int) : gEq (intsT l) (intsT m) = .ok (decide (l = m)) := gEq_tup l m
@[simp] theorem gNe_T (l m : List Int) : gNe (intsT l) (intsT m) = .ok (!decide (l = m)) := gNe_tup l m
@[simp] theorem gSeq_T (l : List Int) : gSeq (intsT l) = .ok (l.map .int) := rfl
@[simp] theorem gLen_T (l : List Int) : gLen (intsT l) = .ok (.int l.length) := by unfold intsT; simp
@[simp] theorem gIx_T (l : List Int) (i : Int) : gIx (intsT l) (.int i) = ofO (L2.atI (l.map PyData.int) i) := rfl
@[simp] theorem isT_T (l : List Int) : isT "tuple" (intsT l) = true := rfl
@[simp] theorem isN_T (l : List Int) : isN (intsT l) = false := rfl
@[simp] theorem isN_ad (o : Option (Int × List Int)) : isN (adD o) = o.isNone := by cases o <;> rfl
@[simp] theorem isN_oi (o : Option Int) : isN (oiD o) = o.isNone := by cases o <;> rfl
@[simp] theorem gIx_per0 (p : Per) : gIx (perD p) (.int 0) = .ok (.int p.born) := by unfold perD; simp
@[simp] theorem gIx_per1 (p : Per) : gIx (perD p) (.int 1) = .ok (intsT p.par) := by unfold perD; simp
@[simp] theorem gIx_per2 (p : Per) : gIx (perD p) (.int 2) = .ok (adD p.ad) := by unfold perD; simp
@[simp] theorem gIx_per3 (p : Per) : gIx (perD p) (.int 3) = .ok (oiD p.died) := by unfold perD; simp
@[simp] theorem gT_per (p : Per) (ts : List D → Env → Option Env) (δ : Env) : gT 4 ts (perD p) δ = ts [.int p.born, intsT p.par, adD p.ad, oiD p.died] δ := rfl
@[simp] theorem gIx_ad0 (d : Int) (l : List Int) : gIx (adD (some (d, l))) (.int 0) = .ok (.int d) := by unfold adD; simp
@[simp] theorem gIx_ad1 (d : Int) (l : List Int) : gIx (adD (some (d, l))) (.int 1) = .ok (intsT l) := by unfold adD; simp
@[simp] theorem oiD_some (d : Int) : oiD (some d) = .int d := rfl
@[simp] theorem oiD_none : oiD none = .none := rfl
@[simp] theorem pull_T {p : Prop} [Decidable p] (a b : List Int) : (if p then intsT a else intsT b) = intsT (if p then a else b) := by split <;> rfl
@[simp] theorem pull_oi {p : Prop} [Decidable p] (a : Int) : (if p then PyData.int a else PyData.none) = oiD (if p then some a else none) := by split <;> rfl
@[simp] theorem gIx_fam (f : Fam) (i : Int) : gIx (famD f) (.int i) = ofO (L2.atI (f.map perD) i) := rfl
@[simp] theorem gLen_fam (f : Fam) : gLen (famD f) = .ok (.int f.length) := by unfold famD; simp
@[simp] theorem gList_fam (f : Fam) : gList (famD f) = .ok (f.map perD) := rfl
theorem fam_at {f : Fam} {j : Int} {p : Per} (h : 0 ≤ j) (e : f[j.toNat]? = some p) : L2.atI (f.map perD) j = some (perD p) := by
  rw [atI_of _ h, List.getElem?_map, e]; rfl
theorem fam_lt {f : Fam} {j : Int} (h : 0 ≤ j) (k : j < f.length) : ∃ p, f[j.toNat]? = some p := ⟨_, List.getElem?_eq_getElem (by omega)⟩
theorem cutL_map {α β : Type} (g : α → β) (xs : List α) (a b : Option Int) : cutL (xs.map g) a b = (cutL xs a b).map g := by
  unfold cutL
  rw [List.length_map, List.map_take, List.map_drop]
theorem mem_cutL {α : Type} {xs : List α} {a b : Option Int} {x : α} (h : x ∈ cutL xs a b) : x ∈ xs := List.mem_of_mem_drop (List.mem_of_mem_take h)
/-- each of l was born ahead of b -/
def Older (bs : List Int) (l : List Int) (b : Int) : Prop := ∀ j ∈ l, 0 ≤ j ∧ ∃ c, bs[j.toNat]? = some c ∧ c < b
theorem Older.app {bs cs l : List Int} {b : Int} (h : Older bs l b) : Older (bs ++ cs) l b := fun j hj => by
  obtain ⟨h0, c, h1, h2⟩ := h j hj
  refine ⟨h0, c, ?_, h2⟩
  rw [List.getElem?_append_left (List.getElem?_eq_some_iff.mp h1).1]; exact h1
theorem Older.sub {bs l m : List Int} {b : Int} (h : Older bs l b) (k : ∀ j ∈ m, j ∈ l) : Older bs m b := fun j hj => h j (k j hj)
structure PerOk (bs : List Int) (p : Per) : Prop where
  par : Older bs p.par p.born
  nd : p.par.Nodup
  len : p.par.length ≤ 2
  ad : ∀ d l, p.ad = some (d, l) → p.born ≤ d ∧ d ≤ p.born + 1000000 ∧ l ≠ [] ∧ l.Nodup ∧ l.length ≤ 2 ∧ Older bs l p.born ∧ ∀ x, p.died = some x → d < x
  died : ∀ x, p.died = some x → p.born ≤ x ∧ x ≤ 1000000
  b0 : 0 ≤ p.born
  b1 : p.born ≤ 1000000
theorem PerOk.adopt {bs : List Int} {p : Per} (h : PerOk bs p) {d : Int} {l : List Int} (h1 : p.born ≤ d) (h2 : d ≤ p.born + 1000000) (h3 : l ≠ []) (h4 : l.Nodup) (h5 : l.length ≤ 2) (h6 : Older bs l p.born) (h7 : ∀ x, p.died = some x → d < x) : PerOk bs { p with ad := some (d, l) } :=
  ⟨h.par, h.nd, h.len, fun d' l' e => by cases e; exact ⟨h1, by omega, h3, h4, h5, h6, h7⟩, h.died, h.b0, h.b1⟩
theorem PerOk.app {bs cs : List Int} {p : Per} (h : PerOk bs p) : PerOk (bs ++ cs) p := ⟨h.par.app, h.nd, h.len, fun d l e => by
  obtain ⟨h1, h2, h3, h4, h5, h6, h7⟩ := h.ad d l e
  exact ⟨h1, h2, h3, h4, h5, h6.app, h7⟩, h.died, h.b0, h.b1⟩
def FamOk (f : Fam) : Prop := ∀ p ∈ f, PerOk (f.map Per.born) p
theorem plain_intsT (n : Nat) (l : List Int) : plain (n + 1) (intsT l) = true := plain_ints n l
theorem plain_oi (n : Nat) (o : Option Int) : plain n (oiD o) = true := by cases o <;> cases n <;> rfl
theorem plain_ad (n : Nat) (o : Option (Int × List Int)) : plain (n + 2) (adD o) = true := by
  cases o with
  | none => rfl
  | some o => obtain ⟨d, l⟩ := o; simp [adD, plain, plainA, plain_intsT]
theorem plain_per (n : Nat) (p : Per) : plain (n + 3) (perD p) = true := by
  have h1 : plain (n + 2) (intsT p.par) = true := plain_intsT (n + 1) _
  simp [perD, plain, plainA, h1, plain_ad, plain_oi]
theorem plain_fam (f : Fam) : plain 4 (famD f) = true := by
  show plainA 3 (f.map perD) = true
  rw [plainA_iff]
  intro d hd
  obtain ⟨i, _, rfl⟩ := List.mem_map.mp hd
  exact plain_per 0 i
theorem famD_self (f : Fam) : gEq (famD f) (famD f) = .ok true := gEq_true (plain_fam f) (by decide)
end DL
/-! DL8: least, greatest, sorted of data. -/
namespace DL
open PySem PySem.Spec PyProof.Rows L2
variable [TabP]
/-- data that are asked for their order -/
def ordOk (ds : List D) : Bool := PyData.canLayAll0 ds && decide (PyData.depthAll ds ≤ 60) && ds.all fun x => ds.all fun y => PySem.W.alike x y && !isN x
theorem ordOk_of {ds : List D} (h : ordOk ds = true) : PyData.canLayAll0 ds = true ∧ PyData.depthAll ds ≤ 60 ∧ PySem.W.AlikeAll ds := by
  unfold ordOk at h
  rw [Bool.and_eq_true, Bool.and_eq_true, decide_eq_true_iff, List.all_eq_true] at h
  obtain ⟨⟨h1, h2⟩, h3⟩ := h
  refine ⟨h1, h2, fun x hx y hy => ?_, fun x hx e => ?_⟩
  · have := List.all_eq_true.mp (h3 x hx) y hy
    rw [Bool.and_eq_true] at this
    exact this.1
  · have := List.all_eq_true.mp (h3 x hx) x hx
    rw [Bool.and_eq_true] at this
    subst e
    exact absurd this.2 (by decide)
section
variable {X : Cx} {N : List Str} {sc : Scope} {fn : Str → Bool} {W : WS}
theorem vals_at : ∀ {vs : List V} {us : List Value} {i : Nat} {u : Value}, Vals vs us → us[i]? = some u → ∃ v, vs[i]? = some v ∧ RelV v u
  | _, _, _, _, .nil, h => by cases h
  | _, _, 0, _, .cons r _, h => by cases h; exact ⟨_, rfl, r⟩
  | _, _, i + 1, _, .cons _ t, h => by
    obtain ⟨v, h1, h2⟩ := vals_at (i := i) t (by simpa using h)
    exact ⟨v, by simpa using h1, h2⟩
theorem layAll_at : ∀ {ds : List D} {i : Nat} {d : D}, PyData.canLayAll0 ds = true → ds[i]? = some d → d.canLay0 = true
  | [], _, _, _, h => by cases h
  | e :: ds, 0, d, l, h => by
    have e0 : e = d := by simpa using h
    subst e0
    have : e.canLay0 = true ∧ PyData.canLayAll0 ds = true := by simpa [PyData.canLayAll0] using l
    exact this.1
  | e :: ds, i + 1, d, l, h => by
    have : e.canLay0 = true ∧ PyData.canLayAll0 ds = true := by simpa [PyData.canLayAll0] using l
    exact layAll_at this.2 (by simpa using h)
def rBest (K : PySem.W.Frag) (best : D → List D → D) : List V → Hp → VK → Prop := fun xs H Q => ∃ a vs x ds, xs = [V.ref a] ∧ H a = some (.lst vs) ∧ DpAll K H vs (x :: ds) ∧ ordOk (x :: ds) = true ∧ ∀ (i : Nat) (v : V), vs[i]? = some v → (x :: ds)[i]? = some (best x ds) → Q v H
theorem best_fin {pins : List (Addr × Obj)} {s : Shared} {σ : L2.St} {H : Hp} {vs : List V} {its : List Value} {x b : D} {ds : List D} {as bs : List Addr} {Q : VK} {i : Nat} {v : Value} {h' : Heap} {tk : Nat} (I : Inv X pins σ H s) (rv : Vals vs its) (hr : ReadsAll s.heap its (x :: ds) as) (hl : PyData.canLayAll0 (x :: ds) = true) (hv : its.toArray[i]? = some v) (r : Reads h' v b bs)
    (hk : ∀ b o, s.heap.get? b = some o → h'.get? b = some o) (q : ∀ (i : Nat) (v : V), vs[i]? = some v → (x :: ds)[i]? = some b → Q v H) : EP X pins σ Q v { s with heap := h', toks := tk } := by
  have hv : its[i]? = some v := by simpa using hv
  obtain ⟨w, hw, rw_⟩ := vals_at rv hv
  obtain ⟨cs, rc, hi, _, _⟩ := PySem.W.readsAll_at hr i v hv
  have e : (x :: ds)[i]? = some ((x :: ds).getD i .none) := by rw [List.getD_eq_getElem?_getD, List.getElem?_eq_getElem hi]; rfl
  have := PySem.SeqAt.Reads.unique _ _ _ _ _ (layAll_at hl e) (PySem.W.reads_keeps hk rc) r
  rw [this] at e
  exact ⟨w, H, I.kept hk, rw_, q i w hw e⟩
theorem cr_maxA (hc : X.calm = true) (hu : X.A.units + 65 < cLine) : CallR X (.builtin "max") (rBest X.K PySem.W.maxD) := by
  intro pins s σ H vs us Q I r h
  obtain ⟨a, ws, x, ds, rfl, hs, hd, ho, q⟩ := h
  obtain ⟨h1, h2, h3⟩ := ordOk_of ho
  obtain ⟨its, rv, hl, _⟩ := I.list (SqL.of hs)
  obtain ⟨as, hr⟩ := Dp.readsAll I _ _ _ hd rv
  rw [Vals.ref1 r]
  exact PySem.W.max_list_data (I.ok.hd hc) hl.isList hr h3 (by omega) fun i v h' tk bs hv r hk => best_fin I rv hr h1 hv r hk q
theorem cr_minA (hc : X.calm = true) (hu : X.A.units + 65 < cLine) : CallR X (.builtin "min") (rBest X.K PySem.W.minD) := by
  intro pins s σ H vs us Q I r h
  obtain ⟨a, ws, x, ds, rfl, hs, hd, ho, q⟩ := h
  obtain ⟨h1, h2, h3⟩ := ordOk_of ho
  obtain ⟨its, rv, hl, _⟩ := I.list (SqL.of hs)
  obtain ⟨as, hr⟩ := Dp.readsAll I _ _ _ hd rv
  rw [Vals.ref1 r]
  exact PySem.W.min_list_data (I.ok.hd hc) hl.isList hr h3 (by omega) fun i v h' tk bs hv r hk => best_fin I rv hr h1 hv r hk q
def rMinDf (K : PySem.W.Frag) : List V → List V → Hp → VK → Prop := fun xs zs H Q => ∃ a vs ds z, xs = [V.ref a] ∧ zs = [z] ∧ H a = some (.lst vs) ∧ DpAll K H vs ds ∧ ordOk ds = true ∧ (ds = [] → Q z H) ∧ ∀ y ys (i : Nat) (v : V), ds = y :: ys → vs[i]? = some v → ds[i]? = some (PySem.W.minD y ys) → Q v H
theorem vals_one {z : V} {us : List Value} (h : Vals [z] us) : ∃ u, us = [u] ∧ RelV z u := by
  cases h with
  | cons r t => cases t; exact ⟨_, rfl, r⟩
theorem cr_minDf (hc : X.calm = true) (hu : X.A.units + 65 < cLine) : CallRK X (.builtin "min") [Str.ofString "default"] (rMinDf X.K) := by
  intro pins s σ H xs zs us ws Q I rx rz h
  obtain ⟨a, vs, ds, z, rfl, rfl, hs, hd, ho, q0, q⟩ := h
  obtain ⟨h1, h2, h3⟩ := ordOk_of ho
  obtain ⟨its, rv, hl, _⟩ := I.list (SqL.of hs)
  obtain ⟨as, hr⟩ := Dp.readsAll I _ _ _ hd rv
  obtain ⟨u, rfl, ru⟩ := vals_one rz
  rw [Vals.ref1 rx]
  show wpAny _ _ (call (.builtin "min") [.ref a] [(Str.ofString "default", u)]) _ _ s
  refine PySem.W.min_list_default (I.ok.hd hc) hl.isList hr h3 (by omega) (fun e h' tk hk => ⟨z, H, I.kept hk, ru, q0 e⟩) fun y ys i v h' tk bs e hv r hk => ?_
  subst e
  exact best_fin I rv hr h1 hv r hk fun i v hv he => q y ys i v rfl hv he
def gMax1 : D → Res D
  | .list (x :: ds) => if ordOk (x :: ds) = true then .ok (PySem.W.maxD x ds) else .err
  | _ => .err
def gMin1 : D → Res D
  | .list (x :: ds) => if ordOk (x :: ds) = true then .ok (PySem.W.minD x ds) else .err
  | _ => .err
section
variable {a b : Expr} {fa fb : Env → Res D} {pos : Pos}
theorem PEp.max1 {p : Pos} (c : Ctx X N sc fn) (hm : X.mg "max" = none) (ha : PRp X W a fa) (hg : isGl sc "max" = true := by rfl)
    (he : starEach [a] X.env = (false, eval a X.env) :: starEach [] X.env := by rfl) : PEp X W (.Call (.Name "max" p) [a] [] pos) (un fa gMax1) :=
  PEp.b1 c (cr_maxA c.calm c.u65) (fun σ F H v d Q le r h => by
    unfold gMax1 at h
    split at h
    · rename_i x ds
      split at h
      · rename_i ho
        obtain ⟨l, vs, ex, hs, ra⟩ := r
        refine ⟨l, vs, x, ds, by rw [ex], hs, RpA.dp _ _ (ordOk_of ho).1 (RpA.mono le _ _ ra), ho, fun i w hw e => ?_⟩
        obtain ⟨d, hd, rw_⟩ := ra.at hw
        rw [hd] at e
        cases e
        exact h.ok (Ext.refl le) w rw_
      · exact False.elim h
    · exact False.elim h) hm ha hg (by decide +kernel) (by decide) (by decide) he
theorem PEp.min1 {p : Pos} (c : Ctx X N sc fn) (hm : X.mg "min" = none) (ha : PRp X W a fa) (hg : isGl sc "min" = true := by rfl)
    (he : starEach [a] X.env = (false, eval a X.env) :: starEach [] X.env := by rfl) : PEp X W (.Call (.Name "min" p) [a] [] pos) (un fa gMin1) :=
  PEp.b1 c (cr_minA c.calm c.u65) (fun σ F H v d Q le r h => by
    unfold gMin1 at h
    split at h
    · rename_i x ds
      split at h
      · rename_i ho
        obtain ⟨l, vs, ex, hs, ra⟩ := r
        refine ⟨l, vs, x, ds, by rw [ex], hs, RpA.dp _ _ (ordOk_of ho).1 (RpA.mono le _ _ ra), ho, fun i w hw e => ?_⟩
        obtain ⟨d, hd, rw_⟩ := ra.at hw
        rw [hd] at e
        cases e
        exact h.ok (Ext.refl le) w rw_
      · exact False.elim h
    · exact False.elim h) hm ha hg (by decide +kernel) (by decide) (by decide) he
def bestOr (z : D) : List D → D
  | [] => z
  | y :: ys => PySem.W.minD y ys
def gMinDef : D → D → Res D
  | .list ds, z => if ordOk ds = true then .ok (bestOr z ds) else .err
  | _, _ => .err
def minDefD (fa fb : Env → Res D) : Env → Res D := bin fa fb gMinDef
theorem PEp.minDef {p kpos : Pos} (c : Ctx X N sc fn) (hm : X.mg "min" = none) (ha : PRp X W a fa) (hb : PEp X W b fb) (hg : isGl sc "min" = true := by rfl)
    (he0 : starEach [a] X.env = (false, eval a X.env) :: starEach [] X.env := by rfl)
    (he : backTo pos (starEach [a] X.env) = (false, eval a X.env) :: backTo pos (starEach [] X.env) := by rfl) (hpl : (backTo pos (starEach [a] X.env)).any (·.1) = false := by rfl)
    (hall : (backToKw pos (keywordEach [⟨some "default", b, kpos⟩] X.env)).all (·.1.isSome) = true := by rfl) (hnone : (backToKw pos (keywordEach [⟨some "default", b, kpos⟩] X.env)).any (·.1.isNone) = false := by rfl) (hks : (backToKw pos (keywordEach [⟨some "default", b, kpos⟩] X.env)).filterMap (·.1) = [Str.ofString "default"] := by rfl) :
    PEp X W (.Call (.Name "min" p) [a] [⟨some "default", b, kpos⟩] pos) (minDefD fa fb) := by
  obtain ⟨t, pa, qa⟩ := ha
  obtain ⟨u, pb, qb⟩ := hb
  refine ⟨_, pe_callBK (cr_minDf c.calm c.u65) (c.gl hg) hm (by decide +kernel) (pa_cons pa pa_nil he0) (pk_cons pb pk_nil) (by decide) (by decide) he hpl hall hnone hks, fun C F δ σ H Q s h => ?_⟩
  refine qa C F δ σ H _ s (h.bind.mono fun d F1 H1 x1 h1 v rv => ?_)
  refine qb C F1 δ σ H1 _ (s.ext x1) (h1.bind.mono fun e F2 H2 x2 h2 z rz => ?_)
  have rv := rv.ext x2.ff x2.hh
  cases d with
  | list ds =>
    have h2 : Gd W σ F2 H2 (if ordOk ds = true then .ok (bestOr e ds) else .err) _ := h2
    split at h2
    · rename_i ho
      obtain ⟨l, vs, ex, hs, ra⟩ := rv
      refine ⟨l, vs, ds, z, by rw [ex], rfl, hs, RpA.dp _ _ (ordOk_of ho).1 (RpA.mono x2.le _ _ ra), ho, fun e0 => ?_, fun y ys i w e0 hw he => ?_⟩
      · subst e0; exact h2.ok (Ext.refl x2.le) z rz
      · subst e0
        obtain ⟨d, hd, rw_⟩ := ra.at hw
        rw [hd] at he
        cases he
        exact h2.ok (Ext.refl x2.le) w rw_
    · exact False.elim h2
  | _ => exact False.elim h2
end
end
end DL
/-! DL9: plain facts of the drawn people. -/
namespace DL
open PySem PySem.Spec PyProof.Rows L2
variable [TabP]
/-- of those asked so far -/
def kidsTo (f : Fam) (i t : Int) (k : Nat) : List Int := (rgI k).filter fun c => (f[c.toNat]?).any (kid t i)
theorem rgI_succ (k : Nat) : rgI (k + 1) = rgI k ++ [(k : Int)] := by
  unfold rgI
  rw [List.range_succ, List.map_append]; rfl
theorem kidsTo_len (f : Fam) (i t : Int) (k : Nat) : (kidsTo f i t k).length ≤ k := by
  have := List.length_filter_le (fun c : Int => (f[c.toNat]?).any (kid t i)) (rgI k)
  rw [rgI_len] at this; exact this
theorem kidsTo_succ {f : Fam} {i t : Int} {k : Nat} {p : Per} (h : f[k]? = some p) : kidsTo f i t (k + 1) = kidsTo f i t k ++ (if kid t i p = true then [(k : Int)] else []) := by
  unfold kidsTo
  rw [rgI_succ, List.filter_append]
  simp [List.filter_cons, h]
theorem parsOn_len {bs : List Int} {p : Per} (h : PerOk bs p) (t : Int) : (parsOn p t).length ≤ 2 := by
  unfold parsOn
  split
  · rename_i d l e
    split
    · exact (h.ad d l e).2.2.2.2.1
    · exact h.len
  · exact h.len
theorem kidsOn_len (f : Fam) (i t : Int) : (kidsOn f i t).length ≤ f.length := kidsTo_len f i t f.length
theorem lg {j : Int} {k : Nat} (h : j.natAbs < 2 ^ k) (hk : 0 < k) : j.natAbs.log2 < k := by
  by_cases h0 : j.natAbs = 0
  · rw [h0]; simpa using hk
  · exact (Nat.log2_lt h0).mpr h
theorem mul_sm {i j : Int} (h : i.natAbs < 2 ^ 200) (k : j.natAbs < 2 ^ 200) : i2 gMul (.int i) (.int j) = .ok (.int (i * j)) := by
  have h1 := lg h (by decide)
  have h2 := lg k (by decide)
  exact i2_mul (by unfold BIGm; omega)
theorem div_sm {i j : Int} (h : 0 < j) (k : j < 1000000000000) : i2 gDiv (.int i) (.int j) = .ok (.int (i / j)) :=
  i2_div h (Nat.lt_trans (lg (k := 200) (by omega) (by decide)) (by decide))
/-- numbers of the stream -/
def strmOk (xs : List Int) : Prop := ∀ x ∈ xs, 0 ≤ x ∧ x < 2147483647
theorem mem_at {el : List Int} {i : Int} (h : el ≠ []) (h0 : 0 ≤ i) (h1 : i < el.length) : ∃ j ∈ el, L2.atI (el.map PyData.int) i = some (.int j) := by
  have hk : i.toNat < el.length := by omega
  exact ⟨el[i.toNat], List.getElem_mem hk, by rw [atI_of _ h0, List.getElem?_map, List.getElem?_eq_getElem hk]; rfl⟩
def houseL : List (List Int) := [[], [], [1, 0], [1, 0], [2], [3], [], [5], [3], [1], [], [2]]
theorem house_at {k : Nat} (h : k < 12) : ∃ l, houseL[k]? = some l ∧ (∀ j ∈ l, 0 ≤ j ∧ j.toNat / 2 < k / 2 ∧ j.toNat < k) ∧ l.Nodup ∧ l.length ≤ 2 := by
  have : ∀ k : Nat, k < 12 → ((∀ j ∈ houseL.getD k [], 0 ≤ j ∧ j.toNat / 2 < k / 2 ∧ j.toNat < k) ∧ (houseL.getD k []).Nodup ∧ (houseL.getD k []).length ≤ 2) := by decide
  obtain ⟨h1, h2, h3⟩ := this k h
  refine ⟨houseL.getD k [], ?_, h1, h2, h3⟩
  have hl : k < houseL.length := h
  rw [List.getD_eq_getElem?_getD, List.getElem?_eq_getElem hl]; rfl
/-- those of the first k born ahead of b -/
def eldersOf (f : Fam) (k : Nat) (b : Int) : List Int := (rgI k).filter fun j => (f[j.toNat]?).any fun p => decide (p.born < b)
theorem elders_old {f : Fam} {k : Nat} {b : Int} : Older (f.map Per.born) (eldersOf f k b) b := fun j hj => by
  obtain ⟨h1, h2⟩ := List.mem_filter.mp hj
  refine ⟨(mem_rgI.mp h1).1, ?_⟩
  cases e : f[j.toNat]? with
  | none => rw [e] at h2; cases h2
  | some p => rw [e] at h2; exact ⟨p.born, by rw [List.getElem?_map, e]; rfl, of_decide_eq_true h2⟩
/-- what the loop of the people has made: i people; sc the scale, ho: of one house -/
structure PplI (sc : Int) (ho : Bool) (i : Nat) (f : Fam) : Prop where
  len : f.length = i
  ok : FamOk f
  noad : ∀ p ∈ f, p.ad = none
  house : ho = true → ∀ (j : Nat) (p : Per), f[j]? = some p → j < 12 → 12 * (j / 2 : Nat) * sc ≤ p.born ∧ p.born ≤ (12 * (j / 2 : Nat) + 10) * sc
theorem PplI.snoc {sc : Int} {ho : Bool} {i : Nat} {f : Fam} {p : Per} (h : PplI sc ho i f) (hp : PerOk (f.map Per.born) p) (ha : p.ad = none) (hh : ho = true → i < 12 → 12 * (i / 2 : Nat) * sc ≤ p.born ∧ p.born ≤ (12 * (i / 2 : Nat) + 10) * sc) : PplI sc ho (i + 1) (f ++ [p]) := by
  refine ⟨by simp [h.len], fun q hq => ?_, fun q hq => ?_, fun ht j q hj hl => ?_⟩
  · rw [List.map_append]
    rcases List.mem_append.mp hq with z | z
    · exact (h.ok q z).app
    · rw [List.mem_singleton] at z; subst z; exact hp.app
  · rcases List.mem_append.mp hq with z | z
    · exact h.noad q z
    · rw [List.mem_singleton] at z; subst z; exact ha
  · by_cases hji : j < i
    · rw [List.getElem?_append_left (by rw [h.len]; exact hji)] at hj
      exact h.house ht j q hj hl
    · have : j = i := by
        have := (List.getElem?_eq_some_iff.mp hj).1
        rw [List.length_append, List.length_singleton, h.len] at this
        omega
      subst this
      rw [List.getElem?_append_right (by rw [h.len]; omega), h.len, Nat.sub_self] at hj
      cases hj
      exact hh ht hl
theorem szL_house : szL (houseL.map intsT) = .ok (houseL.map intsT) := szL_ok (by decide)
/-- all of them born ahead of b -/
theorem elders_all (f : Fam) (b : Int) : Older (f.map Per.born) (eldersOf f f.length b) b := elders_old
/-! order of data -/
theorem itemLt_inl (a b : Int) : itemLt (Sum.inl a) (Sum.inl b) = decide (a < b) := rfl
theorem dataLt_int (a b : Int) : PySem.W.dataLt (.int a) (.int b) = decide (a < b) := by
  unfold PySem.W.dataLt
  simp [PySem.W.keyToks, PyProof.Rows.lexLt, itemLt_inl]
theorem dataLt_pair (a b c d : Int) : PySem.W.dataLt (.tuple [.int a, .int b]) (.tuple [.int c, .int d]) = decide (a < c ∨ (a = c ∧ b < d)) := by
  unfold PySem.W.dataLt
  simp [PySem.W.keyToks, PySem.W.keyToksAll, PyProof.Rows.lexLt, itemLt_inl]
  rw [Bool.eq_iff_iff]
  simp
  omega
theorem ordOk_ints (ns : List Int) : ordOk (ns.map PyData.int) = true := by
  unfold ordOk
  have h := plainA_lay 0 (ns.map PyData.int) (plain_ints 0 ns)
  rw [h.1, decide_eq_true (by omega), Bool.true_and, Bool.true_and]
  refine List.all_eq_true.mpr fun x hx => List.all_eq_true.mpr fun y hy => ?_
  obtain ⟨i, _, rfl⟩ := List.mem_map.mp hx
  obtain ⟨j, _, rfl⟩ := List.mem_map.mp hy
  have : PySem.W.alike (.int i) (.int j) = true := by simp only [PySem.W.alike]
  rw [this]; rfl
theorem bestOr_ints (z : Int) (ns : List Int) : ∃ m, bestOr (.int z) (ns.map PyData.int) = .int m := by
  cases ns with
  | nil => exact ⟨z, rfl⟩
  | cons n ns => exact ⟨ns.foldl min n, PySem.W.minD_ints n ns⟩
@[simp] theorem minDefD_ev (fa fb : Env → Res D) (δ : Env) : minDefD fa fb δ = (fa δ).bind fun x => (fb δ).bind fun y => gMinDef x y := rfl
theorem gMinDef_ints (z : Int) (ns : List Int) : ∃ m, gMinDef (.list (ns.map PyData.int)) (.int z) = .ok (.int m) := by
  obtain ⟨m, h⟩ := bestOr_ints z ns
  refine ⟨m, ?_⟩
  show (if ordOk (ns.map PyData.int) = true then Res.ok (bestOr (.int z) (ns.map PyData.int)) else .err) = _
  rw [if_pos (ordOk_ints ns), h]
/-! marriages, wills, rolls -/
abbrev Wed := Int × Int × Int
def weD (w : Wed) : D := .tuple [.int w.1, .int w.2.1, .int w.2.2]
def paD (a b : Int) : D := .tuple [.int a, .int b]
abbrev Gif := Int × Int × Int
def giD (g : Gif) : D := .tuple [.int g.1, paD g.2.1 g.2.2]
abbrev Wil := Int × Int × List Gif
def wiD (w : Wil) : D := .tuple [.int w.1, .int w.2.1, .tuple (w.2.2.map giD)]
def rollD (f : Fam) (ws : List Wed) (ls : List Wil) : D := .tuple [famD f, .list (ws.map weD), .list (ls.map wiD)]
@[simp] theorem gIx_we0 (w : Wed) : gIx (weD w) (.int 0) = .ok (.int w.1) := by unfold weD; simp
@[simp] theorem gIx_we1 (w : Wed) : gIx (weD w) (.int 1) = .ok (.int w.2.1) := by unfold weD; simp
@[simp] theorem gIx_we2 (w : Wed) : gIx (weD w) (.int 2) = .ok (.int w.2.2) := by unfold weD; simp
@[simp] theorem gT_we (w : Wed) (ts : List D → Env → Option Env) (δ : Env) : gT 3 ts (weD w) δ = ts [.int w.1, .int w.2.1, .int w.2.2] δ := rfl
@[simp] theorem gTup_we (w : Wed) : gTup (weD w) = .ok [.int w.1, .int w.2.1, .int w.2.2] := rfl
@[simp] theorem gIx_gi0 (g : Gif) : gIx (giD g) (.int 0) = .ok (.int g.1) := by unfold giD; simp
@[simp] theorem gIx_gi1 (g : Gif) : gIx (giD g) (.int 1) = .ok (paD g.2.1 g.2.2) := by unfold giD; simp
@[simp] theorem gIx_pa0 (a b : Int) : gIx (paD a b) (.int 0) = .ok (.int a) := by unfold paD; simp
@[simp] theorem gIx_pa1 (a b : Int) : gIx (paD a b) (.int 1) = .ok (.int b) := by unfold paD; simp
@[simp] theorem gT_gi (g : Gif) (ts : List D → Env → Option Env) (δ : Env) : gT 2 ts (giD g) δ = ts [.int g.1, paD g.2.1 g.2.2] δ := rfl
@[simp] theorem gIx_wi0 (w : Wil) : gIx (wiD w) (.int 0) = .ok (.int w.1) := by unfold wiD; simp
@[simp] theorem gIx_wi1 (w : Wil) : gIx (wiD w) (.int 1) = .ok (.int w.2.1) := by unfold wiD; simp
@[simp] theorem gIx_wi2 (w : Wil) : gIx (wiD w) (.int 2) = .ok (.tuple (w.2.2.map giD)) := by unfold wiD; simp
@[simp] theorem gT_wi (w : Wil) (ts : List D → Env → Option Env) (δ : Env) : gT 3 ts (wiD w) δ = ts [.int w.1, .int w.2.1, .tuple (w.2.2.map giD)] δ := rfl
@[simp] theorem gIx_ro0 (f : Fam) (ws : List Wed) (ls : List Wil) : gIx (rollD f ws ls) (.int 0) = .ok (famD f) := by unfold rollD; simp
@[simp] theorem gIx_ro1 (f : Fam) (ws : List Wed) (ls : List Wil) : gIx (rollD f ws ls) (.int 1) = .ok (.list (ws.map weD)) := by unfold rollD; simp
@[simp] theorem gIx_ro2 (f : Fam) (ws : List Wed) (ls : List Wil) : gIx (rollD f ws ls) (.int 2) = .ok (.list (ls.map wiD)) := by unfold rollD; simp
@[simp] theorem gT_ro (f : Fam) (ws : List Wed) (ls : List Wil) (ts : List D → Env → Option Env) (δ : Env) : gT 3 ts (rollD f ws ls) δ = ts [famD f, .list (ws.map weD), .list (ls.map wiD)] δ := rfl
@[simp] theorem gSeq_fam (f : Fam) : gSeq (famD f) = .ok (f.map perD) := rfl
@[simp] theorem cut2of3 (a b c : D) : cutL [a, b, c] none (some 2) = [a, b] := rfl
@[simp] theorem gIn_pair (i a b : Int) : gIn (.int i) (.tuple [.int a, .int b]) = .ok (decide (i = a ∨ i = b)) := by
  have := gIn_tup i [a, b]
  rw [show ([a, b] : List Int).map PyData.int = [.int a, .int b] from rfl] at this
  rw [this]
  congr 1
  rw [Bool.eq_iff_iff]; simp
theorem plain_gi (n : Nat) (g : Gif) : plain (n + 2) (giD g) = true := by simp [giD, paD, plain, plainA]
theorem plain_we (n : Nat) (w : Wed) : plain (n + 1) (weD w) = true := by simp [weD, plain, plainA]
theorem plain_gis (n : Nat) (gs : List Gif) : plain (n + 3) (.tuple (gs.map giD)) = true := by
  show plainA (n + 2) (gs.map giD) = true
  rw [plainA_iff]
  intro d hd
  obtain ⟨g, _, rfl⟩ := List.mem_map.mp hd
  exact plain_gi n g
theorem plain_wi (n : Nat) (w : Wil) : plain (n + 4) (wiD w) = true := by
  simp [wiD, plain, plainA]
  exact plain_gis n w.2.2
theorem plain_roll (f : Fam) (ws : List Wed) (ls : List Wil) : plain 6 (rollD f ws ls) = true := by
  have h1 : plain 5 (famD f) = true := by
    show plainA 4 (f.map perD) = true
    rw [plainA_iff]
    intro d hd
    obtain ⟨i, _, rfl⟩ := List.mem_map.mp hd
    exact plain_per 1 i
  have h2 : plain 5 (.list (ws.map weD)) = true := by
    show plainA 4 (ws.map weD) = true
    rw [plainA_iff]
    intro d hd
    obtain ⟨i, _, rfl⟩ := List.mem_map.mp hd
    exact plain_we 3 i
  have h3 : plain 5 (.list (ls.map wiD)) = true := by
    show plainA 4 (ls.map wiD) = true
    rw [plainA_iff]
    intro d hd
    obtain ⟨i, _, rfl⟩ := List.mem_map.mp hd
    exact plain_wi 0 i
  show plainA 5 _ = true
  simp [plainA, h1, h2, h3]
theorem roll_self (f : Fam) (ws : List Wed) (ls : List Wil) : gNe (rollD f ws ls) (rollD f ws ls) = .ok false := by
  have := gNe_of (p := True) (plain_roll f ws ls) (by decide) (plain_roll f ws ls) (by decide) (by simp)
  simpa using this
/-! the greatest common divisor by rests -/
theorem gcd_step (a b : Int) : Int.gcd a b = Int.gcd b (a % b) := by
  rw [Int.gcd_comm b, Int.emod_def, Int.gcd_sub_mul_left_left]
/-- the pair in lowest terms -/
def low (a b : Int) : D := paD (a / Int.gcd a b) (b / Int.gcd a b)
theorem gcd_lg {a b : Int} (h : 0 < b) (hb : b < 2 ^ 200) : 0 < ((Int.gcd a b : Nat) : Int) ∧ ((Int.gcd a b : Nat) : Int).natAbs.log2 < 9000 := by
  have h1 : 0 < Int.gcd a b := Int.gcd_pos_of_ne_zero_right a (by omega)
  have h2 : Int.gcd a b ≤ b.natAbs := Int.gcd_le_natAbs_right a (by omega)
  refine ⟨by omega, Nat.lt_trans (lg (k := 200) ?_ (by decide)) (by decide)⟩
  have : (2 : Int) ^ 200 = ((2 ^ 200 : Nat) : Int) := by norm_cast
  rw [this] at hb
  omega
/-! loops that may end by a return -/
theorem fgE_get (is : List Nat) : ∀ (δ : Env) (i : Nat), (fgE is δ)[i]? = if i ∈ is ∧ i < δ.length then some .no else δ[i]? := by
  induction is with
  | nil => intro δ i; simp
  | cons j is ih =>
    intro δ i
    rw [fgE_cons, ih, List.length_set]
    by_cases h1 : i ∈ is ∧ i < δ.length
    · rw [if_pos h1, if_pos ⟨List.mem_cons_of_mem _ h1.1, h1.2⟩]
    · rw [if_neg h1]
      by_cases h2 : i = j
      · subst h2
        by_cases h3 : i < δ.length
        · rw [List.getElem?_set_self h3, if_pos ⟨List.mem_cons_self, h3⟩]
        · rw [if_neg (fun z => h3 z.2), List.getElem?_eq_none (by rw [List.length_set]; omega), List.getElem?_eq_none (by omega)]
      · rw [List.getElem?_set_ne (fun z => h2 z.symm), if_neg]
        intro z
        rcases List.mem_cons.mp z.1 with z1 | z1
        · exact h2 z1
        · exact h1 ⟨z1, z.2⟩
theorem fgE_len (is : List Nat) : ∀ δ : Env, (fgE is δ).length = δ.length := by
  induction is with
  | nil => intro δ; rfl
  | cons j is ih => intro δ; rw [fgE_cons, ih, List.length_set]
theorem fgE_fgE (is : List Nat) (δ : Env) : fgE is (fgE is δ) = fgE is δ := by
  apply List.ext_getElem?
  intro i
  rw [fgE_get, fgE_get, fgE_len]
  split <;> rfl
theorem loopL_fg {is : List Nat} {g : D → Env → Option Env} {fb : Env → Fl} (ds : List D) (δ : Env) : loopL is g fb ds (fgE is δ) = loopL is g fb ds δ := by
  cases ds with
  | nil => show Fl.nx _ = Fl.nx _; rw [fgE_fgE]
  | cons d ds => unfold loopL; rw [fgE_fgE]
theorem loopL_nx {is : List Nat} {g : D → Env → Option Env} {fb : Env → Fl} {d : D} {ds : List D} {δ δ' : Env} (h : turnE is g fb d (fgE is δ) = .nx δ') : loopL is g fb (d :: ds) δ = loopL is g fb ds δ' := by
  unfold turnE at h
  cases hg : g d (fgE is δ) with
  | none => rw [hg] at h; cases h
  | some δ1 =>
    rw [hg] at h
    have h : fgF is (fb δ1) = .nx δ' := h
    cases hf : fb δ1 with
    | nx δ2 => rw [hf] at h; rw [loopL]; simp only [hg, hf]; rw [← Fl.nx.inj h, loopL_fg]
    | ct δ2 => rw [hf] at h; rw [loopL]; simp only [hg, hf]; rw [← Fl.nx.inj h, loopL_fg]
    | _ => rw [hf] at h; cases h
theorem loopL_rt {is : List Nat} {g : D → Env → Option Env} {fb : Env → Fl} {d e : D} {ds : List D} {δ : Env} (h : turnE is g fb d (fgE is δ) = .rt e) : loopL is g fb (d :: ds) δ = .rt e := by
  unfold turnE at h
  cases hg : g d (fgE is δ) with
  | none => rw [hg] at h; cases h
  | some δ1 =>
    rw [hg] at h
    have h : fgF is (fb δ1) = .rt e := h
    cases hf : fb δ1 with
    | rt d => rw [hf] at h; rw [loopL]; simp only [hg, hf]; exact h
    | nx δ2 => rw [hf] at h; cases h
    | ct δ2 => rw [hf] at h; cases h
    | _ => rw [hf] at h; cases h
@[simp] theorem fgF_rt (is : List Nat) (d : D) : fgF is (.rt d) = .rt d := rfl
end DL
/-! DS0: sort by a key that is reckoned by any call, under an invariant of the states. -/
namespace DS
open PySem PySem.W PyProof.Rows
/-- h without its object at c -/
def dropH (h : Heap) (c : Addr) : Heap := { h with objs := h.objs.modify c fun o => { o with data := .freed } }
theorem dropH_ne {h : Heap} {c b : Addr} {o : Obj} (hb : b ≠ c) : (dropH h c).get? b = some o ↔ h.get? b = some o := by
  rw [Heap.get?_eq_some, Heap.get?_eq_some]
  unfold dropH
  dsimp only
  rw [Array.getElem?_modify, if_neg (fun z => hb z.symm)]
theorem dropH_none {h : Heap} {c : Addr} : (dropH h c).get? c = none := by
  cases q : (dropH h c).get? c with
  | none => rfl
  | some o =>
    obtain ⟨h1, h2⟩ := (Heap.get?_eq_some _ _ _).mp q
    unfold dropH at h1
    dsimp only at h1
    rw [Array.getElem?_modify, if_pos rfl] at h1
    cases z : h.objs[c]? with
    | none => rw [z] at h1; cases h1
    | some o' => rw [z] at h1; cases h1; exact absurd h2 (by unfold Obj.alive; simp)
section
variable {prog : Program} {w : World} {A : Around} {E : Value → Shared → Prop} {s : Shared} {a kS : Addr} {b : Bool} {vs : List Value} {e1 : Nat} {P : PySem.Fin → Shared → Prop}
theorem alike_ints (ks : List Int) : AllAlike (ks.map PyData.int) := by
  intro x hx y hy
  obtain ⟨i, _, rfl⟩ := List.mem_map.mp hx
  obtain ⟨j, _, rfl⟩ := List.mem_map.mp hy
  simp only [alike]
theorem ints_reads (g : Heap) : ∀ {l : List Value} {ks : List Int}, EachIs (fun v (k : Int) => ∃ t, v = Value.int k t) l ks → EachIs (fun v k => ∃ as, Reads g v k as) l (ks.map PyData.int)
  | _, _, .nil => EachIs.nil
  | _, _, .cons hv r => by obtain ⟨t, rfl⟩ := hv; exact EachIs.cons ⟨[], Reads.int _ t⟩ (ints_reads g r)
theorem keyJ {f : Value} {J : Nat → Shared → Prop} {ks : List Int} (hlen : ks.length = vs.length) (hZ : vs.length ≤ sizeLine) (hu : A.units < cLine) (hsk : Sortable (ks.map PyData.int))
    (J0 : J 0 s) (nk : s.heap.get? kS = some (seqObj "list" #[] 0)) (na : s.heap.get? a = some (seqObj "list" #[] e1)) (hka : kS ≠ a)
    (turn : ∀ (i : Nat) (v : Value) (k : Int), vs[i]? = some v → ks[i]? = some k → ∀ (s' : Shared) (kA : Array Value) (e : Nat), J i s' → s'.heap.get? kS = some (seqObj "list" kA e) → s'.heap.get? a = some (seqObj "list" #[] e1) →
      wpAny (model prog w) A (call f [v]) (fun u s2 => (∃ t, u = .int k t) ∧ s2.heap.get? kS = some (seqObj "list" kA e) ∧ s2.heap.get? a = some (seqObj "list" #[] e1) ∧
        ∀ h', Heap.SameBut kS s2.heap h' → (∃ kA' e', h'.get? kS = some (seqObj "list" kA' e')) → J (i + 1) { s2 with heap := h' }) (fun _ _ => False) s')
    (h : ∀ (s' : Shared) h' tk out c, J vs.length s' → (∀ b o, b ≠ a → b ≠ kS → s'.heap.get? b = some o → h'.get? b = some o) → h'.get? a = some (seqObj "list" (List.toArray out) c) → KeyedOut b (ks.map PyData.int) vs out → P (.done (.ret .none)) { s' with heap := h', toks := tk }) :
    wpAny (model prog w) A (ksk_rest a f b vs.toArray e1 (.ref kS)) P E s := by
  unfold ksk_rest
  refine wpAny_bind (wpAny_rule ?_)
  first
    | rw [List.forIn_toArray]
    | (rw [← Array.forIn_toList]; simp only [List.toList_toArray])
    | rw [← Array.forIn_toList]
  refine wpAny_bind (ksk_fold (fun i s' => ∃ kA e, J i s' ∧ s'.heap.get? kS = some (seqObj "list" kA e) ∧ s'.heap.get? a = some (seqObj "list" #[] e1) ∧ EachIs (fun v (k : Int) => ∃ t, v = Value.int k t) kA.toList (ks.take i)) vs 0 s
    ⟨#[], 0, J0, nk, na, by rw [List.take_zero]; exact EachIs.nil⟩ ?step ?done)
  case step =>
    rintro j x s' hx ⟨kA, e, hJ, nk', na', hk⟩
    rw [Nat.zero_add] at hJ hk ⊢
    have hj : j < vs.length := (List.getElem?_eq_some_iff.mp hx).1
    obtain ⟨k, hkj⟩ : ∃ k, ks[j]? = some k := ⟨_, List.getElem?_eq_getElem (by omega)⟩
    have hz : kA.size ≤ vs.length := by
      have := hk.length
      rw [Array.length_toList, List.length_take] at this
      omega
    refine wpAny_bind (wpAny_attempt (wpAny_mono (turn j x k hx hkj s' kA e hJ nk' na') (fun v s2 he => ?_) fun _ _ no => no.elim))
    obtain ⟨⟨t, rfl⟩, nk2, na2, fin⟩ := he
    try dsimp only
    have sb := Heap.SameBut.update s2.heap kS (Obj.mapSeq (·.push (Value.int k t)))
    have up := get?_update_seq nk2 (·.push (Value.int k t))
    refine wpAny_bind (listUpdate_at nk2 rfl ?_ (Nat.le_trans hz hZ) (by rw [Array.size_push]; omega))
    refine wpAny_pure ⟨rfl, kA.push (Value.int k t), _, fin _ sb ⟨_, _, up⟩, up, (sb.2 a hka.symm).trans na2, ?_⟩
    rw [Array.toList_push, List.take_add_one, hkj]
    exact each_snoc (R := fun v (k : Int) => ∃ t, v = Value.int k t) ⟨t, rfl⟩ hk
  case done =>
    rintro s' ⟨kA, e, hJ, nk', na', hk⟩
    rw [Nat.zero_add] at hJ hk
    rw [← hlen, List.take_length] at hk
    have hk' := ints_reads s'.heap hk
    have hsz : kA.size = vs.length := by
      have := hk.length
      rw [Array.length_toList] at this
      omega
    try dsimp only
    refine wpAny_bind (listItems_at nk' rfl ?_)
    have S := SortsAt.data (prog := prog) (w := w) (A := A) (s := s') hk' (alike_ints ks) hsk (fun d hd => by
      obtain ⟨i, _, rfl⟩ := List.mem_map.mp hd
      show A.units + 0 < cLine
      omega)
    refine keyH_end (κ := dataKind s'.heap (ks.map PyData.int)) (h₁ := dropH s'.heap kS) (s := s') (fun c o hc q => ?_) dropH_none nk' na' hka S hsz hZ fun h3 tk3 c k3 n3 => h s' h3 tk3 _ c hJ (fun c o h1 h2 q => k3 c o h1 ((dropH_ne h2).mpr q)) n3 ⟨s'.heap, kA.toList, alike_ints ks, rfl, hk'⟩
    by_cases hcs : c = kS
    · rw [hcs, dropH_none] at q; cases q
    · exact (dropH_ne hcs).mp q
/-- what the turns of a key= keep, for the list at a and the keys at kS -/
structure Turns (prog : Program) (w : World) (A : Around) (s : Shared) (f : Value) (vs : List Value) (ks : List Int) (Q : Value → Shared → Prop) (a kS : Addr) (J : Nat → Shared → Prop) : Prop where
  start : ∀ h2 e1, (∀ b o, s.heap.get? b = some o → h2.get? b = some o) → h2.get? kS = some (seqObj "list" #[] 0) → h2.get? a = some (seqObj "list" #[] e1) → J 0 { s with heap := h2 }
  turn : ∀ (e1 i : Nat) (v : Value) (k : Int), vs[i]? = some v → ks[i]? = some k → ∀ (s' : Shared) (kA : Array Value) (e : Nat), J i s' → s'.heap.get? kS = some (seqObj "list" kA e) → s'.heap.get? a = some (seqObj "list" #[] e1) →
      wpAny (model prog w) A (call f [v]) (fun u s2 => (∃ t, u = .int k t) ∧ s2.heap.get? kS = some (seqObj "list" kA e) ∧ s2.heap.get? a = some (seqObj "list" #[] e1) ∧
        ∀ h', Heap.SameBut kS s2.heap h' → (∃ kA' e', h'.get? kS = some (seqObj "list" kA' e')) → J (i + 1) { s2 with heap := h' }) (fun _ _ => False) s'
  fin : ∀ (s' : Shared) h' tk out c, J vs.length s' → (∀ b o, b ≠ a → b ≠ kS → s'.heap.get? b = some o → h'.get? b = some o) → h'.get? a = some (seqObj "list" (List.toArray out) c) → KeyedOut false (ks.map PyData.int) vs out → Q (.ref a) { s' with heap := h', toks := tk }
theorem sortedJ {l q : Addr} {ks : List Int} {Q : Value → Shared → Prop} (hl : s.heap.IsList l vs.toArray) (hlen : ks.length = vs.length) (hZ : vs.length ≤ sizeLine) (hu : A.units + 2 < cLine) (hsk : Sortable (ks.map PyData.int)) (ha1 : argsOk "sorted" ⟨[.ref l], [(Str.ofString "key", .ref q)]⟩) (ha2 : ∀ x, argsOk "list.sort" ⟨[.ref x], [(Str.ofString "key", .ref q)]⟩)
    (T : ∀ a kS : Addr, s.heap.objs.size ≤ a → s.heap.objs.size ≤ kS → kS ≠ a → ∃ J, Turns prog w A.in1.in1 s (.ref q) vs ks Q a kS J) : wpAny (model prog w) A (call (.builtin "sorted") [.ref l] [(Str.ofString "key", .ref q)]) Q E s := by
  refine sorted_of_sort hl hZ ha1 ha2 fun E' => ?_
  rw [ksk_t1]
  have ho := copyHeap_at s.heap vs
  have old : ∀ b o, s.heap.get? b = some o → (copyHeap s.heap vs).get? b = some o := fun b o e => copyHeap_old e
  have hlt : s.heap.objs.size + 1 < (copyHeap s.heap vs).objs.size := Heap.lt_size ho
  generalize copyHeap s.heap vs = g at ho old hlt
  obtain ⟨e1, ho1⟩ : ∃ e1, (g.update (s.heap.objs.size + 1) (Obj.mapSeq fun _ => (#[] : Array Value))).get? (s.heap.objs.size + 1) = some (seqObj "list" #[] e1) := ⟨_, get?_update_seq ho fun _ => #[]⟩
  have sb := Heap.SameBut.update g (s.heap.objs.size + 1) (Obj.mapSeq fun _ => (#[] : Array Value))
  have hsz : (g.update (s.heap.objs.size + 1) (Obj.mapSeq fun _ => (#[] : Array Value))).objs.size = g.objs.size := Heap.size_update ..
  unfold ksk_tree
  refine wpAny_bind (listItems_at ho rfl ?_)
  refine wpAny_bind (listUpdate_at ho rfl ?_ (by rw [List.size_toArray]; exact hZ) (Nat.zero_le _))
  refine wpAny_bind (seqEpoch_at ho1 rfl ?_)
  refine wpAny_bind (wpAny_newTuple ?_ (by show vs.length ≤ _; exact hZ))
  refine wpAny_bind (wpAny_newList ?_ (Nat.zero_le _))
  refine wpAny_holding ?_
  have hk : ((g.update (s.heap.objs.size + 1) (Obj.mapSeq fun _ => (#[] : Array Value))).push (seqObj "tuple" vs.toArray 0)).objs.size = g.objs.size + 1 := by rw [size_push', hsz]
  have hne : ((g.update (s.heap.objs.size + 1) (Obj.mapSeq fun _ => (#[] : Array Value))).push (seqObj "tuple" vs.toArray 0)).objs.size ≠ s.heap.objs.size + 1 := by rw [hk]; exact Nat.ne_of_gt (Nat.lt_succ_of_lt hlt)
  obtain ⟨J, t⟩ := T (s.heap.objs.size + 1) ((g.update (s.heap.objs.size + 1) (Obj.mapSeq fun _ => (#[] : Array Value))).push (seqObj "tuple" vs.toArray 0)).objs.size (Nat.le_succ _) (show s.heap.objs.size ≤ _ from by rw [hk]; exact Nat.le_trans (Nat.le_succ _) (Nat.le_trans (Nat.le_of_lt hlt) (Nat.le_succ _))) hne
  refine keyJ (J := J) hlen hZ (show A.units + 1 + 1 < cLine by omega) hsk ?_ (Heap.get?_push_size _ rfl) (Heap.get?_push_of_some _ (Heap.get?_push_of_some _ ho1)) hne (t.turn e1) fun s' h' tk out c hJ hk2 hD ko => ⟨rfl, t.fin s' h' tk out c hJ hk2 hD ko⟩
  refine t.start _ e1 (fun b o e => Heap.get?_push_of_some _ (Heap.get?_push_of_some _ ((sb.2 b ?_).trans (old b o e)))) (Heap.get?_push_size _ rfl) (Heap.get?_push_of_some _ (Heap.get?_push_of_some _ ho1))
  exact Nat.ne_of_lt (Nat.lt_succ_of_lt (Heap.lt_size e))
end
end DS
/-! DS1: a lambda of one parameter, called beside its maker. -/
namespace DS
open PySem PySem.Spec PyProof.Rows L2 LamX
/-- one parameter a, captured names, globals -/
structure Lam1 (sc scope : Scope) (a : Str) : Prop where
  kind : scope.kind = .function
  co : scope.isCoroutine = false
  gen : scope.isGenerator = false
  par : scope.names.lookup a = some .local
  own : ∀ y ∈ scope.names, y.2 ≠ .cell ∧ (y.2 = .local → y.1 = a)
  free : ∀ y ∈ scope.names, y.2 = .free → sc.names.lookup y.1 = some .cell ∨ sc.names.lookup y.1 = some .free
def lam1B (sc scope : Scope) (a : Str) : Bool :=
  decide (scope.kind = .function) && !scope.isCoroutine && !scope.isGenerator && decide (scope.names.lookup a = some .local) && scope.names.all fun y => !decide (y.2 = .cell) && (!decide (y.2 = .local) || decide (y.1 = a)) && (!decide (y.2 = .free) || (decide (sc.names.lookup y.1 = some .cell) || decide (sc.names.lookup y.1 = some .free)))
theorem lam1_by {sc scope : Scope} {a : Str} (h : lam1B sc scope a = true) : Lam1 sc scope a := by
  unfold lam1B at h
  simp only [Bool.and_eq_true, Bool.or_eq_true, Bool.not_eq_true', decide_eq_true_eq, decide_eq_false_iff_not, List.all_eq_true] at h
  obtain ⟨⟨⟨⟨h1, h2⟩, h3⟩, h5⟩, h4⟩ := h
  refine ⟨h1, h2, h3, h5, fun y hy => ⟨(h4 y hy).1.1, fun e => ?_⟩, fun y hy e => ?_⟩
  · rcases (h4 y hy).1.2 with z | z
    · exact absurd e z
    · exact z
  · rcases (h4 y hy).2 with z | z
    · exact absurd e z
    · exact z
theorem Lam1.has {X : Cx} {scope : Scope} {a : Str} (L : Lam1 X.env.scope scope a) (ok : X.Ok) : ∀ y ∈ scope.names, y.2 = .free → ∃ c, X.env.cells.lookup y.1 = some c := fun y hy e => by
  rcases L.free y hy e with k | k
  · exact ok.has _ (.inl k)
  · exact ok.has _ (.inr k)
section
variable {X : Cx} {pins : List (Addr × Obj)} {σ : L2.St} {H : Hp} {s : Shared}
theorem lam1_start {A : Around} {outer : List Env} {E : XK} {scope : Scope} {f c' : Addr} {h₁ : Heap} {tk : Nat} {a : Str} {ip : Nat} {v : V} {u : Value} (I : Inv X pins σ H s) (L : Lam1 X.env.scope scope a) (e0 : Env0 X.prog X.w X.K X.mg X.base A outer s H) (hd : A.handled = none)
    (hnd : X.N.Nodup) (hip : X.N[ip]? = some a) (rv : RelV v u) (hns : h₁.Ns s.heap.objs.size fun y => ([(a, u)] : List (Str × Value)).reverse.lookup y) (kp : ∀ b o, s.heap.get? b = some o → h₁.get? b = some o) :
    Inv (lamCx X A outer s H E scope f c') [] (σ.set ip (some v)) H { s with heap := h₁, toks := tk } := by
  have hfree := L.has I.ok
  have cm : ∀ {y c}, (cloFrom X.env.cells scope.names []).lookup y = some c → X.env.cells.lookup y = some c := fun {y c} e => by
    rcases cloFrom_mem (PySem.mem_of_lookup e) with hm | ⟨h1, h2⟩
    · cases hm
    · obtain ⟨c1, hc⟩ := hfree _ h1 rfl
      have hc : X.env.cells.lookup y = some c1 := hc
      have e2 : c = c1 := by rw [h2, hc] <;> rfl
      rw [e2]; exact hc
  have look : ∀ {y}, scope.names.lookup y = some .free → ∃ c, (cloFrom X.env.cells scope.names []).lookup y = some c := fun {y} hl => by
    have hy : (y, NameKind.free) ∈ scope.names := PySem.mem_of_lookup hl
    exact mem_lookup (cloFrom_has (cells := X.env.cells) (acc := []) hy)
  have cellK : ∀ {c : Addr} {w : Option Value}, s.heap.IsCell c w → h₁.IsCell c w := fun {c w} ⟨o, ho, hd⟩ => ⟨o, kp _ _ ho, hd⟩
  have noA : ∀ b : Addr, b ∉ (lamCx X A outer s H E scope f c').ex := fun b z => absurd (show b ∈ ([] : List Addr) from z) (by simp)
  refine ⟨⟨e0.mod, L.kind, rfl, rfl, Nat.le_refl _, fun y z c e1 e2 => I.ok.inj y z c (cm e1) (cm e2), fun y hy => ?_, fun y c z _ => ?_, fun _ => hd, Around.frames_deeper e0.frames, .inr ⟨rfl, rfl⟩, fun b z => absurd z (noA b), e0.bs, e0.bsz, fun b _ _ => noA b,
      fun b z => absurd z (noA b), e0.funs, e0.frf⟩,
    rfl, e0.bare, Un.kept kp, ⟨_, hns, fun i y w e1 e2 e3 => ?_⟩, fun y c e => ?_, e0.hok.fresh (Nat.le_refl _), fun y c e => ?_, fun q hq => absurd (show q ∈ ([] : List (Addr × Obj)) ++ [] from hq) (by simp), e0.hok.kept kp, (by rw [List.length_set]; exact I.len)⟩
  · have hy : scope.names.lookup y = some .cell ∨ scope.names.lookup y = some .free := hy
    rcases hy with hy | hy
    · exact absurd rfl (L.own _ (PySem.mem_of_lookup hy)).1
    · exact look hy
  · have z : false = true := z
    cases z
  · have e3 : Vis scope y := e3
    have e1 : X.N[i]? = some y := e1
    by_cases hya : y = a
    · subst hya
      have hi : i = ip := (List.getElem?_inj (List.getElem?_eq_some_iff.mp e1).1 hnd).mp (e1.trans hip.symm)
      subst hi
      rw [List.getElem?_set_self (by rw [I.len]; exact (List.getElem?_eq_some_iff.mp e1).1)] at e2
      cases e2
      refine ⟨u, rv, .inl ⟨L.par, ?_⟩⟩
      show ([(y, u)] : List (Str × Value)).reverse.lookup y = some u
      simp
    · have hi : ip ≠ i := fun z => by
        subst z
        rw [hip] at e1
        cases e1
        exact hya rfl
      rw [List.getElem?_set_ne hi] at e2
      rcases e3 with k | k | k
      · exact absurd ((L.own _ (PySem.mem_of_lookup k)).2 rfl) hya
      · exact absurd rfl (L.own _ (PySem.mem_of_lookup k)).1
      · obtain ⟨m, hn, hl⟩ := I.loc
        have hvis : Vis X.env.scope y := (L.free _ (PySem.mem_of_lookup k) rfl).elim (fun k => .inr (.inl k)) (fun k => .inr (.inr k))
        obtain ⟨w', r, q⟩ := hl i y w e1 e2 hvis
        obtain ⟨c2, h2⟩ := look k
        refine ⟨w', r, .inr ⟨.inr k, c2, h2, ?_⟩⟩
        have c1 := cm h2
        rcases q with ⟨k', _⟩ | ⟨_, c3, e', z⟩
        · have k' : X.env.scope.names.lookup y = some .local := k'
          rcases L.free _ (PySem.mem_of_lookup k) rfl with k2 | k2 <;> rw [show X.env.scope.names.lookup y = _ from k2] at k' <;> cases k'
        · rw [c1] at e'
          cases e'
          exact cellK z
  · obtain ⟨w', z⟩ := I.cell y c (cm e)
    exact ⟨w', cellK z⟩
  · exact I.freeC y c (cm e)
/-- f(u), f the lambda, its maker at s: what its body tells -/
theorem lam1_call {A : Around} {scope : Scope} {f c' : Addr} {a : Str} {ip : Nat} {v : V} {u : Value} {params : Arguments} {body : Expr} {pm ctv : Value} {tb : TE} {Q : VK} {k : Nat} (I : Inv X pins σ H s) (L : Lam1 X.env.scope scope a)
    (hf : s.heap.get? f = some (PySem.W.kla_obj "<lambda>" (X.env.qual ++ "<lambda>") params body scope (cloFrom X.env.cells scope.names []) pm c' ctv)) (hc : H c' = some (CodeO c' (X.env.qual ++ "<lambda>")))
    (e0 : Env0 X.prog X.w X.K X.mg X.base A X.stack s H) (hr : Room (k + 1) A) (hnd : X.N.Nodup) (hip : X.N[ip]? = some a) (rv : RelV v u)
    (hbind : bindArgs (PySem.W.kla_fn "<lambda>" (X.env.qual ++ "<lambda>") params body scope (cloFrom X.env.cells scope.names []) pm (.ref c') ctv) ⟨[u], []⟩ = pure [(a, u)])
    (hbody : Room k (A.deeper (lamEnv X scope s.heap.objs.size f c')) → PE (lamCx X A X.stack s H (fun _ _ _ => False) scope f c').nox body tb) (ht : tb (σ.set ip (some v)) H Q) :
    codeAny (model X.prog X.w) A (.call (.ref f) ⟨[u], []⟩) (CR (L2.CX X.prog X.w) X.stack X.prog X.w H s Q fun _ _ _ => False) s := by
  obtain ⟨⟨oc, vs, t, hoc, hdc, hvc⟩, _, _⟩ := I.hok c' _ hc
  refine PySem.W.kla_callFunE hr.depth hf rfl L.co L.gen rfl ⟨c', oc, vs, t, rfl, hoc, hdc, hvc⟩ ?_
  rw [hbind]
  refine wpAny_pure (wpAny_newFunctionEnv (fun y hy => (L.own y hy).1) (fun y hy => by
    rw [List.mem_singleton] at hy; subst hy; exact L.par) (fun h₁ hns hsb => ⟨I.nolimit.fresh _ hsb, ?_⟩) L.kind)
  show codeAny _ _ (.expr body (lamEnv X scope s.heap.objs.size f c')) _ _
  have kp : ∀ b o, s.heap.get? b = some o → h₁.get? b = some o := fun b o e => hsb.extBut b o (Nat.ne_of_lt (Heap.lt_size e)) (Heap.get?_push_of_some _ e)
  have J := lam1_start (A := A) (outer := X.stack) (E := fun _ _ _ => False) (f := f) (c' := c') (tk := s.toks + ([(a, u)] : List (Str × Value)).length) I L e0 hr.hd hnd hip rv hns kp
  refine PySem.W.kla_codeExpr (wpAny_mono (((hbody (hr.deeper _)).nox).run [] _ _ H Q J ht) (fun z s' hq => ?_) fun e s' hq => hq)
  obtain ⟨w', H', J', rw', q⟩ := hq
  exact ⟨w', H', J'.os, J'.bare, J'.base, J'.hok, rw', q⟩
theorem no_cx {P : Program} {w : World} {outer : List PySem.Env} {e : Value} {s' : Shared} (h : L2.CX P w outer H s (fun _ _ _ => False) e s') : False := by
  obtain ⟨_, _, _, _, _, _, _, _, _, _, _, _, z⟩ := h
  exact z
end
end DS
/-! DS2: sorted(xs, key=lambda a: ..), whole numbers by whole numbers. -/
namespace DS
open PySem PySem.Spec PyProof.Rows L2 LamX
section
variable {X : Cx} {pins : List (Addr × Obj)} {σ : L2.St} {H H' : Hp} {s : Shared}
/-- a new address is none of what the frame leans on -/
theorem new_ch (I : Inv X pins σ H s) {b : Addr} (h : s.heap.objs.size ≤ b) : (b ∈ X.ex ∨ X.s_0.heap.objs.size ≤ b) ∧ b ≠ X.env.locals ∧ (∀ x c, X.env.cells.lookup x = some c → c ≠ b) ∧ ∀ p ∈ X.pn ++ pins, p.1 ≠ b := by
  refine ⟨.inr (Nat.le_trans I.sz h), fun z => ?_, fun x c e z => ?_, fun p hp z => ?_⟩
  · obtain ⟨m, ⟨o, _, _, ho, _⟩, _⟩ := I.loc
    exact absurd (Nat.lt_of_lt_of_le (Heap.lt_size ho) h) (by rw [z]; exact Nat.lt_irrefl _)
  · obtain ⟨v, o, ho, _⟩ := I.cell x c e
    exact absurd (Nat.lt_of_lt_of_le (Heap.lt_size ho) h) (by rw [z]; exact Nat.lt_irrefl _)
  · exact absurd (Nat.lt_of_lt_of_le (Heap.lt_size (I.pin p hp).1) h) (by rw [z]; exact Nat.lt_irrefl _)
/-- untracked new objects have turned -/
theorem turned (I : Inv X pins σ H s) {ch : List Addr} {h' : Heap} {tk : Nat} (hch : ∀ b ∈ ch, (b ∈ X.ex ∨ X.s_0.heap.objs.size ≤ b) ∧ b ≠ X.env.locals ∧ (∀ x c, X.env.cells.lookup x = some c → c ≠ b) ∧ ∀ p ∈ X.pn ++ pins, p.1 ≠ b)
    (hn : ∀ b ∈ ch, H b = none) (k : ∀ b o, b ∉ ch → s.heap.get? b = some o → h'.get? b = some o) : Inv X pins σ H { s with heap := h', toks := tk } := by
  have u : Un (frs X.stack) ch H H s.heap h' := ⟨fun b o e _ _ hb => k b o hb e, fun b o e _ _ hb => ⟨o.slots, k b o hb e⟩, fun b o _ n _ => n, fun b o e hb => ⟨o, k b o hb e⟩, fun _ _ e => e, fun _ _ _ e => e, fun b ps e => ⟨#[], by rw [e]; simp⟩⟩
  refine I.call (g' := s.gens) (d' := s.drawn) (t' := tk) u (fun a o e => (I.hok a o e).stay (fun b x hb q => k b x (fun hc => ?_) q) (fun _ q => q) fun _ _ q => q) I.bare hch
  rcases hb with hb | hb
  · rw [← hb, hn b hc] at e; cases e
  · rw [hn b hc] at hb; cases hb
/-- .. one of them is a list of ours from now on -/
theorem turned_lst (I : Inv X pins σ H s) {ch : List Addr} {h' : Heap} {tk : Nat} {a : Addr} {vs : List V} (hch : ∀ b ∈ ch, (b ∈ X.ex ∨ X.s_0.heap.objs.size ≤ b) ∧ b ≠ X.env.locals ∧ (∀ x c, X.env.cells.lookup x = some c → c ≠ b) ∧ ∀ p ∈ X.pn ++ pins, p.1 ≠ b)
    (hn : ∀ b ∈ ch, H b = none) (ha : a ∈ ch) (k : ∀ b o, b ∉ ch → s.heap.get? b = some o → h'.get? b = some o) (hl : ObjOk X.prog X.w (upd H a (.lst vs)) h' a (.lst vs)) : Inv X pins σ (upd H a (.lst vs)) { s with heap := h', toks := tk } := by
  have na := hn a ha
  have u : Un (frs X.stack) ch H (upd H a (.lst vs)) s.heap h' := ⟨fun b o e _ _ hb => k b o hb e, fun b o e _ _ hb => ⟨o.slots, k b o hb e⟩, fun b o _ n hb => by rw [upd_ne (fun z => hb (by rw [z]; exact ha))]; exact n, fun b o e hb => ⟨o, k b o hb e⟩, fun b _ e => by rw [upd_ne (ne_of_none e na)]; exact e, fun b _ _ e => by rw [upd_ne (ne_of_none e na)]; exact e, fun b ps e => ⟨#[], by rw [upd_ne (ne_of_none e na), e]; simp⟩⟩
  refine I.call (g' := s.gens) (d' := s.drawn) (t' := tk) u (fun b o e => ?_) I.bare hch
  by_cases hb : b = a
  · rw [hb] at e ⊢
    rw [upd_same] at e
    cases e
    exact hl
  · rw [upd_ne hb] at e
    refine (I.hok b o e).stay (fun c x hc q => k c x (fun hx => ?_) q) (fun c q => by rw [upd_ne (ne_of_none q na)]; exact q) fun c xs q => by rw [upd_ne (ne_of_none q na)]; exact q
    rcases hc with hc | hc
    · rw [← hc, hn c hx] at e; cases e
    · rw [hn c hx] at hc; cases hc
/-- whole numbers by whole numbers -/
def byKeys (is ks : List Int) : List Int := ((is.zip ks).mergeSort fun a b => decide (a.2 ≤ b.2)).map Prod.fst
theorem vals_ints : ∀ {is : List Int} {its : List Value}, Vals (is.map V.int) its → PySem.W.EachIs (fun v (i : Int) => ∃ t, v = Value.int i t) its is
  | [], _, r => by cases r; exact .nil
  | i :: is, _, r => by
    cases r with
    | cons r1 r2 => obtain ⟨t, rfl⟩ := r1; exact .cons ⟨t, rfl⟩ (vals_ints r2)
theorem zip_each : ∀ {is ks : List Int} {its : List Value}, is.length = ks.length → PySem.W.EachIs (fun v (i : Int) => ∃ t, v = Value.int i t) its is → PySem.W.EachIs (fun v (p : Int × Int) => ∃ t, v = Value.int p.1 t) its (is.zip ks)
  | [], _, _, _, .nil => .nil
  | i :: is, k :: ks, _, h, .cons r t => .cons r (zip_each (by simpa using h) t)
theorem out_vals : ∀ {ps : List (Int × Int)} {out : List Value}, PySem.W.EachIs (fun v (p : Int × Int) => ∃ t, v = Value.int p.1 t) out ps → Vals ((ps.map Prod.fst).map V.int) out
  | _, _, .nil => .nil
  | _, _, .cons r t => .cons r (out_vals t)
theorem sort_run {f c' l : Addr} {a : Str} {ip : Nat} {params : Arguments} {body : Expr} {scope : Scope} {pm ctv : Value} {tb : TE} {is ks : List Int} {JH : Hp → Prop} {Q : VK} {k : Nat} (I : Inv X pins σ H s) (L : Lam1 X.env.scope scope a)
    (hf : s.heap.get? f = some (PySem.W.kla_obj "<lambda>" (X.env.qual ++ "<lambda>") params body scope (cloFrom X.env.cells scope.names []) pm c' ctv)) (hfn : H f = none) (hfr : f ∉ frs X.stack) (hc : H c' = some (CodeO c' (X.env.qual ++ "<lambda>")))
    (hr : Room (k + 3) X.A) (hnd : X.N.Nodup) (hip : X.N[ip]? = some a)
    (hbind : ∀ u : Value, bindArgs (PySem.W.kla_fn "<lambda>" (X.env.qual ++ "<lambda>") params body scope (cloFrom X.env.cells scope.names []) pm (.ref c') ctv) ⟨[u], []⟩ = pure [(a, u)])
    (hbody : ∀ (A : Around) (s : Shared) (H : Hp), Room k (A.deeper (lamEnv X scope s.heap.objs.size f c')) → PE (lamCx X A X.stack s H (fun _ _ _ => False) scope f c').nox body tb)
    (hs : SqL X.K H l (is.map V.int)) (hlen : ks.length = is.length) (J0 : JH H)
    (step : ∀ (i : Nat) (x k' : Int), is[i]? = some x → ks[i]? = some k' → ∀ H2, JH H2 → tb (σ.set ip (some (.int x))) H2 fun v H3 => v = .int k' ∧ JH H3 ∧ ∀ b φ, H2 b = some (.ext φ) → H3 b = some (.ext φ))
    (fin : ∀ H3 p, JH H3 → H3 p = none → Q (.ref p) (upd H3 p (.lst ((byKeys is ks).map V.int)))) :
    wpAny (model X.prog X.w) X.A (call (.builtin "sorted") [.ref l] [(Str.ofString "key", .ref f)]) (EP X pins σ Q) X.xe s := by
  obtain ⟨its, rv, hl, hz⟩ := I.list hs
  have hi := vals_ints rv
  have hil : its.length = is.length := hi.length
  rw [List.length_map] at hz
  have hun := hr.un
  refine sortedJ (vs := its) (ks := ks) hl.isList (by rw [hlen, hil]) (by rw [hil]; exact hz) (by omega) (.inr fun d hd => ?_) (PyProof.Rows.ksk_s1 _ _) (fun x => PyProof.Rows.ksk_l1 _ _) fun aL kS h1 h2 hne => ?_
  · obtain ⟨i, _, rfl⟩ := List.mem_map.mp hd
    exact ⟨fun z => (nomatch z), fun xs z => (nomatch z)⟩
  have hfo : f < s.heap.objs.size := Heap.lt_size hf
  have nfa : f ≠ aL := fun z => by rw [z] at hfo; exact absurd (Nat.lt_of_lt_of_le hfo h1) (Nat.lt_irrefl _)
  have nfk : f ≠ kS := fun z => by rw [z] at hfo; exact absurd (Nat.lt_of_lt_of_le hfo h2) (Nat.lt_irrefl _)
  have fra : aL ∉ frs X.stack := fun z => by
    obtain ⟨_, o, ho, _⟩ := I.stack.mem z
    exact absurd (Nat.lt_of_lt_of_le (Heap.lt_size ho) h1) (Nat.lt_irrefl _)
  have frk : kS ∉ frs X.stack := fun z => by
    obtain ⟨_, o, ho, _⟩ := I.stack.mem z
    exact absurd (Nat.lt_of_lt_of_le (Heap.lt_size ho) h2) (Nat.lt_irrefl _)
  refine ⟨fun i s' => ∃ Hi, Inv X pins σ Hi s' ∧ JH Hi ∧ Hi c' = some (CodeO c' (X.env.qual ++ "<lambda>")) ∧ Hi aL = none ∧ Hi kS = none ∧ Hi f = none ∧ s'.heap.get? f = some (PySem.W.kla_obj "<lambda>" (X.env.qual ++ "<lambda>") params body scope (cloFrom X.env.cells scope.names []) pm c' ctv), ?_, ?_, ?_⟩
  · intro g e1 kp _ _
    exact ⟨H, I.kept (t' := s.toks) kp, J0, hc, I.hok.fresh h1, I.hok.fresh h2, hfn, kp _ _ hf⟩
  · rintro e1 i v kk hv hk s' kA e ⟨Hi, Ii, Ji, ci, na, nk, nf, ff⟩ gk ga
    have hx : ∃ x, is[i]? = some x ∧ ∃ t, v = Value.int x t := by
      have hlt : i < is.length := by rw [← hil]; exact (List.getElem?_eq_some_iff.mp hv).1
      refine ⟨is[i], List.getElem?_eq_getElem hlt, ?_⟩
      have := hi.zip (v, is[i]) (List.mem_of_getElem? (i := i) (by rw [List.getElem?_zip_eq_some]; exact ⟨hv, List.getElem?_eq_getElem hlt⟩))
      exact this
    obtain ⟨x, hx, t, rfl⟩ := hx
    have rc := lam1_call (A := X.A.in1.in1) (u := Value.int x t) (v := .int x) (Q := fun v H3 => v = .int kk ∧ JH H3 ∧ ∀ b φ, Hi b = some (.ext φ) → H3 b = some (.ext φ)) (k := k) Ii L ff ci Ii.env0.in1.in1 hr.in1.in1 hnd hip ⟨t, rfl⟩ (hbind _) (hbody _ _ _) (step i x kk hx hk Hi Ji)
    refine wpAny_call (codeAny_mono rc fun r s2 hq => ?_)
    cases r with
    | error e => exact (no_cx hq).elim
    | ok fl =>
      cases fl with
      | ret u =>
        obtain ⟨w, H3, os, bare, un, hok, rw_, ew, J3, ext3⟩ := hq
        subst ew
        obtain ⟨hh, g, d, tt, os'⟩ := s2
        obtain rfl : os' = s'.os := os
        have I3 : Inv X pins σ H3 { s' with heap := hh, gens := g, drawn := d, toks := tt } := Ii.call (ch := []) un hok bare (fun b z => absurd z (by simp))
        have ka := un.keep aL _ ga na fra (by simp)
        have kk' := un.keep kS _ gk nk frk (by simp)
        refine ⟨rw_, kk', ka, fun h' sb hk2 => ?_⟩
        have na3 := un.free aL _ ga na (by simp)
        have nk3 := un.free kS _ gk nk (by simp)
        refine ⟨H3, ?_, J3, ext3 _ _ ci, na3, nk3, un.free f _ ff nf (by simp), (sb.2 f nfk).trans (un.keep f _ ff nf hfr (by simp))⟩
        exact turned I3 (ch := [kS]) (tk := tt) (fun b hb => by
          rw [List.mem_singleton] at hb
          subst hb
          obtain ⟨q1, q2, q3, q4⟩ := new_ch I h2
          exact ⟨q1, q2, q3, q4⟩) (fun b hb => by rw [List.mem_singleton] at hb; subst hb; exact nk3) (fun b o hb e => (sb.2 b (fun z => hb (by rw [z]; exact List.mem_singleton.mpr rfl))).trans e)
      | next => exact False.elim hq
      | brk => exact False.elim hq
      | cont => exact False.elim hq
  · rintro s' h' tk out c ⟨Hi, Ii, Ji, ci, na, nk, nf, ff⟩ kp hD ko
    have hb : (is.zip ks).map (fun p => PyData.int p.2) = ks.map PyData.int := by
      rw [show (fun p : Int × Int => PyData.int p.2) = PyData.int ∘ Prod.snd from rfl, ← List.map_map, List.map_snd_zip (by omega)]
    have eo := PySem.W.keyedOut_each (rev := false) (R := fun v (p : Int × Int) => ∃ t, v = Value.int p.1 t) (bs := is.zip ks) (vs := its) (out := out) (fun p => PyData.int p.2) (by rw [hb]; exact ko) (zip_each hlen.symm hi)
    rw [PySem.W.dataLe_int (fun p : Int × Int => p.2)] at eo
    have ov := out_vals eo
    have hlen2 : ((byKeys is ks).map V.int).length ≤ sizeLine := by
      unfold byKeys
      rw [List.length_map, List.length_map, List.length_mergeSort, List.length_zip]
      omega
    refine ⟨.ref aL, upd Hi aL (.lst ((byKeys is ks).map V.int)), turned_lst Ii (ch := [aL, kS]) (fun b hb => ?_) (fun b hb => ?_) (by simp) (fun b o hb e => kp b o (fun z => hb (by rw [z]; simp)) (fun z => hb (by rw [z]; simp)) e) ⟨hlen2, out, c, ov, hD⟩, rfl, fin Hi aL Ji na⟩
    · have : b = aL ∨ b = kS := by simpa using hb
      rcases this with z | z
      · subst z; exact new_ch I h1
      · subst z; exact new_ch I h2
    · have : b = aL ∨ b = kS := by simpa using hb
      rcases this with z | z
      · subst z; exact na
      · subst z; exact nk
end
end DS
/-! DS3: a lambda is made: what becomes of the tracked heap, told exactly. -/
namespace DS
open PySem PySem.Spec PyProof.Rows L2 LamX
section
variable {X : Cx} {pins : List (Addr × Obj)} {σ : L2.St} {H : Hp} {s : Shared}
/-- the table grew by the code object at c', or nothing happened -/
def Grown (H H1 : Hp) (P c' : Addr) (q : Str) : Prop := H1 = H ∨ ∃ ps qs : Array Value, H P = some (.tbl ps) ∧ H c' = none ∧ H1 = upd (upd H P (.tbl qs)) c' (CodeO c' q)
theorem lam_make3 {c P : Addr} {params : Arguments} {body : Expr} {scope : Scope} {pos : Pos} {E : Value → Shared → Prop} {Q : Value → Shared → Prop} (I : Inv X pins σ H s) (TB : TabB X.base X.mg c P) (hcode : X.env.code = .ref c) (hT : TabS H P (X.env.qual ++ "<lambda>"))
    (hdef : defaultsOf params X.env = ([], [])) (hfree : ∀ y ∈ scope.names, y.2 = .free → ∃ c, X.env.cells.lookup y.1 = some c)
    (fin : ∀ (f c' : Addr) (pm ctv : Value) (H1 : Hp) (s' : Shared), Inv X pins σ H1 s' → Grown H H1 P c' (X.env.qual ++ "<lambda>") → TabS H1 P (X.env.qual ++ "<lambda>") →
      s'.heap.get? f = some (PySem.W.kla_obj "<lambda>" (X.env.qual ++ "<lambda>") params body scope (cloFrom X.env.cells scope.names []) pm c' ctv) → H1 f = none → f ∉ frs X.stack → H1 c' = some (CodeO c' (X.env.qual ++ "<lambda>")) → Q (.ref f) s') :
    wpAny (model X.prog X.w) X.A (eval (.Lambda params body scope pos) X.env) Q E s := by
  obtain ⟨ps, tP, ok, names⟩ := hT
  have fresh_fr : ∀ f, s.heap.objs.size ≤ f → f ∉ frs X.stack := fun f hf z => by
    obtain ⟨_, o, ho, _⟩ := I.stack.mem z
    exact absurd (Nat.lt_of_lt_of_le (Heap.lt_size ho) hf) (Nat.lt_irrefl _)
  have blt := TB.bm.keeps I.bk
  have objP : s.heap.get? P = some { cls := .none, data := .fields ps } := I.hok P _ tP
  have glob := I.mod.glob.keeps I.bk
  have head := TB.code.keeps I.bk
  refine PySem.W.kla_eval hdef ?_
  cases found : codeAmong pos ps.toList with
  | some cv =>
    obtain ⟨c', rfl, hco⟩ := names pos cv found
    refine PySem.W.kla_makeFunctionHit (mg := X.mg) (c := c) (P := P) (ps := ps) (closure_ok hfree) I.ok.glob glob hcode head objP ok found blt fun ctv g tk kept size => ?_
    exact fin g.objs.size c' ((X.mg "__name__").getD .none) ctv H _ (I.kept fun b o e => Heap.get?_push_of_some _ (kept b o e)) (.inl rfl) ⟨ps, tP, ok, names⟩ (Heap.get?_push_size _ rfl) (I.hok.fresh size) (fresh_fr _ size) hco
  | none =>
    refine PySem.W.kla_makeFunction (mg := X.mg) (c := c) (P := P) (ps := ps) (closure_ok hfree) I.ok.glob glob hcode head objP ok found TB.gP blt fun c' ctv g tk but ge lt rec tab => ?_
    obtain ⟨c2, oc, vs, t, e2, at_, dat, nam⟩ := rec
    cases e2
    have newC : H c' = none := I.hok.fresh ge
    have size : s.heap.objs.size ≤ g.objs.size := Nat.le_trans ge (Nat.le_of_lt lt)
    have PC : P ≠ c' := ne_of_none tP newC
    generalize ho : PySem.W.kla_obj "<lambda>" (X.env.qual ++ "<lambda>") params body scope (cloFrom X.env.cells scope.names []) ((X.mg "__name__").getD .none) c' ctv = ob
    have J := inv_table (t' := tk) (more := #[rawInt pos.line, rawInt pos.col, .ref c']) (h' := g.push ob) I tP (fun b o hb e => Heap.get?_push_of_some _ (but b o hb e)) (Heap.get?_push_of_some _ tab) ge ⟨oc, vs, t, Heap.get?_push_of_some _ at_, dat, nam⟩
    refine fin g.objs.size c' ((X.mg "__name__").getD .none) ctv _ _ J (.inr ⟨ps, _, tP, newC, rfl⟩) ⟨_, (upd_ne PC).trans upd_same, ?_, fun p' cv hcv => ?_⟩ ?_ ?_ (fresh_fr _ size) upd_same
    · rw [Array.toList_append]
      exact PySem.TriplesOk_snoc _ _ _ _ ok
    · rw [Array.toList_append] at hcv
      rcases among_app _ ok hcv with z | z
      · obtain ⟨c0, e1, e2⟩ := names p' cv z
        refine ⟨c0, e1, ?_⟩
        rw [upd_ne (ne_of_none e2 newC), upd_ne (fun y => by
          rw [y, tP] at e2
          exact codeO_ne ps (Option.some.inj e2).symm)]
        exact e2
      · exact ⟨c', z, upd_same⟩
    · rw [← ho]; exact Heap.get?_push_size _ rfl
    · rw [upd_ne (Nat.ne_of_gt lt), upd_ne (Nat.ne_of_gt (Nat.lt_of_lt_of_le (Heap.lt_size objP) size))]
      exact I.hok.fresh size
end
end DS
/-! DS4: sorted(xs, key=lambda a: e) over data. -/
namespace DL
open PySem PySem.Spec PyProof.Rows L2 LamX DS
variable [TabP]
/-- where a lambda is made -/
structure LamP (X : Cx) (c P : Addr) : Prop where
  tb : TabB X.base X.mg c P
  code : X.env.code = .ref c
  mem : (P, X.env.qual ++ "<lambda>") ∈ TabP.T
  un : ∀ p ∈ TabP.T, p.1 = P → p.2 = X.env.qual ++ "<lambda>"
theorem Grown.ext {F H H1 : Hp} {P c' : Addr} {q : Str} (g : Grown H H1 P c' q) (tf : TF F H) (le : Same F H) (t1 : TabS H1 P q) (hu : ∀ p ∈ TabP.T, p.1 = P → p.2 = q) : Ext F H F H1 := by
  rcases g with rfl | ⟨ps, qs, hP, hc, rfl⟩
  · exact Ext.refl le
  · have keep : ∀ a o, H a = some o → (∀ ps, o ≠ .tbl ps) → upd (upd H P (.tbl qs)) c' (CodeO c' q) a = some o := fun a o e n => by
      rw [upd_ne (ne_of_none e hc), upd_ne (fun z => by rw [z, hP] at e; exact n ps (Option.some.inj e).symm)]
      exact e
    refine ⟨Same.refl _, fun a o e => .inl e, fun a o e => keep a o (le a o e) (fun ps z => tf.2 a ps (by rw [← z]; exact e)), fun a o e => ?_, fun t p hp => ?_, id⟩
    · by_cases ha : a = P
      · subst ha
        rw [hP] at e
        cases e
        exact ⟨qs, by rw [upd_ne (ne_of_none hP hc), upd_same]⟩
      · cases o with
        | tbl os => exact ⟨os, by rw [upd_ne (ne_of_none e hc), upd_ne ha]; exact e⟩
        | _ => exact keep a _ e fun _ z => nomatch z
    · by_cases hp1 : p.1 = P
      · rw [hp1, hu p hp hp1]; exact t1
      · obtain ⟨os, k1, k2, k3⟩ := t p hp
        refine ⟨os, by rw [upd_ne (ne_of_none k1 hc), upd_ne hp1]; exact k1, k2, fun pos cv hcv => ?_⟩
        obtain ⟨c0, e1, e2⟩ := k3 pos cv hcv
        exact ⟨c0, e1, keep c0 _ e2 codeO_ne⟩
/-- the keys of the items -/
def keysF (ip : Nat) (fe : Env → Res D) (δ : Env) : List Int → Res (List Int)
  | [] => .ok []
  | i :: is => match fe (δ.set ip (.val (.int i))) with
    | .ok (.int k) => match keysF ip fe δ is with
      | .ok ks => .ok (k :: ks)
      | _ => .err
    | _ => .err
theorem keysF_at {ip : Nat} {fe : Env → Res D} {δ : Env} : ∀ {is ks : List Int}, keysF ip fe δ is = .ok ks → ks.length = is.length ∧ ∀ (j : Nat) (x k : Int), is[j]? = some x → ks[j]? = some k → fe (δ.set ip (.val (.int x))) = .ok (.int k)
  | [], ks, h => by cases h; exact ⟨rfl, fun j x k h => by cases h⟩
  | i :: is, ks, h => by
    unfold keysF at h
    split at h
    · rename_i k hk
      split at h
      · rename_i ks' hks
        cases h
        obtain ⟨h1, h2⟩ := keysF_at hks
        refine ⟨by simp [h1], fun j x k2 hx hk2 => ?_⟩
        cases j with
        | zero => cases hx; cases hk2; exact hk
        | succ j => exact h2 j x k2 (by simpa using hx) (by simpa using hk2)
      · cases h
    · cases h
def gKeys (ip : Nat) (fe : Env → Res D) (δ : Env) : D → Res (List D)
  | .list ds => match intsOf ds with
    | some is => match keysF ip fe δ is with
      | .ok ks => .ok ((byKeys is ks).map .int)
      | _ => .err
    | none => .err
  | _ => .err
def sortKF (fa : Env → Res D) (ip : Nat) (fe : Env → Res D) : Env → Res (List D) := fun δ => (fa δ).bind (gKeys ip fe δ)
section
variable {X : Cx} {N : List Str} {sc : Scope} {fn : Str → Bool} {W : WS}
abbrev LamI := Around × Shared × Hp × Addr × Addr
abbrev lamOf (X : Cx) (scope : Scope) (i : LamI) : Cx := (lamCx X i.1 X.stack i.2.1 i.2.2.1 (fun _ _ _ => False) scope i.2.2.2.1 i.2.2.2.2).nox
theorem PFp.sortKey {a : Expr} {fa fe : Env → Res D} {x : Str} {params : Arguments} {body : Expr} {scope : Scope} {p lpos kpos pos : Pos} {k : Nat} (c : Ctx X N sc fn) (hm : X.mg "sorted" = none) (ip : Nat) (lp : ∃ cc P, LamP X cc P) (hr : Room (k + 3) X.A) (ha : PRp X W a fa)
    (hb : ∀ i : LamI, Room k (lamOf X scope i).A → Ctx (lamOf X scope i) N scope (fun _ => false) → PEp (lamOf X scope i) W0 body fe)
    (hip : N[ip]? = some x := by rfl) (hl : lam1B sc scope x = true := by decide +kernel) (hdef : defaultsOf params X.env = ([], []) := by rfl) (hg : isGl sc "sorted" = true := by rfl)
    (hbind : ∀ (q : Str) (cl : List (Str × Addr)) (pm cv ctv u : Value), bindArgs (PySem.W.kla_fn "<lambda>" q params body scope cl pm cv ctv) ⟨[u], []⟩ = pure [(x, u)] := by intros; rfl)
    (he0 : starEach [a] X.env = (false, eval a X.env) :: starEach [] X.env := by rfl)
    (he : backTo pos (starEach [a] X.env) = (false, eval a X.env) :: backTo pos (starEach [] X.env) := by rfl) (hpl : (backTo pos (starEach [a] X.env)).any (·.1) = false := by rfl) :
    PFp X W (.Call (.Name "sorted" p) [a] [⟨some "key", .Lambda params body scope lpos, kpos⟩] pos) (sortKF fa ip fe) := by
  obtain ⟨ta, pa, qa⟩ := ha
  obtain ⟨cc, P, lp⟩ := lp
  obtain ⟨tb, pb, qb⟩ := pe_all (ι := { i : LamI // Room k (lamOf X scope i).A }) (B := fun i => lamOf X scope i.1) (f := fe) (e := body) fun i => hb i.1 i.2 ⟨c.hN, c.nd, rfl, rfl, rfl, by have := i.2.un; omega, PassesOwn.never⟩
  have hl1 : Lam1 X.env.scope scope x := by rw [c.sc]; exact lam1_by hl
  let t : TE := fun σ H Q => tCons ta tNil σ H fun vs H1 => ∃ (l : Addr) (is ks : List Int), vs = [.ref l] ∧ SqL X.K H1 l (is.map V.int) ∧ ks.length = is.length ∧ TabS H1 P (X.env.qual ++ "<lambda>") ∧
    ∀ (c' : Addr) (H2 : Hp), Grown H1 H2 P c' (X.env.qual ++ "<lambda>") → TabS H2 P (X.env.qual ++ "<lambda>") → ∃ JH : Hp → Prop, JH H2 ∧ (∀ (i : Nat) (y k' : Int), is[i]? = some y → ks[i]? = some k' → ∀ H3, JH H3 → tb (σ.set ip (some (.int y))) H3 fun v H4 => v = .int k' ∧ JH H4 ∧ ∀ b φ, H3 b = some (.ext φ) → H4 b = some (.ext φ)) ∧
      ∀ H3 q, JH H3 → H3 q = none → Q (.ref q) (upd H3 q (.lst ((byKeys is ks).map V.int)))
  refine ⟨t, ⟨fun pins s σ H Q I h => ?_⟩, fun C F δ σ H Q s h => ?_⟩
  · refine wpAny_Call_Name_kw (ld_blt I (c.gl hg) hm (by decide +kernel : bootBuiltins "sorted" = some (.builtin "sorted")) ?_ (by decide) (by decide))
    refine PyProof.Rows.callWith_kw (L2.thn ((pa_cons pa pa_nil he0).run pos pins s σ H _ I h) fun us s1 ⟨vs, H1, I1, r1, q1⟩ => ?_) he hpl rfl rfl
    obtain ⟨l, is, ks, rfl, hs, hlen, tP, more⟩ := q1
    show wpAny _ _ (evalAll ((do let v ← eval (.Lambda params body scope lpos) X.env; standAt pos; pure v) :: [])) _ _ s1
    refine wpAny_evalAll_cons (wpAny_bind (lam_make3 I1 lp.tb lp.code tP hdef (hl1.has I1.ok) fun f c' pm ctv H2 s2 I2 gr t2 hf hfn hfr hc => wpAny_bind (wpAny_standAt (wpAny_pure ?_))))
    refine wpAny_pure ?_
    rw [Vals.ref1 r1]
    obtain ⟨JH, j0, step, fin⟩ := more c' H2 gr t2
    have hs2 : SqL X.K H2 l (is.map V.int) := by
      rcases gr with rfl | ⟨ps, qs, hP, hc', rfl⟩
      · exact hs
      · rcases hs with (hs | ⟨o, hs⟩) | hs
        · exact .inl (.inl (by rw [upd_ne (ne_of_none hs hc'), upd_ne (fun z => by rw [z, hP] at hs; cases hs)]; exact hs))
        · exact .inl (.inr ⟨o, by rw [upd_ne (ne_of_none hs hc'), upd_ne (fun z => by rw [z, hP] at hs; cases hs)]; exact hs⟩)
        · exact .inr hs
    exact sort_run (k := k) I2 hl1 hf hfn hfr hc hr (by rw [c.hN]; exact c.nd) (by rw [c.hN]; exact hip) (fun u => hbind _ _ _ _ _ _) (fun A s H hrm => pb ⟨(A, s, H, f, c'), hrm⟩) hs2 hlen j0 step fin
  · refine qa C F δ σ H _ s ((Gd.bind2 h).mono fun d F1 H1 x1 h1 v rv => ?_)
    cases d with
    | list ds =>
      dsimp only [gKeys] at h1
      cases q : intsOf ds with
      | none => rw [q] at h1; exact False.elim h1
      | some is =>
        rw [q] at h1
        dsimp only at h1
        cases q2 : keysF ip fe δ is with
        | exc c => rw [q2] at h1; exact False.elim h1
        | err => rw [q2] at h1; exact False.elim h1
        | ok ks =>
          rw [q2] at h1
          obtain ⟨hlen, at_⟩ := keysF_at q2
          obtain ⟨l, vs, ex, hs, ra⟩ := rv
          rw [intsOf_map q] at ra
          rw [ra.vints] at hs
          have s1 := s.ext x1
          refine ⟨l, is, ks, by rw [ex], SqL.of hs, hlen, s1.tf.1 _ lp.mem, fun c' H2 gr t2 => ⟨fun H3 => ∃ F3, Ext F1 H1 F3 H3, ⟨F1, DL.Grown.ext gr s1.tf x1.le t2 lp.un⟩, fun i y k' hy hk' H3 ⟨F3, x3⟩ => ?_, fun H3 a ⟨F3, x3⟩ hn => ?_⟩⟩
          · have s3 := (s1.ext x3).set_val (i := ip) (v := .int y) (d := .int y) (.int y)
            refine qb X.K (fun _ => rfl) C F3 _ _ H3 _ s3 ?_
            rw [at_ i y k' hy hk']
            intro F4 H4 x4 v rv
            cases rv
            exact ⟨rfl, ⟨F4, x3.trans x4⟩, fun b φ e => x4.hh b _ e⟩
          · have x13 := x1.trans x3
            exact (show Gd W σ F H (.ok ((byKeys is ks).map PyData.int)) _ from h1).ok (x13.newH hn _) a _ (x13.hh.free hn) (x13.le.free hn) upd_same (RpA.ints _)
    | _ => exact False.elim h1
end
end DL
/-! DS5: defs with a known code object; the head's facts. -/
namespace DL
open PySem PySem.Spec PyProof.Rows L2 LamX DS
variable [TabP]
structure FunC (K : PySem.W.Frag) (x : Str) (st : Stmt) (f : Addr) (fd : FuncData) (cc : Addr) : Prop where
  ex : ∃ (oc : Value) (od : Option Addr) (kV doc pm : Value) (an : Option Addr) (ct : Value) (osl : Array (Option Value)),
    fd = PySem.W.fnOf x x (defArgs st) (defBody st) (defScope st) .none kV doc pm an (.ref cc) ct ∧ K.lookup f = some ⟨oc, od, .func fd, osl⟩ ∧ PySem.W.codeIn K (.ref cc) x = true
  kp : PySem.W.keepIn K (.ref f) = true
theorem FunC.fun_ {K : PySem.W.Frag} {x : Str} {st : Stmt} {f : Addr} {fd : FuncData} {cc : Addr} (F : FunC K x st f fd cc) : Fun K x x st f fd := by
  obtain ⟨oc, od, kV, doc, pm, an, ct, osl, h1, h2, h3⟩ := F.ex
  exact ⟨⟨oc, od, kV, doc, pm, an, .ref cc, ct, osl, h1, h2, h3⟩, F.kp⟩
theorem funC_of {K : PySem.W.Frag} {x : Str} {st : Stmt} {f : Addr} {fd : FuncData} (F : FunD K x x (defArgs st) (defBody st) (defScope st) [] [] f fd) (hf : f = He.fAd K (x, none)) : FunC K x st f fd (He.codeOf K (x, none)) := by
  obtain ⟨oc, od, dV, kV, doc, pm, an, cdv, ct, osl, h1, h2, h3, h4, _⟩ := F.ex
  obtain ⟨cc, rfl⟩ := He.codeIn_ref h3
  have e : He.codeOf K (x, none) = cc := He.codeOf_eq (by rw [← hf]; exact h2) (by rw [h1])
  rw [e]
  rcases h4 with ⟨_, rfl⟩ | ⟨z, _⟩
  · exact ⟨⟨oc, od, kV, doc, pm, an, ct, osl, h1, h2, h3⟩, F.kp⟩
  · exact absurd rfl z
section
variable {P : Program} {w : World} {K : PySem.W.Frag} {mg : Str → Option Value} {base : Heap} {x : Str} {st : Stmt} {f cc : Addr} {fd : FuncData} {N ps : List Str} {k : Nat} {fb : Env → Fl}
abbrev BodyC (P : Program) (w : World) (K : PySem.W.Frag) (mg : Str → Option Value) (base : Heap) (k : Nat) (N : List Str) (x : Str) (st : Stmt) (cc : Addr) (fb : Env → Fl) : Prop :=
  ∀ X : Cx, X.prog = P → X.w = w → X.K = K → X.mg = mg → X.base = base → Room k X.A → X.env.scope.kind = .function → X.env.code = .ref cc → X.env.qual = x ++ ".<locals>." → Ctx X N (defScope st) (fun _ => true) → PSsp X W0 (defBody st) fb
theorem okC_def (Fn : FunC K x st f fd cc) (S : FnScope N ps (defScope st)) (n : Nat) (hn : n = ps.length) (m : Nat) (hm : N.length = m) (hb : BodyC P w K mg base k N x st cc fb) :
    FnOk P w K mg base CX0 (k + 1) f fd ps (spF K mg n (runD fb m)) := by
  obtain ⟨oc, od, kV, doc, pm, an, ct, osl, rfl, lk, hcd⟩ := Fn.ex
  refine fn_of lk hcd S (len_of hn) fun A outer s H vs Q E hr h => ?_
  obtain ⟨t, p, q⟩ := hb (cxOf CX0 P w K mg base N x (defScope st) f (.ref cc) A outer s H E).nox rfl rfl rfl rfl rfl hr S.kind rfl rfl (ctx_nox S hr)
  refine ⟨t, p.nox, ?_⟩
  obtain ⟨F, ds, h1, h0, h2, h3, h4⟩ := h
  have s0 := sat_start (N := N) h1 h0 h2
  rw [hm] at s0
  refine q ⟨F, H, fun _ => False, fun _ => .non⟩ F _ _ H _ s0 ?_
  unfold runD at h4
  cases r : fb (startE m ds) with
  | nx δ => rw [r] at h4; exact fun F' σ' H' e s => h4 F' H' s.ext0 _ .non
  | rt d => rw [r] at h4; exact fun F' δ' σ' H' v e s rv => h4 F' H' s.ext0 v rv
  | rf es =>
    rw [r] at h4
    intro F' δ' σ' H' a ws e s h5 h6 h7 h8
    have z : H a = none := h5.elim id False.elim
    exact h4 _ H' (s.ext0.frz z h6 h7) _ (.lst upd_same (RpA.mono (same_new h6 _) _ _ h8))
  | _ => rw [r] at h4; exact h4.elim
theorem okC_defN (Fn : FunC K x st f fd cc) (S : FnScope N ps (defScope st)) (n : Nat) (hn : n = ps.length) (m : Nat) (hm : N.length = m) (hb : BodyC P w K mg base k N x st cc fb) :
    FnOk P w K mg base CX0 (k + 1) f fd ps (spN K mg n (runF fb m)) := by
  obtain ⟨oc, od, kV, doc, pm, an, ct, osl, rfl, lk, hcd⟩ := Fn.ex
  refine fn_of lk hcd S (len_ofN hn) fun A outer s H vs Q E hr h => ?_
  obtain ⟨t, p, q⟩ := hb (cxOf CX0 P w K mg base N x (defScope st) f (.ref cc) A outer s H E).nox rfl rfl rfl rfl rfl hr S.kind rfl rfl (ctx_nox S hr)
  refine ⟨t, p.nox, ?_⟩
  obtain ⟨F, ds, h1, h0, h2, h3, h4⟩ := h
  have s0 := sat_start (N := N) h1 h0 h2
  rw [hm] at s0
  refine q ⟨F, H, fun _ => False, fun _ => .non⟩ F _ _ H _ s0 ?_
  unfold runF at h4
  cases r : fb (startE m ds) with
  | rf es =>
    rw [r] at h4
    intro F' δ' σ' H' a ws e s h5 h6 h7 h8
    exact h4 F' H' s.ext0 a ws (h5.elim id False.elim) h6 h7 h8
  | _ => rw [r] at h4; exact h4.elim
/-- a def that makes lambdas: its code object at cc -/
structure TopC (K : PySem.W.Frag) (mg : Str → Option Value) (x : Str) (st : Stmt) (cc : Addr) : Prop where
  ex : ∃ f fd, FunC K x st f fd cc ∧ mg x = some (.ref f)
theorem Kn.defC (T : TopC K mg x st cc) (S : FnScope N ps (defScope st)) (n : Nat) (hn : n = ps.length) (m : Nat) (hm : N.length = m) (hbd : BindT x st ps) (hb : BodyC P w K mg base k N x st cc fb) : Kn P w K mg base CX0 x (k + 1) (spF K mg n (runD fb m)) := by
  obtain ⟨f, fd, F, e⟩ := T.ex
  exact ⟨f, fd, ps, okC_def F S n hn m hm hb, e, F.kp, F.fun_.binds hbd⟩
theorem Kn.defNC (T : TopC K mg x st cc) (S : FnScope N ps (defScope st)) (n : Nat) (hn : n = ps.length) (m : Nat) (hm : N.length = m) (hbd : BindT x st ps) (hb : BodyC P w K mg base k N x st cc fb) : Kn P w K mg base CX0 x (k + 1) (spN K mg n (runF fb m)) := by
  obtain ⟨f, fd, F, e⟩ := T.ex
  exact ⟨f, fd, ps, okC_defN F S n hn m hm hb, e, F.kp, F.fun_.binds hbd⟩
end
end DL
/-! DS6: the law's end by the head's facts. -/
namespace DL
open PySem PySem.Spec PyProof.Rows L2 LamX DS
def lamName (x : Str) : Str := x ++ ".<locals>." ++ "<lambda>"
def tabT (K : PySem.W.Frag) (tf : List He.Defn) : List (Addr × Str) := tf.map fun p => ((He.cT K p).2, lamName p.1)
def tabsNd (tf : List He.Defn) (K : PySem.W.Frag) : Bool := decide ((tf.map fun p => (He.cT K p).2).Nodup)
theorem nd_inj {α β : Type} {g : α → β} : ∀ {l : List α}, (l.map g).Nodup → ∀ {a b : α}, a ∈ l → b ∈ l → g a = g b → a = b
  | [], _, _, _, h, _, _ => nomatch h
  | x :: l, hn, a, b, ha, hb, e => by
    rw [List.map_cons] at hn
    have hn := List.nodup_cons.mp hn
    rcases List.mem_cons.mp ha with ha | ha
    · rcases List.mem_cons.mp hb with hb | hb
      · rw [ha, hb]
      · exact absurd (List.mem_map.mpr ⟨b, hb, by rw [← e, ha]⟩) hn.1
    · rcases List.mem_cons.mp hb with hb | hb
      · exact absurd (List.mem_map.mpr ⟨a, ha, by rw [e, hb]⟩) hn.1
      · exact nd_inj hn.2 ha hb e
theorem lamP_of {w : World} {bc : Addr} {K : PySem.W.Frag} {tf : List He.Defn} (hn : tabsNd tf K = true) {x : Str} (hx : (x, none) ∈ tf) {X : Cx} (tb : TabB X.base X.mg (He.cT K (x, none)).1 (He.cT K (x, none)).2) (hc : X.env.code = .ref (He.codeOf K (x, none))) (hq : X.env.qual = x ++ ".<locals>.") :
    @LamP ⟨tabT K tf, w, bc⟩ X (He.codeOf K (x, none)) (He.cT K (x, none)).2 := by
  have hnd := of_decide_eq_true hn
  refine @LamP.mk ⟨tabT K tf, w, bc⟩ X _ _ tb hc ?_ ?_
  · show ((He.cT K (x, none)).2, X.env.qual ++ "<lambda>") ∈ tabT K tf
    rw [hq]
    exact List.mem_map.mpr ⟨(x, none), hx, rfl⟩
  · intro p hp e
    obtain ⟨d, hd, rfl⟩ := List.mem_map.mp hp
    have := nd_inj (g := fun p => (He.cT K p).2) hnd hd hx e
    rw [this, hq]; rfl
theorem tb_start {w : World} {bc : Addr} {K : PySem.W.Frag} {tf : List He.Defn} {H : Hp} (h : ∀ p ∈ tf.map (He.cT K), H p.2 = some (.tbl #[])) : @Tb ⟨tabT K tf, w, bc⟩ H := by
  intro p hp
  obtain ⟨d, hd, rfl⟩ := List.mem_map.mp hp
  exact TabS.nil (h _ (List.mem_map.mpr ⟨d, hd, rfl⟩))
section
variable [TabP]
theorem Top.ofD {K : PySem.W.Frag} {mg : Str → Option Value} {x : Str} {st : Stmt} {f : Addr} (h : ∃ fd, FunD K x x (defArgs st) (defBody st) (defScope st) [] [] f fd) (e : mg x = some (.ref f)) : Top K mg x st := by
  obtain ⟨fd, F⟩ := h
  obtain ⟨oc, od, dV, kV, doc, pm, an, cdv, ct, osl, h1, h2, h3, h4, _⟩ := F.ex
  rcases h4 with ⟨_, rfl⟩ | ⟨z, _⟩
  · exact ⟨f, fd, ⟨⟨oc, od, kV, doc, pm, an, cdv, ct, osl, h1, h2, h3⟩, F.kp⟩, e⟩
  · exact absurd rfl z
theorem TopC.ofD {K : PySem.W.Frag} {mg : Str → Option Value} {x : Str} {st : Stmt} (h : ∃ fd, FunD K x x (defArgs st) (defBody st) (defScope st) [] [] (He.fAd K (x, none)) fd) (e : mg x = some (.ref (He.fAd K (x, none)))) : TopC K mg x st (He.codeOf K (x, none)) := by
  obtain ⟨fd, F⟩ := h
  exact ⟨_, fd, funC_of F rfl, e⟩
theorem fun_ofD {K : PySem.W.Frag} {x q : Str} {st : Stmt} {f : Addr} {fd : FuncData} (F : FunD K x q (defArgs st) (defBody st) (defScope st) [] [] f fd) : Fun K x q st f fd := by
  obtain ⟨oc, od, dV, kV, doc, pm, an, cdv, ct, osl, h1, h2, h3, h4, _⟩ := F.ex
  rcases h4 with ⟨_, rfl⟩ | ⟨z, _⟩
  · exact ⟨⟨oc, od, kV, doc, pm, an, cdv, ct, osl, h1, h2, h3⟩, F.kp⟩
  · exact absurd rfl z
end
end DL
/-! DT0: a module's int, list(range(n)). -/
namespace DL
open PySem PySem.Spec PyProof.Rows L2
section
variable [TabP] {X : Cx} {N : List Str} {sc : Scope} {fn : Str → Bool} {W : WS} {pos : Pos}
theorem PEp.glob {x : Str} {i : Int} (c : Ctx X N sc fn) (h : ∃ u, X.mg x = some u ∧ RelV (.int i) u) (hg : isGl sc x = true := by rfl) (hd : (x == ("__debug__" : Str)) = false := by decide) : PEp X W (.Name x pos) (cD (.int i)) :=
  ⟨_, pe_glob (c.gl hg) h.choose_spec.1 h.choose_spec.2 hd, fun C F δ σ H Q s g => g.ok (Ext.refl s.le) _ (.int i)⟩
/-- list(range(n)) -/
def gRL : D → Res (List D)
  | .int j => if 0 ≤ j ∧ j ≤ 16777216 then .ok (((List.range j.toNat).map fun i : Nat => (i : Int)).map PyData.int) else .err
  | _ => .err
def rngL (f : Env → Res D) : Env → Res (List D) := un f gRL
@[simp] theorem rngL_ev {f : Env → Res D} {δ : Env} : rngL f δ = (f δ).bind gRL := rfl
theorem rgV_ints (j : Int) : rgV 0 j = ((List.range j.toNat).map fun i : Nat => (i : Int)).map V.int := by
  unfold rgV
  rw [List.map_map, Int.sub_zero]
  refine List.map_congr_left fun (i : Nat) _ => ?_
  show V.int (0 + (i : Int)) = V.int (i : Int)
  rw [Int.zero_add]
theorem PFp.listRange {e : Expr} {f : Env → Res D} {p p' pos' : Pos} (c : Ctx X N sc fn) (hml : X.mg "list" = none) (hm : X.mg "range" = none) (h : PRp X W e f) (hgl : isGl sc "list" = true := by rfl) (hg : isGl sc "range" = true := by rfl)
    (he : starEach [e] X.env = (false, eval e X.env) :: starEach [] X.env := by rfl)
    (hna : starEach [Expr.Call (.Name "range" p') [e] [] pos'] X.env = (false, eval (Expr.Call (.Name "range" p') [e] [] pos') X.env) :: starEach [] X.env := by rfl) :
    PFp X W (.Call (.Name "list" p) [.Call (.Name "range" p') [e] [] pos'] [] pos) (rngL f) := by
  obtain ⟨t, pe, q⟩ := h
  refine ⟨_, pe_listRg c.calm (c.gl hgl) hml (prg_1 (c.gl hg) hm pe he) hna, fun C F δ σ H Q s g => ?_⟩
  refine q C F δ σ H _ s ((Gd.bind g).mono fun d F1 H1 x1 h1 v rv => ?_)
  cases d with
  | int j =>
    dsimp only [gRL] at h1
    split at h1
    · rename_i k
      refine ⟨j, by rw [Rt.int rv], RgOk.of_le (by omega) k.2 (by omega) k.1, fun a ha => ?_⟩
      exact h1.ok ((Ext.refl x1.le).newH ha _) a _ (x1.hh.free ha) (x1.le.free ha) upd_same (by rw [rgV_ints]; exact RpA.ints _)
    · exact False.elim h1
  | _ => exact False.elim h1
end
end DL
/-! DT1: {}. -/
namespace DL
open PySem PySem.Spec PyProof.Rows L2
section
variable [TabP] {X : Cx} {W : WS} {pos : Pos}
def nilK : Env → Res (List (D × D)) := fun _ => .ok []
@[simp] theorem nilK_ev {δ : Env} : nilK δ = .ok [] := rfl
theorem PKp.nil : PKp X W (.Dict [] [] pos) nilK :=
  ⟨_, pe_dnewK, fun C F δ σ H Q s g a ha => (show Gd W σ F H (.ok []) _ from g).ok ((Ext.refl s.le).newH ha _) a [] ha (s.le.free ha) upd_same .nil⟩
def oneK (fk f : Env → Res D) : Env → Res (List (D × D)) := fun δ => (fk δ).bind fun k => (f δ).bind fun d => match keyOf k with
  | some _ => .ok [(k, d)]
  | none => .err
@[simp] theorem oneK_ev {fk f : Env → Res D} {δ : Env} : oneK fk f δ = (fk δ).bind fun k => (f δ).bind fun d => match keyOf k with
  | some _ => .ok [(k, d)]
  | none => .err := rfl
theorem PKp.one {k e : Expr} {fk f : Env → Res D} (hk : PRp X W k fk) (h : PEp X W e f) : PKp X W (.Dict [some k] [e] pos) (oneK fk f) := by
  obtain ⟨tk, pk, qk⟩ := hk
  obtain ⟨t, pe, q⟩ := h
  refine ⟨_, pe_disp (pps_cons pk pe pps_nil) rfl rfl (by simp) (by simp), fun C F δ σ H Q s g p hp => ?_⟩
  have x0 : Ext F H F (upd H p (.dK [])) := (Ext.refl s.le).newH hp _
  have s0 := s.ext x0
  have hF : F p = none := s.le.free hp
  refine qk C F δ σ _ _ s0 (((Gd.bind2 g).ext x0).mono fun kd F1 H1 x1 g1 kv rk => ?_)
  refine q C F1 δ σ H1 _ (s0.ext x1) (((Gd.bind2 g1).ext (x0.trans x1)).mono fun d F2 H2 x2 g2 v rv => ?_)
  split at g2
  · rename_i kk ek
    have xx : Ext F H F2 H2 := (x0.trans x1).trans x2
    have hp2 : H2 p = some (.dK []) := ((x1.trans x2).hh p _ upd_same).keep (fun ps z => nomatch z)
    have hF2 : F2 p = none := by
      cases e : F2 p with
      | none => rfl
      | some o =>
        rcases (x1.trans x2).nw p o e with z | z
        · rw [hF] at z; cases z
        · rw [upd_same] at z; cases z
    refine ⟨hp2, [(kk, v)], ?_, by simp, ?_⟩
    · rw [rk.key ek]; rfl
    · have := kD_of ek
      subst this
      exact g2.ok (xx.chg hp hF2 hp2 (.inr (.inl ⟨_, rfl⟩)) _) p _ hp hF2 upd_same (.cons rv .nil)
  · exact False.elim g2
end
end DL
/-! DT2: d.get(k, x). -/
namespace DL
open PySem PySem.Spec PyProof.Rows L2
section
variable [TabP] {X : Cx} {N : List Str} {sc : Scope} {fn : Str → Bool} {W : WS} {o e f : Expr} {fo fe fx : Env → Res D} {apos cpos : Pos}
def chkK : D → Res (List (D × D))
  | .dict kvs => match scrOf kvs with
    | some _ => .err
    | none => .ok kvs
  | _ => .err
def getK (kvs : List (D × D)) (k z : D) : Res D := match keyOf k with
  | some k => .ok ((lookK kvs k).getD z)
  | none => .err
def dget2D (fo fe fx : Env → Res D) : Env → Res D := fun δ => (fo δ).bind fun x => (chkK x).bind fun kvs => (fe δ).bind fun k => (fx δ).bind fun z => getK kvs k z
@[simp] theorem dget2D_ev {δ : Env} : dget2D fo fe fx δ = (fo δ).bind fun x => (chkK x).bind fun kvs => (fe δ).bind fun k => (fx δ).bind fun z => getK kvs k z := rfl
theorem PEp.dget2 (c : Ctx X N sc fn) (ho : PRp X W o fo) (he : PRp X W e fe) (hx : PEp X W f fx)
    (hbase : attributeBase o "get" X.env (eval o X.env) = eval o X.env := by rfl)
    (hfew : ((backTo cpos (starEach [e, f] X.env)).all (fun x => !x.1) && (backToKw cpos (keywordEach [] X.env)).all (fun x => x.1.isSome)
      && decide (([e, f] : List Expr).length + ([] : List Keyword).length + (if ([] : List Keyword).isEmpty then 0 else 1) < 30)) = true := by rfl)
    (hline : (apos.endLine == cpos.line) = true := by rfl) (ht : backTo cpos (starEach [e, f] X.env) = [(false, eval e X.env), (false, eval f X.env)] := by rfl) :
    PEp X W (.Call (.Attribute o "get" apos) [e, f] [] cpos) (dget2D fo fe fx) := by
  obtain ⟨to, po, qo⟩ := ho
  obtain ⟨te, pe, qe⟩ := he
  obtain ⟨tx, px, qx⟩ := hx
  refine ⟨_, pe_dget2 c.u1 po pe px ⟨hbase, hfew, hline, ht⟩, fun C F δ σ H Q s g => ?_⟩
  refine qo C F δ σ H _ s ((Gd.bind g).mono fun d F1 H1 x1 g1 v rv => ?_)
  cases d with
  | dict kvs =>
    unfold chkK at g1
    dsimp only at g1
    rcases rv.dict x1.le with ⟨a, ks, ex, hs, ra, e0⟩ | ⟨a, ns, ex, hs, e0⟩
    · rw [e0] at g1
      have g1 : Gd W σ F1 H1 ((fe δ).bind fun k => (fx δ).bind fun z => getK kvs k z) _ := g1
      refine ⟨a, ex, .inl ⟨ks, .inl hs⟩, ?_⟩
      refine qe C F1 δ σ H1 _ (s.ext x1) ((Gd.bind g1).mono fun k F2 H2 x2 g2 kv rk => ?_)
      refine qx C F2 δ σ H2 _ ((s.ext x1).ext x2) ((Gd.bind g2).mono fun z F3 H3 x3 g3 zv rz => ?_)
      unfold getK at g3
      split at g3
      · rename_i k' hk
        refine ⟨valV ks k', ?_, ?_⟩
        · rw [rk.key hk]
          exact DGet.k (((x2.trans x3).hh _ _ hs).keep (fun ps z => nomatch z))
        · have ra' := RpK.mono (x2.trans x3).ff _ _ ra
          rcases ra'.val k' with ⟨l1, l2⟩ | ⟨w, d, l1, l2, rw_⟩
          · rw [l2] at g3; rw [l1]
            exact g3.ok (Ext.refl x3.le) _ rz
          · rw [l2] at g3; rw [l1]
            exact g3.ok (Ext.refl x3.le) _ rw_
      · exact False.elim g3
    · rw [e0] at g1
      exact False.elim g1
  | _ => exact False.elim g1
end
end DL
/-! DT3: plain facts of dicts. -/
namespace DL
open PySem PySem.Spec PyProof.Rows L2
variable [TabP]
@[simp] theorem lookK_nil {k : Key} : lookK [] k = none := rfl
theorem lookK_cons {p : D × D} {r : List (D × D)} {k : Key} : lookK (p :: r) k = if keyOf p.1 = some k then some p.2 else lookK r k := by
  unfold lookK
  by_cases e : keyOf p.1 = some k
  · rw [List.find?_cons_of_pos (by simp [e]), if_pos e]; rfl
  · rw [List.find?_cons_of_neg (by simp [e]), if_neg e]
theorem lookK_app {r s : List (D × D)} {k : Key} : lookK (r ++ s) k = match lookK r k with
    | some d => some d
    | none => lookK s k := by
  induction r with
  | nil => rfl
  | cons p r ih =>
    rw [List.cons_append, lookK_cons, lookK_cons]
    by_cases e : keyOf p.1 = some k
    · rw [if_pos e, if_pos e]
    · rw [if_neg e, if_neg e, ih]
theorem lookK_none {r : List (D × D)} {k : Key} : lookK r k = none ↔ (r.any fun kv => decide (keyOf kv.1 = some k)) = false := by
  induction r with
  | nil => simp
  | cons p r ih =>
    rw [lookK_cons, List.any_cons]
    by_cases e : keyOf p.1 = some k
    · rw [if_pos e]; simp [e]
    · rw [if_neg e, ih]; simp [e]
theorem lookK_repl {r : List (D × D)} {k j : Key} {d : D} : lookK (r.map fun kv => if keyOf kv.1 = some k then (kv.1, d) else kv) j = if j = k then (lookK r j).map (fun _ => d) else lookK r j := by
  induction r with
  | nil => simp
  | cons p r ih =>
    rw [List.map_cons, lookK_cons, lookK_cons, ih]
    by_cases e : keyOf p.1 = some k
    · rw [if_pos e]
      by_cases f : j = k
      · subst f; simp [e]
      · have : ¬ keyOf p.1 = some j := fun z => f (Option.some.inj (z.symm.trans e))
        simp [this, f]
    · rw [if_neg e]
      by_cases f : j = k
      · subst f; simp [e]
      · simp [f]
theorem lookK_put {r : List (D × D)} {k j : Key} {d : D} : lookK (putKD r k d) j = if j = k then some d else lookK r j := by
  unfold putKD
  split
  · rename_i h
    rw [lookK_repl]
    split
    · rename_i f
      subst f
      cases q : lookK r j with
      | none => rw [lookK_none] at q; rw [q] at h; cases h
      | some x => rfl
    · rfl
  · rename_i h
    have h0 : lookK r k = none := lookK_none.mpr (by simpa using h)
    rw [lookK_app, lookK_cons, keyOf_kD]
    by_cases f : j = k
    · subst f; rw [h0]; simp
    · rw [if_neg f, if_neg (fun z => f (Option.some.inj z).symm)]
      cases lookK r j <;> rfl
end DL
/-! DU0: a row list that is one's own down to its inner lists: an inner one is changed. -/
namespace DL
open PySem PySem.Spec PyProof.Rows L2
variable [TabP]
/-! data in which no row of numbers stands -/
def headI : List D → Bool
  | .int _ :: _ => true
  | _ => false
mutual
def noIL : D → Bool
  | .none => true
  | .bool _ => true
  | .int _ => true
  | .str _ => true
  | .list ds => !headI ds && noILA ds
  | .tuple ds => noILA ds
  | .dict _ => false
def noILA : List D → Bool
  | [] => true
  | d :: ds => noIL d && noILA ds
end
theorem noILA_iff {ds : List D} : noILA ds = true ↔ ∀ d ∈ ds, noIL d = true := by
  induction ds with
  | nil => simp [noILA]
  | cons d ds ih => simp [noILA, ih]
/-- F without its rows of numbers -/
def minF (F : Hp) : Hp := fun b => match F b with
  | some (.lst (.int _ :: _)) => none
  | o => o
theorem minF_le {F : Hp} : Same (minF F) F := fun b o e => by
  unfold minF at e
  split at e
  · cases e
  · exact e
theorem minF_il {F : Hp} {b : Addr} {w : Int} {ws : List V} : minF F b ≠ some (.lst (.int w :: ws)) := fun e => by
  have h := minF_le b _ e
  unfold minF at e
  rw [h] at e
  cases e
theorem minF_of {F : Hp} {b : Addr} {o : HO} (e : F b = some o) (h : ∀ w ws, o ≠ .lst (.int w :: ws)) : minF F b = some o := by
  unfold minF
  split
  · rename_i w ws h1
    rw [e] at h1
    exact absurd (Option.some.inj h1) (h w ws)
  · exact e
section
variable {K : PySem.W.Frag} {F : Hp}
theorem RpA.headI {vs : List V} {ds : List D} (h : RpA K F vs ds) (n : DL.headI ds = false) : ∀ w ws, vs ≠ .int w :: ws := by
  intro w ws e
  subst e
  cases h with
  | cons r t => cases r; cases n
mutual
theorem Rp.min : ∀ (d : D) (v : V), noIL d = true → Rp K F v d → Rp K (minF F) v d
  | .none, _, _, h => by cases h; exact .non
  | .bool b, _, _, h => by cases h; exact .bl b
  | .int i, _, _, h => by cases h; exact .int i
  | .str x, _, _, h => by cases h; exact .str x
  | .list ds, _, i, h => by
    have i' : headI ds = false ∧ noILA ds = true := by simpa [noIL] using i
    cases h with
    | lst hs ha => exact .lst (minF_of hs fun w ws e => RpA.headI ha i'.1 w ws (HO.lst.inj e)) (RpA.min ds _ i'.2 ha)
  | .tuple ds, _, i, h => by
    cases h with
    | tup hs ha =>
      refine .tup ?_ (RpA.min ds _ (by simpa [noIL] using i) ha)
      rcases hs with (hs | ⟨o, hs⟩) | hs
      · exact .inl (.inl (minF_of hs fun _ _ z => nomatch z))
      · exact .inl (.inr ⟨o, minF_of hs fun _ _ z => nomatch z⟩)
      · exact .inr hs
  | .dict _, _, i, _ => by simp [noIL] at i
theorem RpA.min : ∀ (ds : List D) (vs : List V), noILA ds = true → RpA K F vs ds → RpA K (minF F) vs ds
  | [], _, _, h => by cases h; exact .nil
  | d :: ds, _, i, h => by
    have i' : noIL d = true ∧ noILA ds = true := by simpa [noILA] using i
    cases h with
    | cons h1 h2 => exact .cons (Rp.min d _ i'.1 h1) (RpA.min ds _ i'.2 h2)
end
end
/-- what stays known of a slot -/
def mnS : Sl → Sl
  | .val d => if noIL d = true then .val d else .no
  | .own ds => if noILA ds = true then .own ds else .no
  | .pin => .pin
  | _ => .no
def mnE (δ : Env) : Env := δ.map mnS
section
variable {K : PySem.W.Frag} {C : Ent} {F F' H H' : Hp} {δ : Env} {σ : L2.St}
theorem SatG.min {G : Addr → Option Nat} (g : SatG K C F δ σ H G) : SatG K ⟨minF F, H, fun a => ∃ i, G a = some i, C.pins⟩ (minF F) (mnE δ) σ H G := by
  refine ⟨minF_le.trans g.le, Same.refl _, fun a o e => .inl e, fun a o e => .inr (.of e), fun a ⟨i, e⟩ => g.live a i e, fun a i e => ?_, g.live, fun a i e => .inr ⟨i, e⟩, by rw [mnE, List.length_map]; exact g.len, ⟨g.tf.1, fun a ps e => g.tf.2 a ps (minF_le _ _ e)⟩, fun i s e => ?_⟩
  · cases q : minF F a with
    | none => rfl
    | some o => exact absurd (minF_le _ _ q) (by rw [g.dis a i e]; exact fun z => nomatch z)
  · rw [mnE, List.getElem?_map] at e
    cases hs : δ[i]? with
    | none => rw [hs] at e; cases e
    | some s0 =>
      rw [hs] at e
      have e : mnS s0 = s := Option.some.inj e
      have q := g.sl i s0 hs
      cases s0 with
      | no => subst e; trivial
      | bk p fz B => subst e; trivial
      | pin => subst e; exact q
      | val d =>
        by_cases n : noIL d = true
        · have e2 : mnS (.val d) = .val d := if_pos n
          rw [← e, e2]
          obtain ⟨v, h1, h2⟩ := q
          exact ⟨v, h1, Rp.min d v n h2⟩
        · have e2 : mnS (.val d) = .no := if_neg n
          rw [← e, e2]; trivial
      | own ds =>
        by_cases n : noILA ds = true
        · have e2 : mnS (.own ds) = .own ds := if_pos n
          rw [← e, e2]
          obtain ⟨a, vs, h1, h2, h3, h4⟩ := q
          exact ⟨a, vs, h1, h2, h3, RpA.min ds vs n h4⟩
        · have e2 : mnS (.own ds) = .no := if_neg n
          rw [← e, e2]; trivial
      | ownK kvs => subst e; trivial
      | deep es => subst e; trivial
      | ownN p kvs => subst e; trivial
      | bor p kvs => subst e; trivial
/-- F stays what is known for good -/
theorem Ext.back {F1 : Hp} (x : Ext F1 H F' H') (le : Same F H) (nt : NoT F) : Ext F H F H' :=
  ⟨Same.refl _, fun a o e => .inl e, fun a o e => (x.hh a o (le a o e)).keep fun ps z => nt a ps (z ▸ e), x.hh, x.tb, id⟩
open Classical in
/-- slot i takes a value and owns new things -/
theorem Sat.set_newP (s : Sat K C F δ σ H) {i : Nat} {v : V} {q : Sl} (P : Addr → Prop) (x : Ext F H F H') (hP : ∀ b, P b → H b = none ∧ H' b ≠ none) (ok : ∀ G : Addr → Option Nat, (∀ b, P b → G b = some i) → SlOk K C.pins F G H' i (some v) q) : Sat K C F (δ.set i q) (σ.set i (some v)) H' := by
  obtain ⟨G, g⟩ := s
  have g' := g.ext x
  have gn : ∀ b j, G b = some j → ¬ P b := fun b j z y => g.live b j z (hP b y).1
  have e0 : ∀ b j, (if P b then some i else G b) = some j → (P b ∧ j = i) ∨ (¬ P b ∧ G b = some j) := fun b j z => by
    by_cases hb : P b
    · rw [if_pos hb] at z; cases z; exact .inl ⟨hb, rfl⟩
    · rw [if_neg hb] at z; exact .inr ⟨hb, z⟩
  refine ⟨fun b => if P b then some i else G b, x.le, g'.f0, g'.nw, g'.keep, g'.alive, fun b j z => ?_, fun b j z => ?_, fun b j z => ?_, by rw [List.length_set, List.length_set]; exact g.len, g'.tf, fun j s e => ?_⟩
  · rcases e0 b j z with ⟨y, _⟩ | ⟨_, z⟩
    · exact g.le.free (hP b y).1
    · exact g.dis b j z
  · rcases e0 b j z with ⟨y, _⟩ | ⟨_, z⟩
    · exact (hP b y).2
    · exact g'.live b j z
  · rcases e0 b j z with ⟨y, _⟩ | ⟨_, z⟩
    · exact .inl (g.h0 (hP b y).1).1
    · exact g.mine b j z
  · by_cases hj : i = j
    · subst hj
      by_cases hl : i < δ.length
      · rw [List.getElem?_set_self hl] at e
        cases e
        rw [List.getElem?_set_self (by rw [g.len]; exact hl)]
        exact ok _ fun b y => if_pos y
      · rw [List.getElem?_eq_none (by rw [List.length_set]; omega)] at e; cases e
    · rw [List.getElem?_set_ne hj] at e ⊢
      have q := g'.sl j s e
      have ne : ∀ {b : Addr}, G b = some j → (if P b then some i else G b) = some j := fun {b} z => by
        rw [if_neg (gn b j z)]; exact z
      cases s with
      | no => trivial
      | bk p fz B =>
        obtain ⟨b, h1, h0, hb⟩ := q
        exact ⟨b, h1, h0, hb.mono (Same.refl _) (fun _ z => ne z) fun _ _ _ z _ => z⟩
      | pin => exact q
      | val d => exact q
      | own ds =>
        obtain ⟨b, vs, h1, h2, h3, h4⟩ := q
        exact ⟨b, vs, h1, ne h2, h3, h4⟩
      | ownK kvs =>
        obtain ⟨b, vs, h1, h2, h3, h4⟩ := q
        exact ⟨b, vs, h1, ne h2, h3, h4⟩
      | deep es =>
        obtain ⟨b, vs, Fd, h1, h2, h3, h4⟩ := q
        exact ⟨b, vs, Fd, h1, ne h2, h3, fun ds e => (h4 ds e).mono (Same.refl _) (fun _ z => ne z) (h4 ds e).le⟩
      | ownN p kvs =>
        obtain ⟨b, es, h1, h2, h3, h4, h5⟩ := q
        exact ⟨b, es, h1, ne h2, h3, h4, h5⟩
      | bor p kvs =>
        obtain ⟨b, es, h1, h2, h3, h4, h5⟩ := q
        exact ⟨b, es, h1, by
          have q0 := g.sl j _ e
          obtain ⟨b0, es0, k1, k2, k3, k4, _⟩ := q0
          have eb : b0 = b := by rw [h1] at k1; exact (V.ref.inj (Option.some.inj k1)).symm
          show (if P b then some i else G b) = none
          rw [if_neg (fun y => by rw [← eb] at y; rw [(hP b0 y).1] at k3; cases k3)]; exact h2, h3, h4, h5⟩
open Classical in
/-- the heap over which slot i, deep, is data -/
theorem SatG.frzP {G : Addr → Option Nat} (g : SatG K C F δ σ H G) {i : Nat} {ds : List D} (hi : δ[i]? = some (.deep (some ds))) : ∃ (C1 : Ent) (F1 : Hp), Same F F1 ∧ Sat K C1 F1 (δ.set i (.val (.list ds))) σ H := by
  obtain ⟨a, vs, Fd, h1, h2, h3, h4⟩ := g.sl i _ hi
  have dk := h4 ds rfl
  have fa := g.dis a i h2
  let F1 : Hp := fun b => if b = a then some (.lst vs) else match F b with
    | some o => some o
    | none => Fd b
  have f1 : ∀ b, F1 b = if b = a then some (.lst vs) else match F b with
    | some o => some o
    | none => Fd b := fun _ => rfl
  have s1 : Same F F1 := fun b o e => by
    rw [f1, if_neg (ne_of_none e fa), e]
  have s2 : Same Fd F1 := fun b o e => by
    rw [f1]
    by_cases hb : b = a
    · rw [if_pos hb]
      have := dk.le b o e
      rw [hb, h3] at this
      exact this
    · rw [if_neg hb]
      cases q : F b with
      | none => exact e
      | some o' =>
        have k1 := dk.le b o e
        have k2 := g.le b o' q
        rw [k1] at k2
        exact k2.symm ▸ rfl
  have s3 : Same F1 H := fun b o e => by
    rw [f1] at e
    by_cases hb : b = a
    · rw [if_pos hb] at e; rw [hb, h3]; exact e
    · rw [if_neg hb] at e
      cases q : F b with
      | none => rw [q] at e; exact dk.le b o e
      | some o' => rw [q] at e; exact g.le b o (q.trans e)
  refine ⟨⟨F1, H, fun b => ∃ j, G b = some j, C.pins⟩, F1, s1, fun b => if G b = some i then none else G b, s3, Same.refl _, fun b o e => .inl e, fun b o e => .inr (.of e), fun b ⟨j, e⟩ => g.live b j e, fun b j z => ?_, fun b j z => ?_, fun b j z => ?_, by rw [List.length_set]; exact g.len, ⟨g.tf.1, fun b ps e => ?_⟩, fun j s e => ?_⟩
  · by_cases hb : G b = some i
    · rw [if_pos hb] at z; cases z
    · rw [if_neg hb] at z
      rw [f1, if_neg (fun y => hb (by rw [y]; exact h2)), g.dis b j z]
      cases q : Fd b with
      | none => rfl
      | some o =>
        rcases dk.pr b o q with y | y
        · rw [g.dis b j z] at y; cases y
        · exact absurd y hb
  · by_cases hb : G b = some i
    · rw [if_pos hb] at z; cases z
    · rw [if_neg hb] at z; exact g.live b j z
  · by_cases hb : G b = some i
    · rw [if_pos hb] at z; cases z
    · rw [if_neg hb] at z; exact .inr ⟨j, z⟩
  · rw [f1] at e
    by_cases hb : b = a
    · rw [if_pos hb] at e; cases e
    · rw [if_neg hb] at e
      cases q : F b with
      | none => rw [q] at e; exact dk.nt b ps e
      | some o' => rw [q] at e; exact g.tf.2 b ps (q.trans e)
  · by_cases hj : i = j
    · subst hj
      rw [List.getElem?_set_self (List.getElem?_eq_some_iff.mp hi).1] at e
      cases e
      exact ⟨_, h1, .lst (by rw [f1, if_pos rfl]) (RpA.mono s2 _ _ dk.ra)⟩
    · rw [List.getElem?_set_ne hj] at e
      have q := g.sl j s e
      have ne : ∀ {b : Addr}, G b = some j → (if G b = some i then none else G b) = some j := fun {b} z => by
        rw [if_neg (fun y => hj (Option.some.inj (y.symm.trans z)))]; exact z
      cases s with
      | no => trivial
      | bk p fz B =>
        obtain ⟨b, h1, h0, hb⟩ := q
        exact ⟨b, h1, h0, hb.mono s1 (fun _ z => ne z) fun _ _ _ z _ => z⟩
      | pin => exact q
      | val d =>
        obtain ⟨v, k1, k2⟩ := q
        exact ⟨v, k1, Rp.mono s1 _ _ k2⟩
      | own ds =>
        obtain ⟨b, ws, k1, k2, k3, k4⟩ := q
        exact ⟨b, ws, k1, ne k2, k3, RpA.mono s1 _ _ k4⟩
      | ownK kvs =>
        obtain ⟨b, ws, k1, k2, k3, k4⟩ := q
        exact ⟨b, ws, k1, ne k2, k3, RpK.mono s1 _ _ k4⟩
      | deep es =>
        obtain ⟨b, ws, Fe, k1, k2, k3, k4⟩ := q
        exact ⟨b, ws, Fe, k1, ne k2, k3, fun ds e => (k4 ds e).mono s1 (fun _ z => ne z) (k4 ds e).le⟩
      | ownN p kvs =>
        obtain ⟨b, es, k1, k2, k3, k4, k5⟩ := q
        exact ⟨b, es, k1, ne k2, k3, k4.mono s1, k5⟩
      | bor p kvs =>
        obtain ⟨b, es, k1, k2, k3, k4, k5⟩ := q
        exact ⟨b, es, k1, by
          show (if G b = some i then none else G b) = none
          split
          · rfl
          · exact k2, k3, k4.mono s1, k5⟩
end
def frzP (i : Nat) (δ : Env) : Option Sl → Env
  | some (.deep (some ds)) => δ.set i (.val (.list ds))
  | _ => δ
def tmpP (i : Nat) (f : Env → Res Bool) : Env → Res Bool := fun δ => f (frzP i δ δ[i]?)
@[simp] theorem tmpP_ev (i : Nat) (f : Env → Res Bool) (δ : Env) : tmpP i f δ = f (frzP i δ δ[i]?) := rfl
@[simp] theorem frzP_deep (i : Nat) (δ : Env) (ds : List D) : frzP i δ (some (.deep (some ds))) = δ.set i (.val (.list ds)) := rfl
section
variable {X : Cx} {N : List Str} {sc : Scope} {fn : Str → Bool} {W : WS} {e : Expr} {pos : Pos} {x : Str} {p apos cpos : Pos}
theorem Sat.frzP {K : PySem.W.Frag} {C : Ent} {F H : Hp} {δ : Env} {σ : L2.St} (s : Sat K C F δ σ H) (i : Nat) : ∃ (C1 : Ent) (F1 : Hp), Same F F1 ∧ Sat K C1 F1 (DL.frzP i δ δ[i]?) σ H := by
  have triv : DL.frzP i δ δ[i]? = δ → ∃ (C1 : Ent) (F1 : Hp), Same F F1 ∧ Sat K C1 F1 (DL.frzP i δ δ[i]?) σ H := fun e => ⟨C, F, Same.refl _, by rw [e]; exact s⟩
  cases hi : δ[i]? with
  | none => rw [hi] at triv; exact triv rfl
  | some q =>
    cases q with
    | deep es =>
      cases es with
      | none => rw [hi] at triv; exact triv rfl
      | some ds => obtain ⟨G, g⟩ := s; exact g.frzP hi
    | _ => rw [hi] at triv; exact triv rfl
theorem PBp.tmpP (i : Nat) {f : Env → Res Bool} (h : PBp X W e f) : PBp X W e (DL.tmpP i f) := by
  obtain ⟨⟨t, p, q⟩, t', p', q'⟩ := h
  have main : ∀ {P : Bool → Hp → Prop} {F1 F H : Hp} {σ : L2.St} {r : Res Bool}, Same F H → NoT F → Gd W σ F H r (fun b _ H' => P b H') → Gd W σ F1 H r (fun b _ H' => P b H') := by
    intro P F1 F H σ r le nt g
    cases r with
    | ok b => exact fun F' H' x => g F H' (x.back le nt)
    | exc c => exact fun F' H' x => g F H' (x.back le nt)
    | err => exact False.elim g
  refine ⟨⟨t, p, fun C F δ σ H Q s g => ?_⟩, ⟨t', p', fun C F δ σ H Q s g => ?_⟩⟩
  · obtain ⟨C1, F1, e1, s1⟩ := s.frzP i
    exact q C1 F1 _ σ H Q s1 (main (P := fun b H' => Q (.bl b) H') s.le s.tf.2 g)
  · obtain ⟨C1, F1, e1, s1⟩ := s.frzP i
    exact q' C1 F1 _ σ H Q s1 (main (P := fun b H' => Q b H') s.le s.tf.2 g)
/-- name = e, e a new list whose rows of numbers are new -/
def setP (i : Nat) (f : Env → Res (List D)) : Env → Fl := fun δ => match f (mnE δ) with
  | .ok ds => .nx (δ.set i (.deep (some ds)))
  | _ => .err
theorem PSp.setP {f : Env → Res (List D)} (c : Ctx X N sc fn) (i : Nat) {pos' : Pos} (h : PFp X W e f) (hN : N[i]? = some x := by rfl) (hx : stOk sc fn x = true := by rfl) (hs : swapsWith e (some (.Name x pos')) pos.line X.env = pure false := by rfl) :
    PSp X W (.Assign [.Name x pos'] e pos) (DL.setP i f) := by
  obtain ⟨t, p, q⟩ := h
  obtain ⟨h1, h2⟩ := c.st hx
  refine ⟨_, ps_set (i := i) (by rw [c.hN]; exact c.nd) (by rw [c.hN]; exact hN) h1 p hs h2, fun C F δ σ H E s g => ?_⟩
  obtain ⟨G, sg⟩ := s
  refine q _ (minF F) (mnE δ) σ H _ ⟨G, sg.min⟩ ?_
  unfold DL.setP at g
  cases r : f (mnE δ) with
  | ok ds =>
    rw [r] at g
    intro F' H' x a vs k1 k2 k3 k4
    have s : Sat X.K C F δ σ H := ⟨G, sg⟩
    have xb : Ext F H F H' := x.back s.le s.tf.2
    refine g F _ H' (Same.refl _) (s.set_newP (fun b => b = a ∨ (H b = none ∧ F' b ≠ none)) xb (fun b hb => ?_) fun G' hG => ?_)
    · rcases hb with rfl | ⟨y, z⟩
      · exact ⟨k1, by rw [k3]; exact fun y => nomatch y⟩
      · refine ⟨y, fun w => z ?_⟩
        exact x.le.free w
    · have fr : ∀ b o, F' b = some o → minF F b = some o ∨ H b = none := x.nw
      refine ⟨a, vs, F', rfl, hG a (.inl rfl), k3, fun es e => ?_⟩
      cases e
      refine ⟨k4, x.nt fun b ps z => s.tf.2 b ps (minF_le _ _ z), x.le, fun b o z => ?_, fun b w ws z => ?_⟩
      · rcases fr b o z with y | y
        · exact .inl (minF_le _ _ y)
        · exact .inr (hG b (.inr ⟨y, by rw [z]; exact fun w => nomatch w⟩))
      · rcases fr b _ z with y | y
        · exact absurd y minF_il
        · exact hG b (.inr ⟨y, by rw [z]; exact fun w => nomatch w⟩)
  | exc c => rw [r] at g; exact False.elim g
  | err => rw [r] at g; exact False.elim g
theorem SatG.putG {K : PySem.W.Frag} {C : Ent} {F H : Hp} {δ : Env} {σ : L2.St} {G : Addr → Option Nat} (g : SatG K C F δ σ H G) {i : Nat} {a : Addr} {o u0 : HO} {q : Sl} (hu : H a = some u0) (ho : Own1 u0) (ga : G a = some i)
    (ok : SlOk K C.pins F G (upd H a o) i (σ[i]?).join q) : SatG K C F (δ.set i q) σ (upd H a o) G := by
  have fa := g.dis a i ga
  refine ⟨fun b u e => ?_, g.f0, g.nw, fun b u e => ?_, fun b z e => ?_, g.dis, fun b j z e => ?_, g.mine, by rw [List.length_set]; exact g.len, ⟨g.tf.1.upd hu ho, g.tf.2⟩, fun j s e => ?_⟩
  · rw [upd_ne (ne_of_none e fa)]; exact g.le _ _ e
  · by_cases hb : b = a
    · rcases g.mine a i ga with z | z
      · rw [hb, z] at e; cases e
      · exact .inl (hb ▸ z)
    · rw [upd_ne hb]; exact g.keep b u e
  · by_cases hb : b = a
    · rw [hb, upd_same] at e; cases e
    · rw [upd_ne hb] at e; exact g.alive b z e
  · by_cases hb : b = a
    · rw [hb, upd_same] at e; cases e
    · rw [upd_ne hb] at e; exact g.live b j z e
  · by_cases hj : i = j
    · subst hj
      by_cases hl : i < δ.length
      · rw [List.getElem?_set_self hl] at e
        cases e
        exact ok
      · rw [List.getElem?_eq_none (by rw [List.length_set]; omega)] at e; cases e
    · rw [List.getElem?_set_ne hj] at e
      have q := g.sl j s e
      have ne : ∀ {b : Addr}, G b = some j → b ≠ a := fun {b} z h => by
        rw [h, ga] at z; cases z; exact hj rfl
      cases s with
      | no => trivial
      | bk p fz B =>
        obtain ⟨b, h1, h0, hb⟩ := q
        exact ⟨b, h1, h0, hb.mono (Same.refl _) (fun _ z => z) fun c o gc z _ => by rw [upd_ne (ne gc)]; exact z⟩
      | pin => exact q
      | val d => exact q
      | own ds =>
        obtain ⟨b, vs, h1, h2, h3, h4⟩ := q
        exact ⟨b, vs, h1, h2, by rw [upd_ne (ne h2)]; exact h3, h4⟩
      | ownK kvs =>
        obtain ⟨b, vs, h1, h2, h3, h4⟩ := q
        exact ⟨b, vs, h1, h2, by rw [upd_ne (ne h2)]; exact h3, h4⟩
      | deep es =>
        obtain ⟨b, vs, Fd, h1, h2, h3, h4⟩ := q
        exact ⟨b, vs, Fd, h1, h2, by rw [upd_ne (ne h2)]; exact h3, fun ds e => (h4 ds e).mono (Same.refl _) (fun _ z => z) fun b o z => by
          have hb : b ≠ a := by
            rcases (h4 ds e).pr b o z with y | y
            · exact ne_of_none y fa
            · exact ne y
          rw [upd_ne hb]; exact (h4 ds e).le b o z⟩
      | ownN p kvs =>
        obtain ⟨b, es, h1, h2, h3, h4, h5⟩ := q
        exact ⟨b, es, h1, h2, by rw [upd_ne (ne h2)]; exact h3, h4, h5⟩
      | bor p kvs =>
        obtain ⟨b, es, h1, h2, h3, h4, h5⟩ := q
        exact ⟨b, es, h1, h2, by
          have : b ≠ a := fun z => by rw [z, ga] at h2; cases h2
          rw [upd_ne this]; exact h3, h4, h5⟩
/-- what is known of a deep slot's rows is forgotten -/
theorem SatG.weak {K : PySem.W.Frag} {C : Ent} {F H : Hp} {δ : Env} {σ : L2.St} {G : Addr → Option Nat} (g : SatG K C F δ σ H G) {i : Nat} {es : Option (List D)} (hi : δ[i]? = some (.deep es)) : SatG K C F (δ.set i (.deep none)) σ H G := by
  refine ⟨g.le, g.f0, g.nw, g.keep, g.alive, g.dis, g.live, g.mine, by rw [List.length_set]; exact g.len, g.tf, fun j s e => ?_⟩
  by_cases hj : i = j
  · subst hj
    rw [List.getElem?_set_self (List.getElem?_eq_some_iff.mp hi).1] at e
    cases e
    obtain ⟨a, vs, Fd, h1, h2, h3, _⟩ := g.sl i _ hi
    exact ⟨a, vs, Fd, h1, h2, h3, fun _ e => nomatch e⟩
  · rw [List.getElem?_set_ne hj] at e
    exact g.sl j s e
/-- the env that knows slot i alone -/
def onlyE (i : Nat) (δ : Env) (ds : List D) : Env := (List.replicate δ.length .no).set i (.val (.list ds))
def napS (i : Nat) (fb : Env → Res D) : Env → Fl := fun δ => match δ[i]? with
  | some (.deep (some ds)) => match fb (onlyE i δ ds) with
    | .ok (.list (.int _ :: es)) => if es.length + 1 < sizeLine then .nx (δ.set i (.deep none)) else .err
    | _ => .err
  | _ => .err
theorem PSp.nestApp {b : Expr} {fb : Env → Res D} {k : Int} (c : Ctx X N sc fn) (i : Nat) (hb : PEp X W b fb) (he : PEp X W e (cD (.int k)))
    (hbase : attributeBase b "append" X.env (eval b X.env) = eval b X.env := by rfl)
    (hfew : ((backTo cpos (starEach [e] X.env)).all (fun x => !x.1) && (backToKw cpos (keywordEach [] X.env)).all (fun x => x.1.isSome)
      && decide (([e] : List Expr).length + ([] : List Keyword).length + (if ([] : List Keyword).isEmpty then 0 else 1) < 30)) = true := by rfl)
    (hline : (apos.endLine == cpos.line) = true := by rfl) (hs : starEach [e] X.env = (false, eval e X.env) :: starEach [] X.env := by rfl)
    (hsw : swapsWith (.Call (.Attribute b "append" apos) [e] [] cpos) none pos.line X.env = pure false := by rfl) :
    PSp X W (.Expr (.Call (.Attribute b "append" apos) [e] [] cpos) pos) (napS i fb) := by
  obtain ⟨tb, pb, qb⟩ := hb
  obtain ⟨t, pe, q⟩ := he
  refine ⟨_, ps_expr (pe_bm PySem.F.plainAttrs_list PySem.F.slot_list_append PySem.F.type_list_append mt_append pb (pa_cons pe pa_nil hs) hbase hfew hline hs rfl) hsw, fun C F δ σ H E s g => ?_⟩
  unfold napS at g
  split at g
  · rename_i ds hi
    split at g
    · rename_i w es hf
      split at g
      · rename_i hz
        obtain ⟨G, sg⟩ := s
        obtain ⟨a, vs, Fd, h1, h2, h3, h4⟩ := sg.sl i _ hi
        have dk := h4 ds rfl
        have hil := (List.getElem?_eq_some_iff.mp hi).1
        have sFr : Same (upd Fd a (.lst vs)) H := fun b o e => by
          by_cases hb : b = a
          · rw [hb, upd_same] at e; rw [hb, h3]; exact e
          · rw [upd_ne hb] at e; exact dk.le b o e
        have sFd : Same Fd (upd Fd a (.lst vs)) := fun b o e => by
          by_cases hb : b = a
          · have := dk.le b o e
            rw [hb, h3] at this
            rw [hb, upd_same]; exact this
          · rw [upd_ne hb]; exact e
        have sr : Sat X.K ⟨upd Fd a (.lst vs), H, fun _ => False, C.pins⟩ (upd Fd a (.lst vs)) (onlyE i δ ds) σ H := by
          refine ⟨fun _ => none, sFr, Same.refl _, fun b o e => .inl e, fun b o e => .inr (.of e), fun _ z => False.elim z, fun _ _ z => (nomatch z), fun _ _ z => (nomatch z), fun _ _ z => (nomatch z), by rw [onlyE, List.length_set, List.length_replicate]; exact sg.len, ⟨sg.tf.1, fun b ps e => ?_⟩, fun j s e => ?_⟩
          · by_cases hb : b = a
            · rw [hb, upd_same] at e; cases e
            · rw [upd_ne hb] at e; exact dk.nt b ps e
          · unfold onlyE at e
            by_cases hj : i = j
            · subst hj
              rw [List.getElem?_set_self (by rw [List.length_replicate]; exact hil)] at e
              cases e
              exact ⟨_, h1, .lst upd_same (RpA.mono sFd _ _ dk.ra)⟩
            · rw [List.getElem?_set_ne hj] at e
              have := List.mem_of_getElem? e
              rw [List.mem_replicate] at this
              rw [this.2]; trivial
        refine qb _ _ _ σ H _ sr ?_
        rw [hf]
        intro F' H' x v rv
        have xb : Ext F H F H' := x.back sg.le sg.tf.2
        have sg1 := sg.ext xb
        cases rv with
        | @lst p ws _ hp ha =>
          have hH' := x.le _ _ hp
          refine ⟨.inl ⟨rfl, ws, SqL.of hH'⟩, ?_⟩
          refine q C F δ σ H' _ ⟨G, sg1⟩ ?_
          intro F2 H2 x2 v2 rv2
          cases rv2
          have hH2 : H2 p = some (.lst ws) := x2.hh _ _ hH'
          have hlen := ha.length
          have sg2 := sg1.ext x2
          refine ⟨p, ws, .int k, rfl, rfl, hH2, by rw [hlen]; exact hz, ?_⟩
          have own : G p = some i → Sat X.K C F2 (δ.set i (.deep none)) σ (upd H2 p (.lst (ws ++ [.int k]))) := fun gp => by
            refine ⟨G, sg2.putG hH2 (.inl ⟨_, rfl⟩) gp ?_⟩
            obtain ⟨a', vs', Fd', k1, k2, k3, _⟩ := sg2.sl i _ hi
            by_cases hpa : a' = p
            · exact ⟨a', _, Fd', k1, k2, by rw [hpa]; exact upd_same, fun _ e => nomatch e⟩
            · exact ⟨a', vs', Fd', k1, k2, by rw [upd_ne hpa]; exact k3, fun _ e => nomatch e⟩
          refine g F2 σ _ x2.ff ?_
          rcases x.nw p _ hp with z | z
          · by_cases hpa : p = a
            · exact own (hpa ▸ h2)
            · rw [upd_ne hpa] at z
              cases ha with
              | cons r t =>
                cases r
                exact own (dk.il p _ _ z)
          · have x12 : Ext F H F2 H2 := xb.trans x2
            have fp : F2 p = none := by
              cases y : F2 p with
              | none => rfl
              | some o =>
                rcases x2.nw p o y with y | y
                · rw [sg.le.free z] at y; cases y
                · rw [hH'] at y; cases y
            exact ⟨G, (sg.ext (x12.chg z fp hH2 (.inl ⟨_, rfl⟩) _)).weak hi⟩
      · exact False.elim g
    · exact False.elim g
  · exact False.elim g
/-- xs.clear() -/
def clrS (i : Nat) : Env → Fl := fun δ => match δ[i]? with
  | some (.own _) => .nx (δ.set i (.own []))
  | some (.deep _) => .nx (δ.set i (.own []))
  | _ => .err
theorem PSp.clear (c : Ctx X N sc fn) (i : Nat) (hN : N[i]? = some x := by rfl) (hv : isVis sc x = true := by rfl) (hd : (x == ("__debug__" : Str)) = false := by decide) (hcd : (x == ("__classdict__" : Str)) = false := by decide)
    (hbase : attributeBase (.Name x p) "clear" X.env (eval (.Name x p) X.env) = eval (.Name x p) X.env := by rfl)
    (hline : (apos.endLine == cpos.line) = true := by rfl)
    (hsw : swapsWith (.Call (.Attribute (.Name x p) "clear" apos) [] [] cpos) none pos.line X.env = pure false := by rfl) :
    PSp X W (.Expr (.Call (.Attribute (.Name x p) "clear" apos) [] [] cpos) pos) (clrS i) := by
  refine ⟨_, ps_expr (pe_bm0 PySem.F.plainAttrs_list PySem.F.slot_list_clear PySem.F.type_list_clear mt_clear (pe_var (i := i) (by rw [c.hN]; exact hN) (c.vis hv) hd hcd) hbase hline) hsw, fun C F δ σ H E s g => ?_⟩
  obtain ⟨G, sg⟩ := s
  have put : ∀ (a : Addr) (vs : List V), G a = some i → H a = some (.lst vs) → (σ[i]?).join = some (.ref a) → Sat X.K C F (δ.set i (.own [])) σ (upd H a (.lst [])) := fun a vs h2 h3 h1 =>
    ⟨G, sg.putG h3 (.inl ⟨_, rfl⟩) h2 (by rw [h1]; exact ⟨a, [], rfl, h2, upd_same, .nil⟩)⟩
  unfold clrS at g
  split at g
  · rename_i ds hi
    obtain ⟨a, vs, h1, h2, h3, h4⟩ := sg.sl i _ hi
    exact ⟨_, join_some h1, .inl ⟨rfl, vs, SqL.of h3⟩, a, vs, rfl, rfl, h3, g F σ _ (Same.refl _) (put a vs h2 h3 h1)⟩
  · rename_i ds hi
    obtain ⟨a, vs, Fd, h1, h2, h3, h4⟩ := sg.sl i _ hi
    exact ⟨_, join_some h1, .inl ⟨rfl, vs, SqL.of h3⟩, a, vs, rfl, rfl, h3, g F σ _ (Same.refl _) (put a vs h2 h3 h1)⟩
  · exact False.elim g
end
end DL
/-! DV0: dicts whose keys are pairs (int, bool), at the machine. -/
namespace DL
open PySem PySem.Spec PyProof.Rows L2
variable [TabP]
section
variable {X : Cx} {pins : List (Addr × Obj)} {σ : L2.St} {H : Hp} {s : Shared} {a : Addr} {od : Obj} {xs : List (NestedKey × Addr × Value)}
theorem nk_is {q : Addr} {k : Int × Bool} (I : Inv X pins σ H s) (h : SqT X.K H q (nkV k)) : (nestedKind X.prog X.w).is s.heap (nk k) q := by
  obtain ⟨its, rv, ⟨o, h1, h2, n, h3⟩, hz⟩ := I.tuple h
  refine ⟨NestedIs.tup h1 h2 h3 ?_, by unfold nk; simp [NestedKey.depth, NestedKey.depthAll]⟩
  rw [List.toList_toArray]
  unfold nkV at rv
  cases rv with
  | cons r1 t1 =>
    cases t1 with
    | cons r2 t2 =>
      cases t2
      obtain ⟨t, rfl⟩ := (show ∃ t, _ = Value.int k.1 t from r1)
      obtain rfl := (show _ = Value.bool k.2 from r2)
      exact .cons (.int _ _) (.cons (.bool rfl) .nil)
theorem dbo_get (I : Inv X pins σ H s) (e : H a = some (dbo a od)) : s.heap.get? a = some od := (I.hok a _ e).1
theorem entN_eq (hw : X.w = TabP.W) : entN = entryOfKey (nestedKind X.prog X.w) := by
  funext x
  unfold entN entryOfKey
  rw [hw]; rfl
theorem nx_of (hw : X.w = TabP.W) (I : Inv X pins σ H s) (e : H a = some (dbo a od)) (n : NX X.K H a od xs) : s.heap.DictOfH (nestedKind X.prog X.w) a xs := by
  obtain ⟨h0, h1, h2, h3, ⟨es, ep, h4, h5⟩, h6⟩ := n
  refine ⟨od, es, ep, dbo_get I e, h3, h4, by rw [h5, entN_eq hw], fun x hx => ?_, h2⟩
  obtain ⟨k, e1, e2⟩ := h6 x hx
  rw [e1]; exact nk_is I e2
theorem dbo_ok {P : Program} {w : World} {H' : Hp} {h : Heap} (e : h.get? a = some od) : ObjOk P w H' h a (dbo a od) := ⟨e, ⟨_, e⟩, fun h1 h2 q k => k _ q⟩
/-- what the dict holds at y -/
def NG (K : PySem.W.Frag) (H : Hp) (a : Addr) (y : V) (o : Option V) : Prop :=
  ∃ od xs k q, H a = some (dbo a od) ∧ NX K H a od xs ∧ y = .ref q ∧ SqT K H q (nkV k) ∧ RelO o ((atKey xs (nk k)).map (·.2))
theorem room_N {A : Around} (h : A.units + 9 < cLine) (P : Program) (w : World) : (nestedKind P w).room A.in1 := by
  show A.in1.units + 8 < cLine
  have : A.in1.units = A.units + 1 := rfl
  omega
def rNotInN (K : PySem.W.Frag) : R2 := fun y x H Q => ∃ a o, x = .ref a ∧ NG K H a y o ∧ Q (.bl (!o.isSome)) H
theorem op_notInN (hw : X.w = TabP.W) (hu : X.A.units + 9 < cLine) : OpR X (compareOp .NotIn) (rNotInN X.K) := by
  intro pins s σ H x y v u Q I rx ry h
  obtain ⟨a, o, ey, ⟨od, xs, k, q, e, n, ex, hq, ro⟩, q2⟩ := h
  subst ey; subst ex
  obtain rfl : u = Value.ref a := ry
  obtain rfl : v = Value.ref q := rx
  refine wpAny_notIn_heap (knd := nestedKind X.prog X.w) (room_N hu _ _) (nk_is I hq) n.1 (nx_of hw I e n) ?_
  have z := ro.isSome_eq
  rw [Option.isSome_map] at z
  rw [← z]
  exact ⟨.bl (!o.isSome), H, I.tok _, rfl, q2⟩
def rIxN (K : PySem.W.Frag) : R2 := fun x y H Q => ∃ a v, x = .ref a ∧ NG K H a y (some v) ∧ Q v H
theorem ix_N (hw : X.w = TabP.W) (hu : X.A.units + 9 < cLine) : IxR X (rIxN X.K) := by
  intro value slice pins s σ H x y v u Q I rx ry h hs
  obtain ⟨a, z, ex, ⟨od, xs, k, q, e, n, ey, hq, ro⟩, q2⟩ := h
  subst ex; subst ey
  obtain rfl : v = Value.ref a := rx
  obtain rfl : u = Value.ref q := ry
  have hD := nx_of hw I e n
  have hT := hD.typeIs
  obtain ⟨w', hw', rw'⟩ := RelO.some_of ro
  obtain ⟨p, hp, hp2⟩ := Option.map_eq_some_iff.mp hw'
  unfold subscriptTail
  refine wpAny_bind ?_
  rw [getitemInPython_of_ne hT.not_modules]
  refine wpAny_bind (wpAny_specialOf hT PySem.F.slot_dict_getitem.lookup ?_)
  have fin : wpAny (model X.prog X.w) X.A (subscripted slice false (.ref a) (.ref q)) (fun r s₃ => wpAny (model X.prog X.w) X.A (letTemporaryGo value (.ref a) r >>= fun _ => pure r) (EP X pins σ Q) X.xe s₃) X.xe s := by
    rw [hs]
    refine wpAny_operating (wpAny_getItem_heap (knd := nestedKind X.prog X.w) (room_N hu _ _) (nk_is I hq) hD hp ?_)
    rw [hp2]
    exact wpAny_bind (wpAny_letTemporaryGo (wpAny_pure ⟨z, H, I.tok _, rw', q2⟩))
  first
    | exact wpAny_pure (wpAny_bind fin)
    | exact wpAny_bind (wpAny_pure (wpAny_bind fin))
    | exact wpAny_bind fin
/-- d[y] = v -/
def rSetN (K : PySem.W.Frag) : V → V → V → Hp → (Hp → Prop) → Prop := fun o i v H Q => ∃ a od xs k q, o = .ref a ∧ H a = some (dbo a od) ∧ NX K H a od xs ∧ xs.length < sizeLine ∧ i = .ref q ∧ SqT K H q (nkV k) ∧
  ∀ u od', RelV v u → od'.ExactDict → (∃ es ep, od'.data = .dict es ep ∧ es.toList = (storedH xs (nk k) q u).map entN) → ((storedH xs (nk k) q u).map (·.1)).Nodup → Q (upd H a (dbo a od'))
theorem set_N (hw : X.w = TabP.W) (hu : X.A.units + 9 < cLine) : PSet X (rSetN X.K) := by
  intro pins s σ H o i v ov iv u Q I ro ri rv h
  obtain ⟨a, od, xs, k, q, eo, e, n, hl, ei, hq, q2⟩ := h
  subst eo; subst ei
  obtain rfl : ov = Value.ref a := ro
  obtain rfl : iv = Value.ref q := ri
  refine wpAny_setItem_heap (knd := nestedKind X.prog X.w) (hsz := by omega) (room_N hu _ _) (nk_is I hq) (nx_of hw I e n) fun h' dd' hs => ?_
  obtain ⟨od', es, ep, h1, h2, h3, h4, _, h5⟩ := dd'
  refine ⟨upd H a (dbo a od'), ?_, q2 u od' rv h2 ⟨es, ep, h3, by rw [h4, entN_eq hw]⟩ h5⟩
  exact d_write I (by rw [e]; exact True.intro) hs ⟨od', h1⟩ (dbo_ok h1)
/-- {} -/
def od0 : Obj := { cls := .type "dict", data := .dict #[] }
def tNewN : TE := fun _ H Q => ∀ p, H p = none → (p == sysModules) = false → Q (.ref p) (upd H p (dbo p od0))
theorem pe_newN {pos : Pos} : PE X (.Dict [] [] pos) tNewN := ⟨fun pins s σ H Q I h =>
  wpAny_Dict_empty ⟨.ref s.heap.objs.size, _, I.laid (a := s.heap.objs.size) (o := dbo s.heap.objs.size od0) (t' := s.toks) (fun _ _ q => Heap.get?_push_of_some _ q) (Nat.le_refl _) (dbo_ok (Heap.get?_push_size _ rfl)), rfl, h _ (I.hok.fresh (Nat.le_refl _)) (beq_eq_false_iff_ne.mpr (Ne.symm (Nat.ne_of_lt I.big)))⟩⟩
/-- {k: v} -/
def tDispN (K : PySem.W.Frag) (tk tv : TE) : TE := fun σ H Q => ∀ p, H p = none → (p == sysModules) = false → tk σ (upd H p (dbo p od0)) fun y H1 => tv σ H1 fun v H2 => H2 p = some (dbo p od0) ∧
  ∃ k q, y = .ref q ∧ SqT K H2 q (nkV k) ∧ ∀ u od, RelV v u → od.ExactDict → (∃ es ep, od.data = .dict es ep ∧ es.toList = [(nk k, q, u)].map entN) → Q (.ref p) (upd H2 p (dbo p od))
theorem pe_dispN {k v : Expr} {pos : Pos} {tk tv : TE} (hw : X.w = TabP.W) (hu : X.A.units + 9 < cLine) (hk : PE X k tk) (hv : PE X v tv) : PE X (.Dict [some k] [v] pos) (tDispN X.K tk tv) := by
  refine ⟨fun pins s σ H Q I h => ?_⟩
  have hn := I.hok.fresh (Nat.le_refl s.heap.objs.size)
  have I1 := I.laid (a := s.heap.objs.size) (o := dbo s.heap.objs.size od0) (h' := s.heap.push { cls := .type "dict", data := .dict #[] }) (t' := s.toks) (fun _ _ q => Heap.get?_push_of_some _ q) (Nat.le_refl _) (dbo_ok (Heap.get?_push_size _ rfl))
  have h := h _ hn (beq_eq_false_iff_ne.mpr (Ne.symm (Nat.ne_of_lt I.big)))
  have hlen : (pairTrees [some k] [v] X.env pos).length = 1 := pairTrees_length [some k] [v] X.env pos rfl rfl
  rw [arm_eval_Dict, zip_pairTrees [some k] [v] X.env pos rfl rfl, dictDisplay_pairs _ (by
    intro z
    rw [z] at hlen; cases hlen) (by rw [hlen]; omega)]
  refine wpAny_bind (wpAny_standAt (wpAny_bind (wpAny_subDictH (knd := nestedKind X.prog X.w) (by show X.A.units + 8 < cLine; omega) (by rw [hlen]; omega) ?_)))
  refine L2.thn ((pps_cons hk hv pps_nil).run pins _ σ _ (fun ps H2 => match ps with
    | [(y, v)] => H2 s.heap.objs.size = some (dbo s.heap.objs.size od0) ∧
      ∃ k q, y = .ref q ∧ SqT X.K H2 q (nkV k) ∧ ∀ (u : Value) (od : Obj), RelV v u → od.ExactDict → (∃ es ep, od.data = .dict es ep ∧ es.toList = [(nk k, q, u)].map entN) → Q (.ref s.heap.objs.size) (upd H2 s.heap.objs.size (dbo s.heap.objs.size od))
    | _ => False) I1 h) fun ws s2 ⟨ps, H2, I2, rel, q0⟩ => ?_
  match ps, q0, rel with
  | [(y, v)], ⟨e, kk, q, ey, hq, q2⟩, rel =>
    subst ey
    cases rel with
    | @cons _ w1 _ _ r t =>
      cases t
      obtain ⟨w1k, w1v⟩ := w1
      obtain ⟨r1, r2⟩ := r
      obtain rfl : w1k = Value.ref q := r1
      refine ⟨[(nk kk, q, w1v)], ⟨rfl, rfl, nk_is I2 hq, trivial⟩, ⟨_, #[], 0, dbo_get I2 e, ⟨rfl, rfl, rfl⟩, rfl, rfl, (fun _ hx => absurd hx (by simp)), List.nodup_nil⟩, fun h' tk hm hs => ?_⟩
      obtain ⟨od', es, ep, h1, h2, h3, h4, _, h5⟩ := hm
      refine wpAny_pure ⟨.ref s.heap.objs.size, _, ?_, rfl, q2 w1v od' r2 h2 ⟨es, ep, h3, by rw [h4, entN_eq hw]; rfl⟩⟩
      exact d_write I2 (by rw [e]; exact True.intro) hs ⟨od', h1⟩ (dbo_ok h1)
/-- d.get(y, x) -/
def tGet2N (K : PySem.W.Frag) (td ty tx : TE) : TE := fun σ H Q => td σ H fun x H1 => ∃ a od xs, x = .ref a ∧ H1 a = some (dbo a od) ∧ NX K H1 a od xs ∧ ty σ H1 fun y H2 => tx σ H2 fun z H3 => ∃ o, NG K H3 a y o ∧ Q (o.getD z) H3
theorem pe_get2N {o e f : Expr} {apos cpos : Pos} {td ty tx : TE} (hw : X.w = TabP.W) (hu : X.A.units + 9 < cLine) (ho : PE X o td) (he : PE X e ty) (hf : PE X f tx) (m : M2 X o "get" apos e f cpos) : PE X (.Call (.Attribute o "get" apos) [e, f] [] cpos) (tGet2N X.K td ty tx) := by
  refine ⟨fun pins s σ H Q I h => ?_⟩
  refine wpAny_Call_method m.base m.few m.line PySem.F.plainAttrs_dict PySem.F.slot_dict_get PySem.F.type_dict_get (L2.thn (ho.run pins s σ H _ I h) fun u s1 ⟨x, H1, I1, rx, a, od, xs, ex, e1, n1, q1⟩ => ?_)
  subst ex
  obtain rfl : u = Value.ref a := rx
  have hD1 := nx_of hw I1 e1 n1
  refine ⟨hD1.typeIs, fun b z => ?_, ?_⟩
  · cases z
    exact ⟨od, dbo_get I1 e1, n1.2.2.2.1.2.1⟩
  rw [m.trees]
  refine Calls.callWith_builtin rfl (Calls.evalArgs_plain (Calls.spliced_cons (L2.thn (he.run pins s1 σ H1 _ I1 q1) fun iv s2 ⟨y, H2, I2, ry, q2⟩ =>
    Calls.spliced_cons (L2.thn (hf.run pins s2 σ H2 _ I2 q2) fun fv s3 ⟨z, H3, I3, rz, ov, g, q3⟩ => Calls.spliced_nil ?_))))
  obtain ⟨od3, xs3, k, q, e3, n3, ey, hq, ro⟩ := g
  subst ey
  obtain rfl : iv = Value.ref q := ry
  have hD := nx_of hw I3 e3 n3
  refine call_meetsIn PySem.F.slot_dict_get hD.typeIs PySem.F.entry_dict_get (PySem.F.args_dict_get_3 _ _ _) (meetsH_dict_get_default (nestedKind X.prog X.w) a q n3.1 fv) ⟨room_N hu _ _, nk k, xs3, nk_is I3 hq, hD, ⟨_, H3, I3.tok _, ?_, q3⟩⟩
  exact ro.getD rz
/-- len(d) -/
def rLenN (K : PySem.W.Frag) : List V → Hp → VK → Prop := fun vs H Q => ∃ (p : Addr) (od : Obj) (xs : List (NestedKey × Addr × Value)), vs = [.ref p] ∧ H p = some (dbo p od) ∧ NX K H p od xs ∧ Q (.int ((xs.length : Nat) : Int)) H
theorem call_lenN (hw : X.w = TabP.W) : CallR X (.builtin "len") (rLenN X.K) := by
  intro pins s σ H xs us Q I r h
  obtain ⟨p, od, ys, rfl, e, n, q⟩ := h
  obtain ⟨u, rfl, rx⟩ := vals1 r
  obtain rfl : u = .ref p := rx
  refine call_len_dictH n.1 (nx_of hw I e n) (by have := n.2.1; rw [sizeLine_eq] at this; omega) ⟨.int ys.length, H, I.tok _, ⟨_, rfl⟩, q⟩
/-- the keys in their order -/
def Itn (d : Addr) (od : Obj) (n : Nat) : It :=
  ⟨fun i H => H d = some (dbo d od) ∧ i < n, fun i H x H' => H' = H ∧ ∃ q es ep en, x = .ref q ∧ od.data = .dict es ep ∧ es[i]? = some en ∧ en.key = .ref q, fun i H => H d = some (dbo d od) ∧ n ≤ i⟩
theorem turn_N {P : Program} {w : World} {K : PySem.W.Frag} {tg : Expr} {d : Addr} {es : Array DictEntry} {ep : Nat} (it : Addr) (hod : od.data = .dict es ep) (hx : od.ExactDict) (hk : ∀ (i : Nat) en, es[i]? = some en → ∃ q, en.key = .ref q) :
    Turn P w K tg (Itn d od es.size) [it] it (fun i h => h.IsKeyIter it d i es.size ep) where
  mem := by simp
  obj := fun i h st b hb => by
    have e : b = it := by simpa using hb
    subst e
    obtain ⟨oi, e, c, dd⟩ := st
    exact ⟨oi, e, fun v z => by rw [dd] at z; cases z⟩
  keep := fun i h h' st k => st.at fun oi e => k it (by simp) oi e
  item := by
    intro X hP hw hK hc i pins s σ H E I hf st hg
    subst hP hw hK
    obtain ⟨hd, hi⟩ := hg
    obtain ⟨f0, f1, f2, f3, f4, f5⟩ := hf it (by simp)
    have hgd := dbo_get I hd
    have hen : es[i]? = some es[i] := Array.getElem?_eq_getElem hi
    obtain ⟨q, hkey⟩ := hk i _ hen
    refine next_key_item st hgd hod rfl hen fun h' st' sb => ?_
    have I1 : Inv X pins σ H { s with heap := h' } := I.turned (t' := s.toks) (fun b ob hb e => (sb.2 b hb).trans e) f0 f1 f3 f4 f5
    obtain ⟨oi, e, c, dd⟩ := id st'
    exact ⟨es[i].key, rfl, go_of (s := { s with heap := h' }) e c dd (by decide) ⟨.ref q, H, I1, hkey, ⟨rfl, q, es, ep, es[i], rfl, hod, hen, hkey⟩, st', fun b hb => (hf b hb).1⟩⟩
  done := by
    intro X hP hw hK hc i pins s σ H E I hf st hg
    subst hP hw hK
    obtain ⟨hd, hi⟩ := hg
    obtain ⟨f0, f1, f2, f3, f4, f5⟩ := hf it (by simp)
    exact next_key_end (I.ok.hd hc) st (dbo_get I hd) hod rfl hi fun h' eb => ⟨rfl, I.turned (t' := s.toks) (fun b ob hb e => eb b ob hb e) f0 f1 f3 f4 f5⟩
  self := fun A i s Q E st h => by
    refine wpAny_pyIter_slot st.typeIs F.slot_dict_keyiterator_iter (wpAny_call_entry F.slot_dict_keyiterator_iter st.typeIs F.entry_dict_keyiterator_iter ?_ (F.args_dict_keyiterator_iter_1 _))
    show wpAny _ _ (ret (.ref it)) _ _ s
    exact wpAny_pure ⟨_, rfl, "dict_keyiterator", _, st.typeIs, F.slot_dict_keyiterator_next.lookup, h⟩
def iN (K : PySem.W.Frag) (td : TE) : TI := fun σ H R => td σ H fun x H1 => ∃ d od xs, x = .ref d ∧ H1 d = some (dbo d od) ∧ NX K H1 d od xs ∧ R (Itn d od xs.length) H1
theorem pi_N {tg e : Expr} {td : TE} (he : PE X e td) : PI X tg e (iN X.K td) := by
  refine ⟨fun pins s σ H R I h => ?_⟩
  refine L2.thn (he.run pins s σ H _ I h) fun u s1 ⟨x, H1, I1, rx, d, od, xs, ex, e1, n, q⟩ => ?_
  subst ex
  obtain rfl : u = Value.ref d := rx
  obtain ⟨h0, h1, h2, h3, ⟨es, ep, h4, h5⟩, h6⟩ := n
  have hsz : es.size = xs.length := by rw [← Array.length_toList, h5, List.length_map]
  have hk : ∀ (i : Nat) en, es[i]? = some en → ∃ q, en.key = .ref q := fun i en hen => by
    rw [← Array.getElem?_toList, h5, List.getElem?_map] at hen
    cases hx : xs[i]? with
    | none => rw [hx] at hen; cases hen
    | some x => rw [hx] at hen; cases hen; exact ⟨_, rfl⟩
  rw [← hsz] at q
  refine iter_keys h0 (dbo_get I1 e1) h3 h4 (pi_one (tk := s1.toks) I1 _ (turn_N _ h4 h3 hk) ⟨_, Heap.get?_push_size _ rfl, rfl, rfl⟩ q)
end
end DL
/-! DV1: slots that hold dicts keyed by pairs. -/
namespace DL
open PySem PySem.Spec PyProof.Rows L2
variable [TabP]
abbrev NKv := List ((Int × Bool) × D)
def lookN (kvs : NKv) (k : Int × Bool) : Option D := (kvs.find? fun kv => decide (kv.1 = k)).map (·.2)
def putN (kvs : NKv) (k : Int × Bool) (d : D) : NKv := if (lookN kvs k).isSome then kvs.map fun kv => if kv.1 = k then (kv.1, d) else kv else kvs ++ [(k, d)]
theorem nk_inj {k j : Int × Bool} (h : nk k = nk j) : k = j := by
  obtain ⟨a, b⟩ := k
  obtain ⟨c, d⟩ := j
  unfold nk at h
  injection h with h
  injection h with h1 h2
  injection h1 with h1
  injection h2 with h2 _
  injection h2 with h2
  cases b <;> cases d <;> simp_all
section
variable {K : PySem.W.Frag} {F : Hp}
theorem NP.val (k : Int × Bool) : ∀ {kvs : NKv} {xs : List (NestedKey × Addr × Value)}, NP K F kvs xs → (lookN kvs k = none ∧ atKey xs (nk k) = none) ∨ ∃ d q u v, lookN kvs k = some d ∧ atKey xs (nk k) = some (q, u) ∧ RelV v u ∧ Rp K F v d := by
  intro kvs xs h
  unfold NP at h
  induction h with
  | nil => exact .inl ⟨rfl, rfl⟩
  | @cons kv x ks ys h t ih =>
    obtain ⟨h1, h2, v, h3, h4⟩ := h
    by_cases e : kv.1 = k
    · refine .inr ⟨kv.2, x.2.1, x.2.2, v, ?_, ?_, h3, h4⟩
      · unfold lookN; rw [List.find?_cons_of_pos (by simp [e])]; rfl
      · unfold atKey; rw [List.find?_cons_of_pos (by simp [h1, e])]; rfl
    · have e2 : ¬ x.1 = nk k := fun z => e (nk_inj (h1.symm.trans z))
      have l1 : lookN (kv :: ks) k = lookN ks k := by unfold lookN; rw [List.find?_cons_of_neg (by simp [e])]
      have l2 : atKey (x :: ys) (nk k) = atKey ys (nk k) := by unfold atKey; rw [List.find?_cons_of_neg (by simp [e2])]
      rw [l1, l2]; exact ih
theorem NP.len {kvs : NKv} {xs : List (NestedKey × Addr × Value)} (h : NP K F kvs xs) : kvs.length = xs.length := Paired.length h
theorem NP.repl {k : Int × Bool} {u : Value} {v : V} {d : D} (rv : RelV v u) (rd : Rp K F v d) {kvs : NKv} {xs : List (NestedKey × Addr × Value)} (h : NP K F kvs xs) : NP K F (kvs.map fun kv => if kv.1 = k then (kv.1, d) else kv) (xs.map (putAt (nk k) u)) := by
  unfold NP at h ⊢
  induction h with
  | nil => exact .nil
  | @cons kv x ks ys h t ih =>
    rw [List.map_cons, List.map_cons]
    refine .cons ?_ ih
    obtain ⟨h1, h2, w, h3, h4⟩ := h
    unfold putAt
    by_cases e : kv.1 = k
    · rw [if_pos e, if_pos (by rw [h1, e])]; exact ⟨h1, h2, v, rv, rd⟩
    · rw [if_neg e, if_neg (fun z => e (nk_inj (h1.symm.trans z)))]; exact ⟨h1, h2, w, h3, h4⟩
theorem NP.put {k : Int × Bool} {q : Addr} {u : Value} {v : V} {d : D} (hq : SqT K F q (nkV k)) (rv : RelV v u) (rd : Rp K F v d) {kvs : NKv} {xs : List (NestedKey × Addr × Value)} (h : NP K F kvs xs) : NP K F (putN kvs k d) (storedH xs (nk k) q u) := by
  unfold putN storedH
  rcases h.val k with ⟨l1, l2⟩ | ⟨d', q', u', v', l1, l2, _⟩
  · rw [l1, l2]
    exact Paired.snoc h ⟨rfl, hq, v, rv, rd⟩
  · rw [l1, l2]
    exact h.repl rv rd
theorem NX.mono {H : Hp} {a : Addr} {od : Obj} {xs : List (NestedKey × Addr × Value)} (e : Same F H) (n : NX K F a od xs) : NX K H a od xs :=
  ⟨n.1, n.2.1, n.2.2.1, n.2.2.2.1, n.2.2.2.2.1, fun x hx => let ⟨k, z1, z2⟩ := n.2.2.2.2.2 x hx; ⟨k, z1, Same.sqT e z2⟩⟩
theorem stored_mem {xs : List (NestedKey × Addr × Value)} {k : NestedKey} {q : Addr} {u : Value} {x : NestedKey × Addr × Value} (h : x ∈ storedH xs k q u) : (∃ y ∈ xs, x.1 = y.1 ∧ x.2.1 = y.2.1) ∨ (x.1 = k ∧ x.2.1 = q) := by
  unfold storedH at h
  split at h
  · obtain ⟨y, hy, rfl⟩ := List.mem_map.mp h
    refine .inl ⟨y, hy, ?_, ?_⟩
    · unfold putAt; split <;> rfl
    · unfold putAt; split <;> rfl
  · rcases List.mem_append.mp h with z | z
    · exact .inl ⟨x, z, rfl, rfl⟩
    · rw [List.mem_singleton] at z; subst z; exact .inr ⟨rfl, rfl⟩
theorem stored_len (xs : List (NestedKey × Addr × Value)) (k : NestedKey) (q : Addr) (u : Value) : (storedH xs k q u).length ≤ xs.length + 1 := by
  unfold storedH
  split
  · rw [List.length_map]; omega
  · rw [List.length_append]; simp
theorem NX.put {a : Addr} {od od' : Obj} {xs : List (NestedKey × Addr × Value)} {k : Int × Bool} {q : Addr} {u : Value} (n : NX K F a od xs) (hl : xs.length < sizeLine) (hq : SqT K F q (nkV k)) (hx : od'.ExactDict)
    (hd : ∃ es ep, od'.data = .dict es ep ∧ es.toList = (storedH xs (nk k) q u).map entN) (hn : ((storedH xs (nk k) q u).map (·.1)).Nodup) : NX K F a od' (storedH xs (nk k) q u) := by
  refine ⟨n.1, by have := stored_len xs (nk k) q u; omega, hn, hx, hd, fun x hx => ?_⟩
  rcases stored_mem hx with ⟨y, hy, e1, e2⟩ | ⟨e1, e2⟩
  · obtain ⟨j, z1, z2⟩ := n.2.2.2.2.2 y hy
    exact ⟨j, by rw [e1, z1], by rw [e2]; exact z2⟩
  · exact ⟨k, e1, by rw [e2]; exact hq⟩
end
/-- a pair (int, bool) -/
def gPair : D → Option (Int × Bool)
  | .tuple [.int p, .bool b] => some (p, b)
  | _ => none
theorem gPair_eq {d : D} {k : Int × Bool} (h : gPair d = some k) : d = .tuple [.int k.1, .bool k.2] := by
  unfold gPair at h
  split at h
  · cases h; rfl
  · cases h
theorem Rp.pair {K : PySem.W.Frag} {F : Hp} {v : V} {d : D} {k : Int × Bool} (r : Rp K F v d) (h : gPair d = some k) : ∃ q, v = .ref q ∧ SqT K F q (nkV k) := by
  rw [gPair_eq h] at r
  cases r with
  | tup hs ra =>
    refine ⟨_, rfl, ?_⟩
    cases ra with
    | cons r1 t1 =>
      cases t1 with
      | cons r2 t2 =>
        cases t2; cases r1; cases r2
        exact hs
theorem Rt.pair {K : PySem.W.Frag} {F H : Hp} {v : V} {d : D} {k : Int × Bool} (r : Rt K F H v d) (h : gPair d = some k) : ∃ q, v = .ref q ∧ SqT K F q (nkV k) := by
  have e := gPair_eq h
  subst e
  exact Rp.pair (show Rp K F v _ from r) h
def nOf : Option Sl → Option NKv
  | some (.ownN _ kvs) => some kvs
  | some (.bor _ kvs) => some kvs
  | _ => none
theorem Sat.nget {K : PySem.W.Frag} {C : Ent} {F H : Hp} {δ : Env} {σ : L2.St} (s : Sat K C F δ σ H) {i : Nat} {kvs : NKv} (h : nOf δ[i]? = some kvs) : ∃ a od, (σ[i]?).join = some (.ref a) ∧ H a = some (dbo a od) ∧ NR K F a od kvs := by
  obtain ⟨G, g⟩ := s
  cases hi : δ[i]? with
  | none => rw [hi] at h; cases h
  | some sl =>
    rw [hi] at h
    cases sl with
    | ownN p k =>
      cases h
      obtain ⟨a, od, h1, h2, h3, h4, _⟩ := g.sl i _ hi
      exact ⟨a, od, h1, h3, h4⟩
    | bor p k =>
      cases h
      obtain ⟨a, od, h1, h2, h3, h4, _⟩ := g.sl i _ hi
      exact ⟨a, od, h1, h3, h4⟩
    | _ => cases h
section
variable {X : Cx} {N : List Str} {sc : Scope} {fn : Str → Bool} {W : WS} {e : Expr} {pos : Pos} {x : Str} {p apos cpos : Pos} {fe : Env → Res D}
theorem Ctx.u9 (c : Ctx X N sc fn) : X.A.units + 9 < cLine := Nat.lt_of_le_of_lt (Nat.add_le_add_left (by decide) _) c.un
/-- reading the dict at slot i at the key d -/
def rdN (o : Option NKv) (d : D) : Res (Option D) := match o with
  | some kvs => (match gPair d with
    | some k => .ok (lookN kvs k)
    | none => .err)
  | none => .err
theorem rdN_ok {o : Option NKv} {d : D} {σ : L2.St} {F H : Hp} {β : Type} {g : Option D → Res β} {P : β → Hp → Hp → Prop} (h : Gd W σ F H ((rdN o d).bind g) P) : ∃ kvs k, o = some kvs ∧ gPair d = some k ∧ Gd W σ F H (g (lookN kvs k)) P := by
  unfold rdN at h
  cases o with
  | none => exact False.elim h
  | some kvs =>
    dsimp only at h
    cases hk : gPair d with
    | none => rw [hk] at h; exact False.elim h
    | some k => rw [hk] at h; exact ⟨kvs, k, rfl, rfl, h⟩
theorem ng_of {K : PySem.W.Frag} {F H : Hp} {a : Addr} {od : Obj} {kvs : NKv} {k : Int × Bool} {q : Addr} (le : Same F H) (e : H a = some (dbo a od)) (n : NR K F a od kvs) (hq : SqT K F q (nkV k)) :
    (lookN kvs k = none ∧ NG K H a (.ref q) none) ∨ ∃ d v, lookN kvs k = some d ∧ Rp K F v d ∧ NG K H a (.ref q) (some v) := by
  obtain ⟨xs, n1, n2⟩ := n
  rcases n2.val k with ⟨l1, l2⟩ | ⟨d, q', u, v, l1, l2, l3, l4⟩
  · exact .inl ⟨l1, od, xs, k, q, e, n1.mono le, rfl, Same.sqT le hq, by rw [l2]; trivial⟩
  · exact .inr ⟨d, v, l1, l4, od, xs, k, q, e, n1.mono le, rfl, Same.sqT le hq, by rw [l2]; exact l3⟩
def ninN (i : Nat) (fe : Env → Res D) : Env → Res Bool := fun δ => (fe δ).bind fun d => (rdN (nOf δ[i]?) d).bind fun o => .ok (!o.isSome)
theorem PBp.ninN (hw : X.w = TabP.W) (c : Ctx X N sc fn) (i : Nat) (he : PRp X W e fe) (hN : N[i]? = some x := by rfl) (hv : isVis sc x = true := by rfl) (hd : (x == ("__debug__" : Str)) = false := by decide) (hcd : (x == ("__classdict__" : Str)) = false := by decide) (hm : behindInMarks .NotIn (.Name x p) = false := by rfl) :
    PBp X W (.Compare e [.NotIn] [.Name x p] pos) (DL.ninN i fe) := by
  obtain ⟨t, pe, q⟩ := he
  have main : ∀ (C : Ent) (F : Hp) (δ : Env) (σ : L2.St) (H : Hp) (Q : VK), Sat X.K C F δ σ H → Gd W σ F H (DL.ninN i fe δ) (fun b _ H' => Q (.bl b) H') → tOp (rNotInN X.K) t (fun σ H Q => ∃ v, σ[i]? = some (some v) ∧ Q v H) σ H Q := by
    intro C F δ σ H Q s h
    refine q C F δ σ H _ s (h.bind.mono fun d F1 H1 x1 h1 v rv => ?_)
    obtain ⟨kvs, k, hk, hp, h2⟩ := rdN_ok h1
    have s1 := s.ext x1
    obtain ⟨a, od, e1, e2, e3⟩ := s1.nget hk
    obtain ⟨q0, rfl, hq⟩ := rv.pair hp
    refine ⟨_, join_some e1, a, ?_⟩
    rcases ng_of x1.le e2 e3 hq with ⟨l, g⟩ | ⟨d', v', l, _, g⟩
    · rw [l] at h2; exact ⟨none, rfl, g, h2.ok (Ext.refl x1.le)⟩
    · rw [l] at h2; exact ⟨some v', rfl, g, h2.ok (Ext.refl x1.le)⟩
  refine ⟨⟨_, pe_cmpR (op_notInN hw c.u9) pe (pe_var (i := i) (by rw [c.hN]; exact hN) (c.vis hv) hd hcd) hm, fun C F δ σ H Q s h => ?_⟩, ⟨_, pt_cmpR (op_notInN hw c.u9) pe (pe_var (i := i) (by rw [c.hN]; exact hN) (c.vis hv) hd hcd) hm, fun C F δ σ H Q s h => ?_⟩⟩
  · exact main C F δ σ H Q s h
  · exact main C F δ σ H _ s (h.mono fun b F' H' _ q => ⟨b, rfl, q⟩)
def onN {β : Type} (o : Option NKv) (g : NKv → Res β) : Res β := match o with
  | some kvs => g kvs
  | none => .err
theorem onN_ok {β : Type} {o : Option NKv} {g : NKv → Res β} {σ : L2.St} {F H : Hp} {P : β → Hp → Hp → Prop} (h : Gd W σ F H (onN o g) P) : ∃ kvs, o = some kvs ∧ Gd W σ F H (g kvs) P := by
  cases o with
  | none => exact False.elim h
  | some kvs => exact ⟨kvs, rfl, h⟩
def ixN (i : Nat) (fe : Env → Res D) : Env → Res D := fun δ => onN (nOf δ[i]?) fun kvs => (fe δ).bind fun d => (rdN (some kvs) d).bind ofO
theorem PEp.ixN (hw : X.w = TabP.W) (c : Ctx X N sc fn) (i : Nat) (he : PRp X W e fe) (hN : N[i]? = some x := by rfl) (hv : isVis sc x = true := by rfl) (hd : (x == ("__debug__" : Str)) = false := by decide) (hcd : (x == ("__classdict__" : Str)) = false := by decide) (hs : PlainIx e := by exact fun _ _ => rfl) :
    PEp X W (.Subscript (.Name x p) e pos) (DL.ixN i fe) := by
  obtain ⟨t, pe, q⟩ := he
  refine ⟨_, pe_ix (ix_N hw c.u9) (pe_var (i := i) (by rw [c.hN]; exact hN) (c.vis hv) hd hcd) pe hs, fun C F δ σ H Q s h => ?_⟩
  obtain ⟨kvs, hk, h⟩ := onN_ok h
  obtain ⟨a, od, e1, _⟩ := s.nget hk
  refine ⟨_, join_some e1, q C F δ σ H _ s (h.bind.mono fun d F1 H1 x1 h1 v rv => ?_)⟩
  obtain ⟨kvs', k, hk', hp, h2⟩ := rdN_ok h1
  cases hk'
  have s1 := s.ext x1
  obtain ⟨a', od, e1', e2, e3⟩ := s1.nget hk
  rw [e1] at e1'
  cases e1'
  obtain ⟨q0, rfl, hq⟩ := rv.pair hp
  rcases ng_of x1.le e2 e3 hq with ⟨l, g⟩ | ⟨d', v', l, rv', g⟩
  · rw [l] at h2; exact False.elim h2
  · rw [l] at h2
    exact ⟨a, v', rfl, g, h2.ok (Ext.refl x1.le) v' rv'⟩
def getN (i : Nat) (fe fx : Env → Res D) : Env → Res D := fun δ => onN (nOf δ[i]?) fun kvs => (fe δ).bind fun d => (fx δ).bind fun z => (rdN (some kvs) d).bind fun o => .ok (o.getD z)
theorem PEp.getN {f : Expr} {fx : Env → Res D} (hw : X.w = TabP.W) (c : Ctx X N sc fn) (i : Nat) (he : PRp X W e fe) (hx : PEp X W f fx) (hN : N[i]? = some x := by rfl) (hv : isVis sc x = true := by rfl) (hd : (x == ("__debug__" : Str)) = false := by decide) (hcd : (x == ("__classdict__" : Str)) = false := by decide)
    (hbase : attributeBase (.Name x p) "get" X.env (eval (.Name x p) X.env) = eval (.Name x p) X.env := by rfl)
    (hfew : ((backTo cpos (starEach [e, f] X.env)).all (fun x => !x.1) && (backToKw cpos (keywordEach [] X.env)).all (fun x => x.1.isSome)
      && decide (([e, f] : List Expr).length + ([] : List Keyword).length + (if ([] : List Keyword).isEmpty then 0 else 1) < 30)) = true := by rfl)
    (hline : (apos.endLine == cpos.line) = true := by rfl) (ht : backTo cpos (starEach [e, f] X.env) = [(false, eval e X.env), (false, eval f X.env)] := by rfl) :
    PEp X W (.Call (.Attribute (.Name x p) "get" apos) [e, f] [] cpos) (DL.getN i fe fx) := by
  obtain ⟨te, pe, qe⟩ := he
  obtain ⟨tx, px, qx⟩ := hx
  refine ⟨_, pe_get2N hw c.u9 (pe_var (i := i) (by rw [c.hN]; exact hN) (c.vis hv) hd hcd) pe px ⟨hbase, hfew, hline, ht⟩, fun C F δ σ H Q s h => ?_⟩
  obtain ⟨kvs, hk, h⟩ := onN_ok h
  obtain ⟨a, od, e1, e2, ⟨xs, n1, n2⟩⟩ := s.nget hk
  refine ⟨_, join_some e1, a, od, xs, rfl, e2, n1.mono s.le, ?_⟩
  refine qe C F δ σ H _ s (h.bind.mono fun d F1 H1 x1 h1 v rv => ?_)
  refine qx C F1 δ σ H1 _ (s.ext x1) (h1.bind.mono fun z F2 H2 x2 h2 zv rz => ?_)
  obtain ⟨kvs', k, hk', hp, h3⟩ := rdN_ok h2
  cases hk'
  have s2 := (s.ext x1).ext x2
  obtain ⟨a', od, e1', e2', e3'⟩ := s2.nget hk
  rw [e1] at e1'
  cases e1'
  obtain ⟨q0, rfl, hq⟩ := rv.pair hp
  rcases ng_of x2.le e2' e3' (Same.sqT x2.ff hq) with ⟨l, g⟩ | ⟨d', v', l, rv', g⟩
  · rw [l] at h3; exact ⟨none, g, h3.ok (Ext.refl x2.le) zv rz⟩
  · rw [l] at h3; exact ⟨some v', g, h3.ok (Ext.refl x2.le) v' rv'⟩
def lenN (i : Nat) : Env → Res D := fun δ => onN (nOf δ[i]?) fun kvs => .ok (.int kvs.length)
theorem PEp.lenN {p' : Pos} (hw : X.w = TabP.W) (c : Ctx X N sc fn) (hml : X.mg "len" = none) (i : Nat) (hN : N[i]? = some x := by rfl) (hv : isVis sc x = true := by rfl) (hd : (x == ("__debug__" : Str)) = false := by decide) (hcd : (x == ("__classdict__" : Str)) = false := by decide) (hg : isGl sc "len" = true := by rfl)
    (he : starEach [.Name x p] X.env = (false, eval (.Name x p) X.env) :: starEach [] X.env := by rfl) : PEp X W (.Call (.Name "len" p') [.Name x p] [] pos) (DL.lenN i) := by
  refine ⟨_, pe_callB (call_lenN hw) (c.gl hg) hml (by decide +kernel) (pa_cons (pe_var (i := i) (by rw [c.hN]; exact hN) (c.vis hv) hd hcd) pa_nil he) (by decide) (by decide) he rfl, fun C F δ σ H Q s h => ?_⟩
  obtain ⟨kvs, hk, h⟩ := onN_ok h
  obtain ⟨a, od, e1, e2, ⟨xs, n1, n2⟩⟩ := s.nget hk
  refine ⟨_, join_some e1, a, od, xs, rfl, e2, n1.mono s.le, ?_⟩
  rw [← n2.len]
  exact h.ok (Ext.refl s.le) _ (.int _)
/-- x = {} -/
def newN (i : Nat) : Env → Fl := fun δ => .nx (δ.set i (.ownN false []))
theorem NX.nil {K : PySem.W.Frag} {F : Hp} {a : Addr} (h : (a == sysModules) = false) : NX K F a od0 [] := ⟨h, Nat.zero_le _, List.nodup_nil, ⟨rfl, rfl, rfl⟩, ⟨#[], 0, rfl, rfl⟩, fun _ hx => absurd hx (by simp)⟩
theorem PSp.newN {pos' dpos : Pos} (c : Ctx X N sc fn) (i : Nat) (hN : N[i]? = some x := by rfl) (hx : stOk sc fn x = true := by rfl) (hs : swapsWith (.Dict [] [] dpos) (some (.Name x pos')) pos.line X.env = pure false := by rfl) :
    PSp X W (.Assign [.Name x pos'] (.Dict [] [] dpos) pos) (DL.newN i) := by
  obtain ⟨h1, h2⟩ := c.st hx
  refine ⟨_, ps_set (i := i) (by rw [c.hN]; exact c.nd) (by rw [c.hN]; exact hN) h1 pe_newN hs h2, fun C F δ σ H E s g => ?_⟩
  intro q hq hsys
  have x0 : Ext F H F (upd H q (dbo q od0)) := (Ext.refl s.le).newH hq _
  exact g F _ _ (Same.refl _) (s.set_new hq x0 (s.le.free hq) upd_same fun G gG => ⟨q, od0, rfl, gG, upd_same, ⟨[], NX.nil hsys, .nil⟩, fun z => nomatch z⟩)
/-- x = {k: v} -/
def newN1 (i : Nat) (fk fv : Env → Res D) : Env → Fl := fun δ => onR ((fk δ).bind fun d => (fv δ).bind fun v => match gPair d with
  | some k => .ok (k, v)
  | none => .err) δ fun p => .nx (δ.set i (.ownN false [p]))
theorem PSp.newN1 {k v : Expr} {fk fv : Env → Res D} {pos' dpos : Pos} (hw : X.w = TabP.W) (c : Ctx X N sc fn) (i : Nat) (hk : PEp X W k fk) (hv : PEp X W v fv) (hN : N[i]? = some x := by rfl) (hx : stOk sc fn x = true := by rfl) (hs : swapsWith (.Dict [some k] [v] dpos) (some (.Name x pos')) pos.line X.env = pure false := by rfl) :
    PSp X W (.Assign [.Name x pos'] (.Dict [some k] [v] dpos) pos) (DL.newN1 i fk fv) := by
  obtain ⟨h1, h2⟩ := c.st hx
  obtain ⟨tk, pk, qk⟩ := hk
  obtain ⟨tv, pv, qv⟩ := hv
  refine ⟨_, ps_set (i := i) (by rw [c.hN]; exact c.nd) (by rw [c.hN]; exact hN) h1 (pe_dispN hw c.u9 pk pv) hs h2, fun C F δ σ H E s g => ?_⟩
  intro q hq hsys
  have x0 : Ext F H F (upd H q (dbo q od0)) := (Ext.refl s.le).newH hq _
  have s0 := s.ext x0
  have hF : F q = none := s.le.free hq
  have g0 := Gs.on s g (P := fun p F' H' => Ext F H F' H' ∧ Gs X.K W C F' E (.nx (δ.set i (.ownN false [p])))) fun p F' H' x s' g' => ⟨x, g'⟩
  refine qk C F δ σ _ _ s0 (((Gd.bind2 g0).ext x0).mono fun kd F1 H1 x1 g1 kv rk => ?_)
  refine qv C F1 δ σ H1 _ (s0.ext x1) (((Gd.bind2 g1).ext (x0.trans x1)).mono fun d F2 H2 x2 g2 v rv => ?_)
  cases hp : gPair kd with
  | none => rw [hp] at g2; exact False.elim g2
  | some kk =>
    rw [hp] at g2
    have xx : Ext F H F2 H2 := (x0.trans x1).trans x2
    have hp2 : H2 q = some (dbo q od0) := ((x1.trans x2).hh q _ upd_same).keep (fun ps z => nomatch z)
    have hF2 : F2 q = none := by
      cases e : F2 q with
      | none => rfl
      | some o =>
        rcases (x1.trans x2).nw q o e with z | z
        · rw [hF] at z; cases z
        · rw [upd_same] at z; cases z
    obtain ⟨q0, rfl, hq0⟩ := rk.pair hp
    have hq2 := Same.sqT x2.ff hq0
    refine ⟨hp2, kk, q0, rfl, Same.sqT x2.le hq2, fun u od ru hx hd => ?_⟩
    have xf : Ext F H F2 (upd H2 q (dbo q od)) := xx.chg hq hF2 hp2 (.inr (.inr (.inl ⟨q, od0, rfl, ⟨rfl, rfl, rfl⟩, #[], 0, rfl⟩))) _
    obtain ⟨_, g3⟩ := g2.ok xx
    have nr : NR X.K F2 q od [(kk, d)] := ⟨[(nk kk, q0, u)], ⟨hsys, by show 1 ≤ sizeLine; decide, by simp, hx, hd, fun x hx => by
      rw [List.mem_singleton] at hx; subst hx; exact ⟨kk, rfl, hq2⟩⟩, .cons ⟨rfl, hq2, v, ru, rv⟩ .nil⟩
    exact g3 F2 _ _ (Same.refl _) (s.set_new hq xf hF2 upd_same fun G gG => ⟨q, od, rfl, gG, upd_same, nr, fun z => nomatch z⟩)
/-- d[k] = v -/
def setN (i : Nat) (fk f : Env → Res D) : Env → Fl := fun δ => match δ[i]? with
  | some (.ownN p kvs) => onR ((f δ).bind fun d => (fk δ).bind fun k => match gPair k with
    | some k => .ok (d, k)
    | none => .err) δ fun z => if kvs.length < sizeLine then .nx (δ.set i (.ownN p (putN kvs z.2 z.1))) else .err
  | _ => .err
theorem PSp.setN {k : Expr} {spos : Pos} (hw : X.w = TabP.W) (c : Ctx X N sc fn) (i : Nat) {f fk : Env → Res D} (h : PEp X W e f) (hk : PRp X W k fk) (hN : N[i]? = some x := by rfl) (hv : isVis sc x = true := by rfl) (hd : (x == ("__debug__" : Str)) = false := by decide) (hcd : (x == ("__classdict__" : Str)) = false := by decide)
    (ha : ∀ v, assign (.Subscript (.Name x p) k spos) X.env v = (do
      let ov ← holding [v] (eval (.Name x p) X.env)
      let iv ← holding [v, ov] (eval k X.env)
      standAt spos
      holding [v, ov, iv] (setItem ov iv v)
      release [v, ov, iv] []) := by intro _; rfl)
    (hs : swapsWithSole [.Subscript (.Name x p) k spos] e pos.line X.env = pure false := by rfl) (hsw : swappedStores [.Subscript (.Name x p) k spos] e X.env = pure none := by rfl)
    (h1 : (assignEach [.Subscript (.Name x p) k spos] X.env).map (·.2) = [assign (.Subscript (.Name x p) k spos) X.env] := by rfl) : PSp X W (.Assign [.Subscript (.Name x p) k spos] e pos) (DL.setN i fk f) := by
  obtain ⟨t, pe, q⟩ := h
  obtain ⟨u, pk, qk⟩ := hk
  refine ⟨_, ps_asg pe (pg_sub (pe_var (i := i) (by rw [c.hN]; exact hN) (c.vis hv) hd hcd) pk (set_N hw c.u9) ha) hs hsw h1, fun C F δ σ H E s g => ?_⟩
  unfold DL.setN at g
  split at g
  · rename_i pp kvs e0
    obtain ⟨G, sg⟩ := s
    obtain ⟨a, od, h1, h2, h3, h4, h5⟩ := sg.sl i _ e0
    have s : Sat X.K C F δ σ H := ⟨G, sg⟩
    have g1 := Gs.on s g (P := fun z F' H' => Ext F H F' H' ∧ Gs X.K W C F' E (if kvs.length < sizeLine then .nx (δ.set i (.ownN pp (putN kvs z.2 z.1))) else .err)) fun p F' H' x s' h' => ⟨x, h'⟩
    refine q C F δ σ H _ s (g1.bind.mono fun d F1 H1 x1 g2 v rv => ?_)
    refine ⟨_, join_some h1, qk C F1 δ σ H1 _ (s.ext x1) (g2.bind.mono fun k F2 H2 x2 g3 z rz => ?_)⟩
    cases hp : gPair k with
    | none => rw [hp] at g3; exact False.elim g3
    | some kk =>
      rw [hp] at g3
      obtain ⟨x3, g4⟩ := g3.ok (Ext.refl x2.le)
      split at g4
      · rename_i hz
        obtain ⟨xs, n1, n2⟩ := h4.mono x3.ff
        obtain ⟨q0, rfl, hq0⟩ := rz.pair hp
        have e2 : H2 a = some (dbo a od) := x3.hh _ _ h3
        have sg2 := sg.ext x3
        have hl : xs.length < sizeLine := by rw [← n2.len]; exact hz
        refine ⟨a, od, xs, kk, q0, rfl, e2, n1.mono x2.le, hl, rfl, Same.sqT x2.le hq0, fun u od' ru hx hdd hnn => ?_⟩
        have nr : NR X.K F2 a od' (putN kvs kk d) := ⟨_, n1.put hl hq0 hx hdd hnn, n2.put hq0 ru (Rp.mono x2.ff _ _ rv)⟩
        exact g4 F2 σ _ (Same.refl _) ⟨G, sg2.putG e2 (NR.own1 (h4.mono x3.ff)) h2 (by rw [h1]; exact ⟨a, od', rfl, h2, upd_same, nr, h5⟩)⟩
      · exact False.elim g4
  · exact False.elim g
end
end DL
/-! DV2: a for over a dict keyed by pairs. -/
namespace DL
open PySem PySem.Spec PyProof.Rows L2
variable [TabP]
/-- what is borrowed behind was borrowed, and pinned, ahead -/
def borS : Sl → Sl → Bool
  | .bor true _, .bor true _ => true
  | .bor _ _, _ => false
  | _, _ => true
def borOk : Env → Env → Bool
  | s :: δ, s' :: δ' => borS s' s && borOk δ δ'
  | _, [] => true
  | [], s' :: δ' => borS s' .no && borOk [] δ'
theorem borS_at {s s' : Sl} {p : Bool} {k : NKv} (h : borS s' s = true) (e : s' = .bor p k) : p = true ∧ ∃ k', s = .bor true k' := by
  subst e
  cases p with
  | false => cases h
  | true =>
    cases s with
    | bor p2 k2 =>
      cases p2 with
      | true => exact ⟨rfl, k2, rfl⟩
      | false => cases h
    | _ => cases h
theorem borOk_at : ∀ {δ δ' : Env} {j : Nat} {p : Bool} {k : NKv}, borOk δ δ' = true → δ'[j]? = some (.bor p k) → p = true ∧ ∃ k', δ[j]? = some (.bor true k')
  | s :: δ, s' :: δ', 0, p, k, h, e => by
    have h := (Bool.and_eq_true _ _ ▸ h : borS s' s = true ∧ borOk δ δ' = true)
    obtain ⟨e1, k', e2⟩ := borS_at h.1 (show s' = .bor p k from Option.some.inj e)
    exact ⟨e1, k', by rw [e2]; rfl⟩
  | s :: δ, s' :: δ', j + 1, p, k, h, e => by
    have h := (Bool.and_eq_true _ _ ▸ h : borS s' s = true ∧ borOk δ δ' = true)
    obtain ⟨e1, k', e2⟩ := borOk_at (j := j) h.2 (by simpa using e)
    exact ⟨e1, k', by simpa using e2⟩
  | [], s' :: δ', 0, p, k, h, e => by
    have h := (Bool.and_eq_true _ _ ▸ h : borS s' .no = true ∧ borOk [] δ' = true)
    obtain ⟨e1, k', e2⟩ := borS_at h.1 (show s' = .bor p k from Option.some.inj e)
    cases e2
  | [], s' :: δ', j + 1, p, k, h, e => by
    have h := (Bool.and_eq_true _ _ ▸ h : borS s' .no = true ∧ borOk [] δ' = true)
    obtain ⟨e1, k', e2⟩ := borOk_at (j := j) h.2 (by simpa using e)
    cases e2
  | [], [], _, _, _, _, e => by cases e
  | _ :: _, [], _, _, _, _, e => by cases e
/-- slot i's list stands aside: its address is kept -/
theorem Sat.asideN {K : PySem.W.Frag} {C : Ent} {F H : Hp} {δ : Env} {σ : L2.St} {i : Nat} {p : Bool} {kvs : NKv} (s : Sat K C F δ σ H) (hi : δ[i]? = some (.ownN p kvs)) : ∃ (C' : Ent) (a : Addr) (od : Obj), (σ[i]?).join = some (.ref a) ∧ H a = some (dbo a od) ∧ NR K F a od kvs ∧ Sat K C' F (δ.set i (.bor true kvs)) σ H ∧
    (∀ F' δ' σ' H', Sat K C' F' δ' σ' H' → Same F F' ∧ H' a = some (dbo a od) ∧ (∀ kvs', δ'[i]? = some (.bor true kvs') → borOk (δ.set i (.bor true kvs)) δ' = true → Sat K C F' (δ'.set i (.ownN p kvs)) σ' H')) := by
  obtain ⟨G, g⟩ := s
  obtain ⟨a, od, h1, h2, h3, h4, h5⟩ := g.sl i _ hi
  refine ⟨⟨F, H, fun b => b ≠ a ∧ G b ≠ none, fun k => if k = i then .ref a else C.pins k⟩, a, od, h1, h3, h4, ⟨fun b => if b = a then none else G b, g.le, Same.refl _, fun b o e => .inl e, fun b o e => .inr (.of e), fun b z e => ?_, fun b j z => ?_, fun b j z => ?_, fun b j z => ?_, by rw [List.length_set]; exact g.len, g.tf, fun j q e => ?_⟩, fun F' δ' σ' H' s' => ?_⟩
  · cases q : G b with
    | none => exact z.2 q
    | some j => exact g.live b j q e
  · by_cases hb : b = a
    · rw [if_pos hb] at z; cases z
    · rw [if_neg hb] at z; exact g.dis b j z
  · by_cases hb : b = a
    · rw [if_pos hb] at z; cases z
    · rw [if_neg hb] at z; exact g.live b j z
  · by_cases hb : b = a
    · rw [if_pos hb] at z; cases z
    · rw [if_neg hb] at z; exact .inr ⟨hb, by rw [z]; exact fun y => nomatch y⟩
  · by_cases hj : i = j
    · subst hj
      rw [List.getElem?_set_self (List.getElem?_eq_some_iff.mp hi).1] at e
      cases e
      exact ⟨a, od, h1, if_pos rfl, h3, h4, fun _ => if_pos rfl⟩
    · rw [List.getElem?_set_ne hj] at e
      have z := g.sl j q e
      have ne : ∀ {b : Addr}, G b = some j → (if b = a then none else G b) = some j := fun {b} y => by
        by_cases hb : b = a
        · rw [hb, h2] at y; cases y; exact absurd rfl hj
        · rw [if_neg hb]; exact y
      cases q with
      | no => trivial
      | bk p fz B =>
        obtain ⟨b, h1, h0, hb⟩ := z
        exact ⟨b, h1, fun y => by show (if j = i then V.ref a else C.pins j) = _; rw [if_neg (fun y => hj y.symm)]; exact h0 y, hb.mono (Same.refl _) (fun _ y => ne y) fun _ _ _ y _ => y⟩
      | pin =>
        show (σ[j]?).join = some (if j = i then V.ref a else C.pins j)
        rw [if_neg (fun y => hj y.symm)]; exact z
      | val d => exact z
      | own es =>
        obtain ⟨b, ws, k1, k2, k3, k4⟩ := z
        exact ⟨b, ws, k1, ne k2, k3, k4⟩
      | ownK es =>
        obtain ⟨b, ws, k1, k2, k3, k4⟩ := z
        exact ⟨b, ws, k1, ne k2, k3, k4⟩
      | deep es =>
        obtain ⟨b, ws, Fd, k1, k2, k3, k4⟩ := z
        exact ⟨b, ws, Fd, k1, ne k2, k3, fun ds e => (k4 ds e).mono (Same.refl _) (fun _ y => ne y) (k4 ds e).le⟩
      | ownN p kvs =>
        obtain ⟨b, es, k1, k2, k3, k4, k5⟩ := z
        exact ⟨b, es, k1, ne k2, k3, k4, fun y => by show (if j = i then V.ref a else C.pins j) = _; rw [if_neg (fun y => hj y.symm)]; exact k5 y⟩
      | bor p kvs =>
        obtain ⟨b, es, k1, k2, k3, k4, k5⟩ := z
        exact ⟨b, es, k1, (show (if b = a then none else G b) = none by
          split
          · rfl
          · exact k2), k3, k4, fun y => by show (if j = i then V.ref a else C.pins j) = _; rw [if_neg (fun y => hj y.symm)]; exact k5 y⟩
  · obtain ⟨G', g'⟩ := s'
    have ha : H' a = some (dbo a od) := by
      rcases g'.keep a _ h3 with z | z
      · exact absurd rfl z.1
      · exact z.keep fun ps y => nomatch y
    have fa : F a = none := g.dis a i h2
    have fa' : F' a = none := by
      cases q : F' a with
      | none => rfl
      | some o =>
        rcases g'.nw a o q with z | z | z
        · rw [show F a = some o from z] at fa; cases fa
        · rw [show H a = none from z] at h3; cases h3
        · exact absurd rfl z.1
    have ga' : G' a = none := by
      cases q : G' a with
      | none => rfl
      | some j =>
        rcases g'.mine a j q with z | z
        · rw [show H a = none from z] at h3; cases h3
        · exact absurd rfl z.1
    have own0 : ∀ b, (b ≠ a ∧ G b ≠ none) → C.H0 b = none ∨ C.own b := fun b z => by
      cases q : G b with
      | none => exact absurd q z.2
      | some j => exact g.mine b j q
    refine ⟨g'.f0, ha, fun kvs' hp hbo => ⟨fun b => if b = a then some i else G' b, g'.le, g.f0.trans g'.f0, fun b o e => ?_, fun b o e => ?_, fun b z e => ?_, fun b j z => ?_, fun b j z => ?_, fun b j z => ?_, by rw [List.length_set]; exact g'.len, g'.tf, fun j q e => ?_⟩⟩
    · rcases g'.nw b o e with z | z | z
      · exact g.nw b o z
      · exact .inr (.inl (g.h0 (show H b = none from z)).1)
      · exact .inr (own0 b z)
    · rcases g.keep b o e with z | z
      · exact .inl z
      · cases q : H b with
        | none => exact absurd q z.some
        | some o2 =>
          rcases g'.keep b o2 q with y | y
          · rcases own0 b y with x | x
            · rw [x] at e; cases e
            · exact .inl x
          · rw [q] at z
            cases o with
            | tbl ps =>
              obtain ⟨qs, e3⟩ := z
              cases e3
              exact .inr y
            | _ =>
              have z : some o2 = some _ := z
              cases z
              exact .inr y
    · have hb := g.alive b z
      cases q : H b with
      | none => exact hb q
      | some o =>
        rcases g'.keep b o q with y | y
        · exact g'.alive b y e
        · exact y.some e
    · by_cases hb : b = a
      · rw [hb]; exact fa'
      · rw [if_neg hb] at z; exact g'.dis b j z
    · by_cases hb : b = a
      · rw [hb, ha]; exact fun y => nomatch y
      · rw [if_neg hb] at z; exact g'.live b j z
    · by_cases hb : b = a
      · rw [hb]; exact g.mine a i h2
      · rw [if_neg hb] at z
        rcases g'.mine b j z with y | y
        · exact .inl (g.h0 (show H b = none from y)).1
        · exact own0 b y
    · by_cases hj : i = j
      · subst hj
        have hl := (List.getElem?_eq_some_iff.mp hp).1
        rw [List.getElem?_set_self hl] at e
        cases e
        obtain ⟨a2, od2, k1, k2, k3, k4, k5⟩ := g'.sl i _ hp
        have k6 : (if i = i then V.ref a else C.pins i) = .ref a2 := k5 rfl
        rw [if_pos rfl] at k6
        cases k6
        exact ⟨a, od, k1, if_pos rfl, ha, h4.mono g'.f0, h5⟩
      · rw [List.getElem?_set_ne hj] at e
        have z := g'.sl j q e
        have ne : ∀ {b : Addr}, G' b = some j → (if b = a then some i else G' b) = some j := fun {b} y => by
          by_cases hb : b = a
          · rw [hb, ga'] at y; cases y
          · rw [if_neg hb]; exact y
        cases q with
        | no => trivial
        | bk p fz B =>
          obtain ⟨b, h1, h0, hb⟩ := z
          exact ⟨b, h1, fun y => by have k6 : (if j = i then V.ref a else C.pins j) = .ref b := h0 y; rw [if_neg (fun y => hj y.symm)] at k6; exact k6, hb.mono (Same.refl _) (fun _ y => ne y) fun _ _ _ y _ => y⟩
        | pin =>
          have z : (σ'[j]?).join = some (if j = i then V.ref a else C.pins j) := z
          rw [if_neg (fun y => hj y.symm)] at z
          exact z
        | val d => exact z
        | own es =>
          obtain ⟨b, ws, k1, k2, k3, k4⟩ := z
          exact ⟨b, ws, k1, ne k2, k3, k4⟩
        | ownK es =>
          obtain ⟨b, ws, k1, k2, k3, k4⟩ := z
          exact ⟨b, ws, k1, ne k2, k3, k4⟩
        | deep es =>
          obtain ⟨b, ws, Fd, k1, k2, k3, k4⟩ := z
          exact ⟨b, ws, Fd, k1, ne k2, k3, fun ds e => (k4 ds e).mono (Same.refl _) (fun _ y => ne y) (k4 ds e).le⟩
        | ownN p kvs =>
          obtain ⟨b, es, k1, k2, k3, k4, k5⟩ := z
          exact ⟨b, es, k1, ne k2, k3, k4, fun y => by
            have k6 : (if j = i then V.ref a else C.pins j) = .ref b := k5 y
            rw [if_neg (fun y => hj y.symm)] at k6; exact k6⟩
        | bor p kvs =>
          obtain ⟨b, es, k1, k2, k3, k4, k5⟩ := z
          obtain ⟨e1, k', e2⟩ := borOk_at hbo e
          subst e1
          have k6 : (if j = i then V.ref a else C.pins j) = .ref b := k5 rfl
          rw [if_neg (fun y => hj y.symm)] at k6
          rw [List.getElem?_set_ne hj] at e2
          obtain ⟨b0, es0, l1, l2, l3, l4, l5⟩ := g.sl j _ e2
          have l6 := l5 rfl
          rw [k6] at l6
          cases l6
          have hba : b ≠ a := fun y => by rw [y, h2] at l2; cases l2
          exact ⟨b, es, k1, by show (if b = a then some i else G' b) = none; rw [if_neg hba]; exact k2, k3, k4, fun _ => k6⟩
theorem Sat.asideB {K : PySem.W.Frag} {C : Ent} {F H : Hp} {δ : Env} {σ : L2.St} {i : Nat} {p : Bool} {kvs : NKv} (s : Sat K C F δ σ H) (hi : δ[i]? = some (.bor p kvs)) : ∃ (C' : Ent) (a : Addr) (od : Obj), (σ[i]?).join = some (.ref a) ∧ H a = some (dbo a od) ∧ NR K F a od kvs ∧ Sat K C' F (δ.set i (.bor true kvs)) σ H ∧
    (∀ F' δ' σ' H', Sat K C' F' δ' σ' H' → Same F F' ∧ H' a = some (dbo a od) ∧ (∀ kvs', δ'[i]? = some (.bor true kvs') → borOk (δ.set i (.bor true kvs)) δ' = true → Sat K C F' (δ'.set i (.bor p kvs)) σ' H')) := by
  obtain ⟨G, g⟩ := s
  obtain ⟨a, od, h1, h2, h3, h4, h5⟩ := g.sl i _ hi
  refine ⟨⟨F, H, fun b => G b ≠ none, fun k => if k = i then .ref a else C.pins k⟩, a, od, h1, h3, h4, ⟨G, g.le, Same.refl _, fun b o e => .inl e, fun b o e => .inr (.of e), fun b z e => ?_, g.dis, g.live, fun b j z => .inr (by show G b ≠ none; rw [z]; exact fun y => nomatch y), by rw [List.length_set]; exact g.len, g.tf, fun j q e => ?_⟩, fun F' δ' σ' H' s' => ?_⟩
  · cases q : G b with
    | none => exact z q
    | some j => exact g.live b j q e
  · by_cases hj : i = j
    · subst hj
      rw [List.getElem?_set_self (List.getElem?_eq_some_iff.mp hi).1] at e
      cases e
      exact ⟨a, od, h1, h2, h3, h4, fun _ => if_pos rfl⟩
    · rw [List.getElem?_set_ne hj] at e
      have z := g.sl j q e
      cases q with
      | no => trivial
      | bk p fz B =>
        obtain ⟨b, h1, h0, hb⟩ := z
        exact ⟨b, h1, fun y => by show (if j = i then V.ref a else C.pins j) = _; rw [if_neg (fun y => hj y.symm)]; exact h0 y, hb.mono (Same.refl _) (fun _ y => y) fun _ _ _ y _ => y⟩
      | pin =>
        show (σ[j]?).join = some (if j = i then V.ref a else C.pins j)
        rw [if_neg (fun y => hj y.symm)]; exact z
      | val d => exact z
      | own es => exact z
      | ownK es => exact z
      | deep es => exact z
      | ownN p kvs =>
        obtain ⟨b, es, k1, k2, k3, k4, k5⟩ := z
        exact ⟨b, es, k1, k2, k3, k4, fun y => by show (if j = i then V.ref a else C.pins j) = _; rw [if_neg (fun y => hj y.symm)]; exact k5 y⟩
      | bor p kvs =>
        obtain ⟨b, es, k1, k2, k3, k4, k5⟩ := z
        exact ⟨b, es, k1, k2, k3, k4, fun y => by show (if j = i then V.ref a else C.pins j) = _; rw [if_neg (fun y => hj y.symm)]; exact k5 y⟩
  · obtain ⟨G', g'⟩ := s'
    have ha : H' a = some (dbo a od) := by
      rcases g'.keep a _ h3 with z | z
      · exact absurd h2 z
      · exact z.keep fun ps y => nomatch y
    have own0 : ∀ b, G b ≠ none → C.H0 b = none ∨ C.own b := fun b z => by
      cases q : G b with
      | none => exact absurd q z
      | some j => exact g.mine b j q
    refine ⟨g'.f0, ha, fun kvs' hp hbo => ⟨G', g'.le, g.f0.trans g'.f0, fun b o e => ?_, fun b o e => ?_, fun b z e => ?_, g'.dis, g'.live, fun b j z => ?_, by rw [List.length_set]; exact g'.len, g'.tf, fun j q e => ?_⟩⟩
    · rcases g'.nw b o e with z | z | z
      · exact g.nw b o z
      · exact .inr (.inl (g.h0 (show H b = none from z)).1)
      · exact .inr (own0 b z)
    · rcases g.keep b o e with z | z
      · exact .inl z
      · cases q : H b with
        | none => exact absurd q z.some
        | some o2 =>
          rcases g'.keep b o2 q with y | y
          · rcases own0 b y with x | x
            · rw [x] at e; cases e
            · exact .inl x
          · rw [q] at z
            cases o with
            | tbl ps =>
              obtain ⟨qs, e3⟩ := z
              cases e3
              exact .inr y
            | _ =>
              have z : some o2 = some _ := z
              cases z
              exact .inr y
    · have hb := g.alive b z
      cases q : H b with
      | none => exact hb q
      | some o =>
        rcases g'.keep b o q with y | y
        · exact g'.alive b y e
        · exact y.some e
    · rcases g'.mine b j z with y | y
      · exact .inl (g.h0 (show H b = none from y)).1
      · exact own0 b y
    · by_cases hj : i = j
      · subst hj
        have hl := (List.getElem?_eq_some_iff.mp hp).1
        rw [List.getElem?_set_self hl] at e
        cases e
        obtain ⟨a2, od2, k1, k2, k3, k4, k5⟩ := g'.sl i _ hp
        have k6 : (if i = i then V.ref a else C.pins i) = .ref a2 := k5 rfl
        rw [if_pos rfl] at k6
        cases k6
        exact ⟨a, od, k1, k2, ha, h4.mono g'.f0, h5⟩
      · rw [List.getElem?_set_ne hj] at e
        have z := g'.sl j q e
        cases q with
        | no => trivial
        | bk p fz B =>
          obtain ⟨b, h1, h0, hb⟩ := z
          exact ⟨b, h1, fun y => by have k6 : (if j = i then V.ref a else C.pins j) = .ref b := h0 y; rw [if_neg (fun y => hj y.symm)] at k6; exact k6, hb.mono (Same.refl _) (fun _ y => y) fun _ _ _ y _ => y⟩
        | pin =>
          have z : (σ'[j]?).join = some (if j = i then V.ref a else C.pins j) := z
          rw [if_neg (fun y => hj y.symm)] at z
          exact z
        | val d => exact z
        | own es => exact z
        | ownK es => exact z
        | deep es => exact z
        | ownN p kvs =>
          obtain ⟨b, es, k1, k2, k3, k4, k5⟩ := z
          exact ⟨b, es, k1, k2, k3, k4, fun y => by
            have k6 : (if j = i then V.ref a else C.pins j) = .ref b := k5 y
            rw [if_neg (fun y => hj y.symm)] at k6; exact k6⟩
        | bor p kvs =>
          obtain ⟨b, es, k1, k2, k3, k4, k5⟩ := z
          exact ⟨b, es, k1, k2, k3, k4, fun y => by
            have k6 : (if j = i then V.ref a else C.pins j) = .ref b := k5 y
            rw [if_neg (fun y => hj y.symm)] at k6; exact k6⟩
def keyD (kv : (Int × Bool) × D) : D := .tuple [.int kv.1.1, .bool kv.1.2]
/-- the dict at slot i, and how it is put back -/
def nSl : Sl → Option NKv
  | .ownN _ kvs => some kvs
  | .bor _ kvs => some kvs
  | _ => none
theorem Sat.asideD {K : PySem.W.Frag} {C : Ent} {F H : Hp} {δ : Env} {σ : L2.St} {i : Nat} {o : Sl} {kvs : NKv} (s : Sat K C F δ σ H) (hi : δ[i]? = some o) (hk : nSl o = some kvs) : ∃ (C' : Ent) (a : Addr) (od : Obj), (σ[i]?).join = some (.ref a) ∧ H a = some (dbo a od) ∧ NR K F a od kvs ∧ Sat K C' F (δ.set i (.bor true kvs)) σ H ∧
    (∀ F' δ' σ' H', Sat K C' F' δ' σ' H' → Same F F' ∧ H' a = some (dbo a od) ∧ (∀ kvs', δ'[i]? = some (.bor true kvs') → borOk (δ.set i (.bor true kvs)) δ' = true → Sat K C F' (δ'.set i o) σ' H')) := by
  cases o with
  | ownN p k => cases hk; exact s.asideN hi
  | bor p k => cases hk; exact s.asideB hi
  | _ => cases hk
def bkN (i : Nat) (o : Sl) (δ0 δ : Env) : Option Sl → Fl
  | some (.bor true _) => if borOk δ0 δ = true then .nx (δ.set i o) else .err
  | _ => .err
def backN (i : Nat) (o : Sl) (δ0 : Env) : Fl → Fl
  | .nx δ => bkN i o δ0 δ δ[i]?
  | _ => .err
def forND (is : List Nat) (i : Nat) (g : D → Env → Option Env) (fb : Env → Fl) (δ : Env) : Option Sl → Fl
  | some o => (match nSl o with
    | some kvs => backN i o (δ.set i (.bor true kvs)) (loopL is g fb (kvs.map keyD) (δ.set i (.bor true kvs)))
    | none => .err)
  | none => .err
def forN (is : List Nat) (i : Nat) (g : D → Env → Option Env) (fb : Env → Fl) : Env → Fl := fun δ => forND is i g fb δ δ[i]?
theorem bkN_ok {i : Nat} {o : Sl} {δ0 δ : Env} {K : PySem.W.Frag} {W : WS} {C : Ent} {F : Hp} {E : Ends} (h : Gs K W C F E (bkN i o δ0 δ δ[i]?)) : ∃ kvs', δ[i]? = some (.bor true kvs') ∧ borOk δ0 δ = true ∧ Gs K W C F E (.nx (δ.set i o)) := by
  cases hd : δ[i]? with
  | none => rw [hd] at h; exact False.elim h
  | some s =>
    rw [hd] at h
    cases s with
    | bor p k =>
      cases p with
      | false => exact False.elim h
      | true =>
        unfold bkN at h
        dsimp only at h
        split at h
        · rename_i hb; exact ⟨k, rfl, hb, h⟩
        · exact False.elim h
    | _ => exact False.elim h
section
variable {X : Cx} {N : List Str} {sc : Scope} {fn : Str → Bool} {W : WS} {pos : Pos} {body : List Stmt} {fb : Env → Fl}
theorem PSp.forN {tg : Expr} {js : List Nat} {g : D → Env → Option Env} {x : Str} {p : Pos} (c : Ctx X N sc fn) (is : List Nat) (i : Nat) (hg : PGp X tg js g) (hb : PSsp X W body fb) (hN : N[i]? = some x := by rfl) (hv : isVis sc x = true := by rfl) (hd : (x == ("__debug__" : Str)) = false := by decide) (hcd : (x == ("__classdict__" : Str)) = false := by decide)
    (hs : ∀ y, foldedSetIterable (.Name x p) X.env y = pure y := by intro _; rfl) : PSp X W (.For tg (.Name x p) body [] pos) (DL.forN is i g fb) := by
  obtain ⟨t1, p1, q1⟩ := hg
  obtain ⟨t2, p2, q2⟩ := hb
  refine ⟨_, ps_for c.po c.calm (pi_N (pe_var (i := i) (by rw [c.hN]; exact hN) (c.vis hv) hd hcd)) p1 p2 hs, fun C F δ σ H E s h => ?_⟩
  unfold DL.forN at h
  cases hi : δ[i]? with
  | none => rw [hi] at h; exact False.elim h
  | some o =>
    rw [hi] at h
    unfold forND at h
    dsimp only at h
    cases hk : nSl o with
    | none => rw [hk] at h; exact False.elim h
    | some kvs =>
      rw [hk] at h
      dsimp only at h
      obtain ⟨C', a, od, h1, h3, ⟨xs, n1, n2⟩, s0, back⟩ := s.asideD hi hk
      have hl : kvs.length = xs.length := n2.len
      refine ⟨.ref a, join_some h1, a, od, xs, rfl, h3, n1.mono s.le, ?_⟩
      generalize hδ : δ.set i (.bor true kvs) = δ0 at *
      generalize hds : kvs.map keyD = ds at *
      have hdl : ds.length = kvs.length := by rw [← hds, List.length_map]
      refine ⟨fun k m σi Hi => ∃ Fi δi, m = ds.length - k ∧ k ≤ ds.length ∧ Sat X.K C' Fi δi σi Hi ∧ Gs X.K W C Fi E (backN i o δ0 (loopL is g fb (ds.drop k) δi)), ⟨ds.length, F, _, by simp, Nat.zero_le _, s0, by rw [List.drop_zero]; exact h⟩, ?_⟩
      rintro k m σi Hi ⟨Fi, δi, rfl, hk2, si, gi⟩
      obtain ⟨eF, hA, bk⟩ := back _ _ _ _ si
      by_cases hlt : k < ds.length
      · right
        have hd' : ds[k]? = some ds[k] := by rw [List.getElem?_eq_getElem hlt]
        rw [List.drop_eq_getElem_cons hlt] at gi
        refine ⟨⟨hA, by omega⟩, fun σ' H' => ∃ F' δ', Sat X.K C' F' δ' σ' H' ∧ Gs X.K W C F' E (backN i o δ0 (loopL is g fb (ds.drop (k + 1)) δ')), fun σ' H' ⟨F', δ', k2, k3⟩ => ⟨ds.length - (k + 1), by omega, F', δ', rfl, hlt, k2, k3⟩, fun y H2 hy => ?_⟩
        obtain ⟨eH, q0, es, ep, en, ey, hod, hen, hkey⟩ := hy
        subst eH; subst ey
        -- the key as data
        obtain ⟨es', ep', hod', hes⟩ := n1.2.2.2.2.1
        rw [hod] at hod'
        cases hod'
        have hx : ∃ x, xs[k]? = some x ∧ x.2.1 = q0 := by
          rw [← Array.getElem?_toList, hes, List.getElem?_map] at hen
          cases hx : xs[k]? with
          | none => rw [hx] at hen; cases hen
          | some x => rw [hx] at hen; cases hen; exact ⟨x, rfl, by cases hkey; rfl⟩
        obtain ⟨x, hx, hxq⟩ := hx
        have hkv : ∃ kv, kvs[k]? = some kv := ⟨_, List.getElem?_eq_getElem (by omega)⟩
        obtain ⟨kv, hkv⟩ := hkv
        obtain ⟨x', hx', r1, r2, _⟩ := paired_get n2 hkv
        rw [hx] at hx'
        cases hx'
        have rv : Rp X.K Fi (.ref q0) ds[k] := by
          have e : ds[k] = keyD kv := by
            have : ds[k]? = some (keyD kv) := by rw [← hds, List.getElem?_map, hkv]; rfl
            rw [hd'] at this
            exact Option.some.inj this
          rw [e, ← hxq]
          exact .tup (Same.sqT eF r2) (.cons (.int _) (.cons (.bl _) .nil))
        have s2 := si.fg is
        unfold loopL at gi
        cases eg : g ds[k] (fgE is δi) with
        | none => rw [eg] at gi; exact False.elim gi
        | some δ1 =>
          rw [eg] at gi
          dsimp only at gi
          refine q1 C' Fi _ σi _ _ ds[k] _ s2 rv ⟨δ1, eg, fun ps _ s3 => ?_⟩
          refine q2 C' Fi δ1 _ _ _ s3 ?_
          cases ef : fb δ1 with
          | nx δ2 => rw [ef] at gi; exact fun F' σ' H' e s4 => ⟨F', δ2, s4, gi.mono e⟩
          | ct δ2 => rw [ef] at gi; exact fun F' σ' H' e s4 => ⟨F', δ2, s4, gi.mono e⟩
          | bk δ2 =>
            rw [ef] at gi
            intro F' σ' H' e s4
            obtain ⟨kvs', hp, hb, gi⟩ := bkN_ok (gi.mono e)
            obtain ⟨_, _, b2⟩ := back _ _ _ _ (s4.fg is)
            exact gi F' σ' H' (Same.refl _) (b2 kvs' hp hb)
          | rt d => rw [ef] at gi; exact False.elim gi
          | rf ds => rw [ef] at gi; exact False.elim gi
          | rn i δ => rw [ef] at gi; exact False.elim gi
          | rb d δ => rw [ef] at gi; exact False.elim gi
          | exc c δ => rw [ef] at gi; exact False.elim gi
          | err => rw [ef] at gi; exact False.elim gi
      · left
        have e : k = ds.length := by omega
        subst e
        rw [List.drop_length] at gi
        refine ⟨⟨hA, by omega⟩, ?_⟩
        obtain ⟨kvs', hp, hb, gi⟩ := bkN_ok gi
        obtain ⟨_, _, b2⟩ := back _ _ _ _ (si.fg is)
        exact gi Fi σi Hi (Same.refl _) (b2 kvs' hp hb)
end
end DL
/-! DV3: calls that are handed dicts: to be read, to be changed. -/
namespace DL
open PySem PySem.Spec PyProof.Rows L2
variable [TabP]
/-- how an argument is handed: data, a dict to be read, a dict to be changed -/
inductive AK where
  | d | b | m
deriving DecidableEq
def argD : Option Sl → Option Sl
  | some (.val d) => some (.val d)
  | _ => none
def argB : Option Sl → Option Sl
  | some o => (nSl o).map (.bor true)
  | none => none
def argM : Option Sl → Option Sl
  | some (.ownN _ kvs) => some (.ownN true kvs)
  | _ => none
def argS : AK → Option Sl → Option Sl
  | .d => argD
  | .b => argB
  | .m => argM
theorem argD_eq {o : Option Sl} {s : Sl} (h : argS .d o = some s) : ∃ d, o = some (.val d) ∧ s = .val d := by
  have h : argD o = some s := h
  unfold argD at h
  split at h
  · cases h; exact ⟨_, rfl, rfl⟩
  · cases h
theorem argB_eq {o : Option Sl} {s : Sl} (h : argS .b o = some s) : ∃ o' kvs, o = some o' ∧ nSl o' = some kvs ∧ s = .bor true kvs := by
  cases o with
  | none => cases h
  | some o' =>
    have h : (nSl o').map (Sl.bor true) = some s := h
    cases hk : nSl o' with
    | none => rw [hk] at h; cases h
    | some kvs => rw [hk] at h; cases h; exact ⟨o', kvs, rfl, hk, rfl⟩
theorem argM_eq {o : Option Sl} {s : Sl} (h : argS .m o = some s) : ∃ p kvs, o = some (.ownN p kvs) ∧ s = .ownN true kvs := by
  have h : argM o = some s := h
  unfold argM at h
  split at h
  · cases h; exact ⟨_, _, rfl, rfl⟩
  · cases h
def argsE : List (Nat × AK) → Env → Option Env
  | [], _ => some []
  | a :: as, δ => match argS a.2 δ[a.1]?, argsE as δ with
    | some s, some δc => some (s :: δc)
    | _, _ => none
theorem argsE_at : ∀ {as : List (Nat × AK)} {δ δc : Env}, argsE as δ = some δc → δc.length = as.length ∧ ∀ (k : Nat) (s : Sl), δc[k]? = some s → ∃ i kd, as[k]? = some (i, kd) ∧ argS kd δ[i]? = some s
  | [], δ, δc, h => by cases h; exact ⟨rfl, fun k s e => by cases e⟩
  | a :: as, δ, δc, h => by
    unfold argsE at h
    cases h1 : argS a.2 δ[a.1]? with
    | none => rw [h1] at h; cases h
    | some s =>
      cases h2 : argsE as δ with
      | none => rw [h1, h2] at h; cases h
      | some δ' =>
        rw [h1, h2] at h
        cases h
        obtain ⟨l, r⟩ := argsE_at h2
        refine ⟨by simp [l], fun k s' e => ?_⟩
        cases k with
        | zero => cases e; exact ⟨a.1, a.2, rfl, h1⟩
        | succ k => exact r k s' (by simpa using e)
/-- names as arguments -/
def VsAt (as : List (Nat × AK)) (σ : L2.St) (vs : List V) : Prop := vs.length = as.length ∧ ∀ (k : Nat) (i : Nat) (kd : AK), as[k]? = some (i, kd) → ∃ v, vs[k]? = some v ∧ (σ[i]?).join = some v
section
variable (X : Cx)
def PNm (as : List (Nat × AK)) (es : List Expr) : Prop := ∃ t, PA X es t ∧ ∀ (σ : L2.St) (H : Hp) (Q : List V → Hp → Prop) (vs : List V), VsAt as σ vs → Q vs H → t σ H Q
end
section
variable {X : Cx} {N : List Str} {sc : Scope} {fn : Str → Bool} {W : WS}
theorem PNm.nil : PNm X [] [] := ⟨_, pa_nil, fun σ H Q vs h q => by
  have : vs = [] := List.length_eq_zero_iff.mp h.1
  subst this; exact q⟩
theorem PNm.cons {as : List (Nat × AK)} {es : List Expr} {x : Str} {p : Pos} (c : Ctx X N sc fn) (i : Nat) (kd : AK) (h : PNm X as es) (hN : N[i]? = some x := by rfl) (hv : isVis sc x = true := by rfl) (hd : (x == ("__debug__" : Str)) = false := by decide) (hcd : (x == ("__classdict__" : Str)) = false := by decide)
    (hs : starEach (.Name x p :: es) X.env = (false, eval (.Name x p) X.env) :: starEach es X.env := by rfl) : PNm X ((i, kd) :: as) (.Name x p :: es) := by
  obtain ⟨t, pa, q⟩ := h
  refine ⟨_, pa_cons (pe_var (i := i) (by rw [c.hN]; exact hN) (c.vis hv) hd hcd) pa hs, fun σ H Q vs hvs qq => ?_⟩
  cases vs with
  | nil => have := hvs.1; simp at this
  | cons v vs =>
    obtain ⟨v', e1, e2⟩ := hvs.2 0 i kd rfl
    cases e1
    refine ⟨v, join_some e2, q σ H _ vs ⟨by have := hvs.1; simpa using this, fun k j kd' e => ?_⟩ qq⟩
    exact hvs.2 (k + 1) j kd' (by simpa using e)
end
def pinsOf (vs : List V) : Nat → V := fun k => (vs[k]?).getD .non
/-- no dict is to be changed -/
def noM (as : List (Nat × AK)) : Bool := as.all fun a => decide (a.2 ≠ .m)
/-- the one at mi alone, out of slot j0 -/
def oneM (as : List (Nat × AK)) (mi j0 : Nat) : Bool := decide (as[mi]? = some (j0, .m)) && (List.range as.length).all fun k => decide (k = mi) || (match as[k]? with | some (i, kd) => decide (kd ≠ .m) && decide (i ≠ j0) | none => true)
section
variable {K : PySem.W.Frag} {C : Ent} {F H : Hp} {δ δc : Env} {σ : L2.St} {as : List (Nat × AK)} {vs : List V}
theorem arg_val {k i : Nat} {G : Addr → Option Nat} (g : SatG K C F δ σ H G) {d : D} {v : V} (e : δ[i]? = some (.val d)) (hv : (σ[i]?).join = some v) : ((vs.map some)[k]?).join = some v → ∃ w, ((vs.map some)[k]?).join = some w ∧ Rp K F w d := fun hk => by
  obtain ⟨w, h1, h2⟩ := g.sl i _ e
  rw [hv] at h1
  cases h1
  exact ⟨v, hk, h2⟩
theorem vs_at {k : Nat} {v : V} (h : vs[k]? = some v) : ((vs.map some)[k]?).join = some v := by rw [List.getElem?_map, h]; rfl
theorem nSl_sl {G : Addr → Option Nat} (g : SatG K C F δ σ H G) {i : Nat} {o : Sl} {kvs : NKv} (e : δ[i]? = some o) (hk : nSl o = some kvs) : ∃ a od, (σ[i]?).join = some (.ref a) ∧ H a = some (dbo a od) ∧ NR K F a od kvs ∧ (G a = none ∨ G a = some i) := by
  cases o with
  | ownN p k => cases hk; obtain ⟨a, od, h1, h2, h3, h4, _⟩ := g.sl i _ e; exact ⟨a, od, h1, h3, h4, .inr h2⟩
  | bor p k => cases hk; obtain ⟨a, od, h1, h2, h3, h4, _⟩ := g.sl i _ e; exact ⟨a, od, h1, h3, h4, .inl h2⟩
  | _ => cases hk
theorem SatG.argsB {G : Addr → Option Nat} (g : SatG K C F δ σ H G) (ha : argsE as δ = some δc) (hv : VsAt as σ vs) (hm : noM as = true) : Sat K ⟨F, H, fun _ => False, pinsOf vs⟩ F δc (vs.map some) H := by
  obtain ⟨hl, at_⟩ := argsE_at ha
  refine ⟨fun _ => none, g.le, Same.refl _, fun b o e => .inl e, fun b o e => .inr (.of e), fun _ z => z.elim, fun _ _ z => (nomatch z), fun _ _ z => (nomatch z), fun _ _ z => (nomatch z), by rw [List.length_map, hv.1, hl], g.tf, fun k s e => ?_⟩
  obtain ⟨i, kd, e1, e2⟩ := at_ k s e
  obtain ⟨v, v1, v2⟩ := hv.2 k i kd e1
  cases kd with
  | m =>
    have := List.all_eq_true.mp hm _ (List.mem_of_getElem? e1)
    simp at this
  | d =>
    obtain ⟨d, ed, rfl⟩ := argD_eq e2
    exact arg_val g ed v2 (vs_at v1)
  | b =>
    obtain ⟨o, kvs, ho, hk, rfl⟩ := argB_eq e2
    obtain ⟨a, od, h1, h3, h4, _⟩ := nSl_sl g ho hk
    rw [h1] at v2
    cases v2
    exact ⟨a, od, vs_at v1, rfl, h3, h4, fun _ => by show (vs[k]?).getD .non = _; rw [v1]; rfl⟩
/-- slots that hold nothing yet -/
theorem Sat.pad {r : Nat} (s : Sat K C F δ (vs.map some) H) : Sat K C F (δ ++ List.replicate r .no) (vs.map some ++ List.replicate r none) H := by
  obtain ⟨G, g⟩ := s
  refine ⟨G, g.le, g.f0, g.nw, g.keep, g.alive, g.dis, g.live, g.mine, by rw [List.length_append, List.length_append, List.length_replicate, List.length_replicate, g.len], g.tf, fun k s e => ?_⟩
  by_cases hk : k < δ.length
  · rw [List.getElem?_append_left hk] at e
    rw [List.getElem?_append_left (by rw [g.len]; exact hk)]
    exact g.sl k s e
  · rw [List.getElem?_append_right (by omega), List.getElem?_replicate] at e
    split at e
    · cases e; trivial
    · cases e
end
def runFE (fb : Env → Fl) (m : Nat) (δ : Env) : Res (List D) := match fb (δ ++ List.replicate (m - δ.length) .no) with
  | .rf es => .ok es
  | _ => .err
/-- a def that reads dicts and hands back a new list -/
def spB (K : PySem.W.Frag) (n : Nat) (φ : Env → Res (List D)) : Sp := fun vs H Q _ => ∃ F δ, vs.length = n ∧ Sat K ⟨F, H, fun _ => False, pinsOf vs⟩ F δ (vs.map some) H ∧ match φ δ with
  | .ok es => ∀ F' H', Ext F H F' H' → ∀ a ws, H a = none → F' a = none → H' a = some (.lst ws) → RpA K F' ws es → Q (.ref a) H'
  | _ => False
theorem Sat.extP {K : PySem.W.Frag} {F0 H0 F H : Hp} {δ : Env} {σ : L2.St} {pins : Nat → V} (s : Sat K ⟨F0, H0, fun _ => False, pins⟩ F δ σ H) : Ext F0 H0 F H := by
  obtain ⟨G, g⟩ := s
  refine ⟨g.f0, fun a o e => ?_, g.le, fun a o e => ?_, fun _ => g.tf.1, fun _ => g.tf.2⟩
  · rcases g.nw a o e with z | z | z
    · exact .inl z
    · exact .inr z
    · exact z.elim
  · rcases g.keep a o e with z | z
    · exact z.elim
    · exact z
section
variable {P : Program} {w : World} {K : PySem.W.Frag} {mg : Str → Option Value} {base : Heap} {x qual : Str} {st : Stmt} {f : Addr} {fd : FuncData} {N ps : List Str} {k : Nat} {fb : Env → Fl}
theorem ok_defB (Fn : Fun K x qual st f fd) (S : FnScope N ps (defScope st)) (n : Nat) (hn : n = ps.length) (m : Nat) (hm : N.length = m)
    (hb : ∀ X : Cx, X.prog = P → X.w = w → X.K = K → X.mg = mg → X.base = base → Room k X.A → X.env.scope.kind = .function → Ctx X N (defScope st) (fun _ => true) → PSsp X W0 (defBody st) fb) :
    FnOk P w K mg base CX0 (k + 1) f fd ps (spB K n (runFE fb m)) := by
  refine Fn.ok S (fun vs H Q E ⟨F, δ, h1, _⟩ => by rw [h1, hn]) fun cdv A outer s H vs Q E hr h => ?_
  obtain ⟨t, p, q⟩ := hb (cxOf CX0 P w K mg base N qual (defScope st) f cdv A outer s H E).nox rfl rfl rfl rfl rfl hr S.kind (ctx_nox S hr)
  refine ⟨t, p, ?_⟩
  obtain ⟨F, δ, h1, h2, h4⟩ := h
  have hl : δ.length = vs.length := by obtain ⟨G, g⟩ := h2; rw [← g.len, List.length_map]
  have s0 := h2.pad (r := m - δ.length)
  refine q ⟨F, H, fun _ => False, pinsOf vs⟩ F (δ ++ List.replicate (m - δ.length) .no) _ H _ (by unfold L2.start; rw [hm, ← hl]; exact s0) ?_
  unfold runFE at h4
  cases r : fb (δ ++ List.replicate (m - δ.length) .no) with
  | rf es =>
    rw [r] at h4
    intro F' δ' σ' H' a ws e s h5 h6 h7 h8
    exact h4 F' H' s.extP a ws (h5.elim id False.elim) h6 h7 h8
  | _ => rw [r] at h4; exact h4.elim
theorem Kn.defB (T : Top K mg x st) (S : FnScope N ps (defScope st)) (n : Nat) (hn : n = ps.length) (m : Nat) (hm : N.length = m) (hbd : BindT x st ps) (hb : BodyT P w K mg base k N st fb) : Kn P w K mg base CX0 x (k + 1) (spB K n (runFE fb m)) := by
  obtain ⟨f, fd, F, e⟩ := T.ex
  exact ⟨f, fd, ps, ok_defB F S n hn m hm hb, e, F.kp, F.binds hbd⟩
end
section
variable {X : Cx} {N : List Str} {sc : Scope} {fn : Str → Bool} {W : WS} {e : Expr} {es : List Expr} {x : Str} {p pos : Pos} {n : Nat}
def callB (φ : Env → Res (List D)) (as : List (Nat × AK)) : Env → Res (List D) := fun δ => match argsE as δ with
  | some δc => noX (φ δc)
  | none => .err
theorem vsAt_of {K : PySem.W.Frag} {C : Ent} {F H : Hp} {δ : Env} {σ : L2.St} (s : Sat K C F δ σ H) : ∀ {as : List (Nat × AK)} {δc : Env}, argsE as δ = some δc → ∃ vs, VsAt as σ vs
  | [], _, _ => ⟨[], rfl, fun k i kd e => by cases e⟩
  | a :: as, δc, h => by
    unfold argsE at h
    cases h1 : argS a.2 δ[a.1]? with
    | none => rw [h1] at h; cases h
    | some sl =>
      cases h2 : argsE as δ with
      | none => rw [h1, h2] at h; cases h
      | some δ' =>
        obtain ⟨vs, hv⟩ := vsAt_of s h2
        have : ∃ v, (σ[a.1]?).join = some v := by
          obtain ⟨i, kd⟩ := a
          obtain ⟨G, g⟩ := s
          cases kd with
          | d =>
            obtain ⟨d, ed, _⟩ := argD_eq h1
            obtain ⟨v, e, _⟩ := g.sl i _ ed
            exact ⟨v, e⟩
          | b =>
            obtain ⟨o, kvs, ho, hk, _⟩ := argB_eq h1
            obtain ⟨b, od, e, _⟩ := nSl_sl g ho hk
            exact ⟨_, e⟩
          | m =>
            obtain ⟨pp, kvs, ho, _⟩ := argM_eq h1
            obtain ⟨b, od, e, _⟩ := nSl_sl g ho (kvs := kvs) rfl
            exact ⟨_, e⟩
        obtain ⟨v, hv0⟩ := this
        refine ⟨v :: vs, by simp [hv.1], fun k i kd e => ?_⟩
        cases k with
        | zero => cases e; exact ⟨v, rfl, hv0⟩
        | succ k => exact hv.2 k i kd (by simpa using e)
theorem PFp.callB {φ : Env → Res (List D)} {as : List (Nat × AK)} (c : Ctx X N sc fn) (h : Cal X.prog X.w X.K X.mg X.base X.A CX0 x (spB X.K n φ)) (ha : PNm X as (e :: es)) (hn : as.length = n := by rfl) (hm : noM as = true := by decide) (hg : isGl sc x = true := by rfl) (hdb : (x == ("__debug__" : Str)) = false := by decide)
    (he : starEach (e :: es) X.env = (false, eval e X.env) :: starEach es X.env := by rfl) (hpl : (backTo pos (starEach es X.env)).any (·.1) = false := by rfl) : PFp X W (.Call (.Name x p) (e :: es) [] pos) (DL.callB φ as) := by
  obtain ⟨f, fd, ps, k, F, r, m, kp, b⟩ := h.ex
  obtain ⟨t, pa, qa⟩ := ha
  refine ⟨_, pe_call F r (c.gl hg) m kp b .nil pass0 pa hdb he hpl, fun C F δ σ H Q s h => ?_⟩
  unfold DL.callB at h
  cases hδ : argsE as δ with
  | none => rw [hδ] at h; exact False.elim h
  | some δc =>
    rw [hδ] at h
    dsimp only at h
    obtain ⟨vs, hv⟩ := vsAt_of s hδ
    refine qa σ H _ vs hv ?_
    obtain ⟨G, g⟩ := s
    refine ⟨F, δc, by rw [List.append_nil, hv.1, hn], by rw [List.append_nil]; exact g.argsB hδ hv hm, ?_⟩
    cases q : φ δc with
    | ok es => rw [q] at h; exact fun F' H' x2 a ws e1 e2 e3 e4 => h F' H' x2 a ws e1 e2 e3 e4
    | exc c => rw [q] at h; exact False.elim h
    | err => rw [q] at h; exact False.elim h
end
end DL
/-! DV4: a def that changes a dict it is handed, and hands back a new dict. -/
namespace DL
open PySem PySem.Spec PyProof.Rows L2
variable [TabP]
theorem oneM_at {as : List (Nat × AK)} {mi j0 : Nat} (h : oneM as mi j0 = true) : as[mi]? = some (j0, .m) ∧ ∀ (k i : Nat) (kd : AK), as[k]? = some (i, kd) → k ≠ mi → kd ≠ .m ∧ i ≠ j0 := by
  unfold oneM at h
  rw [Bool.and_eq_true, decide_eq_true_iff, List.all_eq_true] at h
  refine ⟨h.1, fun k i kd e hk => ?_⟩
  have := h.2 k (List.mem_range.mpr (List.getElem?_eq_some_iff.mp e).1)
  rw [e] at this
  simp [hk] at this
  exact this
section
variable {K : PySem.W.Frag} {C : Ent} {F H : Hp} {δ δc : Env} {σ : L2.St} {as : List (Nat × AK)} {vs : List V}
theorem SatG.argsM {G : Addr → Option Nat} (g : SatG K C F δ σ H G) (ha : argsE as δ = some δc) (hv : VsAt as σ vs) {mi j0 : Nat} (hm : oneM as mi j0 = true) {a0 : Addr} (h0 : (σ[j0]?).join = some (.ref a0)) (hG : G a0 = some j0) : vs[mi]? = some (.ref a0) ∧ Sat K ⟨F, H, fun b => b = a0, pinsOf vs⟩ F δc (vs.map some) H := by
  obtain ⟨hl, at_⟩ := argsE_at ha
  obtain ⟨m1, m2⟩ := oneM_at hm
  have hv0 : vs[mi]? = some (.ref a0) := by
    obtain ⟨v, v1, v2⟩ := hv.2 mi j0 .m m1
    rw [h0] at v2
    cases v2; exact v1
  refine ⟨hv0, fun b => if b = a0 then some mi else none, g.le, Same.refl _, fun b o e => .inl e, fun b o e => .inr (.of e), fun b z => by rw [show b = a0 from z]; exact g.live a0 j0 hG, fun b i z => ?_, fun b i z => ?_, fun b i z => ?_, by rw [List.length_map, hv.1, hl], g.tf, fun k s e => ?_⟩
  · by_cases hb : b = a0
    · rw [hb]; exact g.dis a0 j0 hG
    · rw [if_neg hb] at z; cases z
  · by_cases hb : b = a0
    · rw [hb]; exact g.live a0 j0 hG
    · rw [if_neg hb] at z; cases z
  · by_cases hb : b = a0
    · exact .inr hb
    · rw [if_neg hb] at z; cases z
  obtain ⟨i, kd, e1, e2⟩ := at_ k s e
  obtain ⟨v, v1, v2⟩ := hv.2 k i kd e1
  by_cases hk : k = mi
  · subst hk
    rw [m1] at e1
    cases e1
    obtain ⟨p, kvs, ho, rfl⟩ := argM_eq e2
    obtain ⟨a, od, h1, h2, h3, h4, _⟩ := g.sl _ _ ho
    rw [h0] at h1
    cases h1
    exact ⟨a0, od, vs_at hv0, if_pos rfl, h3, h4, fun _ => by show (vs[k]?).getD .non = _; rw [hv0]; rfl⟩
  obtain ⟨m3, m4⟩ := m2 k i kd e1 hk
  cases kd with
  | m => exact absurd rfl m3
  | d =>
    obtain ⟨d, ed, rfl⟩ := argD_eq e2
    exact arg_val g ed v2 (vs_at v1)
  | b =>
    obtain ⟨o, kvs, ho, hko, rfl⟩ := argB_eq e2
    obtain ⟨a, od, h1, h3, h4, h5⟩ := nSl_sl g ho hko
    rw [h1] at v2
    cases v2
    have hne : a ≠ a0 := fun z => by
      rw [z, hG] at h5
      rcases h5 with h5 | h5
      · cases h5
      · cases h5; exact m4 rfl
    exact ⟨a, od, vs_at v1, if_neg hne, h3, h4, fun _ => by show (vs[k]?).getD .non = _; rw [v1]; rfl⟩
end
def endR (mi : Nat) : Fl → Res (NKv × NKv)
  | .rn i δ => if i = mi then .err else (match δ[i]? with
    | some (.ownN false r) => (match δ[mi]? with
      | some (.ownN true s) => .ok (r, s)
      | _ => .err)
    | _ => .err)
  | _ => .err
theorem endR_ok {mi : Nat} {r : Fl} {x : NKv × NKv} (h : endR mi r = .ok x) : ∃ i δ, r = .rn i δ ∧ i ≠ mi ∧ δ[i]? = some (.ownN false x.1) ∧ δ[mi]? = some (.ownN true x.2) := by
  unfold endR at h
  split at h
  · rename_i i δ
    split at h
    · cases h
    · rename_i hi
      split at h
      · rename_i r e1
        split at h
        · rename_i s e2
          cases h
          exact ⟨i, δ, rfl, hi, e1, e2⟩
        · cases h
      · cases h
  · cases h
def runRE (fb : Env → Fl) (m mi : Nat) (δ : Env) : Res (NKv × NKv) := endR mi (fb (δ ++ List.replicate (m - δ.length) .no))
def spR (K : PySem.W.Frag) (n mi : Nat) (φ : Env → Res (NKv × NKv)) : Sp := fun vs H Q _ => ∃ F δ a0 o0, vs.length = n ∧ vs[mi]? = some (.ref a0) ∧ H a0 = some o0 ∧ Sat K ⟨F, H, fun b => b = a0, pinsOf vs⟩ F δ (vs.map some) H ∧ match φ δ with
  | .ok (r, s) => ∀ F' H' a od od', F' a0 = none → Ext F H F' (upd H' a0 o0) → H a = none → F' a = none → H' a = some (dbo a od) → NR K F' a od r → H' a0 = some (dbo a0 od') → NR K F' a0 od' s → Q (.ref a) H'
  | _ => False
section
variable {P : Program} {w : World} {K : PySem.W.Frag} {mg : Str → Option Value} {base : Heap} {x qual : Str} {st : Stmt} {f : Addr} {fd : FuncData} {N ps : List Str} {k : Nat} {fb : Env → Fl}
theorem ok_defR (Fn : Fun K x qual st f fd) (S : FnScope N ps (defScope st)) (n mi : Nat) (hn : n = ps.length) (m : Nat) (hm : N.length = m)
    (hb : ∀ X : Cx, X.prog = P → X.w = w → X.K = K → X.mg = mg → X.base = base → Room k X.A → X.env.scope.kind = .function → Ctx X N (defScope st) (fun _ => true) → PSsp X W0 (defBody st) fb) :
    FnOk P w K mg base CX0 (k + 1) f fd ps (spR K n mi (runRE fb m mi)) := by
  refine Fn.ok S (fun vs H Q E ⟨F, δ, a0, o0, h1, _⟩ => by rw [h1, hn]) fun cdv A outer s H vs Q E hr h => ?_
  obtain ⟨t, p, q⟩ := hb (cxOf CX0 P w K mg base N qual (defScope st) f cdv A outer s H E).nox rfl rfl rfl rfl rfl hr S.kind (ctx_nox S hr)
  refine ⟨t, p, ?_⟩
  obtain ⟨F, δ, a0, o0, h1, hv0, ho0, h2, h4⟩ := h
  have hl : δ.length = vs.length := by obtain ⟨G, g⟩ := h2; rw [← g.len, List.length_map]
  have s0 := h2.pad (r := m - δ.length)
  refine q ⟨F, H, fun b => b = a0, pinsOf vs⟩ F (δ ++ List.replicate (m - δ.length) .no) _ H _ (by unfold L2.start; rw [hm, ← hl]; exact s0) ?_
  cases r : runRE fb m mi δ with
  | exc c => rw [r] at h4; exact h4.elim
  | err => rw [r] at h4; exact h4.elim
  | ok x =>
    rw [r] at h4
    obtain ⟨i, δ', e1, hi, e2, e3⟩ := endR_ok r
    rw [e1]
    intro F' σ' H' v e s hv
    obtain ⟨G', g'⟩ := s
    obtain ⟨a, od, k1, k2, k3, k4, _⟩ := g'.sl i _ e2
    obtain ⟨a1, od1, l1, l2, l3, l4, l5⟩ := g'.sl mi _ e3
    have l6 : pinsOf vs mi = .ref a1 := l5 rfl
    unfold pinsOf at l6
    rw [hv0] at l6
    cases l6
    rw [hv] at k1
    cases k1
    have hne : a ≠ a0 := fun z => by rw [z, l2] at k2; cases k2; exact hi rfl
    have ha : H a = none := by
      rcases g'.mine a i k2 with z | z
      · exact z
      · exact absurd z hne
    have fa0 := g'.dis a0 mi l2
    refine h4 F' H' a od od1 fa0 ⟨g'.f0, fun b o e => ?_, fun b o e => ?_, fun b o e => ?_, fun _ => g'.tf.1.upd l3 l4.own1, fun _ => g'.tf.2⟩ ha (g'.dis a i k2) k3 k4 l3 l4
    · rcases g'.nw b o e with z | z | z
      · exact .inl z
      · exact .inr z
      · rw [show b = a0 from z, fa0] at e; cases e
    · rw [upd_ne (ne_of_none e fa0)]; exact g'.le b o e
    · by_cases hb : b = a0
      · rw [hb, upd_same]
        rw [hb, ho0] at e
        cases e; exact .of rfl
      · rw [upd_ne hb]
        rcases g'.keep b o e with z | z
        · exact absurd z hb
        · exact z
theorem Kn.defR (T : Top K mg x st) (S : FnScope N ps (defScope st)) (n mi : Nat) (hn : n = ps.length) (m : Nat) (hm : N.length = m) (hbd : BindT x st ps) (hb : BodyT P w K mg base k N st fb) : Kn P w K mg base CX0 x (k + 1) (spR K n mi (runRE fb m mi)) := by
  obtain ⟨f, fd, F, e⟩ := T.ex
  exact ⟨f, fd, ps, ok_defR F S n mi hn m hm hb, e, F.kp, F.binds hbd⟩
end
section
variable {X : Cx} {N : List Str} {sc : Scope} {fn : Str → Bool} {W : WS} {e : Expr} {es : List Expr} {x y : Str} {p pos pos' cpos : Pos} {n mi j0 : Nat}
/-- return x, x a dict of one's own -/
def retNS (i : Nat) : Env → Fl := fun δ => match δ[i]? with
  | some (.ownN _ _) => .rn i δ
  | _ => .err
theorem PSp.retN_ (c : Ctx X N sc fn) (i : Nat) (hN : N[i]? = some x := by rfl) (hv : isVis sc x = true := by rfl) (hd : (x == ("__debug__" : Str)) = false := by decide) (hcd : (x == ("__classdict__" : Str)) = false := by decide) : PSp X W (.Return (some (.Name x pos')) pos) (retNS i) := by
  refine ⟨_, ps_ret (pe_var (i := i) (by rw [c.hN]; exact hN) (c.vis hv) hd hcd), fun C F δ σ H E s g => ?_⟩
  unfold retNS at g
  split at g
  · rename_i pp kvs e
    obtain ⟨G, sg⟩ := s
    obtain ⟨a, od, h1, h2, h3, h4, _⟩ := sg.sl i _ e
    exact ⟨_, join_some h1, g F σ H _ (Same.refl _) ⟨G, sg⟩ h1⟩
  · exact False.elim g
def setRD (t j0 : Nat) (δ : Env) : Res (NKv × NKv) → Option Sl → Fl
  | .ok (r, s), some (.ownN p _) => .nx ((δ.set t (.ownN false r)).set j0 (.ownN p s))
  | _, _ => .err
/-- y = g(..), the dict at slot j0 is changed by it -/
def setR (t j0 : Nat) (φ : Env → Res (NKv × NKv)) (as : List (Nat × AK)) : Env → Fl := fun δ => match argsE as δ with
  | some δc => setRD t j0 δ (φ δc) δ[j0]?
  | none => .err
theorem PSp.setR {φ : Env → Res (NKv × NKv)} {as : List (Nat × AK)} (c : Ctx X N sc fn) (t j0 mi : Nat) (h : Cal X.prog X.w X.K X.mg X.base X.A CX0 x (spR X.K n mi φ)) (ha : PNm X as (e :: es)) (hn : as.length = n := by rfl) (hm : oneM as mi j0 = true := by decide) (htj : t ≠ j0 := by decide)
    (hN : N[t]? = some y := by rfl) (hy : stOk sc fn y = true := by rfl) (hg : isGl sc x = true := by rfl) (hdb : (x == ("__debug__" : Str)) = false := by decide)
    (he : starEach (e :: es) X.env = (false, eval e X.env) :: starEach es X.env := by rfl) (hpl : (backTo cpos (starEach es X.env)).any (·.1) = false := by rfl)
    (hs : swapsWith (.Call (.Name x p) (e :: es) [] cpos) (some (.Name y pos')) pos.line X.env = pure false := by rfl) : PSp X W (.Assign [.Name y pos'] (.Call (.Name x p) (e :: es) [] cpos) pos) (DL.setR t j0 φ as) := by
  obtain ⟨f, fd, ps, k, F, r, m, kp, b⟩ := h.ex
  obtain ⟨tt, pa, qa⟩ := ha
  obtain ⟨h1, h2⟩ := c.st hy
  refine ⟨_, ps_set (i := t) (by rw [c.hN]; exact c.nd) (by rw [c.hN]; exact hN) h1 (pe_call F r (c.gl hg) m kp b .nil pass0 pa hdb he hpl) hs h2, fun C F δ σ H E s g => ?_⟩
  unfold DL.setR at g
  cases hδ : argsE as δ with
  | none => rw [hδ] at g; exact False.elim g
  | some δc =>
    rw [hδ] at g
    dsimp only at g
    obtain ⟨vs, hv⟩ := vsAt_of s hδ
    cases hj : δ[j0]? with
    | none =>
      rw [hj] at g
      unfold setRD at g
      split at g
      · rename_i z; cases z
      · exact False.elim g
    | some o =>
      rw [hj] at g
      cases hr : φ δc with
      | exc c => rw [hr] at g; exact False.elim g
      | err => rw [hr] at g; exact False.elim g
      | ok z =>
        obtain ⟨r1, s1⟩ := z
        rw [hr] at g
        cases o with
        | ownN pp k0 =>
          have g : Gs X.K W C F E (.nx ((δ.set t (.ownN false r1)).set j0 (.ownN pp s1))) := g
          obtain ⟨G, sg⟩ := s
          obtain ⟨a0, od0, q1, q2, q3, q4, q5⟩ := sg.sl j0 _ hj
          obtain ⟨hv0, sc0⟩ := sg.argsM hδ hv hm q1 q2
          refine qa σ H _ vs hv ?_
          refine ⟨F, δc, a0, dbo a0 od0, by rw [List.append_nil, hv.1, hn], by rw [List.append_nil]; exact hv0, q3, by rw [List.append_nil]; exact sc0, ?_⟩
          rw [hr]
          intro F' H' a od od' f0 xx ha fa e1 n1 e2 n2
          have s : Sat X.K C F δ σ H := ⟨G, sg⟩
          have hne : a ≠ a0 := fun z => by rw [z, q3] at ha; cases ha
          have s2 := s.set_new (i := t) (q := .ownN false r1) ha xx fa (by rw [upd_ne hne]; exact e1) fun G gG => ⟨a, od, rfl, gG, by rw [upd_ne hne]; exact e1, n1, fun z => nomatch z⟩
          obtain ⟨G2, g2⟩ := s2
          have hj2 : (δ.set t (.ownN false r1))[j0]? = some (.ownN pp k0) := by rw [List.getElem?_set_ne htj]; exact hj
          obtain ⟨a2, od2, w1, w2, w3, w4, w5⟩ := g2.sl j0 _ hj2
          have w1' : (σ[j0]?).join = some (.ref a2) := by rw [List.getElem?_set_ne htj] at w1; exact w1
          rw [q1] at w1'
          cases w1'
          have g3 := g2.putG (o := dbo a0 od') (q := .ownN pp s1) w3 w4.own1 w2 (by
            rw [w1]; exact ⟨a0, od', rfl, w2, upd_same, n2, q5⟩)
          have eH : upd (upd H' a0 (dbo a0 od0)) a0 (dbo a0 od') = H' := by
            rw [upd_upd]
            funext b
            by_cases hb : b = a0
            · rw [hb, upd_same, e2]
            · rw [upd_ne hb]
          rw [eH] at g3
          exact g F' _ H' xx.ff ⟨G2, g3⟩
        | _ => exact False.elim g
end
end DL
/-! DV5: min of two data; sorted whole numbers. -/
namespace PySem.W
open PySem Sem PyProof.Rows
section
variable {prog : Program} {w : World} {A : Around} {E : Value → Shared → Prop} {s : Shared}
theorem call_min_two_H {a b : Value} {Q : Value → Shared → Prop}
    (h : wpAny (model prog w) A.in1 (pyIter (.ref s.heap.objs.size)) (fun it s₂ => ∃ I fp wr G n P St H bt, it = .ref I ∧ WalksS prog w A.in1 I fp wr G n P St ∧ St 0 s₂ ∧ (∀ b ∈ fp, b < s₂.heap.objs.size) ∧ 0 < n ∧
      (∀ b o, H.get? b = some o → b ∉ wr) ∧ (∀ b o, H.get? b = some o → s₂.heap.get? b = some o) ∧ CmpIn prog w A.in1 .Lt H P bt ∧ ∀ v s', P (argBest bt (n - 1)) v → Moved wr G s₂ s' → Q v s') E
      { s with heap := s.heap.push { cls := .type "tuple", data := .seq #[a, b] } }) :
    wpAny (model prog w) A (call (.builtin "min") [a, b]) Q E s := by
  have hname : (toString "min" ++ toString ".loop" : String) = "min.loop" := by decide
  refine call_function_tree F.kind_min F.plain_min F.entry_min (F.args_min2 _ _) ?_
  show wpAny _ A.in1 (Builtin.Builtins.bindParams "min" ["key", "default"] 0 ⟨[], []⟩ >>= _) _ _ s
  refine wpAny_bind (wpAny_of_eq (show Builtin.Builtins.bindParams "min" ["key", "default"] 0 ⟨[], []⟩ = pure [none, none] from rfl) ?_)
  show wpAny _ A.in1 (newTuple [a, b] >>= _) _ _ s
  refine wpAny_bind (wpAny_newObj_type ?_)
  refine wpAny_bind (wpAny_mono h (fun it s₂ h₂ => ?_) fun _ _ e => e)
  obtain ⟨I, fp, wr, G, n, P, St, H, bt, rfl, W, hst, hfp, hn, hw, hkeep, hcmp, hQ⟩ := h₂
  refine wpAny_bind (wpAny_newObj_type ?_)
  have hSf : s₂.heap.objs.size ∉ fp := fun hm => Nat.lt_irrefl _ (hfp _ hm)
  rw [hname]
  refine wpAny_pure ⟨plainId_quiet F.plain_min_loop _, codeAny_min_loop_firstH W H hw bt hcmp s₂.heap.objs.size hSf (fresh_in hkeep) _ hn (fun b o e => Heap.get?_push_of_some _ (hkeep b o e)) (W.frame 0 s₂ _ s₂.toks hst (Nat.le_refl _) fun b _ o e => Heap.get?_push_of_some _ e) (Heap.get?_push_size _ rfl) fun v s' hP hm => ?_⟩
  exact hQ v s' hP (Moved.drop_new (tk := s₂.toks) hm (Nat.le_refl _))
theorem min_two_data {a b : Value} {x y : PyData} {as : List Addr} {Q : Value → Shared → Prop} (hh : A.handled = none) (hr : ReadsAll s.heap [a, b] [x, y] as) (ha : AlikeAll [x, y]) (hu : A.units + 1 + PyData.depthAll [x, y] < cLine)
    (h : ∀ (i : Nat) v h' tk bs, [a, b][i]? = some v → Reads h' v (minD x [y]) bs → (∀ c o, s.heap.get? c = some o → h'.get? c = some o) → Q v { s with heap := h', toks := tk }) :
    wpAny (model prog w) A (call (.builtin "min") [a, b]) Q E s := by
  have hT : (s.heap.push { cls := .type "tuple", data := .seq #[a, b] }).IsTuple s.heap.objs.size #[a, b] := ⟨_, Heap.get?_push_size _ rfl, rfl, 0, rfl⟩
  have hp : ∀ c o, s.heap.get? c = some o → (s.heap.push { cls := .type "tuple", data := .seq #[a, b] }).get? c = some o := fun c o e => Heap.get?_push_of_some _ e
  have hr2 : ReadsAll (s.heap.push { cls := .type "tuple", data := .seq #[a, b] }) #[a, b].toList [x, y] as := ReadsAll.keeps hp hr
  refine call_min_two_H (iter_tupleW (A := A.in1) hh hT fun s₂ e W st hfp hw hk => ?_)
  refine ⟨_, _, _, _, _, _, _, (s.heap.push { cls := .type "tuple", data := .seq #[a, b] }), _, rfl, W, st, hfp, (show 0 < 2 by decide), hw, hk, cmpIn_lt (s := { s with heap := s.heap.push { cls := .type "tuple", data := .seq #[a, b] } }) (A := A.in1) hr2 ha (by show A.units + 1 + _ < _; exact hu), fun v s' hP m => ?_⟩
  obtain ⟨h', tk, rfl, hk'⟩ := moved_old e rfl m
  obtain ⟨bs, r, _, _, _⟩ := readsAll_atA hr2 _ v hP
  have e2 := (argBest_fold dataLt PyData.none x [y] 1 (Nat.le_refl _)).2
  rw [List.take_of_length_le (show [y].length ≤ 1 from Nat.le_refl _)] at e2
  have e1 : (#[a, b] : Array Value).size - 1 = 1 := rfl
  rw [e1] at r
  exact h _ v h' tk bs (by rw [← Array.getElem?_toList] at hP; exact hP) (reads_keeps hk' (by unfold minD; rw [← e2]; exact r)) fun c o ec => hk' c o (hp c o ec)
end
end PySem.W
namespace DL
open PySem PySem.Spec PyProof.Rows L2
variable [TabP]
section
variable {X : Cx} {N : List Str} {sc : Scope} {fn : Str → Bool} {W : WS} {a b : Expr} {fa fb : Env → Res D} {pos : Pos}
/-- one of the two, by its data -/
def rMin2 (K : PySem.W.Frag) : List V → Hp → VK → Prop := fun vs H Q => ∃ v u x y, vs = [v, u] ∧ DpAll K H [v, u] [x, y] ∧ ordOk [x, y] = true ∧ (x = PySem.W.minD x [y] → Q v H) ∧ (y = PySem.W.minD x [y] → Q u H)
theorem cr_min2D (hc : X.calm = true) (hu : X.A.units + 65 < cLine) : CallR X (.builtin "min") (rMin2 X.K) := by
  intro pins s σ H vs us Q I r h
  obtain ⟨v, u, x, y, rfl, hd, ho, q1, q2⟩ := h
  obtain ⟨h1, h2, h3⟩ := ordOk_of ho
  obtain ⟨v', u', rfl, r1, r2⟩ := vals2 r
  obtain ⟨as, hr⟩ := Dp.readsAll I _ _ _ hd r
  refine PySem.W.min_two_data (I.ok.hd hc) hr h3 (by omega) fun i w h' tk bs hv rr hk => ?_
  have l1 : x.canLay0 = true := layAll_at (i := 0) h1 rfl
  have l2 : y.canLay0 = true := layAll_at (i := 1) h1 rfl
  have keyx : ∀ cs, Reads s.heap v' x cs → Reads h' v' (PySem.W.minD x [y]) bs → x = PySem.W.minD x [y] := fun cs rc rr => PySem.SeqAt.Reads.unique _ _ _ _ _ l1 (PySem.W.reads_keeps hk rc) rr
  have keyy : ∀ cs, Reads s.heap u' y cs → Reads h' u' (PySem.W.minD x [y]) bs → y = PySem.W.minD x [y] := fun cs rc rr => PySem.SeqAt.Reads.unique _ _ _ _ _ l2 (PySem.W.reads_keeps hk rc) rr
  cases hr with
  | cons ra t =>
    cases t with
    | cons rb t =>
      match i, hv with
      | 0, hv => cases hv; exact ⟨v, H, I.kept hk, r1, q1 (keyx _ ra rr)⟩
      | 1, hv => cases hv; exact ⟨u, H, I.kept hk, r2, q2 (keyy _ rb rr)⟩
def gMin2D (x y : D) : Res D := if ordOk [x, y] = true then .ok (PySem.W.minD x [y]) else .err
theorem PEp.min2D {p : Pos} (c : Ctx X N sc fn) (hm : X.mg "min" = none) (ha : PEp X W a fa) (hb : PEp X W b fb) (hg : isGl sc "min" = true := by rfl)
    (he : starEach [a, b] X.env = (false, eval a X.env) :: starEach [b] X.env := by rfl) (he2 : starEach [b] X.env = (false, eval b X.env) :: starEach [] X.env := by rfl) (hpl : (backTo pos (starEach [b] X.env)).any (·.1) = false := by rfl) :
    PEp X W (.Call (.Name "min" p) [a, b] [] pos) (bin fa fb gMin2D) := by
  obtain ⟨t, pa, qa⟩ := ha
  obtain ⟨u, pb, qb⟩ := hb
  refine ⟨_, pe_callB (cr_min2D c.calm c.u65) (c.gl hg) hm (by decide +kernel) (pa_cons pa (pa_cons pb pa_nil he2) he) (by decide) (by decide) he hpl, fun C F δ σ H Q s h => ?_⟩
  refine qa C F δ σ H _ s (h.bind.mono fun d F1 H1 x1 h1 v rv => ?_)
  refine qb C F1 δ σ H1 _ (s.ext x1) (h1.bind.mono fun e F2 H2 x2 h2 z rz => ?_)
  unfold gMin2D at h2
  split at h2
  · rename_i ho
    have rv2 := Rp.mono (x2.ff.trans x2.le) _ _ rv
    have rz2 := Rp.mono x2.le _ _ rz
    have hlay := (ordOk_of ho).1
    have g := h2.ok (Ext.refl x2.le)
    refine ⟨v, z, d, e, rfl, RpA.dp _ _ hlay (.cons rv2 (.cons rz2 .nil)), ho, fun q => ?_, fun q => ?_⟩
    · exact g v (by rw [← q]; exact Rp.mono x2.ff _ _ rv)
    · exact g z (by rw [← q]; exact rz)
  · exact False.elim h2
theorem ints_of {K : PySem.W.Frag} {F : Hp} : ∀ {is : List Int} {vs : List V}, RpA K F vs (is.map PyData.int) → vs = is.map V.int
  | [], _, h => by cases h; rfl
  | i :: is, _, h => by
    cases h with
    | cons r t => cases r; rw [ints_of t]; rfl
/-- sorted(xs), whole numbers -/
def sortL (is : List Int) : List Int := is.mergeSort fun a b => decide (a ≤ b)
theorem sorted_unique {l m : List Int} (p : l.Perm m) (hl : l.Pairwise (· ≤ ·)) (hm : m.Pairwise (· ≤ ·)) : l = m :=
  List.Perm.eq_of_pairwise (fun a b _ _ h1 h2 => Int.le_antisymm h1 h2) hl hm p
theorem sortL_sorted (is : List Int) : (sortL is).Pairwise (· ≤ ·) := by
  have := List.pairwise_mergeSort (le := fun a b : Int => decide (a ≤ b)) (by intro a b c; simp; omega) (by intro a b; simp; omega) is
  exact this.imp fun h => by simpa using h
theorem sortL_perm (is : List Int) : (sortL is).Perm is := List.mergeSort_perm _ _
def gSort : D → Res (List D)
  | .list ds => (ofO (intsOf ds)).bind fun is => .ok ((sortL is).map .int)
  | _ => .err
def sortF (fa : Env → Res D) : Env → Res (List D) := un fa gSort
theorem PFp.sorted {p : Pos} (c : Ctx X N sc fn) (hm : X.mg "sorted" = none) (ha : PRp X W a fa) (hg : isGl sc "sorted" = true := by rfl)
    (he : starEach [a] X.env = (false, eval a X.env) :: starEach [] X.env := by rfl) : PFp X W (.Call (.Name "sorted" p) [a] [] pos) (sortF fa) :=
  PFp.b1 c cr_sortedI (fun σ F0 H0 F H v d Q x r h => by
    cases d with
    | list ds =>
      have g : Gd W σ F0 H0 ((ofO (intsOf ds)).bind fun is => .ok ((sortL is).map PyData.int)) (fun ds F' H' => ∀ a vs, H0 a = none → F' a = none → H' a = some (.lst vs) → RpA X.K F' vs ds → Q (.ref a) H') := h
      cases hi : intsOf ds with
      | none => rw [hi] at g; exact False.elim g
      | some is =>
        rw [hi] at g
        obtain ⟨l, vs, rfl, hs, ra⟩ := r
        have e := intsOf_map hi
        subst e
        have hv : vs = is.map V.int := ints_of ra
        subst hv
        refine ⟨l, is, rfl, SqL.of hs, fun ns' q hp hsrt hq => ?_⟩
        have e2 : ns' = sortL is := sorted_unique (hp.trans (sortL_perm is).symm) hsrt (sortL_sorted is)
        subst e2
        exact (show Gd W σ F0 H0 (.ok ((sortL is).map PyData.int)) _ from g).ok (x.newH hq _) q _ (x.hh.free hq) (x.le.free hq) upd_same (RpA.ints _)
    | _ => exact False.elim h) hm ha hg (by decide +kernel) (by decide) (by decide) he
end
end DL
/-! DV6: dict slots are reckoned by simp. -/
namespace DL
open PySem PySem.Spec PyProof.Rows L2
variable [TabP]
/-- how long the list at slot i is -/
def slL (i : Nat) (δ : Env) : Nat := match δ[i]? with
  | some (.val (.list l)) => l.length
  | _ => 0
section
variable (δ : Env) (i j t : Nat) (fe fx fk f : Env → Res D)
@[simp] theorem nOf_own (p : Bool) (k : NKv) : nOf (some (.ownN p k)) = some k := rfl
@[simp] theorem nOf_bor (p : Bool) (k : NKv) : nOf (some (.bor p k)) = some k := rfl
@[simp] theorem onN_some {β : Type} (k : NKv) (g : NKv → Res β) : onN (some k) g = g k := rfl
@[simp] theorem gPair_ev (p : Int) (b : Bool) : gPair (.tuple [.int p, .bool b]) = some (p, b) := rfl
@[simp] theorem gPair_keyD (kv : (Int × Bool) × D) : gPair (keyD kv) = some kv.1 := rfl
@[simp] theorem rdN_ev (k : NKv) (p : Int) (b : Bool) : rdN (some k) (.tuple [.int p, .bool b]) = .ok (lookN k (p, b)) := rfl
@[simp] theorem rdN_keyD (k : NKv) (kv : (Int × Bool) × D) : rdN (some k) (keyD kv) = .ok (lookN k kv.1) := rfl
@[simp] theorem ninN_ev : ninN i fe δ = (fe δ).bind fun d => (rdN (nOf δ[i]?) d).bind fun o => .ok (!o.isSome) := rfl
@[simp] theorem ixN_ev : ixN i fe δ = onN (nOf δ[i]?) fun kvs => (fe δ).bind fun d => (rdN (some kvs) d).bind ofO := rfl
@[simp] theorem getN_ev : getN i fe fx δ = onN (nOf δ[i]?) fun kvs => (fe δ).bind fun d => (fx δ).bind fun z => (rdN (some kvs) d).bind fun o => .ok (o.getD z) := rfl
@[simp] theorem lenN_ev : lenN i δ = onN (nOf δ[i]?) fun kvs => .ok (.int kvs.length) := rfl
@[simp] theorem newN_ev : newN i δ = .nx (δ.set i (.ownN false [])) := rfl
def gPairR (d : D) : Res (Int × Bool) := match gPair d with
  | some k => .ok k
  | none => .err
@[simp] theorem gPairR_ev (p : Int) (b : Bool) : gPairR (.tuple [.int p, .bool b]) = .ok (p, b) := rfl
@[simp] theorem gPairR_keyD (kv : (Int × Bool) × D) : gPairR (keyD kv) = .ok kv.1 := rfl
@[simp] theorem newN1_ev : newN1 i fk fx δ = onR ((fk δ).bind fun d => (fx δ).bind fun v => (gPairR d).bind fun k => .ok (k, v)) δ fun p => .nx (δ.set i (.ownN false [p])) := by
  unfold newN1
  congr 1
  congr 1
  funext d
  congr 1
  funext v
  unfold gPairR
  cases gPair d <;> rfl
def setNO (i : Nat) (fk f : Env → Res D) (δ : Env) : Option Sl → Fl
  | some (.ownN p kvs) => onR ((f δ).bind fun d => (fk δ).bind fun k => (gPairR k).bind fun k => .ok (d, k)) δ fun z => if kvs.length < 16777216 then .nx (δ.set i (.ownN p (putN kvs z.2 z.1))) else .err
  | _ => .err
@[simp] theorem setN_ev : setN i fk f δ = setNO i fk f δ δ[i]? := by
  unfold setN
  cases δ[i]? with
  | none => rfl
  | some s =>
    cases s with
    | ownN p kvs =>
      show onR _ δ _ = onR _ δ _
      congr 1
      congr 1
      funext d
      congr 1
      funext k
      unfold gPairR
      cases gPair k <;> rfl
    | _ => rfl
@[simp] theorem setNO_own (p : Bool) (kvs : NKv) : setNO i fk f δ (some (.ownN p kvs)) = onR ((f δ).bind fun d => (fk δ).bind fun k => (gPairR k).bind fun k => .ok (d, k)) δ fun z => if kvs.length < 16777216 then .nx (δ.set i (.ownN p (putN kvs z.2 z.1))) else .err := rfl
def retNO (i : Nat) (δ : Env) : Option Sl → Fl
  | some (.ownN _ _) => .rn i δ
  | _ => .err
@[simp] theorem retNS_ev : retNS i δ = retNO i δ δ[i]? := by
  unfold retNS
  cases δ[i]? with
  | none => rfl
  | some s => cases s <;> rfl
@[simp] theorem retNO_own (p : Bool) (kvs : NKv) : retNO i δ (some (.ownN p kvs)) = .rn i δ := rfl
@[simp] theorem thn_rn (g : Env → Fl) : thn (.rn i δ) g = .rn i δ := rfl
@[simp] theorem thn_rb (d : D) (g : Env → Fl) : thn (.rb d δ) g = .rb d δ := rfl
@[simp] theorem forN_ev (is : List Nat) (g : D → Env → Option Env) (fb : Env → Fl) : forN is i g fb δ = forND is i g fb δ δ[i]? := rfl
@[simp] theorem forND_own (is : List Nat) (g : D → Env → Option Env) (fb : Env → Fl) (p : Bool) (kvs : NKv) : forND is i g fb δ (some (.ownN p kvs)) = backN i (.ownN p kvs) (δ.set i (.bor true kvs)) (loopL is g fb (kvs.map keyD) (δ.set i (.bor true kvs))) := rfl
@[simp] theorem forND_bor (is : List Nat) (g : D → Env → Option Env) (fb : Env → Fl) (p : Bool) (kvs : NKv) : forND is i g fb δ (some (.bor p kvs)) = backN i (.bor p kvs) (δ.set i (.bor true kvs)) (loopL is g fb (kvs.map keyD) (δ.set i (.bor true kvs))) := rfl
@[simp] theorem backN_nx (o : Sl) (δ0 : Env) : backN i o δ0 (.nx δ) = bkN i o δ0 δ δ[i]? := rfl
@[simp] theorem bkN_bor (o : Sl) (δ0 : Env) (kvs : NKv) : bkN i o δ0 δ (some (.bor true kvs)) = if borOk δ0 δ = true then .nx (δ.set i o) else .err := rfl
@[simp] theorem argsE_nil : argsE [] δ = some [] := rfl
def consO : Option Sl → Option Env → Option Env
  | some s, some δ => some (s :: δ)
  | _, _ => none
@[simp] theorem consO_ev (s : Sl) : consO (some s) (some δ) = some (s :: δ) := rfl
@[simp] theorem argsE_cons (a : Nat × AK) (as : List (Nat × AK)) : argsE (a :: as) δ = consO (argS a.2 δ[a.1]?) (argsE as δ) := by
  show (match argS a.2 δ[a.1]?, argsE as δ with | some s, some δc => some (s :: δc) | _, _ => none) = _
  unfold consO
  rfl
@[simp] theorem argS_d (d : D) : argS .d (some (.val d)) = some (.val d) := rfl
@[simp] theorem argS_bo (p : Bool) (k : NKv) : argS .b (some (.ownN p k)) = some (.bor true k) := rfl
@[simp] theorem argS_bb (p : Bool) (k : NKv) : argS .b (some (.bor p k)) = some (.bor true k) := rfl
@[simp] theorem argS_m (p : Bool) (k : NKv) : argS .m (some (.ownN p k)) = some (.ownN true k) := rfl
def callBO (φ : Env → Res (List D)) : Option Env → Res (List D)
  | some δc => noX (φ δc)
  | none => .err
@[simp] theorem callB_ev (φ : Env → Res (List D)) (as : List (Nat × AK)) : callB φ as δ = callBO φ (argsE as δ) := rfl
@[simp] theorem callBO_ev (φ : Env → Res (List D)) : callBO φ (some δ) = noX (φ δ) := rfl
def setRO (t j0 : Nat) (φ : Env → Res (NKv × NKv)) (δ : Env) : Option Env → Fl
  | some δc => setRD t j0 δ (φ δc) δ[j0]?
  | none => .err
@[simp] theorem setR_ev (φ : Env → Res (NKv × NKv)) (as : List (Nat × AK)) : setR t j φ as δ = setRO t j φ δ (argsE as δ) := rfl
@[simp] theorem setRO_ev (φ : Env → Res (NKv × NKv)) (δc : Env) : setRO t j φ δ (some δc) = setRD t j δ (φ δc) δ[j]? := rfl
@[simp] theorem setRD_ev (r s : NKv) (p : Bool) (k : NKv) : setRD t j δ (.ok (r, s)) (some (.ownN p k)) = .nx ((δ.set t (.ownN false r)).set j (.ownN p s)) := rfl
end
end DL
/-! DW0: own exceptions: raise, defs that raise, try. -/
namespace DL
open PySem PySem.Spec PyProof.Rows L2
variable [TabP]
/-- what the body wishes of own exceptions is what W says -/
def Tk2 (X : Cx) (W : WS) : Prop := Takes X (fun cls d σ H => d = none ∧ ∃ c C, cls = .ref C ∧ X.mg c = some (.ref C) ∧ W c σ H)
theorem tk20 {X : Cx} : Tk2 X W0 := takes0.imp fun c d σ H ⟨_, _, _, _, _, h⟩ => h
/-- an own class of exceptions -/
structure ExcOk (K : PySem.W.Frag) (mg : Str → Option Value) (x : Str) : Prop where
  ex : ∃ C, mg x = some (.ref C) ∧ PySem.W.excIn K C He.veBase "ValueError.__new__" = true ∧ PySem.W.keepIn K (.ref C) = true ∧ PySem.W.subIn K (.ref C) (.type "BaseException") = some true ∧ PySem.W.typeIn K (.ref C) = some (.type "type") ∧ PySem.W.exmOne K (.ref C) (.ref C) = some true
/-- a def's own frame is the innermost -/
structure Stk (X : Cx) : Prop where
  s : X.stack = X.env :: X.outer
  f : X.env.frame = some X.env.locals
def callFX (n : Nat) (φ : List D → Res (List D)) (fs : Env → Res (List D)) : Env → Res (List D) := fun δ => (fs δ).bind fun ds => ln n ds (φ ds)
def tryB (c : Str) (b : Bool) (fb : Env → Fl) : Env → Fl := fun δ => match fb δ with
  | .exc c' _ => if c' = c then .rt (.bool b) else .err
  | r => r
def wsOf (mg : Str → Option Value) (W : WX) : WS := fun c σ H => ∀ C, mg c = some (.ref C) → W (.ref C) none σ H
section
variable {X : Cx} {N : List Str} {sc : Scope} {fn : Str → Bool} {W : WS}
section
variable {e : Expr} {es : List Expr} {fs : Env → Res (List D)} {x : Str} {p pos : Pos} {n : Nat}
theorem PFp.callX {φ : List D → Res (List D)} (c : Ctx X N sc fn) (tk : Tk2 X W) (h : Cal X.prog X.w X.K X.mg X.base X.A (L2.CX X.prog X.w) x (spN X.K X.mg n φ)) (ha : PAp X W (e :: es) fs) (hg : isGl sc x = true := by rfl) (hdb : (x == ("__debug__" : Str)) = false := by decide)
    (he : starEach (e :: es) X.env = (false, eval e X.env) :: starEach es X.env := by rfl) (hpl : (backTo pos (starEach es X.env)).any (·.1) = false := by rfl) : PFp X W (.Call (.Name x p) (e :: es) [] pos) (callFX n φ fs) := by
  obtain ⟨f, fd, ps, k, F, r, m, kp, b⟩ := h.ex
  obtain ⟨t, pa, qa⟩ := ha
  refine ⟨_, pe_callSD F r (c.gl hg) m kp b .nil (fun σ => passAt tk σ) pa hdb he hpl, fun C F δ σ H Q s h => ?_⟩
  refine qa C F δ σ H _ s ((Gd.bind2 h).mono fun ds F1 H1 x1 h1 vs rv => ?_)
  obtain ⟨hl, h1⟩ := Gd.ln h1
  refine ⟨F1, ds, x1.le, (s.ext x1).tf, by rw [List.append_nil]; exact rv, hl, ?_⟩
  cases q : φ ds with
  | ok d => rw [q] at h1; exact fun F' H' x2 a ws e1 e2 e3 e4 => h1 F' H' (x1.trans x2) a ws (x1.hh.free e1) e2 e3 e4
  | exc c => rw [q] at h1; exact fun F' H' A x2 em => ⟨rfl, c, A, rfl, em, h1 F' H' (x1.trans x2)⟩
  | err => rw [q] at h1; exact False.elim h1
end
theorem PSp.raise_ {x m : Str} {j : Nat} {p p2 pos1 pos : Pos} (c : Ctx X N sc fn) (tk : Tk2 X W) (hx : ExcOk X.K X.mg x) (hg : isGl sc x = true := by rfl) (hdb : (x == ("__debug__" : Str)) = false := by decide) :
    PSp X W (.Raise (some (.Call (.Name x p) [.Constant (.str m) j p2] [] pos1)) none pos) (fun δ => .exc x δ) := by
  obtain ⟨C, gC, q1, q2, q3, q4, _⟩ := hx.ex
  exact ⟨_, ps_raise c.calm tk (pmk_own PySem.F.excBase_ValueError q1 gC q2 (raises_own q3 q4) (c.gl hg) hdb), fun Cn F δ σ H E s g => ⟨rfl, x, C, rfl, gC, g F σ H (Same.refl _) s⟩⟩
theorem PSp.tryB {body : List Stmt} {fb : Env → Fl} {x : Str} {np pos' pos rp cp : Pos} {j : Nat} {b : Bool} (c : Ctx X N sc fn) (st : Stk X) (tk : Tk2 X W) (hx : ExcOk X.K X.mg x)
    (hb : ∀ pn xe W', Ctx (X.tr pn xe) N sc fn → Tk2 (X.tr pn xe) W' → PSsp (X.tr pn xe) W' body fb) (hg : isGl sc x = true := by rfl) (hdb : (x == ("__debug__" : Str)) = false := by decide) :
    PSp X W (.Try body [.ExceptHandler (some (.Name x np)) none [.Return (some (.Constant (.bool b) j cp)) rp] pos'] [] [] pos) (DL.tryB x b fb) := by
  obtain ⟨C, gC, q1, q2, q3, q4, hm⟩ := hx.ex
  refine ⟨_, ps_try_only (c := .ref C) (ts := fun _ _ _ => tRet (tC (.bl b))) (Wout := fun cls d σ H => d = none ∧ ∃ c C, cls = .ref C ∧ X.mg c = some (.ref C) ∧ W c σ H) (tb := fun Wx D σ H => ∃ Cn F δ, Sat X.K Cn F δ σ H ∧ Gs X.K (wsOf X.mg Wx) Cn F D (fb δ)) st.s st.f ⟨c.gl hg, hdb, .inl gC⟩ tk ?_ ?_, ?_⟩
  · intro Wx pn xe tkx po
    have cY : Ctx (X.tr pn xe) N sc fn := ⟨c.hN, c.nd, c.sc, c.fn, c.calm, c.un, po⟩
    have tk2 : Tk2 (X.tr pn xe) (wsOf X.mg Wx) := Takes.imp tkx fun cls d σ H ⟨e, c', C', e2, e3, w⟩ => by subst e; subst e2; exact w C' e3
    obtain ⟨t, p, q⟩ := hb pn xe _ cY tk2
    exact ⟨fun pins s σ H D I ⟨Cn, F, δ, sat, g⟩ => p.run pins s σ H D I (q Cn F δ σ H D sat g)⟩
  · intro a oe cls d pn z hd
    exact pss_one (ps_ret pe_bl)
  · intro Cn F δ σ H E s g
    refine ⟨Cn, F, δ, s, ?_⟩
    unfold DL.tryB at g
    cases r : fb δ with
    | exc c' δ' =>
      rw [r] at g
      dsimp only at g
      split at g
      · rename_i ec
        subst ec
        intro F' σ' H' e s' C' gC'
        rw [gC] at gC'
        cases gC'
        exact ⟨true, hm, fun _ a _ => g F' δ' σ' H' (.bl b) e s' (.bl b), fun z => nomatch z⟩
      · exact False.elim g
    | nx δ' => rw [r] at g; exact g
    | rt d => rw [r] at g; exact g
    | rf d => rw [r] at g; exact g
    | bk d => rw [r] at g; exact g
    | ct d => rw [r] at g; exact g
    | rn i d => rw [r] at g; exact g
    | rb d e => rw [r] at g; exact g
    | err => rw [r] at g; exact False.elim g
end
/-! ### defs -/
def runFX (f : Env → Fl) (n : Nat) (ds : List D) : Res (List D) := match f (startE n ds) with
  | .rf es => .ok es
  | .exc c _ => .exc c
  | _ => .err
section
variable {P : Program} {w : World} {K : PySem.W.Frag} {mg : Str → Option Value} {base : Heap} {x : Str} {st : Stmt} {N ps : List Str} {k : Nat} {fb : Env → Fl}
abbrev BodyX (P : Program) (w : World) (K : PySem.W.Frag) (mg : Str → Option Value) (base : Heap) (k : Nat) (N : List Str) (st : Stmt) (fb : Env → Fl) : Prop :=
  ∀ (X : Cx) (W : WS), X.prog = P → X.w = w → X.K = K → X.mg = mg → X.base = base → Room k X.A → X.env.scope.kind = .function → Ctx X N (defScope st) (fun _ => true) → Tk2 X W → PSsp X W (defBody st) fb
abbrev BodyS (P : Program) (w : World) (K : PySem.W.Frag) (mg : Str → Option Value) (base : Heap) (k : Nat) (N : List Str) (st : Stmt) (fb : Env → Fl) : Prop :=
  ∀ X : Cx, X.prog = P → X.w = w → X.K = K → X.mg = mg → X.base = base → Room k X.A → X.env.scope.kind = .function → Ctx X N (defScope st) (fun _ => true) → Stk X → PSsp X W0 (defBody st) fb
theorem ok_defNX {f : Addr} {fd : FuncData} {qual : Str} (Fn : Fun K x qual st f fd) (S : FnScope N ps (defScope st)) (n : Nat) (hn : n = ps.length) (m : Nat) (hm : N.length = m) (hb : BodyX P w K mg base k N st fb) :
    FnOk P w K mg base (L2.CX P w) (k + 1) f fd ps (spN K mg n (runFX fb m)) := by
  refine Fn.okX S (len_ofN hn) fun cdv A outer s H vs Q E hr h => ?_
  have cx : Ctx (cxOf (L2.CX P w) P w K mg base N qual (defScope st) f cdv A outer s H E) N (defScope st) (fun _ => true) :=
    ⟨rfl, S.nd, rfl, rfl, rfl, by have := hr.un; show (A.deeper _).units + 100 < cLine; omega, passes_of rfl⟩
  have tk : Tk2 (cxOf (L2.CX P w) P w K mg base N qual (defScope st) f cdv A outer s H E) (fun c _ H => ∀ C, mg c = some (.ref C) → E (.ref C) none H) :=
    Takes.imp (takes_of rfl rfl rfl rfl) fun cls d σ H ⟨e, c', C', e2, e3, w⟩ => by subst e; subst e2; exact w C' e3
  obtain ⟨t, p, q⟩ := hb _ _ rfl rfl rfl rfl rfl hr S.kind cx tk
  refine ⟨t, p, ?_⟩
  obtain ⟨F, ds, h1, h0, h2, h3, h4⟩ := h
  have s0 := sat_start (N := N) h1 h0 h2
  rw [hm] at s0
  refine q ⟨F, H, fun _ => False, fun _ => .non⟩ F _ _ H _ s0 ?_
  unfold runFX at h4
  cases r : fb (startE m ds) with
  | rf es =>
    rw [r] at h4
    intro F' δ' σ' H' a ws e s h5 h6 h7 h8
    exact h4 F' H' s.ext0 a ws (h5.elim id False.elim) h6 h7 h8
  | exc c δ => rw [r] at h4; exact fun F' σ' H' e s C gC => h4 F' H' C s.ext0 gC
  | _ => rw [r] at h4; exact h4.elim
theorem Kn.defNX (T : Top K mg x st) (S : FnScope N ps (defScope st)) (n : Nat) (hn : n = ps.length) (m : Nat) (hm : N.length = m) (hbd : BindT x st ps) (hb : BodyX P w K mg base k N st fb) : Kn P w K mg base (L2.CX P w) x (k + 1) (spN K mg n (runFX fb m)) := by
  obtain ⟨f, fd, F, e⟩ := T.ex
  exact ⟨f, fd, ps, ok_defNX F S n hn m hm hb, e, F.kp, F.binds hbd⟩
/-- a def within which a try stands -/
theorem ok_defS {f : Addr} {fd : FuncData} {qual : Str} (Fn : Fun K x qual st f fd) (S : FnScope N ps (defScope st)) (n : Nat) (hn : n = ps.length) (m : Nat) (hm : N.length = m) (hb : BodyS P w K mg base k N st fb) :
    FnOk P w K mg base CX0 (k + 1) f fd ps (spF K mg n (runD fb m)) := by
  refine Fn.ok S (len_of hn) fun cdv A outer s H vs Q E hr h => ?_
  obtain ⟨t, p, q⟩ := hb (cxOf CX0 P w K mg base N qual (defScope st) f cdv A outer s H E).nox rfl rfl rfl rfl rfl hr S.kind (ctx_nox S hr) ⟨rfl, rfl⟩
  refine ⟨t, p, ?_⟩
  obtain ⟨F, ds, h1, h0, h2, h3, h4⟩ := h
  have s0 := sat_start (N := N) h1 h0 h2
  rw [hm] at s0
  refine q ⟨F, H, fun _ => False, fun _ => .non⟩ F _ _ H _ s0 ?_
  unfold runD at h4
  cases r : fb (startE m ds) with
  | nx δ => rw [r] at h4; exact fun F' σ' H' e s => h4 F' H' s.ext0 _ .non
  | rt d => rw [r] at h4; exact fun F' δ' σ' H' v e s rv => h4 F' H' s.ext0 v rv
  | rf es =>
    rw [r] at h4
    intro F' δ' σ' H' a ws e s h5 h6 h7 h8
    have z : H a = none := h5.elim id False.elim
    exact h4 _ H' (s.ext0.frz z h6 h7) _ (.lst upd_same (RpA.mono (same_new h6 _) _ _ h8))
  | rn i δ => rw [r] at h4; exact h4.elim
  | rb d δ => rw [r] at h4; exact h4.elim
  | bk δ => rw [r] at h4; exact h4.elim
  | ct δ => rw [r] at h4; exact h4.elim
  | exc c δ => rw [r] at h4; exact h4.elim
  | err => rw [r] at h4; exact h4.elim
theorem Kn.defS (T : Top K mg x st) (S : FnScope N ps (defScope st)) (n : Nat) (hn : n = ps.length) (m : Nat) (hm : N.length = m) (hbd : BindT x st ps) (hb : BodyS P w K mg base k N st fb) : Kn P w K mg base CX0 x (k + 1) (spF K mg n (runD fb m)) := by
  obtain ⟨f, fd, F, e⟩ := T.ex
  exact ⟨f, fd, ps, ok_defS F S n hn m hm hb, e, F.kp, F.binds hbd⟩
end
/-! ### meanings -/
@[simp] theorem callFX_ev (n : Nat) (φ : List D → Res (List D)) (fs : Env → Res (List D)) (δ : Env) : callFX n φ fs δ = (fs δ).bind fun ds => ln n ds (φ ds) := rfl
def tryE (c : Str) (b : Bool) : Fl → Fl
  | .exc c' _ => if c' = c then .rt (.bool b) else .err
  | r => r
theorem tryB_ev (c : Str) (b : Bool) (fb : Env → Fl) (δ : Env) : tryB c b fb δ = tryE c b (fb δ) := by unfold tryB tryE; rfl
@[simp] theorem tryE_exc (c : Str) (b : Bool) (δ : Env) : tryE c b (.exc c δ) = .rt (.bool b) := if_pos rfl
@[simp] theorem tryE_nx (c : Str) (b : Bool) (δ : Env) : tryE c b (.nx δ) = .nx δ := rfl
def endFX : Fl → Res (List D)
  | .rf es => .ok es
  | .exc c _ => .exc c
  | _ => .err
theorem runFX_ev (f : Env → Fl) (n : Nat) (ds : List D) : runFX f n ds = endFX (f (startE n ds)) := by unfold runFX endFX; rfl
@[simp] theorem endFX_rf (es : List D) : endFX (.rf es) = .ok es := rfl
@[simp] theorem endFX_exc (c : Str) (δ : Env) : endFX (.exc c δ) = .exc c := rfl
end DL
/-! DW1: what a call hands back is changed, and forgotten. -/
namespace DL
open PySem PySem.Spec PyProof.Rows L2
variable [TabP]
theorem Sat.set_slot {K : PySem.W.Frag} {C : Ent} {F H : Hp} {δ : Env} {σ : L2.St} (s : Sat K C F δ σ H) (j : Nat) (y : Option V) : Sat K C F (δ.set j .no) (σ.set j y) H := by
  obtain ⟨G, g⟩ := s
  refine ⟨G, g.le, g.f0, g.nw, g.keep, g.alive, g.dis, g.live, g.mine, by rw [List.length_set, List.length_set]; exact g.len, g.tf, fun i s e => ?_⟩
  by_cases hj : j = i
  · subst hj
    by_cases hl : j < δ.length
    · rw [List.getElem?_set_self hl] at e; cases e; trivial
    · rw [List.getElem?_eq_none (by rw [List.length_set]; omega)] at e; cases e
  · rw [List.getElem?_set_ne hj] at e ⊢; exact g.sl i s e
/-- a row whose list of numbers stands at m -/
def rowI (m : Int) (k : Nat) : D → Bool
  | .tuple es => match L2.atI es m with
    | some (.list (.int _ :: ls)) => decide (ls.length + k + 2 < sizeLine)
    | _ => false
  | _ => false
/-- for row in f(..): row[m].append(k) -/
def nfS (j : Nat) (m : Int) (f : Env → Res (List D)) : Env → Fl := fun δ => match δ[j]? with
  | some _ => match f (mnE δ) with
    | .ok ds => if ds.all (rowI m ds.length) = true then .nx (δ.set j .no) else .err
    | _ => .err
  | none => .err
/-- f(..).clear() -/
def clrT (f : Env → Res (List D)) : Env → Fl := fun δ => onR (f δ) δ fun _ => .nx δ
section
variable {X : Cx} {N : List Str} {sc : Scope} {fn : Str → Bool} {W : WS} {e : Expr} {pos : Pos} {x : Str} {p apos cpos : Pos}
theorem PSp.clearT {f : Env → Res (List D)} (h : PFp X W e f)
    (hbase : attributeBase e "clear" X.env (eval e X.env) = eval e X.env := by rfl)
    (hline : (apos.endLine == cpos.line) = true := by rfl)
    (hsw : swapsWith (.Call (.Attribute e "clear" apos) [] [] cpos) none pos.line X.env = pure false := by rfl) :
    PSp X W (.Expr (.Call (.Attribute e "clear" apos) [] [] cpos) pos) (clrT f) := by
  obtain ⟨t, pe, q⟩ := h
  refine ⟨_, ps_expr (pe_bm0 PySem.F.plainAttrs_list PySem.F.slot_list_clear PySem.F.type_list_clear mt_clear pe hbase hline) hsw, fun C F δ σ H E s g => ?_⟩
  have main : Gd W σ F H (f δ) (fun ds F' H' => ∀ a vs, H a = none → F' a = none → H' a = some (.lst vs) → RpA X.K F' vs ds → E.nx σ (L2.upd H' a (.lst []))) := by
    unfold clrT at g
    cases r : f δ with
    | ok ds =>
      rw [r] at g
      intro F' H' x a vs h1 h2 h3 h4
      exact g F' σ _ x.ff (s.ext (x.chg h1 h2 h3 (.inl ⟨_, rfl⟩) _))
    | exc c =>
      rw [r] at g
      intro F' H' x
      exact g F' σ H' x.ff (s.ext x)
    | err => rw [r] at g; exact False.elim g
  refine q C F δ σ H _ s (main.mono fun ds F' H' x k a vs h1 h2 h3 h4 => ?_)
  exact ⟨.inl ⟨rfl, vs, SqL.of h3⟩, a, vs, rfl, rfl, h3, k a vs h1 h2 h3 h4⟩
theorem PSp.nestFor {f : Env → Res (List D)} {m k : Int} {pr p1 p2 p3 p4 p5 : Pos} {j1 j2 : Nat} (c : Ctx X N sc fn) (j : Nat) (h : PFp X W e f) (hN : N[j]? = some x := by rfl) (hx : stOk sc fn x = true := by rfl) (hv : isVis sc x = true := by rfl) (hd : (x == ("__debug__" : Str)) = false := by decide) (hcd : (x == ("__classdict__" : Str)) = false := by decide)
    (hbase : attributeBase (.Subscript (.Name x p1) (.Constant (.int m) j1 p2) p3) "append" X.env (eval (.Subscript (.Name x p1) (.Constant (.int m) j1 p2) p3) X.env) = eval (.Subscript (.Name x p1) (.Constant (.int m) j1 p2) p3) X.env := by rfl)
    (hpl : PlainIx (.Constant (.int m) j1 p2) := by exact fun _ _ => rfl)
    (hfew : ((backTo cpos (starEach [(.Constant (.int k) j2 p4 : Expr)] X.env)).all (fun x => !x.1) && (backToKw cpos (keywordEach [] X.env)).all (fun x => x.1.isSome)
      && decide (([.Constant (.int k) j2 p4] : List Expr).length + ([] : List Keyword).length + (if ([] : List Keyword).isEmpty then 0 else 1) < 30)) = true := by rfl)
    (hline : (apos.endLine == cpos.line) = true := by rfl) (hst : starEach [(.Constant (.int k) j2 p4 : Expr)] X.env = (false, eval (.Constant (.int k) j2 p4) X.env) :: starEach [] X.env := by rfl)
    (hsw : swapsWith (.Call (.Attribute (.Subscript (.Name x p1) (.Constant (.int m) j1 p2) p3) "append" apos) [.Constant (.int k) j2 p4] [] cpos) none p5.line X.env = pure false := by rfl)
    (hs : ∀ y, foldedSetIterable e X.env y = pure y := by intro _; rfl) :
    PSp X W (.For (.Name x pr) e [.Expr (.Call (.Attribute (.Subscript (.Name x p1) (.Constant (.int m) j1 p2) p3) "append" apos) [.Constant (.int k) j2 p4] [] cpos) p5] [] pos) (nfS j m f) := by
  obtain ⟨t, pe, q⟩ := h
  obtain ⟨hx1, hx2⟩ := c.st hx
  have pv : PE X (.Name x p1) (tVar j) := pe_var (i := j) (by rw [c.hN]; exact hN) (c.vis hv) hd hcd
  have pb := pe_bm (cpos := cpos) (apos := apos) PySem.F.plainAttrs_list PySem.F.slot_list_append PySem.F.type_list_append mt_append (pe_ix (pos := p3) ix_tup pv (pe_int (pos := p2) (j := j1) (i := m)) hpl) (pa_cons (pe_int (pos := p4) (j := j2) (i := k)) pa_nil hst) hbase hfew hline hst rfl
  refine ⟨_, ps_for c.po c.calm (pi_seq pe) (pg_name (pos := pr) (i := j) (by rw [c.hN]; exact c.nd) (by rw [c.hN]; exact hN) hx1 hx2) (pss_one (ps_expr (pos := p5) pb hsw)) hs, fun C F δ σ H E s g => ?_⟩
  unfold nfS at g
  cases hj : δ[j]? with
  | none => rw [hj] at g; exact False.elim g
  | some sl =>
    rw [hj] at g
    dsimp only at g
    obtain ⟨G, sg⟩ := s
    have s : Sat X.K C F δ σ H := ⟨G, sg⟩
    have jl : j < σ.length := by rw [s.len]; exact (List.getElem?_eq_some_iff.mp hj).1
    refine q _ (minF F) (mnE δ) σ H _ ⟨G, sg.min⟩ ?_
    cases r : f (mnE δ) with
    | exc c => rw [r] at g; exact False.elim g
    | err => rw [r] at g; exact False.elim g
    | ok ds =>
      rw [r] at g
      dsimp only at g
      split at g
      · rename_i hall
        intro F' H' xx a vs k1 k2 k3 k4
        have xb : Ext F H F H' := xx.back s.le s.tf.2
        have hlen := k4.length
        refine .inl ⟨a, rfl, ⟨vs, SqL.of k3⟩, fun i n σc Hc => n = vs.length - i ∧ i ≤ vs.length ∧ (σc = σ ∨ ∃ y, σc = σ.set j y) ∧ Ext F H F Hc ∧ Hc a = some (.lst vs) ∧
          (∀ b o, F' b = some o → (∃ w ws, o = .lst (.int w :: ws)) ∨ Hc b = some o) ∧ (∀ b w ws, F' b = some (.lst (.int w :: ws)) → ∃ zs, zs.length ≤ i ∧ Hc b = some (.lst (.int w :: (ws ++ zs)))), ⟨vs.length, by simp, Nat.zero_le _, .inl rfl, xb, k3, fun b o e => .inr (xx.le _ _ e), fun b w ws e => ⟨[], Nat.le_refl _, by rw [List.append_nil]; exact xx.le _ _ e⟩⟩, ?_⟩
        rintro i n σc Hc ⟨rfl, hi, hσ, xc, ha, ho, hl⟩
        have hS : SqL X.K Hc a vs := SqL.of ha
        by_cases hlt : i < vs.length
        · right
          have hv1 : vs[i]? = some vs[i] := List.getElem?_eq_getElem hlt
          refine ⟨⟨vs, vs[i], hS, hv1⟩, _, fun σ' H' z => ⟨vs.length - (i + 1), by omega, z⟩, fun y H2 hy => ?_⟩
          obtain ⟨eH, hy⟩ := hy
          have e := hy vs hS
          rw [hv1] at e
          cases e
          subst eH
          obtain ⟨d, hd1, rd⟩ := k4.at hv1
          have hrow := List.all_eq_true.mp hall d (List.mem_of_getElem? hd1)
          cases d with
          | tuple es =>
            unfold rowI at hrow
            dsimp only at hrow
            split at hrow
            · rename_i w ls hat
              have hz := of_decide_eq_true hrow
              cases hvi : vs[i] with
              | ref qa =>
                rw [hvi] at rd
                cases rd with
                | tup hq ra =>
                  rename_i ws
                  obtain ⟨u, eu, ru⟩ := ra.atI hat
                  cases ru with
                  | @lst p us _ hp rp =>
                    cases rp with
                    | @cons v0 us' _ _ rv0 rp' =>
                      cases rv0
                      obtain ⟨zs, hz1, hz2⟩ := hl p _ _ hp
                      have hq2 : SqT X.K H2 qa ws := by
                        rcases hq with (hq | ⟨o, hq⟩) | hq
                        · rcases ho _ _ hq with ⟨_, _, z⟩ | z
                          · cases z
                          · exact .inl (.inl z)
                        · rcases ho _ _ hq with ⟨_, _, z⟩ | z
                          · cases z
                          · exact .inl (.inr ⟨o, z⟩)
                        · exact .inr hq
                      have hpH : H p = none := by
                        rcases xx.nw p _ hp with z | z
                        · exact absurd z minF_il
                        · exact z
                      have hpa : a ≠ p := fun z => by rw [z, hp] at k2; cases k2
                      have hj2 : ((σc.set j (some (V.ref qa)))[j]?).join = some (V.ref qa) := by
                        rw [List.getElem?_set_self (by
                          rcases hσ with z | ⟨y, z⟩
                          · rw [z]; exact jl
                          · rw [z, List.length_set]; exact jl)]
                        rfl
                      refine ⟨_, join_some hj2, qa, ws, m, _, rfl, rfl, hq2, eu, .inl ⟨rfl, _, SqL.of hz2⟩, p, _, .int k, rfl, rfl, hz2, ?_, ?_⟩
                      · have e1 := rp'.length
                        simp only [List.length_cons, List.length_append]
                        omega
                      · refine ⟨rfl, hlt, .inr ⟨some (.ref qa), ?_⟩, xc.chg hpH (s.le.free hpH) hz2 (.inl ⟨_, rfl⟩) _, by rw [upd_ne hpa]; exact ha, fun b o e => ?_, fun b w2 ws2 e => ?_⟩
                        · rcases hσ with z | ⟨y, z⟩
                          · rw [z]
                          · rw [z, List.set_set]
                        · by_cases hb : b = p
                          · rw [hb, hp] at e; cases e; exact .inl ⟨_, _, rfl⟩
                          · rw [upd_ne hb]; exact ho b o e
                        · by_cases hb : b = p
                          · rw [hb, hp] at e
                            cases e
                            refine ⟨zs ++ [.int k], by rw [List.length_append]; simp; exact hz1, ?_⟩
                            rw [hb, upd_same]
                            simp
                          · rw [upd_ne hb]
                            obtain ⟨zs2, y1, y2⟩ := hl b w2 ws2 e
                            exact ⟨zs2, Nat.le_succ_of_le y1, y2⟩
              | _ => rw [hvi] at rd; cases rd
            · cases hrow
          | _ => cases hrow
        · left
          refine ⟨⟨vs, hS, by omega⟩, ?_⟩
          have sc := s.ext xc
          refine g F σc Hc (Same.refl _) ?_
          rcases hσ with z | ⟨y, z⟩
          · rw [z]; exact sc.set_no j
          · rw [z]; exact sc.set_slot j y
      · exact False.elim g
end
@[simp] theorem clrT_ev (f : Env → Res (List D)) (δ : Env) : clrT f δ = onR (f δ) δ fun _ => .nx δ := rfl
end DL
/-! DX0: a book's attributes: read, changed, stored. -/
namespace DL
open PySem PySem.Spec PyProof.Rows L2
variable [TabP]
inductive AtN where
  | pe | ma | wi | de | ot
def AtN.nm : AtN → Str
  | .pe => "people"
  | .ma => "marriages"
  | .wi => "wills"
  | .de => "deals"
  | .ot => "other"
def Bk.lst (B : Bk) : AtN → Option (List D)
  | .pe => some B.pe
  | .ma => some B.ma
  | .wi => some B.wi
  | .ot => some B.ot
  | .de => none
def Bk.get (B : Bk) : AtN → D
  | .pe => .list B.pe
  | .ma => .list B.ma
  | .wi => .list B.wi
  | .ot => .list B.ot
  | .de => .dict B.de
def Bk.put (B : Bk) (n : AtN) (ds : List D) : Bk := match n with
  | .pe => { B with pe := ds }
  | .ma => { B with ma := ds }
  | .wi => { B with wi := ds }
  | .ot => { B with ot := ds }
  | .de => B
/-- the class -/
structure BkC (K : PySem.W.Frag) : Prop where
  cl : Cls K TabP.BC
  na : ∀ n : AtN, NoAttr K TabP.BC n.nm
section
variable {K : PySem.W.Frag} {F F' H H' : Hp} {G G' : Addr → Option Nat} {i : Nat} {fz : Bool} {a : Addr} {B : Bk}
theorem AtL.rt (h : AtL K F G H i a ds fz) (le : Same F H) : Rt K F H (.ref a) (.list ds) := by
  cases fz with
  | true => obtain ⟨vs, h1, h2⟩ := h; exact ⟨a, vs, rfl, le _ _ h1, h2⟩
  | false => obtain ⟨vs, _, h1, h2⟩ := h; exact ⟨a, vs, rfl, h1, h2⟩
theorem AtK.rt (h : AtK K F G H i a ds fz) (le : Same F H) : Rt K F H (.ref a) (.dict ds) := by
  cases fz with
  | true => obtain ⟨vs, h1, h2⟩ := h; exact .inl ⟨a, vs, rfl, le _ _ h1, h2⟩
  | false => obtain ⟨vs, _, h1, h2⟩ := h; exact .inl ⟨a, vs, rfl, h1, h2⟩
theorem BkO.at (h : BkO K F G H i fz a B) (le : Same F H) (n : AtN) : ∃ dx fs v, H a = some (.ins TabP.BC dx fs) ∧ fs.lookup n.nm = some v ∧ Rt K F H v (B.get n) ∧ (fz = true → Rp K F v (B.get n)) := by
  obtain ⟨dx, fs, ap, am, aw, ad, ao, h1, h3, h4, h5, k1, k2, k3, k4, k5⟩ := h.ex
  have h2 : H a = some (.ins TabP.BC dx fs) := by
    cases fz with
    | true => exact le _ _ h1
    | false => exact h1.2
  cases n with
  | pe => exact ⟨dx, fs, .ref ap, h2, (h4 _).trans rfl, k1.rt le, fun e => by subst e; obtain ⟨vs, z1, z2⟩ := k1; exact .lst z1 z2⟩
  | ma => exact ⟨dx, fs, .ref am, h2, (h4 _).trans rfl, k2.rt le, fun e => by subst e; obtain ⟨vs, z1, z2⟩ := k2; exact .lst z1 z2⟩
  | wi => exact ⟨dx, fs, .ref aw, h2, (h4 _).trans rfl, k3.rt le, fun e => by subst e; obtain ⟨vs, z1, z2⟩ := k3; exact .lst z1 z2⟩
  | de => exact ⟨dx, fs, .ref ad, h2, (h4 _).trans rfl, k4.rt le, fun e => by subst e; obtain ⟨vs, z1, z2⟩ := k4; exact .dK z1 z2⟩
  | ot => exact ⟨dx, fs, .ref ao, h2, (h4 _).trans rfl, k5.rt le, fun e => by subst e; obtain ⟨vs, z1, z2⟩ := k5; exact .lst z1 z2⟩
/-- a list attribute is changed in place -/
theorem BkO.putL (h : BkO K F G H i false a B) {n : AtN} {ds : List D} (hn : B.lst n = some ds) : ∃ dx fs p vs, H a = some (.ins TabP.BC dx fs) ∧ fs.lookup n.nm = some (.ref p) ∧ G p = some i ∧ H p = some (.lst vs) ∧ RpA K F vs ds ∧
    ∀ (F' H' : Hp) (vs' : List V) (ds' : List D), Same F F' → (∀ b o, G b = some i → H b = some o → (∀ ps, o ≠ .tbl ps) → H' b = some o) → RpA K F' vs' ds' → BkO K F' G (upd H' p (.lst vs')) i false a (B.put n ds') := by
  obtain ⟨dx, fs, ap, am, aw, ad, ao, ⟨h1, h2⟩, h3, h4, h5, ⟨vp, p1, p2, p3⟩, ⟨vm, m1, m2, m3⟩, ⟨vw, w1, w2, w3⟩, ⟨kd, d1, d2, d3⟩, ⟨vo, o1, o2, o3⟩⟩ := h.ex
  simp only [List.nodup_cons, List.mem_cons, List.not_mem_nil, or_false, not_or, List.nodup_nil, and_true, not_false_iff] at h5
  obtain ⟨⟨n1, n2, n3⟩, ⟨n4, n5⟩, n6⟩ := h5
  have hnd : [ap, am, aw, ao].Nodup := by simp [n1, n2, n3, n4, n5, n6]
  have ni : ∀ {q : Addr} {ws : List V}, H q = some (.lst ws) → a ≠ q := fun e z => by rw [← z, h2] at e; cases e
  have nd : ∀ {q : Addr} {ws : List V}, H q = some (.lst ws) → ad ≠ q := fun e z => by rw [← z, d2] at e; cases e
  cases n with
  | pe =>
    cases hn
    refine ⟨dx, fs, ap, vp, h2, (h4 _).trans rfl, p1, p2, p3, fun F' H' vs' ds' ff hh rp => ?_⟩
    exact ⟨dx, fs, ap, am, aw, ad, ao, ⟨h1, by rw [upd_ne (ni p2)]; exact hh _ _ h1 h2 (fun _ z => nomatch z)⟩, h3, h4, hnd, ⟨vs', p1, upd_same, rp⟩, ⟨vm, m1, by rw [upd_ne (Ne.symm n1)]; exact hh _ _ m1 m2 (fun _ z => nomatch z), RpA.mono ff _ _ m3⟩, ⟨vw, w1, by rw [upd_ne (Ne.symm n2)]; exact hh _ _ w1 w2 (fun _ z => nomatch z), RpA.mono ff _ _ w3⟩, ⟨kd, d1, by rw [upd_ne (nd p2)]; exact hh _ _ d1 d2 (fun _ z => nomatch z), RpK.mono ff _ _ d3⟩, ⟨vo, o1, by rw [upd_ne (Ne.symm n3)]; exact hh _ _ o1 o2 (fun _ z => nomatch z), RpA.mono ff _ _ o3⟩⟩
  | ma =>
    cases hn
    refine ⟨dx, fs, am, vm, h2, (h4 _).trans rfl, m1, m2, m3, fun F' H' vs' ds' ff hh rp => ?_⟩
    exact ⟨dx, fs, ap, am, aw, ad, ao, ⟨h1, by rw [upd_ne (ni m2)]; exact hh _ _ h1 h2 (fun _ z => nomatch z)⟩, h3, h4, hnd, ⟨vp, p1, by rw [upd_ne n1]; exact hh _ _ p1 p2 (fun _ z => nomatch z), RpA.mono ff _ _ p3⟩, ⟨vs', m1, upd_same, rp⟩, ⟨vw, w1, by rw [upd_ne (Ne.symm n4)]; exact hh _ _ w1 w2 (fun _ z => nomatch z), RpA.mono ff _ _ w3⟩, ⟨kd, d1, by rw [upd_ne (nd m2)]; exact hh _ _ d1 d2 (fun _ z => nomatch z), RpK.mono ff _ _ d3⟩, ⟨vo, o1, by rw [upd_ne (Ne.symm n5)]; exact hh _ _ o1 o2 (fun _ z => nomatch z), RpA.mono ff _ _ o3⟩⟩
  | wi =>
    cases hn
    refine ⟨dx, fs, aw, vw, h2, (h4 _).trans rfl, w1, w2, w3, fun F' H' vs' ds' ff hh rp => ?_⟩
    exact ⟨dx, fs, ap, am, aw, ad, ao, ⟨h1, by rw [upd_ne (ni w2)]; exact hh _ _ h1 h2 (fun _ z => nomatch z)⟩, h3, h4, hnd, ⟨vp, p1, by rw [upd_ne n2]; exact hh _ _ p1 p2 (fun _ z => nomatch z), RpA.mono ff _ _ p3⟩, ⟨vm, m1, by rw [upd_ne n4]; exact hh _ _ m1 m2 (fun _ z => nomatch z), RpA.mono ff _ _ m3⟩, ⟨vs', w1, upd_same, rp⟩, ⟨kd, d1, by rw [upd_ne (nd w2)]; exact hh _ _ d1 d2 (fun _ z => nomatch z), RpK.mono ff _ _ d3⟩, ⟨vo, o1, by rw [upd_ne (Ne.symm n6)]; exact hh _ _ o1 o2 (fun _ z => nomatch z), RpA.mono ff _ _ o3⟩⟩
  | ot =>
    cases hn
    refine ⟨dx, fs, ao, vo, h2, (h4 _).trans rfl, o1, o2, o3, fun F' H' vs' ds' ff hh rp => ?_⟩
    exact ⟨dx, fs, ap, am, aw, ad, ao, ⟨h1, by rw [upd_ne (ni o2)]; exact hh _ _ h1 h2 (fun _ z => nomatch z)⟩, h3, h4, hnd, ⟨vp, p1, by rw [upd_ne n3]; exact hh _ _ p1 p2 (fun _ z => nomatch z), RpA.mono ff _ _ p3⟩, ⟨vm, m1, by rw [upd_ne n5]; exact hh _ _ m1 m2 (fun _ z => nomatch z), RpA.mono ff _ _ m3⟩, ⟨vw, w1, by rw [upd_ne n6]; exact hh _ _ w1 w2 (fun _ z => nomatch z), RpA.mono ff _ _ w3⟩, ⟨kd, d1, by rw [upd_ne (nd o2)]; exact hh _ _ d1 d2 (fun _ z => nomatch z), RpK.mono ff _ _ d3⟩, ⟨vs', o1, upd_same, rp⟩⟩
  | de => cases hn
/-- the dict of deals is changed in place -/
theorem BkO.putK (h : BkO K F G H i false a B) : ∃ dx fs p vs, H a = some (.ins TabP.BC dx fs) ∧ fs.lookup AtN.de.nm = some (.ref p) ∧ G p = some i ∧ H p = some (.dK vs) ∧ RpK K F vs B.de ∧
    ∀ (F' H' : Hp) (vs' : List (Key × V)) (ds' : List (D × D)), Same F F' → (∀ b o, G b = some i → H b = some o → (∀ ps, o ≠ .tbl ps) → H' b = some o) → RpK K F' vs' ds' → BkO K F' G (upd H' p (.dK vs')) i false a { B with de := ds' } := by
  obtain ⟨dx, fs, ap, am, aw, ad, ao, ⟨h1, h2⟩, h3, h4, hnd, ⟨vp, p1, p2, p3⟩, ⟨vm, m1, m2, m3⟩, ⟨vw, w1, w2, w3⟩, ⟨kd, d1, d2, d3⟩, ⟨vo, o1, o2, o3⟩⟩ := h.ex
  have ni : a ≠ ad := fun z => by rw [← z, h2] at d2; cases d2
  have nd : ∀ {q : Addr} {ws : List V}, H q = some (.lst ws) → q ≠ ad := fun e z => by rw [z, d2] at e; cases e
  refine ⟨dx, fs, ad, kd, h2, (h4 _).trans rfl, d1, d2, d3, fun F' H' vs' ds' ff hh rp => ?_⟩
  exact ⟨dx, fs, ap, am, aw, ad, ao, ⟨h1, by rw [upd_ne ni]; exact hh _ _ h1 h2 (fun _ z => nomatch z)⟩, h3, h4, hnd, ⟨vp, p1, by rw [upd_ne (nd p2)]; exact hh _ _ p1 p2 (fun _ z => nomatch z), RpA.mono ff _ _ p3⟩, ⟨vm, m1, by rw [upd_ne (nd m2)]; exact hh _ _ m1 m2 (fun _ z => nomatch z), RpA.mono ff _ _ m3⟩, ⟨vw, w1, by rw [upd_ne (nd w2)]; exact hh _ _ w1 w2 (fun _ z => nomatch z), RpA.mono ff _ _ w3⟩, ⟨vs', d1, upd_same, rp⟩, ⟨vo, o1, by rw [upd_ne (nd o2)]; exact hh _ _ o1 o2 (fun _ z => nomatch z), RpA.mono ff _ _ o3⟩⟩
end
section
variable {X : Cx} {N : List Str} {sc : Scope} {fn : Str → Bool} {W : WS} {e : Expr} {pos : Pos} {x : Str} {p p2 apos cpos : Pos}
def fldO (n : AtN) : Option Sl → Res D
  | some (.bk _ _ B) => .ok (B.get n)
  | _ => .err
def fldR (i : Nat) (n : AtN) : Env → Res D := fun δ => fldO n δ[i]?
theorem PRp.fld (hB : BkC X.K) (c : Ctx X N sc fn) (i : Nat) (n : AtN) (hN : N[i]? = some x := by rfl) (hv : isVis sc x = true := by rfl) (hd : (x == ("__debug__" : Str)) = false := by decide) (hcd : (x == ("__classdict__" : Str)) = false := by decide)
    (hb : attributeBase (.Name x p) n.nm X.env (eval (.Name x p) X.env) = eval (.Name x p) X.env := by rfl) : PRp X W (.Attribute (.Name x p) n.nm pos) (fldR i n) := by
  refine ⟨_, pe_fld (pe_var (i := i) (by rw [c.hN]; exact hN) (c.vis hv) hd hcd) hb, fun C F δ σ H Q s g => ?_⟩
  unfold fldR at g
  cases hi : δ[i]? with
  | none => rw [hi] at g; exact False.elim g
  | some sl =>
    rw [hi] at g
    cases sl with
    | bk pq fz B =>
      obtain ⟨G, g'⟩ := s
      obtain ⟨a, h1, h0, hb⟩ := g'.sl i _ hi
      obtain ⟨dx, fs, v, k1, k2, k3, _⟩ := hb.at g'.le n
      exact ⟨_, join_some h1, a, _, dx, fs, v, rfl, k1, hB.cl, hB.na n, k2, (show Gd W σ F H (.ok (B.get n)) _ from g).ok (Ext.refl g'.le) v k3⟩
    | _ => exact False.elim g
/-- frozen -/
def fldOZ (n : AtN) : Option Sl → Res D
  | some (.bk _ true B) => .ok (B.get n)
  | _ => .err
def fldZ (i : Nat) (n : AtN) : Env → Res D := fun δ => fldOZ n δ[i]?
theorem PEp.fldZ (hB : BkC X.K) (c : Ctx X N sc fn) (i : Nat) (n : AtN) (hN : N[i]? = some x := by rfl) (hv : isVis sc x = true := by rfl) (hd : (x == ("__debug__" : Str)) = false := by decide) (hcd : (x == ("__classdict__" : Str)) = false := by decide)
    (hb : attributeBase (.Name x p) n.nm X.env (eval (.Name x p) X.env) = eval (.Name x p) X.env := by rfl) : PEp X W (.Attribute (.Name x p) n.nm pos) (DL.fldZ i n) := by
  refine ⟨_, pe_fld (pe_var (i := i) (by rw [c.hN]; exact hN) (c.vis hv) hd hcd) hb, fun C F δ σ H Q s g => ?_⟩
  unfold DL.fldZ at g
  cases hi : δ[i]? with
  | none => rw [hi] at g; exact False.elim g
  | some sl =>
    rw [hi] at g
    cases sl with
    | bk pq fz B =>
      cases fz with
      | false => exact False.elim g
      | true =>
        obtain ⟨G, g'⟩ := s
        obtain ⟨a, h1, h0, hb⟩ := g'.sl i _ hi
        obtain ⟨dx, fs, v, k1, k2, _, k3⟩ := hb.at g'.le n
        exact ⟨_, join_some h1, a, _, dx, fs, v, rfl, k1, hB.cl, hB.na n, k2, (show Gd W σ F H (.ok (B.get n)) _ from g).ok (Ext.refl g'.le) v (k3 rfl)⟩
    | _ => exact False.elim g
/-- self.f.append(e) -/
def fappD (i : Nat) (n : AtN) (f : Env → Res D) (δ : Env) : Option Sl → Fl
  | some (.bk pq false B) => (match B.lst n with
    | some ds => onR (f δ) δ fun d => if ds.length < 16777216 then .nx (δ.set i (.bk pq false (B.put n (ds ++ [d])))) else .err
    | none => .err)
  | _ => .err
def fappS (i : Nat) (n : AtN) (f : Env → Res D) : Env → Fl := fun δ => fappD i n f δ δ[i]?
theorem PSp.fldApp (hB : BkC X.K) (c : Ctx X N sc fn) (i : Nat) (n : AtN) {f : Env → Res D} {fpos : Pos} (h : PEp X W e f) (hN : N[i]? = some x := by rfl) (hv : isVis sc x = true := by rfl) (hd : (x == ("__debug__" : Str)) = false := by decide) (hcd : (x == ("__classdict__" : Str)) = false := by decide)
    (hb : attributeBase (.Name x p) n.nm X.env (eval (.Name x p) X.env) = eval (.Name x p) X.env := by rfl)
    (hbase : attributeBase (.Attribute (.Name x p) n.nm fpos) "append" X.env (eval (.Attribute (.Name x p) n.nm fpos) X.env) = eval (.Attribute (.Name x p) n.nm fpos) X.env := by rfl)
    (hfew : ((backTo cpos (starEach [e] X.env)).all (fun x => !x.1) && (backToKw cpos (keywordEach [] X.env)).all (fun x => x.1.isSome)
      && decide (([e] : List Expr).length + ([] : List Keyword).length + (if ([] : List Keyword).isEmpty then 0 else 1) < 30)) = true := by rfl)
    (hline : (apos.endLine == cpos.line) = true := by rfl) (hs : starEach [e] X.env = (false, eval e X.env) :: starEach [] X.env := by rfl)
    (hsw : swapsWith (.Call (.Attribute (.Attribute (.Name x p) n.nm fpos) "append" apos) [e] [] cpos) none pos.line X.env = pure false := by rfl) :
    PSp X W (.Expr (.Call (.Attribute (.Attribute (.Name x p) n.nm fpos) "append" apos) [e] [] cpos) pos) (fappS i n f) := by
  obtain ⟨t, pe, q⟩ := h
  refine ⟨_, ps_expr (pe_bm PySem.F.plainAttrs_list PySem.F.slot_list_append PySem.F.type_list_append mt_append (pe_fld (pe_var (i := i) (by rw [c.hN]; exact hN) (c.vis hv) hd hcd) hb) (pa_cons pe pa_nil hs) hbase hfew hline hs rfl) hsw, fun C F δ σ H E s g => ?_⟩
  unfold fappS at g
  cases hi : δ[i]? with
  | none => rw [hi] at g; exact False.elim g
  | some sl =>
    rw [hi] at g
    cases sl with
    | bk pq fz B =>
      cases fz with
      | true => exact False.elim g
      | false =>
        unfold fappD at g
        dsimp only at g
        cases hl : B.lst n with
        | none => rw [hl] at g; exact False.elim g
        | some ds =>
          rw [hl] at g
          dsimp only at g
          obtain ⟨G, sg⟩ := s
          obtain ⟨a, h1, h0, hb⟩ := sg.sl i _ hi
          obtain ⟨dx, fs, pp, vs, k1, k2, k3, k4, k5, k6⟩ := hb.putL hl
          refine ⟨_, join_some h1, a, _, dx, fs, _, rfl, k1, hB.cl, hB.na n, k2, .inl ⟨rfl, vs, SqL.of k4⟩, q C F δ σ H _ ⟨G, sg⟩ (Gs.on ⟨G, sg⟩ g fun d F' H' xx s' k v r => ?_)⟩
          split at k
          · rename_i hz
            refine ⟨pp, vs, v, rfl, rfl, xx.hh _ _ k4, by rw [k5.length]; exact hz, ?_⟩
            refine k F' σ _ (Same.refl _) ⟨G, (sg.ext xx).putG (xx.hh _ _ k4) (.inl ⟨_, rfl⟩) k3 ?_⟩
            rw [h1]
            exact ⟨a, rfl, h0, k6 F' H' _ _ xx.ff (fun b o _ e n => (xx.hh b o e).keep n) ((RpA.mono xx.ff _ _ k5).append (.one r))⟩
          · exact False.elim k
    | _ => exact False.elim g
end
end DL
/-! DX1: items of a book's attributes are stored; an attribute takes a new list. -/
namespace DL
open PySem PySem.Spec PyProof.Rows L2
variable [TabP]
theorem putF_len (f : Str) (v : V) : ∀ {fs : List (Str × V)}, (fs.lookup f).isSome = true → (putF f v fs).length = fs.length
  | [], h => by cases h
  | (g, x) :: r, h => by
    unfold putF
    by_cases e : g = f
    · rw [if_pos e]; rfl
    · rw [if_neg e, List.length_cons, List.length_cons]
      have : (r.lookup f).isSome = true := by
        rw [List.lookup_cons] at h
        have : (f == g) = false := by simpa using fun z => e z.symm
        rw [this] at h
        exact h
      rw [putF_len f v this]
section
variable {K : PySem.W.Frag} {C : Ent} {F F' H H' : Hp} {G G' : Addr → Option Nat} {i : Nat} {a : Addr} {B : Bk} {δ : Env} {σ : L2.St}
/-- a list attribute takes a new list -/
theorem BkO.newL (h : BkO K F G H i false a B) (n : AtN) {ds0 : List D} (hn : B.lst n = some ds0) : ∃ dx fs, G a = some i ∧ H a = some (.ins TabP.BC dx fs) ∧ fs.length ≤ 5 ∧
    ∀ (F' H' : Hp) (G' : Addr → Option Nat) (p : Addr) (vs : List V) (ds : List D), Same F F' → (∀ b, G b = some i → G' b = some i) → (∀ b o, G b = some i → H b = some o → (∀ ps, o ≠ .tbl ps) → H' b = some o) → H p = none → G' p = some i → H' p = some (.lst vs) → RpA K F' vs ds →
      BkO K F' G' (upd H' a (.ins TabP.BC dx (putF n.nm (.ref p) fs))) i false a (B.put n ds) := by
  obtain ⟨dx, fs, ap, am, aw, ad, ao, ⟨h1, h2⟩, h3, h4, h5, ⟨vp, p1, p2, p3⟩, ⟨vm, m1, m2, m3⟩, ⟨vw, w1, w2, w3⟩, ⟨kd, d1, d2, d3⟩, ⟨vo, o1, o2, o3⟩⟩ := h.ex
  simp only [List.nodup_cons, List.mem_cons, List.not_mem_nil, or_false, not_or, List.nodup_nil, and_true, not_false_iff] at h5
  obtain ⟨⟨n1, n2, n3⟩, ⟨n4, n5⟩, n6⟩ := h5
  refine ⟨dx, fs, h1, h2, h3, fun F' H' G' p vs ds ff hg hh hp gp hp2 rp => ?_⟩
  have ne : ∀ {q : Addr} {o : HO}, H q = some o → p ≠ q := fun e z => by rw [← z, hp] at e; cases e
  have hpa : p ≠ a := ne h2
  have nl : ∀ {q : Addr} {ws : List V}, H q = some (.lst ws) → q ≠ a := fun e z => by rw [z, h2] at e; cases e
  have nk : ad ≠ a := fun z => by rw [z, h2] at d2; cases d2
  have kl : ∀ {q : Addr} {ws : List V}, G q = some i → H q = some (.lst ws) → upd H' a (.ins TabP.BC dx (putF n.nm (.ref p) fs)) q = some (.lst ws) := fun e z => by
    rw [upd_ne (nl z)]; exact hh _ _ e z (fun _ y => nomatch y)
  have kk : upd H' a (.ins TabP.BC dx (putF n.nm (.ref p) fs)) ad = some (.dK kd) := by
    rw [upd_ne nk]; exact hh _ _ d1 d2 (fun _ y => nomatch y)
  have kp : upd H' a (.ins TabP.BC dx (putF n.nm (.ref p) fs)) p = some (.lst vs) := by rw [upd_ne hpa]; exact hp2
  have hlen : (putF n.nm (.ref p) fs).length ≤ 5 := by
    rw [putF_len]
    · exact h3
    · rw [h4]; cases n <;> rfl
  have lk : ∀ f, (putF n.nm (.ref p) fs).lookup f = if f = n.nm then some (.ref p) else (bkNs ap am aw ad ao).lookup f := fun f => by rw [lookup_putF, h4]
  have bl : ∀ (q1 q2 q3 q4 q5 : Addr) (f : Str), (bkNs q1 q2 q3 q4 q5).lookup f = if f = "people" then some (.ref q1) else if f = "marriages" then some (.ref q2) else if f = "wills" then some (.ref q3) else if f = "deals" then some (.ref q4) else if f = "other" then some (.ref q5) else none := fun q1 q2 q3 q4 q5 f => by
    unfold bkNs
    simp only [List.lookup_cons, List.lookup_nil]
    by_cases e1 : f = "people"
    · subst e1; rfl
    · rw [if_neg e1, show (f == ("people" : Str)) = false from by simpa using e1]
      by_cases e2 : f = "marriages"
      · subst e2; rfl
      · rw [if_neg e2, show (f == ("marriages" : Str)) = false from by simpa using e2]
        by_cases e3 : f = "wills"
        · subst e3; rfl
        · rw [if_neg e3, show (f == ("wills" : Str)) = false from by simpa using e3]
          by_cases e4 : f = "deals"
          · subst e4; rfl
          · rw [if_neg e4, show (f == ("deals" : Str)) = false from by simpa using e4]
            by_cases e5 : f = "other"
            · subst e5; rfl
            · rw [if_neg e5, show (f == ("other" : Str)) = false from by simpa using e5]
  cases n with
  | pe =>
    cases hn
    refine ⟨dx, _, p, am, aw, ad, ao, ⟨hg _ h1, upd_same⟩, hlen, fun f => ?_, by simp [ne m2, ne w2, ne o2, n4, n5, n6], ⟨vs, gp, kp, rp⟩, ⟨vm, hg _ m1, kl m1 m2, RpA.mono ff _ _ m3⟩, ⟨vw, hg _ w1, kl w1 w2, RpA.mono ff _ _ w3⟩, ⟨kd, hg _ d1, kk, RpK.mono ff _ _ d3⟩, ⟨vo, hg _ o1, kl o1 o2, RpA.mono ff _ _ o3⟩⟩
    rw [lk, bl, bl]
    show (if f = "people" then _ else _) = _
    split <;> rfl
  | ma =>
    cases hn
    refine ⟨dx, _, ap, p, aw, ad, ao, ⟨hg _ h1, upd_same⟩, hlen, fun f => ?_, by simp [(ne p2).symm, ne w2, ne o2, n2, n3, n6], ⟨vp, hg _ p1, kl p1 p2, RpA.mono ff _ _ p3⟩, ⟨vs, gp, kp, rp⟩, ⟨vw, hg _ w1, kl w1 w2, RpA.mono ff _ _ w3⟩, ⟨kd, hg _ d1, kk, RpK.mono ff _ _ d3⟩, ⟨vo, hg _ o1, kl o1 o2, RpA.mono ff _ _ o3⟩⟩
    rw [lk, bl, bl]
    show (if f = "marriages" then _ else _) = _
    by_cases e : f = "marriages"
    · subst e; rfl
    · simp [e]
  | wi =>
    cases hn
    refine ⟨dx, _, ap, am, p, ad, ao, ⟨hg _ h1, upd_same⟩, hlen, fun f => ?_, by simp [(ne p2).symm, (ne m2).symm, ne o2, n1, n3, n5], ⟨vp, hg _ p1, kl p1 p2, RpA.mono ff _ _ p3⟩, ⟨vm, hg _ m1, kl m1 m2, RpA.mono ff _ _ m3⟩, ⟨vs, gp, kp, rp⟩, ⟨kd, hg _ d1, kk, RpK.mono ff _ _ d3⟩, ⟨vo, hg _ o1, kl o1 o2, RpA.mono ff _ _ o3⟩⟩
    rw [lk, bl, bl]
    show (if f = "wills" then _ else _) = _
    by_cases e : f = "wills"
    · subst e; rfl
    · simp [e]
  | ot =>
    cases hn
    refine ⟨dx, _, ap, am, aw, ad, p, ⟨hg _ h1, upd_same⟩, hlen, fun f => ?_, by simp [(ne p2).symm, (ne m2).symm, (ne w2).symm, n1, n2, n4], ⟨vp, hg _ p1, kl p1 p2, RpA.mono ff _ _ p3⟩, ⟨vm, hg _ m1, kl m1 m2, RpA.mono ff _ _ m3⟩, ⟨vw, hg _ w1, kl w1 w2, RpA.mono ff _ _ w3⟩, ⟨kd, hg _ d1, kk, RpK.mono ff _ _ d3⟩, ⟨vs, gp, kp, rp⟩⟩
    rw [lk, bl, bl]
    show (if f = "other" then _ else _) = _
    by_cases e : f = "other"
    · subst e; rfl
    · simp [e]
  | de => cases hn
/-- slot i owns a new thing, too -/
theorem SatG.grow (g : SatG K C F δ σ H G) (i : Nat) {p : Addr} (x : Ext F H F' H') (hp : H p = none) (fp : F' p = none) (hp2 : H' p ≠ none) : SatG K C F' δ σ H' (fun b => if b = p then some i else G b) := by
  have g' := g.ext x
  have g0 := g.h0 hp
  have gn : G p = none := by
    cases z : G p with
    | none => rfl
    | some j => exact absurd hp (g.live p j z)
  have e0 : ∀ b j, (if b = p then some i else G b) = some j → (b = p ∧ j = i) ∨ (b ≠ p ∧ G b = some j) := fun b j z => by
    by_cases hb : b = p
    · rw [if_pos hb] at z; cases z; exact .inl ⟨hb, rfl⟩
    · rw [if_neg hb] at z; exact .inr ⟨hb, z⟩
  refine ⟨g'.le, g'.f0, g'.nw, g'.keep, g'.alive, fun b j z => ?_, fun b j z => ?_, fun b j z => ?_, g'.len, g'.tf, fun j s e => ?_⟩
  · rcases e0 b j z with ⟨rfl, _⟩ | ⟨_, z⟩
    · exact fp
    · exact g'.dis b j z
  · rcases e0 b j z with ⟨rfl, _⟩ | ⟨_, z⟩
    · exact hp2
    · exact g'.live b j z
  · rcases e0 b j z with ⟨rfl, _⟩ | ⟨_, z⟩
    · exact .inl g0.1
    · exact g'.mine b j z
  · have q := g'.sl j s e
    have ne : ∀ {b : Addr} {k : Nat}, G b = some k → (if b = p then some i else G b) = some k := fun {b k} z => by
      by_cases hb : b = p
      · rw [hb, gn] at z; cases z
      · rw [if_neg hb]; exact z
    cases s with
    | no => trivial
    | bk pp fz B =>
      obtain ⟨b, h1, h0, hb⟩ := q
      exact ⟨b, h1, h0, hb.mono (Same.refl _) (fun _ z => ne z) fun _ _ _ z _ => z⟩
    | pin => exact q
    | val d => exact q
    | own ds =>
      obtain ⟨b, vs, h1, h2, h3, h4⟩ := q
      exact ⟨b, vs, h1, ne h2, h3, h4⟩
    | ownK kvs =>
      obtain ⟨b, vs, h1, h2, h3, h4⟩ := q
      exact ⟨b, vs, h1, ne h2, h3, h4⟩
    | deep es =>
      obtain ⟨b, vs, Fd, h1, h2, h3, h4⟩ := q
      exact ⟨b, vs, Fd, h1, ne h2, h3, fun ds e => (h4 ds e).mono (Same.refl _) (fun _ z => ne z) (h4 ds e).le⟩
    | ownN pp kvs =>
      obtain ⟨b, es, h1, h2, h3, h4, h5⟩ := q
      exact ⟨b, es, h1, ne h2, h3, h4, h5⟩
    | bor pp kvs =>
      have q0 := g.sl j _ e
      obtain ⟨b, es, h1, h2, h3, h4, h5⟩ := q
      obtain ⟨b0, es0, k1, k2, k3, k4, _⟩ := q0
      rw [h1] at k1
      cases k1
      exact ⟨b, es, h1, by
        show (if b = p then some i else G b) = none
        rw [if_neg (fun z => by rw [z, hp] at k3; cases k3)]; exact h2, h3, h4, h5⟩
end
section
variable {X : Cx} {N : List Str} {sc : Scope} {fn : Str → Bool} {W : WS} {e : Expr} {pos : Pos} {x : Str} {p p2 apos cpos : Pos}
/-- self.f = e, a new list -/
def fnewD (i : Nat) (n : AtN) (f : Env → Res (List D)) (δ : Env) : Option Sl → Fl
  | some (.bk pq false B) => (match B.lst n with
    | some _ => onR (f δ) δ fun ds => .nx (δ.set i (.bk pq false (B.put n ds)))
    | none => .err)
  | _ => .err
def fnewS (i : Nat) (n : AtN) (f : Env → Res (List D)) : Env → Fl := fun δ => fnewD i n f δ δ[i]?
theorem PSp.fldNew (hB : BkC X.K) (c : Ctx X N sc fn) (i : Nat) (n : AtN) {f : Env → Res (List D)} (h : PFp X W e f) (hN : N[i]? = some x := by rfl) (hv : isVis sc x = true := by rfl) (hd : (x == ("__debug__" : Str)) = false := by decide) (hcd : (x == ("__classdict__" : Str)) = false := by decide)
    (hs : swapsWith e (some (.Attribute (.Name x p) n.nm p2)) pos.line X.env = pure false := by rfl) :
    PSp X W (.Assign [.Attribute (.Name x p) n.nm p2] e pos) (fnewS i n f) := by
  obtain ⟨t, pe, q⟩ := h
  refine ⟨_, ps_fld (pe_var (i := i) (by rw [c.hN]; exact hN) (c.vis hv) hd hcd) pe hs, fun C F δ σ H E s g => ?_⟩
  unfold fnewS at g
  cases hi : δ[i]? with
  | none => rw [hi] at g; exact False.elim g
  | some sl =>
    rw [hi] at g
    cases sl with
    | bk pq fz B =>
      cases fz with
      | true => exact False.elim g
      | false =>
        unfold fnewD at g
        dsimp only at g
        cases hl : B.lst n with
        | none => rw [hl] at g; exact False.elim g
        | some ds0 =>
          rw [hl] at g
          dsimp only at g
          obtain ⟨G, sg⟩ := s
          obtain ⟨a, h1, h0, hb⟩ := sg.sl i _ hi
          obtain ⟨dx, fs, k1, k2, k3, k4⟩ := hb.newL n hl
          refine q C F δ σ H _ ⟨G, sg⟩ ((Gs.on ⟨G, sg⟩ g fun ds F' H' xx s' k => ?_))
          intro q' vs hq fq hq2 rv
          have ha : H' a = some (.ins TabP.BC dx fs) := (xx.hh _ _ k2).keep fun _ z => nomatch z
          refine ⟨_, join_some h1, a, _, dx, fs, rfl, ha, hB.cl, hB.na n, by omega, ?_⟩
          have sg2 := sg.grow i xx hq fq (by rw [hq2]; exact fun z => nomatch z)
          have hne : ∀ b, G b = some i → (if b = q' then some i else G b) = some i := fun b z => by
            by_cases hb : b = q'
            · rw [if_pos hb]
            · rw [if_neg hb]; exact z
          refine k F' σ _ (Same.refl _) ⟨_, sg2.putG ha (.inr (.inr (.inr ⟨_, _, _, rfl⟩))) (hne a k1) ?_⟩
          rw [h1]
          exact ⟨a, rfl, h0, k4 F' H' _ q' vs ds xx.ff hne (fun b o _ e n => (xx.hh b o e).keep n) hq (if_pos rfl) hq2 rv⟩
    | _ => exact False.elim g
/-- self.f[k] = e, a list -/
def fsetD (i : Nat) (n : AtN) (fk f : Env → Res D) (δ : Env) : Option Sl → Fl
  | some (.bk pq false B) => (match B.lst n with
    | some ds => onR ((f δ).bind fun d => (fk δ).bind fun k => .ok (d, k)) δ fun pr => (match pr.2 with
      | .int k => (match L2.ixN ds.length k with
        | some j => .nx (δ.set i (.bk pq false (B.put n (ds.set j pr.1))))
        | none => .err)
      | _ => .err)
    | none => .err)
  | _ => .err
def fsetS (i : Nat) (n : AtN) (fk f : Env → Res D) : Env → Fl := fun δ => fsetD i n fk f δ δ[i]?
theorem PSp.fldSet {k : Expr} {spos : Pos} (hB : BkC X.K) (c : Ctx X N sc fn) (i : Nat) (n : AtN) {f fk : Env → Res D} (h : PEp X W e f) (hk : PRp X W k fk) (hN : N[i]? = some x := by rfl) (hv : isVis sc x = true := by rfl) (hd : (x == ("__debug__" : Str)) = false := by decide) (hcd : (x == ("__classdict__" : Str)) = false := by decide)
    (hb : attributeBase (.Name x p) n.nm X.env (eval (.Name x p) X.env) = eval (.Name x p) X.env := by rfl)
    (ha : ∀ v, assign (.Subscript (.Attribute (.Name x p) n.nm p2) k spos) X.env v = (do
      let ov ← holding [v] (eval (.Attribute (.Name x p) n.nm p2) X.env)
      let iv ← holding [v, ov] (eval k X.env)
      standAt spos
      holding [v, ov, iv] (setItem ov iv v)
      release [v, ov, iv] []) := by intro _; rfl)
    (hs : swapsWithSole [.Subscript (.Attribute (.Name x p) n.nm p2) k spos] e pos.line X.env = pure false := by rfl) (hw : swappedStores [.Subscript (.Attribute (.Name x p) n.nm p2) k spos] e X.env = pure none := by rfl)
    (h1 : (assignEach [.Subscript (.Attribute (.Name x p) n.nm p2) k spos] X.env).map (·.2) = [assign (.Subscript (.Attribute (.Name x p) n.nm p2) k spos) X.env] := by rfl) :
    PSp X W (.Assign [.Subscript (.Attribute (.Name x p) n.nm p2) k spos] e pos) (fsetS i n fk f) := by
  obtain ⟨t, pe, q⟩ := h
  obtain ⟨u, pk, qk⟩ := hk
  refine ⟨_, ps_asg pe (pg_sub (pe_fld (pe_var (i := i) (by rw [c.hN]; exact hN) (c.vis hv) hd hcd) hb) pk set_list ha) hs hw h1, fun C F δ σ H E s g => ?_⟩
  unfold fsetS at g
  cases hi : δ[i]? with
  | none => rw [hi] at g; exact False.elim g
  | some sl =>
    rw [hi] at g
    cases sl with
    | bk pq fz B =>
      cases fz with
      | true => exact False.elim g
      | false =>
        unfold fsetD at g
        dsimp only at g
        cases hl : B.lst n with
        | none => rw [hl] at g; exact False.elim g
        | some ds =>
          rw [hl] at g
          dsimp only at g
          obtain ⟨G, sg⟩ := s
          have s : Sat X.K C F δ σ H := ⟨G, sg⟩
          obtain ⟨a, e1, h0, hb⟩ := sg.sl i _ hi
          obtain ⟨dx, fs, pp, vs, k1, k2, k3, k4, k5, k6⟩ := hb.putL hl
          have g1 : Gd W σ F H ((f δ).bind fun d => (fk δ).bind fun k => .ok (d, k)) (fun p F' H' => Ext F H F' H' ∧ Sat X.K C F' δ σ H' ∧ Gs X.K W C F' E _) := Gs.on s g fun p F' H' x s' h' => ⟨x, s', h'⟩
          refine q C F δ σ H _ s (g1.bind.mono fun d F1 H1 x1 g2 v rv => ?_)
          refine ⟨_, join_some e1, a, _, dx, fs, _, rfl, (x1.hh _ _ k1).keep (fun _ z => nomatch z), hB.cl, hB.na n, k2, ?_⟩
          refine qk C F1 δ σ H1 _ (s.ext x1) (g2.bind.mono fun k F2 H2 x2 g3 z rz => ?_)
          obtain ⟨x3, s', g4⟩ := g3.ok (Ext.refl x2.le)
          dsimp only at g4
          split at g4
          · rename_i kk
            split at g4
            · rename_i j ej
              refine ⟨pp, vs, kk, j, rfl, Rt.int rz, x3.hh _ _ k4, by rw [k5.length]; exact ej, ?_⟩
              refine g4 F2 σ _ (Same.refl _) ⟨G, (sg.ext x3).putG (x3.hh _ _ k4) (.inl ⟨_, rfl⟩) k3 ?_⟩
              rw [e1]
              exact ⟨a, rfl, h0, k6 F2 H2 _ _ x3.ff (fun b o _ e n => (x3.hh b o e).keep n) ((RpA.mono x3.ff _ _ k5).set (Rp.mono x2.ff _ _ rv) j)⟩
            · exact False.elim g4
          · exact False.elim g4
    | _ => exact False.elim g
/-- self.deals[k] = e -/
def fputD (i : Nat) (fk f : Env → Res D) (δ : Env) : Option Sl → Fl
  | some (.bk pq false B) => onR ((f δ).bind fun d => (fk δ).bind fun k => .ok (d, k)) δ fun pr => (match keyOf pr.2 with
      | some k => if B.de.length < sizeLine then .nx (δ.set i (.bk pq false { B with de := putKD B.de k pr.1 })) else .err
      | none => .err)
  | _ => .err
def fputS (i : Nat) (fk f : Env → Res D) : Env → Fl := fun δ => fputD i fk f δ δ[i]?
theorem PSp.fldPut {k : Expr} {spos : Pos} (hB : BkC X.K) (c : Ctx X N sc fn) (i : Nat) {f fk : Env → Res D} (h : PEp X W e f) (hk : PRp X W k fk) (hN : N[i]? = some x := by rfl) (hv : isVis sc x = true := by rfl) (hd : (x == ("__debug__" : Str)) = false := by decide) (hcd : (x == ("__classdict__" : Str)) = false := by decide)
    (hb : attributeBase (.Name x p) AtN.de.nm X.env (eval (.Name x p) X.env) = eval (.Name x p) X.env := by rfl)
    (ha : ∀ v, assign (.Subscript (.Attribute (.Name x p) AtN.de.nm p2) k spos) X.env v = (do
      let ov ← holding [v] (eval (.Attribute (.Name x p) AtN.de.nm p2) X.env)
      let iv ← holding [v, ov] (eval k X.env)
      standAt spos
      holding [v, ov, iv] (setItem ov iv v)
      release [v, ov, iv] []) := by intro _; rfl)
    (hs : swapsWithSole [.Subscript (.Attribute (.Name x p) AtN.de.nm p2) k spos] e pos.line X.env = pure false := by rfl) (hw : swappedStores [.Subscript (.Attribute (.Name x p) AtN.de.nm p2) k spos] e X.env = pure none := by rfl)
    (h1 : (assignEach [.Subscript (.Attribute (.Name x p) AtN.de.nm p2) k spos] X.env).map (·.2) = [assign (.Subscript (.Attribute (.Name x p) AtN.de.nm p2) k spos) X.env] := by rfl) :
    PSp X W (.Assign [.Subscript (.Attribute (.Name x p) AtN.de.nm p2) k spos] e pos) (fputS i fk f) := by
  obtain ⟨t, pe, q⟩ := h
  obtain ⟨u, pk, qk⟩ := hk
  refine ⟨_, ps_asg pe (pg_sub (pe_fld (pe_var (i := i) (by rw [c.hN]; exact hN) (c.vis hv) hd hcd) hb) pk (set_dict c.u1) ha) hs hw h1, fun C F δ σ H E s g => ?_⟩
  unfold fputS at g
  cases hi : δ[i]? with
  | none => rw [hi] at g; exact False.elim g
  | some sl =>
    rw [hi] at g
    cases sl with
    | bk pq fz B =>
      cases fz with
      | true => exact False.elim g
      | false =>
        unfold fputD at g
        dsimp only at g
        obtain ⟨G, sg⟩ := s
        have s : Sat X.K C F δ σ H := ⟨G, sg⟩
        obtain ⟨a, e1, h0, hb⟩ := sg.sl i _ hi
        obtain ⟨dx, fs, pp, vs, k1, k2, k3, k4, k5, k6⟩ := hb.putK
        have g1 : Gd W σ F H ((f δ).bind fun d => (fk δ).bind fun k => .ok (d, k)) (fun p F' H' => Ext F H F' H' ∧ Sat X.K C F' δ σ H' ∧ Gs X.K W C F' E _) := Gs.on s g fun p F' H' x s' h' => ⟨x, s', h'⟩
        refine q C F δ σ H _ s (g1.bind.mono fun d F1 H1 x1 g2 v rv => ?_)
        refine ⟨_, join_some e1, a, _, dx, fs, _, rfl, (x1.hh _ _ k1).keep (fun _ z => nomatch z), hB.cl, hB.na .de, k2, ?_⟩
        refine qk C F1 δ σ H1 _ (s.ext x1) (g2.bind.mono fun k F2 H2 x2 g3 z rz => ?_)
        obtain ⟨x3, s', g4⟩ := g3.ok (Ext.refl x2.le)
        dsimp only at g4
        split at g4
        · rename_i kk ek
          split at g4
          · rename_i hz
            refine ⟨pp, upd H2 pp (.dK (putK vs kk v)), rfl, ?_, g4 F2 σ _ (Same.refl _) ⟨G, (sg.ext x3).putG (x3.hh _ _ k4) (.inr (.inl ⟨_, rfl⟩)) k3 ?_⟩⟩
            · rw [rz.key ek]
              exact DPut.k (x3.hh _ _ k4) (by rw [k5.length]; exact hz)
            · rw [e1]
              exact ⟨a, rfl, h0, k6 F2 H2 _ _ x3.ff (fun b o _ e n => (x3.hh b o e).keep n) ((RpK.mono x3.ff _ _ k5).put kk (Rp.mono x2.ff _ _ rv))⟩
          · exact False.elim g4
        · exact False.elim g4
    | _ => exact False.elim g
end
end DL
/-! DX2: defs that are handed a book. -/
namespace DL
open PySem PySem.Spec PyProof.Rows L2
variable [TabP]
section
variable {K : PySem.W.Frag} {C : Ent} {F F' H H' : Hp} {G G' : Addr → Option Nat} {i j : Nat} {a : Addr} {B : Bk} {δ : Env} {σ : L2.St} {P : Nat → V} {x : Option V} {s : Sl}
theorem SlOk.mono (h : SlOk K P F G H j x s) (hF : Same F F') (hG : ∀ b, G b = some j → G' b = some j) (hH : ∀ b o, G b = some j → H b = some o → NT o (H' b)) (hN : ∀ b, G b = none → H b ≠ none → G' b = none) (hB : ∀ b o, G b = none → H b = some o → NT o (H' b)) (hD : ∀ b o, F b = some o → G b = none) : SlOk K P F' G' H' j x s := by
  have hH' : ∀ b o, G b = some j → H b = some o → (∀ ps, o ≠ .tbl ps) → H' b = some o := fun b o e z n => (hH b o e z).keep n
  cases s with
  | no => trivial
  | bk p fz B =>
    obtain ⟨b, h1, h0, hb⟩ := h
    exact ⟨b, h1, h0, hb.mono hF hG hH'⟩
  | pin => exact h
  | val d =>
    obtain ⟨v, h1, h2⟩ := h
    exact ⟨v, h1, Rp.mono hF _ _ h2⟩
  | own ds =>
    obtain ⟨b, vs, h1, h2, h3, h4⟩ := h
    exact ⟨b, vs, h1, hG _ h2, hH _ _ h2 h3, RpA.mono hF _ _ h4⟩
  | ownK kvs =>
    obtain ⟨b, vs, h1, h2, h3, h4⟩ := h
    exact ⟨b, vs, h1, hG _ h2, hH _ _ h2 h3, RpK.mono hF _ _ h4⟩
  | deep es =>
    obtain ⟨b, vs, Fd, h1, h2, h3, h4⟩ := h
    refine ⟨b, vs, Fd, h1, hG _ h2, hH _ _ h2 h3, fun ds e => ⟨(h4 ds e).ra, (h4 ds e).nt, fun c o z => ?_, fun c o z => ?_, fun c w ws z => hG _ ((h4 ds e).il c w ws z)⟩⟩
    · have z1 := (h4 ds e).le c o z
      have n1 : ∀ ps, o ≠ .tbl ps := fun ps y => (h4 ds e).nt c ps (y ▸ z)
      cases q : G c with
      | none => exact (hB c o q z1).keep n1
      | some k =>
        by_cases hk : k = j
        · subst hk; exact hH' c o q z1 n1
        · exfalso
          rcases (h4 ds e).pr c o z with y | y
          · rw [hD c o y] at q; cases q
          · rw [q] at y; cases y; exact hk rfl
    · rcases (h4 ds e).pr c o z with y | y
      · exact .inl (hF c o y)
      · exact .inr (hG c y)
  | ownN p kvs =>
    obtain ⟨b, es, h1, h2, h3, h4, h5⟩ := h
    exact ⟨b, es, h1, hG _ h2, hH _ _ h2 h3, h4.mono hF, h5⟩
  | bor p kvs =>
    obtain ⟨b, es, h1, h2, h3, h4, h5⟩ := h
    exact ⟨b, es, h1, hN b h2 (by rw [h3]; exact fun z => nomatch z), hB _ _ h2 h3, h4.mono hF, h5⟩
/-- the callee's owners -/
def g0Of (G : Addr → Option Nat) (i : Nat) : Addr → Option Nat := fun b => if G b = some i then some 0 else none
theorem g0Of_eq {b : Addr} {k : Nat} (h : g0Of G i b = some k) : k = 0 ∧ G b = some i := by
  unfold g0Of at h
  by_cases e : G b = some i
  · rw [if_pos e] at h; cases h; exact ⟨rfl, e⟩
  · rw [if_neg e] at h; cases h
theorem g0Of_pos {b : Addr} (h : G b = some i) : g0Of G i b = some 0 := if_pos h
theorem BkO.re {i' : Nat} (h : BkO K F G H i false a B) (hG : ∀ b, G b = some i → G' b = some i') : BkO K F G' H i' false a B := by
  obtain ⟨dx, fs, ap, am, aw, ad, ao, ⟨h1, h2⟩, h3, h4, h5, ⟨vp, p1, p2, p3⟩, ⟨vm, m1, m2, m3⟩, ⟨vw, w1, w2, w3⟩, ⟨kd, d1, d2, d3⟩, ⟨vo, o1, o2, o3⟩⟩ := h.ex
  exact ⟨dx, fs, ap, am, aw, ad, ao, ⟨hG _ h1, h2⟩, h3, h4, h5, ⟨vp, hG _ p1, p2, p3⟩, ⟨vm, hG _ m1, m2, m3⟩, ⟨vw, hG _ w1, w2, w3⟩, ⟨kd, hG _ d1, d2, d3⟩, ⟨vo, hG _ o1, o2, o3⟩⟩
end
def ownOf (G : Addr → Option Nat) : Addr → Prop := fun b => G b = some 0
/-- what is handed: the book a and data -/
structure HandB (K : PySem.W.Frag) (F H : Hp) (G : Addr → Option Nat) (vs : List V) (a : Addr) (B : Bk) (ds : List D) (n : Nat) : Prop where
  vs : ∃ vs', vs = .ref a :: vs' ∧ RpA K F vs' ds
  le : Same F H
  tf : TF F H
  n : ds.length = n
  bk : BkO K F G H 0 false a B
  own : ∀ b k, G b = some k → k = 0 ∧ F b = none ∧ H b ≠ none
def startM (m : Nat) (B : Bk) (ds : List D) : Env := .bk true false B :: (ds.map Sl.val ++ List.replicate (m - 1 - ds.length) .no)
theorem HandB.sat {K : PySem.W.Frag} {F H : Hp} {G : Addr → Option Nat} {vs : List V} {a : Addr} {B : Bk} {ds : List D} {n : Nat} (h : HandB K F H G vs a B ds n) {N : List Str} (hN : 1 + ds.length ≤ N.length) : Sat K ⟨F, H, ownOf G, fun _ => .ref a⟩ F (startM N.length B ds) (L2.start N vs) H := by
  obtain ⟨vs', rfl, rv⟩ := h.vs
  have hl := rv.length
  refine ⟨G, h.le, Same.refl _, fun b o e => .inl e, fun b o e => .inr (.of e), fun b z => (h.own b 0 z).2.2, fun b k e => (h.own b k e).2.1, fun b k e => (h.own b k e).2.2, fun b k e => .inr (by obtain ⟨rfl, _⟩ := h.own b k e; exact e), ?_, h.tf, fun k s e => ?_⟩
  · unfold L2.start startM
    simp only [List.length_append, List.length_cons, List.length_map, List.length_replicate, hl]
    omega
  · unfold startM at e
    cases k with
    | zero => cases e; exact ⟨a, rfl, fun _ => rfl, h.bk⟩
    | succ k =>
      rw [List.getElem?_cons_succ] at e
      have e2 : (L2.start N (.ref a :: vs'))[k + 1]? = (vs'.map some ++ List.replicate (N.length - (vs'.length + 1)) none)[k]? := rfl
      rw [e2]
      by_cases hi : k < ds.length
      · rw [List.getElem?_append_left (by rw [List.length_map]; exact hi), List.getElem?_map] at e
        cases hd : ds[k]? with
        | none => rw [hd] at e; cases e
        | some d =>
          rw [hd] at e
          cases e
          obtain ⟨v, hv, rv2⟩ := rv.get hd
          rw [List.getElem?_append_left (by rw [List.length_map, hl]; exact hi), List.getElem?_map, hv]
          exact ⟨v, rfl, rv2⟩
      · rw [List.getElem?_append_right (by rw [List.length_map]; omega), List.getElem?_replicate] at e
        split at e
        · cases e; trivial
        · cases e
/-- a def that may change the book that it is handed first -/
def spM (K : PySem.W.Frag) (n : Nat) (φ : Bk → List D → Res (D × Bk)) : Sp := fun vs H Q _ => ∃ F ds B a G, HandB K F H G vs a B ds n ∧ match φ B ds with
  | .ok (d, B') => ∀ F' δ' σ' H' v, Same F F' → Sat K ⟨F, H, ownOf G, fun _ => .ref a⟩ F' δ' σ' H' → δ'[0]? = some (.bk true false B') → Rp K F' v d → Q v H'
  | _ => False
/-- one that reads it -/
def spQ (K : PySem.W.Frag) (n : Nat) (φ : Bk → List D → Res D) : Sp := fun vs H Q _ => ∃ F ds B a G, HandB K F H G vs a B ds n ∧ match φ B ds with
  | .ok d => ∀ F' H', Ext F H F' H' → ∀ v, Rp K F' v d → Q v H'
  | _ => False
def spQF (K : PySem.W.Frag) (n : Nat) (φ : Bk → List D → Res (List D)) : Sp := fun vs H Q _ => ∃ F ds B a G, HandB K F H G vs a B ds n ∧ match φ B ds with
  | .ok es => ∀ F' H', Ext F H F' H' → ∀ p ws, H p = none → F' p = none → H' p = some (.lst ws) → RpA K F' ws es → Q (.ref p) H'
  | _ => False
def endMS (d : D) : Option Sl → Res (D × Bk)
  | some (.bk true false B) => .ok (d, B)
  | _ => .err
def endM : Fl → Res (D × Bk)
  | .rb d δ => endMS d δ[0]?
  | .nx δ => endMS .none δ[0]?
  | _ => .err
theorem endMS_ok {d d' : D} {o : Option Sl} {B : Bk} (h : endMS d o = .ok (d', B)) : d' = d ∧ o = some (.bk true false B) := by
  unfold endMS at h
  split at h
  · cases h; exact ⟨rfl, rfl⟩
  · cases h
def runM (fb : Env → Fl) (m : Nat) : Bk → List D → Res (D × Bk) := fun B ds => endM (fb (startM m B ds))
theorem endM_ok {r : Fl} {d : D} {B : Bk} (h : endM r = .ok (d, B)) : (∃ δ, r = .rb d δ ∧ δ[0]? = some (.bk true false B)) ∨ ∃ δ, r = .nx δ ∧ d = .none ∧ δ[0]? = some (.bk true false B) := by
  cases r with
  | rb d0 δ => obtain ⟨e1, e2⟩ := endMS_ok (show endMS d0 δ[0]? = _ from h); subst e1; exact .inl ⟨δ, rfl, e2⟩
  | nx δ => obtain ⟨e1, e2⟩ := endMS_ok (show endMS .none δ[0]? = _ from h); exact .inr ⟨δ, rfl, e1, e2⟩
  | _ => cases h
/-! ### methods -/
structure TopM (K : PySem.W.Frag) (m q : Str) (st : Stmt) : Prop where
  ex : ∃ f fd, Fun K m q st f fd ∧ Meth K TabP.BC m f
structure KnM (P : Program) (w : World) (K : PySem.W.Frag) (mg : Str → Option Value) (base : Heap) (CX : CXT) (m : Str) (k : Nat) (sp : Sp) : Prop where
  ex : ∃ f fd ps, FnOk P w K mg base CX k f fd ps sp ∧ Meth K TabP.BC m f ∧ Binds K fd ps []
structure CalM (P : Program) (w : World) (K : PySem.W.Frag) (mg : Str → Option Value) (base : Heap) (A : Around) (CX : CXT) (m : Str) (sp : Sp) : Prop where
  ex : ∃ f fd ps k, FnOk P w K mg base CX k f fd ps sp ∧ Room k A ∧ Meth K TabP.BC m f ∧ Binds K fd ps []
theorem KnM.cal {P : Program} {w : World} {K : PySem.W.Frag} {mg : Str → Option Value} {base : Heap} {CX : CXT} {m : Str} {k : Nat} {sp : Sp} (h : KnM P w K mg base CX m k sp) {A : Around} {j : Nat} (hr : Room j A) (hk : k ≤ j) : CalM P w K mg base A CX m sp := by
  obtain ⟨f, fd, ps, F, mt, b⟩ := h.ex
  exact ⟨f, fd, ps, k, F, hr.mono hk, mt, b⟩
section
variable {P : Program} {w : World} {K : PySem.W.Frag} {mg : Str → Option Value} {base : Heap} {x qual : Str} {st : Stmt} {f : Addr} {fd : FuncData} {N ps : List Str} {k : Nat} {fb : Env → Fl}
theorem ok_defM (Fn : Fun K x qual st f fd) (S : FnScope N ps (defScope st)) (n : Nat) (hn : n + 1 = ps.length) (m : Nat) (hm : N.length = m) (hnm : 1 + n ≤ m) (hb : BodyT P w K mg base k N st fb) :
    FnOk P w K mg base CX0 (k + 1) f fd ps (spM K n (runM fb m)) := by
  refine Fn.ok S (fun vs H Q E ⟨F, ds, B, a, G, h, _⟩ => by obtain ⟨vs', e, r⟩ := h.vs; rw [e, List.length_cons, r.length, h.n, hn]) fun cdv A outer s H vs Q E hr h => ?_
  obtain ⟨t, p, q⟩ := hb (cxOf CX0 P w K mg base N qual (defScope st) f cdv A outer s H E).nox rfl rfl rfl rfl rfl hr S.kind (ctx_nox S hr)
  refine ⟨t, p, ?_⟩
  obtain ⟨F, ds, B, a, G, h1, h4⟩ := h
  have s0 := h1.sat (N := N) (by rw [h1.n, hm]; exact hnm)
  rw [hm] at s0
  refine q _ F _ _ H _ s0 ?_
  cases r : runM fb m B ds with
  | exc c => rw [r] at h4; exact h4.elim
  | err => rw [r] at h4; exact h4.elim
  | ok z =>
    obtain ⟨d, B'⟩ := z
    rw [r] at h4
    rcases endM_ok r with ⟨δ, e, e2⟩ | ⟨δ, e, rfl, e2⟩
    · rw [e]; exact fun F' σ' H' v e s rv => h4 F' δ σ' H' v e s e2 rv
    · rw [e]; exact fun F' σ' H' e s => h4 F' δ σ' H' .non e s e2 .non
theorem KnM.def_ (T : TopM K x qual st) (S : FnScope N ps (defScope st)) (n : Nat) (hn : n + 1 = ps.length) (m : Nat) (hm : N.length = m) (hnm : 1 + n ≤ m)
    (hbd : ∀ (kV doc pm : Value) (an : Option Addr) (cdv ct : Value) (us : List Value), us.length = ps.length → bindArgs (PySem.W.fnOf x qual (defArgs st) (defBody st) (defScope st) .none kV doc pm an cdv ct) ⟨us, []⟩ = pure (ps.zip us)) (hb : BodyT P w K mg base k N st fb) : KnM P w K mg base CX0 x (k + 1) (spM K n (runM fb m)) := by
  obtain ⟨f, fd, F, e⟩ := T.ex
  exact ⟨f, fd, ps, ok_defM F S n hn m hm hnm hb, e, F.binds hbd⟩
/-- a def at the top that is handed a book -/
theorem Kn.defM (T : Top K mg x st) (S : FnScope N ps (defScope st)) (n : Nat) (hn : n + 1 = ps.length) (m : Nat) (hm : N.length = m) (hnm : 1 + n ≤ m) (hbd : BindT x st ps) (hb : BodyT P w K mg base k N st fb) : Kn P w K mg base CX0 x (k + 1) (spM K n (runM fb m)) := by
  obtain ⟨f, fd, F, e⟩ := T.ex
  exact ⟨f, fd, ps, ok_defM F S n hn m hm hnm hb, e, F.kp, F.binds hbd⟩
end
/-! ### the caller -/
section
variable {K : PySem.W.Frag} {C : Ent} {F F' H H' : Hp} {G : Addr → Option Nat} {i : Nat} {a : Addr} {B B' : Bk} {δ δ' : Env} {σ σ' : L2.St} {pq : Bool} {vs : List V} {ds : List D} {n : Nat}
theorem SatG.hand (g : SatG K C F δ σ H G) (hi : δ[i]? = some (.bk pq false B)) (hx : (σ[i]?).join = some (.ref a)) (rv : RpA K F vs ds) (hn : ds.length = n) : HandB K F H (g0Of G i) (.ref a :: vs) a B ds n := by
  obtain ⟨a', h1, _, hb⟩ := g.sl i _ hi
  rw [hx] at h1
  cases h1
  refine ⟨⟨vs, rfl, rv⟩, g.le, g.tf, hn, hb.re fun b z => g0Of_pos z, fun b k z => ?_⟩
  obtain ⟨e, e2⟩ := g0Of_eq z
  exact ⟨e, g.dis b i e2, g.live b i e2⟩
/-- behind the call -/
theorem SatG.behind (g : SatG K C F δ σ H G) (hi : δ[i]? = some (.bk pq false B)) (hx : (σ[i]?).join = some (.ref a)) (ff : Same F F') (s' : Sat K ⟨F, H, ownOf (g0Of G i), fun _ => .ref a⟩ F' δ' σ' H') (e2 : δ'[0]? = some (.bk true false B')) : Sat K C F' (δ.set i (.bk pq false B')) σ H' := by
  obtain ⟨a1, x1, x0, _⟩ := g.sl i _ hi
  rw [hx] at x1
  cases x1
  obtain ⟨G', g'⟩ := s'
  obtain ⟨a2, y1, y0, hb⟩ := g'.sl 0 _ e2
  obtain rfl : a = a2 := V.ref.inj (y0 rfl)
  have ow : ∀ b, ownOf (g0Of G i) b ↔ G b = some i := fun b => ⟨fun z => (g0Of_eq z).2, fun z => g0Of_pos z⟩
  have kp : ∀ b o, G b ≠ some i → H b = some o → NT o (H' b) := fun b o z e => (g'.keep b o e).resolve_left fun y => z ((ow b).mp y)
  have gn : ∀ b, H b ≠ none → G b ≠ some i → G' b ≠ some 0 := fun b z y w => by
    rcases g'.mine b 0 w with q | q
    · exact z q
    · exact y ((ow b).mp q)
  refine ⟨fun b => if G' b = some 0 then some i else if G b = some i then none else G b, g'.le, g.f0.trans ff, fun b o e => ?_, fun b o e => ?_, fun b z e => ?_, fun b j z => ?_, fun b j z => ?_, fun b j z => ?_, by rw [List.length_set]; exact g.len, g'.tf, fun j s e => ?_⟩
  · rcases g'.nw b o e with z | z | z
    · exact g.nw b o z
    · exact .inr (.inl (g.h0 (show H b = none from z)).1)
    · exact .inr (g.mine b i ((ow b).mp z))
  · rcases g.keep b o e with z | z
    · exact .inl z
    · by_cases hb : G b = some i
      · rcases g.mine b i hb with y | y
        · rw [y] at e; cases e
        · exact .inl y
      · cases q : H b with
        | none => exact absurd q z.some
        | some o2 =>
          have y := kp b o2 hb q
          rw [q] at z
          cases o with
          | tbl ps =>
            obtain ⟨qs, e3⟩ := z
            cases e3
            exact .inr y
          | _ =>
            have z : some o2 = some _ := z
            cases z
            exact .inr y
  · have hb := g.alive b z
    cases q : H b with
    | none => exact hb q
    | some o =>
      rcases g'.keep b o q with y | y
      · exact g'.alive b y e
      · exact y.some e
  · by_cases h1 : G' b = some 0
    · exact g'.dis b 0 h1
    · rw [if_neg h1] at z
      by_cases h2 : G b = some i
      · rw [if_pos h2] at z; cases z
      · rw [if_neg h2] at z
        cases q : F' b with
        | none => rfl
        | some o =>
          rcases g'.nw b o q with y | y | y
          · have := g.dis b j z; rw [show F b = some o from y] at this; cases this
          · exact absurd y (g.live b j z)
          · exact absurd ((ow b).mp y) h2
  · by_cases h1 : G' b = some 0
    · exact g'.live b 0 h1
    · rw [if_neg h1] at z
      by_cases h2 : G b = some i
      · rw [if_pos h2] at z; cases z
      · rw [if_neg h2] at z
        cases q : H b with
        | none => exact absurd q (g.live b j z)
        | some o => exact (kp b o h2 q).some
  · by_cases h1 : G' b = some 0
    · rcases g'.mine b 0 h1 with y | y
      · exact .inl (g.h0 (show H b = none from y)).1
      · exact g.mine b i ((ow b).mp y)
    · rw [if_neg h1] at z
      by_cases h2 : G b = some i
      · rw [if_pos h2] at z; cases z
      · rw [if_neg h2] at z; exact g.mine b j z
  · by_cases hj : i = j
    · subst hj
      rw [List.getElem?_set_self (List.getElem?_eq_some_iff.mp hi).1] at e
      cases e
      exact ⟨a, hx, x0, hb.re fun b z => if_pos z⟩
    · rw [List.getElem?_set_ne hj] at e
      have hne : ∀ b k, G b = some k → k ≠ i → G b ≠ some i := fun b k z y w => y (by rw [z] at w; cases w; rfl)
      refine (g.sl j s e).mono ff (fun b z => ?_) (fun b o z w => kp b o (hne b j z fun y => hj y.symm) w) (fun b z w => ?_) (fun b o z w => kp b o (by rw [z]; exact fun y => nomatch y) w) (fun b o z => ?_)
      · have n1 := hne b j z fun y => hj y.symm
        show (if G' b = some 0 then some i else if G b = some i then none else G b) = some j
        rw [if_neg (gn b (g.live b j z) n1), if_neg n1]; exact z
      · have n1 : G b ≠ some i := by rw [z]; exact fun y => nomatch y
        show (if G' b = some 0 then some i else if G b = some i then none else G b) = none
        rw [if_neg (gn b w n1), if_neg n1]; exact z
      · cases q : G b with
        | none => rfl
        | some k => rw [g.dis b k q] at z; cases z
end
end DL
/-! DX3: calls with a book. -/
namespace DL
open PySem PySem.Spec PyProof.Rows L2
variable [TabP]
abbrev NoF (m : Str) : Prop := ∀ q1 q2 q3 q4 q5 : Addr, (bkNs q1 q2 q3 q4 q5).lookup m = none
section
variable {X : Cx} {N : List Str} {sc : Scope} {fn : Str → Bool} {W : WS} {e o : Expr} {es : List Expr} {pos : Pos} {x m : Str} {p apos cpos : Pos} {n : Nat}
theorem BkO.meth {K : PySem.W.Frag} {F H : Hp} {G : Addr → Option Nat} {i : Nat} {a : Addr} {B : Bk} (h : BkO K F G H i false a B) (hm : NoF m) : ∃ dx fs, H a = some (.ins TabP.BC dx fs) ∧ fs.lookup m = none := by
  obtain ⟨dx, fs, ap, am, aw, ad, ao, ⟨h1, h2⟩, h3, h4, _⟩ := h.ex
  exact ⟨dx, fs, h2, by rw [h4]; exact hm _ _ _ _ _⟩
/-- what the call does -/
def cmE {α : Type} (n : Nat) (ds : List D) (r : Res (D × Bk)) (k : D → Bk → Fl) : Fl := if ds.length = n then (match r with
  | .ok (d, B) => k d B
  | _ => .err) else .err
def cmD (i n : Nat) (φ : Bk → List D → Res (D × Bk)) (fs : Env → Res (List D)) (rt : Bool) (δ : Env) : Option Sl → Fl
  | some (.bk pq false B) => onR (fs δ) δ fun ds => cmE (α := Unit) n ds (φ B ds) fun d B' => if rt = true then .rb d (δ.set i (.bk pq false B')) else .nx (δ.set i (.bk pq false B'))
  | _ => .err
def cmS (i n : Nat) (φ : Bk → List D → Res (D × Bk)) (fs : Env → Res (List D)) (rt : Bool) : Env → Fl := fun δ => cmD i n φ fs rt δ δ[i]?
/-- its reading -/
theorem cm_run {i : Nat} {φ : Bk → List D → Res (D × Bk)} {fs : Env → Res (List D)} {C : Ent} {F : Hp} {δ : Env} {σ : L2.St} {H : Hp} {E : Ends} {rt : Bool} {t : TA} (s : Sat X.K C F δ σ H) (g : Gs X.K W C F E (cmS i n φ fs rt δ))
    (qa : ∀ C F δ σ H Q, Sat X.K C F δ σ H → Gd W σ F H (fs δ) (fun ds F' H' => ∀ vs, RpA X.K F' vs ds → Q vs H') → t σ H Q) :
    ∃ a, (σ[i]?).join = some (.ref a) ∧ (∃ pq B, δ[i]? = some (.bk pq false B)) ∧ t σ H fun vs H2 => spM X.K n φ (.ref a :: (vs ++ [])) H2 (fun v H' => if rt = true then E.rt v H' else E.nx σ H') E0 := by
  unfold cmS at g
  cases hi : δ[i]? with
  | none => rw [hi] at g; exact False.elim g
  | some sl =>
    rw [hi] at g
    cases sl with
    | bk pq fz B =>
      cases fz with
      | true => exact False.elim g
      | false =>
        unfold cmD at g
        dsimp only at g
        obtain ⟨G, sg⟩ := s
        obtain ⟨a, h1, h0, hb⟩ := sg.sl i _ hi
        refine ⟨a, h1, ⟨pq, B, rfl⟩, qa C F δ σ H _ ⟨G, sg⟩ (Gs.on ⟨G, sg⟩ g fun ds F1 H1 x1 s1 k vs rv => ?_)⟩
        unfold cmE at k
        split at k
        · rename_i hn
          have sg1 := sg.ext x1
          refine ⟨F1, ds, B, a, g0Of G i, by rw [List.append_nil]; exact sg1.hand hi h1 rv hn, ?_⟩
          cases r : φ B ds with
          | exc c => rw [r] at k; exact k
          | err => rw [r] at k; exact k
          | ok z =>
            obtain ⟨d, B'⟩ := z
            rw [r] at k
            dsimp only at k
            intro F' δ' σ' H' v ff s' e2 rv2
            have s2 := sg1.behind hi h1 ff s' e2
            cases rt with
            | true => rw [if_pos rfl] at k ⊢; exact k F' σ H' v ff s2 rv2
            | false => rw [if_neg Bool.false_ne_true] at k ⊢; exact k F' σ H' ff s2
        · exact False.elim k
    | _ => exact False.elim g
/-- x.m(..): a statement -/
theorem PSp.callM {fs : Env → Res (List D)} {φ : Bk → List D → Res (D × Bk)} (hB : BkC X.K) (c : Ctx X N sc fn) (i : Nat) (h : CalM X.prog X.w X.K X.mg X.base X.A CX0 m (spM X.K n φ)) (ha : PAp X W (e :: es) fs) (hm : NoF m := by intro _ _ _ _ _; rfl) (hN : N[i]? = some x := by rfl) (hv : isVis sc x = true := by rfl) (hd : (x == ("__debug__" : Str)) = false := by decide) (hcd : (x == ("__classdict__" : Str)) = false := by decide)
    (hst : starEach (e :: es) X.env = (false, eval e X.env) :: starEach es X.env := by rfl) (hpl : (backTo cpos (starEach es X.env)).any (·.1) = false := by rfl) {pl : Sem Bool}
    (ht : eval (.Call (.Attribute (.Name x p) m apos) (e :: es) [] cpos) X.env = (do
      let ov ← eval (.Name x p) X.env
      standAt apos.atName
      let (f, first) ← holding [ov] (getMethod ov m pl)
      callWith cpos f first (backTo cpos (starEach (e :: es) X.env)) (backToKw cpos (keywordEach [] X.env))) := by rfl)
    (hsw : swapsWith (.Call (.Attribute (.Name x p) m apos) (e :: es) [] cpos) none pos.line X.env = pure false := by rfl) :
    PSp X W (.Expr (.Call (.Attribute (.Name x p) m apos) (e :: es) [] cpos) pos) (cmS i n φ fs false) := by
  obtain ⟨f, fd, ps, k, F, r, mt, b⟩ := h.ex
  obtain ⟨t, pa, qa⟩ := ha
  refine ⟨_, ps_expr (pe_meth (pe_var (i := i) (by rw [c.hN]; exact hN) (c.vis hv) hd hcd) hB.cl mt F r b .nil pass0 pa hst hpl ht) hsw, fun C F δ σ H E s g => ?_⟩
  obtain ⟨a, h1, ⟨pq, B, hi⟩, q⟩ := cm_run s g qa
  obtain ⟨G, sg⟩ := s
  obtain ⟨a', h1', _, hb⟩ := sg.sl i _ hi
  rw [h1] at h1'; cases h1'
  obtain ⟨dx, fss, k1, k2⟩ := hb.meth hm
  exact ⟨_, join_some h1, a, dx, fss, rfl, k1, k2, q⟩
theorem PSp.callM0 {φ : Bk → List D → Res (D × Bk)} (hB : BkC X.K) (c : Ctx X N sc fn) (i : Nat) (h : CalM X.prog X.w X.K X.mg X.base X.A CX0 m (spM X.K 0 φ)) (hm : NoF m := by intro _ _ _ _ _; rfl) (hN : N[i]? = some x := by rfl) (hv : isVis sc x = true := by rfl) (hd : (x == ("__debug__" : Str)) = false := by decide) (hcd : (x == ("__classdict__" : Str)) = false := by decide) {pl : Sem Bool}
    (ht : eval (.Call (.Attribute (.Name x p) m apos) [] [] cpos) X.env = (do
      let ov ← eval (.Name x p) X.env
      standAt apos.atName
      let (f, first) ← holding [ov] (getMethod ov m pl)
      callWith cpos f first (backTo cpos (starEach [] X.env)) (backToKw cpos (keywordEach [] X.env))) := by rfl)
    (hsw : swapsWith (.Call (.Attribute (.Name x p) m apos) [] [] cpos) none pos.line X.env = pure false := by rfl) :
    PSp X W (.Expr (.Call (.Attribute (.Name x p) m apos) [] [] cpos) pos) (cmS i 0 φ nilA false) := by
  obtain ⟨f, fd, ps, k, F, r, mt, b⟩ := h.ex
  refine ⟨_, ps_expr (pe_meth0 (pe_var (i := i) (by rw [c.hN]; exact hN) (c.vis hv) hd hcd) hB.cl mt F r b .nil pass0 ht) hsw, fun C F δ σ H E s g => ?_⟩
  obtain ⟨a, h1, ⟨pq, B, hi⟩, q⟩ := cm_run (t := tNil) s g fun C F δ σ H Q s g => (show Gd W σ F H (.ok []) _ from g).ok (Ext.refl s.le) [] .nil
  obtain ⟨G, sg⟩ := s
  obtain ⟨a', h1', _, hb⟩ := sg.sl i _ hi
  rw [h1] at h1'; cases h1'
  obtain ⟨dx, fss, k1, k2⟩ := hb.meth hm
  exact ⟨_, join_some h1, a, dx, fss, rfl, k1, k2, q⟩
/-- return x.m(..) -/
theorem PSp.retM {fs : Env → Res (List D)} {φ : Bk → List D → Res (D × Bk)} (hB : BkC X.K) (c : Ctx X N sc fn) (i : Nat) (h : CalM X.prog X.w X.K X.mg X.base X.A CX0 m (spM X.K n φ)) (ha : PAp X W (e :: es) fs) (hm : NoF m := by intro _ _ _ _ _; rfl) (hN : N[i]? = some x := by rfl) (hv : isVis sc x = true := by rfl) (hd : (x == ("__debug__" : Str)) = false := by decide) (hcd : (x == ("__classdict__" : Str)) = false := by decide)
    (hst : starEach (e :: es) X.env = (false, eval e X.env) :: starEach es X.env := by rfl) (hpl : (backTo cpos (starEach es X.env)).any (·.1) = false := by rfl) {pl : Sem Bool}
    (ht : eval (.Call (.Attribute (.Name x p) m apos) (e :: es) [] cpos) X.env = (do
      let ov ← eval (.Name x p) X.env
      standAt apos.atName
      let (f, first) ← holding [ov] (getMethod ov m pl)
      callWith cpos f first (backTo cpos (starEach (e :: es) X.env)) (backToKw cpos (keywordEach [] X.env))) := by rfl) :
    PSp X W (.Return (some (.Call (.Attribute (.Name x p) m apos) (e :: es) [] cpos)) pos) (cmS i n φ fs true) := by
  obtain ⟨f, fd, ps, k, F, r, mt, b⟩ := h.ex
  obtain ⟨t, pa, qa⟩ := ha
  refine ⟨_, ps_ret (pe_meth (pe_var (i := i) (by rw [c.hN]; exact hN) (c.vis hv) hd hcd) hB.cl mt F r b .nil pass0 pa hst hpl ht), fun C F δ σ H E s g => ?_⟩
  obtain ⟨a, h1, ⟨pq, B, hi⟩, q⟩ := cm_run s g qa
  obtain ⟨G, sg⟩ := s
  obtain ⟨a', h1', _, hb⟩ := sg.sl i _ hi
  rw [h1] at h1'; cases h1'
  obtain ⟨dx, fss, k1, k2⟩ := hb.meth hm
  exact ⟨_, join_some h1, a, dx, fss, rfl, k1, k2, q⟩
/-- f(x, ..), a def at the top, a statement -/
theorem PSp.callFM {f : Str} {fs : Env → Res (List D)} {φ : Bk → List D → Res (D × Bk)} {p2 : Pos} (c : Ctx X N sc fn) (i : Nat) (h : Cal X.prog X.w X.K X.mg X.base X.A CX0 f (spM X.K n φ)) (ha : PAp X W es fs) (hN : N[i]? = some x := by rfl) (hv : isVis sc x = true := by rfl) (hd : (x == ("__debug__" : Str)) = false := by decide) (hcd : (x == ("__classdict__" : Str)) = false := by decide) (hg : isGl sc f = true := by rfl) (hdb : (f == ("__debug__" : Str)) = false := by decide)
    (he : starEach (.Name x p :: es) X.env = (false, eval (.Name x p) X.env) :: starEach es X.env := by rfl) (hpl : (backTo cpos (starEach es X.env)).any (·.1) = false := by rfl)
    (hsw : swapsWith (.Call (.Name f p2) (.Name x p :: es) [] cpos) none pos.line X.env = pure false := by rfl) :
    PSp X W (.Expr (.Call (.Name f p2) (.Name x p :: es) [] cpos) pos) (cmS i n φ fs false) := by
  obtain ⟨fa, fd, ps, k, F, r, mm, kp, b⟩ := h.ex
  obtain ⟨t, pa, qa⟩ := ha
  refine ⟨_, ps_expr (pe_call F r (c.gl hg) mm kp b .nil pass0 (pa_cons (pe_var (i := i) (by rw [c.hN]; exact hN) (c.vis hv) hd hcd) pa he) hdb he hpl) hsw, fun C F δ σ H E s g => ?_⟩
  obtain ⟨a, h1, _, q⟩ := cm_run s g qa
  exact ⟨_, join_some h1, q⟩
/-- return e, the book as it stands then -/
def retBS (f : Env → Res D) : Env → Fl := fun δ => onR (f δ) δ fun d => .rb d δ
theorem PSp.retB {f : Env → Res D} (h : PEp X W e f) : PSp X W (.Return (some e) pos) (retBS f) := by
  obtain ⟨t, p, q⟩ := h
  exact ⟨_, ps_ret p, fun C F δ σ H E s g => q C F δ σ H _ s (Gs.on s g fun d F' H' x s' g' v r => g' F' σ H' v (Same.refl _) s' r)⟩
/-! ### reading a book by a method -/
def cqD {α : Type} (n : Nat) (φ : Bk → List D → Res α) (r : Res (List D)) : Option Sl → Res α
  | some (.bk _ false B) => r.bind fun ds => ln n ds (noX (φ B ds))
  | _ => .err
def cqS {α : Type} (i n : Nat) (φ : Bk → List D → Res α) (fs : Env → Res (List D)) : Env → Res α := fun δ => cqD n φ (fs δ) δ[i]?
theorem cq_run {α : Type} {i : Nat} {φ : Bk → List D → Res α} {fs : Env → Res (List D)} {C : Ent} {F : Hp} {δ : Env} {σ : L2.St} {H : Hp} {t : TA} {P : α → Hp → Hp → Prop} {R : List V → Hp → Prop} (s : Sat X.K C F δ σ H) (g : Gd W σ F H (cqS i n φ fs δ) P) (hm : NoF m)
    (qa : ∀ C F δ σ H Q, Sat X.K C F δ σ H → Gd W σ F H (fs δ) (fun ds F' H' => ∀ vs, RpA X.K F' vs ds → Q vs H') → t σ H Q)
    (k : ∀ a B ds G F1 H1 vs d, Ext F H F1 H1 → HandB X.K F1 H1 G (.ref a :: vs) a B ds n → φ B ds = .ok d → Gd W σ F H (.ok d) P → (σ[i]?).join = some (.ref a) → R (.ref a :: vs) H1) :
    ∃ a dx fs, (σ[i]?).join = some (.ref a) ∧ H a = some (.ins TabP.BC dx fs) ∧ fs.lookup m = none ∧ t σ H fun vs H1 => R (.ref a :: vs) H1 := by
  unfold cqS at g
  cases hi : δ[i]? with
  | none => rw [hi] at g; exact False.elim g
  | some sl =>
    rw [hi] at g
    cases sl with
    | bk pq fz B =>
      cases fz with
      | true => exact False.elim g
      | false =>
        have g : Gd W σ F H ((fs δ).bind fun ds => ln n ds (noX (φ B ds))) P := g
        obtain ⟨G, sg⟩ := s
        obtain ⟨a, h1, h0, hb⟩ := sg.sl i _ hi
        obtain ⟨dx, fss, k1, k2⟩ := hb.meth hm
        refine ⟨a, dx, fss, h1, k1, k2, qa C F δ σ H _ ⟨G, sg⟩ (g.bind2.mono fun ds F1 H1 x1 g1 vs rv => ?_)⟩
        obtain ⟨hn, g1⟩ := Gd.ln g1
        cases r : φ B ds with
        | exc c => rw [r] at g1; exact False.elim g1
        | err => rw [r] at g1; exact False.elim g1
        | ok d =>
          rw [r] at g1
          exact k a B ds (g0Of G i) F1 H1 vs d x1 ((sg.ext x1).hand hi h1 rv hn) r g1 h1
    | _ => exact False.elim g
end
section
variable {X : Cx} {N : List Str} {sc : Scope} {fn : Str → Bool} {W : WS} {e o : Expr} {es : List Expr} {pos : Pos} {x m : Str} {p apos cpos : Pos} {n : Nat}
theorem PEp.callQ {fs : Env → Res (List D)} {φ : Bk → List D → Res D} (hB : BkC X.K) (c : Ctx X N sc fn) (i : Nat) (h : CalM X.prog X.w X.K X.mg X.base X.A CX0 m (spQ X.K n φ)) (ha : PAp X W (e :: es) fs) (hm : NoF m := by intro _ _ _ _ _; rfl) (hN : N[i]? = some x := by rfl) (hv : isVis sc x = true := by rfl) (hd : (x == ("__debug__" : Str)) = false := by decide) (hcd : (x == ("__classdict__" : Str)) = false := by decide)
    (hst : starEach (e :: es) X.env = (false, eval e X.env) :: starEach es X.env := by rfl) (hpl : (backTo cpos (starEach es X.env)).any (·.1) = false := by rfl) {pl : Sem Bool}
    (ht : eval (.Call (.Attribute (.Name x p) m apos) (e :: es) [] cpos) X.env = (do
      let ov ← eval (.Name x p) X.env
      standAt apos.atName
      let (f, first) ← holding [ov] (getMethod ov m pl)
      callWith cpos f first (backTo cpos (starEach (e :: es) X.env)) (backToKw cpos (keywordEach [] X.env))) := by rfl) :
    PEp X W (.Call (.Attribute (.Name x p) m apos) (e :: es) [] cpos) (cqS i n φ fs) := by
  obtain ⟨f, fd, ps, k, F, r, mt, b⟩ := h.ex
  obtain ⟨t, pa, qa⟩ := ha
  refine ⟨_, pe_meth (pe_var (i := i) (by rw [c.hN]; exact hN) (c.vis hv) hd hcd) hB.cl mt F r b .nil pass0 pa hst hpl ht, fun C F δ σ H Q s g => ?_⟩
  obtain ⟨a, dx, fss, h1, k1, k2, q⟩ := cq_run (R := fun vs H1 => spQ X.K n φ (vs ++ []) H1 Q E0) s g hm qa fun a B ds G F1 H1 vs d x1 hh r g1 _ => ⟨F1, ds, B, a, G, by rw [List.append_nil]; exact hh, by rw [r]; exact fun F' H' x2 v rv => g1.ok (x1.trans x2) v rv⟩
  exact ⟨_, join_some h1, a, dx, fss, rfl, k1, k2, q⟩
theorem PEp.callQ0 {φ : Bk → List D → Res D} (hB : BkC X.K) (c : Ctx X N sc fn) (i : Nat) (h : CalM X.prog X.w X.K X.mg X.base X.A CX0 m (spQ X.K 0 φ)) (hm : NoF m := by intro _ _ _ _ _; rfl) (hN : N[i]? = some x := by rfl) (hv : isVis sc x = true := by rfl) (hd : (x == ("__debug__" : Str)) = false := by decide) (hcd : (x == ("__classdict__" : Str)) = false := by decide) {pl : Sem Bool}
    (ht : eval (.Call (.Attribute (.Name x p) m apos) [] [] cpos) X.env = (do
      let ov ← eval (.Name x p) X.env
      standAt apos.atName
      let (f, first) ← holding [ov] (getMethod ov m pl)
      callWith cpos f first (backTo cpos (starEach [] X.env)) (backToKw cpos (keywordEach [] X.env))) := by rfl) :
    PEp X W (.Call (.Attribute (.Name x p) m apos) [] [] cpos) (cqS i 0 φ nilA) := by
  obtain ⟨f, fd, ps, k, F, r, mt, b⟩ := h.ex
  refine ⟨_, pe_meth0 (pe_var (i := i) (by rw [c.hN]; exact hN) (c.vis hv) hd hcd) hB.cl mt F r b .nil pass0 ht, fun C F δ σ H Q s g => ?_⟩
  obtain ⟨a, dx, fss, h1, k1, k2, q⟩ := cq_run (t := tNil) (R := fun vs H1 => spQ X.K 0 φ (vs ++ []) H1 Q E0) s g hm (fun C F δ σ H Q s g => (show Gd W σ F H (.ok []) _ from g).ok (Ext.refl s.le) [] .nil) fun a B ds G F1 H1 vs d x1 hh r g1 _ => ⟨F1, ds, B, a, G, by rw [List.append_nil]; exact hh, by rw [r]; exact fun F' H' x2 v rv => g1.ok (x1.trans x2) v rv⟩
  exact ⟨_, join_some h1, a, dx, fss, rfl, k1, k2, q⟩
theorem PFp.callQ {fs : Env → Res (List D)} {φ : Bk → List D → Res (List D)} (hB : BkC X.K) (c : Ctx X N sc fn) (i : Nat) (h : CalM X.prog X.w X.K X.mg X.base X.A CX0 m (spQF X.K n φ)) (ha : PAp X W (e :: es) fs) (hm : NoF m := by intro _ _ _ _ _; rfl) (hN : N[i]? = some x := by rfl) (hv : isVis sc x = true := by rfl) (hd : (x == ("__debug__" : Str)) = false := by decide) (hcd : (x == ("__classdict__" : Str)) = false := by decide)
    (hst : starEach (e :: es) X.env = (false, eval e X.env) :: starEach es X.env := by rfl) (hpl : (backTo cpos (starEach es X.env)).any (·.1) = false := by rfl) {pl : Sem Bool}
    (ht : eval (.Call (.Attribute (.Name x p) m apos) (e :: es) [] cpos) X.env = (do
      let ov ← eval (.Name x p) X.env
      standAt apos.atName
      let (f, first) ← holding [ov] (getMethod ov m pl)
      callWith cpos f first (backTo cpos (starEach (e :: es) X.env)) (backToKw cpos (keywordEach [] X.env))) := by rfl) :
    PFp X W (.Call (.Attribute (.Name x p) m apos) (e :: es) [] cpos) (cqS i n φ fs) := by
  obtain ⟨f, fd, ps, k, F, r, mt, b⟩ := h.ex
  obtain ⟨t, pa, qa⟩ := ha
  refine ⟨_, pe_meth (pe_var (i := i) (by rw [c.hN]; exact hN) (c.vis hv) hd hcd) hB.cl mt F r b .nil pass0 pa hst hpl ht, fun C F δ σ H Q s g => ?_⟩
  obtain ⟨a, dx, fss, h1, k1, k2, q⟩ := cq_run (R := fun vs H1 => spQF X.K n φ (vs ++ []) H1 Q E0) s g hm qa fun a B ds G F1 H1 vs d x1 hh r g1 _ => ⟨F1, ds, B, a, G, by rw [List.append_nil]; exact hh, by rw [r]; exact fun F' H' x2 p ws e1 e2 e3 e4 => g1.ok (x1.trans x2) p ws (x1.hh.free e1) e2 e3 e4⟩
  exact ⟨_, join_some h1, a, dx, fss, rfl, k1, k2, q⟩
theorem PFp.callQ0 {φ : Bk → List D → Res (List D)} (hB : BkC X.K) (c : Ctx X N sc fn) (i : Nat) (h : CalM X.prog X.w X.K X.mg X.base X.A CX0 m (spQF X.K 0 φ)) (hm : NoF m := by intro _ _ _ _ _; rfl) (hN : N[i]? = some x := by rfl) (hv : isVis sc x = true := by rfl) (hd : (x == ("__debug__" : Str)) = false := by decide) (hcd : (x == ("__classdict__" : Str)) = false := by decide) {pl : Sem Bool}
    (ht : eval (.Call (.Attribute (.Name x p) m apos) [] [] cpos) X.env = (do
      let ov ← eval (.Name x p) X.env
      standAt apos.atName
      let (f, first) ← holding [ov] (getMethod ov m pl)
      callWith cpos f first (backTo cpos (starEach [] X.env)) (backToKw cpos (keywordEach [] X.env))) := by rfl) :
    PFp X W (.Call (.Attribute (.Name x p) m apos) [] [] cpos) (cqS i 0 φ nilA) := by
  obtain ⟨f, fd, ps, k, F, r, mt, b⟩ := h.ex
  refine ⟨_, pe_meth0 (pe_var (i := i) (by rw [c.hN]; exact hN) (c.vis hv) hd hcd) hB.cl mt F r b .nil pass0 ht, fun C F δ σ H Q s g => ?_⟩
  obtain ⟨a, dx, fss, h1, k1, k2, q⟩ := cq_run (t := tNil) (R := fun vs H1 => spQF X.K 0 φ (vs ++ []) H1 Q E0) s g hm (fun C F δ σ H Q s g => (show Gd W σ F H (.ok []) _ from g).ok (Ext.refl s.le) [] .nil) fun a B ds G F1 H1 vs d x1 hh r g1 _ => ⟨F1, ds, B, a, G, by rw [List.append_nil]; exact hh, by rw [r]; exact fun F' H' x2 p ws e1 e2 e3 e4 => g1.ok (x1.trans x2) p ws (x1.hh.free e1) e2 e3 e4⟩
  exact ⟨_, join_some h1, a, dx, fss, rfl, k1, k2, q⟩
end
end DL
/-! DX4: defs that read a book; a new book. -/
namespace DL
open PySem PySem.Spec PyProof.Rows L2
variable [TabP]
/-- nothing is said of a statement -/
theorem PSp.errS {X : Cx} {W : WS} {st : Stmt} : PSp X W st (fun _ => .err) := ⟨fun _ _ _ => False, ⟨fun _ _ _ _ _ _ h => h.elim⟩, fun _ _ _ _ _ _ _ g => g⟩
/-- the heap that was stays, all of it -/
def Gq (K : PySem.W.Frag) (C : Ent) (F H : Hp) (E : Ends) : Fl → Prop
  | .nx δ => ∀ F' σ' H', Ext F H F' H' → Sat K C F' δ σ' H' → E.nx σ' H'
  | .rt d => ∀ F' H' v, Ext F H F' H' → Rp K F' v d → E.rt v H'
  | .rf ds => ∀ F' H' a vs, Ext F H F' H' → H a = none → F' a = none → H' a = some (.lst vs) → RpA K F' vs ds → E.rt (.ref a) H'
  | _ => False
theorem Gq.ext {K : PySem.W.Frag} {C : Ent} {F H F1 H1 : Hp} {E : Ends} {r : Fl} (h : Gq K C F H E r) (x : Ext F H F1 H1) : Gq K C F1 H1 E r := by
  cases r with
  | nx δ => exact fun F' σ' H' y s => h F' σ' H' (x.trans y) s
  | rt d => exact fun F' H' v y r => h F' H' v (x.trans y) r
  | rf ds => exact fun F' H' a vs y h1 h2 h3 h4 => h F' H' a vs (x.trans y) (x.hh.free h1) h2 h3 h4
  | _ => exact h
theorem Gq.on {α : Type} {K : PySem.W.Frag} {C : Ent} {F H : Hp} {δ : Env} {σ : L2.St} {E : Ends} {r : Res α} {k : α → Fl} {P : α → Hp → Hp → Prop} (s : Sat K C F δ σ H) (h : Gq K C F H E (onR r δ k))
    (hk : ∀ a F' H', Ext F H F' H' → Sat K C F' δ σ H' → Gq K C F' H' E (k a) → P a F' H') : Gd W0 σ F H r P := by
  cases r with
  | ok a => exact fun F' H' x => hk a F' H' x (s.ext x) (Gq.ext h x)
  | exc c => exact False.elim h
  | err => exact False.elim h
section
variable (X : Cx)
def PQp (st : Stmt) (f : Env → Fl) : Prop := ∃ t, PS X st t ∧ ∀ C F δ σ H E, Sat X.K C F δ σ H → Gq X.K C F H E (f δ) → t E σ H
def PQsp (st : List Stmt) (f : Env → Fl) : Prop := ∃ t, PSs X st t ∧ ∀ C F δ σ H E, Sat X.K C F δ σ H → Gq X.K C F H E (f δ) → t E σ H
end
section
variable {X : Cx} {st : Stmt} {rest : List Stmt} {e : Expr} {pos : Pos} {f g : Env → Fl}
theorem PQsp.nil : PQsp X [] nxS := ⟨_, pss_nil, fun C F δ σ H E s g => g F σ H (Ext.refl s.le) s⟩
theorem PQsp.one (h : PQp X st f) : PQsp X [st] f := by
  obtain ⟨t, p, q⟩ := h
  exact ⟨_, pss_one p, q⟩
theorem PQsp.cons (h1 : PQp X st f) (h2 : PQsp X rest g) : PQsp X (st :: rest) (seqS f g) := by
  obtain ⟨t, p, q⟩ := h1
  obtain ⟨u, p2, q2⟩ := h2
  refine ⟨_, pss_cons p p2, fun C F δ σ H E s h => q C F δ σ H _ s ?_⟩
  unfold seqS at h
  cases r : f δ with
  | nx δ' => rw [r] at h; exact fun F' σ' H' x s' => q2 C F' δ' σ' H' E s' (Gq.ext h x)
  | rt d => rw [r] at h; exact h
  | rf ds => rw [r] at h; exact h
  | _ => rw [r] at h; exact h
theorem PQp.doc {x : Str} {j : Nat} {pos' : Pos} : PQp X (.Expr (.Constant (.str x) j pos) pos') nxS := ⟨_, ps_doc, fun C F δ σ H E s g => g F σ H (Ext.refl s.le) s⟩
theorem PQp.expr {f : Env → Res D} (h : PEp X W0 e f) (hs : swapsWith e none pos.line X.env = pure false := by rfl) : PQp X (.Expr e pos) (dropS f) := by
  obtain ⟨t, p, q⟩ := h
  exact ⟨_, ps_expr p hs, fun C F δ σ H E s g => q C F δ σ H _ s (Gq.on s g fun d F' H' x s' g' v r => g' F' σ H' (Ext.refl s'.le) s')⟩
theorem PQp.ret {f : Env → Res D} (h : PEp X W0 e f) : PQp X (.Return (some e) pos) (retS f) := by
  obtain ⟨t, p, q⟩ := h
  exact ⟨_, ps_ret p, fun C F δ σ H E s g => q C F δ σ H _ s (Gq.on s g fun d F' H' x s' g' v r => g' F' H' v (Ext.refl s'.le) r)⟩
theorem PQp.retF {f : Env → Res (List D)} (h : PFp X W0 e f) : PQp X (.Return (some e) pos) (retF f) := by
  obtain ⟨t, p, q⟩ := h
  refine ⟨_, ps_ret p, fun C F δ σ H E s g => q C F δ σ H _ s ?_⟩
  unfold DL.retF at g
  cases r : f δ with
  | ok ds => rw [r] at g; exact fun F' H' x a vs h1 h2 h3 h4 => g F' H' a vs x h1 h2 h3 h4
  | exc c => rw [r] at g; exact False.elim g
  | err => rw [r] at g; exact False.elim g
theorem PQp.errS : PQp X st (fun _ => .err) := ⟨fun _ _ _ => False, ⟨fun _ _ _ _ _ _ h => h.elim⟩, fun _ _ _ _ _ _ _ g => g⟩
theorem PQp.if_ {c : Expr} {fc : Env → Res Bool} {a b : List Stmt} (hc : PBp X W0 c fc) (ha : PQsp X a f) (hb : PQsp X b g) : PQp X (.If c a b pos) (ifS fc f g) := by
  obtain ⟨_, tc, pc, qc⟩ := hc
  obtain ⟨ta, pa, qa⟩ := ha
  obtain ⟨tb, pb, qb⟩ := hb
  refine ⟨_, ps_if pc pa pb, fun C F δ σ H E s h => qc C F δ σ H _ s (Gq.on s h fun b F' H' x s' h' => ?_)⟩
  cases b with
  | true => exact qa C F' δ σ H' E s' h'
  | false => exact qb C F' δ σ H' E s' h'
end
def endQ : Fl → Res D
  | .rt d => .ok d
  | _ => .err
def endQF : Fl → Res (List D)
  | .rf d => .ok d
  | _ => .err
def runQ (fb : Env → Fl) (m : Nat) : Bk → List D → Res D := fun B ds => endQ (fb (startM m B ds))
def runQF (fb : Env → Fl) (m : Nat) : Bk → List D → Res (List D) := fun B ds => endQF (fb (startM m B ds))
abbrev BodyQ (P : Program) (w : World) (K : PySem.W.Frag) (mg : Str → Option Value) (base : Heap) (k : Nat) (N : List Str) (st : Stmt) (fb : Env → Fl) : Prop :=
  ∀ X : Cx, X.prog = P → X.w = w → X.K = K → X.mg = mg → X.base = base → Room k X.A → X.env.scope.kind = .function → Ctx X N (defScope st) (fun _ => true) → PQsp X (defBody st) fb
abbrev BindM (x qual : Str) (st : Stmt) (ps : List Str) : Prop := ∀ (kV doc pm : Value) (an : Option Addr) (cdv ct : Value) (us : List Value), us.length = ps.length → bindArgs (PySem.W.fnOf x qual (defArgs st) (defBody st) (defScope st) .none kV doc pm an cdv ct) ⟨us, []⟩ = pure (ps.zip us)
section
variable {P : Program} {w : World} {K : PySem.W.Frag} {mg : Str → Option Value} {base : Heap} {x qual : Str} {st : Stmt} {f : Addr} {fd : FuncData} {N ps : List Str} {k : Nat} {fb : Env → Fl}
theorem ok_defQ (Fn : Fun K x qual st f fd) (S : FnScope N ps (defScope st)) (n : Nat) (hn : n + 1 = ps.length) (m : Nat) (hm : N.length = m) (hnm : 1 + n ≤ m) (hb : BodyQ P w K mg base k N st fb) :
    FnOk P w K mg base CX0 (k + 1) f fd ps (spQ K n (runQ fb m)) := by
  refine Fn.ok S (fun vs H Q E ⟨F, ds, B, a, G, h, _⟩ => by obtain ⟨vs', e, r⟩ := h.vs; rw [e, List.length_cons, r.length, h.n, hn]) fun cdv A outer s H vs Q E hr h => ?_
  obtain ⟨t, p, q⟩ := hb (cxOf CX0 P w K mg base N qual (defScope st) f cdv A outer s H E).nox rfl rfl rfl rfl rfl hr S.kind (ctx_nox S hr)
  refine ⟨t, p, ?_⟩
  obtain ⟨F, ds, B, a, G, h1, h4⟩ := h
  have s0 := h1.sat (N := N) (by rw [h1.n, hm]; exact hnm)
  rw [hm] at s0
  refine q _ F _ _ H _ s0 ?_
  unfold runQ at h4
  cases r : fb (startM m B ds) with
  | rt d => rw [r] at h4; exact fun F' H' v x rv => h4 F' H' x v rv
  | _ => rw [r] at h4; exact h4.elim
theorem ok_defQF (Fn : Fun K x qual st f fd) (S : FnScope N ps (defScope st)) (n : Nat) (hn : n + 1 = ps.length) (m : Nat) (hm : N.length = m) (hnm : 1 + n ≤ m) (hb : BodyQ P w K mg base k N st fb) :
    FnOk P w K mg base CX0 (k + 1) f fd ps (spQF K n (runQF fb m)) := by
  refine Fn.ok S (fun vs H Q E ⟨F, ds, B, a, G, h, _⟩ => by obtain ⟨vs', e, r⟩ := h.vs; rw [e, List.length_cons, r.length, h.n, hn]) fun cdv A outer s H vs Q E hr h => ?_
  obtain ⟨t, p, q⟩ := hb (cxOf CX0 P w K mg base N qual (defScope st) f cdv A outer s H E).nox rfl rfl rfl rfl rfl hr S.kind (ctx_nox S hr)
  refine ⟨t, p, ?_⟩
  obtain ⟨F, ds, B, a, G, h1, h4⟩ := h
  have s0 := h1.sat (N := N) (by rw [h1.n, hm]; exact hnm)
  rw [hm] at s0
  refine q _ F _ _ H _ s0 ?_
  unfold runQF at h4
  cases r : fb (startM m B ds) with
  | rf d => rw [r] at h4; exact fun F' H' a vs x h1 h2 h3 h5 => h4 F' H' x a vs h1 h2 h3 h5
  | _ => rw [r] at h4; exact h4.elim
theorem KnM.defQ (T : TopM K x qual st) (S : FnScope N ps (defScope st)) (n : Nat) (hn : n + 1 = ps.length) (m : Nat) (hm : N.length = m) (hnm : 1 + n ≤ m) (hbd : BindM x qual st ps) (hb : BodyQ P w K mg base k N st fb) : KnM P w K mg base CX0 x (k + 1) (spQ K n (runQ fb m)) := by
  obtain ⟨f, fd, F, e⟩ := T.ex
  exact ⟨f, fd, ps, ok_defQ F S n hn m hm hnm hb, e, F.binds hbd⟩
theorem KnM.defQF (T : TopM K x qual st) (S : FnScope N ps (defScope st)) (n : Nat) (hn : n + 1 = ps.length) (m : Nat) (hm : N.length = m) (hnm : 1 + n ≤ m) (hbd : BindM x qual st ps) (hb : BodyQ P w K mg base k N st fb) : KnM P w K mg base CX0 x (k + 1) (spQF K n (runQF fb m)) := by
  obtain ⟨f, fd, F, e⟩ := T.ex
  exact ⟨f, fd, ps, ok_defQF F S n hn m hm hnm hb, e, F.binds hbd⟩
end
/-! ### a new book -/
theorem putF_le (f : Str) (v : V) : ∀ fs : List (Str × V), (putF f v fs).length ≤ fs.length + 1
  | [] => Nat.le_refl _
  | (g, x) :: r => by
    unfold putF
    split
    · simp
    · have := putF_le f v r
      simp only [List.length_cons]; omega
def Bk0 : Bk := ⟨[], [], [], [], []⟩
/-- __init__ -/
def spI : Sp := fun vs H Q _ => ∃ a dx, vs = [.ref a] ∧ H a = some (.ins TabP.BC dx []) ∧ ∀ H', (∀ b o, b ≠ a → H b = some o → H' b = some o) →
  (∃ fs ap am aw ad ao, H' a = some (.ins TabP.BC dx fs) ∧ fs.length ≤ 5 ∧ (∀ f, fs.lookup f = (bkNs ap am aw ad ao).lookup f) ∧ [ap, am, aw, ao].Nodup ∧ (H ap = none ∧ H am = none ∧ H aw = none ∧ H ad = none ∧ H ao = none) ∧
    H' ap = some (.lst []) ∧ H' am = some (.lst []) ∧ H' aw = some (.lst []) ∧ H' ad = some (.dK []) ∧ H' ao = some (.lst [])) → Q .non H'
def tInit (K : PySem.W.Frag) : TS := tSeq (sFld K (tVar 0) (tLst tNil) "people") (tSeq (sFld K (tVar 0) (tLst tNil) "marriages") (tSeq (sFld K (tVar 0) (tLst tNil) "wills") (tSeq (sFld K (tVar 0) tDNewK "deals") (sFld K (tVar 0) (tLst tNil) "other"))))
theorem init_run {K : PySem.W.Frag} (hB : BkC K) {vs : List V} {H : Hp} {Q : VK} {E : XK} (h : spI vs H Q E) : tInit K { nx := fun _ H' => Q .non H', rt := Q } (L2.start ["self"] vs) H := by
  obtain ⟨a, dx, rfl, ha, q⟩ := h
  have hσ : ∃ v, (L2.start ["self"] [V.ref a])[0]? = some (some v) ∧ v = .ref a := ⟨_, rfl, rfl⟩
  have na := fun n : AtN => hB.na n
  refine ⟨by decide, fun ap hap => ⟨_, rfl, a, _, dx, [], rfl, ?_, hB.cl, na .pe, by decide, ?_⟩⟩
  · rw [upd_ne (fun z => by rw [z, hap] at ha; cases ha)]; exact ha
  have n1 : a ≠ ap := fun z => by rw [z, hap] at ha; cases ha
  refine ⟨by decide, fun am ham => ⟨_, rfl, a, _, dx, _, rfl, by rw [upd_ne (fun z => by rw [z, upd_same] at ham; cases ham)]; exact upd_same, hB.cl, na .ma, by have := putF_le "people" (.ref ap) []; simp only [List.length_nil] at this; omega, ?_⟩⟩
  have n2 : a ≠ am := fun z => by rw [z, upd_same] at ham; cases ham
  rw [upd_ne (Ne.symm n2)] at ham
  have n3 : am ≠ ap := fun z => by rw [z, upd_same] at ham; cases ham
  rw [upd_ne n3] at ham
  refine ⟨by decide, fun aw haw => ⟨_, rfl, a, _, dx, _, rfl, by rw [upd_ne (fun z => by rw [z, upd_same] at haw; cases haw)]; exact upd_same, hB.cl, na .wi, by have := putF_le "people" (.ref ap) []; have := putF_le "marriages" (.ref am) (putF "people" (.ref ap) []); simp only [List.length_nil] at *; omega, ?_⟩⟩
  have n4 : a ≠ aw := fun z => by rw [z, upd_same] at haw; cases haw
  rw [upd_ne (Ne.symm n4)] at haw
  have n5 : aw ≠ am := fun z => by rw [z, upd_same] at haw; cases haw
  rw [upd_ne n5, upd_ne (Ne.symm n4)] at haw
  have n6 : aw ≠ ap := fun z => by rw [z, upd_same] at haw; cases haw
  rw [upd_ne n6] at haw
  refine fun ad had => ⟨_, rfl, a, _, dx, _, rfl, by rw [upd_ne (fun z => by rw [z, upd_same] at had; cases had)]; exact upd_same, hB.cl, na .de, by have := putF_le "people" (.ref ap) []; have := putF_le "marriages" (.ref am) (putF "people" (.ref ap) []); have := putF_le "wills" (.ref aw) (putF "marriages" (.ref am) (putF "people" (.ref ap) [])); simp only [List.length_nil] at *; omega, ?_⟩
  have n7 : a ≠ ad := fun z => by rw [z, upd_same] at had; cases had
  rw [upd_ne (Ne.symm n7)] at had
  have n8 : ad ≠ aw := fun z => by rw [z, upd_same] at had; cases had
  rw [upd_ne n8, upd_ne (Ne.symm n7)] at had
  have n9 : ad ≠ am := fun z => by rw [z, upd_same] at had; cases had
  rw [upd_ne n9, upd_ne (Ne.symm n7)] at had
  have n10 : ad ≠ ap := fun z => by rw [z, upd_same] at had; cases had
  rw [upd_ne n10] at had
  refine ⟨by decide, fun ao hao => ⟨_, rfl, a, _, dx, _, rfl, by rw [upd_ne (fun z => by rw [z, upd_same] at hao; cases hao)]; exact upd_same, hB.cl, na .ot, by have := putF_le "people" (.ref ap) []; have := putF_le "marriages" (.ref am) (putF "people" (.ref ap) []); have := putF_le "wills" (.ref aw) (putF "marriages" (.ref am) (putF "people" (.ref ap) [])); have := putF_le "deals" (.ref ad) (putF "wills" (.ref aw) (putF "marriages" (.ref am) (putF "people" (.ref ap) []))); simp only [List.length_nil] at *; omega, ?_⟩⟩
  have m1 : a ≠ ao := fun z => by rw [z, upd_same] at hao; cases hao
  rw [upd_ne (Ne.symm m1)] at hao
  have m2 : ao ≠ ad := fun z => by rw [z, upd_same] at hao; cases hao
  rw [upd_ne m2, upd_ne (Ne.symm m1)] at hao
  have m3 : ao ≠ aw := fun z => by rw [z, upd_same] at hao; cases hao
  rw [upd_ne m3, upd_ne (Ne.symm m1)] at hao
  have m4 : ao ≠ am := fun z => by rw [z, upd_same] at hao; cases hao
  rw [upd_ne m4, upd_ne (Ne.symm m1)] at hao
  have m5 : ao ≠ ap := fun z => by rw [z, upd_same] at hao; cases hao
  rw [upd_ne m5] at hao
  refine q _ (fun b o hb e => ?_) ⟨_, ap, am, aw, ad, ao, upd_same, by have := putF_le "people" (.ref ap) []; have := putF_le "marriages" (.ref am) (putF "people" (.ref ap) []); have := putF_le "wills" (.ref aw) (putF "marriages" (.ref am) (putF "people" (.ref ap) [])); have := putF_le "deals" (.ref ad) (putF "wills" (.ref aw) (putF "marriages" (.ref am) (putF "people" (.ref ap) []))); have := putF_le "other" (.ref ao) (putF "deals" (.ref ad) (putF "wills" (.ref aw) (putF "marriages" (.ref am) (putF "people" (.ref ap) [])))); show (putF "other" (.ref ao) (putF "deals" (.ref ad) (putF "wills" (.ref aw) (putF "marriages" (.ref am) (putF "people" (.ref ap) []))))).length ≤ 5; simp only [List.length_nil] at *; omega, fun f => ?_, by simp [n3.symm, n6.symm, m5.symm, n5.symm, m4.symm, m3.symm], ⟨hap, ham, haw, had, hao⟩, ?_, ?_, ?_, ?_, ?_⟩
  · have b1 : b ≠ ap := ne_of_none e hap
    have b2 : b ≠ am := ne_of_none e ham
    have b3 : b ≠ aw := ne_of_none e haw
    have b4 : b ≠ ad := ne_of_none e had
    have b5 : b ≠ ao := ne_of_none e hao
    rw [upd_ne hb, upd_ne b5, upd_ne hb, upd_ne b4, upd_ne hb, upd_ne b3, upd_ne hb, upd_ne b2, upd_ne hb, upd_ne b1]; exact e
  · simp only [lookup_putF, List.lookup_nil]
    unfold bkNs
    simp only [List.lookup_cons, List.lookup_nil]
    by_cases e1 : f = "people"
    · subst e1; rfl
    · by_cases e2 : f = "marriages"
      · subst e2; rfl
      · by_cases e3 : f = "wills"
        · subst e3; rfl
        · by_cases e4 : f = "deals"
          · subst e4; rfl
          · by_cases e5 : f = "other"
            · subst e5; rfl
            · simp [e1, e2, e3, e4, e5, show (f == ("people" : Str)) = false from by simpa using e1, show (f == ("marriages" : Str)) = false from by simpa using e2, show (f == ("wills" : Str)) = false from by simpa using e3, show (f == ("deals" : Str)) = false from by simpa using e4, show (f == ("other" : Str)) = false from by simpa using e5]
  · rw [upd_ne (Ne.symm n1), upd_ne m5.symm, upd_ne (Ne.symm n1), upd_ne n10.symm, upd_ne (Ne.symm n1), upd_ne n6.symm, upd_ne (Ne.symm n1), upd_ne n3.symm, upd_ne (Ne.symm n1), upd_same]
  · rw [upd_ne (Ne.symm n2), upd_ne m4.symm, upd_ne (Ne.symm n2), upd_ne n9.symm, upd_ne (Ne.symm n2), upd_ne n5.symm, upd_ne (Ne.symm n2), upd_same]
  · rw [upd_ne (Ne.symm n4), upd_ne m3.symm, upd_ne (Ne.symm n4), upd_ne n8.symm, upd_ne (Ne.symm n4), upd_same]
  · rw [upd_ne (Ne.symm n7), upd_ne m2.symm, upd_ne (Ne.symm n7), upd_same]
  · rw [upd_ne (Ne.symm m1), upd_same]
end DL
/-! DX5: x = Book(). -/
namespace DL
open PySem PySem.Spec PyProof.Rows L2
variable [TabP]
/-- the class, ready to be called -/
structure MkB (P : Program) (w : World) (K : PySem.W.Frag) (mg : Str → Option Value) (base : Heap) (k : Nat) : Prop where
  ex : ∃ f fd ps, FnOk P w K mg base CX0 k f fd ps spI ∧ Mk K TabP.BC f ∧ mg "Book" = some (.ref TabP.BC) ∧ Binds K fd ps []
structure CalB (P : Program) (w : World) (K : PySem.W.Frag) (mg : Str → Option Value) (base : Heap) (A : Around) : Prop where
  ex : ∃ f fd ps k, FnOk P w K mg base CX0 k f fd ps spI ∧ Room (k + 1) A ∧ Mk K TabP.BC f ∧ mg "Book" = some (.ref TabP.BC) ∧ Binds K fd ps []
theorem MkB.cal {P : Program} {w : World} {K : PySem.W.Frag} {mg : Str → Option Value} {base : Heap} {k : Nat} (h : MkB P w K mg base k) {A : Around} {j : Nat} (hr : Room j A) (hk : k + 1 ≤ j) : CalB P w K mg base A := by
  obtain ⟨f, fd, ps, F, mk, m, b⟩ := h.ex
  exact ⟨f, fd, ps, k, F, hr.mono hk, mk, m, b⟩
section
variable {P : Program} {w : World} {K : PySem.W.Frag} {mg : Str → Option Value} {base : Heap} {st : Stmt} {k : Nat} {q : Str}
theorem MkB.of (hB : BkC K) {f : Addr} {fd : FuncData} (Fn : Fun K "__init__" q st f fd) (mk : Mk K TabP.BC f) (hmg : mg "Book" = some (.ref TabP.BC)) (S : FnScope ["self"] ["self"] (defScope st)) (hbd : BindM "__init__" q st ["self"])
    (hb : ∀ X : Cx, X.prog = P → X.w = w → X.K = K → X.mg = mg → X.base = base → Room k X.A → X.env.scope.kind = .function → Ctx X ["self"] (defScope st) (fun _ => true) → PSs X (defBody st) (tInit X.K)) : MkB P w K mg base (k + 1) := by
  refine ⟨f, fd, ["self"], Fn.ok S (fun vs H Q E ⟨a, dx, e, _⟩ => by rw [e]; rfl) fun cdv A outer s H vs Q E hr h => ?_, mk, hmg, Fn.binds hbd⟩
  exact ⟨_, hb (cxOf CX0 P w K mg base ["self"] q (defScope st) f cdv A outer s H E).nox rfl rfl rfl rfl rfl hr S.kind (ctx_nox S hr), init_run hB h⟩
end
def newBS (i : Nat) : Env → Fl := fun δ => .nx (δ.set i (.bk false false Bk0))
section
variable {X : Cx} {N : List Str} {sc : Scope} {fn : Str → Bool} {W : WS} {x : Str} {p pos pos' cpos : Pos}
theorem PSp.newB (c : Ctx X N sc fn) (i : Nat) (h : CalB X.prog X.w X.K X.mg X.base X.A) (hN : N[i]? = some x := by rfl) (hx : stOk sc fn x = true := by rfl) (hg : isGl sc "Book" = true := by rfl)
    (hs : swapsWith (.Call (.Name "Book" p) [] [] cpos) (some (.Name x pos')) pos.line X.env = pure false := by rfl) :
    PSp X W (.Assign [.Name x pos'] (.Call (.Name "Book" p) [] [] cpos) pos) (newBS i) := by
  obtain ⟨f, fd, ps, k, F, r, mk, hm, b⟩ := h.ex
  obtain ⟨h1, h2⟩ := c.st hx
  refine ⟨_, ps_set (i := i) (by rw [c.hN]; exact c.nd) (by rw [c.hN]; exact hN) h1 (pe_make0 mk F r (c.gl hg) hm b .nil pass0 (by decide)) hs h2, fun C F δ σ H E s g => ?_⟩
  intro a dx ha hdx hne
  refine ⟨a, dx, rfl, upd_same, fun H' hk ⟨fs, ap, am, aw, ad, ao, b1, b2, b3, b4, ⟨f1, f2, f3, f4, f5⟩, g1, g2, g3, g4, g5⟩ => ⟨rfl, ?_⟩⟩
  have free : ∀ {q : Addr}, upd (upd H dx (.own a)) a (.ins TabP.BC dx []) q = none → H q = none := fun {q} e => by
    have n1 : q ≠ a := fun z => by rw [z, upd_same] at e; cases e
    rw [upd_ne n1] at e
    have n2 : q ≠ dx := fun z => by rw [z, upd_same] at e; cases e
    rw [upd_ne n2] at e; exact e
  have kp : Same H H' := fun q o e => by
    have n1 : q ≠ a := ne_of_none e ha
    have n2 : q ≠ dx := ne_of_none e hdx
    exact hk q o n1 (by rw [upd_ne n1, upd_ne n2]; exact e)
  have xx : Ext F H F H' := ⟨Same.refl _, fun _ _ e => .inl e, s.le.trans kp, Same.n kp, fun t => t.same kp, id⟩
  refine g F _ H' (Same.refl _) (s.set_newP (fun q => q = a ∨ q = ap ∨ q = am ∨ q = aw ∨ q = ad ∨ q = ao) xx (fun q hq => ?_) fun G hG => ?_)
  · rcases hq with rfl | rfl | rfl | rfl | rfl | rfl
    · exact ⟨ha, by rw [b1]; exact fun z => nomatch z⟩
    · exact ⟨free f1, by rw [g1]; exact fun z => nomatch z⟩
    · exact ⟨free f2, by rw [g2]; exact fun z => nomatch z⟩
    · exact ⟨free f3, by rw [g3]; exact fun z => nomatch z⟩
    · exact ⟨free f4, by rw [g4]; exact fun z => nomatch z⟩
    · exact ⟨free f5, by rw [g5]; exact fun z => nomatch z⟩
  · exact ⟨a, rfl, (fun z => nomatch z), ⟨dx, fs, ap, am, aw, ad, ao, ⟨hG _ (.inl rfl), b1⟩, b2, b3, b4, ⟨[], hG _ (.inr (.inl rfl)), g1, .nil⟩, ⟨[], hG _ (.inr (.inr (.inl rfl))), g2, .nil⟩, ⟨[], hG _ (.inr (.inr (.inr (.inl rfl)))), g3, .nil⟩, ⟨[], hG _ (.inr (.inr (.inr (.inr (.inl rfl))))), g4, .nil⟩, ⟨[], hG _ (.inr (.inr (.inr (.inr (.inr rfl))))), g5, .nil⟩⟩⟩
end
end DL
/-! DX6: d.get(k); a top def that reads a book; meanings by simp. -/
namespace DL
open PySem PySem.Spec PyProof.Rows L2
variable [TabP]
section
variable {X : Cx} {N : List Str} {sc : Scope} {fn : Str → Bool} {W : WS} {o e f : Expr} {fo fe fx : Env → Res D} {apos cpos : Pos}
def dget1D (fo fe : Env → Res D) : Env → Res D := fun δ => (fo δ).bind fun x => (chkK x).bind fun kvs => (fe δ).bind fun k => getK kvs k .none
@[simp] theorem dget1D_ev {δ : Env} : dget1D fo fe δ = (fo δ).bind fun x => (chkK x).bind fun kvs => (fe δ).bind fun k => getK kvs k .none := rfl
theorem PEp.dget1 (c : Ctx X N sc fn) (ho : PRp X W o fo) (he : PRp X W e fe)
    (hbase : attributeBase o "get" X.env (eval o X.env) = eval o X.env := by rfl)
    (hm : M1 X o "get" apos e cpos := by exact ⟨rfl, rfl, rfl, rfl⟩) :
    PEp X W (.Call (.Attribute o "get" apos) [e] [] cpos) (dget1D fo fe) := by
  obtain ⟨to, po, qo⟩ := ho
  obtain ⟨te, pe, qe⟩ := he
  refine ⟨_, pe_dget1 c.u1 po pe hm, fun C F δ σ H Q s g => ?_⟩
  refine qo C F δ σ H _ s ((Gd.bind g).mono fun d F1 H1 x1 g1 v rv => ?_)
  cases d with
  | dict kvs =>
    unfold chkK at g1
    dsimp only at g1
    rcases rv.dict x1.le with ⟨a, ks, ex, hs, ra, e0⟩ | ⟨a, ns, ex, hs, e0⟩
    · rw [e0] at g1
      have g1 : Gd W σ F1 H1 ((fe δ).bind fun k => getK kvs k .none) _ := g1
      refine ⟨a, ex, .inl ⟨ks, .inl hs⟩, ?_⟩
      refine qe C F1 δ σ H1 _ (s.ext x1) ((Gd.bind g1).mono fun k F2 H2 x2 g2 kv rk => ?_)
      unfold getK at g2
      split at g2
      · rename_i k' hk
        refine ⟨valV ks k', ?_, ?_⟩
        · rw [rk.key hk]
          exact DGet.k ((x2.hh _ _ hs).keep (fun ps z => nomatch z))
        · have ra' := RpK.mono x2.ff _ _ ra
          rcases ra'.val k' with ⟨l1, l2⟩ | ⟨w, d, l1, l2, rw_⟩
          · rw [l2] at g2; rw [l1]
            exact g2.ok (Ext.refl x2.le) _ .non
          · rw [l2] at g2; rw [l1]
            exact g2.ok (Ext.refl x2.le) _ rw_
      · exact False.elim g2
    · rw [e0] at g1
      exact False.elim g1
  | _ => exact False.elim g1
end
section
variable {P : Program} {w : World} {K : PySem.W.Frag} {mg : Str → Option Value} {base : Heap} {x : Str} {st : Stmt} {N ps : List Str} {k : Nat} {fb : Env → Fl}
theorem Kn.defQ (T : Top K mg x st) (S : FnScope N ps (defScope st)) (n : Nat) (hn : n + 1 = ps.length) (m : Nat) (hm : N.length = m) (hnm : 1 + n ≤ m) (hbd : BindT x st ps) (hb : BodyQ P w K mg base k N st fb) : Kn P w K mg base CX0 x (k + 1) (spQ K n (runQ fb m)) := by
  obtain ⟨f, fd, F, e⟩ := T.ex
  exact ⟨f, fd, ps, ok_defQ F S n hn m hm hnm hb, e, F.kp, F.binds hbd⟩
end
section
variable {X : Cx} {N : List Str} {sc : Scope} {fn : Str → Bool} {W : WS} {es : List Expr} {pos cpos : Pos} {x f : Str} {p p2 : Pos} {n : Nat}
theorem PEp.callFQ {fs : Env → Res (List D)} {φ : Bk → List D → Res D} (c : Ctx X N sc fn) (i : Nat) (h : Cal X.prog X.w X.K X.mg X.base X.A CX0 f (spQ X.K n φ)) (ha : PAp X W es fs) (hN : N[i]? = some x := by rfl) (hv : isVis sc x = true := by rfl) (hd : (x == ("__debug__" : Str)) = false := by decide) (hcd : (x == ("__classdict__" : Str)) = false := by decide) (hg : isGl sc f = true := by rfl) (hdb : (f == ("__debug__" : Str)) = false := by decide)
    (he : starEach (.Name x p :: es) X.env = (false, eval (.Name x p) X.env) :: starEach es X.env := by rfl) (hpl : (backTo cpos (starEach es X.env)).any (·.1) = false := by rfl) :
    PEp X W (.Call (.Name f p2) (.Name x p :: es) [] cpos) (cqS i n φ fs) := by
  obtain ⟨fa, fd, ps, k, F, r, mm, kp, b⟩ := h.ex
  obtain ⟨t, pa, qa⟩ := ha
  refine ⟨_, pe_call F r (c.gl hg) mm kp b .nil pass0 (pa_cons (pe_var (i := i) (by rw [c.hN]; exact hN) (c.vis hv) hd hcd) pa he) hdb he hpl, fun C F δ σ H Q s g => ?_⟩
  obtain ⟨a, dx, fss, h1, k1, k2, q⟩ := cq_run (m := "__init__") (R := fun vs H1 => spQ X.K n φ (vs ++ []) H1 Q E0) s g (by intro _ _ _ _ _; rfl) qa fun a B ds G F1 H1 vs d x1 hh r g1 _ => ⟨F1, ds, B, a, G, by rw [List.append_nil]; exact hh, by rw [r]; exact fun F' H' x2 v rv => g1.ok (x1.trans x2) v rv⟩
  exact ⟨_, join_some h1, q⟩
end
/-! ### meanings -/
section
variable {δ : Env} {i n : Nat} {a : AtN} {B B' : Bk} {p fz : Bool} {d : D}
@[simp] theorem frzS_bk : frzS (.bk p fz B) = .bk p true B := rfl
@[simp] theorem Bk.get_pe : B.get .pe = .list B.pe := rfl
@[simp] theorem Bk.get_ma : B.get .ma = .list B.ma := rfl
@[simp] theorem Bk.get_wi : B.get .wi = .list B.wi := rfl
@[simp] theorem Bk.get_de : B.get .de = .dict B.de := rfl
@[simp] theorem Bk.get_ot : B.get .ot = .list B.ot := rfl
@[simp] theorem fldR_ev : fldR i a δ = fldO a δ[i]? := rfl
@[simp] theorem fldO_bk : fldO a (some (.bk p fz B)) = .ok (B.get a) := rfl
@[simp] theorem fldZ_ev : fldZ i a δ = fldOZ a δ[i]? := rfl
@[simp] theorem fldOZ_bk : fldOZ a (some (.bk p true B)) = .ok (B.get a) := rfl
@[simp] theorem fappS_ev (f : Env → Res D) : fappS i a f δ = fappD i a f δ δ[i]? := rfl
@[simp] theorem fappD_pe (f : Env → Res D) : fappD i .pe f δ (some (.bk p false B)) = onR (f δ) δ fun d => if B.pe.length < 16777216 then .nx (δ.set i (.bk p false { B with pe := B.pe ++ [d] })) else .err := rfl
@[simp] theorem fappD_ma (f : Env → Res D) : fappD i .ma f δ (some (.bk p false B)) = onR (f δ) δ fun d => if B.ma.length < 16777216 then .nx (δ.set i (.bk p false { B with ma := B.ma ++ [d] })) else .err := rfl
@[simp] theorem fappD_wi (f : Env → Res D) : fappD i .wi f δ (some (.bk p false B)) = onR (f δ) δ fun d => if B.wi.length < 16777216 then .nx (δ.set i (.bk p false { B with wi := B.wi ++ [d] })) else .err := rfl
@[simp] theorem fappD_ot (f : Env → Res D) : fappD i .ot f δ (some (.bk p false B)) = onR (f δ) δ fun d => if B.ot.length < 16777216 then .nx (δ.set i (.bk p false { B with ot := B.ot ++ [d] })) else .err := rfl
@[simp] theorem fnewS_ev (f : Env → Res (List D)) : fnewS i a f δ = fnewD i a f δ δ[i]? := rfl
@[simp] theorem fnewD_ot (f : Env → Res (List D)) : fnewD i .ot f δ (some (.bk p false B)) = onR (f δ) δ fun ds => .nx (δ.set i (.bk p false { B with ot := ds })) := rfl
@[simp] theorem fsetS_ev (fk f : Env → Res D) : fsetS i a fk f δ = fsetD i a fk f δ δ[i]? := rfl
def setBk (i : Nat) (p : Bool) (B : Bk) (δ : Env) (d : D) : D → Fl
  | .int k => (match L2.ixN B.pe.length k with
        | some j => .nx (δ.set i (.bk p false { B with pe := B.pe.set j d }))
        | none => .err)
  | _ => .err
@[simp] theorem fsetD_pe (fk f : Env → Res D) : fsetD i .pe fk f δ (some (.bk p false B)) = onR ((f δ).bind fun d => (fk δ).bind fun k => .ok (d, k)) δ fun pr => setBk i p B δ pr.1 pr.2 := by
  refine congrArg (onR _ δ) ?_
  funext pr
  obtain ⟨d, k⟩ := pr
  cases k <;> rfl
@[simp] theorem fputS_ev (fk f : Env → Res D) : fputS i fk f δ = fputD i fk f δ δ[i]? := rfl
def putBk (i : Nat) (p : Bool) (B : Bk) (δ : Env) (d : D) : Option Key → Fl
  | some k => if B.de.length < sizeLine then .nx (δ.set i (.bk p false { B with de := putKD B.de k d })) else .err
  | none => .err
@[simp] theorem fputD_bk (fk f : Env → Res D) : fputD i fk f δ (some (.bk p false B)) = onR ((f δ).bind fun d => (fk δ).bind fun k => .ok (d, k)) δ fun pr => putBk i p B δ pr.1 (keyOf pr.2) := by
  show onR _ δ _ = onR _ δ _
  refine congrArg (onR _ δ) ?_
  funext pr
  unfold putBk
  cases keyOf pr.2 <;> rfl
@[simp] theorem cmS_ev (φ : Bk → List D → Res (D × Bk)) (fs : Env → Res (List D)) (rt : Bool) : cmS i n φ fs rt δ = cmD i n φ fs rt δ δ[i]? := rfl
@[simp] theorem cmD_st (φ : Bk → List D → Res (D × Bk)) (fs : Env → Res (List D)) : cmD i n φ fs false δ (some (.bk p false B)) = onR (fs δ) δ fun ds => cmE (α := Unit) n ds (φ B ds) fun d B' => .nx (δ.set i (.bk p false B')) := rfl
@[simp] theorem cmD_rt (φ : Bk → List D → Res (D × Bk)) (fs : Env → Res (List D)) : cmD i n φ fs true δ (some (.bk p false B)) = onR (fs δ) δ fun ds => cmE (α := Unit) n ds (φ B ds) fun d B' => .rb d (δ.set i (.bk p false B')) := rfl
@[simp] theorem cmE_ok (ds : List D) (k : D → Bk → Fl) : cmE (α := Unit) n ds (.ok (d, B)) k = if ds.length = n then k d B else .err := rfl
@[simp] theorem retBS_ev (f : Env → Res D) : retBS f δ = onR (f δ) δ fun d => .rb d δ := rfl
@[simp] theorem cqS_ev {α : Type} (φ : Bk → List D → Res α) (fs : Env → Res (List D)) : cqS i n φ fs δ = cqD n φ (fs δ) δ[i]? := rfl
@[simp] theorem cqD_bk {α : Type} (φ : Bk → List D → Res α) (r : Res (List D)) : cqD n φ r (some (.bk p false B)) = r.bind fun ds => ln n ds (noX (φ B ds)) := rfl
@[simp] theorem newBS_ev : newBS i δ = .nx (δ.set i (.bk false false Bk0)) := rfl
@[simp] theorem endM_rb : endM (.rb d δ) = endMS d δ[0]? := rfl
@[simp] theorem endM_nx : endM (.nx δ) = endMS .none δ[0]? := rfl
@[simp] theorem endMS_bk : endMS d (some (.bk true false B)) = .ok (d, B) := rfl
@[simp] theorem endQ_rt : endQ (.rt d) = .ok d := rfl
@[simp] theorem endQF_rf (ds : List D) : endQF (.rf ds) = .ok ds := rfl
theorem runM_ev (f : Env → Fl) (ds : List D) : runM f n B ds = endM (f (startM n B ds)) := rfl
theorem runQ_ev (f : Env → Fl) (ds : List D) : runQ f n B ds = endQ (f (startM n B ds)) := rfl
theorem runQF_ev (f : Env → Fl) (ds : List D) : runQF f n B ds = endQF (f (startM n B ds)) := rfl
end
end DL
/-! DK3: who has a line, plainly. -/
namespace DL
open PySem PySem.Spec PyProof.Rows L2
variable [TabP]
/-- person i has a line on day t, seen k deep -/
def lnD (f : Fam) (t : Int) : Nat → Int → Bool
  | 0, _ => false
  | k + 1, i => (f[i.toNat]?).any (fun p => alive p t) || (kidsOn f i t).any (lnD f t k)
/-- how many were born after b -/
def rk (f : Fam) (b : Int) : Nat := f.countP fun p => decide (b < p.born)
theorem countP_lt {α : Type} {p q : α → Bool} {l : List α} (h : ∀ x ∈ l, p x = true → q x = true) {y : α} (hy : y ∈ l) (h1 : p y = false) (h2 : q y = true) : l.countP p < l.countP q := by
  induction l with
  | nil => cases hy
  | cons x l ih =>
    have hm : l.countP p ≤ l.countP q := List.countP_mono_left fun z hz => h z (List.mem_cons_of_mem _ hz)
    rcases List.mem_cons.mp hy with e | e
    · subst e
      rw [List.countP_cons_of_neg (by simp [h1]), List.countP_cons_of_pos h2]
      omega
    · have := ih (fun z hz => h z (List.mem_cons_of_mem _ hz)) e
      rw [List.countP_cons, List.countP_cons]
      by_cases hp : p x = true
      · rw [if_pos hp, if_pos (h x List.mem_cons_self hp)]; omega
      · rw [if_neg hp]; omega
theorem rk_lt {f : Fam} {a b : Int} {p : Per} (hp : p ∈ f) (h : a < p.born) (e : p.born = b) : rk f b < rk f a :=
  countP_lt (fun x _ hx => by simp at hx ⊢; omega) hp (by simp; omega) (by simp; omega)
theorem rk_le (f : Fam) (b : Int) : rk f b ≤ f.length := List.countP_le_length
theorem parsOn_older {f : Fam} (ok : FamOk f) {p : Per} (hp : p ∈ f) (t : Int) : Older (f.map Per.born) (parsOn p t) p.born := by
  have h := ok p hp
  unfold parsOn
  split
  · rename_i d l e
    split
    · exact (h.ad d l e).2.2.2.2.2.1
    · exact h.par
  · exact h.par
theorem mem_kids {f : Fam} {i t c : Int} : c ∈ kidsOn f i t ↔ 0 ≤ c ∧ c < f.length ∧ ∃ p, f[c.toNat]? = some p ∧ p.born ≤ t ∧ i ∈ parsOn p t := by
  unfold kidsOn kid
  rw [List.mem_filter, mem_rgI]
  constructor
  · rintro ⟨⟨h0, h1⟩, h2⟩
    cases e : f[c.toNat]? with
    | none => rw [e] at h2; cases h2
    | some p => rw [e] at h2; simp at h2; exact ⟨h0, h1, p, rfl, h2.1, h2.2⟩
  · rintro ⟨h0, h1, p, e, h2, h3⟩
    exact ⟨⟨h0, h1⟩, by rw [e]; simp [h2, h3]⟩
/-- a child is born after its parent -/
theorem kid_born {f : Fam} (ok : FamOk f) {i t c : Int} (h : c ∈ kidsOn f i t) : ∃ p q, f[i.toNat]? = some q ∧ f[c.toNat]? = some p ∧ q.born < p.born ∧ 0 ≤ i ∧ 0 ≤ c := by
  obtain ⟨h0, h1, p, e, h2, h3⟩ := mem_kids.mp h
  obtain ⟨i0, b, e1, e2⟩ := parsOn_older ok (List.mem_of_getElem? e) t i h3
  rw [List.getElem?_map] at e1
  cases q : f[i.toNat]? with
  | none => rw [q] at e1; cases e1
  | some q' => rw [q] at e1; cases e1; exact ⟨p, q', rfl, e, e2, i0, h0⟩
theorem lnD_succ {f : Fam} (ok : FamOk f) (t : Int) : ∀ (k : Nat) (i : Int) (q : Per), f[i.toNat]? = some q → rk f q.born < k → lnD f t k i = lnD f t (k + 1) i := by
  intro k
  induction k with
  | zero => intro i q _ h; omega
  | succ k ih =>
    intro i q hq h
    show (_ || (kidsOn f i t).any (lnD f t k)) = (_ || (kidsOn f i t).any (lnD f t (k + 1)))
    congr 1
    rw [Bool.eq_iff_iff, List.any_eq_true, List.any_eq_true]
    have key : ∀ c ∈ kidsOn f i t, lnD f t k c = lnD f t (k + 1) c := fun c hc => by
      obtain ⟨p, q', e1, e2, e3, _, _⟩ := kid_born ok hc
      rw [hq] at e1; cases e1
      exact ih c p e2 (Nat.lt_of_lt_of_le (rk_lt (List.mem_of_getElem? e2) e3 rfl) (by omega))
    exact ⟨fun ⟨c, h1, h2⟩ => ⟨c, h1, by rw [← key c h1]; exact h2⟩, fun ⟨c, h1, h2⟩ => ⟨c, h1, by rw [key c h1]; exact h2⟩⟩
/-- person i has a line on day t -/
def lin (f : Fam) (t i : Int) : Bool := lnD f t f.length i
theorem rk_len {f : Fam} {p : Per} (h : p ∈ f) : rk f p.born < f.length := by
  have := countP_lt (p := fun x : Per => decide (p.born < x.born)) (q := fun _ => true) (l := f) (fun _ _ _ => rfl) h (by simp) rfl
  rw [List.countP_true] at this
  exact this
theorem lin_eq {f : Fam} (ok : FamOk f) {t i : Int} {q : Per} (h : f[i.toNat]? = some q) : lin f t i = (alive q t || (kidsOn f i t).any (lin f t)) := by
  unfold lin
  rw [lnD_succ ok t _ i q h (rk_len (List.mem_of_getElem? h))]
  show ((f[i.toNat]?).any (fun p => alive p t) || (kidsOn f i t).any (lnD f t f.length)) = _
  rw [h]; rfl
theorem lnD_lin {f : Fam} (ok : FamOk f) {t i : Int} {q : Per} (h : f[i.toNat]? = some q) : lin f t i = lnD f t (f.length + 1) i := lnD_succ ok t _ i q h (rk_len (List.mem_of_getElem? h))
end DL
/-! DK4: dicts by persons; in order of births. -/
namespace DL
open PySem PySem.Spec PyProof.Rows L2 DS
variable [TabP]
/-- a dict by whole numbers -/
def mapK (g : Int → D) (l : List Int) : List (D × D) := l.map fun i => (.int i, g i)
variable {g : Int → D} {l : List Int} {i : Int} {d : D}
@[simp] theorem scr_mapK : scrOf (mapK g l) = none := by
  cases l with
  | nil => rfl
  | cons a l => cases l <;> rfl
@[simp] theorem len_mapK : (mapK g l).length = l.length := by unfold mapK; rw [List.length_map]
theorem look_mapK : lookK (mapK g l) (.inl i) = if i ∈ l then some (g i) else none := by
  induction l with
  | nil => rfl
  | cons a l ih =>
    show lookK ((.int a, g a) :: mapK g l) (.inl i) = _
    rw [lookK_cons, ih]
    by_cases e : a = i
    · subst e; simp [keyOf]
    · rw [if_neg (by intro z; cases z; exact e rfl)]
      have : i ∈ a :: l ↔ i ∈ l := ⟨fun z => (List.mem_cons.mp z).elim (fun z => absurd z.symm e) id, List.mem_cons_of_mem _⟩
      by_cases q : i ∈ l
      · rw [if_pos q, if_pos (this.mpr q)]
      · rw [if_neg q, if_neg (fun z => q (this.mp z))]
theorem gIx_mapK (h : i ∈ l) : gIx (.dict (mapK g l)) (.int i) = .ok (g i) := by
  have e := look_mapK (g := g) (l := l) (i := i)
  rw [if_pos h] at e
  unfold gIx
  simp only [scr_mapK, keyOf]
  rw [e]; rfl
theorem gIn_mapK : gIn (.int i) (.dict (mapK g l)) = .ok (decide (i ∈ l)) := by
  have e := look_mapK (g := g) (l := l) (i := i)
  unfold gIn inA
  simp only [scr_mapK, keyOf, Option.map_some]
  rw [e]
  by_cases h : i ∈ l
  · rw [if_pos h, decide_eq_true h]; rfl
  · rw [if_neg h, decide_eq_false h]; rfl
@[simp] theorem gList_mapK : gList (.dict (mapK g l)) = .ok (l.map .int) := by
  unfold gList
  simp only [scr_mapK]
  unfold mapK
  rw [List.map_map]; rfl
@[simp] theorem chk_mapK : chkK (.dict (mapK g l)) = .ok (mapK g l) := by
  unfold chkK
  simp only [scr_mapK]
theorem get_mapK {z : D} : getK (mapK g l) (.int i) z = .ok (if i ∈ l then g i else z) := by
  have e := look_mapK (g := g) (l := l) (i := i)
  unfold getK
  simp only [keyOf]
  rw [e]
  by_cases h : i ∈ l
  · rw [if_pos h, if_pos h]; rfl
  · rw [if_neg h, if_neg h]; rfl
def updK (g : Int → D) (i : Int) (d : D) : Int → D := fun j => if j = i then d else g j
theorem any_mapK : ((mapK g l).any fun kv => decide (keyOf kv.1 = some (.inl i))) = decide (i ∈ l) := by
  have e := look_mapK (g := g) (l := l) (i := i)
  by_cases h : i ∈ l
  · rw [if_pos h] at e
    rw [decide_eq_true h]
    cases q : (mapK g l).any fun kv => decide (keyOf kv.1 = some (.inl i)) with
    | true => rfl
    | false => rw [lookK_none.mpr q] at e; cases e
  · rw [if_neg h] at e
    rw [decide_eq_false h]
    exact lookK_none.mp e
theorem put_mapK : putKD (mapK g l) (.inl i) d = mapK (updK g i d) (if i ∈ l then l else l ++ [i]) := by
  unfold putKD
  rw [any_mapK]
  by_cases h : i ∈ l
  · rw [if_pos (decide_eq_true h), if_pos h]
    unfold mapK
    rw [List.map_map]
    refine List.map_congr_left fun j _ => ?_
    show (if keyOf (.int j) = some (.inl i) then (PyData.int j, d) else (.int j, g j)) = _
    unfold updK
    by_cases e : j = i
    · subst e; rw [if_pos rfl, if_pos (show keyOf (.int j) = some (.inl j) from rfl)]
    · rw [if_neg (by intro z; cases z; exact e rfl), if_neg e]
  · rw [if_neg (by rw [decide_eq_false h]; decide), if_neg h]
    unfold mapK
    rw [List.map_append]
    congr 1
    · refine List.map_congr_left fun j hj => ?_
      unfold updK
      rw [if_neg (by rintro rfl; exact h hj)]
    · unfold updK
      simp [kD]
theorem putD_mapK {k : Nat} {δ : Env} (hl : l.length < 16777216) : putD k δ (mapK g l) d (.int i) = .nx (δ.set k (.ownK (mapK (updK g i d) (if i ∈ l then l else l ++ [i])))) := by
  unfold putD
  simp only [keyOf]
  rw [len_mapK, if_pos hl, put_mapK]
theorem updK_same : updK g i (g i) = g := by
  funext j
  unfold updK
  split
  · rename_i e; rw [e]
  · rfl
theorem mapK_congr {g' : Int → D} (h : ∀ j ∈ l, g j = g' j) : mapK g l = mapK g' l := by
  unfold mapK
  exact List.map_congr_left fun j hj => by rw [h j hj]
/-! sorted by a key -/
theorem byKeys_perm (is : List Int) (k : Int → Int) : (byKeys is (is.map k)).Perm is := by
  unfold byKeys
  have h := (List.mergeSort_perm (is.zip (is.map k)) fun a b => decide (a.2 ≤ b.2)).map Prod.fst
  refine h.trans ?_
  rw [List.map_fst_zip (by rw [List.length_map]; exact Nat.le_refl _)]
theorem byKeys_sorted (is : List Int) (k : Int → Int) : (byKeys is (is.map k)).Pairwise fun a b => k a ≤ k b := by
  unfold byKeys
  rw [List.pairwise_map]
  have h := List.pairwise_mergeSort (le := fun a b : Int × Int => decide (a.2 ≤ b.2)) (by intro a b c; simp; omega) (by intro a b; simp; omega) (is.zip (is.map k))
  refine List.Pairwise.imp_of_mem ?_ h
  intro a b ha hb hab
  have q : ∀ x ∈ ((is.zip (is.map k)).mergeSort fun a b => decide (a.2 ≤ b.2)), x.2 = k x.1 := fun x hx => by
    have hx := (List.mergeSort_perm _ _).mem_iff.mp hx
    rw [List.zip_map_right, List.mem_map] at hx
    obtain ⟨y, hy, rfl⟩ := hx
    have : ∀ (l : List Int) (y : Int × Int), y ∈ l.zip l → y.1 = y.2 := by
      intro l
      induction l with
      | nil => intro y h; cases h
      | cons a l ih =>
        intro y h
        rw [List.zip_cons_cons] at h
        rcases List.mem_cons.mp h with e | e
        · rw [e]
        · exact ih y e
    show k y.2 = k y.1
    rw [this is y hy]
  rw [← q a ha, ← q b hb]
  simpa using hab
theorem gKeys_of {ip : Nat} {fe : Env → Res D} {δ : Env} {k : Int → Int} {is : List Int} (h : ∀ i ∈ is, fe (δ.set ip (.val (.int i))) = .ok (.int (k i))) : gKeys ip fe δ (.list (is.map .int)) = .ok ((byKeys is (is.map k)).map .int) := by
  have h1 : keysF ip fe δ is = .ok (is.map k) := by
    induction is with
    | nil => rfl
    | cons a l ih =>
      unfold keysF
      rw [h a List.mem_cons_self, ih fun i hi => h i (List.mem_cons_of_mem _ hi)]
      rfl
  have h2 : ∀ l : List Int, intsOf (l.map PyData.int) = some l := by
    intro l
    induction l with
    | nil => rfl
    | cons a l ih => rw [List.map_cons]; simp only [intsOf, ih]; rfl
  unfold gKeys
  simp only [h2, h1]
@[simp] theorem sortKF_ev (fa : Env → Res D) (ip : Nat) (fe : Env → Res D) (δ : Env) : sortKF fa ip fe δ = (fa δ).bind (gKeys ip fe δ) := rfl
theorem gRL_ok {n : Nat} (h : n ≤ 16777216) : gRL (.int (n : Int)) = .ok ((rgI n).map .int) := by
  show (if 0 ≤ (n : Int) ∧ (n : Int) ≤ 16777216 then Res.ok _ else Res.err) = _
  rw [if_pos ⟨by omega, by omega⟩]; rfl
def bornOf (f : Fam) (i : Int) : Int := ((f[i.toNat]?).map Per.born).getD 0
theorem bornOf_at {f : Fam} {p : Per} (h : f[i.toNat]? = some p) : bornOf f i = p.born := by unfold bornOf; rw [h]; rfl
/-- the youngest first -/
def ordF (f : Fam) : List Int := byKeys (rgI f.length) ((rgI f.length).map fun i => -(bornOf f i))
theorem ordF_perm (f : Fam) : (ordF f).Perm (rgI f.length) := byKeys_perm _ _
theorem ordF_len (f : Fam) : (ordF f).length = f.length := by rw [(ordF_perm f).length_eq, rgI_len]
theorem mem_ordF {f : Fam} : i ∈ ordF f ↔ 0 ≤ i ∧ i < f.length := by rw [(ordF_perm f).mem_iff, mem_rgI]
theorem ordF_nodup (f : Fam) : (ordF f).Nodup := (ordF_perm f).nodup_iff.mpr (rgI_nodup _)
/-- children stand ahead of their parents -/
theorem kid_ahead {f : Fam} (ok : FamOk f) {t c : Int} {k : Nat} (hk : (ordF f)[k]? = some i) (hc : c ∈ kidsOn f i t) : c ∈ (ordF f).take k := by
  obtain ⟨p, q, e1, e2, e3, h0, h1⟩ := kid_born ok hc
  obtain ⟨c0, c1, _⟩ := mem_kids.mp hc
  obtain ⟨j, hj⟩ := List.mem_iff_getElem?.mp (mem_ordF.mpr ⟨c0, c1⟩)
  have hkl := (List.getElem?_eq_some_iff.mp hk)
  have hjl := (List.getElem?_eq_some_iff.mp hj)
  obtain ⟨hk1, hk2⟩ := hkl
  obtain ⟨hj1, hj2⟩ := hjl
  have hs : (ordF f).Pairwise fun a b => -(bornOf f a) ≤ -(bornOf f b) := byKeys_sorted _ _
  have hlt : j < k := by
    rcases Nat.lt_trichotomy j k with h | h | h
    · exact h
    · subst h
      rw [hk] at hj; cases hj
      rw [e1] at e2; cases e2
      omega
    · have := List.pairwise_iff_getElem.mp hs k j hk1 hj1 h
      rw [hk2, hj2, bornOf_at e1, bornOf_at e2] at this
      omega
  rw [List.mem_take_iff_getElem]
  exact ⟨j, by omega, hj2⟩
end DL
/-! DK5: rows that grow without doubles. -/
namespace DL
open PySem PySem.Spec PyProof.Rows L2
variable [TabP]
def addI (l : List Int) (i : Int) : List Int := if i ∈ l then l else l ++ [i]
theorem mem_addI {l : List Int} {i j : Int} : j ∈ addI l i ↔ j ∈ l ∨ j = i := by
  unfold addI
  split
  · rename_i h
    exact ⟨.inl, fun z => z.elim id fun e => e ▸ h⟩
  · simp
theorem nodup_addI {l : List Int} {i : Int} (h : l.Nodup) : (addI l i).Nodup := by
  unfold addI
  split
  · exact h
  · rename_i z
    rw [List.nodup_append]
    exact ⟨h, by simp, fun a ha b hb e => by rw [List.mem_singleton] at hb; exact z (by rw [← hb, ← e]; exact ha)⟩
theorem nodup_len2 {l m : List Int} (h : l.Nodup) (k : ∀ j ∈ l, j ∈ m) : l.length ≤ m.length := by
  induction l generalizing m with
  | nil => exact Nat.zero_le _
  | cons a l ih =>
    have h := List.nodup_cons.mp h
    have := ih (m := m.erase a) h.2 fun j hj => (List.mem_erase_of_ne (fun e : j = a => h.1 (by rw [← e]; exact hj))).mpr (k j (List.mem_cons_of_mem _ hj))
    rw [List.length_erase_of_mem (k a List.mem_cons_self)] at this
    have := List.length_pos_of_mem (k a List.mem_cons_self)
    rw [List.length_cons]
    omega
theorem nodup_len {l : List Int} {n : Nat} (h : l.Nodup) (k : ∀ j ∈ l, 0 ≤ j ∧ j < n) : l.length ≤ n := by
  have h2 : l.length ≤ (rgI n).length := nodup_len2 h fun j hj => mem_rgI.mpr (k j hj)
  rwa [rgI_len] at h2
def ysD : Int → D := fun _ => .bool true
theorem ys_upd (i : Int) : updK ysD i (.bool true) = ysD := updK_same (g := ysD)
theorem put_ys {k : Nat} {δ : Env} {l : List Int} {i : Int} (hl : l.length < 16777216) : putD k δ (mapK ysD l) (.bool true) (.int i) = .nx (δ.set k (.ownK (mapK ysD (addI l i)))) := by
  rw [putD_mapK hl, ys_upd]; rfl
/-- the keys of _law_lined behind k turns -/
structure LinI (f : Fam) (t : Int) (k : Nat) (l : List Int) : Prop where
  nd : l.Nodup
  sound : ∀ i : Int, i ∈ l → (0 ≤ i ∧ i < f.length) ∧ lin f t i = true
  full : ∀ i : Int, 0 ≤ i → i < f.length → lnD f t (k + 1) i = true → i ∈ l
theorem LinI.len {f : Fam} {t : Int} {k : Nat} {l : List Int} (h : LinI f t k l) : l.length ≤ f.length := nodup_len h.nd fun j hj => (h.sound j hj).1
/-- .. within a turn -/
structure LinJ (f : Fam) (t : Int) (l0 : List Int) (m : Nat) (l : List Int) : Prop where
  nd : l.Nodup
  sound : ∀ i : Int, i ∈ l → (0 ≤ i ∧ i < f.length) ∧ lin f t i = true
  sub : ∀ i ∈ l0, i ∈ l
  full : ∀ (j : Nat) (c i : Int), j < m → l0[j]? = some c → c ∈ kidsOn f i t → i ∈ l
theorem LinJ.len {f : Fam} {t : Int} {k : Nat} {l l0 : List Int} (h : LinJ f t l0 k l) : l.length ≤ f.length := nodup_len h.nd fun j hj => (h.sound j hj).1
theorem LinI.start {f : Fam} {t : Int} {k : Nat} {l : List Int} (h : LinI f t k l) : LinJ f t l 0 l := ⟨h.nd, h.sound, fun _ z => z, fun j _ _ z => absurd z (Nat.not_lt_zero _)⟩
theorem LinJ.fin {f : Fam} {t : Int} {k : Nat} {l0 l : List Int} (h0 : LinI f t k l0) (h : LinJ f t l0 l0.length l) : LinI f t (k + 1) l := by
  refine ⟨h.nd, h.sound, fun i i0 i1 hi => ?_⟩
  have hi : ((f[i.toNat]?).any (fun p => alive p t) || (kidsOn f i t).any (lnD f t (k + 1))) = true := hi
  rw [Bool.or_eq_true, List.any_eq_true] at hi
  rcases hi with z | ⟨c, hc, z⟩
  · exact h.sub i (h0.full i i0 i1 (by show (_ || _) = true; rw [z]; rfl))
  · obtain ⟨c0, c1, _⟩ := mem_kids.mp hc
    obtain ⟨j, hj⟩ := List.mem_iff_getElem?.mp (h0.full c c0 c1 z)
    exact h.full j c i (List.getElem?_eq_some_iff.mp hj).1 hj hc
/-- one who lives up -/
theorem LinJ.add {f : Fam} {t : Int} {l0 l : List Int} {m : Nat} {c i : Int} (ok : FamOk f) (h : LinJ f t l0 m l) (hc : l0[m]? = some c) (hk : c ∈ kidsOn f i t) : LinJ f t l0 m (addI l i) := by
  obtain ⟨p, q, e1, e2, e3, h0, h1⟩ := kid_born ok hk
  refine ⟨nodup_addI h.nd, fun j hj => ?_, fun j hj => mem_addI.mpr (.inl (h.sub j hj)), fun j d i' hjm hd hk' => mem_addI.mpr (.inl (h.full j d i' hjm hd hk'))⟩
  rcases mem_addI.mp hj with z | z
  · exact h.sound j z
  · subst z
    refine ⟨⟨h0, by have := (List.getElem?_eq_some_iff.mp e1).1; omega⟩, ?_⟩
    rw [lin_eq ok e1, Bool.or_eq_true, List.any_eq_true]
    exact .inr ⟨c, hk, (h.sound c (h.sub c (List.mem_of_getElem? hc))).2⟩
theorem LinJ.next {f : Fam} {t : Int} {l0 l : List Int} {m : Nat} {c : Int} (h : LinJ f t l0 m l) (hc : l0[m]? = some c) (hk : ∀ i, c ∈ kidsOn f i t → i ∈ l) : LinJ f t l0 (m + 1) l := by
  refine ⟨h.nd, h.sound, h.sub, fun j d i hj hd hi => ?_⟩
  by_cases e : j = m
  · subst e; rw [hc] at hd; cases hd; exact hk i hi
  · exact h.full j d i (by omega) hd hi
/-- those of the first k who live -/
def livTo (f : Fam) (t : Int) (k : Nat) : List Int := (rgI k).filter fun i => (f[i.toNat]?).any fun p => alive p t
theorem livTo_succ {f : Fam} {t : Int} {k : Nat} {p : Per} (h : f[k]? = some p) : livTo f t (k + 1) = if alive p t = true then livTo f t k ++ [(k : Int)] else livTo f t k := by
  unfold livTo
  rw [rgI_succ, List.filter_append]
  by_cases e : alive p t = true
  · rw [if_pos e]; simp [List.filter_cons, h, e]
  · rw [if_neg e]; simp [List.filter_cons, h, e]
theorem livTo_len (f : Fam) (t : Int) (k : Nat) : (livTo f t k).length ≤ k := by
  have := List.length_filter_le (fun i : Int => (f[i.toNat]?).any fun p => alive p t) (rgI k)
  rw [rgI_len] at this; exact this
theorem livTo_not (f : Fam) (t : Int) (k : Nat) : (k : Int) ∉ livTo f t k := fun h => by
  have := (mem_rgI.mp (List.mem_filter.mp h).1).2
  omega
theorem livTo_start {f : Fam} {t : Int} (ok : FamOk f) : LinI f t 0 (livTo f t f.length) := by
  refine ⟨List.Pairwise.filter _ (rgI_nodup _), fun i hi => ?_, fun i h0 h1 hi => ?_⟩
  · obtain ⟨h1, h2⟩ := List.mem_filter.mp hi
    have h1 := mem_rgI.mp h1
    refine ⟨h1, ?_⟩
    obtain ⟨p, hp⟩ := fam_lt h1.1 h1.2
    rw [hp] at h2
    have h2 : alive p t = true := h2
    rw [lin_eq ok hp, h2]; rfl
  · refine List.mem_filter.mpr ⟨mem_rgI.mpr ⟨h0, h1⟩, ?_⟩
    have hi : ((f[i.toNat]?).any (fun p => alive p t) || (kidsOn f i t).any (lnD f t 0)) = true := hi
    rw [Bool.or_eq_true] at hi
    rcases hi with z | z
    · exact z
    · rw [List.any_eq_true] at z
      obtain ⟨c, _, z⟩ := z
      cases z
theorem LinI.iff {f : Fam} {t : Int} {l : List Int} (ok : FamOk f) (h : LinI f t f.length l) {i : Int} (h0 : 0 ≤ i) (h1 : i < f.length) : decide (i ∈ l) = lin f t i := by
  obtain ⟨p, hp⟩ := fam_lt h0 h1
  by_cases z : i ∈ l
  · rw [decide_eq_true z, (h.sound i z).2]
  · rw [decide_eq_false z]
    cases e : lin f t i with
    | false => rfl
    | true => rw [lnD_lin ok hp] at e; exact absurd (h.full i h0 h1 e) z
end DL
/-! DK6: a whole that goes by lines, plainly. -/
namespace DL
open PySem PySem.Spec PyProof.Rows L2 DS
variable [TabP]
/-- heir, one of so many parts, line -/
abbrev RowP := Int × Int × List Int
def rowD (r : RowP) : D := .tuple [.int r.1, paD 1 r.2.1, .list (r.2.2.map .int)]
@[simp] theorem gIx_row0 (r : RowP) : gIx (rowD r) (.int 0) = .ok (.int r.1) := by unfold rowD; simp
@[simp] theorem gIx_row1 (r : RowP) : gIx (rowD r) (.int 1) = .ok (paD 1 r.2.1) := by unfold rowD; simp
@[simp] theorem gIx_row2 (r : RowP) : gIx (rowD r) (.int 2) = .ok (.list (r.2.2.map .int)) := by unfold rowD; simp
@[simp] theorem gT_row (r : RowP) (ts : List D → Env → Option Env) (δ : Env) : gT 3 ts (rowD r) δ = ts [.int r.1, paD 1 r.2.1, .list (r.2.2.map .int)] δ := rfl
@[simp] theorem gLen_row (r : RowP) : gLen (rowD r) = .ok (.int 3) := rfl
@[simp] theorem isT_row (r : RowP) : isT "tuple" (rowD r) = true := rfl
def aliveI (f : Fam) (t c : Int) : Bool := (f[c.toNat]?).any fun p => alive p t
theorem aliveI_at {f : Fam} {t c : Int} {p : Per} (h : f[c.toNat]? = some p) : aliveI f t c = alive p t := by unfold aliveI; rw [h]; rfl
/-- the children that have a line -/
def bel (f : Fam) (t i : Int) : List Int := (kidsOn f i t).filter (lin f t)
/-- one step of a row further down -/
def ahd (p : Int) (r : RowP) : RowP := (r.1, r.2.1, p :: r.2.2)
def scl (k : Int) (r : RowP) : RowP := (r.1, k * r.2.1, r.2.2)
/-- how one of u parts goes on by each of T -/
def shr (f : Fam) (t : Int) : Nat → Int → List Int → Int → List RowP
  | 0, _, _, _ => []
  | m + 1, p, T, u => T.flatMap fun c => if aliveI f t c = true then [(c, u * T.length, [p, c])] else (shr f t m c (bel f t c) (u * T.length)).map (ahd p)
/-- .. by one of them -/
def sh1 (f : Fam) (t : Int) (m : Nat) (p w c : Int) : List RowP := if aliveI f t c = true then [(c, w, [p, c])] else (shr f t m c (bel f t c) w).map (ahd p)
theorem shr_succ (f : Fam) (t : Int) (m : Nat) (p : Int) (T : List Int) (u : Int) : shr f t (m + 1) p T u = T.flatMap (sh1 f t m p (u * T.length)) := rfl
theorem shr_scl (f : Fam) (t k : Int) : ∀ (m : Nat) (p : Int) (T : List Int) (u : Int), shr f t m p T (k * u) = (shr f t m p T u).map (scl k)
  | 0, _, _, _ => rfl
  | m + 1, p, T, u => by
    rw [shr_succ, shr_succ, List.map_flatMap, Int.mul_assoc]
    refine congrArg List.flatten (List.map_congr_left fun c _ => ?_)
    unfold sh1
    by_cases h : aliveI f t c = true
    · rw [if_pos h, if_pos h]; rfl
    · rw [if_neg h, if_neg h, shr_scl f t k m, List.map_map, List.map_map]; rfl
def cnt (f : Fam) (t : Int) : Nat → Int → Nat
  | 0, c => if aliveI f t c = true then 1 else 0
  | m + 1, c => if aliveI f t c = true then 1 else ((bel f t c).map (cnt f t m)).sum
theorem shr_len (f : Fam) (t : Int) : ∀ (m : Nat) (p w c : Int), (sh1 f t m p w c).length = cnt f t m c
  | 0, p, w, c => by
    unfold sh1 cnt
    by_cases h : aliveI f t c = true
    · rw [if_pos h, if_pos h]; rfl
    · rw [if_neg h, if_neg h]; rfl
  | m + 1, p, w, c => by
    unfold sh1 cnt
    by_cases h : aliveI f t c = true
    · rw [if_pos h, if_pos h]; rfl
    · rw [if_neg h, if_neg h, List.length_map, shr_succ, List.length_flatMap]
      exact congrArg List.sum (List.map_congr_left fun d _ => shr_len f t m _ _ d)
theorem bel_nodup (f : Fam) (t c : Int) : (bel f t c).Nodup := List.Pairwise.filter _ (List.Pairwise.filter _ (rgI_nodup _))
theorem bel_sub {f : Fam} {t c d : Int} (h : d ∈ bel f t c) : d ∈ kidsOn f c t := (List.mem_filter.mp h).1
theorem bel_len (f : Fam) (t c : Int) : (bel f t c).length ≤ f.length := Nat.le_trans (List.length_filter_le _ _) (kidsOn_len f c t)
theorem cnt_le {f : Fam} {t : Int} (ok : FamOk f) : ∀ (k : Nat) (T : List Int) (m : Nat), (∀ c ∈ T, c ∈ (ordF f).take k) → T.Nodup → (T.map (cnt f t m)).sum + 1 ≤ 2 ^ k
  | 0, T, m, h, _ => by
    cases T with
    | nil => simp
    | cons a T => have := h a List.mem_cons_self; simp at this
  | k + 1, T, m, h, nd => by
    have hp : 2 ^ (k + 1) = 2 ^ k + 2 ^ k := by rw [Nat.pow_succ]; omega
    cases hx : (ordF f)[k]? with
    | none =>
      have e : (ordF f).take (k + 1) = (ordF f).take k := by rw [List.take_add_one, hx]; simp
      have := cnt_le (t := t) ok k T m (fun c hc => by rw [← e]; exact h c hc) nd
      omega
    | some x =>
      have e : (ordF f).take (k + 1) = (ordF f).take k ++ [x] := by rw [List.take_add_one, hx]; rfl
      have h' : ∀ c ∈ T, c ≠ x → c ∈ (ordF f).take k := fun c hc n => by
        have := h c hc
        rw [e, List.mem_append, List.mem_singleton] at this
        exact this.resolve_right n
      by_cases hxT : x ∈ T
      · have pm := List.perm_cons_erase hxT
        have s1 : (T.map (cnt f t m)).sum = cnt f t m x + ((T.erase x).map (cnt f t m)).sum := by
          have := (pm.map (cnt f t m)).sum_nat
          rw [this, List.map_cons, List.sum_cons]
        have nd2 : (T.erase x).Nodup := nd.erase x
        have s2 := cnt_le (t := t) ok k (T.erase x) m (fun c hc => h' c (List.mem_of_mem_erase hc) fun z => by rw [z] at hc; exact (List.Nodup.not_mem_erase nd) hc) nd2
        have s3 : cnt f t m x ≤ 2 ^ k := by
          have h1 : 1 ≤ 2 ^ k := Nat.one_le_two_pow
          cases m with
          | zero => unfold cnt; split <;> omega
          | succ m =>
            unfold cnt
            split
            · exact h1
            · have := cnt_le (t := t) ok k (bel f t x) m (fun d hd => kid_ahead ok hx (bel_sub hd)) (bel_nodup f t x)
              omega
        omega
      · have := cnt_le (t := t) ok k T m (fun c hc => h' c hc fun z => hxT (z ▸ hc)) nd
        omega
/-- how great, how long -/
theorem shr_bd {f : Fam} {t : Int} (hn : f.length ≤ 32) : ∀ (m : Nat) (p : Int) (T : List Int) (u : Int), 0 < u → T.length ≤ 32 → ∀ r ∈ shr f t m p T u, 0 < r.2.1 ∧ r.2.1 ≤ u * 32 ^ m ∧ r.2.2.length ≤ m + 1
  | 0, _, _, _, _, _, r, hr => by cases hr
  | m + 1, p, T, u, h0, hT, r, hr => by
    rw [shr_succ, List.mem_flatMap] at hr
    obtain ⟨c, hc, hr⟩ := hr
    have hT0 : 0 < T.length := List.length_pos_of_mem hc
    have hw : 0 < u * (T.length : Int) := Int.mul_pos h0 (by omega)
    have hw2 : u * (T.length : Int) ≤ u * 32 := Int.mul_le_mul_of_nonneg_left (by omega) (by omega)
    have p32 : (32 : Int) ^ (m + 1) = 32 * 32 ^ m := by rw [Int.pow_succ, Int.mul_comm]
    have hp : (0 : Int) < 32 ^ m := Int.pow_pos (by decide)
    unfold sh1 at hr
    by_cases h : aliveI f t c = true
    · rw [if_pos h, List.mem_singleton] at hr
      subst hr
      refine ⟨hw, ?_, by simp⟩
      rw [p32, ← Int.mul_assoc]
      have : u * (T.length : Int) * 1 ≤ u * 32 * 32 ^ m := Int.mul_le_mul hw2 (by omega) (by omega) (by omega)
      simpa using this
    · rw [if_neg h, List.mem_map] at hr
      obtain ⟨q, hq, rfl⟩ := hr
      obtain ⟨q1, q2, q3⟩ := shr_bd hn m c (bel f t c) (u * T.length) hw (Nat.le_trans (bel_len f t c) hn) q hq
      refine ⟨q1, ?_, by show (p :: q.2.2).length ≤ _; rw [List.length_cons]; omega⟩
      show q.2.1 ≤ _
      rw [p32, ← Int.mul_assoc]
      exact Int.le_trans q2 (Int.mul_le_mul_of_nonneg_right hw2 (by omega))
theorem rows_len {f : Fam} {t : Int} (ok : FamOk f) (hn : f.length ≤ 24) {T : List Int} (hT : ∀ c ∈ T, 0 ≤ c ∧ c < f.length) (nd : T.Nodup) (m : Nat) (p w : Int) : (T.flatMap (sh1 f t m p w)).length < 16777216 := by
  rw [List.length_flatMap]
  have e : T.map (fun c => (sh1 f t m p w c).length) = T.map (cnt f t m) := List.map_congr_left fun c _ => shr_len f t m p w c
  rw [e]
  have := cnt_le (t := t) ok f.length T m (fun c hc => by rw [← ordF_len f, List.take_length]; exact mem_ordF.mpr (hT c hc)) nd
  have : 2 ^ f.length ≤ 2 ^ 24 := Nat.pow_le_pow_right (by decide) hn
  omega
theorem pow32 {m : Nat} (h : m ≤ 36) : (1 : Int) * 32 ^ m < 2 ^ 190 := by
  have e : (32 : Int) ^ m = ((32 ^ m : Nat) : Int) := by norm_cast
  have h1 : 32 ^ m ≤ 32 ^ 36 := Nat.pow_le_pow_right (by decide) h
  have h2 : ((32 ^ 36 : Nat) : Int) < 2 ^ 190 := by decide
  omega
theorem flatMap_take {α β : Type} (g : α → List β) {l : List α} {k : Nat} {x : α} (h : l[k]? = some x) : (l.take (k + 1)).flatMap g = (l.take k).flatMap g ++ g x := by
  rw [List.take_add_one, h, List.flatMap_append]; simp
theorem flatMap_take_len {α β : Type} (g : α → List β) (l : List α) (k : Nat) : ((l.take k).flatMap g).length ≤ (l.flatMap g).length := by
  have : l.flatMap g = (l.take k).flatMap g ++ (l.drop k).flatMap g := by rw [← List.flatMap_append, List.take_append_drop]
  rw [this, List.length_append]; omega
end DL
/-! DK7: rows that are changed. -/
namespace DL
open PySem PySem.Spec PyProof.Rows L2 DS
variable [TabP]
theorem noIL_T (l : List Int) : noIL (intsT l) = true := by
  show noILA (l.map PyData.int) = true
  rw [noILA_iff]
  intro d hd
  obtain ⟨i, _, rfl⟩ := List.mem_map.mp hd
  rfl
theorem noIL_per (p : Per) : noIL (perD p) = true := by
  have h1 := noIL_T p.par
  have h2 : noIL (adD p.ad) = true := by
    cases p.ad with
    | none => rfl
    | some dl =>
      obtain ⟨d, l⟩ := dl
      have := noIL_T l
      simp [adD, noIL, noILA, this]
  have h3 : noIL (oiD p.died) = true := by cases p.died <;> rfl
  simp [perD, noIL, noILA, h1, h2, h3]
theorem noIL_fam (f : Fam) : noIL (famD f) = true := by
  have h1 : headI (f.map perD) = false := by cases f <;> rfl
  have h2 : noILA (f.map perD) = true := by
    rw [noILA_iff]
    intro d hd
    obtain ⟨p, _, rfl⟩ := List.mem_map.mp hd
    exact noIL_per p
  show (!headI (f.map perD) && noILA (f.map perD)) = true
  rw [h1, h2]; rfl
theorem mnS_fam (f : Fam) : mnS (.val (famD f)) = .val (famD f) := if_pos (noIL_fam f)
theorem mnS_int (i : Int) : mnS (.val (.int i)) = .val (.int i) := by simp [mnS, noIL]
theorem mnE_ev (δ : Env) : mnE δ = δ.map mnS := rfl
@[simp] theorem setP_ev (i : Nat) (f : Env → Res (List D)) (δ : Env) : setP i f δ = match f (mnE δ) with
  | .ok ds => .nx (δ.set i (.deep (some ds)))
  | _ => .err := rfl
theorem setP_ok {i : Nat} {f : Env → Res (List D)} {δ : Env} {ds : List D} (h : f (mnE δ) = .ok ds) : setP i f δ = .nx (δ.set i (.deep (some ds))) := by
  unfold setP; rw [h]
theorem napS_ok {i : Nat} {fb : Env → Res D} {δ : Env} {ds es : List D} {w : Int} (h : δ[i]? = some (.deep (some ds))) (k : fb (onlyE i δ ds) = .ok (.list (.int w :: es))) (hl : es.length + 1 < sizeLine) : napS i fb δ = .nx (δ.set i (.deep none)) := by
  unfold napS
  simp only [h, k]
  rw [if_pos hl]
theorem clrS_deep {i : Nat} {δ : Env} {o : Option (List D)} (h : δ[i]? = some (.deep o)) : clrS i δ = .nx (δ.set i (.own [])) := by
  unfold clrS
  simp only [h]
theorem clrS_own {i : Nat} {δ : Env} {o : List D} (h : δ[i]? = some (.own o)) : clrS i δ = .nx (δ.set i (.own [])) := by
  unfold clrS
  simp only [h]
theorem plain_row (n : Nat) (r : RowP) : plain (n + 2) (rowD r) = true := by
  have h : plainA n (r.2.2.map PyData.int) = true := plain_ints n _
  simp [rowD, paD, plain, plainA, h]
theorem plain_rows (R : List RowP) : plain 3 (.list (R.map rowD)) = true := by
  show plainA 2 (R.map rowD) = true
  rw [plainA_iff]
  intro d hd
  obtain ⟨r, _, rfl⟩ := List.mem_map.mp hd
  exact plain_row 0 r
theorem gNe_rows0 (R : List RowP) : gNe (.list (R.map rowD)) (.list []) = .ok (!decide (R = [])) :=
  gNe_of (n := 3) (m := 1) (plain_rows R) (by decide) rfl (by decide) (by simp)
/-- a line begins with the one it goes out from -/
theorem shr_line {f : Fam} {t : Int} {m : Nat} {p : Int} {T : List Int} {u : Int} {r : RowP} (h : r ∈ shr f t m p T u) : ∃ l, r.2.2 = p :: l := by
  cases m with
  | zero => cases h
  | succ m =>
    rw [shr_succ, List.mem_flatMap] at h
    obtain ⟨c, _, h⟩ := h
    unfold sh1 at h
    split at h
    · rw [List.mem_singleton] at h; subst h; exact ⟨_, rfl⟩
    · obtain ⟨q, _, rfl⟩ := List.mem_map.mp h; exact ⟨_, rfl⟩
end DL
/-! DK8: a whole that goes by the parents, plainly. -/
namespace DL
open PySem PySem.Spec PyProof.Rows L2 DS
variable [TabP]
/-- the children of q that have a line, but one -/
def oth (f : Fam) (t q i : Int) : List Int := (kidsOn f q t).filter fun c => lin f t c && !decide (c = i)
def tkP (f : Fam) (t i q : Int) : Bool := aliveI f t q || !decide (oth f t q i = [])
def tkr (f : Fam) (t i : Int) : List Int := ((f[i.toNat]?).elim [] fun p => parsOn p t).filter (tkP f t i)
def sh2 (f : Fam) (t i w q : Int) : List RowP := if aliveI f t q = true then [(q, w, [i, q])] else (shr f t 36 q (oth f t q i) w).map (ahd i)
def bpr (f : Fam) (t i : Int) : List RowP := (tkr f t i).flatMap (sh2 f t i (tkr f t i).length)
theorem oth_sub {f : Fam} {t q i d : Int} (h : d ∈ oth f t q i) : d ∈ kidsOn f q t := (List.mem_filter.mp h).1
theorem oth_nodup (f : Fam) (t q i : Int) : (oth f t q i).Nodup := List.Pairwise.filter _ (List.Pairwise.filter _ (rgI_nodup _))
theorem oth_len (f : Fam) (t q i : Int) : (oth f t q i).length ≤ f.length := Nat.le_trans (List.length_filter_le _ _) (kidsOn_len f q t)
theorem oth_place {f : Fam} (ok : FamOk f) {t q i : Int} (h0 : 0 ≤ q) (h1 : q < f.length) : ∃ k, k < f.length ∧ ∀ c ∈ oth f t q i, c ∈ (ordF f).take k := by
  obtain ⟨k, hk⟩ := List.mem_iff_getElem?.mp (mem_ordF.mpr ⟨h0, h1⟩)
  exact ⟨k, by rw [← ordF_len f]; exact (List.getElem?_eq_some_iff.mp hk).1, fun c hc => kid_ahead ok hk (oth_sub hc)⟩
theorem sh2_len {f : Fam} {t i w q : Int} (ok : FamOk f) (hn : f.length ≤ 24) (h0 : 0 ≤ q) (h1 : q < f.length) : (sh2 f t i w q).length ≤ 8388608 := by
  unfold sh2
  split
  · simp
  · obtain ⟨k, hk, hc⟩ := oth_place (t := t) (i := i) ok h0 h1
    rw [List.length_map, shr_succ, List.length_flatMap]
    have e : (oth f t q i).map (fun c => (sh1 f t 35 q (w * (oth f t q i).length) c).length) = (oth f t q i).map (cnt f t 35) := List.map_congr_left fun c _ => shr_len f t 35 q _ c
    rw [e]
    have := cnt_le (t := t) ok k (oth f t q i) 35 hc (oth_nodup f t q i)
    have : 2 ^ k ≤ 2 ^ 23 := Nat.pow_le_pow_right (by decide) (by omega)
    omega
theorem sh2_bd {f : Fam} {t i w q : Int} (hn : f.length ≤ 32) (hw : 0 < w) : ∀ r ∈ sh2 f t i w q, 0 < r.2.1 ∧ r.2.2.length ≤ 38 ∧ ∃ l, r.2.2 = i :: l := by
  intro r hr
  unfold sh2 at hr
  split at hr
  · rw [List.mem_singleton] at hr; subst hr; exact ⟨hw, by simp, _, rfl⟩
  · obtain ⟨s, hs, rfl⟩ := List.mem_map.mp hr
    obtain ⟨h1, h2, h3⟩ := shr_bd hn 36 q (oth f t q i) w hw (by have := oth_len f t q i; omega) s hs
    exact ⟨h1, by show (i :: s.2.2).length ≤ _; rw [List.length_cons]; omega, _, rfl⟩
theorem bpr_bd {f : Fam} {t i : Int} (hn : f.length ≤ 32) : ∀ r ∈ bpr f t i, 0 < r.2.1 ∧ r.2.2.length ≤ 38 ∧ ∃ l, r.2.2 = i :: l := by
  intro r hr
  obtain ⟨q, hq, hr⟩ := List.mem_flatMap.mp hr
  have := List.length_pos_of_mem hq
  exact sh2_bd hn (by omega) r hr
theorem par_rng {f : Fam} (ok : FamOk f) {t i q : Int} {p : Per} (hp : f[i.toNat]? = some p) (h : q ∈ parsOn p t) : 0 ≤ q ∧ q < f.length := by
  obtain ⟨h0, b, e, _⟩ := parsOn_older ok (List.mem_of_getElem? hp) t q h
  refine ⟨h0, ?_⟩
  have := (List.getElem?_eq_some_iff.mp e).1
  rw [List.length_map] at this
  omega
theorem tkr_eq {f : Fam} {t i : Int} {p : Per} (hp : f[i.toNat]? = some p) : tkr f t i = (parsOn p t).filter (tkP f t i) := by unfold tkr; rw [hp]; rfl
theorem tkr_rng {f : Fam} (ok : FamOk f) {t i q : Int} {p : Per} (hp : f[i.toNat]? = some p) (h : q ∈ tkr f t i) : 0 ≤ q ∧ q < f.length := by
  rw [tkr_eq hp] at h
  exact par_rng ok hp (List.mem_filter.mp h).1
theorem tkr_len {f : Fam} (ok : FamOk f) {t i : Int} {p : Per} (hp : f[i.toNat]? = some p) : (tkr f t i).length ≤ 2 := by
  rw [tkr_eq hp]
  exact Nat.le_trans (List.length_filter_le _ _) (parsOn_len (ok p (List.mem_of_getElem? hp)) t)
theorem flatMap_le {α β : Type} (g : α → List β) (N : Nat) : ∀ (l : List α), (∀ x ∈ l, (g x).length ≤ N) → (l.flatMap g).length ≤ l.length * N
  | [], _ => by simp
  | x :: l, h => by
    have := flatMap_le g N l fun y hy => h y (List.mem_cons_of_mem _ hy)
    have := h x List.mem_cons_self
    rw [List.flatMap_cons, List.length_append, List.length_cons, Nat.add_mul]
    omega
theorem bpr_len {f : Fam} (ok : FamOk f) (hn : f.length ≤ 24) {t i : Int} {p : Per} (hp : f[i.toNat]? = some p) : (bpr f t i).length ≤ 16777216 := by
  have h := flatMap_le (sh2 f t i (tkr f t i).length) 8388608 (tkr f t i) fun q hq => by
    obtain ⟨h0, h1⟩ := tkr_rng ok hp hq
    exact sh2_len ok hn h0 h1
  have h2 := tkr_len (t := t) ok hp
  have : (tkr f t i).length * 8388608 ≤ 2 * 8388608 := Nat.mul_le_mul_right _ h2
  show ((tkr f t i).flatMap _).length ≤ _
  omega
theorem bpr_len2 {f : Fam} (ok : FamOk f) (hn : f.length ≤ 24) {t i : Int} {p : Per} (hp : f[i.toNat]? = some p) {j : Nat} {q : Int} (hq : (tkr f t i)[j]? = some q) (ha : aliveI f t q = true) : (((tkr f t i).take j).flatMap (sh2 f t i (tkr f t i).length)).length ≤ 8388608 := by
  have h2 := tkr_len (t := t) ok hp
  have hj := (List.getElem?_eq_some_iff.mp hq).1
  have h := flatMap_le (sh2 f t i (tkr f t i).length) 8388608 ((tkr f t i).take j) fun q hq => by
    obtain ⟨h0, h1⟩ := tkr_rng ok hp (List.mem_of_mem_take hq)
    exact sh2_len ok hn h0 h1
  rw [List.length_take] at h
  have : min j (tkr f t i).length * 8388608 ≤ 1 * 8388608 := Nat.mul_le_mul_right _ (by omega)
  omega
end DL
/-! DK9: ways to the nearest, plainly. -/
namespace DL
open PySem PySem.Spec PyProof.Rows L2 DS
variable [TabP]
abbrev Pt := Int × Bool
abbrev Way := Pt × List Int
def encL (l : List Int) : D := .list (l.map .int)
def encW (W : List Way) : NKv := W.map fun w => (w.1, encL w.2)
def encS (S : List Pt) : NKv := S.map fun k => (k, .bool true)
def pkD (k : Pt) : D := .tuple [.int k.1, .bool k.2]
theorem keys_encW (W : List Way) : (encW W).map keyD = (W.map (·.1)).map pkD := by unfold encW; rw [List.map_map, List.map_map]; rfl
@[simp] theorem len_encW (W : List Way) : (encW W).length = W.length := by unfold encW; rw [List.length_map]
@[simp] theorem len_encS (S : List Pt) : (encS S).length = S.length := by unfold encS; rw [List.length_map]
def lookW (W : List Way) (k : Pt) : Option (List Int) := (W.find? fun w => decide (w.1 = k)).map (·.2)
def putW (W : List Way) (k : Pt) (l : List Int) : List Way := if (lookW W k).isSome then W.map fun w => if w.1 = k then (w.1, l) else w else W ++ [(k, l)]
theorem lookN_enc (W : List Way) (k : Pt) : lookN (encW W) k = (lookW W k).map encL := by
  induction W with
  | nil => rfl
  | cons w W ih =>
    unfold lookN lookW encW at *
    rw [List.map_cons]
    by_cases e : w.1 = k
    · rw [List.find?_cons_of_pos (by simp [e]), List.find?_cons_of_pos (by simp [e])]; rfl
    · rw [List.find?_cons_of_neg (by simp [e]), List.find?_cons_of_neg (by simp [e])]; exact ih
theorem putN_enc (W : List Way) (k : Pt) (l : List Int) : putN (encW W) k (encL l) = encW (putW W k l) := by
  unfold putN putW
  rw [lookN_enc, Option.isSome_map]
  split
  · unfold encW
    rw [List.map_map, List.map_map]
    refine List.map_congr_left fun w _ => ?_
    by_cases e : w.1 = k
    · simp [e]
    · simp [e]
  · unfold encW
    rw [List.map_append]; rfl
theorem lookN_encS (S : List Pt) (k : Pt) : lookN (encS S) k = if k ∈ S then some (.bool true) else none := by
  induction S with
  | nil => rfl
  | cons w S ih =>
    unfold lookN encS at *
    rw [List.map_cons]
    by_cases e : w = k
    · rw [List.find?_cons_of_pos (by simp [e])]; simp [e]
    · rw [List.find?_cons_of_neg (by simp [e]), ih]
      have : k ∈ w :: S ↔ k ∈ S := ⟨fun z => (List.mem_cons.mp z).elim (fun z => absurd z.symm e) id, List.mem_cons_of_mem _⟩
      by_cases q : k ∈ S
      · rw [if_pos q, if_pos (this.mpr q)]
      · rw [if_neg q, if_neg (fun z => q (this.mp z))]
theorem putN_encS {S : List Pt} {k : Pt} (h : k ∉ S) : putN (encS S) k (.bool true) = encS (S ++ [k]) := by
  unfold putN
  rw [lookN_encS, if_neg h]
  unfold encS
  rw [List.map_append]; rfl
/-! the lesser of two ways -/
theorem alike_ints : ∀ a b : List Int, PySem.W.alikeAll (a.map PyData.int) (b.map PyData.int) = true
  | [], _ => by simp [PySem.W.alikeAll]
  | _ :: _, [] => by simp [PySem.W.alikeAll]
  | x :: a, y :: b => by simp [PySem.W.alikeAll, PySem.W.alike, alike_ints a b]
theorem ordOk_L (a b : List Int) : ordOk [encL a, encL b] = true := by
  unfold ordOk
  have hp : plainA 1 [encL a, encL b] = true := by
    have h1 : plainA 0 (a.map PyData.int) = true := plain_ints 0 a
    have h2 : plainA 0 (b.map PyData.int) = true := plain_ints 0 b
    simp [plainA, encL, plain, h1, h2]
  have h := plainA_lay 1 [encL a, encL b] hp
  rw [h.1, decide_eq_true (by omega), Bool.true_and, Bool.true_and]
  have al : ∀ x y : List Int, PySem.W.alike (encL x) (encL y) = true := fun x y => by
    show PySem.W.alike (.list _) (.list _) = true
    simp [PySem.W.alike, alike_ints]
  have nn : ∀ x : List Int, isN (encL x) = false := fun _ => rfl
  simp [al, nn]
def minL (a b : List Int) : List Int := if PySem.W.dataLt (encL b) (encL a) = true then b else a
@[simp] theorem gMin2D_L (a b : List Int) : gMin2D (encL a) (encL b) = .ok (encL (minL a b)) := by
  unfold gMin2D
  rw [if_pos (ordOk_L a b)]
  unfold minL PySem.W.minD
  simp only [List.foldl_cons, List.foldl_nil]
  split <;> rfl
theorem minL_or (a b : List Int) : minL a b = a ∨ minL a b = b := by unfold minL; split <;> simp
/-! loops that fold -/
theorem loopL_fold {A α : Type} (e : A → Env) {is : List Nat} {g : D → Env → Option Env} {fb : Env → Fl} (enc : α → D) (step : A → α → A) (I : A → Prop) (he : ∀ a, fgE is (e a) = e a) : ∀ (xs : List α) (a : A) (δ : Env), fgE is δ = e a → I a →
    (∀ a x, x ∈ xs → I a → I (step a x) ∧ turnE is g fb (enc x) (e a) = .nx (e (step a x))) → I (xs.foldl step a) ∧ loopL is g fb (xs.map enc) δ = .nx (e (xs.foldl step a))
  | [], a, δ, h0, hI, _ => ⟨hI, by show Fl.nx (fgE is δ) = _; rw [h0]; rfl⟩
  | x :: xs, a, δ, h0, hI, h => by
    obtain ⟨h1, h2⟩ := h a x List.mem_cons_self hI
    obtain ⟨h3, h4⟩ := loopL_fold e enc step I he xs (step a x) (e (step a x)) (he _) h1 fun a y hy => h a y (List.mem_cons_of_mem _ hy)
    refine ⟨h3, ?_⟩
    rw [List.map_cons, loopL_nx (δ' := e (step a x)) (by rw [h0]; exact h2)]
    exact h4
theorem nodup_lenA {α : Type} [DecidableEq α] {l m : List α} (h : l.Nodup) (k : ∀ j ∈ l, j ∈ m) : l.length ≤ m.length := by
  induction l generalizing m with
  | nil => exact Nat.zero_le _
  | cons a l ih =>
    have h := List.nodup_cons.mp h
    have := ih (m := m.erase a) h.2 fun j hj => (List.mem_erase_of_ne (fun e : j = a => h.1 (by rw [← e]; exact hj))).mpr (k j (List.mem_cons_of_mem _ hj))
    rw [List.length_erase_of_mem (k a List.mem_cons_self)] at this
    have := List.length_pos_of_mem (k a List.mem_cons_self)
    rw [List.length_cons]
    omega
def allPt (n : Nat) : List Pt := (rgI n).flatMap fun p => [(p, true), (p, false)]
theorem mem_allPt {n : Nat} {k : Pt} : k ∈ allPt n ↔ 0 ≤ k.1 ∧ k.1 < n := by
  unfold allPt
  rw [List.mem_flatMap]
  constructor
  · rintro ⟨p, hp, h⟩
    have := mem_rgI.mp hp
    simp at h
    rcases h with rfl | rfl <;> exact this
  · intro h
    obtain ⟨p, b⟩ := k
    exact ⟨p, mem_rgI.mpr h, by cases b <;> simp⟩
theorem len_allPt (n : Nat) : (allPt n).length = 2 * n := by
  unfold allPt
  have : ∀ l : List Int, (l.flatMap fun p => [(p, true), (p, false)]).length = 2 * l.length := by
    intro l
    induction l with
    | nil => rfl
    | cons a l ih => rw [List.flatMap_cons, List.length_append, ih, List.length_cons]; simp; omega
  rw [this, rgI_len]
theorem pts_len {S : List Pt} {n : Nat} (h : S.Nodup) (k : ∀ p ∈ S, 0 ≤ p.1 ∧ p.1 < n) : S.length ≤ 2 * n := by
  rw [← len_allPt n]
  exact nodup_lenA h fun p hp => mem_allPt.mpr (k p hp)
/-! ways -/
structure WOk (f : Fam) (i : Int) (B : Nat) (W : List Way) : Prop where
  nd : (W.map (·.1)).Nodup
  rg : ∀ w ∈ W, 0 ≤ w.1.1 ∧ w.1.1 < f.length
  ln : ∀ w ∈ W, (∃ l, w.2 = i :: l) ∧ w.2.length ≤ B
theorem WOk.len {f : Fam} {i : Int} {B : Nat} {W : List Way} (h : WOk f i B W) : W.length ≤ 2 * f.length := by
  have := pts_len h.nd (n := f.length) fun p hp => by
    obtain ⟨w, hw, rfl⟩ := List.mem_map.mp hp
    exact h.rg w hw
  rwa [List.length_map] at this
theorem lookW_mem {W : List Way} {k : Pt} {l : List Int} (h : lookW W k = some l) : (k, l) ∈ W := by
  unfold lookW at h
  obtain ⟨w, h1, h2⟩ := Option.map_eq_some_iff.mp h
  have e := List.find?_some h1
  simp at e
  rw [← e, ← h2]
  exact List.mem_of_find?_eq_some h1
theorem lookW_none {W : List Way} {k : Pt} (h : lookW W k = none) : k ∉ W.map (·.1) := fun hk => by
  unfold lookW at h
  rw [Option.map_eq_none_iff, List.find?_eq_none] at h
  obtain ⟨w, hw, rfl⟩ := List.mem_map.mp hk
  have := h w hw
  simp at this
theorem putW_keys (W : List Way) (k : Pt) (l : List Int) : (putW W k l).map (·.1) = if (lookW W k).isSome then W.map (·.1) else W.map (·.1) ++ [k] := by
  unfold putW
  split
  · rw [List.map_map]
    exact List.map_congr_left fun w _ => by
      show (if w.1 = k then (w.1, l) else w).1 = w.1
      split <;> rfl
  · rw [List.map_append]; rfl
theorem mem_putW {W : List Way} {k : Pt} {l : List Int} {w : Way} (h : w ∈ putW W k l) : w ∈ W ∨ w = (k, l) := by
  unfold putW at h
  split at h
  · obtain ⟨v, hv, rfl⟩ := List.mem_map.mp h
    split
    · rename_i e; exact .inr (by rw [e])
    · exact .inl hv
  · rcases List.mem_append.mp h with z | z
    · exact .inl z
    · exact .inr (List.mem_singleton.mp z)
theorem WOk.put {f : Fam} {i : Int} {B : Nat} {W : List Way} (h : WOk f i B W) {k : Pt} {l : List Int} (hk : 0 ≤ k.1 ∧ k.1 < f.length) (hl : (∃ m, l = i :: m) ∧ l.length ≤ B) : WOk f i B (putW W k l) := by
  refine ⟨?_, fun w hw => ?_, fun w hw => ?_⟩
  · rw [putW_keys]
    split
    · exact h.nd
    · rename_i q
      have q : lookW W k = none := by simpa using q
      rw [List.nodup_append]
      exact ⟨h.nd, by simp, fun a ha b hb e => by rw [List.mem_singleton] at hb; exact lookW_none q (by rw [← hb, ← e]; exact ha)⟩
  · rcases mem_putW hw with z | z
    · exact h.rg w z
    · rw [z]; exact hk
  · rcases mem_putW hw with z | z
    · exact h.ln w z
    · rw [z]; exact hl
def mvs (f : Fam) (t : Int) (k : Pt) : List Pt := (kidsOn f k.1 t).map (fun c => (c, true)) ++ if k.2 = true then [] else (((f[k.1.toNat]?).elim [] fun p => parsOn p t).map fun c => (c, false))
theorem mvs_rg {f : Fam} (ok : FamOk f) {t : Int} {k o : Pt} (h : o ∈ mvs f t k) : 0 ≤ o.1 ∧ o.1 < f.length := by
  unfold mvs at h
  rcases List.mem_append.mp h with z | z
  · obtain ⟨c, hc, rfl⟩ := List.mem_map.mp z
    obtain ⟨h0, h1, _⟩ := mem_kids.mp hc
    exact ⟨h0, h1⟩
  · split at z
    · cases z
    · obtain ⟨c, hc, rfl⟩ := List.mem_map.mp z
      cases hp : f[k.1.toNat]? with
      | none => rw [hp] at hc; cases hc
      | some p => rw [hp] at hc; exact par_rng ok hp hc
def addO (S : List Pt) (w : List Int) (fd : List Way) (o : Pt) : List Way := if o ∈ S then fd else putW fd o (minL ((lookW fd o).getD (w ++ [o.1])) (w ++ [o.1]))
/-- the ways of one step more -/
def onw (f : Fam) (t : Int) (W : List Way) (S : List Pt) : List Way := W.foldl (fun fd w => (mvs f t w.1).foldl (addO S w.2) fd) []
def NotS (S : List Pt) (W : List Way) : Prop := ∀ w ∈ W, w.1 ∉ S
theorem addO_ok {f : Fam} {i : Int} {B : Nat} {fd : List Way} {S : List Pt} {w : List Int} {o : Pt} (h : WOk f i (B + 1) fd ∧ NotS S fd) (ho : 0 ≤ o.1 ∧ o.1 < f.length) (hw : (∃ l, w = i :: l) ∧ w.length ≤ B) : WOk f i (B + 1) (addO S w fd o) ∧ NotS S (addO S w fd o) := by
  unfold addO
  split
  · exact h
  · rename_i hS
    have hlong : (∃ m, w ++ [o.1] = i :: m) ∧ (w ++ [o.1]).length ≤ B + 1 := by
      obtain ⟨⟨l, rfl⟩, h2⟩ := hw
      exact ⟨⟨l ++ [o.1], rfl⟩, by rw [List.length_append]; simpa using h2⟩
    have hm : (∃ m, minL ((lookW fd o).getD (w ++ [o.1])) (w ++ [o.1]) = i :: m) ∧ (minL ((lookW fd o).getD (w ++ [o.1])) (w ++ [o.1])).length ≤ B + 1 := by
      rcases minL_or ((lookW fd o).getD (w ++ [o.1])) (w ++ [o.1]) with e | e
      · rw [e]
        cases q : lookW fd o with
        | none => exact hlong
        | some l => exact h.1.ln _ (lookW_mem q)
      · rw [e]; exact hlong
    refine ⟨h.1.put ho hm, fun v hv => ?_⟩
    rcases mem_putW hv with z | z
    · exact h.2 v z
    · rw [z]; exact hS
/-! the living ends -/
abbrev LvA := List Int × (Int → List Int)
def lvO (f : Fam) (t i : Int) (a : LvA) (w : Way) : LvA := if w.1.1 ≠ i ∧ aliveI f t w.1.1 = true then (addI a.1 w.1.1, fun j => if j = w.1.1 then minL (if w.1.1 ∈ a.1 then a.2 w.1.1 else w.2) w.2 else a.2 j) else a
def lvF (f : Fam) (t i : Int) (W : List Way) : LvA := W.foldl (lvO f t i) ([], fun _ => [])
def lvE (f : Fam) (t i : Int) (W : List Way) : List (Int × List Int) := (sortL (lvF f t i W).1).map fun h => (h, (lvF f t i W).2 h)
def pwD (p : Int × List Int) : D := .tuple [.int p.1, encL p.2]
structure LvOk (f : Fam) (t i : Int) (B : Nat) (a : LvA) : Prop where
  nd : a.1.Nodup
  rg : ∀ h ∈ a.1, (0 ≤ h ∧ h < f.length) ∧ h ≠ i ∧ aliveI f t h = true
  ln : ∀ h ∈ a.1, (∃ l, a.2 h = i :: l) ∧ (a.2 h).length ≤ B
theorem lvO_ok {f : Fam} {t i : Int} {B : Nat} {a : LvA} {w : Way} (h : LvOk f t i B a) (hw : 0 ≤ w.1.1 ∧ w.1.1 < f.length) (hl : (∃ l, w.2 = i :: l) ∧ w.2.length ≤ B) : LvOk f t i B (lvO f t i a w) := by
  unfold lvO
  split
  · rename_i hc
    refine ⟨nodup_addI h.nd, fun j hj => ?_, fun j hj => ?_⟩
    · rcases mem_addI.mp hj with z | z
      · exact h.rg j z
      · subst z; exact ⟨hw, hc.1, hc.2⟩
    · show (∃ l, (if j = w.1.1 then minL (if w.1.1 ∈ a.1 then a.2 w.1.1 else w.2) w.2 else a.2 j) = i :: l) ∧ (if j = w.1.1 then minL (if w.1.1 ∈ a.1 then a.2 w.1.1 else w.2) w.2 else a.2 j).length ≤ B
      by_cases e : j = w.1.1
      · rw [if_pos e]
        rcases minL_or (if w.1.1 ∈ a.1 then a.2 w.1.1 else w.2) w.2 with q | q
        · rw [q]
          split
          · rename_i hm; exact h.ln _ hm
          · exact hl
        · rw [q]; exact hl
      · rw [if_neg e]
        rcases mem_addI.mp hj with z | z
        · exact h.ln j z
        · exact absurd z e
  · exact h
end DL
/-! DK10: parts of a whole, and the rows of a deal, plainly. -/
namespace DL
open PySem PySem.Spec PyProof.Rows L2
variable [TabP]
abbrev Qt := Int × Int
def qD (q : Qt) : D := paD q.1 q.2
def lowQ (a b : Int) : Qt := (a / Int.gcd a b, b / Int.gcd a b)
def tmQ (p q : Qt) : Qt := lowQ (p.1 * q.1) (p.2 * q.2)
def lsQ (p q : Qt) : Qt := lowQ (p.1 * q.2 - q.1 * p.2) (p.2 * q.2)
structure Bn (k : Nat) (q : Qt) : Prop where
  n : q.1.natAbs < 2 ^ k
  p : 0 < q.2
  d : q.2.natAbs < 2 ^ k
theorem Bn.mono {k m : Nat} {q : Qt} (b : Bn k q) (h : k ≤ m) : Bn m q := by
  have := Nat.pow_le_pow_right (n := 2) (by decide) h
  exact ⟨Nat.lt_of_lt_of_le b.n this, b.p, Nat.lt_of_lt_of_le b.d this⟩
theorem lowQ_bn {a b : Int} {k : Nat} (ha : a.natAbs < 2 ^ k) (hb : 0 < b) (hb2 : b.natAbs < 2 ^ k) : Bn k (lowQ a b) := by
  have g1 : 0 < ((Int.gcd a b : Nat) : Int) := by
    have := Int.gcd_pos_of_ne_zero_right a (show b ≠ 0 by omega); omega
  refine ⟨Nat.lt_of_le_of_lt (Int.natAbs_ediv_le_natAbs _ _) ha, ?_, Nat.lt_of_le_of_lt (Int.natAbs_ediv_le_natAbs _ _) hb2⟩
  exact Int.ediv_pos_of_pos_of_dvd hb (by omega) (Int.gcd_dvd_right ..)
theorem mul_lt2 {a b : Int} {k m : Nat} (h : a.natAbs < 2 ^ k) (h2 : b.natAbs < 2 ^ m) : (a * b).natAbs < 2 ^ (k + m) := by
  rw [Int.natAbs_mul, Nat.pow_add]
  exact Nat.mul_lt_mul'' h h2
theorem tmQ_bn {p q : Qt} {k m : Nat} (hp : Bn k p) (hq : Bn m q) : Bn (k + m) (tmQ p q) := lowQ_bn (mul_lt2 hp.n hq.n) (Int.mul_pos hp.p hq.p) (mul_lt2 hp.d hq.d)
theorem sub_lt2 {a b : Int} {k : Nat} (h : a.natAbs < 2 ^ k) (h2 : b.natAbs < 2 ^ k) : (a - b).natAbs < 2 ^ (k + 1) := by
  rw [Nat.pow_succ]; omega
theorem lsQ_bn {p q : Qt} {k m : Nat} (hp : Bn k p) (hq : Bn m q) : Bn (k + m + 1) (lsQ p q) := by
  have h1 := mul_lt2 hp.n hq.d
  have h2 := mul_lt2 hq.n hp.d
  rw [Nat.add_comm m k] at h2
  have h3 := mul_lt2 hp.d hq.d
  refine lowQ_bn (sub_lt2 h1 h2) (Int.mul_pos hp.p hq.p) (Nat.lt_of_lt_of_le h3 (Nat.pow_le_pow_right (by decide) (by omega)))
/-- in lowest terms -/
def Lw (q : Qt) : Prop := lowQ q.1 q.2 = q
theorem lowQ_lw {a b : Int} (hb : 0 < b) : Lw (lowQ a b) := by
  have hg : 0 < Int.gcd a b := Int.gcd_pos_of_ne_zero_right a (by omega)
  have := Int.gcd_ediv_gcd_ediv_gcd (i := a) (j := b) hg
  show lowQ (a / Int.gcd a b) (b / Int.gcd a b) = _
  unfold lowQ
  rw [this]
  simp
theorem Lw.zero {q : Qt} (h : Lw q) (hp : 0 < q.2) : q.1 = 0 ↔ q = (0, 1) := by
  constructor
  · intro e
    have h2 : lowQ 0 q.2 = q := by rw [← e]; exact h
    rw [← h2]
    unfold lowQ
    rw [Int.gcd_zero_left]
    have e2 : ((q.2.natAbs : Nat) : Int) = q.2 := by omega
    rw [e2, Int.zero_ediv, Int.ediv_self (by omega)]
  · intro e; rw [e]
theorem tmQ_lw {p q : Qt} {k m : Nat} (hp : Bn k p) (hq : Bn m q) : Lw (tmQ p q) := lowQ_lw (Int.mul_pos hp.p hq.p)
theorem lsQ_lw {p q : Qt} {k m : Nat} (hp : Bn k p) (hq : Bn m q) : Lw (lsQ p q) := lowQ_lw (Int.mul_pos hp.p hq.p)
theorem tmQ_one {p : Qt} (h : Lw p) : tmQ p (1, 1) = p := by
  unfold tmQ; rw [Int.mul_one, Int.mul_one]; exact h
theorem qD_inj {p q : Qt} : qD p = qD q ↔ p = q := by
  obtain ⟨a, b⟩ := p; obtain ⟨c, d⟩ := q
  simp [qD, paD]
theorem bn_one : Bn 1 ((1, 1) : Qt) := ⟨by decide, by decide, by decide⟩
theorem bn_row {k : Int} (h : 0 < k) (h2 : k < 2 ^ 190) : Bn 190 ((1, k) : Qt) := by
  refine ⟨by show (1 : Int).natAbs < 2 ^ 190; decide, h, ?_⟩
  have : (2 : Int) ^ 190 = ((2 ^ 190 : Nat) : Int) := by norm_cast
  rw [this] at h2
  show k.natAbs < 2 ^ 190
  omega
/-! rows -/
abbrev GRow := Option Int × Qt × Str × List Int
def grD (r : GRow) : D := .tuple [oiD r.1, qD r.2.1, .str r.2.2.1, .list (r.2.2.2.map .int)]
/-- whom a gift of i goes to -/
def givR (f : Fam) (t i : Int) (g : Gif) : List GRow :=
  if aliveI f t g.1 = true then [(some g.1, (g.2.1, g.2.2), "will", [i, g.1])] else (shr f t 36 g.1 (bel f t g.1) 1).map fun r => (some r.1, tmQ (g.2.1, g.2.2) (1, r.2.1), "will", i :: r.2.2)
def stG (f : Fam) (t i : Int) (acc : List GRow × Qt) (g : Gif) : List GRow × Qt :=
  if givR f t i g = [] then acc else (acc.1 ++ givR f t i g, lsQ acc.2 (g.2.1, g.2.2))
def kinR (f : Fam) (t i : Int) (ps : List (Int × List Int)) : List RowP :=
  if shr f t 36 i (bel f t i) 1 = [] then (if bpr f t i = [] then ps.map fun p => (p.1, (ps.length : Int), p.2) else bpr f t i) else shr f t 36 i (bel f t i) 1
def kinH (f : Fam) (t i : Int) : Str := if shr f t 36 i (bel f t i) 1 = [] then (if bpr f t i = [] then "degree" else "parents") else "line"
def kinB (f : Fam) (t i : Int) (ps : List (Int × List Int)) : Qt := if shr f t 36 i (bel f t i) 1 = [] then (if bpr f t i = [] then (if ps = [] then (1, 1) else (3, 4)) else (1, 2)) else (1, 4)
def resR (rest : Qt) (h : Str) (R : List RowP) : List GRow := R.map fun r => (some r.1, tmQ rest (1, r.2.1), h, r.2.2)
def rsR (i : Int) (mate : Option Int) (rest : Qt) (R : List RowP) (h : Str) (b : Qt) : List GRow := match mate with
  | none => if R = [] then [(none, rest, "town", [i])] else resR rest h R
  | some m => (some m, tmQ rest b, "spouse", [i, m]) :: resR (lsQ rest (tmQ rest b)) h R
def delR (f : Fam) (t i : Int) (gs : List Gif) (mate : Option Int) (ps : List (Int × List Int)) : List GRow :=
  let acc := gs.foldl (stG f t i) ([], (1, 1))
  if acc.2 = (0, 1) then acc.1 else acc.1 ++ rsR i mate acc.2 (kinR f t i ps) (kinH f t i) (kinB f t i ps)
theorem kinB_bn (f : Fam) (t i : Int) (ps : List (Int × List Int)) : Bn 3 (kinB f t i ps) := by
  unfold kinB
  split
  · split
    · split <;> exact ⟨by decide, by decide, by decide⟩
    · exact ⟨by decide, by decide, by decide⟩
  · exact ⟨by decide, by decide, by decide⟩
/-- how many, for a few -/
theorem shr_few {f : Fam} {t i : Int} (ok : FamOk f) (hn : f.length ≤ 20) : (shr f t 36 i (bel f t i) 1).length ≤ 1048576 := by
  rw [shr_succ, List.length_flatMap]
  have e : (bel f t i).map (fun c => (sh1 f t 35 i (1 * (bel f t i).length) c).length) = (bel f t i).map (cnt f t 35) := List.map_congr_left fun c _ => shr_len f t 35 i _ c
  rw [e]
  have := cnt_le (t := t) ok f.length (bel f t i) 35 (fun c hc => by
    rw [← ordF_len f, List.take_length]
    obtain ⟨c0, c1, _⟩ := mem_kids.mp (bel_sub hc)
    exact mem_ordF.mpr ⟨c0, c1⟩) (bel_nodup f t i)
  have : 2 ^ f.length ≤ 2 ^ 20 := Nat.pow_le_pow_right (by decide) hn
  omega
theorem sh2_few {f : Fam} {t i w q : Int} (ok : FamOk f) (hn : f.length ≤ 20) (h0 : 0 ≤ q) (h1 : q < f.length) : (sh2 f t i w q).length ≤ 524288 := by
  unfold sh2
  split
  · simp
  · obtain ⟨k, hk, hc⟩ := oth_place (t := t) (i := i) ok h0 h1
    rw [List.length_map, shr_succ, List.length_flatMap]
    have e : (oth f t q i).map (fun c => (sh1 f t 35 q (w * (oth f t q i).length) c).length) = (oth f t q i).map (cnt f t 35) := List.map_congr_left fun c _ => shr_len f t 35 q _ c
    rw [e]
    have := cnt_le (t := t) ok k (oth f t q i) 35 hc (oth_nodup f t q i)
    have : 2 ^ k ≤ 2 ^ 19 := Nat.pow_le_pow_right (by decide) (by omega)
    omega
theorem bpr_few {f : Fam} {t i : Int} (ok : FamOk f) (hn : f.length ≤ 20) (h0 : 0 ≤ i) (h1 : i < f.length) : (bpr f t i).length ≤ 1048576 := by
  obtain ⟨p, hp⟩ := fam_lt h0 h1
  have h := flatMap_le (sh2 f t i (tkr f t i).length) 524288 (tkr f t i) fun q hq => by
    obtain ⟨h0, h1⟩ := tkr_rng ok hp hq
    exact sh2_few ok hn h0 h1
  have h2 := tkr_len (t := t) ok hp
  have : (tkr f t i).length * 524288 ≤ 2 * 524288 := Nat.mul_le_mul_right _ h2
  show ((tkr f t i).flatMap _).length ≤ _
  omega
/-- rows of kin -/
structure RowsOk (i : Int) (R : List RowP) : Prop where
  len : R.length ≤ 1048576
  row : ∀ r ∈ R, 0 < r.2.1 ∧ r.2.1 < 2 ^ 190 ∧ r.2.2.length ≤ 990 ∧ ∃ l, r.2.2 = i :: l
theorem shr_ok {f : Fam} {t i : Int} (ok : FamOk f) (hn : f.length ≤ 20) : RowsOk i (shr f t 36 i (bel f t i) 1) := by
  refine ⟨shr_few ok hn, fun r hr => ?_⟩
  obtain ⟨h1, h2, h3⟩ := shr_bd (t := t) (f := f) (by omega) 36 i (bel f t i) 1 (by decide) (by have := bel_len f t i; omega) r hr
  exact ⟨h1, Int.lt_of_le_of_lt h2 (pow32 (by decide)), by omega, shr_line hr⟩
theorem bpr_ok {f : Fam} {t i : Int} (ok : FamOk f) (hn : f.length ≤ 20) (h0 : 0 ≤ i) (h1 : i < f.length) : RowsOk i (bpr f t i) := by
  refine ⟨bpr_few ok hn h0 h1, fun r hr => ?_⟩
  obtain ⟨p, hp⟩ := fam_lt h0 h1
  obtain ⟨b1, b2, b3⟩ := bpr_bd (t := t) (i := i) (show f.length ≤ 32 by omega) r hr
  refine ⟨b1, ?_, by omega, b3⟩
  obtain ⟨q, hq, hr⟩ := List.mem_flatMap.mp hr
  have hl := tkr_len (t := t) ok hp
  have hl0 := List.length_pos_of_mem hq
  unfold sh2 at hr
  split at hr
  · rw [List.mem_singleton] at hr; subst hr
    show (((tkr f t i).length : Nat) : Int) < 2 ^ 190
    have : (2 : Int) < 2 ^ 190 := by decide
    omega
  · obtain ⟨s, hs, rfl⟩ := List.mem_map.mp hr
    have h2 := (shr_bd (show f.length ≤ 32 by omega) 36 q (oth f t q i) _ (show (0 : Int) < ((tkr f t i).length : Nat) by omega) (by have := oth_len f t q i; omega) s hs).2.1
    have h3 : (((tkr f t i).length : Nat) : Int) * 32 ^ 36 ≤ 2 * 32 ^ 36 := Int.mul_le_mul_of_nonneg_right (by omega) (by decide)
    exact Int.lt_of_le_of_lt (Int.le_trans h2 h3) (by decide)
theorem kinR_ok {f : Fam} {t i : Int} {ps : List (Int × List Int)} (ok : FamOk f) (hn : f.length ≤ 20) (h0 : 0 ≤ i) (h1 : i < f.length) (hp : ∀ p ∈ ps, (∃ l, p.2 = i :: l) ∧ p.2.length ≤ 900) (hl : ps.length ≤ f.length) : RowsOk i (kinR f t i ps) := by
  unfold kinR
  split
  · split
    · refine ⟨by rw [List.length_map]; omega, fun r hr => ?_⟩
      obtain ⟨p, hp2, rfl⟩ := List.mem_map.mp hr
      have := List.length_pos_of_mem hp2
      obtain ⟨k1, k2⟩ := hp p hp2
      refine ⟨by show (0 : Int) < (ps.length : Nat); omega, ?_, by show p.2.length ≤ 990; omega, k1⟩
      show ((ps.length : Nat) : Int) < 2 ^ 190
      have : (20 : Int) < 2 ^ 190 := by decide
      omega
    · exact bpr_ok ok hn h0 h1
  · exact shr_ok ok hn
/-- rows of a deal -/
structure GRowOk (i : Int) (r : GRow) : Prop where
  len : r.2.2.2.length ≤ 1000
  line : ∃ l, r.2.2.2 = i :: l
  how : PyData.strOk r.2.2.1 = true
theorem kinH_ok (f : Fam) (t i : Int) : PyData.strOk (kinH f t i) = true := by
  unfold kinH
  split
  · split <;> decide +kernel
  · decide +kernel
theorem resR_ok {i : Int} {R : List RowP} (h : RowsOk i R) (rest : Qt) {w : Str} (hw : PyData.strOk w = true) : ∀ r ∈ resR rest w R, GRowOk i r := fun r hr => by
  obtain ⟨s, hs, rfl⟩ := List.mem_map.mp hr
  obtain ⟨_, _, k3, k4⟩ := h.row s hs
  exact ⟨Nat.le_trans k3 (by decide), k4, hw⟩
theorem rsR_ok {i : Int} {R : List RowP} (h : RowsOk i R) (mate : Option Int) (rest : Qt) {w : Str} (hw : PyData.strOk w = true) (b : Qt) : (∀ r ∈ rsR i mate rest R w b, GRowOk i r) ∧ (rsR i mate rest R w b).length ≤ 1048577 := by
  cases mate with
  | none =>
    unfold rsR
    dsimp only
    split
    · refine ⟨fun r hr => ?_, by simp⟩
      rw [List.mem_singleton] at hr; subst hr
      exact ⟨by simp, ⟨_, rfl⟩, by show PyData.strOk "town" = true; decide +kernel⟩
    · exact ⟨resR_ok h _ hw, by unfold resR; rw [List.length_map]; have := h.len; omega⟩
  | some m =>
    refine ⟨fun r hr => ?_, by show (resR _ _ _).length + 1 ≤ _; unfold resR; rw [List.length_map]; have := h.len; omega⟩
    rcases List.mem_cons.mp hr with z | z
    · subst z; exact ⟨by simp, ⟨_, rfl⟩, by show PyData.strOk "spouse" = true; decide +kernel⟩
    · exact resR_ok h _ hw r z
theorem givR_ok {f : Fam} {t i : Int} (ok : FamOk f) (hn : f.length ≤ 20) (g : Gif) : (∀ r ∈ givR f t i g, GRowOk i r) ∧ (givR f t i g).length ≤ 1048576 := by
  unfold givR
  split
  · refine ⟨fun r hr => ?_, by simp⟩
    rw [List.mem_singleton] at hr; subst hr
    exact ⟨by simp, ⟨_, rfl⟩, by show PyData.strOk "will" = true; decide +kernel⟩
  · have h := shr_ok (t := t) (i := g.1) ok hn
    refine ⟨fun r hr => ?_, by rw [List.length_map]; exact h.len⟩
    obtain ⟨s, hs, rfl⟩ := List.mem_map.mp hr
    obtain ⟨_, _, k3, _⟩ := h.row s hs
    exact ⟨by show (i :: s.2.2).length ≤ _; rw [List.length_cons]; omega, ⟨_, rfl⟩, by show PyData.strOk "will" = true; decide +kernel⟩
/-- a gift as a will holds it -/
structure GifL (f : Fam) (g : Gif) : Prop where
  rg : 0 ≤ g.1 ∧ g.1 < f.length
  lw : Lw (g.2.1, g.2.2)
  bn : Bn 200 (g.2.1, g.2.2)
/-- behind k gifts -/
structure AccOk (i : Int) (k : Nat) (acc : List GRow × Qt) : Prop where
  row : ∀ r ∈ acc.1, GRowOk i r
  len : acc.1.length ≤ k * 1048576
  bn : Bn (1 + k * 201) acc.2
  lw : Lw acc.2
theorem acc0 (i : Int) : AccOk i 0 ([], (1, 1)) := ⟨fun _ h => (nomatch h), Nat.zero_le _, bn_one, by unfold Lw lowQ; simp⟩
theorem stG_ok {f : Fam} {t i : Int} (ok : FamOk f) (hn : f.length ≤ 20) {k : Nat} {acc : List GRow × Qt} (h : AccOk i k acc) {g : Gif} (hg : GifL f g) : AccOk i (k + 1) (stG f t i acc g) := by
  unfold stG
  split
  · exact ⟨h.row, Nat.le_trans h.len (Nat.mul_le_mul_right _ (Nat.le_succ k)), h.bn.mono (by omega), h.lw⟩
  · obtain ⟨g1, g2⟩ := givR_ok (t := t) (i := i) ok hn g
    refine ⟨fun r hr => ?_, ?_, (lsQ_bn h.bn hg.bn).mono (by omega), lsQ_lw h.bn hg.bn⟩
    · rcases List.mem_append.mp hr with z | z
      · exact h.row r z
      · exact g1 r z
    · show (acc.1 ++ givR f t i g).length ≤ _
      rw [List.length_append]
      have := h.len
      omega
theorem foldG_ok {f : Fam} {t i : Int} (ok : FamOk f) (hn : f.length ≤ 20) : ∀ (gs : List Gif) (k : Nat) (acc : List GRow × Qt), AccOk i k acc → (∀ g ∈ gs, GifL f g) → AccOk i (k + gs.length) (gs.foldl (stG f t i) acc)
  | [], k, acc, h, _ => h
  | g :: gs, k, acc, h, hg => by
    have := foldG_ok (t := t) ok hn gs (k + 1) _ (stG_ok (t := t) ok hn h (hg g List.mem_cons_self)) fun g' hg' => hg g' (List.mem_cons_of_mem _ hg')
    rw [List.length_cons, show k + (gs.length + 1) = k + 1 + gs.length by omega]
    exact this
theorem delR_ok {f : Fam} {t i : Int} {gs : List Gif} {mate : Option Int} {ps : List (Int × List Int)} (ok : FamOk f) (hn : f.length ≤ 20) (h0 : 0 ≤ i) (h1 : i < f.length) (hg : ∀ g ∈ gs, GifL f g) (hgl : gs.length ≤ 10) (hp : ∀ p ∈ ps, (∃ l, p.2 = i :: l) ∧ p.2.length ≤ 900) (hl : ps.length ≤ f.length) :
    (∀ r ∈ delR f t i gs mate ps, GRowOk i r) ∧ (delR f t i gs mate ps).length ≤ 12000000 := by
  have h := foldG_ok (t := t) ok hn gs 0 _ (acc0 i) hg
  obtain ⟨k1, k2⟩ := rsR_ok (kinR_ok (t := t) ok hn h0 h1 hp hl) mate (gs.foldl (stG f t i) ([], (1, 1))).2 (kinH_ok f t i) (kinB f t i ps)
  have hlen := h.len
  unfold delR
  dsimp only
  split
  · exact ⟨h.row, by omega⟩
  · refine ⟨fun r hr => ?_, by rw [List.length_append]; omega⟩
    rcases List.mem_append.mp hr with z | z
    · exact h.row r z
    · exact k1 r z
end DL
namespace K14
open PySem PySem.Spec PyProof.Rows L2 DL
def topS (i : Nat) : Stmt := PySem.Challenge.pw_estateroll_k14_whole_far_off.main.body.getD i (.Pass ⟨0, 0, 0, 0⟩)
/-! Book___init__ -/
abbrev s_Book___init__ : Stmt := inClass (topS 60) 0
abbrev N_Book___init__ : List Str := ["self"]
theorem sc_Book___init__ : FnScope N_Book___init__ ["self"] (defScope s_Book___init__) := ⟨rfl, rfl, rfl, by decide +kernel, rfl, by decide +kernel, by decide +kernel⟩
/-! is_whole -/
abbrev s_is_whole : Stmt := topS 46
abbrev N_is_whole : List Str := ["thing"]
theorem sc_is_whole : FnScope N_is_whole ["thing"] (defScope s_is_whole) := ⟨rfl, rfl, rfl, by decide +kernel, rfl, by decide +kernel, by decide +kernel⟩
def S_is_whole : DL.Env → Fl :=
  (retS (valB (andB (isiB "int" (rD 0)) (notB (isiB "bool" (rD 0))))))
def F_is_whole : List D → Res D := runD S_is_whole 1
/-! need_people -/
abbrev s_need_people : Stmt := topS 47
abbrev N_need_people : List Str := ["people", "row", "person"]
theorem sc_need_people : FnScope N_need_people ["people", "row"] (defScope s_need_people) := ⟨rfl, rfl, rfl, by decide +kernel, rfl, by decide +kernel, by decide +kernel⟩
def B_need_people_0 : DL.Env → Fl :=
  (ifS (orB (notB (un (callD 1 F_is_whole (consA (vD 2) nilA)) asB)) (notB (chainB (fun i j => decide (i ≤ j)) (fun i j => decide (i < j)) (cD (.int 0)) (rD 2) (lenD (rD 0)))))
      (fun _ => .err)
      nxS)
def S_need_people : DL.Env → Fl :=
  (forS [2] (seqI (vD 1)) (gN 2) B_need_people_0)
def F_need_people : List D → Res D := runD S_need_people 3
/-! need_day -/
abbrev s_need_day : Stmt := topS 48
abbrev N_need_day : List Str := ["day"]
theorem sc_need_day : FnScope N_need_day ["day"] (defScope s_need_day) := ⟨rfl, rfl, rfl, by decide +kernel, rfl, by decide +kernel, by decide +kernel⟩
def S_need_day : DL.Env → Fl :=
  (ifS (orB (notB (un (callD 1 F_is_whole (consA (vD 0) nilA)) asB)) (notB (chainB (fun i j => decide (i ≤ j)) (fun i j => decide (i ≤ j)) (cD (.int 0)) (rD 0) (cD (.int 100000)))))
      (fun _ => .err)
      nxS)
def F_need_day : List D → Res D := runD S_need_day 1
/-! need_death -/
abbrev s_need_death : Stmt := topS 55
abbrev N_need_death : List Str := ["roll", "person", "day", "people", "marriages", "wills", "born", "parents", "adopted", "died", "late", "met", "one"]
theorem sc_need_death : FnScope N_need_death ["roll", "person", "day"] (defScope s_need_death) := ⟨rfl, rfl, rfl, by decide +kernel, rfl, by decide +kernel, by decide +kernel⟩
def S_need_death : DL.Env → Fl :=
  (seqS (asgS (gT 3 (gCons (gN 3) (gCons (gN 4) (gCons (gN 5) gNil)))) (vD 0)) (seqS (dropS (callD 2 F_need_people (consA (vD 3) (consA (valF (lstF (consA (vD 1) nilA))) nilA)))) (seqS (dropS (callD 1 F_need_day (consA (vD 2) nilA))) (seqS (asgS (gT 4 (gCons (gN 6) (gCons (gN 7) (gCons (gN 8) (gCons (gN 9) gNil))))) (ixD (rD 3) (rD 1))) (seqS (ifS (notNB (rD 9))
      (fun _ => .err)
      nxS) (seqS (seqS (setF 10 (compF [12] (seqI (rD 5)) (gN 12) (andB (eqB (ixD (rD 12) (cD (.int 0))) (rD 1)) (gtB (ixD (rD 12) (cD (.int 1))) (rD 2))) (vD 12))) (frzN 10)) (seqS (seqS (setF 11 (compF [12] (seqI (rD 4)) (gN 12) (andB (inB (rD 1) (slT (rD 12) noO (someO (cD (.int 2))))) (geB (ixD (rD 12) (cD (.int 2))) (rD 2))) (vD 12))) (frzN 11)) (ifS (orB (ltB (rD 2) (rD 6)) (orB (neB (rD 10) (valF (lstF nilA))) (orB (neB (rD 11) (valF (lstF nilA))) (andB (notNB (rD 8)) (geB (ixD (rD 8) (cD (.int 0))) (rD 2))))))
      (fun _ => .err)
      nxS))))))))
def F_need_death : List D → Res D := runD S_need_death 13
/-! Book_dead -/
abbrev s_Book_dead : Stmt := inClass (topS 60) 2
abbrev N_Book_dead : List Str := ["self", "person"]
theorem sc_Book_dead : FnScope N_Book_dead ["self"] (defScope s_Book_dead) := ⟨rfl, rfl, rfl, by decide +kernel, rfl, by decide +kernel, by decide +kernel⟩
def S_Book_dead : DL.Env → Fl :=
  (retF (compF [1] (rngI (lenD (fldR 0 .pe))) (gN 1) (notNB (ixD (ixD (fldR 0 .pe) (rD 1)) (cD (.int 3)))) (vD 1)))
def F_Book_dead : Bk → List D → Res (List D) := runQF S_Book_dead 2
/-! will_on -/
abbrev s_will_on : Stmt := topS 36
abbrev N_will_on : List Str := ["roll", "person", "day", "found", "latest", "one", "begun", "gifts"]
theorem sc_will_on : FnScope N_will_on ["roll", "person", "day"] (defScope s_will_on) := ⟨rfl, rfl, rfl, by decide +kernel, rfl, by decide +kernel, by decide +kernel⟩
def B_will_on_0 : DL.Env → Fl :=
  (ifS (andB (eqB (rD 5) (rD 1)) (chainB (fun i j => decide (i ≤ j)) (fun i j => decide (i ≤ j)) (rD 4) (rD 6) (rD 2)))
      (seqS (setS 3 (vD 7)) (setS 4 (vD 6)))
      nxS)
def S_will_on : DL.Env → Fl :=
  (seqS (setS 3 (tupD nilA)) (seqS (setS 4 (negD (cD (.int 1)))) (seqS (forS [5, 6, 7] (seqI (ixD (rD 0) (cD (.int 2)))) (gT 3 (gCons (gN 5) (gCons (gN 6) (gCons (gN 7) gNil)))) B_will_on_0) (retS (vD 3)))))
def F_will_on : List D → Res D := runD S_will_on 8
/-! lives -/
abbrev s_lives : Stmt := topS 1
abbrev N_lives : List Str := ["people", "person", "day", "born", "parents", "adopted", "died"]
theorem sc_lives : FnScope N_lives ["people", "person", "day"] (defScope s_lives) := ⟨rfl, rfl, rfl, by decide +kernel, rfl, by decide +kernel, by decide +kernel⟩
def S_lives : DL.Env → Fl :=
  (seqS (asgS (gT 4 (gCons (gN 3) (gCons (gN 4) (gCons (gN 5) (gCons (gN 6) gNil))))) (ixD (rD 0) (rD 1))) (retS (valB (andB (leB (rD 3) (rD 2)) (orB (isNB (rD 6)) (ltB (rD 2) (rD 6)))))))
def F_lives : List D → Res D := runD S_lives 7
/-! common -/
abbrev s_common : Stmt := topS 22
abbrev N_common : List Str := ["one", "other"]
theorem sc_common : FnScope N_common ["one", "other"] (defScope s_common) := ⟨rfl, rfl, rfl, by decide +kernel, rfl, by decide +kernel, by decide +kernel⟩
def mu_common_0 : DL.Env → Nat := fun δ => (slI 1 δ).toNat + 1
def B_common_0 : DL.Env → Fl :=
  (parS 0 1 (vD 1) (modD (rD 0) (rD 1)))
def S_common : DL.Env → Fl :=
  (seqS (whileS [] mu_common_0 (gtB (rD 1) (cD (.int 0))) B_common_0) (retS (vD 0)))
def F_common : List D → Res D := runD S_common 2
/-! part -/
abbrev s_part : Stmt := topS 23
abbrev N_part : List Str := ["over", "under", "many"]
theorem sc_part : FnScope N_part ["over", "under"] (defScope s_part) := ⟨rfl, rfl, rfl, by decide +kernel, rfl, by decide +kernel, by decide +kernel⟩
def S_part : DL.Env → Fl :=
  (seqS (setS 2 (callD 2 F_common (consA (vD 0) (consA (vD 1) nilA)))) (retS (tupD (consA (divD (rD 0) (rD 2)) (consA (divD (rD 1) (rD 2)) nilA)))))
def F_part : List D → Res D := runD S_part 3
/-! times -/
abbrev s_times : Stmt := topS 26
abbrev N_times : List Str := ["one", "other"]
theorem sc_times : FnScope N_times ["one", "other"] (defScope s_times) := ⟨rfl, rfl, rfl, by decide +kernel, rfl, by decide +kernel, by decide +kernel⟩
def S_times : DL.Env → Fl :=
  (retS (callD 2 F_part (consA (mulD (ixD (rD 0) (cD (.int 0))) (ixD (rD 1) (cD (.int 0)))) (consA (mulD (ixD (rD 0) (cD (.int 1))) (ixD (rD 1) (cD (.int 1)))) nilA))))
def F_times : List D → Res D := runD S_times 2
/-! ahead_of -/
abbrev s_ahead_of : Stmt := topS 29
abbrev N_ahead_of : List Str := ["one", "whole", "rows", "heir", "mine", "line"]
theorem sc_ahead_of : FnScope N_ahead_of ["one", "whole", "rows"] (defScope s_ahead_of) := ⟨rfl, rfl, rfl, by decide +kernel, rfl, by decide +kernel, by decide +kernel⟩
def S_ahead_of : DL.Env → Fl :=
  (retF (compF [3, 4, 5] (seqI (rD 2)) (gT 3 (gCons (gN 3) (gCons (gN 4) (gCons (gN 5) gNil)))) yesB (tupD (consA (vD 3) (consA (callD 2 F_times (consA (vD 1) (consA (vD 4) nilA))) (consA (valF (catF (valF (lstF (consA (vD 0) nilA))) (rD 5))) nilA))))))
def F_ahead_of : List D → Res (List D) := runF S_ahead_of 6
/-! parents_on -/
abbrev s_parents_on : Stmt := topS 2
abbrev N_parents_on : List Str := ["people", "person", "day", "born", "parents", "adopted", "died"]
theorem sc_parents_on : FnScope N_parents_on ["people", "person", "day"] (defScope s_parents_on) := ⟨rfl, rfl, rfl, by decide +kernel, rfl, by decide +kernel, by decide +kernel⟩
def S_parents_on : DL.Env → Fl :=
  (seqS (asgS (gT 4 (gCons (gN 3) (gCons (gN 4) (gCons (gN 5) (gCons (gN 6) gNil))))) (ixD (rD 0) (rD 1))) (seqS (ifS (andB (notNB (rD 5)) (leB (ixD (rD 5) (cD (.int 0))) (rD 2)))
      (retS (ixD (rD 5) (cD (.int 1))))
      nxS) (retS (vD 4))))
def F_parents_on : List D → Res D := runD S_parents_on 7
/-! children_on -/
abbrev s_children_on : Stmt := topS 3
abbrev N_children_on : List Str := ["people", "person", "day", "found", "child"]
theorem sc_children_on : FnScope N_children_on ["people", "person", "day"] (defScope s_children_on) := ⟨rfl, rfl, rfl, by decide +kernel, rfl, by decide +kernel, by decide +kernel⟩
def B_children_on_0 : DL.Env → Fl :=
  (ifS (andB (leB (ixD (ixD (rD 0) (rD 4)) (cD (.int 0))) (rD 2)) (inB (rD 1) (callD 3 F_parents_on (consA (vD 0) (consA (vD 4) (consA (vD 2) nilA))))))
      (appS 3 (vD 4))
      nxS)
def S_children_on : DL.Env → Fl :=
  (seqS (setF 3 (lstF nilA)) (seqS (forS [4] (rngI (lenD (rD 0))) (gN 4) B_children_on_0) (retV 3)))
def F_children_on : List D → Res (List D) := runF S_children_on 5
/-! birth_of -/
abbrev s_birth_of : Stmt := topS 4
abbrev N_birth_of : List Str := ["people", "person"]
theorem sc_birth_of : FnScope N_birth_of ["people", "person"] (defScope s_birth_of) := ⟨rfl, rfl, rfl, by decide +kernel, rfl, by decide +kernel, by decide +kernel⟩
def S_birth_of : DL.Env → Fl :=
  (retS (ixD (ixD (rD 0) (rD 1)) (cD (.int 0))))
def F_birth_of : List D → Res D := runD S_birth_of 2
/-! lines_on -/
abbrev s_lines_on : Stmt := topS 5
abbrev N_lines_on : List Str := ["people", "day", "found", "person", "below", "child", "one"]
theorem sc_lines_on : FnScope N_lines_on ["people", "day"] (defScope s_lines_on) := ⟨rfl, rfl, rfl, by decide +kernel, rfl, by decide +kernel, by decide +kernel⟩
def B_lines_on_0 : DL.Env → Fl :=
  (seqS (seqS (setF 4 (compF [5] (seqI (valF (callF 3 F_children_on (consA (vD 0) (consA (vD 3) (consA (vD 1) nilA)))))) (gN 5) (un (ixD (rD 2) (rD 5)) asB) (vD 5))) (frzN 4)) (setIS 2 (rD 3) (valB (orB (un (callD 3 F_lives (consA (vD 0) (consA (vD 3) (consA (vD 1) nilA)))) asB) (neB (rD 4) (valF (lstF nilA)))))))
def S_lines_on : DL.Env → Fl :=
  (seqS (setK 2 nilK) (seqS (forS [3, 4] (seqI (valF (sortKF (valF (rngL (lenD (rD 0)))) 6 (negD (callD 2 F_birth_of (consA (vD 0) (consA (vD 6) nilA))))))) (gN 3) B_lines_on_0) (frzT 2 (retS (vD 2)))))
def F_lines_on : List D → Res D := runD S_lines_on 7
/-! shared -/
abbrev s_shared : Stmt := topS 27
abbrev N_shared : List Str := ["one", "many"]
theorem sc_shared : FnScope N_shared ["one", "many"] (defScope s_shared) := ⟨rfl, rfl, rfl, by decide +kernel, rfl, by decide +kernel, by decide +kernel⟩
def S_shared : DL.Env → Fl :=
  (retS (callD 2 F_part (consA (ixD (rD 0) (cD (.int 0))) (consA (mulD (ixD (rD 0) (cD (.int 1))) (rD 1)) nilA))))
def F_shared : List D → Res D := runD S_shared 2
/-! dealt_among -/
abbrev s_dealt_among : Stmt := topS 30
abbrev N_dealt_among : List Str := ["people", "lined", "person", "takers", "day", "found", "taker", "share", "below", "rows", "child"]
theorem sc_dealt_among : FnScope N_dealt_among ["people", "lined", "person", "takers", "day"] (defScope s_dealt_among) := ⟨rfl, rfl, rfl, by decide +kernel, rfl, by decide +kernel, by decide +kernel⟩
def B_dealt_among_0 (self : List D → Res (List D)) : DL.Env → Fl :=
  (seqS (setS 7 (callD 2 F_shared (consA (tupD (consA (cD (.int 1)) (consA (cD (.int 1)) nilA))) (consA (lenD (rD 3)) nilA)))) (ifS (un (callD 3 F_lives (consA (vD 0) (consA (vD 6) (consA (vD 4) nilA)))) asB)
      (appS 5 (tupD (consA (vD 6) (consA (vD 7) (consA (valF (lstF (consA (vD 2) (consA (vD 6) nilA)))) nilA)))))
      (seqS (seqS (setF 8 (compF [10] (seqI (valF (callF 3 F_children_on (consA (vD 0) (consA (vD 6) (consA (vD 4) nilA)))))) (gN 10) (un (ixD (rD 1) (rD 10)) asB) (vD 10))) (frzN 8)) (seqS (setS 9 (valF (callF 5 self (consA (vD 0) (consA (vD 1) (consA (vD 6) (consA (vD 8) (consA (vD 4) nilA)))))))) (extS 5 (valF (callF 3 F_ahead_of (consA (vD 2) (consA (vD 7) (consA (vD 9) nilA))))))))))
def S_dealt_among (self : List D → Res (List D)) : DL.Env → Fl :=
  (seqS (setF 5 (lstF nilA)) (seqS (forS [6, 7, 8, 9] (seqI (vD 3)) (gN 6) (B_dealt_among_0 self)) (retV 5)))
def R_dealt_among : Nat → List D → Res (List D)
  | 0 => fun _ => .err
  | n + 1 => runF (S_dealt_among (R_dealt_among n)) 11
/-! by_lines -/
abbrev s_by_lines : Stmt := topS 31
abbrev N_by_lines : List Str := ["people", "person", "day", "lined", "takers", "child"]
theorem sc_by_lines : FnScope N_by_lines ["people", "person", "day"] (defScope s_by_lines) := ⟨rfl, rfl, rfl, by decide +kernel, rfl, by decide +kernel, by decide +kernel⟩
def S_by_lines : DL.Env → Fl :=
  (seqS (setS 3 (callD 2 F_lines_on (consA (vD 0) (consA (vD 2) nilA)))) (seqS (seqS (setF 4 (compF [5] (seqI (valF (callF 3 F_children_on (consA (vD 0) (consA (vD 1) (consA (vD 2) nilA)))))) (gN 5) (un (ixD (rD 3) (rD 5)) asB) (vD 5))) (frzN 4)) (retF (callF 5 (R_dealt_among 36) (consA (vD 0) (consA (vD 3) (consA (vD 1) (consA (vD 4) (consA (vD 2) nilA)))))))))
def F_by_lines : List D → Res (List D) := runF S_by_lines 6
/-! given_to -/
abbrev s_given_to : Stmt := topS 37
abbrev N_given_to : List Str := ["people", "person", "gift", "day", "named", "mine", "rows", "heir", "share", "line"]
theorem sc_given_to : FnScope N_given_to ["people", "person", "gift", "day"] (defScope s_given_to) := ⟨rfl, rfl, rfl, by decide +kernel, rfl, by decide +kernel, by decide +kernel⟩
def S_given_to : DL.Env → Fl :=
  (seqS (asgS (gT 2 (gCons (gN 4) (gCons (gN 5) gNil))) (vD 2)) (seqS (ifS (un (callD 3 F_lives (consA (vD 0) (consA (vD 4) (consA (vD 3) nilA)))) asB)
      (retF (lstF (consA (tupD (consA (vD 4) (consA (vD 5) (consA (cD (.str "will")) (consA (valF (lstF (consA (vD 1) (consA (vD 4) nilA)))) nilA))))) nilA)))
      nxS) (seqS (setS 6 (valF (callF 3 F_ahead_of (consA (vD 1) (consA (vD 5) (consA (valF (callF 3 F_by_lines (consA (vD 0) (consA (vD 4) (consA (vD 3) nilA))))) nilA)))))) (retF (compF [7, 8, 9] (seqI (rD 6)) (gT 3 (gCons (gN 7) (gCons (gN 8) (gCons (gN 9) gNil)))) yesB (tupD (consA (vD 7) (consA (vD 8) (consA (cD (.str "will")) (consA (vD 9) nilA))))))))))
def F_given_to : List D → Res (List D) := runF S_given_to 10
/-! less -/
abbrev s_less : Stmt := topS 25
abbrev N_less : List Str := ["one", "other"]
theorem sc_less : FnScope N_less ["one", "other"] (defScope s_less) := ⟨rfl, rfl, rfl, by decide +kernel, rfl, by decide +kernel, by decide +kernel⟩
def S_less : DL.Env → Fl :=
  (retS (callD 2 F_part (consA (subD (mulD (ixD (rD 0) (cD (.int 0))) (ixD (rD 1) (cD (.int 1)))) (mulD (ixD (rD 1) (cD (.int 0))) (ixD (rD 0) (cD (.int 1))))) (consA (mulD (ixD (rD 0) (cD (.int 1))) (ixD (rD 1) (cD (.int 1)))) nilA))))
def F_less : List D → Res D := runD S_less 2
/-! others_of -/
abbrev s_others_of : Stmt := topS 32
abbrev N_others_of : List Str := ["people", "lined", "parent", "person", "day", "child"]
theorem sc_others_of : FnScope N_others_of ["people", "lined", "parent", "person", "day"] (defScope s_others_of) := ⟨rfl, rfl, rfl, by decide +kernel, rfl, by decide +kernel, by decide +kernel⟩
def S_others_of : DL.Env → Fl :=
  (retF (compF [5] (seqI (valF (callF 3 F_children_on (consA (vD 0) (consA (vD 2) (consA (vD 4) nilA)))))) (gN 5) (andB (un (ixD (rD 1) (rD 5)) asB) (neB (rD 5) (rD 3))) (vD 5)))
def F_others_of : List D → Res (List D) := runF S_others_of 6
/-! by_parents -/
abbrev s_by_parents : Stmt := topS 33
abbrev N_by_parents : List Str := ["people", "person", "day", "lined", "takers", "parent", "found", "share", "rows"]
theorem sc_by_parents : FnScope N_by_parents ["people", "person", "day"] (defScope s_by_parents) := ⟨rfl, rfl, rfl, by decide +kernel, rfl, by decide +kernel, by decide +kernel⟩
def B_by_parents_0 : DL.Env → Fl :=
  (ifS (orB (un (callD 3 F_lives (consA (vD 0) (consA (vD 5) (consA (vD 2) nilA)))) asB) (neB (valF (callF 5 F_others_of (consA (vD 0) (consA (vD 3) (consA (vD 5) (consA (vD 1) (consA (vD 2) nilA))))))) (valF (lstF nilA))))
      (appS 4 (vD 5))
      nxS)
def B_by_parents_1 : DL.Env → Fl :=
  (seqS (setS 7 (callD 2 F_shared (consA (tupD (consA (cD (.int 1)) (consA (cD (.int 1)) nilA))) (consA (lenD (rD 4)) nilA)))) (ifS (un (callD 3 F_lives (consA (vD 0) (consA (vD 5) (consA (vD 2) nilA)))) asB)
      (appS 6 (tupD (consA (vD 5) (consA (vD 7) (consA (valF (lstF (consA (vD 1) (consA (vD 5) nilA)))) nilA)))))
      (seqS (setS 8 (valF (callF 5 (R_dealt_among 36) (consA (vD 0) (consA (vD 3) (consA (vD 5) (consA (valF (callF 5 F_others_of (consA (vD 0) (consA (vD 3) (consA (vD 5) (consA (vD 1) (consA (vD 2) nilA))))))) (consA (vD 2) nilA)))))))) (extS 6 (valF (callF 3 F_ahead_of (consA (vD 1) (consA (vD 7) (consA (vD 8) nilA)))))))))
def S_by_parents : DL.Env → Fl :=
  (seqS (setS 3 (callD 2 F_lines_on (consA (vD 0) (consA (vD 2) nilA)))) (seqS (setF 4 (lstF nilA)) (seqS (forS [5] (seqI (callD 3 F_parents_on (consA (vD 0) (consA (vD 1) (consA (vD 2) nilA))))) (gN 5) B_by_parents_0) (frzT 4 (seqS (setF 6 (lstF nilA)) (seqS (forS [7, 8] (seqI (vD 4)) (gN 5) B_by_parents_1) (retV 6)))))))
def F_by_parents : List D → Res (List D) := runF S_by_parents 9
/-! moves -/
abbrev s_moves : Stmt := topS 7
abbrev N_moves : List Str := ["people", "state", "day", "person", "falls", "found", "child", "parent"]
theorem sc_moves : FnScope N_moves ["people", "state", "day"] (defScope s_moves) := ⟨rfl, rfl, rfl, by decide +kernel, rfl, by decide +kernel, by decide +kernel⟩
def S_moves : DL.Env → Fl :=
  (seqS (asgS (gT 2 (gCons (gN 3) (gCons (gN 4) gNil))) (vD 1)) (seqS (seqS (setF 5 (compF [6] (seqI (valF (callF 3 F_children_on (consA (vD 0) (consA (vD 3) (consA (vD 2) nilA)))))) (gN 6) yesB (tupD (consA (vD 6) (consA (cD (.bool true)) nilA))))) (frzN 5)) (seqS (ifS (notB (un (rD 4) asB))
      (setS 5 (valF (catF (rD 5) (valF (compF [7] (seqI (callD 3 F_parents_on (consA (vD 0) (consA (vD 3) (consA (vD 2) nilA))))) (gN 7) yesB (tupD (consA (vD 7) (consA (cD (.bool false)) nilA))))))))
      nxS) (retS (vD 5)))))
def F_moves : List D → Res D := runD S_moves 8
/-! onward -/
abbrev s_onward : Stmt := topS 8
abbrev N_onward : List Str := ["people", "ways", "seen", "day", "found", "state", "other", "longer"]
theorem sc_onward : FnScope N_onward ["people", "ways", "seen", "day"] (defScope s_onward) := ⟨rfl, rfl, rfl, by decide +kernel, rfl, by decide +kernel, by decide +kernel⟩
def B_onward_0 : DL.Env → Fl :=
  (ifS (ninN 2 (rD 6))
      (seqS (setS 7 (valF (catF (ixN 1 (rD 5)) (valF (lstF (consA (ixD (rD 6) (cD (.int 0))) nilA)))))) (setN 4 (rD 6) (bin (getN 4 (rD 6) (vD 7)) (vD 7) gMin2D)))
      nxS)
def B_onward_1 : DL.Env → Fl :=
  (forS [6, 7] (seqI (callD 3 F_moves (consA (vD 0) (consA (vD 5) (consA (vD 3) nilA))))) (gN 6) B_onward_0)
def B_onward_2 : DL.Env → Fl :=
  (setN 2 (rD 5) (cD (.bool true)))
def S_onward : DL.Env → Fl :=
  (seqS (newN 4) (seqS (forN [5, 6, 7] 1 (gN 5) B_onward_1) (seqS (forN [] 4 (gN 5) B_onward_2) (retNS 4))))
def F_onward : DL.Env → Res (NKv × NKv) := runRE S_onward 8 2
/-! living_ends -/
abbrev s_living_ends : Stmt := topS 9
abbrev N_living_ends : List Str := ["people", "ways", "person", "day", "found", "state", "heir"]
theorem sc_living_ends : FnScope N_living_ends ["people", "ways", "person", "day"] (defScope s_living_ends) := ⟨rfl, rfl, rfl, by decide +kernel, rfl, by decide +kernel, by decide +kernel⟩
def B_living_ends_0 : DL.Env → Fl :=
  (seqS (setS 6 (ixD (rD 5) (cD (.int 0)))) (ifS (andB (neB (rD 6) (rD 2)) (un (callD 3 F_lives (consA (vD 0) (consA (vD 6) (consA (vD 3) nilA)))) asB))
      (setIS 4 (rD 6) (bin (dget2D (rD 4) (rD 6) (ixN 1 (rD 5))) (ixN 1 (rD 5)) gMin2D))
      nxS))
def S_living_ends : DL.Env → Fl :=
  (seqS (setK 4 nilK) (seqS (forN [5, 6] 1 (gN 5) B_living_ends_0) (frzT 4 (retF (compF [6] (seqI (valF (sortF (valF (listF (rD 4)))))) (gN 6) yesB (tupD (consA (vD 6) (consA (ixD (rD 4) (rD 6)) nilA))))))))
def F_living_ends : DL.Env → Res (List D) := runFE S_living_ends 7
/-! nearest -/
abbrev s_nearest : Stmt := topS 10
abbrev N_nearest : List Str := ["people", "person", "day", "ways", "seen", "found"]
theorem sc_nearest : FnScope N_nearest ["people", "person", "day"] (defScope s_nearest) := ⟨rfl, rfl, rfl, by decide +kernel, rfl, by decide +kernel, by decide +kernel⟩
def mu_nearest_0 : DL.Env → Nat := fun δ => slL 0 δ * 2 + 5
def B_nearest_0 : DL.Env → Fl :=
  (seqS (setR 3 4 F_onward [(0, .d), (3, .b), (4, .m), (2, .d)]) (seqS (setS 5 (valF (callB F_living_ends [(0, .d), (3, .b), (1, .d), (2, .d)]))) (ifS (neB (rD 5) (valF (lstF nilA)))
      (retS (vD 5))
      nxS)))
def S_nearest : DL.Env → Fl :=
  (seqS (newN1 3 (tupD (consA (vD 1) (consA (cD (.bool false)) nilA))) (valF (lstF (consA (vD 1) nilA)))) (seqS (newN1 4 (tupD (consA (vD 1) (consA (cD (.bool false)) nilA))) (cD (.bool true))) (seqS (whileS [5] mu_nearest_0 (gtB (lenN 3) (cD (.int 0))) B_nearest_0) (retS (valF (lstF nilA))))))
def F_nearest : List D → Res D := runD S_nearest 6
/-! kin_of -/
abbrev s_kin_of : Stmt := topS 38
abbrev N_kin_of : List Str := ["people", "person", "day", "rows", "pairs", "share", "heir", "line"]
theorem sc_kin_of : FnScope N_kin_of ["people", "person", "day"] (defScope s_kin_of) := ⟨rfl, rfl, rfl, by decide +kernel, rfl, by decide +kernel, by decide +kernel⟩
def S_kin_of : DL.Env → Fl :=
  (seqS (setS 3 (valF (callF 3 F_by_lines (consA (vD 0) (consA (vD 1) (consA (vD 2) nilA)))))) (seqS (ifS (neB (rD 3) (valF (lstF nilA)))
      (retS (tupD (consA (vD 3) (consA (cD (.str "line")) (consA (tupD (consA (cD (.int 1)) (consA (cD (.int 4)) nilA))) nilA)))))
      nxS) (seqS (setS 3 (valF (callF 3 F_by_parents (consA (vD 0) (consA (vD 1) (consA (vD 2) nilA)))))) (seqS (ifS (neB (rD 3) (valF (lstF nilA)))
      (retS (tupD (consA (vD 3) (consA (cD (.str "parents")) (consA (tupD (consA (cD (.int 1)) (consA (cD (.int 2)) nilA))) nilA)))))
      nxS) (seqS (setS 4 (callD 3 F_nearest (consA (vD 0) (consA (vD 1) (consA (vD 2) nilA))))) (seqS (ifS (neB (rD 4) (valF (lstF nilA)))
      (seqS (setS 5 (callD 2 F_shared (consA (tupD (consA (cD (.int 1)) (consA (cD (.int 1)) nilA))) (consA (lenD (rD 4)) nilA)))) (retS (tupD (consA (valF (compF [6, 7] (seqI (rD 4)) (gT 2 (gCons (gN 6) (gCons (gN 7) gNil))) yesB (tupD (consA (vD 6) (consA (vD 5) (consA (vD 7) nilA)))))) (consA (cD (.str "degree")) (consA (tupD (consA (cD (.int 3)) (consA (cD (.int 4)) nilA))) nilA))))))
      nxS) (retS (tupD (consA (valF (lstF nilA)) (consA (cD (.str "")) (consA (tupD (consA (cD (.int 1)) (consA (cD (.int 1)) nilA))) nilA)))))))))))
def F_kin_of : List D → Res D := runD S_kin_of 8
/-! spouse_on -/
abbrev s_spouse_on : Stmt := topS 35
abbrev N_spouse_on : List Str := ["roll", "person", "day", "people", "marriages", "wills", "one", "other", "begun", "mate"]
theorem sc_spouse_on : FnScope N_spouse_on ["roll", "person", "day"] (defScope s_spouse_on) := ⟨rfl, rfl, rfl, by decide +kernel, rfl, by decide +kernel, by decide +kernel⟩
def B_spouse_on_0 : DL.Env → Fl :=
  (ifS (andB (leB (rD 8) (rD 2)) (inB (rD 1) (tupD (consA (vD 6) (consA (vD 7) nilA)))))
      (seqS (setS 9 (subD (addD (rD 6) (rD 7)) (rD 1))) (ifS (un (callD 3 F_lives (consA (vD 3) (consA (vD 9) (consA (vD 2) nilA)))) asB)
      (retS (vD 9))
      nxS))
      nxS)
def S_spouse_on : DL.Env → Fl :=
  (seqS (asgS (gT 3 (gCons (gN 3) (gCons (gN 4) (gCons (gN 5) gNil)))) (vD 0)) (seqS (forS [6, 7, 8, 9] (seqI (vD 4)) (gT 3 (gCons (gN 6) (gCons (gN 7) (gCons (gN 8) gNil)))) B_spouse_on_0) (retS (cD .none))))
def F_spouse_on : List D → Res D := runD S_spouse_on 10
/-! rest_rows -/
abbrev s_rest_rows : Stmt := topS 39
abbrev N_rest_rows : List Str := ["roll", "person", "rest", "day", "people", "rows", "how", "beside", "mate", "found", "heir", "share", "line"]
theorem sc_rest_rows : FnScope N_rest_rows ["roll", "person", "rest", "day"] (defScope s_rest_rows) := ⟨rfl, rfl, rfl, by decide +kernel, rfl, by decide +kernel, by decide +kernel⟩
def B_rest_rows_0 : DL.Env → Fl :=
  (appS 9 (tupD (consA (vD 10) (consA (callD 2 F_times (consA (vD 2) (consA (vD 11) nilA))) (consA (vD 6) (consA (vD 12) nilA))))))
def S_rest_rows : DL.Env → Fl :=
  (seqS (setS 4 (ixD (rD 0) (cD (.int 0)))) (seqS (asgS (gT 3 (gCons (gN 5) (gCons (gN 6) (gCons (gN 7) gNil)))) (callD 3 F_kin_of (consA (vD 4) (consA (vD 1) (consA (vD 3) nilA))))) (seqS (setS 8 (callD 3 F_spouse_on (consA (vD 0) (consA (vD 1) (consA (vD 3) nilA))))) (seqS (ifS (andB (isNB (rD 8)) (eqB (rD 5) (valF (lstF nilA))))
      (retF (lstF (consA (tupD (consA (cD .none) (consA (vD 2) (consA (cD (.str "town")) (consA (valF (lstF (consA (vD 1) nilA))) nilA))))) nilA)))
      nxS) (seqS (setF 9 (lstF nilA)) (seqS (ifS (notNB (rD 8))
      (seqS (appS 9 (tupD (consA (vD 8) (consA (callD 2 F_times (consA (vD 2) (consA (vD 7) nilA))) (consA (cD (.str "spouse")) (consA (valF (lstF (consA (vD 1) (consA (vD 8) nilA)))) nilA)))))) (setS 2 (callD 2 F_less (consA (vD 2) (consA (callD 2 F_times (consA (vD 2) (consA (vD 7) nilA))) nilA)))))
      nxS) (seqS (forS [10, 11, 12] (seqI (vD 5)) (gT 3 (gCons (gN 10) (gCons (gN 11) (gCons (gN 12) gNil)))) B_rest_rows_0) (retV 9))))))))
def F_rest_rows : List D → Res (List D) := runF S_rest_rows 13
/-! dealt -/
abbrev s_dealt : Stmt := topS 40
abbrev N_dealt : List Str := ["roll", "person", "day", "found", "rest", "gift", "rows"]
theorem sc_dealt : FnScope N_dealt ["roll", "person"] (defScope s_dealt) := ⟨rfl, rfl, rfl, by decide +kernel, rfl, by decide +kernel, by decide +kernel⟩
def B_dealt_0 : DL.Env → Fl :=
  (seqS (setS 6 (valF (callF 4 F_given_to (consA (ixD (rD 0) (cD (.int 0))) (consA (vD 1) (consA (vD 5) (consA (vD 2) nilA))))))) (ifS (neB (rD 6) (valF (lstF nilA)))
      (seqS (setS 4 (callD 2 F_less (consA (vD 4) (consA (ixD (rD 5) (cD (.int 1))) nilA)))) (extS 3 (rD 6)))
      nxS))
def S_dealt : DL.Env → Fl :=
  (seqS (setS 2 (ixD (ixD (ixD (rD 0) (cD (.int 0))) (rD 1)) (cD (.int 3)))) (seqS (ifS (isNB (rD 2))
      (fun _ => .err)
      nxS) (seqS (setF 3 (lstF nilA)) (seqS (setS 4 (tupD (consA (cD (.int 1)) (consA (cD (.int 1)) nilA)))) (seqS (forS [5, 6] (seqI (callD 3 F_will_on (consA (vD 0) (consA (vD 1) (consA (vD 2) nilA))))) (gN 5) B_dealt_0) (seqS (ifS (neB (rD 4) (tupD (consA (cD (.int 0)) (consA (cD (.int 1)) nilA))))
      (extS 3 (valF (callF 4 F_rest_rows (consA (vD 0) (consA (vD 1) (consA (vD 4) (consA (vD 2) nilA)))))))
      nxS) (retV 3)))))))
def F_dealt : List D → Res (List D) := runF S_dealt 7
/-! Book_roll -/
abbrev s_Book_roll : Stmt := inClass (topS 60) 1
abbrev N_Book_roll : List Str := ["self"]
theorem sc_Book_roll : FnScope N_Book_roll ["self"] (defScope s_Book_roll) := ⟨rfl, rfl, rfl, by decide +kernel, rfl, by decide +kernel, by decide +kernel⟩
def S_Book_roll : DL.Env → Fl :=
  (retS (tupD (consA (valF (listF (fldR 0 .pe))) (consA (valF (listF (fldR 0 .ma))) (consA (valF (listF (fldR 0 .wi))) nilA)))))
def F_Book_roll : Bk → List D → Res D := runQ S_Book_roll 1
/-! Book_deal_anew -/
abbrev s_Book_deal_anew : Stmt := inClass (topS 60) 3
abbrev N_Book_deal_anew : List Str := ["self", "person", "rows"]
theorem sc_Book_deal_anew : FnScope N_Book_deal_anew ["self"] (defScope s_Book_deal_anew) := ⟨rfl, rfl, rfl, by decide +kernel, rfl, by decide +kernel, by decide +kernel⟩
def B_Book_deal_anew_0 : DL.Env → Fl :=
  (seqS (setS 2 (valF (callF 2 F_dealt (consA (cqS 0 0 F_Book_roll nilA) (consA (vD 1) nilA))))) (seqS (ifS (neB (rD 2) (dget1D (fldR 0 .de) (rD 1)))
      (fappS 0 .ot (vD 1))
      nxS) (fputS 0 (rD 1) (vD 2))))
def S_Book_deal_anew : DL.Env → Fl :=
  (seqS (fnewS 0 .ot (lstF nilA)) (forS [1, 2] (seqI (valF (cqS 0 0 F_Book_dead nilA))) (gN 1) B_Book_deal_anew_0))
def F_Book_deal_anew : Bk → List D → Res (D × Bk) := runM S_Book_deal_anew 3
/-! Book_died -/
abbrev s_Book_died : Stmt := inClass (topS 60) 9
abbrev N_Book_died : List Str := ["self", "person", "day", "born", "parents", "adopted", "died"]
theorem sc_Book_died : FnScope N_Book_died ["self", "person", "day"] (defScope s_Book_died) := ⟨rfl, rfl, rfl, by decide +kernel, rfl, by decide +kernel, by decide +kernel⟩
def S_Book_died : DL.Env → Fl :=
  (seqS (dropS (callD 3 F_need_death (consA (cqS 0 0 F_Book_roll nilA) (consA (vD 1) (consA (vD 2) nilA))))) (seqS (asgS (gT 4 (gCons (gN 3) (gCons (gN 4) (gCons (gN 5) (gCons (gN 6) gNil))))) (ixD (fldR 0 .pe) (rD 1))) (seqS (fsetS 0 .pe (rD 1) (tupD (consA (vD 3) (consA (vD 4) (consA (vD 5) (consA (vD 2) nilA)))))) (cmS 0 0 F_Book_deal_anew nilA false))))
def F_Book_died : Bk → List D → Res (D × Bk) := runM S_Book_died 7
/-! copied -/
abbrev s_copied : Stmt := topS 59
abbrev N_copied : List Str := ["rows", "heir", "mine", "how", "line"]
theorem sc_copied : FnScope N_copied ["rows"] (defScope s_copied) := ⟨rfl, rfl, rfl, by decide +kernel, rfl, by decide +kernel, by decide +kernel⟩
def S_copied : DL.Env → Fl :=
  (retF (compF [1, 2, 3, 4] (seqI (rD 0)) (gT 4 (gCons (gN 1) (gCons (gN 2) (gCons (gN 3) (gCons (gN 4) gNil))))) yesB (tupD (consA (vD 1) (consA (vD 2) (consA (vD 3) (consA (valF (listF (rD 4))) nilA)))))))
def F_copied : List D → Res (List D) := runF S_copied 5
/-! Book_deal -/
abbrev s_Book_deal : Stmt := inClass (topS 60) 5
abbrev N_Book_deal : List Str := ["self", "person"]
theorem sc_Book_deal : FnScope N_Book_deal ["self", "person"] (defScope s_Book_deal) := ⟨rfl, rfl, rfl, by decide +kernel, rfl, by decide +kernel, by decide +kernel⟩
def S_Book_deal : DL.Env → Fl :=
  (seqS (dropS (tmpD 0 (callD 2 F_need_people (consA (fldZ 0 .pe) (consA (valF (lstF (consA (vD 1) nilA))) nilA))))) (seqS (ifS (ninB (rD 1) (fldR 0 .de))
      (fun _ => .err)
      nxS) (retF (callF 1 F_copied (consA (ixD (fldR 0 .de) (rD 1)) nilA)))))
def F_Book_deal : Bk → List D → Res (List D) := runQF S_Book_deal 2
/-! _law_line -/
abbrev s__law_line : Stmt := topS 65
abbrev N__law_line : List Str := ["_law_cell", "_law_many", "_law_late", "_law_side", "_law_deeds", "_law_more", "_law_at", "_law_k"]
theorem sc__law_line : FnScope N__law_line ["_law_cell"] (defScope s__law_line) := ⟨rfl, rfl, rfl, by decide +kernel, rfl, by decide +kernel, by decide +kernel⟩
def S__law_line : DL.Env → Fl :=
  (seqS (setS 1 (addD (cD (.int 10)) (modD (rD 0) (cD (.int 4))))) (seqS (setS 2 (addD (mulD (cD (.int 10)) (rD 1)) (cD (.int 50)))) (seqS (setS 3 (vD 1)) (seqS (setF 4 (compF [7] (rngI (rD 1)) (gN 7) yesB (tupD (consA (cD (.str "born")) (consA (mulD (cD (.int 10)) (rD 7)) (consA (valF (slF (valF (lstF (consA (subD (rD 7) (cD (.int 1))) nilA))) noO (someO (rD 7)))) nilA)))))) (seqS (appS 4 (tupD (consA (cD (.str "born")) (consA (mulD (cD (.int 10)) (rD 1)) (consA (valF (lstF (consA (modD (divD (rD 0) (cD (.int 4))) (subD (rD 1) (cD (.int 2)))) nilA))) nilA))))) (seqS (setF 4 (catF (rD 4) (valF (compF [7] (rngI2 (cD (.int 1)) (subD (rD 1) (cD (.int 1)))) (gN 7) yesB (tupD (consA (cD (.str "died")) (consA (vD 7) (consA (addD (addD (rD 2) (modD (divD (rD 0) (cD (.int 52))) (cD (.int 7)))) (rD 7)) nilA)))))))) (seqS (appS 4 (tupD (consA (cD (.str "died")) (consA (cD (.int 0)) (consA (addD (rD 2) (cD (.int 100))) nilA))))) (frzT 4 (seqS (setF 5 (lstF (consA (tupD (consA (cD (.str "born")) (consA (addD (rD 2) (modD (divD (rD 0) (cD (.int 364))) (cD (.int 30)))) (consA (valF (lstF (consA (subD (rD 1) (cD (.int 1))) nilA))) nilA)))) (consA (tupD (consA (cD (.str "died")) (consA (subD (rD 1) (cD (.int 1))) (consA (addD (addD (rD 2) (cD (.int 70))) (modD (divD (rD 0) (cD (.int 11000))) (cD (.int 60)))) nilA)))) nilA)))) (seqS (ifS (eqB (modD (divD (rD 0) (cD (.int 700000))) (cD (.int 2))) (cD (.int 0)))
      (appS 5 (tupD (consA (cD (.str "died")) (consA (vD 3) (consA (addD (addD (rD 2) (cD (.int 80))) (modD (divD (rD 0) (cD (.int 1500000))) (cD (.int 40)))) nilA)))))
      (appS 5 (tupD (consA (cD (.str "adopted")) (consA (vD 3) (consA (addD (addD (rD 2) (cD (.int 60))) (modD (divD (rD 0) (cD (.int 1500000))) (cD (.int 60)))) (consA (valF (lstF (consA (subD (rD 1) (cD (.int 1))) nilA))) nilA))))))) (frzT 5 (seqS (setS 6 (modD (divD (rD 0) (cD (.int 60000000))) (cD (.int 3)))) (retS (tupD (consA (vD 4) (consA (valF (catF (valF (slF (rD 5) (someO (rD 6)) noO)) (valF (slF (rD 5) noO (someO (rD 6)))))) nilA))))))))))))))))
def F__law_line : List D → Res D := runD S__law_line 8
/-! _law_deals -/
abbrev s__law_deals : Stmt := topS 67
abbrev N__law_deals : List Str := ["_law_roll", "_law_found", "_law_one"]
theorem sc__law_deals : FnScope N__law_deals ["_law_roll"] (defScope s__law_deals) := ⟨rfl, rfl, rfl, by decide +kernel, rfl, by decide +kernel, by decide +kernel⟩
def B__law_deals_0 : DL.Env → Fl :=
  (ifS (notNB (ixD (ixD (ixD (rD 0) (cD (.int 0))) (rD 2)) (cD (.int 3))))
      (setIS 1 (rD 2) (valF (callF 2 F_dealt (consA (vD 0) (consA (vD 2) nilA)))))
      nxS)
def S__law_deals : DL.Env → Fl :=
  (seqS (setK 1 nilK) (seqS (forS [2] (rngI (lenD (ixD (rD 0) (cD (.int 0))))) (gN 2) B__law_deals_0) (frzT 1 (retS (vD 1)))))
def F__law_deals : List D → Res D := runD S__law_deals 3
/-! need_parents -/
abbrev s_need_parents : Stmt := topS 49
abbrev N_need_parents : List Str := ["people", "parents", "day", "parent"]
theorem sc_need_parents : FnScope N_need_parents ["people", "parents", "day"] (defScope s_need_parents) := ⟨rfl, rfl, rfl, by decide +kernel, rfl, by decide +kernel, by decide +kernel⟩
def B_need_parents_0 : DL.Env → Fl :=
  (ifS (geB (ixD (ixD (rD 0) (rD 3)) (cD (.int 0))) (rD 2))
      (fun _ => .err)
      nxS)
def S_need_parents : DL.Env → Fl :=
  (seqS (ifS (orB (gtB (lenD (rD 1)) (cD (.int 2))) (andB (eqB (lenD (rD 1)) (cD (.int 2))) (eqB (ixD (rD 1) (cD (.int 0))) (ixD (rD 1) (cD (.int 1))))))
      (fun _ => .err)
      nxS) (forS [3] (seqI (vD 1)) (gN 3) B_need_parents_0))
def F_need_parents : List D → Res D := runD S_need_parents 4
/-! need_birth -/
abbrev s_need_birth : Stmt := topS 50
abbrev N_need_birth : List Str := ["people", "day", "parents"]
theorem sc_need_birth : FnScope N_need_birth ["people", "day", "parents"] (defScope s_need_birth) := ⟨rfl, rfl, rfl, by decide +kernel, rfl, by decide +kernel, by decide +kernel⟩
def S_need_birth : DL.Env → Fl :=
  (seqS (dropS (callD 2 F_need_people (consA (vD 0) (consA (vD 2) nilA)))) (seqS (dropS (callD 1 F_need_day (consA (vD 1) nilA))) (seqS (dropS (callD 3 F_need_parents (consA (vD 0) (consA (vD 2) (consA (vD 1) nilA))))) (ifS (geB (lenD (rD 0)) (cD (.int 60)))
      (fun _ => .err)
      nxS))))
def F_need_birth : List D → Res D := runD S_need_birth 3
/-! Book_born -/
abbrev s_Book_born : Stmt := inClass (topS 60) 6
abbrev N_Book_born : List Str := ["self", "day", "parents"]
theorem sc_Book_born : FnScope N_Book_born ["self", "day", "parents"] (defScope s_Book_born) := ⟨rfl, rfl, rfl, by decide +kernel, rfl, by decide +kernel, by decide +kernel⟩
def S_Book_born : DL.Env → Fl :=
  (seqS (dropS (tmpD 0 (callD 3 F_need_birth (consA (fldZ 0 .pe) (consA (vD 1) (consA (vD 2) nilA)))))) (seqS (fappS 0 .pe (tupD (consA (vD 1) (consA (tupleD (rD 2)) (consA (cD .none) (consA (cD .none) nilA)))))) (seqS (cmS 0 0 F_Book_deal_anew nilA false) (retBS (subD (lenD (fldR 0 .pe)) (cD (.int 1)))))))
def F_Book_born : Bk → List D → Res (D × Bk) := runM S_Book_born 3
/-! need_adoption -/
abbrev s_need_adoption : Stmt := topS 51
abbrev N_need_adoption : List Str := ["people", "child", "day", "parents", "born", "before", "adopted", "died"]
theorem sc_need_adoption : FnScope N_need_adoption ["people", "child", "day", "parents"] (defScope s_need_adoption) := ⟨rfl, rfl, rfl, by decide +kernel, rfl, by decide +kernel, by decide +kernel⟩
def S_need_adoption : DL.Env → Fl :=
  (seqS (dropS (callD 2 F_need_people (consA (vD 0) (consA (valF (catF (valF (lstF (consA (vD 1) nilA))) (rD 3))) nilA)))) (seqS (dropS (callD 1 F_need_day (consA (vD 2) nilA))) (seqS (asgS (gT 4 (gCons (gN 4) (gCons (gN 5) (gCons (gN 6) (gCons (gN 7) gNil))))) (ixD (rD 0) (rD 1))) (seqS (ifS (orB (ltB (rD 2) (rD 4)) (andB (notNB (rD 7)) (geB (rD 2) (rD 7))))
      (fun _ => .err)
      nxS) (seqS (ifS (eqB (rD 3) (valF (lstF nilA)))
      (fun _ => .err)
      nxS) (seqS (dropS (callD 3 F_need_parents (consA (vD 0) (consA (vD 3) (consA (vD 4) nilA))))) (ifS (notNB (rD 6))
      (fun _ => .err)
      nxS)))))))
def F_need_adoption : List D → Res D := runD S_need_adoption 8
/-! Book_adopted -/
abbrev s_Book_adopted : Stmt := inClass (topS 60) 7
abbrev N_Book_adopted : List Str := ["self", "child", "day", "parents", "born", "before", "adopted", "died"]
theorem sc_Book_adopted : FnScope N_Book_adopted ["self", "child", "day", "parents"] (defScope s_Book_adopted) := ⟨rfl, rfl, rfl, by decide +kernel, rfl, by decide +kernel, by decide +kernel⟩
def S_Book_adopted : DL.Env → Fl :=
  (seqS (dropS (tmpD 0 (callD 4 F_need_adoption (consA (fldZ 0 .pe) (consA (vD 1) (consA (vD 2) (consA (vD 3) nilA))))))) (seqS (asgS (gT 4 (gCons (gN 4) (gCons (gN 5) (gCons (gN 6) (gCons (gN 7) gNil))))) (ixD (fldR 0 .pe) (rD 1))) (seqS (fsetS 0 .pe (rD 1) (tupD (consA (vD 4) (consA (vD 5) (consA (tupD (consA (vD 2) (consA (tupleD (rD 3)) nilA))) (consA (vD 7) nilA)))))) (cmS 0 0 F_Book_deal_anew nilA false))))
def F_Book_adopted : Bk → List D → Res (D × Bk) := runM S_Book_adopted 8
/-! _law_tell -/
abbrev s__law_tell : Stmt := topS 66
abbrev N__law_tell : List Str := ["_law_book", "_law_deed"]
theorem sc__law_tell : FnScope N__law_tell ["_law_book", "_law_deed"] (defScope s__law_tell) := ⟨rfl, rfl, rfl, by decide +kernel, rfl, by decide +kernel, by decide +kernel⟩
def S__law_tell : DL.Env → Fl :=
  (seqS (ifS (eqB (ixD (rD 1) (cD (.int 0))) (cD (.str "born")))
      (cmS 0 2 F_Book_born (consA (ixD (rD 1) (cD (.int 1))) (consA (ixD (rD 1) (cD (.int 2))) nilA)) true)
      nxS) (seqS (ifS (eqB (ixD (rD 1) (cD (.int 0))) (cD (.str "died")))
      (cmS 0 2 F_Book_died (consA (ixD (rD 1) (cD (.int 1))) (consA (ixD (rD 1) (cD (.int 2))) nilA)) true)
      nxS) (cmS 0 3 F_Book_adopted (consA (ixD (rD 1) (cD (.int 1))) (consA (ixD (rD 1) (cD (.int 2))) (consA (ixD (rD 1) (cD (.int 3))) nilA))) true)))
def F__law_tell : Bk → List D → Res (D × Bk) := runM S__law_tell 2
/-! _law_lowest -/
abbrev s__law_lowest : Stmt := topS 63
abbrev N__law_lowest : List Str := ["_law_over", "_law_under", "_law_a", "_law_b", "_law_c"]
theorem sc__law_lowest : FnScope N__law_lowest ["_law_over", "_law_under"] (defScope s__law_lowest) := ⟨rfl, rfl, rfl, by decide +kernel, rfl, by decide +kernel, by decide +kernel⟩
def mu__law_lowest_0 : DL.Env → Nat := fun δ => (slI 3 δ).toNat + 1
def B__law_lowest_0 : DL.Env → Fl :=
  (seqS (setS 4 (modD (rD 2) (rD 3))) (seqS (setS 2 (vD 3)) (setS 3 (vD 4))))
def S__law_lowest : DL.Env → Fl :=
  (seqS (setS 2 (vD 0)) (seqS (setS 3 (vD 1)) (seqS (whileS [4] mu__law_lowest_0 (gtB (rD 3) (cD (.int 0))) B__law_lowest_0) (retS (tupD (consA (divD (rD 0) (rD 2)) (consA (divD (rD 1) (rD 2)) nilA)))))))
def F__law_lowest : List D → Res D := runD S__law_lowest 5
/-! _law_done -/
abbrev s__law_done : Stmt := topS 64
abbrev N__law_done : List Str := ["_law_roll", "_law_deed", "_law_people", "_law_weddings", "_law_wills", "_law_gifts", "_law_born", "_law_parents", "_law_adopted", "_law_died", "_law_named", "_law_over", "_law_under"]
theorem sc__law_done : FnScope N__law_done ["_law_roll", "_law_deed"] (defScope s__law_done) := ⟨rfl, rfl, rfl, by decide +kernel, rfl, by decide +kernel, by decide +kernel⟩
def S__law_done : DL.Env → Fl :=
  (seqS (setF 2 (listF (ixD (rD 0) (cD (.int 0))))) (seqS (setF 3 (listF (ixD (rD 0) (cD (.int 1))))) (seqS (setF 4 (listF (ixD (rD 0) (cD (.int 2))))) (seqS (ifS (eqB (ixD (rD 1) (cD (.int 0))) (cD (.str "born")))
      (appS 2 (tupD (consA (ixD (rD 1) (cD (.int 1))) (consA (tupleD (ixD (rD 1) (cD (.int 2)))) (consA (cD .none) (consA (cD .none) nilA))))))
      (ifS (eqB (ixD (rD 1) (cD (.int 0))) (cD (.str "married")))
      (appS 3 (tupD (consA (ixD (rD 1) (cD (.int 1))) (consA (ixD (rD 1) (cD (.int 2))) (consA (ixD (rD 1) (cD (.int 3))) nilA)))))
      (ifS (eqB (ixD (rD 1) (cD (.int 0))) (cD (.str "will")))
      (seqS (seqS (setF 5 (compF [10, 11, 12] (seqI (ixD (rD 1) (cD (.int 3)))) (gT 3 (gCons (gN 10) (gCons (gN 11) (gCons (gN 12) gNil)))) yesB (tupD (consA (vD 10) (consA (callD 2 F__law_lowest (consA (vD 11) (consA (vD 12) nilA))) nilA))))) (frzN 5)) (appS 4 (tupD (consA (ixD (rD 1) (cD (.int 1))) (consA (ixD (rD 1) (cD (.int 2))) (consA (tupleD (rD 5)) nilA))))))
      (seqS (asgS (gT 4 (gCons (gN 6) (gCons (gN 7) (gCons (gN 8) (gCons (gN 9) gNil))))) (ixD (rD 2) (ixD (rD 1) (cD (.int 1))))) (seqS (ifS (eqB (ixD (rD 1) (cD (.int 0))) (cD (.str "died")))
      (setS 9 (ixD (rD 1) (cD (.int 2))))
      (setS 8 (tupD (consA (ixD (rD 1) (cD (.int 2))) (consA (tupleD (ixD (rD 1) (cD (.int 3)))) nilA))))) (setIS 2 (ixD (rD 1) (cD (.int 1))) (tupD (consA (vD 6) (consA (vD 7) (consA (vD 8) (consA (vD 9) nilA))))))))))) (frzT 4 (frzT 3 (frzT 2 (retS (tupD (consA (vD 2) (consA (vD 3) (consA (vD 4) nilA))))))))))))
def F__law_done : List D → Res D := runD S__law_done 13
/-! _law_cell_at -/
abbrev s__law_cell_at : Stmt := topS 62
abbrev N__law_cell_at : List Str := ["_law_script", "_law_k"]
theorem sc__law_cell_at : FnScope N__law_cell_at ["_law_script", "_law_k"] (defScope s__law_cell_at) := ⟨rfl, rfl, rfl, by decide +kernel, rfl, by decide +kernel, by decide +kernel⟩
def S__law_cell_at : DL.Env → Fl :=
  (seqS (ifS (ltB (rD 1) (lenD (rD 0)))
      (retS (ixD (rD 0) (rD 1)))
      nxS) (retS (cD (.int 0))))
def F__law_cell_at : List D → Res D := runD S__law_cell_at 2
/-! Book_anew -/
abbrev s_Book_anew : Stmt := inClass (topS 60) 4
abbrev N_Book_anew : List Str := ["self"]
theorem sc_Book_anew : FnScope N_Book_anew ["self"] (defScope s_Book_anew) := ⟨rfl, rfl, rfl, by decide +kernel, rfl, by decide +kernel, by decide +kernel⟩
def S_Book_anew : DL.Env → Fl :=
  (retF (listF (fldR 0 .ot)))
def F_Book_anew : Bk → List D → Res (List D) := runQF S_Book_anew 1
/-! _law_stands -/
abbrev s__law_stands : Stmt := topS 68
abbrev N__law_stands : List Str := ["_law_book", "_law_roll", "_law_deals_here", "_law_anew", "_law_one"]
theorem sc__law_stands : FnScope N__law_stands ["_law_book", "_law_roll", "_law_deals_here", "_law_anew"] (defScope s__law_stands) := ⟨rfl, rfl, rfl, by decide +kernel, rfl, by decide +kernel, by decide +kernel⟩
def S__law_stands : DL.Env → Fl :=
  (seqS (ifS (orB (neB (valF (cqS 0 0 F_Book_anew nilA)) (rD 3)) (orB (neB (valF (cqS 0 0 F_Book_dead nilA)) (valF (sortF (valF (listF (rD 2)))))) (neB (cqS 0 0 F_Book_roll nilA) (rD 1))))
      (retS (cD (.bool false)))
      nxS) (retS (valB (eqB (valF (compF [4] (seqI (valF (sortF (valF (listF (rD 2)))))) (gN 4) yesB (valF (cqS 0 1 F_Book_deal (consA (vD 4) nilA))))) (valF (compF [4] (seqI (valF (sortF (valF (listF (rD 2)))))) (gN 4) yesB (ixD (rD 2) (rD 4))))))))
def F__law_stands : Bk → List D → Res D := runQ S__law_stands 5
/-! law -/
abbrev s_law : Stmt := topS 69
abbrev N_law : List Str := ["_law_script", "_law_book", "_law_other", "_law_k", "_law_small", "_law_deeds", "_law_more", "_law_roll", "_law_deed", "_law_deals_here", "_law_later", "_law_anew", "_law_one"]
theorem sc_law : FnScope N_law ["_law_script"] (defScope s_law) := ⟨rfl, rfl, rfl, by decide +kernel, rfl, by decide +kernel, by decide +kernel⟩
def B_law_0 : DL.Env → Fl :=
  (cmS 2 2 F_Book_born (consA (vD 3) (consA (valF (slF (valF (lstF (consA (cD (.int 0)) nilA))) noO (someO (rD 3)))) nilA)) false)
def B_law_1 : DL.Env → Fl :=
  (seqS (cmS 1 1 F__law_tell (consA (vD 8) nilA) false) (setS 7 (callD 2 F__law_done (consA (vD 7) (consA (vD 8) nilA)))))
def B_law_2 : DL.Env → Fl :=
  (seqS (ifS (andB (eqB (ixD (rD 8) (cD (.int 0))) (cD (.str "adopted"))) (eqB (modD (callD 2 F__law_cell_at (consA (vD 0) (consA (cD (.int 2)) nilA))) (cD (.int 3))) (cD (.int 0))))
      (fun δ => .ct δ)
      nxS) (seqS (cmS 1 1 F__law_tell (consA (vD 8) nilA) false) (seqS (setS 7 (callD 2 F__law_done (consA (vD 7) (consA (vD 8) nilA)))) (seqS (setS 10 (callD 1 F__law_deals (consA (vD 7) nilA))) (seqS (seqS (setF 11 (compF [12] (seqI (valF (sortF (valF (listF (rD 10)))))) (gN 12) (orB (ninB (rD 12) (rD 9)) (neB (ixD (rD 9) (rD 12)) (ixD (rD 10) (rD 12)))) (vD 12))) (frzN 11)) (seqS (setS 9 (vD 10)) (ifS (notB (un (cqS 1 3 F__law_stands (consA (vD 7) (consA (vD 9) (consA (vD 11) nilA)))) asB))
      (retS (cD (.bool false)))
      nxS)))))))
def S_law : DL.Env → Fl :=
  (seqS (newBS 1) (seqS (newBS 2) (seqS (forS [3] (rngI (cD (.int 2))) (gN 3) B_law_0) (seqS (cmS 2 2 F_Book_died (consA (cD (.int 0)) (consA (addD (cD (.int 1)) (modD (callD 2 F__law_cell_at (consA (vD 0) (consA (cD (.int 1)) nilA))) (cD (.int 9)))) nilA)) false) (seqS (setS 4 (valF (cqS 2 1 F_Book_deal (consA (cD (.int 0)) nilA)))) (seqS (asgS (gT 2 (gCons (gN 5) (gCons (gN 6) gNil))) (callD 1 F__law_line (consA (modD (callD 2 F__law_cell_at (consA (vD 0) (consA (cD (.int 0)) nilA))) (powD (cD (.int 10)) (cD (.int 12)))) nilA))) (seqS (setS 7 (tupD (consA (valF (lstF nilA)) (consA (valF (lstF nilA)) (consA (valF (lstF nilA)) nilA))))) (seqS (forS [8] (seqI (vD 5)) (gN 8) B_law_1) (seqS (setS 9 (callD 1 F__law_deals (consA (vD 7) nilA))) (seqS (forS [10, 11] (seqI (vD 6)) (gN 8) B_law_2) (retS (valB (andB (eqB (valF (cqS 2 1 F_Book_deal (consA (cD (.int 0)) nilA))) (rD 4)) (andB (eqB (valF (cqS 2 0 F_Book_anew nilA)) (valF (lstF (consA (cD (.int 0)) nilA)))) (eqB (valF (cqS 2 0 F_Book_dead nilA)) (valF (lstF (consA (cD (.int 0)) nilA))))))))))))))))))
def F_law : List D → Res D := runD S_law 13
end K14
namespace K14
open PySem PySem.Spec PyProof.Rows L2 DL
variable [TabP]
theorem E_lives {f : Fam} {i t : Int} {p : Per} (h0 : 0 ≤ i) (hp : f[i.toNat]? = some p) : F_lives [famD f, .int i, .int t] = .ok (.bool (alive p t)) := by
  unfold F_lives S_lives
  simp only [runD_ev]
  cases hd : p.died <;> simp [fam_at h0 hp, hd, alive]
theorem E_parents_on {f : Fam} {i t : Int} {p : Per} (h0 : 0 ≤ i) (hp : f[i.toNat]? = some p) : F_parents_on [famD f, .int i, .int t] = .ok (intsT (parsOn p t)) := by
  unfold F_parents_on S_parents_on
  simp only [runD_ev]
  cases hd : p.ad with
  | none => simp [fam_at h0 hp, hd, parsOn]
  | some dl => obtain ⟨d, l⟩ := dl; simp [fam_at h0 hp, hd, parsOn]
theorem E_children_on {f : Fam} {i t : Int} (hn : f.length ≤ 1000) : F_children_on [famD f, .int i, .int t] = .ok ((kidsOn f i t).map PyData.int) := by
  have r := loopL_at (is := [4]) (g := gN 4) (fb := B_children_on_0) (ds := (rgI f.length).map PyData.int) (fun k => [.val (famD f), .val (.int i), .val (.int t), .own ((kidsTo f i t k).map PyData.int), .no]) (by
    intro k d hd
    obtain ⟨hk, rfl⟩ := rgI_at hd
    obtain ⟨p, hp⟩ := fam_lt (f := f) (j := (k : Int)) (by omega) (by omega)
    have hp' : f[k]? = some p := hp
    have hlen : (kidsTo f i t k).length < 16777216 := Nat.lt_of_le_of_lt (kidsTo_len f i t k) (by omega)
    have hpar := E_parents_on (t := t) (by omega) hp
    unfold turnE B_children_on_0
    rw [kidsTo_succ hp']
    by_cases h1 : p.born ≤ t
    · by_cases h2 : i ∈ parsOn p t
      · simp [hp', hpar, h1, h2, hlen, kid]
      · simp [hp', hpar, h1, h2, hlen, kid]
    · simp [hp', hpar, h1, hlen, kid]) (δ := [.val (famD f), .val (.int i), .val (.int t), .own [], .no]) rfl
  unfold F_children_on S_children_on
  simp only [runF_ev]
  simp [gR1_ok (n := (f.length : Int)) (by omega) (by omega), r]
  rfl
theorem E_birth_of {f : Fam} {i : Int} (h0 : 0 ≤ i) {p : Per} (hp : f[i.toNat]? = some p) : F_birth_of [famD f, .int i] = .ok (.int p.born) := by
  unfold F_birth_of S_birth_of
  simp only [runD_ev]
  simp [fam_at h0 hp]
def linD (f : Fam) (t i : Int) : D := .bool (lin f t i)
theorem E_lines_on {f : Fam} {t : Int} (ok : FamOk f) (hn : f.length ≤ 1000) : F_lines_on [famD f, .int t] = .ok (.dict (mapK (linD f t) (ordF f))) := by
  have r := loopL_at (is := [3, 4]) (g := gN 3) (fb := B_lines_on_0) (ds := (ordF f).map PyData.int) (fun k => [.val (famD f), .val (.int t), .ownK (mapK (linD f t) ((ordF f).take k)), .no, .no, .no, .no]) (by
    intro k d hd
    rw [List.getElem?_map] at hd
    cases hi : (ordF f)[k]? with
    | none => rw [hi] at hd; cases hd
    | some i =>
      rw [hi] at hd; cases hd
      have him := mem_ordF.mp (List.mem_of_getElem? hi)
      obtain ⟨p, hp⟩ := fam_lt him.1 him.2
      have hkl : k < (ordF f).length := (List.getElem?_eq_some_iff.mp hi).1
      have htl : ((ordF f).take k).length < 16777216 := by rw [List.length_take, ordF_len]; omega
      have hcomp : ∀ s4, compF [5] (seqI (valF (callF 3 F_children_on (consA (vD 0) (consA (vD 3) (consA (vD 1) nilA)))))) (gN 5) (un (ixD (rD 2) (rD 5)) asB) (vD 5) [.val (famD f), .val (.int t), .ownK (mapK (linD f t) ((ordF f).take k)), .val (.int i), s4, .no, .no] = .ok (((kidsOn f i t).filter (lin f t)).map PyData.int) := fun s4 => by
        refine compF_map (kidsOn f i t) PyData.int (lin f t) PyData.int ?_ (by have := kidsOn_len f i t; omega) fun c hc => ?_
        · simp [E_children_on hn]
        · exact ⟨_, rfl, by simp [gIx_mapK (kid_ahead ok hi hc), linD], fun _ => by simp⟩
      have hnot : i ∉ (ordF f).take k := fun z => by
        obtain ⟨j, hj, e⟩ := List.mem_take_iff_getElem.mp z
        obtain ⟨hk1, hk2⟩ := List.getElem?_eq_some_iff.mp hi
        have := (List.getElem_inj (ordF_nodup f)).mp (e.trans hk2.symm)
        omega
      have htake : (ordF f).take (k + 1) = (ordF f).take k ++ [i] := by rw [List.take_add_one, hi]; rfl
      have hval : updK (linD f t) i (linD f t i) = linD f t := updK_same
      have hlin : (alive p t || decide (¬ (kidsOn f i t).filter (lin f t) = [])) = lin f t i := by
        rw [lin_eq ok hp]
        congr 1
        rw [Bool.eq_iff_iff, decide_eq_true_iff, List.any_eq_true, List.filter_eq_nil_iff]
        simp
      refine turn_of (δ1 := [.val (famD f), .val (.int t), .ownK (mapK (linD f t) ((ordF f).take k)), .val (.int i), .no, .no, .no]) (δ2 := [.val (famD f), .val (.int t), .ownK (mapK (linD f t) ((ordF f).take (k + 1))), .val (.int i), .val (.list (((kidsOn f i t).filter (lin f t)).map PyData.int)), .no, .no]) (by simp) ?_ (by simp)
      unfold B_lines_on_0
      refine step (δ' := [.val (famD f), .val (.int t), .ownK (mapK (linD f t) ((ordF f).take k)), .val (.int i), .val (.list (((kidsOn f i t).filter (lin f t)).map PyData.int)), .no, .no]) (by simp [hcomp]) ?_
      have hput := fun δ d => putD_mapK (k := 2) (δ := δ) (g := linD f t) (l := (ordF f).take k) (d := d) (i := i) htl
      rw [htake]
      cases ha : alive p t with
      | true =>
        have e : linD f t i = .bool true := by unfold linD; rw [← hlin, ha]; rfl
        rw [e] at hval
        simp [E_lives him.1 hp, ha, hput, hnot, hval]
      | false =>
        have e : linD f t i = .bool (decide (¬ (kidsOn f i t).filter (lin f t) = [])) := by unfold linD; rw [← hlin, ha]; rfl
        simp [E_lives him.1 hp, ha, hput, hnot]
        have e3 : (PyData.bool !decide (∀ (a : Int), a ∈ kidsOn f i t → lin f t a = false)) = linD f t i := by
          rw [e]
          refine congrArg PyData.bool ?_
          rw [Bool.eq_iff_iff]; simp
        rw [e3, updK_same]) (δ := [.val (famD f), .val (.int t), .ownK [], .no, .no, .no, .no]) rfl
  have hk : gKeys 6 (negD (callD 2 F_birth_of (consA (vD 0) (consA (vD 6) nilA)))) [.val (famD f), .val (.int t), .ownK [], .no, .no, .no, .no] (.list ((rgI f.length).map .int)) = .ok ((ordF f).map .int) :=
    gKeys_of (k := fun i => -(bornOf f i)) fun i hi => by
      obtain ⟨h0, h1⟩ := mem_rgI.mp hi
      obtain ⟨p, hp⟩ := fam_lt h0 h1
      simp [E_birth_of h0 hp, bornOf_at hp]
  unfold F_lines_on S_lines_on
  simp only [runD_ev]
  have e2 : (ordF f).take (ordF f).length = ordF f := List.take_length
  rw [List.length_map, e2] at r
  simp [gRL_ok (n := f.length) (by omega), hk, r]
theorem common_loop : ∀ (n : Nat) (a b : Int), 0 ≤ b → b < n → (b = 0 → 0 ≤ a) → whileN [] (gtB (rD 1) (cD (.int 0))) B_common_0 n [.val (.int a), .val (.int b)] = .nx [.val (.int (Int.gcd a b)), .val (.int 0)]
  | 0, a, b, h0, h1, _ => by omega
  | n + 1, a, b, h0, h1, h2 => by
    by_cases hb : 0 < b
    · have hm := Int.emod_nonneg a (b := b) (by omega)
      have hm2 := Int.emod_lt_of_pos a hb
      have ih := common_loop n b (a % b) hm (by omega) (fun _ => by omega)
      have hB : B_common_0 [.val (.int a), .val (.int b)] = .nx [.val (.int b), .val (.int (a % b))] := by
        unfold B_common_0
        simp [i2_mod hb]
      rw [gcd_step a b]
      simp [whileN, hb, hB, ih]
    · have : b = 0 := by omega
      subst this
      simp [whileN]
      have := h2 rfl
      omega
theorem E_common (a b : Int) (h : 0 < b) : F_common [.int a, .int b] = .ok (.int (Int.gcd a b)) := by
  unfold F_common S_common
  simp only [runD_ev]
  have := common_loop (b.toNat + 1) a b (by omega) (by omega) (by omega)
  simp [whileS, mu_common_0, slI, this]
theorem E_part (a b : Int) (h : 0 < b) (hb : b < 2 ^ 200) : F_part [.int a, .int b] = .ok (low a b) := by
  unfold F_part S_part
  simp only [runD_ev]
  obtain ⟨g1, g2⟩ := gcd_lg (a := a) h hb
  simp [E_common a b h, i2_div g1 g2, low, paD]
theorem low_one (b : Int) : low 1 b = paD 1 b := by
  unfold low
  rw [Int.one_gcd]; simp
theorem E_shared (k : Int) (h : 0 < k) (hb : k < 2 ^ 190) : F_shared [paD 1 1, .int k] = .ok (paD 1 k) := by
  unfold F_shared S_shared
  simp only [runD_ev]
  have := mul_sm (i := 1) (j := k) (by decide) (by omega)
  simp [this, E_part 1 k h (by omega), low_one]
theorem E_times (k v : Int) (hk : 0 < k) (hv : 0 < v) (hb : k < 2 ^ 9) (hb2 : v < 2 ^ 190) : F_times [paD 1 k, paD 1 v] = .ok (paD 1 (k * v)) := by
  unfold F_times S_times
  simp only [runD_ev]
  have h1 := mul_sm (i := k) (j := v) (by omega) (by omega)
  have h2 : i2 gMul (.int 1) (.int 1) = .ok (.int 1) := rfl
  have h3 : k * v < 2 ^ 200 := by
    have : k * v ≤ 2 ^ 9 * 2 ^ 190 := Int.mul_le_mul (by omega) (by omega) (by omega) (by omega)
    exact Int.lt_of_le_of_lt this (by decide)
  simp [h1, h2, E_part 1 (k * v) (Int.mul_pos hk hv) h3, low_one]
theorem E_ahead (p k : Int) (hk : 0 < k) (hk2 : k < 2 ^ 9) (rows : List RowP) (hl : rows.length ≤ 16777216) (h : ∀ r ∈ rows, 0 < r.2.1 ∧ r.2.1 < 2 ^ 190 ∧ r.2.2.length ≤ 1000) : F_ahead_of [.int p, paD 1 k, .list (rows.map rowD)] = .ok (((rows.map (scl k)).map (ahd p)).map rowD) := by
  unfold F_ahead_of S_ahead_of
  simp only [runF_ev]
  have cmp := compF_map (vs := [3, 4, 5]) (fi := seqI (rD 2)) (g := gT 3 (gCons (gN 3) (gCons (gN 4) (gCons (gN 5) gNil)))) (ft := yesB) (fe := tupD (consA (vD 3) (consA (callD 2 F_times (consA (vD 1) (consA (vD 4) nilA))) (consA (valF (catF (valF (lstF (consA (vD 0) nilA))) (rD 5))) nilA)))) (δ := [.val (.int p), .val (paD 1 k), .val (.list (rows.map rowD)), .no, .no, .no]) rows rowD (fun _ => true) (fun r => rowD (ahd p (scl k r))) (by simp) hl fun r hr => ⟨_, rfl, rfl, fun _ => by
    obtain ⟨h1, h2, h3⟩ := h r hr
    have hs : szL (PyData.int p :: r.2.2.map PyData.int) = .ok (PyData.int p :: r.2.2.map PyData.int) := szL_ok (by rw [List.length_cons, List.length_map]; omega)
    simp [E_times k r.2.1 hk h1 hk2 h2, hs, rowD, ahd, scl]⟩
  have hft : List.filter (fun _ : RowP => true) rows = rows := List.filter_eq_self.mpr fun _ _ => rfl
  rw [hft] at cmp
  simp [cmp]
theorem E_dealt {f : Fam} {t : Int} (ok : FamOk f) (hn : f.length ≤ 24) : ∀ (m k : Nat), k ≤ m → m < 36 → ∀ (p : Int) (T : List Int), (∀ c ∈ T, c ∈ (ordF f).take k) → T.Nodup →
    R_dealt_among (m + 1) [famD f, .dict (mapK (linD f t) (ordF f)), .int p, .list (T.map .int), .int t] = .ok ((shr f t (m + 1) p T 1).map rowD) := by
  intro m
  induction m with
  | zero =>
    intro k hk _ p T hT nd
    have : T = [] := by
      cases T with
      | nil => rfl
      | cons a T => have := hT a List.mem_cons_self; rw [show k = 0 by omega] at this; simp at this
    subst this
    show runF (S_dealt_among (R_dealt_among 0)) 11 _ = _
    unfold S_dealt_among
    simp only [runF_ev]
    have r : loopL [6, 7, 8, 9] (gN 6) (B_dealt_among_0 (R_dealt_among 0)) [] [.val (famD f), .val (.dict (mapK (linD f t) (ordF f))), .val (.int p), .val (.list []), .val (.int t), .own [], .no, .no, .no, .no, .no] = .nx [.val (famD f), .val (.dict (mapK (linD f t) (ordF f))), .val (.int p), .val (.list []), .val (.int t), .own [], .no, .no, .no, .no, .no] := rfl
    simp [r]
    rfl
  | succ m ih =>
    intro k hk hm p T hT nd
    have hTn : ∀ c ∈ T, 0 ≤ c ∧ c < f.length := fun c hc => mem_ordF.mp (List.mem_of_mem_take (hT c hc))
    have hTl : T.length ≤ f.length := nodup_len nd hTn
    have htot := rows_len (t := t) ok hn hTn nd (m + 1) p (1 * T.length)
    have r := loopL_at (is := [6, 7, 8, 9]) (g := gN 6) (fb := B_dealt_among_0 (R_dealt_among (m + 1))) (ds := T.map PyData.int) (fun j => [.val (famD f), .val (.dict (mapK (linD f t) (ordF f))), .val (.int p), .val (.list (T.map .int)), .val (.int t), .own (((T.take j).flatMap (sh1 f t (m + 1) p (1 * T.length))).map rowD), .no, .no, .no, .no, .no]) (by
      intro j d hd
      rw [List.getElem?_map] at hd
      cases hc : T[j]? with
      | none => rw [hc] at hd; cases hd
      | some c =>
        rw [hc] at hd; cases hd
        have hcT := List.mem_of_getElem? hc
        have hcn := hTn c hcT
        have hT0 : 0 < T.length := List.length_pos_of_mem hcT
        obtain ⟨q, hq⟩ := fam_lt hcn.1 hcn.2
        have hsh := E_shared (T.length : Int) (by omega) (by omega)
        have hpre := flatMap_take_len (sh1 f t (m + 1) p (1 * T.length)) T j
        have hpre2 := flatMap_take_len (sh1 f t (m + 1) p (1 * T.length)) T (j + 1)
        rw [flatMap_take _ hc] at hpre2 ⊢
        generalize hP : (T.take j).flatMap (sh1 f t (m + 1) p (1 * T.length)) = P at *
        rw [List.length_append] at hpre2
        unfold turnE B_dealt_among_0
        by_cases ha : alive q t = true
        · have e1 : sh1 f t (m + 1) p (1 * T.length) c = [(c, (T.length : Int), [p, c])] := by
            unfold sh1; rw [aliveI_at hq, if_pos ha, Int.one_mul]
          rw [e1] at hpre2 ⊢
          have hlt : P.length < 16777216 := by simp at hpre2; omega
          simp [paD] at hsh
          simp [hsh, paD, E_lives hcn.1 hq, ha, hlt, rowD]
        · -- the place of c
          have hcT' := hT c hcT
          obtain ⟨j2, hj2, e2⟩ := List.mem_take_iff_getElem.mp hcT'
          have hj3 : (ordF f)[j2]? = some c := by rw [List.getElem?_eq_getElem (by omega), e2]
          have IH := ih j2 (by omega) (by omega) c (bel f t c) (fun d hd => kid_ahead ok hj3 (bel_sub hd)) (bel_nodup f t c)
          have e1 : sh1 f t (m + 1) p (1 * T.length) c = ((shr f t (m + 1) c (bel f t c) 1).map (scl T.length)).map (ahd p) := by
            unfold sh1; rw [aliveI_at hq, if_neg ha, Int.one_mul, ← shr_scl, Int.mul_one]
          have hbd := shr_bd (t := t) (f := f) (by omega) (m + 1) c (bel f t c) 1 (by decide) (by have := bel_len f t c; omega)
          rw [e1] at hpre2 ⊢
          rw [List.length_map, List.length_map] at hpre2
          generalize shr f t (m + 1) c (bel f t c) 1 = R at *
          have h190 := pow32 (m := m + 1) (by omega)
          have hah := E_ahead p (T.length : Int) (by omega) (by omega) R (by omega) fun r hr => ⟨(hbd r hr).1, Int.lt_of_le_of_lt (hbd r hr).2.1 h190, by have := (hbd r hr).2.2; omega⟩
          have hcomp : ∀ s8, compF [10] (seqI (valF (callF 3 F_children_on (consA (vD 0) (consA (vD 6) (consA (vD 4) nilA)))))) (gN 10) (un (ixD (rD 1) (rD 10)) asB) (vD 10) [.val (famD f), .val (.dict (mapK (linD f t) (ordF f))), .val (.int p), .val (.list (T.map .int)), .val (.int t), .own (P.map rowD), .val (.int c), .val (paD 1 T.length), s8, .no, .no] = .ok ((bel f t c).map PyData.int) := fun s8 => by
            refine compF_map (kidsOn f c t) PyData.int (lin f t) PyData.int ?_ (by have := kidsOn_len f c t; omega) fun d hd => ?_
            · simp [E_children_on (f := f) (show f.length ≤ 1000 by omega)]
            · obtain ⟨d0, d1, _⟩ := mem_kids.mp hd
              exact ⟨_, rfl, by simp [gIx_mapK (mem_ordF.mpr ⟨d0, d1⟩), linD], fun _ => by simp⟩
          have hlt : P.length + R.length ≤ 16777216 := by omega
          have hlt2 : P.length + R.length < 16777217 := by omega
          have hsh' : F_shared [.tuple [.int 1, .int 1], .int T.length] = .ok (paD 1 T.length) := hsh
          simp [hsh', E_lives hcn.1 hq, ha, hcomp, IH, hah]
          intro z; omega) (δ := [.val (famD f), .val (.dict (mapK (linD f t) (ordF f))), .val (.int p), .val (.list (T.map .int)), .val (.int t), .own [], .no, .no, .no, .no, .no]) rfl
    show runF (S_dealt_among (R_dealt_among (m + 1))) 11 _ = _
    unfold S_dealt_among
    simp only [runF_ev]
    rw [List.length_map, List.take_length] at r
    simp [r]
    rw [shr_succ, Int.one_mul]
theorem ordF_take (f : Fam) : (ordF f).take f.length = ordF f := by rw [← ordF_len f, List.take_length]
theorem E_by_lines {f : Fam} {i t : Int} (ok : FamOk f) (hn : f.length ≤ 24) : F_by_lines [famD f, .int i, .int t] = .ok ((shr f t 36 i (bel f t i) 1).map rowD) := by
  have hd := E_dealt (t := t) ok hn 35 f.length (by omega) (by omega) i (bel f t i) (fun c hc => by
    rw [ordF_take]
    obtain ⟨c0, c1, _⟩ := mem_kids.mp (bel_sub hc)
    exact mem_ordF.mpr ⟨c0, c1⟩) (bel_nodup f t i)
  have hcomp : ∀ s4, compF [5] (seqI (valF (callF 3 F_children_on (consA (vD 0) (consA (vD 1) (consA (vD 2) nilA)))))) (gN 5) (un (ixD (rD 3) (rD 5)) asB) (vD 5) [.val (famD f), .val (.int i), .val (.int t), .val (.dict (mapK (linD f t) (ordF f))), s4, .no] = .ok ((bel f t i).map PyData.int) := fun s4 => by
    refine compF_map (kidsOn f i t) PyData.int (lin f t) PyData.int ?_ (by have := kidsOn_len f i t; omega) fun d hd => ?_
    · simp [E_children_on (f := f) (show f.length ≤ 1000 by omega)]
    · obtain ⟨d0, d1, _⟩ := mem_kids.mp hd
      exact ⟨_, rfl, by simp [gIx_mapK (mem_ordF.mpr ⟨d0, d1⟩), linD], fun _ => by simp⟩
  unfold F_by_lines S_by_lines
  simp only [runF_ev]
  simp [E_lines_on ok (show f.length ≤ 1000 by omega), hcomp, hd]
theorem E_others_of {f : Fam} {q i t : Int} (hn : f.length ≤ 1000) : F_others_of [famD f, .dict (mapK (linD f t) (ordF f)), .int q, .int i, .int t] = .ok ((oth f t q i).map .int) := by
  have hcomp : compF [5] (seqI (valF (callF 3 F_children_on (consA (vD 0) (consA (vD 2) (consA (vD 4) nilA)))))) (gN 5) (andB (un (ixD (rD 1) (rD 5)) asB) (neB (rD 5) (rD 3))) (vD 5) [.val (famD f), .val (.dict (mapK (linD f t) (ordF f))), .val (.int q), .val (.int i), .val (.int t), .no] = .ok ((oth f t q i).map PyData.int) := by
    refine compF_map (kidsOn f q t) PyData.int (fun c => lin f t c && !decide (c = i)) PyData.int ?_ (by have := kidsOn_len f q t; omega) fun d hd => ?_
    · simp [E_children_on hn]
    · obtain ⟨d0, d1, _⟩ := mem_kids.mp hd
      refine ⟨_, rfl, ?_, fun _ => by simp⟩
      cases hl : lin f t d <;> simp [gIx_mapK (mem_ordF.mpr ⟨d0, d1⟩), linD, hl]
  unfold F_others_of S_others_of
  simp only [runF_ev]
  simp [hcomp]
theorem E_by_parents {f : Fam} {i t : Int} (ok : FamOk f) (hn : f.length ≤ 24) (h0 : 0 ≤ i) (h1 : i < f.length) : F_by_parents [famD f, .int i, .int t] = .ok ((bpr f t i).map rowD) := by
  obtain ⟨p, hp⟩ := fam_lt h0 h1
  have hpl := parsOn_len (ok p (List.mem_of_getElem? hp)) t
  have htl := tkr_len (t := t) ok hp
  have hbl := bpr_len (t := t) ok hn hp
  generalize hln : PyData.dict (mapK (linD f t) (ordF f)) = LD
  have eo := fun q i => E_others_of (f := f) (q := q) (i := i) (t := t) (by omega)
  rw [hln] at eo
  have el := E_lines_on (t := t) ok (show f.length ≤ 1000 by omega)
  rw [hln] at el
  have r1 := loopL_at (is := [5]) (g := gN 5) (fb := B_by_parents_0) (ds := (parsOn p t).map PyData.int) (fun k => [.val (famD f), .val (.int i), .val (.int t), .val LD, .own ((((parsOn p t).take k).filter (tkP f t i)).map .int), .no, .no, .no, .no]) (by
    intro k d hd
    rw [List.getElem?_map] at hd
    cases hc : (parsOn p t)[k]? with
    | none => rw [hc] at hd; cases hd
    | some q =>
      rw [hc] at hd; cases hd
      have hqr := par_rng ok hp (List.mem_of_getElem? hc)
      obtain ⟨pq, hq⟩ := fam_lt hqr.1 hqr.2
      have hpre : (((parsOn p t).take k).filter (tkP f t i)).length < 16777216 := by
        have := List.length_filter_le (tkP f t i) ((parsOn p t).take k)
        rw [List.length_take] at this
        omega
      have e1 : ((parsOn p t).take (k + 1)).filter (tkP f t i) = ((parsOn p t).take k).filter (tkP f t i) ++ if tkP f t i q = true then [q] else [] := by
        rw [List.take_add_one, hc, List.filter_append]
        simp [List.filter_cons]
      rw [e1]
      generalize ((parsOn p t).take k).filter (tkP f t i) = P at *
      unfold turnE B_by_parents_0 tkP
      rw [aliveI_at hq]
      cases ha : alive pq t with
      | true => simp [E_lives hqr.1 hq, ha, hpre]
      | false =>
        by_cases ho : oth f t q i = []
        · simp [E_lives hqr.1 hq, ha, hpre, eo, ho]
        · simp [E_lives hqr.1 hq, ha, hpre, eo, ho]) (δ := [.val (famD f), .val (.int i), .val (.int t), .val LD, .own [], .no, .no, .no, .no]) (by simp)
  rw [List.length_map, List.take_length, ← tkr_eq hp] at r1
  obtain ⟨⟨R, s5⟩, hR, r2⟩ := loopL_inv (A := List RowP × Sl) (fun a => [.val (famD f), .val (.int i), .val (.int t), .val LD, .val (.list ((tkr f t i).map .int)), a.2, .own (a.1.map rowD), .no, .no]) (is := [7, 8]) (g := gN 5) (fb := B_by_parents_1) (ds := (tkr f t i).map PyData.int) (fun k a => a.1 = ((tkr f t i).take k).flatMap (sh2 f t i (tkr f t i).length)) (by
    rintro j ⟨P, s5⟩ d hd hP
    have hP : P = ((tkr f t i).take j).flatMap (sh2 f t i (tkr f t i).length) := hP
    rw [List.getElem?_map] at hd
    cases hc : (tkr f t i)[j]? with
    | none => rw [hc] at hd; cases hd
    | some q =>
      rw [hc] at hd; cases hd
      have hqr := tkr_rng ok hp (List.mem_of_getElem? hc)
      obtain ⟨pq, hq⟩ := fam_lt hqr.1 hqr.2
      have hT0 : 0 < (tkr f t i).length := List.length_pos_of_mem (List.mem_of_getElem? hc)
      have hsh := E_shared ((tkr f t i).length : Int) (by omega) (by omega)
      have hsh' : F_shared [.tuple [.int 1, .int 1], .int (tkr f t i).length] = .ok (paD 1 (tkr f t i).length) := hsh
      have hpre2 := flatMap_take_len (sh2 f t i (tkr f t i).length) (tkr f t i) (j + 1)
      rw [flatMap_take _ hc, ← hP, List.length_append] at hpre2
      have hpre3 : P.length + (sh2 f t i (tkr f t i).length q).length ≤ 16777216 := Nat.le_trans hpre2 hbl
      refine ⟨(P ++ sh2 f t i (tkr f t i).length q, .val (.int q)), by show P ++ _ = _; rw [flatMap_take _ hc, hP], ?_⟩
      unfold turnE B_by_parents_1
      by_cases ha : alive pq t = true
      · have e1 : sh2 f t i (tkr f t i).length q = [(q, ((tkr f t i).length : Int), [i, q])] := by
          unfold sh2; rw [aliveI_at hq, if_pos ha]
        have hpl2 := bpr_len2 (t := t) ok hn hp hc (by rw [aliveI_at hq]; exact ha)
        rw [← hP] at hpl2
        have hlt : P.length < 16777216 := by omega
        rw [e1]
        simp [hsh', E_lives hqr.1 hq, ha, hlt, rowD]
      · obtain ⟨k, hk, hpl2⟩ := oth_place (t := t) (i := i) ok hqr.1 hqr.2
        have hdl := E_dealt (t := t) ok hn 35 k (by omega) (by omega) q (oth f t q i) hpl2 (oth_nodup f t q i)
        have hbd := shr_bd (t := t) (f := f) (by omega) 36 q (oth f t q i) 1 (by decide) (by have := oth_len f t q i; omega)
        have e1 : sh2 f t i (tkr f t i).length q = ((shr f t 36 q (oth f t q i) 1).map (scl (tkr f t i).length)).map (ahd i) := by
          unfold sh2; rw [aliveI_at hq, if_neg ha, ← shr_scl, Int.mul_one]
        rw [e1] at hpre3 ⊢
        rw [List.length_map, List.length_map] at hpre3
        rw [hln] at hdl
        generalize shr f t 36 q (oth f t q i) 1 = R at *
        have h190 := pow32 (m := 36) (by omega)
        have hah := E_ahead i ((tkr f t i).length : Int) (by omega) (by omega) R (by omega) fun r hr => ⟨(hbd r hr).1, Int.lt_of_le_of_lt (hbd r hr).2.1 h190, by have := (hbd r hr).2.2; omega⟩
        simp [hsh', E_lives hqr.1 hq, ha, eo, hdl, hah]
        intro z; omega) (a := ([], .no)) (δ := [.val (famD f), .val (.int i), .val (.int t), .val LD, .val (.list ((tkr f t i).map .int)), .no, .own [], .no, .no]) rfl (by simp)
  have hR : R = ((tkr f t i).take ((tkr f t i).map PyData.int).length).flatMap (sh2 f t i (tkr f t i).length) := hR
  rw [List.length_map, List.take_length] at hR
  subst hR
  unfold F_by_parents S_by_parents
  simp only [runF_ev]
  simp [el, E_parents_on h0 hp, r1, r2]
  rfl
theorem E_moves {f : Fam} {t : Int} {k : Pt} (ok : FamOk f) (hn : f.length ≤ 100) (h0 : 0 ≤ k.1) (h1 : k.1 < f.length) : F_moves [famD f, pkD k, .int t] = .ok (.list ((mvs f t k).map pkD)) := by
  obtain ⟨q, b⟩ := k
  obtain ⟨p, hp⟩ := fam_lt h0 h1
  have hpl := parsOn_len (ok p (List.mem_of_getElem? hp)) t
  have hkl := kidsOn_len f q t
  have c1 : ∀ s5, compF [6] (seqI (valF (callF 3 F_children_on (consA (vD 0) (consA (vD 3) (consA (vD 2) nilA)))))) (gN 6) yesB (tupD (consA (vD 6) (consA (cD (.bool true)) nilA))) [.val (famD f), .val (.tuple [.int q, .bool b]), .val (.int t), .val (.int q), .val (.bool b), s5, .no, .no] = .ok (((kidsOn f q t).map fun c => (c, true)).map pkD) := fun s5 => by
    have := compF_map (vs := [6]) (fi := seqI (valF (callF 3 F_children_on (consA (vD 0) (consA (vD 3) (consA (vD 2) nilA)))))) (g := gN 6) (ft := yesB) (fe := tupD (consA (vD 6) (consA (cD (.bool true)) nilA))) (δ := [.val (famD f), .val (.tuple [.int q, .bool b]), .val (.int t), .val (.int q), .val (.bool b), s5, .no, .no]) (kidsOn f q t) PyData.int (fun _ => true) (fun c => pkD (c, true)) (by simp [E_children_on (f := f) (show f.length ≤ 1000 by omega)]) (by omega) fun c hc => ⟨_, rfl, rfl, fun _ => by simp [pkD]⟩
    rw [this, List.filter_eq_self.mpr fun _ _ => rfl, List.map_map]; rfl
  have c2 : ∀ s5, compF [7] (seqI (callD 3 F_parents_on (consA (vD 0) (consA (vD 3) (consA (vD 2) nilA))))) (gN 7) yesB (tupD (consA (vD 7) (consA (cD (.bool false)) nilA))) [.val (famD f), .val (.tuple [.int q, .bool b]), .val (.int t), .val (.int q), .val (.bool b), s5, .no, .no] = .ok (((parsOn p t).map fun c => (c, false)).map pkD) := fun s5 => by
    have := compF_map (vs := [7]) (fi := seqI (callD 3 F_parents_on (consA (vD 0) (consA (vD 3) (consA (vD 2) nilA))))) (g := gN 7) (ft := yesB) (fe := tupD (consA (vD 7) (consA (cD (.bool false)) nilA))) (δ := [.val (famD f), .val (.tuple [.int q, .bool b]), .val (.int t), .val (.int q), .val (.bool b), s5, .no, .no]) (parsOn p t) PyData.int (fun _ => true) (fun c => pkD (c, false)) (by simp [E_parents_on h0 hp]) (by omega) fun c hc => ⟨_, rfl, rfl, fun _ => by simp [pkD]⟩
    rw [this, List.filter_eq_self.mpr fun _ _ => rfl, List.map_map]; rfl
  have hsz : szL (((kidsOn f q t).map fun c => (c, true)).map pkD ++ ((parsOn p t).map fun c => (c, false)).map pkD) = .ok (((kidsOn f q t).map fun c => (c, true)).map pkD ++ ((parsOn p t).map fun c => (c, false)).map pkD) := szL_ok (by simp; omega)
  have hm : mvs f t (q, b) = (kidsOn f q t).map (fun c => (c, true)) ++ if b = true then [] else (parsOn p t).map fun c => (c, false) := by
    unfold mvs
    have hp' : f[(q, b).1.toNat]? = some p := hp
    rw [hp']; rfl
  rw [hm]
  generalize hA : ((kidsOn f q t).map fun c => (c, true)).map pkD = A at *
  generalize hB : ((parsOn p t).map fun c => (c, false)).map pkD = B at *
  unfold F_moves S_moves
  simp only [runD_ev]
  cases b with
  | true => simp [pkD, c1, hA]
  | false => simp [pkD, c1, c2, hsz, hA, hB]
def sV : Option D → Sl
  | none => .no
  | some d => .val d
theorem pkD_ne (k : Pt) : gIx (pkD k) (.int 0) = .ok (.int k.1) := by unfold pkD; simp
theorem look_way {f : Fam} {i : Int} {B : Nat} {W : List Way} (hW : WOk f i B W) {w : Way} (hw : w ∈ W) : lookN (encW W) w.1 = some (encL w.2) := by
  rw [lookN_enc]
  have : lookW W w.1 = some w.2 := by
    cases q : lookW W w.1 with
    | none => exact absurd (List.mem_map.mpr ⟨w, hw, rfl⟩) (lookW_none q)
    | some l =>
      have h1 := lookW_mem q
      have : ∀ (V : List Way), (V.map (·.1)).Nodup → ∀ l, (w.1, l) ∈ V → w ∈ V → l = w.2 := by
        intro V
        induction V with
        | nil => intro _ l h; cases h
        | cons v V ih =>
          intro nd l h1 h2
          rw [List.map_cons, List.nodup_cons] at nd
          rcases List.mem_cons.mp h1 with e1 | e1
          · rcases List.mem_cons.mp h2 with e2 | e2
            · rw [e2, ← e1]
            · exact absurd (List.mem_map.mpr ⟨w, e2, by rw [← e1]⟩) nd.1
          · rcases List.mem_cons.mp h2 with e2 | e2
            · exact absurd (List.mem_map.mpr ⟨_, e1, by rw [← e2]⟩) nd.1
            · exact ih nd.2 l e1 e2
      rw [this W hW.nd l h1 hw]
  rw [this]; rfl
abbrev envO (f : Fam) (W : List Way) (S : List Pt) (t : Int) (s5 s6 s7 : Sl) (fd : List Way) : DL.Env := [.val (famD f), .bor true (encW W), .ownN true (encS S), .val (.int t), .ownN false (encW fd), s5, s6, s7]
theorem E_onward {f : Fam} {W : List Way} {S : List Pt} {i t : Int} {B : Nat} (ok : FamOk f) (hn : f.length ≤ 100) (hW : WOk f i B W) (hB : B ≤ 1000) (hS : S.Nodup) (hSr : ∀ k ∈ S, 0 ≤ k.1 ∧ k.1 < f.length) :
    F_onward [.val (famD f), .bor true (encW W), .ownN true (encS S), .val (.int t)] = .ok (encW (onw f t W S), encS (S ++ (onw f t W S).map (·.1))) ∧ WOk f i (B + 1) (onw f t W S) ∧ NotS S (onw f t W S) := by
  obtain ⟨⟨i1, i2⟩, r1⟩ := loopL_fold (envO f W S t .no .no .no) (is := [5, 6, 7]) (g := gN 5) (fb := B_onward_1) (enc := fun w : Way => pkD w.1) (step := fun fd w => (mvs f t w.1).foldl (addO S w.2) fd) (I := fun fd => WOk f i (B + 1) fd ∧ NotS S fd) (fun _ => rfl) W [] (envO f W S t .no .no .no []) rfl ⟨⟨List.nodup_nil, fun _ h => (nomatch h), fun _ h => (nomatch h)⟩, fun _ h => (nomatch h)⟩ (by
    intro fd w hw hfd
    have hwr := hW.rg w hw
    have hwl := hW.ln w hw
    have hlook : lookN (encW W) w.1 = some (encL w.2) := look_way hW hw
    obtain ⟨j, r⟩ := loopL_fold (envO f W S t (.val (pkD w.1)) .no .no) (is := [6, 7]) (g := gN 6) (fb := B_onward_0) (enc := pkD) (step := addO S w.2) (I := fun fd => WOk f i (B + 1) fd ∧ NotS S fd) (fun _ => rfl) (mvs f t w.1) fd (envO f W S t (.val (pkD w.1)) .no .no fd) rfl hfd (by
      intro fd o ho hfd
      have hor := mvs_rg ok ho
      refine ⟨addO_ok hfd hor hwl, ?_⟩
      have hfl := hfd.1.len
      have hsz : szL (w.2.map PyData.int ++ [PyData.int o.1]) = .ok (w.2.map PyData.int ++ [PyData.int o.1]) := szL_ok (by rw [List.length_append, List.length_map]; have := hwl.2; simp; omega)
      have e1 : (PyData.list (w.2.map PyData.int ++ [PyData.int o.1])) = encL (w.2 ++ [o.1]) := by unfold encL; rw [List.map_append]; rfl
      have hlt : (encW fd).length < 16777216 := by rw [len_encW]; omega
      have hp1 : pkD o = .tuple [.int o.1, .bool o.2] := rfl
      have hp2 : pkD w.1 = .tuple [.int w.1.1, .bool w.1.2] := rfl
      have hix : ∀ s6 s7, ixN 1 (rD 5) (envO f W S t (.val (pkD w.1)) s6 s7 fd) = .ok (encL w.2) := fun s6 s7 => by simp [hp2, hlook]
      unfold turnE B_onward_0 addO
      by_cases hoS : o ∈ S
      · have hl : lookN (encS S) (o.1, o.2) = some (.bool true) := by rw [lookN_encS, if_pos hoS]
        rw [if_pos hoS]
        simp [hp1, hl]
      · have hl : lookN (encS S) (o.1, o.2) = none := by rw [lookN_encS, if_neg hoS]
        rw [if_neg hoS]
        have hget : ∀ z, (lookN (encW fd) (o.1, o.2)).getD (encL z) = encL ((lookW fd o).getD z) := fun z => by
          rw [lookN_enc]
          cases lookW fd (o.1, o.2) <;> rfl
        have hput : ∀ z, putN (encW fd) (o.1, o.2) (encL z) = encW (putW fd o z) := fun z => putN_enc fd o z
        have hlst : gLst (encL w.2) = .ok (w.2.map PyData.int) := rfl
        have hofl : ofLst (encL w.2) = .ok (w.2.map PyData.int) := rfl
        simp [hp1, hl, hp2, hlook, hofl, hsz, e1, hget, hput]
        intro z; omega)
    refine ⟨j, ?_⟩
    unfold turnE B_onward_1
    have hm := E_moves (t := t) ok hn hwr.1 hwr.2
    have hp2 : pkD w.1 = .tuple [.int w.1.1, .bool w.1.2] := rfl
    rw [gN_ev, turnO_some]
    have e0 : (envO f W S t .no .no .no fd).set 5 (.val (pkD w.1)) = envO f W S t (.val (pkD w.1)) .no .no fd := rfl
    rw [e0]
    have e1 : forS [6, 7] (seqI (callD 3 F_moves (consA (vD 0) (consA (vD 5) (consA (vD 3) nilA))))) (gN 6) B_onward_0 (envO f W S t (.val (pkD w.1)) .no .no fd) = loopL [6, 7] (gN 6) B_onward_0 ((mvs f t w.1).map pkD) (envO f W S t (.val (pkD w.1)) .no .no fd) := by
      simp [hm]
    rw [e1, r]; rfl)
  refine ⟨?_, i1, i2⟩
  have hfold : W.foldl (fun fd w => (mvs f t w.1).foldl (addO S w.2) fd) [] = onw f t W S := rfl
  rw [hfold] at r1 i1 i2
  generalize onw f t W S = V at *
  -- the keys are marked
  obtain ⟨S2, s5, ⟨hS2, _⟩, r2⟩ : ∃ (S2 : List Pt) (s5 : Option D), (S2 = S ++ V.map (·.1) ∧ True) ∧ loopL [] (gN 5) B_onward_2 ((V.map (·.1)).map pkD) [.val (famD f), .bor true (encW W), .ownN true (encS S), .val (.int t), .bor true (encW V), .no, .no, .no] = .nx [.val (famD f), .bor true (encW W), .ownN true (encS S2), .val (.int t), .bor true (encW V), sV s5, .no, .no] := by
    obtain ⟨⟨S2, s5⟩, h1, r⟩ := loopL_inv (A := List Pt × Option D) (fun a => [.val (famD f), .bor true (encW W), .ownN true (encS a.1), .val (.int t), .bor true (encW V), sV a.2, .no, .no]) (is := []) (g := gN 5) (fb := B_onward_2) (ds := (V.map (·.1)).map pkD) (fun k a => a.1 = S ++ (V.map (·.1)).take k) (by
      rintro k ⟨S', s5⟩ d hd hk
      have hk : S' = S ++ (V.map (·.1)).take k := hk
      rw [List.getElem?_map] at hd
      cases ho : (V.map (·.1))[k]? with
      | none => rw [ho] at hd; cases hd
      | some o =>
        rw [ho] at hd; cases hd
        have hkl : k < (V.map (·.1)).length := (List.getElem?_eq_some_iff.mp ho).1
        have hVl := i1.len
        have hSl := pts_len hS hSr
        have hno : o ∉ S' := fun z => by
          rw [hk] at z
          rcases List.mem_append.mp z with z | z
          · obtain ⟨v, hv, e⟩ := List.mem_map.mp (List.mem_of_getElem? ho)
            exact i2 v hv (by rw [e]; exact z)
          · obtain ⟨j, hj, e⟩ := List.mem_take_iff_getElem.mp z
            have e2 := (List.getElem?_eq_some_iff.mp ho).2
            have := (List.getElem_inj i1.nd).mp (e.trans e2.symm)
            omega
        refine ⟨(S' ++ [o], some (pkD o)), ?_, ?_⟩
        · show S' ++ [o] = _
          rw [List.take_add_one, ho, hk, List.append_assoc]; rfl
        · have hp1 : pkD o = .tuple [.int o.1, .bool o.2] := rfl
          have hput : putN (encS S') (o.1, o.2) (.bool true) = encS (S' ++ [o]) := putN_encS hno
          have hlt : (encS S').length < 16777216 := by
            rw [len_encS, hk, List.length_append, List.length_take, List.length_map]
            omega
          unfold turnE B_onward_2
          rw [len_encS] at hlt
          simp [hp1, hput, hlt, sV]) (a := (S, none)) (δ := [.val (famD f), .bor true (encW W), .ownN true (encS S), .val (.int t), .bor true (encW V), .no, .no, .no]) rfl (by simp)
    refine ⟨S2, s5, ⟨?_, trivial⟩, r⟩
    have h1 : S2 = S ++ (V.map (·.1)).take ((V.map (·.1)).map pkD).length := h1
    rw [List.length_map, List.take_length] at h1
    exact h1
  subst hS2
  have r1' : loopL [5, 6, 7] (gN 5) B_onward_1 ((encW W).map keyD) [.val (famD f), .bor true (encW W), .ownN true (encS S), .val (.int t), .ownN false [], .no, .no, .no] = .nx (envO f W S t .no .no .no V) := by
    rw [keys_encW, List.map_map]; exact r1
  have r2' := r2
  rw [← keys_encW] at r2'
  unfold F_onward runRE S_onward
  have e0 : ([.val (famD f), .bor true (encW W), .ownN true (encS S), .val (.int t)] : DL.Env) ++ List.replicate (8 - ([.val (famD f), .bor true (encW W), .ownN true (encS S), .val (.int t)] : DL.Env).length) .no = [.val (famD f), .bor true (encW W), .ownN true (encS S), .val (.int t), .no, .no, .no, .no] := rfl
  rw [e0]
  simp [r1', borOk, borS]
  simp [r2', borOk, borS]
  cases s5 <;> rfl
theorem E_living {f : Fam} {W : List Way} {i t : Int} {B : Nat} (hn : f.length ≤ 100) (hW : WOk f i B W) :
    F_living_ends [.val (famD f), .bor true (encW W), .val (.int i), .val (.int t)] = .ok ((lvE f t i W).map pwD) ∧ LvOk f t i B (lvF f t i W) := by
  obtain ⟨hj, r⟩ := loopL_fold (fun a : LvA => [.val (famD f), .bor true (encW W), .val (.int i), .val (.int t), .ownK (mapK (fun j => encL (a.2 j)) a.1), .no, .no]) (is := [5, 6]) (g := gN 5) (fb := B_living_ends_0) (enc := fun w : Way => pkD w.1) (step := lvO f t i) (I := LvOk f t i B) (fun _ => rfl) W ([], fun _ => []) [.val (famD f), .bor true (encW W), .val (.int i), .val (.int t), .ownK [], .no, .no] rfl ⟨List.nodup_nil, fun _ h => (nomatch h), fun _ h => (nomatch h)⟩ (by
    intro a w hw ha
    have hwr := hW.rg w hw
    have hwl := hW.ln w hw
    refine ⟨lvO_ok ha hwr hwl, ?_⟩
    have hlook : lookN (encW W) (w.1.1, w.1.2) = some (encL w.2) := look_way hW hw
    obtain ⟨p, hp⟩ := fam_lt hwr.1 hwr.2
    have hlen : a.1.length < 16777216 := by
      have := nodup_len ha.nd fun j hj => (ha.rg j hj).1
      omega
    have hput := fun δ d => putD_mapK (k := 4) (δ := δ) (g := fun j => encL (a.2 j)) (l := a.1) (d := d) (i := w.1.1) hlen
    have hget := fun z => get_mapK (g := fun j => encL (a.2 j)) (l := a.1) (i := w.1.1) (z := z)
    have hite : (if w.1.1 ∈ a.1 then encL (a.2 w.1.1) else encL w.2) = encL (if w.1.1 ∈ a.1 then a.2 w.1.1 else w.2) := by split <;> rfl
    have hp2 : pkD w.1 = .tuple [.int w.1.1, .bool w.1.2] := rfl
    unfold turnE B_living_ends_0 lvO
    rw [aliveI_at hp]
    by_cases e1 : w.1.1 = i
    · rw [if_neg (fun z => z.1 e1)]
      simp [hp2, e1]
    · by_cases e2 : alive p t = true
      · rw [if_pos ⟨e1, e2⟩]
        simp [hp2, e1, E_lives hwr.1 hp, e2, hlook, hget, hite, hput]
        refine congrArg (fun g => mapK g _) ?_
        funext j
        unfold updK
        split <;> rfl
      · rw [if_neg (fun z => e2 z.2)]
        simp [hp2, e1, E_lives hwr.1 hp, e2])
  have hfold : W.foldl (lvO f t i) ([], fun _ => []) = lvF f t i W := rfl
  rw [hfold] at hj r
  refine ⟨?_, hj⟩
  have hr : loopL [5, 6] (gN 5) B_living_ends_0 ((encW W).map keyD) [.val (famD f), .bor true (encW W), .val (.int i), .val (.int t), .ownK [], .no, .no] = .nx [.val (famD f), .bor true (encW W), .val (.int i), .val (.int t), .ownK (mapK (fun j => encL ((lvF f t i W).2 j)) (lvF f t i W).1), .no, .no] := by
    rw [keys_encW, List.map_map]; exact r
  have hlen : (lvF f t i W).1.length ≤ f.length := nodup_len hj.nd fun j hj2 => (hj.rg j hj2).1
  generalize hA : lvF f t i W = A at *
  have hperm := sortL_perm A.1
  have cmp : compF [6] (seqI (valF (sortF (valF (listF (rD 4)))))) (gN 6) yesB (tupD (consA (vD 6) (consA (ixD (rD 4) (rD 6)) nilA))) [.val (famD f), .bor true (encW W), .val (.int i), .val (.int t), .val (.dict (mapK (fun j => encL (A.2 j)) A.1)), .no, .no] = .ok ((lvE f t i W).map pwD) := by
    have := compF_map (vs := [6]) (fi := seqI (valF (sortF (valF (listF (rD 4)))))) (g := gN 6) (ft := yesB) (fe := tupD (consA (vD 6) (consA (ixD (rD 4) (rD 6)) nilA))) (δ := [.val (famD f), .bor true (encW W), .val (.int i), .val (.int t), .val (.dict (mapK (fun j => encL (A.2 j)) A.1)), .no, .no]) (sortL A.1) PyData.int (fun _ => true) (fun h => pwD (h, A.2 h)) (by
      simp [sortF, gSort, intsOf_int]) (by rw [hperm.length_eq]; omega) fun h hh => ⟨_, rfl, rfl, fun _ => by
        have hm : h ∈ A.1 := hperm.mem_iff.mp hh
        simp [gIx_mapK hm, pwD]⟩
    rw [this, List.filter_eq_self.mpr fun _ _ => rfl]
    unfold lvE
    rw [hA, List.map_map]; rfl
  unfold F_living_ends runFE S_living_ends
  have e0 : ([.val (famD f), .bor true (encW W), .val (.int i), .val (.int t)] : DL.Env) ++ List.replicate (7 - ([.val (famD f), .bor true (encW W), .val (.int i), .val (.int t)] : DL.Env).length) .no = [.val (famD f), .bor true (encW W), .val (.int i), .val (.int t), .no, .no, .no] := rfl
  rw [e0]
  simp [hr, borOk, borS, cmp]
/-- what nearest hands back -/
structure NrOk (f : Fam) (t i : Int) (ps : List (Int × List Int)) : Prop where
  who : ∀ p ∈ ps, (0 ≤ p.1 ∧ p.1 < f.length) ∧ p.1 ≠ i ∧ aliveI f t p.1 = true
  way : ∀ p ∈ ps, (∃ l, p.2 = i :: l) ∧ p.2.length ≤ 900
  len : ps.length ≤ f.length
theorem lvE_ok {f : Fam} {W : List Way} {i t : Int} {B : Nat} (h : LvOk f t i B (lvF f t i W)) (hB : B ≤ 900) : NrOk f t i (lvE f t i W) := by
  have hp := sortL_perm (lvF f t i W).1
  refine ⟨fun p hp2 => ?_, fun p hp2 => ?_, ?_⟩
  · obtain ⟨j, hj, rfl⟩ := List.mem_map.mp hp2
    exact h.rg j (hp.mem_iff.mp hj)
  · obtain ⟨j, hj, rfl⟩ := List.mem_map.mp hp2
    have := h.ln j (hp.mem_iff.mp hj)
    exact ⟨this.1, Nat.le_trans this.2 hB⟩
  · unfold lvE
    rw [List.length_map, hp.length_eq]
    exact nodup_len h.nd fun j hj => (h.rg j hj).1
abbrev envN (f : Fam) (i t : Int) (W : List Way) (S : List Pt) (s5 : Sl) : DL.Env := [.val (famD f), .val (.int i), .val (.int t), .ownN false (encW W), .ownN false (encS S), s5]
theorem nearest_loop {f : Fam} {i t : Int} (ok : FamOk f) (hn : f.length ≤ 100) : ∀ (k B : Nat) (W : List Way) (S : List Pt) (s5 : Sl), WOk f i B W → B + k ≤ 800 → S.Nodup → (∀ p ∈ S, 0 ≤ p.1 ∧ p.1 < f.length) → (W = [] ∨ 2 * f.length + 2 ≤ k + S.length) → 0 < k →
    (∃ W' S' s5', whileN [5] (gtB (lenN 3) (cD (.int 0))) B_nearest_0 k (envN f i t W S s5) = .nx (envN f i t W' S' s5')) ∨ ∃ ps, ps ≠ [] ∧ whileN [5] (gtB (lenN 3) (cD (.int 0))) B_nearest_0 k (envN f i t W S s5) = .rt (.list (ps.map pwD)) ∧ NrOk f t i ps
  | 0, _, _, _, _, _, _, _, _, _, h => absurd h (Nat.lt_irrefl _)
  | k + 1, B, W, S, s5, hW, hB, hS, hSr, hk, _ => by
    have e0 : fgE [5] (envN f i t W S s5) = envN f i t W S .no := rfl
    by_cases hW0 : W = []
    · refine .inl ⟨W, S, .no, ?_⟩
      subst hW0
      unfold whileN
      rw [e0]
      have : gtB (lenN 3) (cD (.int 0)) (envN f i t [] S .no) = .ok false := by simp [encW]
      rw [this, onR_ok]; rfl
    · have hSl := pts_len hS hSr
      have hk : 2 * f.length + 2 ≤ k + 1 + S.length := hk.resolve_left hW0
      obtain ⟨o1, o2, o3⟩ := E_onward (t := t) ok hn hW (by omega) hS hSr
      obtain ⟨l1, l2⟩ := E_living (t := t) hn o2
      have hps := lvE_ok l2 (by omega)
      have hc : gtB (lenN 3) (cD (.int 0)) (envN f i t W S .no) = .ok true := by
        have : 0 < W.length := List.length_pos_iff.mpr hW0
        simp [this]
      have hne : ∀ ps : List (Int × List Int), gNe (.list (ps.map pwD)) (.list []) = .ok (!decide (ps = [])) := fun ps => by
        refine gNe_of (n := 3) (m := 1) ?_ (by decide) rfl (by decide) (by simp)
        show DL.plainA 2 (ps.map pwD) = true
        rw [plainA_iff]
        intro d hd
        obtain ⟨p, _, rfl⟩ := List.mem_map.mp hd
        have h : DL.plainA 0 (p.2.map PyData.int) = true := plain_ints 0 _
        simp [pwD, encL, DL.plain, plainA, h]
      have hbody : B_nearest_0 (envN f i t W S .no) = if lvE f t i (onw f t W S) = [] then .nx (envN f i t (onw f t W S) (S ++ (onw f t W S).map (·.1)) (.val (.list []))) else .rt (.list ((lvE f t i (onw f t W S)).map pwD)) := by
        unfold B_nearest_0
        by_cases hp : lvE f t i (onw f t W S) = []
        · rw [if_pos hp]
          rw [hp] at l1
          simp [o1, l1]
        · rw [if_neg hp]
          have hne' := hne (lvE f t i (onw f t W S))
          rw [decide_eq_false hp] at hne'
          generalize (lvE f t i (onw f t W S)).map pwD = M at *
          simp [o1, l1, hne']
      unfold whileN
      rw [e0, hc, onR_ok, if_pos rfl, hbody]
      by_cases hp : lvE f t i (onw f t W S) = []
      · rw [if_pos hp]
        dsimp only
        have hS2 : (S ++ (onw f t W S).map (·.1)).Nodup := by
          rw [List.nodup_append]
          refine ⟨hS, o2.nd, fun a ha b hb e => ?_⟩
          obtain ⟨v, hv, rfl⟩ := List.mem_map.mp hb
          exact o3 v hv (by rw [← e]; exact ha)
        refine nearest_loop ok hn k (B + 1) _ _ _ o2 (by omega) hS2 (fun p hp2 => ?_) ?_ (by omega)
        · rcases List.mem_append.mp hp2 with z | z
          · exact hSr p z
          · obtain ⟨v, hv, rfl⟩ := List.mem_map.mp z
            exact o2.rg v hv
        · by_cases h0 : onw f t W S = []
          · exact .inl h0
          · refine .inr ?_
            have : 0 < (onw f t W S).length := List.length_pos_iff.mpr h0
            rw [List.length_append, List.length_map]
            omega
      · rw [if_neg hp]
        exact .inr ⟨_, hp, rfl, hps⟩
theorem E_nearest {f : Fam} {i t : Int} (ok : FamOk f) (hn : f.length ≤ 100) (h0 : 0 ≤ i) (h1 : i < f.length) : ∃ ps, F_nearest [famD f, .int i, .int t] = .ok (.list (ps.map pwD)) ∧ NrOk f t i ps := by
  have hW : WOk f i 1 [((i, false), [i])] := ⟨by simp, fun w hw => by rw [List.mem_singleton] at hw; subst hw; exact ⟨h0, h1⟩, fun w hw => by rw [List.mem_singleton] at hw; subst hw; exact ⟨⟨[], rfl⟩, by simp⟩⟩
  have r := nearest_loop (t := t) ok hn (f.length * 2 + 5) 1 [((i, false), [i])] [(i, false)] .no hW (by omega) (by simp) (fun p hp => by rw [List.mem_singleton] at hp; subst hp; exact ⟨h0, h1⟩) (.inr (by simp; omega)) (by omega)
  have hmu : ∀ W S s5, mu_nearest_0 (envN f i t W S s5) = f.length * 2 + 5 := fun W S s5 => by
    show (f.map perD).length * 2 + 5 = _
    rw [List.length_map]
  have e1 : ([((i, false), PyData.list [PyData.int i])] : NKv) = encW [((i, false), [i])] := rfl
  have e2 : ([((i, false), PyData.bool true)] : NKv) = encS [(i, false)] := rfl
  unfold F_nearest S_nearest
  simp only [runD_ev]
  have hw : ∀ W S s5, whileS [5] mu_nearest_0 (gtB (lenN 3) (cD (.int 0))) B_nearest_0 (envN f i t W S s5) = whileN [5] (gtB (lenN 3) (cD (.int 0))) B_nearest_0 (f.length * 2 + 5) (envN f i t W S s5) := fun W S s5 => by unfold whileS; rw [hmu]
  have hw0 := hw [((i, false), [i])] [(i, false)] .no
  rcases r with ⟨W', S', s5', r⟩ | ⟨ps, hps, r, hok⟩
  · refine ⟨[], ?_, ⟨fun _ h => (nomatch h), fun _ h => (nomatch h), Nat.zero_le _⟩⟩
    rw [r] at hw0
    simp [e1, e2, hw0]
  · refine ⟨ps, ?_, hok⟩
    rw [r] at hw0
    simp [e1, e2, hw0]
def WedOk (n : Nat) (w : Wed) : Prop := (0 ≤ w.1 ∧ w.1 < n) ∧ (0 ≤ w.2.1 ∧ w.2.1 < n) ∧ w.1 ≠ w.2.1
structure WilOk (f : Fam) (w : Wil) : Prop where
  few : w.2.2.length ≤ 10
  gif : ∀ g ∈ w.2.2, GifL f g
theorem lg_le {a : Int} {k : Nat} (h : a.natAbs < 2 ^ k) : a.natAbs.log2 ≤ k := by
  by_cases h0 : a.natAbs = 0
  · rw [h0]; simp
  · exact Nat.le_of_lt ((Nat.log2_lt h0).mpr h)
theorem mulQ {a b : Int} {k m : Nat} (h : a.natAbs < 2 ^ k) (h2 : b.natAbs < 2 ^ m) (hk : k + m ≤ 8990) : i2 gMul (.int a) (.int b) = .ok (.int (a * b)) := by
  have h1 := lg_le h
  have h2 := lg_le h2
  exact i2_mul (by unfold BIGm; omega)
theorem gcd_lgQ {a b : Int} {k : Nat} (h : 0 < b) (hb : b.natAbs < 2 ^ k) (hk : k ≤ 8990) : 0 < ((Int.gcd a b : Nat) : Int) ∧ ((Int.gcd a b : Nat) : Int).natAbs.log2 < 9000 := by
  have h1 : 0 < Int.gcd a b := Int.gcd_pos_of_ne_zero_right a (by omega)
  have h2 : Int.gcd a b ≤ b.natAbs := Int.gcd_le_natAbs_right a (by omega)
  have h3 : ((Int.gcd a b : Nat) : Int).natAbs < 2 ^ k := by omega
  have := lg_le h3
  exact ⟨by omega, by omega⟩
theorem E_partQ {a b : Int} {k : Nat} (h : 0 < b) (hb : b.natAbs < 2 ^ k) (hk : k ≤ 8990) : F_part [.int a, .int b] = .ok (qD (lowQ a b)) := by
  unfold F_part S_part
  simp only [runD_ev]
  obtain ⟨g1, g2⟩ := gcd_lgQ (a := a) h hb hk
  simp [E_common a b h, i2_div g1 g2, qD, lowQ, paD]
theorem E_timesQ {p q : Qt} {k m : Nat} (hp : Bn k p) (hq : Bn m q) (hk : k + m ≤ 8990) : F_times [qD p, qD q] = .ok (qD (tmQ p q)) := by
  have h1 := mulQ hp.n hq.n hk
  have h2 := mulQ hp.d hq.d hk
  have h3 := E_partQ (a := p.1 * q.1) (Int.mul_pos hp.p hq.p) (mul_lt2 hp.d hq.d) hk
  unfold F_times S_times
  simp only [runD_ev]
  simp [qD, h1, h2] at h3 ⊢
  simp [h3, tmQ]
theorem E_lessQ {p q : Qt} {k m : Nat} (hp : Bn k p) (hq : Bn m q) (hk : k + m ≤ 8990) : F_less [qD p, qD q] = .ok (qD (lsQ p q)) := by
  have h1 := mulQ hp.n hq.d hk
  have h2 := mulQ hq.n hp.d (by omega)
  have h3 := mulQ hp.d hq.d hk
  have h4 := E_partQ (a := p.1 * q.2 - q.1 * p.2) (Int.mul_pos hp.p hq.p) (mul_lt2 hp.d hq.d) hk
  unfold F_less S_less
  simp only [runD_ev]
  simp [qD, h1, h2, h3] at h4 ⊢
  simp [h4, lsQ]
/-- a row that goes on from p, by a part -/
def trD (p : Int) (w : Qt) (r : RowP) : D := .tuple [.int r.1, qD (tmQ w (1, r.2.1)), .list ((p :: r.2.2).map .int)]
theorem rowD_q (r : RowP) : rowD r = .tuple [.int r.1, qD (1, r.2.1), .list (r.2.2.map .int)] := rfl
theorem E_aheadQ {i : Int} {w : Qt} {k : Nat} {R : List RowP} {j : Int} (hw : Bn k w) (hk : k ≤ 8800) (hR : RowsOk j R) : F_ahead_of [.int i, qD w, .list (R.map rowD)] = .ok (R.map (trD i w)) := by
  unfold F_ahead_of S_ahead_of
  simp only [runF_ev]
  have cmp := compF_map (vs := [3, 4, 5]) (fi := seqI (rD 2)) (g := gT 3 (gCons (gN 3) (gCons (gN 4) (gCons (gN 5) gNil)))) (ft := yesB) (fe := tupD (consA (vD 3) (consA (callD 2 F_times (consA (vD 1) (consA (vD 4) nilA))) (consA (valF (catF (valF (lstF (consA (vD 0) nilA))) (rD 5))) nilA)))) (δ := [.val (.int i), .val (qD w), .val (.list (R.map rowD)), .no, .no, .no]) R rowD (fun _ => true) (trD i w) (by simp) (by have := hR.len; omega) fun r hr => ⟨_, rfl, rfl, fun _ => by
    obtain ⟨h1, h2, h3, _⟩ := hR.row r hr
    have hs : szL (PyData.int i :: r.2.2.map PyData.int) = .ok (PyData.int i :: r.2.2.map PyData.int) := szL_ok (by rw [List.length_cons, List.length_map]; omega)
    have ht := E_timesQ hw (bn_row h1 h2) (by omega)
    have ht' : F_times [qD w, paD 1 r.2.1] = .ok (qD (tmQ w (1, r.2.1))) := ht
    simp [ht', hs, trD]⟩
  have hft : List.filter (fun _ : RowP => true) R = R := List.filter_eq_self.mpr fun _ _ => rfl
  rw [hft] at cmp
  simp [cmp]
theorem E_given {f : Fam} {t i : Int} {g : Gif} (ok : FamOk f) (hn : f.length ≤ 20) (hg : GifL f g) : F_given_to [famD f, .int i, giD g, .int t] = .ok ((givR f t i g).map grD) := by
  obtain ⟨p, hp⟩ := fam_lt hg.rg.1 hg.rg.2
  have hl := E_lives (t := t) hg.rg.1 hp
  unfold givR
  rw [aliveI_at hp]
  unfold F_given_to S_given_to
  simp only [runF_ev]
  by_cases ha : alive p t = true
  · rw [if_pos ha]
    simp [hl, ha, grD, qD]
  · rw [if_neg ha]
    have hR := shr_ok (t := t) (i := g.1) ok hn
    have hb := E_by_lines (t := t) (i := g.1) ok (by omega)
    generalize shr f t 36 g.1 (bel f t g.1) 1 = R at *
    have hA := E_aheadQ (i := i) hg.bn (by decide) hR
    have hA' : F_ahead_of [.int i, paD g.2.1 g.2.2, .list (R.map rowD)] = .ok (R.map (trD i (g.2.1, g.2.2))) := hA
    have cmp := compF_map (vs := [7, 8, 9]) (fi := seqI (rD 6)) (g := gT 3 (gCons (gN 7) (gCons (gN 8) (gCons (gN 9) gNil)))) (ft := yesB) (fe := tupD (consA (vD 7) (consA (vD 8) (consA (cD (.str "will")) (consA (vD 9) nilA))))) (δ := [.val (famD f), .val (.int i), .val (giD g), .val (.int t), .val (.int g.1), .val (paD g.2.1 g.2.2), .val (.list (R.map (trD i (g.2.1, g.2.2)))), .no, .no, .no]) R (trD i (g.2.1, g.2.2)) (fun _ => true) (fun r => grD (some r.1, tmQ (g.2.1, g.2.2) (1, r.2.1), "will", i :: r.2.2)) (by simp) (by have := hR.len; omega) fun r hr => ⟨_, rfl, rfl, fun _ => by simp [grD]⟩
    have hft : List.filter (fun _ : RowP => true) R = R := List.filter_eq_self.mpr fun _ _ => rfl
    rw [hft] at cmp
    simp [hl, ha, hb, hA', cmp]
/-- the will that counts: the last of the latest -/
def stepW (p t : Int) (acc : List Gif × Int) (w : Wil) : List Gif × Int := if w.1 = p ∧ acc.2 ≤ w.2.1 ∧ w.2.1 ≤ t then (w.2.2, w.2.1) else acc
def willOf (ls : List Wil) (p t : Int) : List Gif := (ls.foldl (stepW p t) ([], -1)).1
theorem will_loop {p t : Int} {s0 : Sl} : ∀ (ls : List Wil) (acc : List Gif × Int),
    loopL [5, 6, 7] (gT 3 (gCons (gN 5) (gCons (gN 6) (gCons (gN 7) gNil)))) B_will_on_0 (ls.map wiD) [s0, .val (.int p), .val (.int t), .val (.tuple (acc.1.map giD)), .val (.int acc.2), .no, .no, .no] =
      .nx [s0, .val (.int p), .val (.int t), .val (.tuple ((ls.foldl (stepW p t) acc).1.map giD)), .val (.int (ls.foldl (stepW p t) acc).2), .no, .no, .no]
  | [], acc => rfl
  | w :: ls, acc => by
    have key : turnE [5, 6, 7] (gT 3 (gCons (gN 5) (gCons (gN 6) (gCons (gN 7) gNil)))) B_will_on_0 (wiD w) [s0, .val (.int p), .val (.int t), .val (.tuple (acc.1.map giD)), .val (.int acc.2), .no, .no, .no] =
        .nx [s0, .val (.int p), .val (.int t), .val (.tuple ((stepW p t acc w).1.map giD)), .val (.int (stepW p t acc w).2), .no, .no, .no] := by
      unfold turnE B_will_on_0 stepW
      by_cases h1 : w.1 = p
      · by_cases h2 : acc.2 ≤ w.2.1
        · by_cases h3 : w.2.1 ≤ t <;> simp [h1, h2, h3]
        · simp [h1, h2]
      · simp [h1]
    rw [List.map_cons, loopL_nx key, will_loop ls (stepW p t acc w)]
    rfl
theorem E_will_on {f : Fam} {ws : List Wed} {ls : List Wil} {p t : Int} : F_will_on [rollD f ws ls, .int p, .int t] = .ok (.tuple ((willOf ls p t).map giD)) := by
  have r := will_loop (p := p) (t := t) (s0 := .val (rollD f ws ls)) ls ([], -1)
  unfold F_will_on S_will_on
  simp only [runD_ev]
  simp only [List.map_nil] at r
  simp [r, willOf]
theorem willOf_in {p t : Int} : ∀ (ls : List Wil) (acc : List Gif × Int), (ls.foldl (stepW p t) acc).1 = acc.1 ∨ ∃ w ∈ ls, (ls.foldl (stepW p t) acc).1 = w.2.2
  | [], acc => .inl rfl
  | w :: ls, acc => by
    rcases willOf_in ls (stepW p t acc w) with h | ⟨v, hv, h⟩
    · rw [List.foldl_cons, h]
      unfold stepW
      split
      · exact .inr ⟨w, List.mem_cons_self, rfl⟩
      · exact .inl rfl
    · exact .inr ⟨v, List.mem_cons_of_mem _ hv, h⟩
theorem willOf_ok {f : Fam} {ls : List Wil} (h : ∀ w ∈ ls, WilOk f w) (p t : Int) : (∀ g ∈ willOf ls p t, GifL f g) ∧ (willOf ls p t).length ≤ 10 := by
  unfold willOf
  rcases willOf_in (p := p) (t := t) ls ([], -1) with e | ⟨w, hw, e⟩
  · rw [e]; exact ⟨fun _ h => (nomatch h), by simp⟩
  · rw [e]; exact ⟨(h w hw).gif, (h w hw).few⟩
/-- whom p is married to by w on day t, alive -/
def mate (f : Fam) (p t : Int) (w : Wed) : Option Int :=
  if w.2.2 ≤ t then (if p = w.1 then (if (f[w.2.1.toNat]?).any (fun q => alive q t) = true then some w.2.1 else none) else if p = w.2.1 then (if (f[w.1.toNat]?).any (fun q => alive q t) = true then some w.1 else none) else none) else none
theorem spouse_loop {f : Fam} {p t : Int} {r3 r5 : D} {s0 : Sl} : ∀ {ws : List Wed}, (∀ w ∈ ws, WedOk f.length w) →
    loopL [6, 7, 8, 9] (gT 3 (gCons (gN 6) (gCons (gN 7) (gCons (gN 8) gNil)))) B_spouse_on_0 (ws.map weD) [s0, .val (.int p), .val (.int t), .val (famD f), .val r3, .val r5, .no, .no, .no, .no] = match (ws.filterMap (mate f p t)).head? with
      | some m => .rt (.int m)
      | none => .nx [s0, .val (.int p), .val (.int t), .val (famD f), .val r3, .val r5, .no, .no, .no, .no]
  | [], _ => rfl
  | w :: ws, h => by
    have ih := spouse_loop (f := f) (p := p) (t := t) (r3 := r3) (r5 := r5) (s0 := s0) (ws := ws) fun w hw => h w (List.mem_cons_of_mem _ hw)
    obtain ⟨⟨a0, a1⟩, ⟨b0, b1⟩, ab⟩ := h w List.mem_cons_self
    obtain ⟨x, hx⟩ := fam_lt a0 a1
    obtain ⟨y, hy⟩ := fam_lt b0 b1
    have key : turnE [6, 7, 8, 9] (gT 3 (gCons (gN 6) (gCons (gN 7) (gCons (gN 8) gNil)))) B_spouse_on_0 (weD w) [s0, .val (.int p), .val (.int t), .val (famD f), .val r3, .val r5, .no, .no, .no, .no] = match mate f p t w with
      | some m => .rt (.int m)
      | none => .nx [s0, .val (.int p), .val (.int t), .val (famD f), .val r3, .val r5, .no, .no, .no, .no] := by
      unfold turnE B_spouse_on_0 mate
      by_cases h1 : w.2.2 ≤ t
      · by_cases h2 : p = w.1
        · have e : w.1 + w.2.1 - p = w.2.1 := by omega
          have := E_lives (t := t) b0 hy
          cases h3 : alive y t <;> simp [h1, h2, hy, h3] <;> (rw [h2] at e; simp [e, this, h3])
        · by_cases h4 : p = w.2.1
          · have e : w.1 + w.2.1 - p = w.1 := by omega
            have := E_lives (t := t) a0 hx
            have h5 : ¬ w.2.1 = w.1 := fun z => ab z.symm
            cases h3 : alive x t <;> simp [h1, h4, hx, h3, h5] <;> (rw [h4] at e; simp [e, this, h3])
          · simp [h1, h2, h4]
      · simp [h1]
    rw [List.map_cons, List.filterMap_cons]
    cases hm : mate f p t w with
    | none => rw [hm] at key; rw [loopL_nx key, ih]
    | some m => rw [hm] at key; rw [loopL_rt key]; rfl
theorem E_spouse_on {f : Fam} {ws : List Wed} {ls : List Wil} {p t : Int} (h : ∀ w ∈ ws, WedOk f.length w) : F_spouse_on [rollD f ws ls, .int p, .int t] = .ok (oiD (ws.filterMap (mate f p t)).head?) := by
  have r := spouse_loop (f := f) (p := p) (t := t) (r3 := .list (ws.map weD)) (r5 := .list (ls.map wiD)) (s0 := .val (rollD f ws ls)) h
  unfold F_spouse_on S_spouse_on
  simp only [runD_ev]
  cases hm : (ws.filterMap (mate f p t)).head? with
  | none => rw [hm] at r; simp [r]
  | some m => rw [hm] at r; simp [r]
theorem gNe_pw (ps : List (Int × List Int)) : gNe (.list (ps.map pwD)) (.list []) = .ok (!decide (ps = [])) := by
  refine gNe_of (n := 3) (m := 1) ?_ (by decide) rfl (by decide) (by simp)
  show DL.plainA 2 (ps.map pwD) = true
  rw [plainA_iff]
  intro d hd
  obtain ⟨p, _, rfl⟩ := List.mem_map.mp hd
  have h : DL.plainA 0 (p.2.map PyData.int) = true := plain_ints 0 _
  simp [pwD, encL, DL.plain, plainA, h]
def kinH0 (f : Fam) (t i : Int) (ps : List (Int × List Int)) : Str := if shr f t 36 i (bel f t i) 1 = [] then (if bpr f t i = [] then (if ps = [] then "" else "degree") else "parents") else "line"
theorem E_kin_of {f : Fam} {t i : Int} {ps : List (Int × List Int)} (ok : FamOk f) (hn : f.length ≤ 20) (h0 : 0 ≤ i) (h1 : i < f.length) (hps : F_nearest [famD f, .int i, .int t] = .ok (.list (ps.map pwD))) (hl : ps.length ≤ f.length) :
    F_kin_of [famD f, .int i, .int t] = .ok (.tuple [.list ((kinR f t i ps).map rowD), .str (kinH0 f t i ps), qD (kinB f t i ps)]) := by
  have hb := E_by_lines (t := t) (i := i) ok (show f.length ≤ 24 by omega)
  have hp := E_by_parents (t := t) (i := i) ok (show f.length ≤ 24 by omega) h0 h1
  have n1 := gNe_rows0 (shr f t 36 i (bel f t i) 1)
  have n2 := gNe_rows0 (bpr f t i)
  have n3 := gNe_pw ps
  unfold kinR kinH0 kinB
  generalize shr f t 36 i (bel f t i) 1 = L at *
  generalize bpr f t i = P at *
  unfold F_kin_of S_kin_of
  simp only [runD_ev]
  by_cases c1 : L = []
  · subst c1
    by_cases c2 : P = []
    · subst c2
      by_cases c3 : ps = []
      · subst c3
        have hps' : F_nearest [famD f, .int i, .int t] = .ok (.list []) := hps
        simp [hb, hp, hps', qD, paD]
      · have hlen : 0 < ps.length := List.length_pos_iff.mpr c3
        have hsh := E_shared ((ps.length : Nat) : Int) (by omega) (by have : (20 : Int) < 2 ^ 190 := by decide
                                                                      omega)
        have hsh' : F_shared [.tuple [.int 1, .int 1], .int (ps.length : Nat)] = .ok (paD 1 (ps.length : Nat)) := hsh
        rw [decide_eq_false c3] at n3
        have cmp := compF_map (vs := [6, 7]) (fi := seqI (rD 4)) (g := gT 2 (gCons (gN 6) (gCons (gN 7) gNil))) (ft := yesB) (fe := tupD (consA (vD 6) (consA (vD 5) (consA (vD 7) nilA)))) (δ := [.val (famD f), .val (.int i), .val (.int t), .val (.list []), .val (.list (ps.map pwD)), .val (paD 1 (ps.length : Nat)), .no, .no]) ps pwD (fun _ => true) (fun p => rowD (p.1, ((ps.length : Nat) : Int), p.2)) (by simp) (by omega) fun r hr => ⟨_, rfl, rfl, fun _ => by simp [rowD, encL]⟩
        have hft : List.filter (fun _ : Int × List Int => true) ps = ps := List.filter_eq_self.mpr fun _ _ => rfl
        rw [hft] at cmp
        have hln : (ps.map pwD).length = ps.length := List.length_map ..
        have hmm : (ps.map fun p => ((p.1, ((ps.length : Nat) : Int), p.2) : RowP)).map rowD = ps.map fun p => rowD (p.1, ((ps.length : Nat) : Int), p.2) := by rw [List.map_map]; rfl
        rw [if_pos rfl, if_pos rfl, if_pos rfl, if_pos rfl, if_neg c3, if_pos rfl, if_pos rfl, if_neg c3, hmm]
        generalize (ps.map fun p => rowD (p.1, ((ps.length : Nat) : Int), p.2)) = M at *
        generalize ps.map pwD = Z at *
        unfold paD at cmp hsh'
        simp [hb, hp, hps, n3, hsh', hln, cmp, qD, paD]
    · rw [decide_eq_false c2] at n2
      rw [if_pos rfl, if_neg c2, if_pos rfl, if_neg c2, if_pos rfl, if_neg c2]
      generalize P.map rowD = M at *
      simp [hb, hp, n2, qD, paD]
  · rw [decide_eq_false c1] at n1
    rw [if_neg c1, if_neg c1, if_neg c1]
    generalize L.map rowD = M at *
    simp [hb, n1, qD, paD]
theorem rest_loop {R : List RowP} {s0 s1 s3 s4 s5 s7 s8 : Sl} {rest : Qt} {h : Str} {i : Int} {k : Nat} (hb : Bn k rest) (hk : k ≤ 8800) (hR : RowsOk i R) (acc : List GRow) (hl : acc.length + R.length ≤ 16777216) :
    loopL [10, 11, 12] (gT 3 (gCons (gN 10) (gCons (gN 11) (gCons (gN 12) gNil)))) B_rest_rows_0 (R.map rowD) [s0, s1, .val (qD rest), s3, s4, s5, .val (.str h), s7, s8, .own (acc.map grD), .no, .no, .no] = .nx [s0, s1, .val (qD rest), s3, s4, s5, .val (.str h), s7, s8, .own ((acc ++ resR rest h R).map grD), .no, .no, .no] := by
  have r := loopL_at (is := [10, 11, 12]) (g := gT 3 (gCons (gN 10) (gCons (gN 11) (gCons (gN 12) gNil)))) (fb := B_rest_rows_0) (ds := R.map rowD) (fun z => [s0, s1, .val (qD rest), s3, s4, s5, .val (.str h), s7, s8, .own ((acc ++ resR rest h (R.take z)).map grD), .no, .no, .no]) (by
    intro z d hd
    rw [List.getElem?_map] at hd
    cases hr : R[z]? with
    | none => rw [hr] at hd; cases hd
    | some r =>
      rw [hr] at hd; cases hd
      obtain ⟨h1, h2, h3, _⟩ := hR.row r (List.mem_of_getElem? hr)
      have hz := (List.getElem?_eq_some_iff.mp hr).1
      have ht : F_times [qD rest, paD 1 r.2.1] = .ok (qD (tmQ rest (1, r.2.1))) := E_timesQ hb (bn_row h1 h2) (by omega)
      have e1 : acc ++ resR rest h (R.take (z + 1)) = (acc ++ resR rest h (R.take z)) ++ [(some r.1, tmQ rest (1, r.2.1), h, r.2.2)] := by
        rw [List.take_add_one, hr]; simp [resR]
      have hpre : (acc ++ resR rest h (R.take z)).length < 16777216 := by
        rw [List.length_append]; unfold resR; rw [List.length_map, List.length_take]; omega
      rw [e1]
      generalize acc ++ resR rest h (R.take z) = Z at *
      unfold turnE B_rest_rows_0
      simp [ht, hpre, rowD, grD]) (δ := [s0, s1, .val (qD rest), s3, s4, s5, .val (.str h), s7, s8, .own (acc.map grD), .no, .no, .no]) (by simp [resR])
  rw [List.length_map, List.take_length] at r
  exact r
theorem plain_gr (n : Nat) (r : GRow) (hw : PyData.strOk r.2.2.1 = true) : DL.plain (n + 2) (grD r) = true := by
  have h : plainA n (r.2.2.2.map PyData.int) = true := plain_ints n _
  have h2 := plain_oi (n + 1) r.1
  simp [grD, qD, paD, DL.plain, plainA, h, h2, hw]
theorem plain_grs {R : List GRow} (hR : ∀ r ∈ R, PyData.strOk r.2.2.1 = true) : DL.plain 3 (.list (R.map grD)) = true := by
  show DL.plainA 2 (R.map grD) = true
  rw [plainA_iff]
  intro d hd
  obtain ⟨r, hr, rfl⟩ := List.mem_map.mp hd
  exact plain_gr 0 r (hR r hr)
theorem gNe_gr0 {R : List GRow} (hR : ∀ r ∈ R, PyData.strOk r.2.2.1 = true) : gNe (.list (R.map grD)) (.list []) = .ok (!decide (R = [])) :=
  gNe_of (n := 3) (m := 1) (plain_grs hR) (by decide) rfl (by decide) (by simp)
theorem gEq_rows0 (R : List RowP) : gEq (.list (R.map rowD)) (.list []) = .ok (decide (R = [])) :=
  gEq_of (n := 3) (m := 1) (plain_rows R) (by decide) rfl (by decide) (by simp)
theorem gNe_q (p q : Qt) : gNe (qD p) (qD q) = .ok (!decide (p = q)) :=
  gNe_of (n := 1) (m := 1) (p := p = q) rfl (by decide) rfl (by decide) (by simpa using qD_inj (p := p) (q := q))
theorem kinH_eq {f : Fam} {t i : Int} {ps : List (Int × List Int)} (h : kinR f t i ps ≠ []) : kinH0 f t i ps = kinH f t i := by
  unfold kinR at h
  unfold kinH0 kinH
  split
  · rename_i c1
    rw [if_pos c1] at h
    split
    · rename_i c2
      rw [if_pos c2] at h
      split
      · rename_i c3; subst c3; simp at h
      · rfl
    · rfl
  · rfl
abbrev mateOf (f : Fam) (ws : List Wed) (t i : Int) : Option Int := (ws.filterMap (mate f i t)).head?
theorem E_rest {f : Fam} {ws : List Wed} {ls : List Wil} {t i : Int} {ps : List (Int × List Int)} {rest : Qt} {k : Nat} (ok : FamOk f) (hn : f.length ≤ 20) (h0 : 0 ≤ i) (h1 : i < f.length) (hps : F_nearest [famD f, .int i, .int t] = .ok (.list (ps.map pwD))) (hps2 : ∀ p ∈ ps, (∃ l, p.2 = i :: l) ∧ p.2.length ≤ 900) (hl : ps.length ≤ f.length)
    (hw : ∀ w ∈ ws, WedOk f.length w) (hb : Bn k rest) (hk : k ≤ 3000) :
    F_rest_rows [rollD f ws ls, .int i, qD rest, .int t] = .ok ((rsR i (mateOf f ws t i) rest (kinR f t i ps) (kinH f t i) (kinB f t i ps)).map grD) := by
  have hkin := E_kin_of ok hn h0 h1 hps hl
  have hsp := E_spouse_on (f := f) (ws := ws) (ls := ls) (p := i) (t := t) hw
  have hR := kinR_ok (t := t) ok hn h0 h1 hps2 hl
  have hB := kinB_bn f t i ps
  have hE := gEq_rows0 (kinR f t i ps)
  have hH := kinH_eq (f := f) (t := t) (i := i) (ps := ps)
  generalize hbq : kinB f t i ps = b at *
  generalize kinR f t i ps = R at *
  generalize kinH0 f t i ps = H0 at *
  generalize kinH f t i = H1 at *
  have hm : mateOf f ws t i = (ws.filterMap (mate f i t)).head? := rfl
  rw [hm]
  generalize (ws.filterMap (mate f i t)).head? = M at *
  generalize hRo : rollD f ws ls = RO at *
  have hro : gIx RO (.int 0) = .ok (famD f) := by rw [← hRo]; simp
  have res0 : ∀ (q : Qt), R = [] → resR q H0 R = resR q H1 R := fun q e => by subst e; rfl
  have res1 : ∀ (q : Qt), resR q H0 R = resR q H1 R := fun q => by
    by_cases e : R = []
    · exact res0 q e
    · rw [hH e]
  have ht1 := E_timesQ hb hB (by omega)
  have hl1 := E_lessQ hb (tmQ_bn hb hB) (by omega)
  have hbn := lsQ_bn hb (tmQ_bn hb hB)
  have len := hR.len
  unfold F_rest_rows S_rest_rows
  simp only [runF_ev]
  cases M with
  | none =>
    by_cases e : R = []
    · subst e
      simp [hro, hkin, hsp, rsR, grD]
    · rw [decide_eq_false e] at hE
      have r := fun s0 s1 s3 s4 s5 s7 s8 => rest_loop (s0 := s0) (s1 := s1) (s3 := s3) (s4 := s4) (s5 := s5) (s7 := s7) (s8 := s8) (h := H0) hb (by omega) hR [] (by simp; omega)
      simp only [List.map_nil, List.nil_append, res1] at r
      show _ = Res.ok (List.map grD (if R = [] then _ else resR rest H1 R))
      rw [if_neg e]
      generalize R.map rowD = RD at *
      simp [hro, hkin, hsp, hE, r]
  | some m =>
    have r := fun s0 s1 s3 s4 s5 s7 s8 => rest_loop (s0 := s0) (s1 := s1) (s3 := s3) (s4 := s4) (s5 := s5) (s7 := s7) (s8 := s8) (h := H0) hbn (by omega) hR [(some m, tmQ rest b, "spouse", [i, m])] (by simp; omega)
    simp only [List.map_cons, List.map_nil, List.singleton_append, res1] at r
    show _ = Res.ok (List.map grD ((some m, tmQ rest b, "spouse", [i, m]) :: resR (lsQ rest (tmQ rest b)) H1 R))
    have hg : grD (some m, tmQ rest b, "spouse", [i, m]) = .tuple [.int m, qD (tmQ rest b), .str "spouse", .list [.int i, .int m]] := rfl
    rw [hg] at r
    generalize hRD : R.map rowD = RD at *
    simp [hro, hkin, hsp, ht1, hl1, r]
    exact hg.symm
theorem fold_take (f : Fam) (t i : Int) {gs : List Gif} {z : Nat} {g : Gif} (h : gs[z]? = some g) (a : List GRow × Qt) : (gs.take (z + 1)).foldl (stG f t i) a = stG f t i ((gs.take z).foldl (stG f t i) a) g := by
  rw [List.take_add_one, h, List.foldl_append]; rfl
theorem E_dealt8 {f : Fam} {ws : List Wed} {ls : List Wil} {t i : Int} {p : Per} {ps : List (Int × List Int)} (ok : FamOk f) (hn : f.length ≤ 20) (h0 : 0 ≤ i) (h1 : i < f.length) (hp : f[i.toNat]? = some p) (hd : p.died = some t) (hps : F_nearest [famD f, .int i, .int t] = .ok (.list (ps.map pwD))) (hps2 : ∀ p ∈ ps, (∃ l, p.2 = i :: l) ∧ p.2.length ≤ 900) (hl : ps.length ≤ f.length)
    (hw : ∀ w ∈ ws, WedOk f.length w) (hs : ∀ w ∈ ls, WilOk f w) :
    F_dealt [rollD f ws ls, .int i] = .ok ((delR f t i (willOf ls i t) (mateOf f ws t i) ps).map grD) := by
  have hwo := willOf_ok hs i t
  have hwill := E_will_on (f := f) (ws := ws) (ls := ls) (p := i) (t := t)
  have hro : gIx (rollD f ws ls) (.int 0) = .ok (famD f) := by simp
  have hdy : gIx (perD p) (.int 3) = .ok (.int t) := by simp [hd]
  have hfi : gIx (famD f) (.int i) = .ok (perD p) := by simp [fam_at h0 hp]
  have hres := fun k (rest : Qt) (hb : Bn k rest) (hk : k ≤ 3000) => E_rest (f := f) (ws := ws) (ls := ls) (t := t) (i := i) (ps := ps) ok hn h0 h1 hps hps2 hl hw hb hk
  have hRl := fun q {w : Str} (hw : PyData.strOk w = true) b => rsR_ok (kinR_ok (t := t) ok hn h0 h1 hps2 hl) (mateOf f ws t i) q hw b
  generalize willOf ls i t = gs at *
  generalize mateOf f ws t i = M at *
  generalize rollD f ws ls = RO at *
  have hacc := fun z => foldG_ok (t := t) ok hn (gs.take z) 0 _ (acc0 i) fun g hg => hwo.1 g (List.mem_of_mem_take hg)
  have r := loopL_at (is := [5, 6]) (g := gN 5) (fb := B_dealt_0) (ds := gs.map giD) (fun z => [.val RO, .val (.int i), .val (.int t), .own (((gs.take z).foldl (stG f t i) ([], (1, 1))).1.map grD), .val (qD ((gs.take z).foldl (stG f t i) ([], (1, 1))).2), .no, .no]) (by
    intro z d hd
    rw [List.getElem?_map] at hd
    cases hg : gs[z]? with
    | none => rw [hg] at hd; cases hd
    | some g =>
      rw [hg] at hd; cases hd
      have hgl := hwo.1 g (List.mem_of_getElem? hg)
      have hz := (List.getElem?_eq_some_iff.mp hg).1
      have ha := hacc z
      have htl : (gs.take z).length ≤ 9 := by rw [List.length_take]; have := hwo.2; omega
      have hgv := E_given (t := t) (i := i) ok hn hgl
      have hgl2 := (givR_ok (t := t) (i := i) ok hn g).2
      have hne := gNe_gr0 (R := givR f t i g) fun r hr => ((givR_ok (t := t) (i := i) ok hn g).1 r hr).how
      have hle := E_lessQ ha.bn hgl.bn (by omega)
      have hle' : F_less [qD ((gs.take z).foldl (stG f t i) ([], (1, 1))).2, paD g.2.1 g.2.2] = .ok (qD (lsQ ((gs.take z).foldl (stG f t i) ([], (1, 1))).2 (g.2.1, g.2.2))) := hle
      have hlen := ha.len
      rw [fold_take f t i hg]
      generalize (gs.take z).foldl (stG f t i) ([], (1, 1)) = acc at *
      unfold stG
      generalize givR f t i g = V at *
      unfold turnE B_dealt_0
      by_cases e : V = []
      · rw [if_pos e]
        subst e
        simp [hro, hgv]
      · rw [if_neg e]
        rw [decide_eq_false e] at hne
        have hsz : acc.1.length + V.length ≤ 16777216 := by omega
        have hlm : (V.map grD).length = V.length := List.length_map ..
        simp only [List.map_append]
        generalize V.map grD = VD at *
        simp [hro, hgv, hne, hle', hlm, hsz]) (δ := [.val RO, .val (.int i), .val (.int t), .own [], .val (qD (1, 1)), .no, .no]) (by simp)
  rw [List.length_map, List.take_length] at r
  have hac := hacc gs.length
  rw [List.take_length] at hac
  have hneq := gNe_q (gs.foldl (stG f t i) ([], (1, 1))).2 (0, 1)
  have hgl10 := hwo.2
  have hre := hres _ _ hac.bn (by omega)
  have hrl := (hRl (gs.foldl (stG f t i) ([], (1, 1))).2 (kinH_ok f t i) (kinB f t i ps)).2
  have hlen := hac.len
  have h11 : qD (1, 1) = .tuple [.int 1, .int 1] := rfl
  have h01 : qD (0, 1) = .tuple [.int 0, .int 1] := rfl
  rw [h11] at r
  rw [h01] at hneq
  unfold delR
  dsimp only
  generalize gs.foldl (stG f t i) ([], (1, 1)) = acc at *
  generalize rsR i M acc.2 (kinR f t i ps) (kinH f t i) (kinB f t i ps) = V at *
  unfold F_dealt S_dealt
  simp only [runF_ev]
  by_cases e : acc.2 = (0, 1)
  · rw [if_pos e]
    rw [decide_eq_true e] at hneq
    simp [hro, hfi, hdy, hwill, r, hneq]
  · rw [if_neg e]
    rw [decide_eq_false e] at hneq
    have hsz : acc.1.length + V.length ≤ 16777216 := by omega
    have hlm : (V.map grD).length = V.length := List.length_map ..
    simp only [List.map_append]
    generalize V.map grD = VD at *
    simp [hro, hfi, hdy, hwill, r, hneq, hre, hlm, hsz]
end K14
namespace K14
open PySem PySem.Spec PyProof.Rows L2 DL
variable [TabP]
theorem E_is_whole (i : Int) : F_is_whole [.int i] = .ok (.bool true) := by
  unfold F_is_whole S_is_whole
  simp only [runD_ev]
  simp
theorem E_need_people {f : Fam} {is : List Int} (h : ∀ i ∈ is, 0 ≤ i ∧ i < f.length) : F_need_people [famD f, .list (is.map .int)] = .ok .none := by
  have hl : gLen (famD f) = .ok (.int f.length) := by unfold famD; simp [gLen]
  have r := loopL_at (is := [2]) (g := gN 2) (fb := B_need_people_0) (ds := is.map PyData.int) (fun _ => [.val (famD f), .val (.list (is.map .int)), .no]) (by
    intro k d hd
    rw [List.getElem?_map] at hd
    cases hi : is[k]? with
    | none => rw [hi] at hd; cases hd
    | some i =>
      rw [hi] at hd; cases hd
      have := h i (List.mem_of_getElem? hi)
      unfold turnE B_need_people_0
      simp [E_is_whole, hl, this.1, this.2]) (δ := [.val (famD f), .val (.list (is.map .int)), .no]) rfl
  unfold F_need_people S_need_people
  simp only [runD_ev]
  simp [r]
theorem E_need_day {d : Int} (h0 : 0 ≤ d) (h1 : d ≤ 100000) : F_need_day [.int d] = .ok .none := by
  unfold F_need_day S_need_day
  simp only [runD_ev]
  simp [E_is_whole, h0, h1]
theorem E_need_parents {f : Fam} {ps : List Int} {d : Int} (hl : ps.length ≤ 1) (h : ∀ i ∈ ps, 0 ≤ i ∧ ∃ p, f[i.toNat]? = some p ∧ p.born < d) : F_need_parents [famD f, .list (ps.map .int), .int d] = .ok .none := by
  have r := loopL_at (is := [3]) (g := gN 3) (fb := B_need_parents_0) (ds := ps.map PyData.int) (fun _ => [.val (famD f), .val (.list (ps.map .int)), .val (.int d), .no]) (by
    intro k e hd
    rw [List.getElem?_map] at hd
    cases hi : ps[k]? with
    | none => rw [hi] at hd; cases hd
    | some i =>
      rw [hi] at hd; cases hd
      obtain ⟨h0, p, hp, hb⟩ := h i (List.mem_of_getElem? hi)
      have hn : ¬ d ≤ p.born := by omega
      unfold turnE B_need_parents_0
      simp [fam_at h0 hp, hn]) (δ := [.val (famD f), .val (.list (ps.map .int)), .val (.int d), .no]) rfl
  have n1 : ¬ ((2 : Int) < (ps.length : Nat)) := by omega
  have n2 : ¬ (((ps.length : Nat) : Int) = 2) := by omega
  unfold F_need_parents S_need_parents
  simp only [runD_ev]
  simp [n1, n2, r]
theorem E_need_birth {f : Fam} {ps : List Int} {d : Int} (hn : f.length < 60) (h0 : 0 ≤ d) (h1 : d ≤ 100000) (hl : ps.length ≤ 1) (h : ∀ i ∈ ps, 0 ≤ i ∧ ∃ p, f[i.toNat]? = some p ∧ p.born < d) : F_need_birth [famD f, .int d, .list (ps.map .int)] = .ok .none := by
  have hl2 : gLen (famD f) = .ok (.int f.length) := by unfold famD; simp [gLen]
  have k1 := E_need_people (f := f) (is := ps) fun i hi => by
    obtain ⟨z, p, hp, _⟩ := h i hi
    have := (List.getElem?_eq_some_iff.mp hp).1
    exact ⟨z, by omega⟩
  have k2 := E_need_day h0 h1
  have k3 := E_need_parents hl h
  have n1 : ¬ ((60 : Int) ≤ (f.length : Nat)) := by omega
  unfold F_need_birth S_need_birth
  simp only [runD_ev]
  simp [k1, k2, k3, hl2, n1]
theorem E_need_death {f : Fam} {i d : Int} {p : Per} (h0 : 0 ≤ d) (h1 : d ≤ 100000) (hi : 0 ≤ i) (hp : f[i.toNat]? = some p) (hd : p.died = none) (hb : p.born ≤ d) (ha : ∀ a, p.ad = some a → a.1 < d) : F_need_death [rollD f [] [], .int i, .int d] = .ok .none := by
  have hlt := (List.getElem?_eq_some_iff.mp hp).1
  have k1 := E_need_people (f := f) (is := [i]) fun j hj => by rw [List.mem_singleton] at hj; subst hj; exact ⟨hi, by omega⟩
  have k1' : F_need_people [famD f, .list [.int i]] = .ok .none := k1
  have k2 := E_need_day h0 h1
  have c1 : ∀ s0 s3 s4 s6 s7 s8 s9 s10 s11, compF [12] (seqI (rD 5)) (gN 12) (andB (eqB (ixD (rD 12) (cD (.int 0))) (rD 1)) (gtB (ixD (rD 12) (cD (.int 1))) (rD 2))) (vD 12) [s0, .val (.int i), .val (.int d), s3, s4, .val (.list []), s6, s7, s8, s9, s10, s11, .no] = .ok [] := fun _ _ _ _ _ _ _ _ _ => rfl
  have c2 : ∀ s0 s3 s5 s6 s7 s8 s9 s10 s11, compF [12] (seqI (rD 4)) (gN 12) (andB (inB (rD 1) (slT (rD 12) noO (someO (cD (.int 2))))) (geB (ixD (rD 12) (cD (.int 2))) (rD 2))) (vD 12) [s0, .val (.int i), .val (.int d), s3, .val (.list []), s5, s6, s7, s8, s9, s10, s11, .no] = .ok [] := fun _ _ _ _ _ _ _ _ _ => rfl
  have nb : ¬ d < p.born := by omega
  unfold F_need_death S_need_death
  simp only [runD_ev]
  cases hA : p.ad with
  | none => simp [k1', k2, c1, c2, fam_at hi hp, hd, hA, nb]
  | some a =>
    have na : ¬ d ≤ a.1 := by have := ha a hA; omega
    have ga : gIx (adD (some a)) (.int 0) = .ok (.int a.1) := by unfold adD; simp
    simp [k1', k2, c1, c2, fam_at hi hp, hd, hA, nb, na, ga]
theorem E_need_adoption {f : Fam} {i d q : Int} {p pq : Per} (h0 : 0 ≤ d) (h1 : d ≤ 100000) (hi : 0 ≤ i) (hp : f[i.toNat]? = some p) (hq0 : 0 ≤ q) (hq : f[q.toNat]? = some pq) (hd : p.died = none) (hb : p.born ≤ d) (ha : p.ad = none) (hpq : pq.born < p.born) : F_need_adoption [famD f, .int i, .int d, .list [.int q]] = .ok .none := by
  have hlt := (List.getElem?_eq_some_iff.mp hp).1
  have hlq := (List.getElem?_eq_some_iff.mp hq).1
  have k1 := E_need_people (f := f) (is := [i, q]) fun j hj => by
    simp only [List.mem_cons, List.not_mem_nil, or_false] at hj
    rcases hj with rfl | rfl
    · exact ⟨hi, by omega⟩
    · exact ⟨hq0, by omega⟩
  have k1' : F_need_people [famD f, .list [.int i, .int q]] = .ok .none := k1
  have k2 := E_need_day h0 h1
  have k3 := E_need_parents (f := f) (ps := [q]) (d := p.born) (by simp) fun j hj => by rw [List.mem_singleton] at hj; subst hj; exact ⟨hq0, pq, hq, hpq⟩
  have k3' : F_need_parents [famD f, .list [.int q], .int p.born] = .ok .none := k3
  have nb : ¬ d < p.born := by omega
  have ne : gEq (.list [.int q]) (.list []) = .ok false := by
    have := gEq_of (n := 1) (m := 1) (p := False) (d := .list [.int q]) (e := .list []) rfl (by decide) rfl (by decide) (by simp)
    simpa using this
  unfold F_need_adoption S_need_adoption
  simp only [runD_ev]
  simp [k1', k2, k3', fam_at hi hp, hd, ha, nb, ne, szL_ok]
end K14
namespace K14
open PySem PySem.Spec PyProof.Rows L2 DL
variable [TabP]
def dth (f : Fam) (j : Int) : Bool := (f[j.toNat]?).any fun p => p.died.isSome
def dthL (f : Fam) : List Int := (rgI f.length).filter (dth f)
theorem mem_dthL {f : Fam} {j : Int} : j ∈ dthL f ↔ (0 ≤ j ∧ j < f.length) ∧ dth f j = true := by
  unfold dthL; rw [List.mem_filter, mem_rgI]
theorem dthL_nodup (f : Fam) : (dthL f).Nodup := List.Pairwise.filter _ (rgI_nodup _)
theorem dthL_len (f : Fam) : (dthL f).length ≤ f.length := by
  have := List.length_filter_le (dth f) (rgI f.length)
  rw [rgI_len] at this; exact this
theorem rgI_sorted (n : Nat) : (rgI n).Pairwise (· ≤ ·) := by
  unfold rgI
  rw [List.pairwise_map]
  exact List.Pairwise.imp (fun {a b} h => by omega) (List.pairwise_lt_range (n := n))
theorem dthL_sorted (f : Fam) : (dthL f).Pairwise (· ≤ ·) := List.Pairwise.filter _ (rgI_sorted _)
theorem gSort_dthL (f : Fam) : gSort (.list ((dthL f).map PyData.int)) = .ok ((dthL f).map PyData.int) := by
  have : sortL (dthL f) = dthL f := sorted_unique (sortL_perm _) (sortL_sorted _) (dthL_sorted f)
  unfold gSort
  simp only [intsOf_int]
  rw [ofO_some, Res.bind_ok, this]
/-- a family that a book may hold here -/
structure FOk (f : Fam) : Prop where
  fam : FamOk f
  few : f.length ≤ 20
/-- the rows by which the estate of i is dealt -/
def rwL (f : Fam) (i : Int) : List D := match F_dealt [rollD f [] [], .int i] with
  | .ok ds => ds
  | _ => []
def rwD (f : Fam) (i : Int) : D := .list (rwL f i)
theorem E_rows {f : Fam} {i : Int} (h : FOk f) (hi : i ∈ dthL f) : F_dealt [rollD f [] [], .int i] = .ok (rwL f i) ∧ ∃ R : List GRow, rwL f i = R.map grD ∧ (∀ r ∈ R, GRowOk i r) ∧ R.length ≤ 12000000 := by
  obtain ⟨⟨h0, h1⟩, hd⟩ := mem_dthL.mp hi
  obtain ⟨p, hp⟩ := fam_lt (f := f) h0 h1
  have hlen := h.few
  unfold dth at hd
  rw [hp] at hd
  cases e : p.died with
  | none => simp [e] at hd
  | some t =>
    obtain ⟨ps, hps, hok⟩ := E_nearest (t := t) h.fam (by omega) h0 h1
    have hx := E_dealt8 (ws := []) (ls := []) h.fam h.few h0 h1 hp e hps hok.way hok.len (fun _ z => nomatch z) (fun _ z => nomatch z)
    have hwo := willOf_ok (f := f) (ls := []) (fun _ z => nomatch z) i t
    obtain ⟨k1, k2⟩ := delR_ok (mate := mateOf f [] t i) h.fam h.few h0 h1 hwo.1 hwo.2 hok.way hok.len
    have e2 : rwL f i = (delR f t i (willOf [] i t) (mateOf f [] t i) ps).map grD := by unfold rwL; rw [hx]
    exact ⟨by rw [hx, e2], _, e2, k1, k2⟩
theorem rw_dealt {f : Fam} {i : Int} (h : FOk f) (hi : i ∈ dthL f) : F_dealt [rollD f [] [], .int i] = .ok (rwL f i) := (E_rows h hi).1
theorem rw_plain {f : Fam} {i : Int} (h : FOk f) (hi : i ∈ dthL f) : plain 3 (rwD f i) = true := by
  obtain ⟨_, R, e, k, _⟩ := E_rows h hi
  unfold rwD
  rw [e]
  exact plain_grs fun r hr => (k r hr).how
open Classical in
noncomputable def sameB (d e : D) : Bool := decide (d = e)
open Classical in
theorem sameB_comm (d e : D) : sameB d e = sameB e d := by
  unfold sameB
  by_cases h : d = e
  · rw [decide_eq_true h, decide_eq_true h.symm]
  · rw [decide_eq_false h, decide_eq_false (fun z => h z.symm)]
open Classical in
theorem gNe_pl {d e : D} {n m : Nat} (h : plain n d = true) (hn : n ≤ 64) (k : plain m e = true) (hm : m ≤ 64) : gNe d e = .ok (!sameB d e) := gNe_of h hn k hm Iff.rfl
theorem E_bdead {f : Fam} {ma wi ot : List D} {de : List (D × D)} (hn : f.length ≤ 1000) : F_Book_dead ⟨f.map perD, ma, wi, de, ot⟩ [] = .ok ((dthL f).map PyData.int) := by
  have hr := gR1_ok (n := (f.length : Int)) (by omega) (by omega)
  rw [Int.toNat_natCast] at hr
  have ef : (PyData.list (f.map perD)) = famD f := rfl
  have cmp := compF_map (vs := [1]) (fi := rngI (lenD (fldR 0 .pe))) (g := gN 1) (ft := notNB (ixD (ixD (fldR 0 .pe) (rD 1)) (cD (.int 3)))) (fe := vD 1) (δ := [.bk true false ⟨f.map perD, ma, wi, de, ot⟩, .no]) (rgI f.length) PyData.int (dth f) PyData.int (by
    simp [ef]
    exact hr) (by rw [rgI_len]; omega) fun j hj => by
      obtain ⟨j0, j1⟩ := mem_rgI.mp hj
      obtain ⟨p, hp⟩ := fam_lt (f := f) j0 (by omega)
      refine ⟨_, rfl, ?_, fun _ => by simp⟩
      unfold dth
      cases hd : p.died <;> simp [ef, fam_at j0 hp, hp, hd]
  have s0 : startM 2 ⟨f.map perD, ma, wi, de, ot⟩ [] = [.bk true false ⟨f.map perD, ma, wi, de, ot⟩, .no] := rfl
  unfold F_Book_dead S_Book_dead
  rw [runQF_ev, s0]
  simp [cmp]
  rfl
theorem E_broll {f : Fam} {ot : List D} {de : List (D × D)} : F_Book_roll ⟨f.map perD, [], [], de, ot⟩ [] = .ok (rollD f [] []) := by
  have s0 : startM 1 ⟨f.map perD, [], [], de, ot⟩ [] = [.bk true false ⟨f.map perD, [], [], de, ot⟩] := rfl
  unfold F_Book_roll S_Book_roll
  rw [runQ_ev, s0]
  simp [gList]
  rfl
theorem E_banew {f : Fam} {ot : List D} {de : List (D × D)} : F_Book_anew ⟨f.map perD, [], [], de, ot⟩ [] = .ok ot := by
  have s0 : startM 1 ⟨f.map perD, [], [], de, ot⟩ [] = [.bk true false ⟨f.map perD, [], [], de, ot⟩] := rfl
  unfold F_Book_anew S_Book_anew
  rw [runQF_ev, s0]
  simp [gList]
theorem E_copied {i : Int} {R : List GRow} (hR : ∀ r ∈ R, GRowOk i r) (hl : R.length ≤ 12000000) : F_copied [.list (R.map grD)] = .ok (R.map grD) := by
  have cmp := compF_map (vs := [1, 2, 3, 4]) (fi := seqI (rD 0)) (g := gT 4 (gCons (gN 1) (gCons (gN 2) (gCons (gN 3) (gCons (gN 4) gNil))))) (ft := yesB) (fe := tupD (consA (vD 1) (consA (vD 2) (consA (vD 3) (consA (valF (listF (rD 4))) nilA))))) (δ := [.val (.list (R.map grD)), .no, .no, .no, .no]) R grD (fun _ => true) grD (by simp) (by omega) fun r hr => ⟨_, rfl, rfl, fun _ => by
    obtain ⟨o, q, w, l⟩ := r
    simp [grD, gList]⟩
  rw [List.filter_eq_self.mpr (fun _ _ => rfl)] at cmp
  unfold F_copied S_copied
  simp only [runF_ev]
  simp [cmp]
end K14
namespace K14
open PySem PySem.Spec PyProof.Rows L2 DL
variable [TabP]
@[simp] theorem ln_00 {α : Type} (r : Res α) : ln 0 [] r = r := rfl
@[simp] theorem imm_none : imm .none = true := rfl
@[simp] theorem frzO_bk {δ : DL.Env} {i : Nat} {p fz : Bool} {B : Bk} : frzO i δ (some (.bk p fz B)) = δ.set i (.bk p true B) := rfl
theorem E_bdeal {f : Fam} {i : Int} {l : List Int} {ot : List D} (h : FOk f) (hi : i ∈ dthL f) (hl : i ∈ l) : F_Book_deal ⟨f.map perD, [], [], mapK (rwD f) l, ot⟩ [.int i] = .ok (rwL f i) := by
  obtain ⟨_, R, e, k, kl⟩ := E_rows h hi
  obtain ⟨⟨h0, h1⟩, _⟩ := mem_dthL.mp hi
  have k1 := E_need_people (f := f) (is := [i]) fun j hj => by rw [List.mem_singleton] at hj; subst hj; exact ⟨h0, h1⟩
  have k1' : F_need_people [famD f, .list [.int i]] = .ok .none := k1
  have ef : (PyData.list (f.map perD)) = famD f := rfl
  have hc := E_copied k kl
  have e2 : rwD f i = .list (R.map grD) := by unfold rwD; rw [e]
  have hx := gIx_mapK (g := rwD f) hl
  have hin := gIn_mapK (g := rwD f) (l := l) (i := i)
  rw [e2] at hx
  rw [decide_eq_true hl] at hin
  rw [e]
  have s0 : startM 2 ⟨f.map perD, [], [], mapK (rwD f) l, ot⟩ [.int i] = [.bk true false ⟨f.map perD, [], [], mapK (rwD f) l, ot⟩, .val (.int i)] := rfl
  generalize mapK (rwD f) l = M at *
  unfold F_Book_deal S_Book_deal
  rw [runQF_ev, s0]
  simp [ef, k1', hin, hx, hc]
/-- anew, of the dead of f: those without rows so far, or with others -/
noncomputable def newB (f : Fam) (W : Int → D) (l : List Int) (j : Int) : Bool := !(decide (j ∈ l) && sameB (rwD f j) (W j))
def nxK (f : Fam) (W : Int → D) (l : List Int) (k : Nat) : List (D × D) := mapK (fun j => if j ∈ (dthL f).take k then rwD f j else W j) (l ++ ((dthL f).take k).filter fun j => decide (j ∉ l))
noncomputable def nxO (f : Fam) (W : Int → D) (l : List Int) (k : Nat) : List D := (((dthL f).take k).filter (newB f W l)).map .int
noncomputable def nxB (f : Fam) (W : Int → D) (l : List Int) (k : Nat) : Bk := ⟨f.map perD, [], [], nxK f W l k, nxO f W l k⟩
theorem anew_turn {f : Fam} {W : Int → D} {l : List Int} (h : FOk f) (hl : l.length ≤ 100) (hW : ∀ j ∈ l, plain 3 (W j) = true) {k : Nat} {i : Int} (hk : (dthL f)[k]? = some i) : turnE [1, 2] (gN 1) B_Book_deal_anew_0 (.int i) [.bk true false (nxB f W l k), .no, .no] = .nx [.bk true false (nxB f W l (k + 1)), .no, .no] := by
  have hi : i ∈ dthL f := List.mem_of_getElem? hk
  have hlen := dthL_len f
  have hfew := h.few
  have hnt : i ∉ (dthL f).take k := fun z => by
    obtain ⟨j, hj, e⟩ := List.getElem_of_mem z
    rw [List.length_take] at hj
    rw [List.getElem_take] at e
    obtain ⟨hk1, hk2⟩ := List.getElem?_eq_some_iff.mp hk
    exact List.pairwise_iff_getElem.mp (dthL_nodup f) j k (by omega) hk1 (by omega) (e.trans hk2.symm)
  have ht : (dthL f).take (k + 1) = (dthL f).take k ++ [i] := by rw [List.take_add_one, hk]; rfl
  have hd := rw_dealt h hi
  have hp := rw_plain h hi
  have hro := E_broll (f := f) (ot := nxO f W l k) (de := nxK f W l k)
  have hro' : F_Book_roll (nxB f W l k) [] = .ok (rollD f [] []) := hro
  have hmem : i ∈ (l ++ ((dthL f).take k).filter fun j => decide (j ∉ l)) ↔ i ∈ l := by
    rw [List.mem_append, List.mem_filter]
    exact ⟨fun z => z.elim id fun z => absurd z.1 hnt, .inl⟩
  have hget : getK (nxK f W l k) (.int i) .none = .ok (if i ∈ l then W i else .none) := by
    unfold nxK
    rw [get_mapK, if_neg hnt]
    by_cases e : i ∈ l
    · rw [if_pos e, if_pos (hmem.mpr e)]
    · rw [if_neg e, if_neg (fun z => e (hmem.mp z))]
  have hchk : chkK (.dict (nxK f W l k)) = .ok (nxK f W l k) := by unfold nxK; simp
  have hne : gNe (.list (rwL f i)) (if i ∈ l then W i else .none) = .ok (newB f W l i) := by
    unfold newB
    by_cases e : i ∈ l
    · rw [if_pos e, decide_eq_true e, Bool.true_and]
      exact gNe_pl (n := 3) (m := 3) hp (by decide) (hW i e) (by decide)
    · rw [if_neg e, decide_eq_false e, Bool.false_and]
      have := gNe_of (n := 3) (m := 0) (d := .list (rwL f i)) (e := .none) (p := False) hp (by decide) rfl (by decide) (by simp)
      simpa using this
  have hput : putKD (nxK f W l k) (.inl i) (.list (rwL f i)) = nxK f W l (k + 1) := by
    unfold nxK
    rw [put_mapK, ht]
    have hg : updK (fun j => if j ∈ (dthL f).take k then rwD f j else W j) i (.list (rwL f i)) = fun j => if j ∈ (dthL f).take k ++ [i] then rwD f j else W j := by
      funext j
      unfold updK
      by_cases e : j = i
      · subst e; rw [if_pos rfl, if_pos (by simp)]; rfl
      · rw [if_neg e]
        show (if j ∈ (dthL f).take k then rwD f j else W j) = _
        by_cases e2 : j ∈ (dthL f).take k
        · rw [if_pos e2, if_pos (List.mem_append_left _ e2)]
        · rw [if_neg e2, if_neg (by simp [e2, e])]
    rw [hg]
    congr 1
    rw [List.filter_append]
    by_cases e : i ∈ l
    · rw [if_pos (hmem.mpr e)]; simp [e]
    · rw [if_neg (fun z => e (hmem.mp z))]; simp [e]
  have hlk : (nxK f W l k).length < sizeLine := by
    have h1 := List.length_filter_le (fun j => decide (j ∉ l)) ((dthL f).take k)
    rw [List.length_take] at h1
    unfold nxK
    rw [len_mapK, List.length_append]
    have := sizeLine_eq
    omega
  have hlo : (nxO f W l k).length < 16777216 := by
    have h1 := List.length_filter_le (newB f W l) ((dthL f).take k)
    rw [List.length_take] at h1
    unfold nxO
    rw [List.length_map]
    omega
  have hO : nxO f W l (k + 1) = if newB f W l i = true then nxO f W l k ++ [.int i] else nxO f W l k := by
    unfold nxO
    rw [ht, List.filter_append, List.map_append]
    by_cases e : newB f W l i = true
    · rw [if_pos e]; simp [e]
    · rw [if_neg e]; simp [e]
  unfold nxB at *
  rw [hO]
  generalize nxK f W l k = M at *
  generalize nxO f W l k = O at *
  generalize (if i ∈ l then W i else .none) = Z at *
  unfold turnE B_Book_deal_anew_0
  cases hb : newB f W l i with
  | true => rw [hb] at hne; simp [hro', hd, hchk, hget, hne, hlo, putBk, keyOf, hput, hlk]
  | false => rw [hb] at hne; simp [hro', hd, hchk, hget, hne, hlo, putBk, keyOf, hput, hlk]
theorem E_deal_anew {f : Fam} {W : Int → D} {l : List Int} {ot : List D} (h : FOk f) (hl : l.length ≤ 100) (hW : ∀ j ∈ l, plain 3 (W j) = true) (hs : ∀ j ∈ l, j ∈ dthL f) :
    F_Book_deal_anew ⟨f.map perD, [], [], mapK W l, ot⟩ [] = .ok (.none, ⟨f.map perD, [], [], mapK (rwD f) (l ++ (dthL f).filter fun j => decide (j ∉ l)), ((dthL f).filter (newB f W l)).map .int⟩) := by
  have hfew := h.few
  have b0 : (⟨f.map perD, [], [], mapK W l, []⟩ : Bk) = nxB f W l 0 := by
    unfold nxB nxK nxO
    simp
  have b1 : nxB f W l (dthL f).length = ⟨f.map perD, [], [], mapK (rwD f) (l ++ (dthL f).filter fun j => decide (j ∉ l)), ((dthL f).filter (newB f W l)).map .int⟩ := by
    unfold nxB nxK nxO
    rw [List.take_length]
    congr 1
    refine mapK_congr fun j hj => ?_
    refine if_pos ?_
    rcases List.mem_append.mp hj with z | z
    · exact hs j z
    · exact (List.mem_filter.mp z).1
  have r := loopL_at (is := [1, 2]) (g := gN 1) (fb := B_Book_deal_anew_0) (ds := (dthL f).map PyData.int) (fun k => [.bk true false (nxB f W l k), .no, .no]) (by
    intro k d hd
    rw [List.getElem?_map] at hd
    cases hi : (dthL f)[k]? with
    | none => rw [hi] at hd; cases hd
    | some i =>
      rw [hi] at hd; cases hd
      exact anew_turn h hl hW hi) (δ := [.bk true false ⟨f.map perD, [], [], mapK W l, []⟩, .no, .no]) (by rw [b0]; rfl)
  rw [List.length_map, b1] at r
  have s0 : startM 3 ⟨f.map perD, [], [], mapK W l, ot⟩ [] = [.bk true false ⟨f.map perD, [], [], mapK W l, ot⟩, .no, .no] := rfl
  have hdead := E_bdead (f := f) (ma := []) (wi := []) (ot := []) (de := mapK W l) (by omega)
  generalize mapK W l = M at *
  unfold F_Book_deal_anew S_Book_deal_anew
  rw [runM_ev, s0]
  simp [hdead, r]
theorem E_ldeals {f : Fam} (h : FOk f) : F__law_deals [rollD f [] []] = .ok (.dict (mapK (rwD f) (dthL f))) := by
  have hfew := h.few
  have r := loopL_at (is := [2]) (g := gN 2) (fb := B__law_deals_0) (ds := (rgI f.length).map PyData.int) (fun k => [.val (rollD f [] []), .ownK (mapK (rwD f) ((rgI k).filter (dth f))), .no]) (by
    intro k d hd
    obtain ⟨hk, rfl⟩ := rgI_at hd
    obtain ⟨p, hp⟩ := fam_lt (f := f) (j := (k : Int)) (by omega) (by omega)
    have hp' : f[k]? = some p := hp
    rw [rgI_succ, List.filter_append]
    have hdk : dth f (k : Int) = p.died.isSome := by unfold dth; rw [hp]; rfl
    have hnk : ((k : Nat) : Int) ∉ (rgI k).filter (dth f) := fun z => by
      have := (mem_rgI.mp (List.mem_filter.mp z).1).2
      omega
    have hlk : ((rgI k).filter (dth f)).length < 16777216 := by
      have := List.length_filter_le (dth f) (rgI k)
      rw [rgI_len] at this
      omega
    unfold turnE B__law_deals_0
    cases hd : p.died with
    | none =>
      rw [hd] at hdk
      simp [hp', hd, hdk]
    | some t =>
      rw [hd] at hdk
      have hi : (k : Int) ∈ dthL f := mem_dthL.mpr ⟨⟨by omega, by omega⟩, hdk⟩
      have hx := rw_dealt h hi
      have hpt : mapK (updK (rwD f) (k : Int) (.list (rwL f k))) ((rgI k).filter (dth f) ++ [(k : Int)]) = mapK (rwD f) ((rgI k).filter (dth f) ++ [(k : Int)]) := mapK_congr fun j _ => by
        unfold updK
        split
        · rename_i e; rw [e]; rfl
        · rfl
      simp [hp', hd, hdk, hx, putD_mapK hlk, hnk, hpt]) (δ := [.val (rollD f [] []), .ownK [], .no]) rfl
  rw [List.length_map, rgI_len] at r
  have hr := gR1_ok (n := (f.length : Int)) (by omega) (by omega)
  rw [Int.toNat_natCast] at hr
  unfold F__law_deals S__law_deals
  simp only [runD_ev]
  simp [hr, r]
  rfl
end K14
namespace K14
open PySem PySem.Spec PyProof.Rows L2 DL
variable [TabP]
theorem gEq_str {s t : Str} {b : Bool} (h : PyData.strOk s = true ∧ PyData.strOk t = true ∧ decide (s = t) = b) : gEq (.str s) (.str t) = .ok b := by
  have := gEq_of (n := 0) (m := 0) (d := .str s) (e := .str t) (p := s = t) (show plain 0 (.str s) = true from h.1) (by decide) (show plain 0 (.str t) = true from h.2.1) (by decide) (by simp)
  rw [this, h.2.2]
@[simp] theorem s_bb : gEq (.str "born") (.str "born") = .ok true := gEq_str (by decide +kernel)
@[simp] theorem s_db : gEq (.str "died") (.str "born") = .ok false := gEq_str (by decide +kernel)
@[simp] theorem s_dd : gEq (.str "died") (.str "died") = .ok true := gEq_str (by decide +kernel)
@[simp] theorem s_dm : gEq (.str "died") (.str "married") = .ok false := gEq_str (by decide +kernel)
@[simp] theorem s_dw : gEq (.str "died") (.str "will") = .ok false := gEq_str (by decide +kernel)
@[simp] theorem s_ab : gEq (.str "adopted") (.str "born") = .ok false := gEq_str (by decide +kernel)
@[simp] theorem s_ad : gEq (.str "adopted") (.str "died") = .ok false := gEq_str (by decide +kernel)
@[simp] theorem s_am : gEq (.str "adopted") (.str "married") = .ok false := gEq_str (by decide +kernel)
@[simp] theorem s_aw : gEq (.str "adopted") (.str "will") = .ok false := gEq_str (by decide +kernel)
@[simp] theorem s_aa : gEq (.str "adopted") (.str "adopted") = .ok true := gEq_str (by decide +kernel)
@[simp] theorem s_ba : gEq (.str "born") (.str "adopted") = .ok false := gEq_str (by decide +kernel)
@[simp] theorem s_da : gEq (.str "died") (.str "adopted") = .ok false := gEq_str (by decide +kernel)
/-- what is told -/
inductive Deed where
  | born (d : Int) (ps : List Int)
  | died (i d : Int)
  | ado (i d q : Int)
def deD : Deed → D
  | .born d ps => .tuple [.str "born", .int d, .list (ps.map .int)]
  | .died i d => .tuple [.str "died", .int i, .int d]
  | .ado i d q => .tuple [.str "adopted", .int i, .int d, .list [.int q]]
def updP (f : Fam) (i : Int) (g : Per → Per) : Fam := match f[i.toNat]? with
  | some p => f.set i.toNat (g p)
  | none => f
def doD (f : Fam) : Deed → Fam
  | .born d ps => f ++ [⟨d, ps, none, none⟩]
  | .died i d => updP f i fun p => { p with died := some d }
  | .ado i d q => updP f i fun p => { p with ad := some (d, [q]) }
def DeOk (f : Fam) : Deed → Prop
  | .born d ps => f.length < 20 ∧ (0 ≤ d ∧ d ≤ 100000) ∧ ps.length ≤ 1 ∧ ∀ i ∈ ps, 0 ≤ i ∧ ∃ p, f[i.toNat]? = some p ∧ p.born < d
  | .died i d => (0 ≤ d ∧ d ≤ 100000) ∧ 0 ≤ i ∧ ∃ p, f[i.toNat]? = some p ∧ p.died = none ∧ p.born ≤ d ∧ ∀ a, p.ad = some a → a.1 < d
  | .ado i d q => (0 ≤ d ∧ d ≤ 100000) ∧ 0 ≤ i ∧ 0 ≤ q ∧ ∃ p pq, f[i.toNat]? = some p ∧ f[q.toNat]? = some pq ∧ p.died = none ∧ p.born ≤ d ∧ p.ad = none ∧ pq.born < p.born
theorem updP_at {f : Fam} {i : Int} {p : Per} {g : Per → Per} (h : f[i.toNat]? = some p) : updP f i g = f.set i.toNat (g p) := by unfold updP; rw [h]
theorem set_borns {f : Fam} {k : Nat} {p q : Per} (h : f[k]? = some p) (e : q.born = p.born) : (f.set k q).map Per.born = f.map Per.born := by
  obtain ⟨hk, h2⟩ := List.getElem?_eq_some_iff.mp h
  rw [List.map_set, e, ← h2]
  apply List.ext_getElem?
  intro j
  by_cases hj : k = j
  · subst hj; simp [hk]
  · rw [List.getElem?_set_ne hj]
theorem set_ok {f : Fam} {k : Nat} {p q : Per} (h : FOk f) (hk : f[k]? = some p) (e : q.born = p.born) (hq : PerOk (f.map Per.born) p → PerOk (f.map Per.born) q) : FOk (f.set k q) := by
  refine ⟨fun r hr => ?_, by rw [List.length_set]; exact h.few⟩
  rw [set_borns hk e]
  rcases List.mem_or_eq_of_mem_set hr with z | z
  · exact h.fam r z
  · subst z; exact hq (h.fam p (List.mem_of_getElem? hk))
theorem older1 {f : Fam} {ps : List Int} {d : Int} (h : ∀ i ∈ ps, 0 ≤ i ∧ ∃ p, f[i.toNat]? = some p ∧ p.born < d) : Older (f.map Per.born) ps d := fun j hj => by
  obtain ⟨h0, p, hp, hb⟩ := h j hj
  exact ⟨h0, p.born, by rw [List.getElem?_map, hp]; rfl, hb⟩
theorem nodup1 {l : List Int} (h : l.length ≤ 1) : l.Nodup := by
  match l, h with
  | [], _ => simp
  | [a], _ => simp
theorem doD_ok {f : Fam} {e : Deed} (h : FOk f) (he : DeOk f e) : FOk (doD f e) := by
  cases e with
  | born d ps =>
    obtain ⟨h1, ⟨h2, h3⟩, h4, h5⟩ := he
    refine ⟨fun r hr => ?_, by show (f ++ [_]).length ≤ 20; rw [List.length_append, List.length_singleton]; omega⟩
    show PerOk ((f ++ [(⟨d, ps, none, none⟩ : Per)]).map Per.born) r
    rw [List.map_append]
    rcases List.mem_append.mp hr with z | z
    · exact (h.fam r z).app
    · rw [List.mem_singleton] at z
      subst z
      exact ⟨(older1 h5).app, nodup1 h4, by show ps.length ≤ 2; omega, (fun _ _ z => nomatch z), (fun _ z => nomatch z), h2, by show d ≤ 1000000; omega⟩
  | died i d =>
    obtain ⟨⟨h1, h2⟩, h3, p, hp, hd, hb, ha⟩ := he
    show FOk (updP f i _)
    rw [updP_at hp]
    refine set_ok h hp rfl fun k => ⟨k.par, k.nd, k.len, fun d' l' z => ?_, fun x z => ?_, k.b0, k.b1⟩
    · obtain ⟨k1, k2, k3, k4, k5, k6, k7⟩ := k.ad d' l' z
      exact ⟨k1, k2, k3, k4, k5, k6, fun x z2 => by cases z2; exact ha _ z⟩
    · cases z; exact ⟨hb, by omega⟩
  | ado i d q =>
    obtain ⟨⟨h1, h2⟩, h3, h4, p, pq, hp, hq, hd, hb, ha, hpq⟩ := he
    show FOk (updP f i _)
    rw [updP_at hp]
    refine set_ok h hp rfl fun k => k.adopt hb (by have := k.b0; omega) (by simp) (by simp) (by simp) (older1 fun j hj => ?_) fun x z => ?_
    · rw [List.mem_singleton] at hj; subst hj; exact ⟨h4, pq, hq, hpq⟩
    · rw [hd] at z; cases z
theorem dth_set {f : Fam} {k : Nat} {p q : Per} (hk : f[k]? = some p) (e : p.died.isSome = true → q.died.isSome = true) {j : Int} (h : j ∈ dthL f) : j ∈ dthL (f.set k q) := by
  obtain ⟨h1, h2⟩ := mem_dthL.mp h
  refine mem_dthL.mpr ⟨by rw [List.length_set]; exact h1, ?_⟩
  unfold dth at *
  by_cases hj : k = j.toNat
  · subst hj
    rw [hk] at h2
    rw [List.getElem?_set_self (List.getElem?_eq_some_iff.mp hk).1]
    simp at h2 ⊢
    exact e h2
  · rw [List.getElem?_set_ne hj]; exact h2
theorem dthL_do {f : Fam} {e : Deed} (he : DeOk f e) {j : Int} (h : j ∈ dthL f) : j ∈ dthL (doD f e) := by
  cases e with
  | born d ps =>
    obtain ⟨⟨h0, h1⟩, h2⟩ := mem_dthL.mp h
    refine mem_dthL.mpr ⟨⟨h0, by show j < ((f ++ [_]).length : Nat); rw [List.length_append]; omega⟩, ?_⟩
    unfold dth at *
    show ((f ++ [_])[j.toNat]?).any _ = true
    rw [List.getElem?_append_left (by omega)]
    exact h2
  | died i d =>
    obtain ⟨_, _, p, hp, _⟩ := he
    show j ∈ dthL (updP f i _)
    rw [updP_at hp]
    exact dth_set hp (fun _ => rfl) h
  | ado i d q =>
    obtain ⟨_, _, _, p, pq, hp, _⟩ := he
    show j ∈ dthL (updP f i _)
    rw [updP_at hp]
    exact dth_set (q := { p with ad := some (d, [q]) }) hp (fun z => z) h
/-- the book behind a deed -/
noncomputable def nxBk (f f' : Fam) (l : List Int) : Bk := ⟨f'.map perD, [], [], mapK (rwD f') (l ++ (dthL f').filter fun j => decide (j ∉ l)), ((dthL f').filter (newB f' (rwD f) l)).map .int⟩
theorem E_told {f : Fam} {e : Deed} {l : List Int} {ot : List D} (h : FOk f) (he : DeOk f e) (nd : l.Nodup) (hl : ∀ j, j ∈ l ↔ j ∈ dthL f) :
    F_Book_deal_anew ⟨(doD f e).map perD, [], [], mapK (rwD f) l, ot⟩ [] = .ok (.none, nxBk f (doD f e) l) := by
  have h1 := nodup_len2 nd fun j hj => (hl j).mp hj
  have h2 := dthL_len f
  have h3 := h.few
  exact E_deal_anew (doD_ok h he) (by omega) (fun j hj => rw_plain h ((hl j).mp hj)) fun j hj => dthL_do he ((hl j).mp hj)
theorem ixN_in {n : Nat} {k : Int} (h : 0 ≤ k) (h2 : k < n) : L2.ixN n k = some k.toNat := by
  unfold L2.ixN
  rw [if_pos h, if_pos h2]
theorem E_Bborn {f : Fam} {d : Int} {ps : List Int} {l : List Int} {ot : List D} (h : FOk f) (he : DeOk f (.born d ps)) (nd : l.Nodup) (hl : ∀ j, j ∈ l ↔ j ∈ dthL f) :
    ∃ r, F_Book_born ⟨f.map perD, [], [], mapK (rwD f) l, ot⟩ [.int d, .list (ps.map .int)] = .ok (r, nxBk f (doD f (.born d ps)) l) := by
  have ht := E_told (ot := ot) h he nd hl
  obtain ⟨h1, ⟨h2, h3⟩, h4, h5⟩ := he
  have kb := E_need_birth (f := f) (ps := ps) (d := d) (by omega) h2 h3 h4 h5
  have ef : (PyData.list (f.map perD)) = famD f := rfl
  have hpe : f.map perD ++ [.tuple [.int d, .tuple (ps.map .int), .none, .none]] = (doD f (.born d ps)).map perD := by
    show _ = (f ++ [_]).map perD
    rw [List.map_append]; rfl
  have hlen : (nxBk f (doD f (.born d ps)) l).pe = (doD f (.born d ps)).map perD := rfl
  have s0 : startM 3 ⟨f.map perD, [], [], mapK (rwD f) l, ot⟩ [.int d, .list (ps.map .int)] = [.bk true false ⟨f.map perD, [], [], mapK (rwD f) l, ot⟩, .val (.int d), .val (.list (ps.map .int))] := rfl
  generalize mapK (rwD f) l = M at *
  generalize doD f (.born d ps) = f' at *
  generalize nxBk f f' l = B' at *
  refine ⟨.int ((f'.length : Nat) - 1), ?_⟩
  unfold F_Book_born S_Book_born
  rw [runM_ev, s0]
  have hfl : f.length < 16777216 := by omega
  simp [ef, kb, hfl, hpe, ht, hlen]
theorem E_Bdied {f : Fam} {i d : Int} {l : List Int} {ot : List D} (h : FOk f) (he : DeOk f (.died i d)) (nd : l.Nodup) (hl : ∀ j, j ∈ l ↔ j ∈ dthL f) :
    F_Book_died ⟨f.map perD, [], [], mapK (rwD f) l, ot⟩ [.int i, .int d] = .ok (.none, nxBk f (doD f (.died i d)) l) := by
  have ht := E_told (ot := ot) h he nd hl
  obtain ⟨⟨h1, h2⟩, h3, p, hp, hd, hb, ha⟩ := he
  have kb := E_need_death h1 h2 h3 hp hd hb ha
  have hro := E_broll (f := f) (ot := ot) (de := mapK (rwD f) l)
  have ef : (PyData.list (f.map perD)) = famD f := rfl
  have hlt := (List.getElem?_eq_some_iff.mp hp).1
  have hpe : (f.map perD).set i.toNat (.tuple [.int p.born, intsT p.par, adD p.ad, .int d]) = (doD f (.died i d)).map perD := by
    show _ = (updP f i _).map perD
    rw [updP_at hp, List.map_set]; rfl
  have hix : L2.ixN f.length i = some i.toNat := ixN_in h3 (by omega)
  have s0 : startM 7 ⟨f.map perD, [], [], mapK (rwD f) l, ot⟩ [.int i, .int d] = [.bk true false ⟨f.map perD, [], [], mapK (rwD f) l, ot⟩, .val (.int i), .val (.int d), .no, .no, .no, .no] := rfl
  generalize mapK (rwD f) l = M at *
  generalize doD f (.died i d) = f' at *
  generalize nxBk f f' l = B' at *
  unfold F_Book_died S_Book_died
  rw [runM_ev, s0]
  simp [hro, ef, kb, fam_at h3 hp, setBk, hix, hpe, ht]
theorem E_Bado {f : Fam} {i d q : Int} {l : List Int} {ot : List D} (h : FOk f) (he : DeOk f (.ado i d q)) (nd : l.Nodup) (hl : ∀ j, j ∈ l ↔ j ∈ dthL f) :
    F_Book_adopted ⟨f.map perD, [], [], mapK (rwD f) l, ot⟩ [.int i, .int d, .list [.int q]] = .ok (.none, nxBk f (doD f (.ado i d q)) l) := by
  have ht := E_told (ot := ot) h he nd hl
  obtain ⟨⟨h1, h2⟩, h3, h4, p, pq, hp, hq, hd, hb, ha, hpq⟩ := he
  have kb := E_need_adoption h1 h2 h3 hp h4 hq hd hb ha hpq
  have ef : (PyData.list (f.map perD)) = famD f := rfl
  have hlt := (List.getElem?_eq_some_iff.mp hp).1
  have hpe : (f.map perD).set i.toNat (.tuple [.int p.born, intsT p.par, .tuple [.int d, .tuple [.int q]], oiD p.died]) = (doD f (.ado i d q)).map perD := by
    show _ = (updP f i _).map perD
    rw [updP_at hp, List.map_set]; rfl
  have hix : L2.ixN f.length i = some i.toNat := ixN_in h3 (by omega)
  have s0 : startM 8 ⟨f.map perD, [], [], mapK (rwD f) l, ot⟩ [.int i, .int d, .list [.int q]] = [.bk true false ⟨f.map perD, [], [], mapK (rwD f) l, ot⟩, .val (.int i), .val (.int d), .val (.list [.int q]), .no, .no, .no, .no] := rfl
  rw [hd] at hpe
  generalize mapK (rwD f) l = M at *
  generalize doD f (.ado i d q) = f' at *
  generalize nxBk f f' l = B' at *
  unfold F_Book_adopted S_Book_adopted
  rw [runM_ev, s0]
  simp [ef, kb, fam_at h3 hp, hd, setBk, hix, hpe, ht] at hpe ⊢
theorem E_tell {f : Fam} {e : Deed} {l : List Int} {ot : List D} (h : FOk f) (he : DeOk f e) (nd : l.Nodup) (hl : ∀ j, j ∈ l ↔ j ∈ dthL f) :
    ∃ r, F__law_tell ⟨f.map perD, [], [], mapK (rwD f) l, ot⟩ [deD e] = .ok (r, nxBk f (doD f e) l) := by
  have s0 : startM 2 ⟨f.map perD, [], [], mapK (rwD f) l, ot⟩ [deD e] = [.bk true false ⟨f.map perD, [], [], mapK (rwD f) l, ot⟩, .val (deD e)] := rfl
  unfold F__law_tell S__law_tell
  rw [runM_ev, s0]
  cases e with
  | born d ps =>
    obtain ⟨r, hr⟩ := E_Bborn (ot := ot) h he nd hl
    generalize mapK (rwD f) l = M at *
    exact ⟨r, by simp [deD, hr]⟩
  | died i d =>
    have hr := E_Bdied (ot := ot) h he nd hl
    generalize mapK (rwD f) l = M at *
    exact ⟨.none, by simp [deD, hr]⟩
  | ado i d q =>
    have hr := E_Bado (ot := ot) h he nd hl
    generalize mapK (rwD f) l = M at *
    exact ⟨.none, by simp [deD, hr]⟩
theorem E_done {f : Fam} {e : Deed} (h : FOk f) (he : DeOk f e) : F__law_done [rollD f [] [], deD e] = .ok (rollD (doD f e) [] []) := by
  have hfew := h.few
  have gl : ∀ ds, gList (.list ds) = .ok ds := fun _ => rfl
  unfold F__law_done S__law_done
  simp only [runD_ev]
  cases e with
  | born d ps =>
    have hpe : f.map perD ++ [.tuple [.int d, .tuple (ps.map .int), .none, .none]] = (doD f (.born d ps)).map perD := by
      show _ = (f ++ [_]).map perD
      rw [List.map_append]; rfl
    have hfl : f.length < 16777216 := by omega
    have hR : (PyData.tuple [.list ((doD f (.born d ps)).map perD), .list [], .list []]) = rollD (doD f (.born d ps)) [] [] := rfl
    simp [deD, gl, hfl, hpe, hR]
  | died i d =>
    obtain ⟨⟨h1, h2⟩, h3, p, hp, hd, hb, ha⟩ := he
    have hlt := (List.getElem?_eq_some_iff.mp hp).1
    have hpe : (f.map perD).set i.toNat (.tuple [.int p.born, intsT p.par, adD p.ad, .int d]) = (doD f (.died i d)).map perD := by
      show _ = (updP f i _).map perD
      rw [updP_at hp, List.map_set]; rfl
    have hR : (PyData.tuple [.list ((doD f (.died i d)).map perD), .list [], .list []]) = rollD (doD f (.died i d)) [] [] := rfl
    have hput : ∀ (δ : DL.Env) d, putL 2 δ (f.map perD) d (.int i) = .nx (δ.set 2 (.own ((f.map perD).set i.toNat d))) := fun δ d => putL_ok h3 (by rw [List.length_map]; omega)
    have hat := fam_at h3 hp
    have ef : (PyData.list (f.map perD)) = famD f := rfl
    simp [deD, gl, hput, hat, hpe, hR, ef]
  | ado i d q =>
    obtain ⟨⟨h1, h2⟩, h3, h4, p, pq, hp, hq, hd, hb, ha, hpq⟩ := he
    have hlt := (List.getElem?_eq_some_iff.mp hp).1
    have hpe : (f.map perD).set i.toNat (.tuple [.int p.born, intsT p.par, .tuple [.int d, .tuple [.int q]], oiD p.died]) = (doD f (.ado i d q)).map perD := by
      show _ = (updP f i _).map perD
      rw [updP_at hp, List.map_set]; rfl
    have hR : (PyData.tuple [.list ((doD f (.ado i d q)).map perD), .list [], .list []]) = rollD (doD f (.ado i d q)) [] [] := rfl
    have hput : ∀ (δ : DL.Env) d, putL 2 δ (f.map perD) d (.int i) = .nx (δ.set 2 (.own ((f.map perD).set i.toNat d))) := fun δ d => putL_ok h3 (by rw [List.length_map]; omega)
    have hat := fam_at h3 hp
    have ef : (PyData.list (f.map perD)) = famD f := rfl
    simp [deD, gl, hput, hat, hpe, hR, ef]
end K14
namespace K14
open PySem PySem.Spec PyProof.Rows L2 DL
variable [TabP]
theorem E_cell_at (ns : List Int) (i : Int) (h : 0 ≤ i) : ∃ c, F__law_cell_at [scrD (ns.map PyData.int), .int i] = .ok (.int c) := by
  refine ⟨ns.getD i.toNat 0, ?_⟩
  unfold F__law_cell_at S__law_cell_at
  simp [runD_ev, atI_of _ h]
  by_cases hl : i < ns.length
  · have : i.toNat < ns.length := by omega
    simp [hl, this]
  · have : ns.length ≤ i.toNat := by omega
    simp [hl, this]
@[simp] theorem sortF_ev14 (fa : DL.Env → Res D) (δ : DL.Env) : sortF fa δ = (fa δ).bind gSort := rfl
/-- a book's state here: the family, whose deals are kept, which are anew -/
abbrev BS := Fam × List Int × List D
noncomputable def stp (s : BS) (e : Deed) : BS := (doD s.1 e, s.2.1 ++ (dthL (doD s.1 e)).filter (fun j => decide (j ∉ s.2.1)), ((dthL (doD s.1 e)).filter (newB (doD s.1 e) (rwD s.1) s.2.1)).map .int)
def bkS (s : BS) : Bk := ⟨s.1.map perD, [], [], mapK (rwD s.1) s.2.1, s.2.2⟩
structure BOk (s : BS) : Prop where
  ok : FOk s.1
  nd : s.2.1.Nodup
  mem : ∀ j, j ∈ s.2.1 ↔ j ∈ dthL s.1
theorem BOk.stp {s : BS} {e : Deed} (h : BOk s) (he : DeOk s.1 e) : BOk (stp s e) := by
  refine ⟨doD_ok h.ok he, ?_, fun j => ?_⟩
  · show (s.2.1 ++ (dthL (doD s.1 e)).filter (fun j => decide (j ∉ s.2.1))).Nodup
    refine List.nodup_append.mpr ⟨h.nd, List.Pairwise.filter _ (dthL_nodup _), fun a ha b hb e => ?_⟩
    subst e
    have := (List.mem_filter.mp hb).2
    simp [ha] at this
  · show j ∈ (s.2.1 ++ (dthL (doD s.1 e)).filter (fun j => decide (j ∉ s.2.1))) ↔ _
    rw [List.mem_append, List.mem_filter]
    constructor
    · rintro (z | z)
      · exact dthL_do he ((h.mem j).mp z)
      · exact z.1
    · intro z
      by_cases hj : j ∈ s.2.1
      · exact .inl hj
      · exact .inr ⟨z, by simp [hj]⟩
theorem tellS {s : BS} {e : Deed} (h : BOk s) (he : DeOk s.1 e) : ∃ r, F__law_tell (bkS s) [deD e] = .ok (r, bkS (stp s e)) := E_tell h.ok he h.nd h.mem
def AllOk : Fam → List Deed → Prop
  | _, [] => True
  | f, e :: es => DeOk f e ∧ AllOk (doD f e) es
theorem AllOk.at : ∀ {es : List Deed} {f : Fam} {k : Nat} {e : Deed}, AllOk f es → es[k]? = some e → DeOk ((es.take k).foldl doD f) e
  | [], _, _, _, _, h => by simp at h
  | a :: es, f, 0, e, h, h2 => by simp at h2; subst h2; exact h.1
  | a :: es, f, k + 1, e, h, h2 => by
    have := AllOk.at (es := es) (f := doD f a) (k := k) (e := e) h.2 (by simpa using h2)
    simpa using this
theorem AllOk.app : ∀ {es ds : List Deed} {f : Fam}, AllOk f (es ++ ds) ↔ AllOk f es ∧ AllOk (es.foldl doD f) ds
  | [], _, _ => by simp [AllOk]
  | a :: es, ds, f => by
    simp only [List.cons_append, AllOk, List.foldl_cons]
    rw [AllOk.app (es := es)]
    exact and_assoc.symm
noncomputable def stpL (s : BS) (es : List Deed) : BS := es.foldl stp s
theorem stpL_fam (s : BS) (es : List Deed) : (stpL s es).1 = es.foldl doD s.1 := by
  unfold stpL
  induction es generalizing s with
  | nil => rfl
  | cons e es ih => rw [List.foldl_cons, List.foldl_cons, ih]; rfl
theorem stpL_snoc (s : BS) {es : List Deed} {k : Nat} {e : Deed} (h : es[k]? = some e) : stpL s (es.take (k + 1)) = stp (stpL s (es.take k)) e := by
  unfold stpL
  rw [List.take_add_one, h, List.foldl_append]; rfl
theorem BOk.all {s : BS} (h : BOk s) {es : List Deed} (a : AllOk s.1 es) : ∀ k, BOk (stpL s (es.take k))
  | 0 => by simpa [stpL] using h
  | k + 1 => by
    cases e : es[k]? with
    | none =>
      have := BOk.all h a k
      rw [List.take_add_one, e]
      simpa using this
    | some d =>
      rw [stpL_snoc s e]
      refine (BOk.all h a k).stp ?_
      rw [stpL_fam]
      exact a.at e
/-- what the law asks of a book -/
theorem E_stands {s : BS} (h : BOk s) {o : List Int} (ho : s.2.2 = o.map .int) : F__law_stands (bkS s) [rollD s.1 [] [], .dict (mapK (rwD s.1) (dthL s.1)), .list s.2.2] = .ok (.bool true) := by
  obtain ⟨f, l, ot⟩ := s
  dsimp only at ho
  subst ho
  have hfew := h.ok.few
  have hlen := dthL_len f
  have h1 := E_banew (f := f) (ot := o.map .int) (de := mapK (rwD f) l)
  have h2 := E_bdead (f := f) (ma := []) (wi := []) (ot := o.map .int) (de := mapK (rwD f) l) (by have : f.length ≤ 20 := hfew; omega)
  have h3 := E_broll (f := f) (ot := o.map .int) (de := mapK (rwD f) l)
  have h4 := gSort_dthL f
  have h5 : gNe (rollD f [] []) (rollD f [] []) = .ok false := roll_self f [] []
  have h6 : ∀ i ∈ dthL f, F_Book_deal ⟨f.map perD, [], [], mapK (rwD f) l, o.map .int⟩ [.int i] = .ok (rwL f i) := fun i hi => E_bdeal (ot := o.map .int) h.ok hi ((h.mem i).mpr hi)
  have s0 : startM 5 (bkS (f, l, o.map .int)) [rollD f [] [], .dict (mapK (rwD f) (dthL f)), .list (o.map .int)] = [.bk true false ⟨f.map perD, [], [], mapK (rwD f) l, o.map .int⟩, .val (rollD f [] []), .val (.dict (mapK (rwD f) (dthL f))), .val (.list (o.map .int)), .no] := rfl
  have c1 := compF_map (vs := [4]) (fi := seqI (valF (sortF (valF (listF (rD 2)))))) (g := gN 4) (ft := yesB) (fe := valF (cqS 0 1 F_Book_deal (consA (vD 4) nilA))) (δ := [.bk true false ⟨f.map perD, [], [], mapK (rwD f) l, o.map .int⟩, .val (rollD f [] []), .val (.dict (mapK (rwD f) (dthL f))), .val (.list (o.map .int)), .no]) (dthL f) PyData.int (fun _ => true) (rwD f) (by simp [h4]) (by have : f.length ≤ 20 := hfew; omega) fun i hi => by
      have h7 := h6 i hi
      generalize mapK (rwD f) l = M at *
      exact ⟨_, rfl, rfl, fun _ => by simp [h7]; rfl⟩
  have c2 := compF_map (vs := [4]) (fi := seqI (valF (sortF (valF (listF (rD 2)))))) (g := gN 4) (ft := yesB) (fe := ixD (rD 2) (rD 4)) (δ := [.bk true false ⟨f.map perD, [], [], mapK (rwD f) l, o.map .int⟩, .val (rollD f [] []), .val (.dict (mapK (rwD f) (dthL f))), .val (.list (o.map .int)), .no]) (dthL f) PyData.int (fun _ => true) (rwD f) (by simp [h4]) (by have : f.length ≤ 20 := hfew; omega) fun i hi => by
      have h8 := gIx_mapK (g := rwD f) (l := dthL f) hi
      generalize mapK (rwD f) (dthL f) = M at *
      exact ⟨_, rfl, rfl, fun _ => by simp [h8]⟩
  rw [List.filter_eq_self.mpr (fun _ _ => rfl)] at c1 c2
  have hp : plain 4 (.list ((dthL f).map (rwD f))) = true := by
    show plainA 3 _ = true
    rw [plainA_iff]
    intro d hd
    obtain ⟨i, hi, rfl⟩ := List.mem_map.mp hd
    exact rw_plain h.ok hi
  have h9 := gEq_true hp (by decide)
  unfold F__law_stands S__law_stands
  rw [runQ_ev, s0]
  generalize mapK (rwD f) l = M at *
  have h10 : gList (.dict (mapK (rwD f) (dthL f))) = .ok ((dthL f).map .int) := by simp
  generalize mapK (rwD f) (dthL f) = M2 at *
  simp [h1, h2, h3, h10, h4, h5, c1, c2, h9]
theorem cut_one (d : D) {k : Int} (h : 0 ≤ k) : cutL [d] none (some k) = if k = 0 then [] else [d] := by
  unfold cutL HT.sIx
  by_cases e : k = 0
  · subst e; simp
  · rw [if_neg e]
    have h1 : (min k.toNat 1) = 1 := by omega
    have h2 : ¬ k < 0 := by omega
    simp [h2, List.take_of_length_le, h1]
    try omega
theorem E_small (c : Int) : ∃ s : BS, BOk s ∧ s.2.2 = [0].map .int ∧ dthL s.1 = [0] ∧ ∃ r, (∃ B1 r1, F_Book_born Bk0 [.int 0, .list []] = .ok (r1, B1) ∧ ∃ B2 r2, F_Book_born B1 [.int 1, .list [.int 0]] = .ok (r2, B2) ∧ F_Book_died B2 [.int 0, .int (1 + c % 9)] = .ok (r, bkS s)) := by
  have hc0 := Int.emod_nonneg c (b := 9) (by decide)
  have hc1 := Int.emod_lt_of_pos c (b := 9) (by decide)
  obtain ⟨x, hx, x0, x1⟩ : ∃ x, 1 + c % 9 = x ∧ 1 ≤ x ∧ x ≤ 9 := ⟨_, rfl, by omega, by omega⟩
  rw [hx]
  have b0 : BOk (([], [], []) : BS) := ⟨⟨fun _ h => (nomatch h), Nat.zero_le _⟩, List.nodup_nil, fun j => by simp [dthL, rgI]⟩
  have d1 : DeOk ([] : Fam) (.born 0 []) := ⟨by decide, by decide, by decide, fun _ h => nomatch h⟩
  have b1 := b0.stp d1
  have d2 : DeOk (stp ([], [], []) (.born 0 [])).1 (.born 1 [0]) := ⟨by decide, by decide, by decide, fun i hi => by
    rw [List.mem_singleton] at hi; subst hi
    exact ⟨by decide, ⟨0, [], none, none⟩, rfl, by decide⟩⟩
  have b2 := b1.stp d2
  have d3 : DeOk (stp (stp ([], [], []) (.born 0 [])) (.born 1 [0])).1 (.died 0 x) := ⟨by omega, by decide, ⟨0, [], none, none⟩, rfl, rfl, by show (0 : Int) ≤ x; omega, fun _ h => nomatch h⟩
  have b3 := b2.stp d3
  obtain ⟨r1, e1⟩ := E_Bborn (ot := []) b0.ok d1 b0.nd b0.mem
  obtain ⟨r2, e2⟩ := E_Bborn (ot := (stp ([], [], []) (.born 0 [])).2.2) b1.ok d2 b1.nd b1.mem
  have e3 := E_Bdied (ot := (stp (stp ([], [], []) (.born 0 [])) (.born 1 [0])).2.2) b2.ok d3 b2.nd b2.mem
  have hd : dthL (stp (stp (stp ([], [], []) (.born 0 [])) (.born 1 [0])) (.died 0 x)).1 = [0] := rfl
  refine ⟨_, b3, ?_, hd, _, _, _, e1, _, _, e2, e3⟩
  have hl : (stp (stp ([], [], []) (.born 0 [])) (.born 1 [0])).2.1 = [] := rfl
  show ((dthL (doD (stp (stp ([], [], []) (.born 0 [])) (.born 1 [0])).1 (.died 0 x))).filter (newB _ _ (stp (stp ([], [], []) (.born 0 [])) (.born 1 [0])).2.1)).map PyData.int = _
  rw [hl]
  have hd' : dthL (doD (stp (stp ([], [], []) (.born 0 [])) (.born 1 [0])).1 (.died 0 x)) = [0] := hd
  rw [hd']
  simp [newB]
end K14
namespace K14
open PySem PySem.Spec PyProof.Rows L2 DL
variable [TabP]
/-- a family whose births rise: all but those of T are untouched -/
structure Inc (f : Fam) (n : Nat) (B : Int) (T : List Int) : Prop where
  len : f.length = n
  up : ∀ (i j : Nat) (p q : Per), i < j → f[i]? = some p → f[j]? = some q → p.born < q.born
  top : ∀ p ∈ f, p.born ≤ B
  free : ∀ (i : Nat) (p : Per), f[i]? = some p → (i : Int) ∉ T → p.died = none ∧ p.ad = none
def AOk : Nat → Int → List Int → List Deed → Prop
  | _, _, _, [] => True
  | n, B, T, .born d ps :: es => (n < 20 ∧ B < d ∧ 0 ≤ d ∧ d ≤ 100000 ∧ ps.length ≤ 1 ∧ ∀ i ∈ ps, 0 ≤ i ∧ i < n) ∧ AOk (n + 1) d T es
  | n, B, T, .died i d :: es => (B ≤ d ∧ 0 ≤ d ∧ d ≤ 100000 ∧ 0 ≤ i ∧ i < n ∧ i ∉ T) ∧ AOk n B (i :: T) es
  | n, B, T, .ado i d q :: es => (B ≤ d ∧ 0 ≤ d ∧ d ≤ 100000 ∧ 0 ≤ q ∧ q < i ∧ i < n ∧ i ∉ T) ∧ AOk n B (i :: T) es
def finA : Nat → Int → List Int → List Deed → Nat × Int × List Int
  | n, B, T, [] => (n, B, T)
  | n, _, T, .born d _ :: es => finA (n + 1) d T es
  | n, B, T, .died i _ :: es => finA n B (i :: T) es
  | n, B, T, .ado i _ _ :: es => finA n B (i :: T) es
theorem AOk.app : ∀ {es ds : List Deed} {n : Nat} {B : Int} {T : List Int}, AOk n B T es → AOk (finA n B T es).1 (finA n B T es).2.1 (finA n B T es).2.2 ds → AOk n B T (es ++ ds)
  | [], _, _, _, _, _, h => h
  | .born d ps :: es, ds, n, B, T, h, k => ⟨h.1, AOk.app h.2 k⟩
  | .died i d :: es, ds, n, B, T, h, k => ⟨h.1, AOk.app h.2 k⟩
  | .ado i d q :: es, ds, n, B, T, h, k => ⟨h.1, AOk.app h.2 k⟩
theorem Inc.upd {f : Fam} {n : Nat} {B : Int} {T : List Int} (h : Inc f n B T) {i : Int} {p : Per} {g : Per → Per} (h0 : 0 ≤ i) (hp : f[i.toNat]? = some p) (hg : (g p).born = p.born) : Inc (updP f i g) n B (i :: T) := by
  rw [updP_at hp]
  have hk := (List.getElem?_eq_some_iff.mp hp).1
  have old : ∀ {j : Nat} {q : Per}, (f.set i.toNat (g p))[j]? = some q → ∃ q', f[j]? = some q' ∧ q'.born = q.born ∧ (j ≠ i.toNat → q' = q) := fun {j q} e => by
    by_cases hj : i.toNat = j
    · subst hj
      rw [List.getElem?_set_self hk] at e
      cases e
      exact ⟨p, hp, hg.symm, fun z => absurd rfl z⟩
    · rw [List.getElem?_set_ne hj] at e
      exact ⟨q, e, rfl, fun _ => rfl⟩
  refine ⟨by rw [List.length_set]; exact h.len, fun a b pa pb hab ha hb => ?_, fun q hq => ?_, fun j q hj hT => ?_⟩
  · obtain ⟨qa, ea, ba, _⟩ := old ha
    obtain ⟨qb, eb, bb, _⟩ := old hb
    rw [← ba, ← bb]
    exact h.up a b qa qb hab ea eb
  · obtain ⟨j, hj⟩ := List.mem_iff_getElem?.mp hq
    obtain ⟨q', e, b, _⟩ := old hj
    rw [← b]
    exact h.top q' (List.mem_of_getElem? e)
  · obtain ⟨q', e, _, z⟩ := old hj
    rw [List.mem_cons, not_or] at hT
    rw [← z (fun e => hT.1 (by omega))]
    exact h.free j q' e hT.2
theorem AOk.all : ∀ {es : List Deed} {f : Fam} {n : Nat} {B : Int} {T : List Int}, Inc f n B T → AOk n B T es → AllOk f es
  | [], _, _, _, _, _, _ => trivial
  | .born d ps :: es, f, n, B, T, h, k => by
    obtain ⟨⟨k1, k2, k3, k4, k5, k6⟩, k7⟩ := k
    have hl := h.len
    refine ⟨⟨by omega, ⟨k3, k4⟩, k5, fun i hi => ?_⟩, AOk.all ?_ k7⟩
    · obtain ⟨z0, z1⟩ := k6 i hi
      obtain ⟨p, hp⟩ := fam_lt (f := f) (j := i) z0 (by omega)
      exact ⟨z0, p, hp, by have := h.top p (List.mem_of_getElem? hp); omega⟩
    · show Inc (f ++ [⟨d, ps, none, none⟩]) (n + 1) d T
      have old : ∀ {j : Nat} {q : Per}, (f ++ [(⟨d, ps, none, none⟩ : Per)])[j]? = some q → f[j]? = some q ∨ (j = f.length ∧ q = ⟨d, ps, none, none⟩) := fun {j q} e => by
        by_cases hj : j < f.length
        · rw [List.getElem?_append_left hj] at e; exact .inl e
        · rw [List.getElem?_append_right (by omega)] at e
          by_cases hj2 : j = f.length
          · subst hj2; simp at e; exact .inr ⟨rfl, e.symm⟩
          · rw [List.getElem?_eq_none (by simp; omega)] at e; cases e
      refine ⟨by rw [List.length_append, hl]; rfl, fun a b pa pb hab ha hb => ?_, fun q hq => ?_, fun j q hj hT => ?_⟩
      · rcases old ha with ea | ⟨ea, rfl⟩ <;> rcases old hb with eb | ⟨eb, rfl⟩
        · exact h.up a b pa pb hab ea eb
        · have := h.top pa (List.mem_of_getElem? ea); show pa.born < d; omega
        · have := (List.getElem?_eq_some_iff.mp eb).1; omega
        · omega
      · obtain ⟨j, hj⟩ := List.mem_iff_getElem?.mp hq
        rcases old hj with e | ⟨_, rfl⟩
        · have := h.top q (List.mem_of_getElem? e); omega
        · exact Int.le_refl _
      · rcases old hj with e | ⟨_, rfl⟩
        · exact h.free j q e hT
        · exact ⟨rfl, rfl⟩
  | .died i d :: es, f, n, B, T, h, k => by
    obtain ⟨⟨k1, k2, k3, k4, k5, k6⟩, k7⟩ := k
    have hl := h.len
    obtain ⟨p, hp⟩ := fam_lt (f := f) (j := i) k4 (by omega)
    have hf := h.free i.toNat p hp (by rw [Int.toNat_of_nonneg k4]; exact k6)
    have ht := h.top p (List.mem_of_getElem? hp)
    exact ⟨⟨⟨k2, k3⟩, k4, p, hp, hf.1, by omega, fun a ha => by rw [hf.2] at ha; cases ha⟩, AOk.all (h.upd k4 hp rfl) k7⟩
  | .ado i d q :: es, f, n, B, T, h, k => by
    obtain ⟨⟨k1, k2, k3, k4, k5, k5b, k6⟩, k7⟩ := k
    have hl := h.len
    obtain ⟨p, hp⟩ := fam_lt (f := f) (j := i) (by omega) (by omega)
    obtain ⟨pq, hq⟩ := fam_lt (f := f) (j := q) k4 (by omega)
    have hf := h.free i.toNat p hp (by rw [Int.toNat_of_nonneg (by omega)]; exact k6)
    have ht := h.top p (List.mem_of_getElem? hp)
    exact ⟨⟨⟨k2, k3⟩, by omega, k4, p, pq, hp, hq, hf.1, by omega, hf.2, h.up q.toNat i.toNat pq p (by omega) hq hp⟩, AOk.all (h.upd (g := fun p => { p with ad := some (d, [q]) }) (by omega) hp rfl) k7⟩
/-- the line that is told first -/
def lnE (m : Nat) (x a : Int) : List Deed := (rgI m).map (fun k => Deed.born (10 * k) (if k = 0 then [] else [k - 1])) ++ [Deed.born (10 * m) [x]] ++ (rgI (m - 2)).map (fun j => Deed.died (1 + j) (10 * m + 50 + a + (1 + j))) ++ [Deed.died 0 (10 * m + 150)]
def lnM (m : Nat) (b1 b2 : Int) (e : Deed) : List Deed := [Deed.born (10 * m + 50 + b1) [(m : Int) - 1], Deed.died ((m : Int) - 1) (10 * m + 120 + b2), e]
def LastOk (m : Nat) (e : Deed) : Prop := (∃ b : Int, 0 ≤ b ∧ b ≤ 39 ∧ e = .died m (10 * m + 130 + b)) ∨ ∃ b : Int, 0 ≤ b ∧ b ≤ 59 ∧ e = .ado m (10 * m + 110 + b) ((m : Int) - 1)
def isAdo : Deed → Bool
  | .ado _ _ _ => true
  | _ => false
def keepD (sk : Bool) (e : Deed) : Bool := !(sk && isAdo e)
theorem lnE_ok {m : Nat} {x a : Int} (hm : 10 ≤ m ∧ m ≤ 13) (hx : 0 ≤ x ∧ x < (m : Int) - 2) (ha : 0 ≤ a ∧ a ≤ 6) : AOk 0 (-1) [] (lnE m x a) ∧ (finA 0 (-1) [] (lnE m x a)).1 = m + 1 ∧ (finA 0 (-1) [] (lnE m x a)).2.1 = 10 * m ∧ ∀ i ∈ (finA 0 (-1) [] (lnE m x a)).2.2, 0 ≤ i ∧ i < (m : Int) - 1 := by
  obtain ⟨h1, h2⟩ := hm
  have r8 : rgI 8 = [0, 1, 2, 3, 4, 5, 6, 7] := rfl
  have r9 : rgI 9 = [0, 1, 2, 3, 4, 5, 6, 7, 8] := rfl
  have r10 : rgI 10 = [0, 1, 2, 3, 4, 5, 6, 7, 8, 9] := rfl
  have r11 : rgI 11 = [0, 1, 2, 3, 4, 5, 6, 7, 8, 9, 10] := rfl
  have r12 : rgI 12 = [0, 1, 2, 3, 4, 5, 6, 7, 8, 9, 10, 11] := rfl
  have r13 : rgI 13 = [0, 1, 2, 3, 4, 5, 6, 7, 8, 9, 10, 11, 12] := rfl
  have hc : m = 10 ∨ m = 11 ∨ m = 12 ∨ m = 13 := by omega
  rcases hc with rfl | rfl | rfl | rfl
  · refine ⟨?_, ?_, ?_, ?_⟩ <;> simp [lnE, r8, r10, AOk, finA] <;> omega
  · refine ⟨?_, ?_, ?_, ?_⟩ <;> simp [lnE, r9, r11, AOk, finA] <;> omega
  · refine ⟨?_, ?_, ?_, ?_⟩ <;> simp [lnE, r10, r12, AOk, finA] <;> omega
  · refine ⟨?_, ?_, ?_, ?_⟩ <;> simp [lnE, r11, r13, AOk, finA] <;> omega
theorem lnM_ok {m n : Nat} {b1 b2 B : Int} {e : Deed} {T : List Int} {z : Nat} (sk : Bool) (hm : 10 ≤ m ∧ m ≤ 13) (hb : 0 ≤ b1 ∧ b1 ≤ 29) (hb2 : 0 ≤ b2 ∧ b2 ≤ 59) (he : LastOk m e) (hz : z ≤ 2) (hn : n = m + 1) (hB : B = 10 * m) (hT : ∀ i ∈ T, 0 ≤ i ∧ i < (m : Int) - 1) : AOk n B T (((lnM m b1 b2 e).drop z ++ (lnM m b1 b2 e).take z).filter (keepD sk)) := by
  subst hn
  subst hB
  have t1 : ((m : Int) - 1) ∉ T := fun h => by have := hT _ h; omega
  have t2 : (m : Int) ∉ T := fun h => by have := hT _ h; omega
  have hc : z = 0 ∨ z = 1 ∨ z = 2 := by omega
  rcases he with ⟨b, k0, k1, rfl⟩ | ⟨b, k0, k1, rfl⟩ <;> rcases hc with rfl | rfl | rfl <;> cases sk <;> simp [lnM, keepD, isAdo, AOk, t1, t2] <;> omega
end K14
namespace K14
open PySem PySem.Spec PyProof.Rows L2 DL
variable [TabP]
theorem E_line {c : Int} (h0 : 0 ≤ c) (h1 : c < 10 ^ 12) : ∃ (m : Nat) (x a b1 b2 : Int) (e : Deed) (z : Nat), (10 ≤ m ∧ m ≤ 13) ∧ (0 ≤ x ∧ x < (m : Int) - 2) ∧ (0 ≤ a ∧ a ≤ 6) ∧ (0 ≤ b1 ∧ b1 ≤ 29) ∧ (0 ≤ b2 ∧ b2 ≤ 59) ∧ LastOk m e ∧ z ≤ 2 ∧
    F__law_line [.int c] = .ok (.tuple [.list ((lnE m x a).map deD), .list (((lnM m b1 b2 e).drop z ++ (lnM m b1 b2 e).take z).map deD)]) := by
  obtain ⟨m, hm, hm1, hm2⟩ : ∃ m : Nat, 10 + c % 4 = (m : Int) ∧ 10 ≤ m ∧ m ≤ 13 := ⟨(10 + c % 4).toNat, by omega, by omega, by omega⟩
  obtain ⟨a, ha, ha0, ha1⟩ : ∃ a, c / 52 % 7 = a ∧ 0 ≤ a ∧ a ≤ 6 := ⟨_, rfl, by omega, by omega⟩
  obtain ⟨b1, hb, hb0, hb1⟩ : ∃ a, c / 364 % 30 = a ∧ 0 ≤ a ∧ a ≤ 29 := ⟨_, rfl, by omega, by omega⟩
  obtain ⟨b2, hd, hd0, hd1⟩ : ∃ a, c / 11000 % 60 = a ∧ 0 ≤ a ∧ a ≤ 59 := ⟨_, rfl, by omega, by omega⟩
  obtain ⟨z, hz, hz1⟩ : ∃ z : Nat, c / 60000000 % 3 = (z : Int) ∧ z ≤ 2 := ⟨(c / 60000000 % 3).toNat, by omega, by omega⟩
  have mp : 0 < (m : Int) - 2 := by omega
  obtain ⟨x, hx, hx0, hx1⟩ : ∃ x, c / 4 % ((m : Int) - 2) = x ∧ 0 ≤ x ∧ x < (m : Int) - 2 := ⟨_, rfl, Int.emod_nonneg _ (by omega), Int.emod_lt_of_pos _ mp⟩
  have k1 := compF_map (vs := [7]) (fi := rngI (rD 1)) (g := gN 7) (ft := yesB) (fe := tupD (consA (cD (.str "born")) (consA (mulD (cD (.int 10)) (rD 7)) (consA (valF (slF (valF (lstF (consA (subD (rD 7) (cD (.int 1))) nilA))) noO (someO (rD 7)))) nilA)))) (δ := [.val (.int c), .val (.int m), .val (.int (10 * m + 50)), .val (.int m), .no, .no, .no, .no]) (rgI m) PyData.int (fun _ => true) (fun k => deD (.born (10 * k) (if k = 0 then [] else [k - 1]))) (by
      have := gR1_ok (n := (m : Int)) (by omega) (by omega)
      rw [Int.toNat_natCast] at this
      simpa using this) (by simp; omega) fun k hk => ⟨_, rfl, rfl, fun _ => by
      obtain ⟨j0, j1⟩ := mem_rgI.mp hk
      have hmul : i2 gMul (.int 10) (.int k) = .ok (.int (10 * k)) := mul_sm (by decide) (by omega)
      by_cases e : k = 0
      · subst e; simp [hmul, cut_one, deD]
      · simp [hmul, cut_one (PyData.int (k - 1)) j0, e, deD]⟩
  have k2 := compF_map (vs := [7]) (fi := rngI2 (cD (.int 1)) (subD (rD 1) (cD (.int 1)))) (g := gN 7) (ft := yesB) (fe := tupD (consA (cD (.str "died")) (consA (vD 7) (consA (addD (addD (rD 2) (modD (divD (rD 0) (cD (.int 52))) (cD (.int 7)))) (rD 7)) nilA)))) (δ := [.val (.int c), .val (.int m), .val (.int (10 * m + 50)), .val (.int m), .own ((rgI m).map (fun k => deD (.born (10 * k) (if k = 0 then [] else [k - 1]))) ++ [deD (.born (10 * m) [x])]), .no, .no, .no]) (rgI (m - 2)) (fun j => .int (1 + j)) (fun _ => true) (fun j => deD (.died (1 + j) (10 * m + 50 + a + (1 + j)))) (by
      have s1 : smI 1 = true := smI_ok (by decide) (by decide)
      have s2 : smI ((m : Int) - 1) = true := smI_ok (by omega) (by omega)
      have s3 : ((m : Int) - 1 - 1).toNat = m - 2 := by omega
      simp [gR2, s1, s2, s3, rgL, rgI, List.map_map, Function.comp_def]) (by simp; omega) fun k hk => ⟨_, rfl, rfl, fun _ => by
      simp [div_sm, i2_mod, ha, deD]⟩
  rw [List.filter_eq_self.mpr (fun _ _ => rfl)] at k1 k2
  have mul1 : i2 gMul (.int 10) (.int m) = .ok (.int (10 * m)) := mul_sm (by decide) (by omega)
  have len1 : (rgI m).length = m := rgI_len m
  have len2 : (rgI (m - 2)).length = m - 2 := rgI_len _
  have q1 : (((rgI m).map (fun k => deD (.born (10 * k) (if k = 0 then [] else [k - 1]))) ++ [deD (.born (10 * m) [x])]) ++ (rgI (m - 2)).map (fun j => deD (.died (1 + j) (10 * m + 50 + a + (1 + j))))) ++ [deD (.died 0 (10 * m + 150))] = (lnE m x a).map deD := by
    unfold lnE
    simp [List.map_append, List.map_map, Function.comp_def]
  obtain ⟨e, he, hs⟩ : ∃ e, LastOk m e ∧ ∀ rest : DL.Env → Fl, ∀ s4 : Sl, (seqS (ifS (eqB (modD (divD (rD 0) (cD (.int 700000))) (cD (.int 2))) (cD (.int 0)))
      (appS 5 (tupD (consA (cD (.str "died")) (consA (vD 3) (consA (addD (addD (rD 2) (cD (.int 80))) (modD (divD (rD 0) (cD (.int 1500000))) (cD (.int 40)))) nilA)))))
      (appS 5 (tupD (consA (cD (.str "adopted")) (consA (vD 3) (consA (addD (addD (rD 2) (cD (.int 60))) (modD (divD (rD 0) (cD (.int 1500000))) (cD (.int 60)))) (consA (valF (lstF (consA (subD (rD 1) (cD (.int 1))) nilA))) nilA))))))) rest) [.val (.int c), .val (.int m), .val (.int (10 * m + 50)), .val (.int m), s4, .own [deD (.born (10 * m + 50 + b1) [(m : Int) - 1]), deD (.died ((m : Int) - 1) (10 * m + 120 + b2))], .no, .no] = rest [.val (.int c), .val (.int m), .val (.int (10 * m + 50)), .val (.int m), s4, .own ((lnM m b1 b2 e).map deD), .no, .no] := by
    by_cases hc : c / 700000 % 2 = 0
    · refine ⟨.died m (10 * m + 130 + c / 1500000 % 40), .inl ⟨c / 1500000 % 40, by omega, by omega, rfl⟩, fun rest s4 => ?_⟩
      have ad : (10 * (m : Int) + 50 + 80 + c / 1500000 % 40) = 10 * m + 130 + c / 1500000 % 40 := by omega
      simp [div_sm, i2_mod, hc, lnM, deD, ad]
    · refine ⟨.ado m (10 * m + 110 + c / 1500000 % 60) ((m : Int) - 1), .inr ⟨c / 1500000 % 60, by omega, by omega, rfl⟩, fun rest s4 => ?_⟩
      have ad : (10 * (m : Int) + 50 + 60 + c / 1500000 % 60) = 10 * m + 110 + c / 1500000 % 60 := by omega
      simp [div_sm, i2_mod, hc, lnM, deD, ad]
  refine ⟨m, x, a, b1, b2, e, z, ⟨hm1, hm2⟩, ⟨hx0, hx1⟩, ⟨ha0, ha1⟩, ⟨hb0, hb1⟩, ⟨hd0, hd1⟩, he, hz1, ?_⟩
  unfold F__law_line S__law_line
  simp only [runD_ev]
  have s0 : startE 8 [.int c] = [.val (.int c), .no, .no, .no, .no, .no, .no, .no] := rfl
  rw [s0]
  rw [step (δ' := [.val (.int c), .val (.int m), .no, .no, .no, .no, .no, .no]) (by simp [i2_mod, hm]) rfl]
  rw [step (δ' := [.val (.int c), .val (.int m), .val (.int (10 * m + 50)), .no, .no, .no, .no, .no]) (by simp [mul1]) rfl]
  rw [step (δ' := [.val (.int c), .val (.int m), .val (.int (10 * m + 50)), .val (.int m), .no, .no, .no, .no]) (by simp) rfl]
  rw [step (δ' := [.val (.int c), .val (.int m), .val (.int (10 * m + 50)), .val (.int m), .own ((rgI m).map (fun k => deD (.born (10 * k) (if k = 0 then [] else [k - 1])))), .no, .no, .no]) (by simp only [setF_ev, k1]; rfl) rfl]
  have lm : m < 16777216 := by omega
  rw [step (δ' := [.val (.int c), .val (.int m), .val (.int (10 * m + 50)), .val (.int m), .own ((rgI m).map (fun k => deD (.born (10 * k) (if k = 0 then [] else [k - 1]))) ++ [deD (.born (10 * m) [x])]), .no, .no, .no]) (by simp [mul1, div_sm, i2_mod mp, hx, lm, deD]) rfl]
  rw [step (δ' := [.val (.int c), .val (.int m), .val (.int (10 * m + 50)), .val (.int m), .own (((rgI m).map (fun k => deD (.born (10 * k) (if k = 0 then [] else [k - 1]))) ++ [deD (.born (10 * m) [x])]) ++ (rgI (m - 2)).map (fun j => deD (.died (1 + j) (10 * m + 50 + a + (1 + j))))), .no, .no, .no]) (by
    simp only [setF_ev, catF_ev, valF_ev, rD_ev]
    rw [k2]
    have : ∀ ys : List D, ys.length = m + 1 → szL (ys ++ (rgI (m - 2)).map (fun j => deD (.died (1 + j) (10 * m + 50 + a + (1 + j))))) = .ok (ys ++ (rgI (m - 2)).map (fun j => deD (.died (1 + j) (10 * m + 50 + a + (1 + j))))) := fun ys hy => szL_ok (by rw [List.length_append, List.length_map, len2]; omega)
    have l1 : ((rgI m).map (fun k => deD (.born (10 * k) (if k = 0 then [] else [k - 1]))) ++ [deD (.born (10 * m) [x])]).length = m + 1 := by rw [List.length_append, List.length_map, len1]; rfl
    generalize (rgI m).map (fun k => deD (.born (10 * k) (if k = 0 then [] else [k - 1]))) ++ [deD (.born (10 * m) [x])] = Y at *
    simp [this Y l1]) rfl]
  rw [step (δ' := [.val (.int c), .val (.int m), .val (.int (10 * m + 50)), .val (.int m), .own ((lnE m x a).map deD), .no, .no, .no]) (by
    rw [← q1]
    have l2 : (((rgI m).map (fun k => deD (.born (10 * k) (if k = 0 then [] else [k - 1]))) ++ [deD (.born (10 * m) [x])]) ++ (rgI (m - 2)).map (fun j => deD (.died (1 + j) (10 * m + 50 + a + (1 + j))))).length < 16777216 := by
      rw [List.length_append, List.length_append, List.length_map, List.length_map, len1, len2, List.length_singleton]; omega
    generalize ((rgI m).map (fun k => deD (.born (10 * k) (if k = 0 then [] else [k - 1]))) ++ [deD (.born (10 * m) [x])]) ++ (rgI (m - 2)).map (fun j => deD (.died (1 + j) (10 * m + 50 + a + (1 + j)))) = Y at *
    have ad : 10 * (m : Int) + 50 + 100 = 10 * m + 150 := by omega
    simp [l2, deD, ad]) rfl]
  generalize (lnE m x a).map deD = Y at *
  simp only [frzT_ev, frzE_ev]
  have fz : frzO 4 [.val (.int c), .val (.int m), .val (.int (10 * m + 50)), .val (.int m), .own Y, .no, .no, .no] (some (.own Y)) = [.val (.int c), .val (.int m), .val (.int (10 * m + 50)), .val (.int m), .val (.list Y), .no, .no, .no] := rfl
  rw [show ([.val (.int c), .val (.int m), .val (.int (10 * m + 50)), .val (.int m), .own Y, .no, .no, .no] : DL.Env)[4]? = some (.own Y) from rfl, fz]
  rw [step (δ' := [.val (.int c), .val (.int m), .val (.int (10 * m + 50)), .val (.int m), .val (.list Y), .own [deD (.born (10 * m + 50 + b1) [(m : Int) - 1]), deD (.died ((m : Int) - 1) (10 * m + 120 + b2))], .no, .no]) (by
    have ad : 10 * (m : Int) + 50 + 70 + b2 = 10 * m + 120 + b2 := by omega
    simp [div_sm, i2_mod, hb, hd, deD, ad]) rfl]
  rw [hs]
  have hc : z = 0 ∨ z = 1 ∨ z = 2 := by omega
  rcases hc with rfl | rfl | rfl <;> simp [div_sm, i2_mod, hz, lnM, cutL, HT.sIx, List.map_append, List.map_drop, List.map_take]
end K14
namespace K14
open PySem PySem.Spec PyProof.Rows L2 DL
variable [TabP]
theorem newB_congr {f : Fam} {W : Int → D} {l l' : List Int} (h : ∀ j, j ∈ l ↔ j ∈ l') : newB f W l = newB f W l' := by
  funext j
  unfold newB
  have : decide (j ∈ l) = decide (j ∈ l') := by by_cases e : j ∈ l <;> simp [e, (h j).mp, ← h j]
  rw [this]
theorem loop1 {S r2 r3 r4 r5 r6 : Sl} : ∀ (es : List Deed) (s : BS), BOk s → AllOk s.1 es →
    loopL [8] (gN 8) B_law_1 (es.map deD) [S, .bk false false (bkS s), r2, r3, r4, r5, r6, .val (rollD s.1 [] []), .no, .no, .no, .no, .no] = .nx [S, .bk false false (bkS (stpL s es)), r2, r3, r4, r5, r6, .val (rollD (stpL s es).1 [] []), .no, .no, .no, .no, .no]
  | [], s, _, _ => rfl
  | e :: es, s, h, a => by
    obtain ⟨r, ht⟩ := tellS h a.1
    have hd := E_done h.ok a.1
    have ih := loop1 (S := S) (r2 := r2) (r3 := r3) (r4 := r4) (r5 := r5) (r6 := r6) es (stp s e) (h.stp a.1) a.2
    rw [List.map_cons]
    refine (loopL_nx (δ' := [S, .bk false false (bkS (stp s e)), r2, r3, r4, r5, r6, .val (rollD (stp s e).1 [] []), .no, .no, .no, .no, .no]) ?_).trans ih
    have hd' : F__law_done [rollD s.1 [] [], deD e] = .ok (rollD (stp s e).1 [] []) := hd
    generalize bkS (stp s e) = B' at *
    generalize bkS s = B at *
    generalize rollD (stp s e).1 [] [] = R' at *
    generalize rollD s.1 [] [] = R at *
    generalize deD e = E at *
    unfold turnE B_law_1
    simp [ht, hd']
theorem E_isAdo (e : Deed) : (gIx (deD e) (.int 0)).bind (fun y => gEq y (.str "adopted")) = .ok (isAdo e) := by
  cases e <;> simp [deD, isAdo]
theorem loop2 {S : D} {c2 : Int} (hc : F__law_cell_at [S, .int 2] = .ok (.int c2)) {r2 r3 r4 r5 r6 : Sl} : ∀ (es : List Deed) (s : BS) (r8 : Sl), BOk s → AllOk s.1 (es.filter (keepD (decide (c2 % 3 = 0)))) → ∃ s' r8',
    loopL [10, 11] (gN 8) B_law_2 (es.map deD) [.val S, .bk false false (bkS s), r2, r3, r4, r5, r6, .val (rollD s.1 [] []), r8, .val (.dict (mapK (rwD s.1) (dthL s.1))), .no, .no, .no] = .nx [.val S, .bk false false (bkS s'), r2, r3, r4, r5, r6, .val (rollD s'.1 [] []), r8', .val (.dict (mapK (rwD s'.1) (dthL s'.1))), .no, .no, .no]
  | [], s, r8, _, _ => ⟨s, r8, rfl⟩
  | e :: es, s, r8, h, a => by
    rw [List.filter_cons] at a
    have hia := E_isAdo e
    have hmod : i2 gMod (.int c2) (.int 3) = .ok (.int (c2 % 3)) := i2_mod (by decide)
    by_cases hk : keepD (decide (c2 % 3 = 0)) e = true
    · rw [if_pos hk] at a
      obtain ⟨a1, a2⟩ := a
      have hk' : ¬ (isAdo e = true ∧ c2 % 3 = 0) := fun z => by simp [keepD, z.1, z.2] at hk
      obtain ⟨r, ht⟩ := tellS h a1
      have hd : F__law_done [rollD s.1 [] [], deD e] = .ok (rollD (stp s e).1 [] []) := E_done h.ok a1
      have h2 := h.stp a1
      have hdl := E_ldeals h2.ok
      obtain ⟨s', r8', ih⟩ := loop2 hc (r2 := r2) (r3 := r3) (r4 := r4) (r5 := r5) (r6 := r6) es (stp s e) (.val (deD e)) h2 a2
      refine ⟨s', r8', ?_⟩
      rw [List.map_cons]
      refine (loopL_nx (δ' := [.val S, .bk false false (bkS (stp s e)), r2, r3, r4, r5, r6, .val (rollD (stp s e).1 [] []), .val (deD e), .val (.dict (mapK (rwD (stp s e).1) (dthL (stp s e).1))), .no, .no, .no]) ?_).trans ih
      have hst : F__law_stands (bkS (stp s e)) [rollD (stp s e).1 [] [], .dict (mapK (rwD (stp s e).1) (dthL (stp s e).1)), .list (stp s e).2.2] = .ok (.bool true) := E_stands h2 rfl
      have hot : (stp s e).2.2 = ((dthL (stp s e).1).filter (newB (stp s e).1 (rwD s.1) (dthL s.1))).map .int := by
        rw [← newB_congr h.mem]; rfl
      have hrw : ∀ j ∈ dthL s.1, plain 3 (rwD s.1 j) = true := fun j hj => rw_plain h.ok hj
      have hrw2 : ∀ j ∈ dthL (stp s e).1, plain 3 (rwD (stp s e).1 j) = true := fun j hj => rw_plain h2.ok hj
      have hsrt := gSort_dthL (stp s e).1
      have hlen := Nat.le_trans (dthL_len (stp s e).1) h2.ok.few
      generalize bkS (stp s e) = B' at *
      generalize bkS s = B at *
      generalize hf' : (stp s e).1 = f' at *
      generalize (stp s e).2.2 = O at *
      generalize hf : s.1 = f at *
      have cmp := compF_map (vs := [12]) (fi := seqI (valF (sortF (valF (listF (rD 10)))))) (g := gN 12) (ft := orB (ninB (rD 12) (rD 9)) (neB (ixD (rD 9) (rD 12)) (ixD (rD 10) (rD 12)))) (fe := vD 12) (δ := [.val S, .bk false false B', r2, r3, r4, r5, r6, .val (rollD f' [] []), .val (deD e), .val (.dict (mapK (rwD f) (dthL f))), .val (.dict (mapK (rwD f') (dthL f'))), .no, .no]) (dthL f') PyData.int (newB f' (rwD f) (dthL f)) PyData.int (by simp [hsrt]) (by omega) fun j hj => by
          refine ⟨_, rfl, ?_, fun _ => by simp⟩
          have g1 := gIn_mapK (g := rwD f) (l := dthL f) (i := j)
          have g3 := gIx_mapK (g := rwD f') (l := dthL f') hj
          unfold newB
          by_cases hjf : j ∈ dthL f
          · have g2 := gIx_mapK (g := rwD f) (l := dthL f) hjf
            have g4 := gNe_pl (hrw j hjf) (by decide) (hrw2 j hj) (by decide)
            rw [sameB_comm] at g4
            generalize mapK (rwD f) (dthL f) = M at *
            generalize mapK (rwD f') (dthL f') = M' at *
            simp [g1, g2, g3, g4, hjf]
          · generalize mapK (rwD f) (dthL f) = M at *
            simp [g1, hjf]
      rw [← hot] at cmp
      generalize rollD f' [] [] = R' at *
      generalize rollD f [] [] = R at *
      generalize mapK (rwD f) (dthL f) = M at *
      generalize mapK (rwD f') (dthL f') = M' at *
      generalize deD e = E at *
      unfold turnE B_law_2
      have hg : (andB (eqB (ixD (rD 8) (cD (.int 0))) (cD (.str "adopted"))) (eqB (modD (callD 2 F__law_cell_at (consA (vD 0) (consA (cD (.int 2)) nilA))) (cD (.int 3))) (cD (.int 0)))) [.val S, .bk false false B, r2, r3, r4, r5, r6, .val R, .val E, .val (.dict M), .no, .no, .no] = .ok false := by
        simp only [andB_ev, eqB_ev, ixD_ev, rD_ev, cD_ev]
        have : ∀ k : D → Res D, ((gIx E (.int 0)).bind fun x => (Res.ok (PyData.str "adopted")).bind fun y => gEq x y) = .ok (isAdo e) := fun _ => by simpa using hia
        simp at hia ⊢
        rw [hia]
        cases hA : isAdo e with
        | false => simp
        | true =>
          have : ¬ c2 % 3 = 0 := fun z => hk' ⟨hA, z⟩
          simp [hc, hmod, this]
      simp [hg, ht, hd, hdl, cmp, hst, -andB_ev]
    · rw [if_neg hk] at a
      have hk' : isAdo e = true ∧ c2 % 3 = 0 := by
        unfold keepD at hk
        cases hA : isAdo e <;> simp [hA] at hk ⊢
        exact hk
      obtain ⟨s', r8', ih⟩ := loop2 hc (r2 := r2) (r3 := r3) (r4 := r4) (r5 := r5) (r6 := r6) es s (.val (deD e)) h a
      refine ⟨s', r8', ?_⟩
      rw [List.map_cons]
      refine (loopL_nx (δ' := [.val S, .bk false false (bkS s), r2, r3, r4, r5, r6, .val (rollD s.1 [] []), .val (deD e), .val (.dict (mapK (rwD s.1) (dthL s.1))), .no, .no, .no]) ?_).trans ih
      generalize bkS s = B at *
      generalize rollD s.1 [] [] = R at *
      generalize mapK (rwD s.1) (dthL s.1) = M at *
      generalize deD e = E at *
      unfold turnE B_law_2
      have hx : (((gIx E (.int 0)).bind fun x => gEq x (.str "adopted")).bind fun b => if b = true then (Res.ok (decide (c2 % 3 = 0))) else .ok false) = .ok true := by rw [hia]; simp [hk'.1, hk'.2]
      simp [hc, hmod, hia, hk'.1, hk'.2]
theorem law_true (ns : List Int) (h : ns.length ≤ 63) : F_law [scrD (ns.map PyData.int)] = .ok (.bool true) := by
  obtain ⟨c0, e0⟩ := E_cell_at ns 0 (by decide)
  obtain ⟨c1, e1⟩ := E_cell_at ns 1 (by decide)
  obtain ⟨c2, e2⟩ := E_cell_at ns 2 (by decide)
  generalize hS : scrD (ns.map PyData.int) = S at *
  have mp : (0 : Int) < 10 ^ 12 := by decide
  obtain ⟨m, x, a, b1, b2, e, z, hm, hx, ha, hb1, hb2, he, hz, hl⟩ := E_line (c := c0 % 10 ^ 12) (Int.emod_nonneg _ (by decide)) (Int.emod_lt_of_pos _ mp)
  obtain ⟨so, bo, ot, dl, r, B1, r1, q1, B2, r2, q2, q3⟩ := E_small c1
  have hdeal : F_Book_deal (bkS so) [.int 0] = .ok (rwL so.1 0) := E_bdeal bo.ok (by rw [dl]; simp) ((bo.mem 0).mpr (by rw [dl]; simp))
  have hdead : F_Book_dead (bkS so) [] = .ok [.int 0] := by
    have := E_bdead (f := so.1) (ma := []) (wi := []) (ot := so.2.2) (de := mapK (rwD so.1) so.2.1) (by have := bo.ok.few; omega)
    rw [dl] at this
    exact this
  have hanew : F_Book_anew (bkS so) [] = .ok [.int 0] := by
    have := E_banew (f := so.1) (ot := so.2.2) (de := mapK (rwD so.1) so.2.1)
    refine this.trans ?_
    rw [ot]; rfl
  have hself : gEq (.list (rwL so.1 0)) (.list (rwL so.1 0)) = .ok true := gEq_true (rw_plain bo.ok (by rw [dl]; simp)) (by decide)
  have hone : gEq (.list [.int 0]) (.list [.int 0]) = .ok true := by simpa using gEq_lst [0] [0]
  have b0 : BOk (([], [], []) : BS) := ⟨⟨fun _ h => (nomatch h), Nat.zero_le _⟩, List.nodup_nil, fun j => by simp [dthL, rgI]⟩
  obtain ⟨k1, k2, k3, k4⟩ := lnE_ok hm hx ha
  have k5 := lnM_ok (b1 := b1) (b2 := b2) (e := e) (z := z) (decide (c2 % 3 = 0)) hm hb1 hb2 he hz k2 k3 k4
  have k6 := AOk.all (f := []) ⟨rfl, fun i j p q _ h => by simp at h, fun _ h => (nomatch h), fun i p h => by simp at h⟩ (AOk.app k1 k5)
  rw [AllOk.app] at k6
  have bs := b0.all k6.1 (lnE m x a).length
  rw [List.take_length] at bs
  have l1 := loop1 (S := .val S) (r2 := .bk false false (bkS so)) (r3 := .no) (r4 := .val (.list (rwL so.1 0))) (r5 := .val (.list ((lnE m x a).map deD))) (r6 := .val (.list (((lnM m b1 b2 e).drop z ++ (lnM m b1 b2 e).take z).map deD))) (lnE m x a) ([], [], []) b0 k6.1
  obtain ⟨s', r8', l2⟩ := loop2 e2 (r2 := .bk false false (bkS so)) (r3 := .no) (r4 := .val (.list (rwL so.1 0))) (r5 := .val (.list ((lnE m x a).map deD))) (r6 := .val (.list (((lnM m b1 b2 e).drop z ++ (lnM m b1 b2 e).take z).map deD))) ((lnM m b1 b2 e).drop z ++ (lnM m b1 b2 e).take z) (stpL ([], [], []) (lnE m x a)) .no bs (by rw [stpL_fam]; exact k6.2)
  have hdl := E_ldeals bs.ok
  generalize (((lnM m b1 b2 e).drop z ++ (lnM m b1 b2 e).take z).map deD) = Y2 at *
  generalize ((lnE m x a).map deD) = Y1 at *
  generalize stpL ([], [], []) (lnE m x a) = s1 at *
  have hr0 : rollD (([], [], []) : BS).1 [] [] = .tuple [.list [], .list [], .list []] := rfl
  have hb0 : bkS (([], [], []) : BS) = Bk0 := rfl
  rw [hr0, hb0] at l1
  unfold F_law S_law
  simp only [runD_ev]
  have s0 : startE 13 [S] = [.val S, .no, .no, .no, .no, .no, .no, .no, .no, .no, .no, .no, .no] := rfl
  rw [s0]
  rw [step (δ' := [.val S, .bk false false Bk0, .no, .no, .no, .no, .no, .no, .no, .no, .no, .no, .no]) (by simp) rfl]
  rw [step (δ' := [.val S, .bk false false Bk0, .bk false false Bk0, .no, .no, .no, .no, .no, .no, .no, .no, .no, .no]) (by simp) rfl]
  have hr2 : gR1 (.int 2) = .ok [.int 0, .int 1] := by
    have := gR1_ok (n := 2) (by decide) (by decide)
    exact this
  rw [step (δ' := [.val S, .bk false false Bk0, .bk false false B2, .no, .no, .no, .no, .no, .no, .no, .no, .no, .no]) (by
    simp only [forS_ev, rngI_ev, cD_ev, Res.bind_ok, hr2, onR_ok]
    rw [loopL_nx (δ' := [.val S, .bk false false Bk0, .bk false false B1, .no, .no, .no, .no, .no, .no, .no, .no, .no, .no]) (by
      unfold turnE B_law_0
      simp [cut_one, q1])]
    rw [loopL_nx (δ' := [.val S, .bk false false Bk0, .bk false false B2, .no, .no, .no, .no, .no, .no, .no, .no, .no, .no]) (by
      unfold turnE B_law_0
      simp [cut_one, q2])]
    rfl) rfl]
  rw [step (δ' := [.val S, .bk false false Bk0, .bk false false (bkS so), .no, .no, .no, .no, .no, .no, .no, .no, .no, .no]) (by simp [e1, i2_mod, q3]) rfl]
  generalize bkS so = BO at *
  rw [step (δ' := [.val S, .bk false false Bk0, .bk false false BO, .no, .val (.list (rwL so.1 0)), .no, .no, .no, .no, .no, .no, .no, .no]) (by simp [hdeal]) rfl]
  have hpw : i2 gPow (.int 10) (.int 12) = .ok (.int (10 ^ 12)) := i2_pow (i := 10) (j := 12) (by decide)
  have hmd : i2 gMod (.int c0) (.int (10 ^ 12)) = .ok (.int (c0 % 10 ^ 12)) := i2_mod mp
  generalize (10 : Int) ^ 12 = T at *
  rw [step (δ' := [.val S, .bk false false Bk0, .bk false false BO, .no, .val (.list (rwL so.1 0)), .val (.list Y1), .val (.list Y2), .no, .no, .no, .no, .no, .no]) (by simp [e0, hpw, hmd, hl]) rfl]
  rw [step (δ' := [.val S, .bk false false Bk0, .bk false false BO, .no, .val (.list (rwL so.1 0)), .val (.list Y1), .val (.list Y2), .val (.tuple [.list [], .list [], .list []]), .no, .no, .no, .no, .no]) (by simp) rfl]
  rw [step (δ' := [.val S, .bk false false (bkS s1), .bk false false BO, .no, .val (.list (rwL so.1 0)), .val (.list Y1), .val (.list Y2), .val (rollD s1.1 [] []), .no, .no, .no, .no, .no]) (by simp [l1]) rfl]
  rw [step (δ' := [.val S, .bk false false (bkS s1), .bk false false BO, .no, .val (.list (rwL so.1 0)), .val (.list Y1), .val (.list Y2), .val (rollD s1.1 [] []), .no, .val (.dict (mapK (rwD s1.1) (dthL s1.1))), .no, .no, .no]) (by
    generalize mapK (rwD s1.1) (dthL s1.1) = M at *
    generalize rollD s1.1 [] [] = R at *
    simp [hdl]) rfl]
  rw [step (by simp only [forS_ev, seqI_ev, vD_ev]; exact l2) rfl]
  simp [hdeal, hdead, hanew, hself, hone]
end K14
namespace K14
open PySem PySem.Spec PyProof.Rows L2 DL
section
variable [TabP]
theorem b_is_whole {X : Cx} (c : Ctx X N_is_whole (defScope s_is_whole) (fun _ => true)) (hk : X.env.scope.kind = .function)
    (hW : X.w = TabP.W)
    (m_bool : X.mg "bool" = none)
    (m_int : X.mg "int" = none)
    (m_isinstance : X.mg "isinstance" = none) : PSsp X W0 (defBody s_is_whole) S_is_whole :=
  (PSsp.one (PSp.ret (PBp.val (PBw.pb (PBw.and (PBp.isi (T := "int") c m_isinstance m_int (PRp.var c 0)) (PBw.and1 (PBp.not (PBp.isi (T := "bool") c m_isinstance m_bool (PRp.var c 0)))))))))
theorem kn_is_whole {P : Program} {w : World} {K : PySem.W.Frag} {mg : Str → Option Value} {base : Heap} (T : Top K mg "is_whole" s_is_whole)
    (hW : w = TabP.W)
    (m_bool : mg "bool" = none)
    (m_int : mg "int" = none)
    (m_isinstance : mg "isinstance" = none) : Kn P w K mg base CX0 "is_whole" 1 (spF K mg 1 F_is_whole) :=
  Kn.def_ (k := 0) T sc_is_whole 1 rfl 1 rfl (fun _ _ _ _ _ _ us hl => match us, hl with | [_], _ => rfl) fun X e1 e2 e3 e4 e5 hr hk c => by
    subst e1; subst e2; subst e3; subst e4; subst e5
    exact b_is_whole c hk hW m_bool m_int m_isinstance 
theorem b_need_people {X : Cx} (c : Ctx X N_need_people (defScope s_need_people) (fun _ => true)) (hk : X.env.scope.kind = .function)
    (hW : X.w = TabP.W)
    (m_len : X.mg "len" = none)
    (h_is_whole : Cal X.prog X.w X.K X.mg X.base X.A CX0 "is_whole" (spF X.K X.mg 1 (F_is_whole))) : PSsp X W0 (defBody s_need_people) S_need_people :=
  (PSsp.one (PSp.for_ c [2] (PIp.seq (PEp.var c 1)) (PGp.name c 2)
      (PSsp.one (PSp.if_ (PBw.pb (PBw.or (PBp.not (PRp.bool (PEp.rd (PEp.call c h_is_whole (PAp.cons (PEp.var c 2) PAp.nil))))) (PBw.or1 (PBp.not (PBp.leLt (PEp.rd PEp.int) (PRp.var c 2) (PEp.rd (PEp.len c m_len (PRp.var c 0))))))))
      (PSsp.one PSp.errS)
      PSsp.nil))))
theorem kn_need_people {P : Program} {w : World} {K : PySem.W.Frag} {mg : Str → Option Value} {base : Heap} (T : Top K mg "need_people" s_need_people)
    (hW : w = TabP.W)
    (m_len : mg "len" = none)
    (h_is_whole : Kn P w K mg base CX0 "is_whole" 1 (spF K mg 1 (F_is_whole))) : Kn P w K mg base CX0 "need_people" 2 (spF K mg 2 F_need_people) :=
  Kn.def_ (k := 1) T sc_need_people 2 rfl 3 rfl (fun _ _ _ _ _ _ us hl => match us, hl with | [_, _], _ => rfl) fun X e1 e2 e3 e4 e5 hr hk c => by
    subst e1; subst e2; subst e3; subst e4; subst e5
    exact b_need_people c hk hW m_len (h_is_whole.cal hr (by decide))
theorem b_need_day {X : Cx} (c : Ctx X N_need_day (defScope s_need_day) (fun _ => true)) (hk : X.env.scope.kind = .function)
    (hW : X.w = TabP.W)
    (g_LAST_DAY : ∃ u, X.mg "LAST_DAY" = some u ∧ L2.RelV (V.int 100000) u)
    (h_is_whole : Cal X.prog X.w X.K X.mg X.base X.A CX0 "is_whole" (spF X.K X.mg 1 (F_is_whole))) : PSsp X W0 (defBody s_need_day) S_need_day :=
  (PSsp.one (PSp.if_ (PBw.pb (PBw.or (PBp.not (PRp.bool (PEp.rd (PEp.call c h_is_whole (PAp.cons (PEp.var c 0) PAp.nil))))) (PBw.or1 (PBp.not (PBp.leLe (PEp.rd PEp.int) (PRp.var c 0) (PEp.rd (PEp.glob c g_LAST_DAY)))))))
      (PSsp.one PSp.errS)
      PSsp.nil))
theorem kn_need_day {P : Program} {w : World} {K : PySem.W.Frag} {mg : Str → Option Value} {base : Heap} (T : Top K mg "need_day" s_need_day)
    (hW : w = TabP.W)
    (g_LAST_DAY : ∃ u, mg "LAST_DAY" = some u ∧ L2.RelV (V.int 100000) u)
    (h_is_whole : Kn P w K mg base CX0 "is_whole" 1 (spF K mg 1 (F_is_whole))) : Kn P w K mg base CX0 "need_day" 2 (spF K mg 1 F_need_day) :=
  Kn.def_ (k := 1) T sc_need_day 1 rfl 1 rfl (fun _ _ _ _ _ _ us hl => match us, hl with | [_], _ => rfl) fun X e1 e2 e3 e4 e5 hr hk c => by
    subst e1; subst e2; subst e3; subst e4; subst e5
    exact b_need_day c hk hW g_LAST_DAY (h_is_whole.cal hr (by decide))
theorem b_need_death {X : Cx} (c : Ctx X N_need_death (defScope s_need_death) (fun _ => true)) (hk : X.env.scope.kind = .function)
    (hW : X.w = TabP.W)
    (h_need_people : Cal X.prog X.w X.K X.mg X.base X.A CX0 "need_people" (spF X.K X.mg 2 (F_need_people)))
    (h_need_day : Cal X.prog X.w X.K X.mg X.base X.A CX0 "need_day" (spF X.K X.mg 1 (F_need_day))) : PSsp X W0 (defBody s_need_death) S_need_death :=
  (PSsp.cons (PSp.asg (PEp.var c 0) (PGp.tup (n := 3) c (PGm.cons (PGp.name c 3) (PGm.cons (PGp.name c 4) (PGm.cons (PGp.name c 5) PGm.nil))))) (PSsp.cons (PSp.expr (PEp.call c h_need_people (PAp.cons (PEp.var c 3) (PAp.cons (PFp.val (PFp.lst (PAp.cons (PEp.var c 1) PAp.nil))) PAp.nil)))) (PSsp.cons (PSp.expr (PEp.call c h_need_day (PAp.cons (PEp.var c 2) PAp.nil))) (PSsp.cons (PSp.asg (PEp.ix c (PRp.var c 3) (PRp.var c 1)) (PGp.tup (n := 4) c (PGm.cons (PGp.name c 6) (PGm.cons (PGp.name c 7) (PGm.cons (PGp.name c 8) (PGm.cons (PGp.name c 9) PGm.nil)))))) (PSsp.cons (PSp.if_ (PBp.notN (PRp.var c 9))
      (PSsp.one PSp.errS)
      PSsp.nil) (PSsp.cons (PSp.frzB 10 (PSp.setLc c 10 [("one", 12)] (PIh.seq (PRp.var c 5)) (fun _ c' => (PGp.name c' 12)) (fun _ c' => (PTq.one (PBw.pb (PBw.and (PBp.eq c' (PEp.rd (PEp.ix c' (PRp.var c' 12) (PEp.rd PEp.int))) (PRp.var c' 1)) (PBw.and1 (PBp.gt (PEp.rd (PEp.ix c' (PRp.var c' 12) (PEp.rd PEp.int))) (PRp.var c' 2))))))) (fun _ c' => (PEp.var c' 12)) hk)) (PSsp.cons (PSp.frzB 11 (PSp.setLc c 11 [("one", 12)] (PIh.seq (PRp.var c 4)) (fun _ c' => (PGp.name c' 12)) (fun _ c' => (PTq.one (PBw.pb (PBw.and (PBp.in_ c' (PRp.var c' 1) (PEp.rd (PEp.slice (PRp.var c' 12) POp.no (POp.some (PEp.rd PEp.int))))) (PBw.and1 (PBp.ge (PEp.rd (PEp.ix c' (PRp.var c' 12) (PEp.rd PEp.int))) (PRp.var c' 2))))))) (fun _ c' => (PEp.var c' 12)) hk)) (PSsp.one (PSp.if_ (PBw.pb (PBw.or (PBp.lt (PRp.var c 2) (PRp.var c 6)) (PBw.or (PBp.ne c (PRp.var c 10) (PFp.rd (PFp.lst PAp.nil))) (PBw.or (PBp.ne c (PRp.var c 11) (PFp.rd (PFp.lst PAp.nil))) (PBw.or1 (PBw.pb (PBw.and (PBp.notN (PRp.var c 8)) (PBw.and1 (PBp.ge (PEp.rd (PEp.ix c (PRp.var c 8) (PEp.rd PEp.int))) (PRp.var c 2))))))))))
      (PSsp.one PSp.errS)
      PSsp.nil)))))))))
theorem kn_need_death {P : Program} {w : World} {K : PySem.W.Frag} {mg : Str → Option Value} {base : Heap} (T : Top K mg "need_death" s_need_death)
    (hW : w = TabP.W)
    (h_need_people : Kn P w K mg base CX0 "need_people" 2 (spF K mg 2 (F_need_people)))
    (h_need_day : Kn P w K mg base CX0 "need_day" 2 (spF K mg 1 (F_need_day))) : Kn P w K mg base CX0 "need_death" 3 (spF K mg 3 F_need_death) :=
  Kn.def_ (k := 2) T sc_need_death 3 rfl 13 rfl (fun _ _ _ _ _ _ us hl => match us, hl with | [_, _, _], _ => rfl) fun X e1 e2 e3 e4 e5 hr hk c => by
    subst e1; subst e2; subst e3; subst e4; subst e5
    exact b_need_death c hk hW (h_need_people.cal hr (by decide)) (h_need_day.cal hr (by decide))
theorem b_Book_dead {X : Cx} (c : Ctx X N_Book_dead (defScope s_Book_dead) (fun _ => true)) (hk : X.env.scope.kind = .function)
    (hW : X.w = TabP.W)
    (m_len : X.mg "len" = none)
    (m_range : X.mg "range" = none)
    (hB : BkC X.K) : PQsp X (defBody s_Book_dead) S_Book_dead :=
  (PQsp.one (PQp.retF (PFp.lc c [("person", 1)] (PIp.h (PIp.range c m_range (PEp.rd (PEp.len c m_len (PRp.fld (by exact hB) c 0 .pe))))) (fun _ c' => (PGp.name c' 1)) (fun _ c' => (PTq.one (PBp.notN (PEp.rd (PEp.ix c' (PEp.rd (PEp.ix c' (PRp.fld (by exact hB) c' 0 .pe) (PRp.var c' 1))) (PEp.rd PEp.int)))))) (fun _ c' => (PEp.var c' 1)))))
theorem kn_Book_dead {P : Program} {w : World} {K : PySem.W.Frag} {mg : Str → Option Value} {base : Heap} (T : TopM K "dead" "Book.dead" s_Book_dead)
    (hW : w = TabP.W)
    (m_len : mg "len" = none)
    (m_range : mg "range" = none)
    (hB : BkC K) : KnM P w K mg base CX0 "dead" 1 (spQF K 0 F_Book_dead) :=
  KnM.defQF (k := 0) T sc_Book_dead 0 rfl 2 rfl (by decide) (fun _ _ _ _ _ _ us hl => match us, hl with | [_], _ => rfl) fun X e1 e2 e3 e4 e5 hr hk c => by
    subst e1; subst e2; subst e3; subst e4; subst e5
    exact b_Book_dead c hk hW m_len m_range hB 
theorem b_will_on {X : Cx} (c : Ctx X N_will_on (defScope s_will_on) (fun _ => true)) (hk : X.env.scope.kind = .function)
    (hW : X.w = TabP.W) : PSsp X W0 (defBody s_will_on) S_will_on :=
  (PSsp.cons (PSp.set c 3 (PEp.tup PAp.nil)) (PSsp.cons (PSp.set c 4 (PEp.neg (PEp.rd PEp.int))) (PSsp.cons (PSp.for_ c [5, 6, 7] (PIp.seq (PEp.ix c (PRp.var c 0) (PEp.rd PEp.int))) (PGp.tup (n := 3) c (PGm.cons (PGp.name c 5) (PGm.cons (PGp.name c 6) (PGm.cons (PGp.name c 7) PGm.nil))))
      (PSsp.one (PSp.if_ (PBw.pb (PBw.and (PBp.eq c (PRp.var c 5) (PRp.var c 1)) (PBw.and1 (PBp.leLe (PRp.var c 4) (PRp.var c 6) (PRp.var c 2)))))
      (PSsp.cons (PSp.set c 3 (PEp.var c 7)) (PSsp.one (PSp.set c 4 (PEp.var c 6))))
      PSsp.nil))) (PSsp.one (PSp.ret (PEp.var c 3))))))
theorem kn_will_on {P : Program} {w : World} {K : PySem.W.Frag} {mg : Str → Option Value} {base : Heap} (T : Top K mg "will_on" s_will_on)
    (hW : w = TabP.W) : Kn P w K mg base CX0 "will_on" 1 (spF K mg 3 F_will_on) :=
  Kn.def_ (k := 0) T sc_will_on 3 rfl 8 rfl (fun _ _ _ _ _ _ us hl => match us, hl with | [_, _, _], _ => rfl) fun X e1 e2 e3 e4 e5 hr hk c => by
    subst e1; subst e2; subst e3; subst e4; subst e5
    exact b_will_on c hk hW 
theorem b_lives {X : Cx} (c : Ctx X N_lives (defScope s_lives) (fun _ => true)) (hk : X.env.scope.kind = .function)
    (hW : X.w = TabP.W) : PSsp X W0 (defBody s_lives) S_lives :=
  (PSsp.cons (PSp.asg (PEp.ix c (PRp.var c 0) (PRp.var c 1)) (PGp.tup (n := 4) c (PGm.cons (PGp.name c 3) (PGm.cons (PGp.name c 4) (PGm.cons (PGp.name c 5) (PGm.cons (PGp.name c 6) PGm.nil)))))) (PSsp.one (PSp.ret (PBp.val (PBw.pb (PBw.and (PBp.le (PRp.var c 3) (PRp.var c 2)) (PBw.and1 (PBw.pb (PBw.or (PBp.isN (PRp.var c 6)) (PBw.or1 (PBp.lt (PRp.var c 2) (PRp.var c 6))))))))))))
theorem kn_lives {P : Program} {w : World} {K : PySem.W.Frag} {mg : Str → Option Value} {base : Heap} (T : Top K mg "lives" s_lives)
    (hW : w = TabP.W) : Kn P w K mg base CX0 "lives" 1 (spF K mg 3 F_lives) :=
  Kn.def_ (k := 0) T sc_lives 3 rfl 7 rfl (fun _ _ _ _ _ _ us hl => match us, hl with | [_, _, _], _ => rfl) fun X e1 e2 e3 e4 e5 hr hk c => by
    subst e1; subst e2; subst e3; subst e4; subst e5
    exact b_lives c hk hW 
theorem b_common {X : Cx} (c : Ctx X N_common (defScope s_common) (fun _ => true)) (hk : X.env.scope.kind = .function)
    (hW : X.w = TabP.W) : PSsp X W0 (defBody s_common) S_common :=
  (PSsp.cons (PSp.while_ c [] mu_common_0 (PBp.gt (PRp.var c 1) (PEp.rd PEp.int))
      (PSsp.one (PSp.par2 c 0 1 (PEp.var c 1) (PEp.mod (PRp.var c 0) (PRp.var c 1)) hk))) (PSsp.one (PSp.ret (PEp.var c 0))))
theorem kn_common {P : Program} {w : World} {K : PySem.W.Frag} {mg : Str → Option Value} {base : Heap} (T : Top K mg "common" s_common)
    (hW : w = TabP.W) : Kn P w K mg base CX0 "common" 1 (spF K mg 2 F_common) :=
  Kn.def_ (k := 0) T sc_common 2 rfl 2 rfl (fun _ _ _ _ _ _ us hl => match us, hl with | [_, _], _ => rfl) fun X e1 e2 e3 e4 e5 hr hk c => by
    subst e1; subst e2; subst e3; subst e4; subst e5
    exact b_common c hk hW 
theorem b_part {X : Cx} (c : Ctx X N_part (defScope s_part) (fun _ => true)) (hk : X.env.scope.kind = .function)
    (hW : X.w = TabP.W)
    (h_common : Cal X.prog X.w X.K X.mg X.base X.A CX0 "common" (spF X.K X.mg 2 (F_common))) : PSsp X W0 (defBody s_part) S_part :=
  (PSsp.cons (PSp.set c 2 (PEp.call c h_common (PAp.cons (PEp.var c 0) (PAp.cons (PEp.var c 1) PAp.nil)))) (PSsp.one (PSp.ret (PEp.tup (PAp.cons (PEp.div (PRp.var c 0) (PRp.var c 2)) (PAp.cons (PEp.div (PRp.var c 1) (PRp.var c 2)) PAp.nil))))))
theorem kn_part {P : Program} {w : World} {K : PySem.W.Frag} {mg : Str → Option Value} {base : Heap} (T : Top K mg "part" s_part)
    (hW : w = TabP.W)
    (h_common : Kn P w K mg base CX0 "common" 1 (spF K mg 2 (F_common))) : Kn P w K mg base CX0 "part" 2 (spF K mg 2 F_part) :=
  Kn.def_ (k := 1) T sc_part 2 rfl 3 rfl (fun _ _ _ _ _ _ us hl => match us, hl with | [_, _], _ => rfl) fun X e1 e2 e3 e4 e5 hr hk c => by
    subst e1; subst e2; subst e3; subst e4; subst e5
    exact b_part c hk hW (h_common.cal hr (by decide))
theorem b_times {X : Cx} (c : Ctx X N_times (defScope s_times) (fun _ => true)) (hk : X.env.scope.kind = .function)
    (hW : X.w = TabP.W)
    (h_part : Cal X.prog X.w X.K X.mg X.base X.A CX0 "part" (spF X.K X.mg 2 (F_part))) : PSsp X W0 (defBody s_times) S_times :=
  (PSsp.one (PSp.ret (PEp.call c h_part (PAp.cons (PEp.mul (PEp.rd (PEp.ix c (PRp.var c 0) (PEp.rd PEp.int))) (PEp.rd (PEp.ix c (PRp.var c 1) (PEp.rd PEp.int)))) (PAp.cons (PEp.mul (PEp.rd (PEp.ix c (PRp.var c 0) (PEp.rd PEp.int))) (PEp.rd (PEp.ix c (PRp.var c 1) (PEp.rd PEp.int)))) PAp.nil)))))
theorem kn_times {P : Program} {w : World} {K : PySem.W.Frag} {mg : Str → Option Value} {base : Heap} (T : Top K mg "times" s_times)
    (hW : w = TabP.W)
    (h_part : Kn P w K mg base CX0 "part" 2 (spF K mg 2 (F_part))) : Kn P w K mg base CX0 "times" 3 (spF K mg 2 F_times) :=
  Kn.def_ (k := 2) T sc_times 2 rfl 2 rfl (fun _ _ _ _ _ _ us hl => match us, hl with | [_, _], _ => rfl) fun X e1 e2 e3 e4 e5 hr hk c => by
    subst e1; subst e2; subst e3; subst e4; subst e5
    exact b_times c hk hW (h_part.cal hr (by decide))
theorem b_ahead_of {X : Cx} (c : Ctx X N_ahead_of (defScope s_ahead_of) (fun _ => true)) (hk : X.env.scope.kind = .function)
    (hW : X.w = TabP.W)
    (h_times : Cal X.prog X.w X.K X.mg X.base X.A CX0 "times" (spF X.K X.mg 2 (F_times))) : PSsp X W0 (defBody s_ahead_of) S_ahead_of :=
  (PSsp.one (PSp.retF (PFp.lc c [("heir", 3), ("mine", 4), ("line", 5)] (PIh.seq (PRp.var c 2)) (fun _ c' => (PGp.tup (n := 3) c' (PGm.cons (PGp.name c' 3) (PGm.cons (PGp.name c' 4) (PGm.cons (PGp.name c' 5) PGm.nil))))) (fun _ c' => PTq.no) (fun _ c' => (PEp.tup (PAp.cons (PEp.var c' 3) (PAp.cons (PEp.call c' h_times (PAp.cons (PEp.var c' 1) (PAp.cons (PEp.var c' 4) PAp.nil))) (PAp.cons (PFp.val (PFp.cat (PFp.rd (PFp.lst (PAp.cons (PEp.var c' 0) PAp.nil))) (PRp.var c' 5))) PAp.nil))))))))
theorem kn_ahead_of {P : Program} {w : World} {K : PySem.W.Frag} {mg : Str → Option Value} {base : Heap} (T : Top K mg "ahead_of" s_ahead_of)
    (hW : w = TabP.W)
    (h_times : Kn P w K mg base CX0 "times" 3 (spF K mg 2 (F_times))) : Kn P w K mg base CX0 "ahead_of" 4 (spN K mg 3 F_ahead_of) :=
  Kn.defN (k := 3) T sc_ahead_of 3 rfl 6 rfl (fun _ _ _ _ _ _ us hl => match us, hl with | [_, _, _], _ => rfl) fun X e1 e2 e3 e4 e5 hr hk c => by
    subst e1; subst e2; subst e3; subst e4; subst e5
    exact b_ahead_of c hk hW (h_times.cal hr (by decide))
theorem b_parents_on {X : Cx} (c : Ctx X N_parents_on (defScope s_parents_on) (fun _ => true)) (hk : X.env.scope.kind = .function)
    (hW : X.w = TabP.W) : PSsp X W0 (defBody s_parents_on) S_parents_on :=
  (PSsp.cons (PSp.asg (PEp.ix c (PRp.var c 0) (PRp.var c 1)) (PGp.tup (n := 4) c (PGm.cons (PGp.name c 3) (PGm.cons (PGp.name c 4) (PGm.cons (PGp.name c 5) (PGm.cons (PGp.name c 6) PGm.nil)))))) (PSsp.cons (PSp.if_ (PBw.pb (PBw.and (PBp.notN (PRp.var c 5)) (PBw.and1 (PBp.le (PEp.rd (PEp.ix c (PRp.var c 5) (PEp.rd PEp.int))) (PRp.var c 2)))))
      (PSsp.one (PSp.ret (PEp.ix c (PRp.var c 5) (PEp.rd PEp.int))))
      PSsp.nil) (PSsp.one (PSp.ret (PEp.var c 4)))))
theorem kn_parents_on {P : Program} {w : World} {K : PySem.W.Frag} {mg : Str → Option Value} {base : Heap} (T : Top K mg "parents_on" s_parents_on)
    (hW : w = TabP.W) : Kn P w K mg base CX0 "parents_on" 1 (spF K mg 3 F_parents_on) :=
  Kn.def_ (k := 0) T sc_parents_on 3 rfl 7 rfl (fun _ _ _ _ _ _ us hl => match us, hl with | [_, _, _], _ => rfl) fun X e1 e2 e3 e4 e5 hr hk c => by
    subst e1; subst e2; subst e3; subst e4; subst e5
    exact b_parents_on c hk hW 
theorem b_children_on {X : Cx} (c : Ctx X N_children_on (defScope s_children_on) (fun _ => true)) (hk : X.env.scope.kind = .function)
    (hW : X.w = TabP.W)
    (m_len : X.mg "len" = none)
    (m_range : X.mg "range" = none)
    (h_parents_on : Cal X.prog X.w X.K X.mg X.base X.A CX0 "parents_on" (spF X.K X.mg 3 (F_parents_on))) : PSsp X W0 (defBody s_children_on) S_children_on :=
  (PSsp.cons (PSp.setF c 3 (PFp.lst PAp.nil)) (PSsp.cons (PSp.for_ c [4] (PIp.range c m_range (PEp.rd (PEp.len c m_len (PRp.var c 0)))) (PGp.name c 4)
      (PSsp.one (PSp.if_ (PBw.pb (PBw.and (PBp.le (PEp.rd (PEp.ix c (PEp.rd (PEp.ix c (PRp.var c 0) (PRp.var c 4))) (PEp.rd PEp.int))) (PRp.var c 2)) (PBw.and1 (PBp.in_ c (PRp.var c 1) (PEp.rd (PEp.call c h_parents_on (PAp.cons (PEp.var c 0) (PAp.cons (PEp.var c 4) (PAp.cons (PEp.var c 2) PAp.nil)))))))))
      (PSsp.one (PSp.append c 3 (PEp.var c 4)))
      PSsp.nil))) (PSsp.one (PSp.retV c 3))))
theorem kn_children_on {P : Program} {w : World} {K : PySem.W.Frag} {mg : Str → Option Value} {base : Heap} (T : Top K mg "children_on" s_children_on)
    (hW : w = TabP.W)
    (m_len : mg "len" = none)
    (m_range : mg "range" = none)
    (h_parents_on : Kn P w K mg base CX0 "parents_on" 1 (spF K mg 3 (F_parents_on))) : Kn P w K mg base CX0 "children_on" 2 (spN K mg 3 F_children_on) :=
  Kn.defN (k := 1) T sc_children_on 3 rfl 5 rfl (fun _ _ _ _ _ _ us hl => match us, hl with | [_, _, _], _ => rfl) fun X e1 e2 e3 e4 e5 hr hk c => by
    subst e1; subst e2; subst e3; subst e4; subst e5
    exact b_children_on c hk hW m_len m_range (h_parents_on.cal hr (by decide))
theorem b_birth_of {X : Cx} (c : Ctx X N_birth_of (defScope s_birth_of) (fun _ => true)) (hk : X.env.scope.kind = .function)
    (hW : X.w = TabP.W) : PSsp X W0 (defBody s_birth_of) S_birth_of :=
  (PSsp.one (PSp.ret (PEp.ix c (PEp.rd (PEp.ix c (PRp.var c 0) (PRp.var c 1))) (PEp.rd PEp.int))))
theorem kn_birth_of {P : Program} {w : World} {K : PySem.W.Frag} {mg : Str → Option Value} {base : Heap} (T : Top K mg "birth_of" s_birth_of)
    (hW : w = TabP.W) : Kn P w K mg base CX0 "birth_of" 1 (spF K mg 2 F_birth_of) :=
  Kn.def_ (k := 0) T sc_birth_of 2 rfl 2 rfl (fun _ _ _ _ _ _ us hl => match us, hl with | [_, _], _ => rfl) fun X e1 e2 e3 e4 e5 hr hk c => by
    subst e1; subst e2; subst e3; subst e4; subst e5
    exact b_birth_of c hk hW 
theorem b_lines_on {X : Cx} (c : Ctx X N_lines_on (defScope s_lines_on) (fun _ => true)) (hk : X.env.scope.kind = .function)
    (hW : X.w = TabP.W)
    (m_len : X.mg "len" = none)
    (m_list : X.mg "list" = none)
    (m_range : X.mg "range" = none)
    (m_sorted : X.mg "sorted" = none)
    (h_lives : Cal X.prog X.w X.K X.mg X.base X.A CX0 "lives" (spF X.K X.mg 3 (F_lives)))
    (h_children_on : Cal X.prog X.w X.K X.mg X.base X.A CX0 "children_on" (spN X.K X.mg 3 (F_children_on)))
    (h_birth_of : Cal X.prog X.w X.K X.mg X.base X.A CX0 "birth_of" (spF X.K X.mg 2 (F_birth_of)))
    (l_birth_of : ∀ A : Around, Room 1 A → Cal X.prog X.w X.K X.mg X.base A CX0 "birth_of" (spF X.K X.mg 2 (F_birth_of)))
    (lp : ∃ cc P, LamP X cc P)
    (hrm : Room 4 X.A) : PSsp X W0 (defBody s_lines_on) S_lines_on :=
  (PSsp.cons (PSp.setK c 2 PKp.nil) (PSsp.cons (PSp.for_ c [3, 4] (PIp.seq (PFp.val (PFp.sortKey (k := 1) c m_sorted 6 lp hrm (PFp.rd (PFp.listRange c m_list m_range (PEp.rd (PEp.len c m_len (PRp.var c 0))))) (fun _ hl cl => (PEp.neg (PEp.rd (PEp.call cl (l_birth_of _ hl) (PAp.cons (PEp.var cl 0) (PAp.cons (PEp.var cl 6) PAp.nil))))))))) (PGp.name c 3)
      (PSsp.cons (PSp.frzB 4 (PSp.setLc c 4 [("child", 5)] (PIh.seq (PFp.rd (PFp.call c h_children_on (PAp.cons (PEp.var c 0) (PAp.cons (PEp.var c 3) (PAp.cons (PEp.var c 1) PAp.nil)))))) (fun _ c' => (PGp.name c' 5)) (fun _ c' => (PTq.one (PRp.bool (PEp.rd (PEp.ix c' (PRp.var c' 2) (PRp.var c' 5)))))) (fun _ c' => (PEp.var c' 5)) hk)) (PSsp.one (PSp.setI c 2 (PBp.val (PBw.pb (PBw.or (PRp.bool (PEp.rd (PEp.call c h_lives (PAp.cons (PEp.var c 0) (PAp.cons (PEp.var c 3) (PAp.cons (PEp.var c 1) PAp.nil)))))) (PBw.or1 (PBp.ne c (PRp.var c 4) (PFp.rd (PFp.lst PAp.nil))))))) (PRp.var c 3))))) (PSsp.frz 2 (PSsp.one (PSp.ret (PEp.var c 2))))))
theorem kn_lines_on {P : Program} {w : World} {K : PySem.W.Frag} {mg : Str → Option Value} {base : Heap} {cc : Addr} (T : TopC K mg "lines_on" s_lines_on cc)
    (hW : w = TabP.W)
    (m_len : mg "len" = none)
    (m_list : mg "list" = none)
    (m_range : mg "range" = none)
    (m_sorted : mg "sorted" = none)
    (h_lives : Kn P w K mg base CX0 "lives" 1 (spF K mg 3 (F_lives)))
    (h_children_on : Kn P w K mg base CX0 "children_on" 2 (spN K mg 3 (F_children_on)))
    (h_birth_of : Kn P w K mg base CX0 "birth_of" 1 (spF K mg 2 (F_birth_of)))
    (hlp : ∀ X : Cx, X.mg = mg → X.base = base → X.env.code = .ref cc → X.env.qual = Str.ofString "lines_on" ++ ".<locals>." → ∃ cc P, LamP X cc P) : Kn P w K mg base CX0 "lines_on" 5 (spF K mg 2 F_lines_on) :=
  Kn.defC (k := 4) T sc_lines_on 2 rfl 7 rfl (fun _ _ _ _ _ _ us hl => match us, hl with | [_, _], _ => rfl) fun X e1 e2 e3 e4 e5 hr hk hcode hq c => by
    subst e1; subst e2; subst e3; subst e4; subst e5
    exact b_lines_on c hk hW m_len m_list m_range m_sorted (h_lives.cal hr (by decide)) (h_children_on.cal hr (by decide)) (h_birth_of.cal hr (by decide)) (fun A hA => h_birth_of.cal hA (by decide)) (hlp X rfl rfl hcode hq) (hr.mono (by decide))
theorem b_shared {X : Cx} (c : Ctx X N_shared (defScope s_shared) (fun _ => true)) (hk : X.env.scope.kind = .function)
    (hW : X.w = TabP.W)
    (h_part : Cal X.prog X.w X.K X.mg X.base X.A CX0 "part" (spF X.K X.mg 2 (F_part))) : PSsp X W0 (defBody s_shared) S_shared :=
  (PSsp.one (PSp.ret (PEp.call c h_part (PAp.cons (PEp.ix c (PRp.var c 0) (PEp.rd PEp.int)) (PAp.cons (PEp.mul (PEp.rd (PEp.ix c (PRp.var c 0) (PEp.rd PEp.int))) (PRp.var c 1)) PAp.nil)))))
theorem kn_shared {P : Program} {w : World} {K : PySem.W.Frag} {mg : Str → Option Value} {base : Heap} (T : Top K mg "shared" s_shared)
    (hW : w = TabP.W)
    (h_part : Kn P w K mg base CX0 "part" 2 (spF K mg 2 (F_part))) : Kn P w K mg base CX0 "shared" 3 (spF K mg 2 F_shared) :=
  Kn.def_ (k := 2) T sc_shared 2 rfl 2 rfl (fun _ _ _ _ _ _ us hl => match us, hl with | [_, _], _ => rfl) fun X e1 e2 e3 e4 e5 hr hk c => by
    subst e1; subst e2; subst e3; subst e4; subst e5
    exact b_shared c hk hW (h_part.cal hr (by decide))
theorem b_dealt_among {X : Cx} {self : List D → Res (List D)} (c : Ctx X N_dealt_among (defScope s_dealt_among) (fun _ => true)) (hk : X.env.scope.kind = .function)
    (hW : X.w = TabP.W)
    (m_len : X.mg "len" = none)
    (h_shared : Cal X.prog X.w X.K X.mg X.base X.A CX0 "shared" (spF X.K X.mg 2 (F_shared)))
    (h_lives : Cal X.prog X.w X.K X.mg X.base X.A CX0 "lives" (spF X.K X.mg 3 (F_lives)))
    (h_dealt_among : Cal X.prog X.w X.K X.mg X.base X.A CX0 "dealt_among" (spN X.K X.mg 5 self))
    (h_ahead_of : Cal X.prog X.w X.K X.mg X.base X.A CX0 "ahead_of" (spN X.K X.mg 3 (F_ahead_of)))
    (h_children_on : Cal X.prog X.w X.K X.mg X.base X.A CX0 "children_on" (spN X.K X.mg 3 (F_children_on))) : PSsp X W0 (defBody s_dealt_among) (S_dealt_among self) :=
  (PSsp.cons (PSp.setF c 5 (PFp.lst PAp.nil)) (PSsp.cons (PSp.for_ c [6, 7, 8, 9] (PIp.seq (PEp.var c 3)) (PGp.name c 6)
      (PSsp.cons (PSp.set c 7 (PEp.call c h_shared (PAp.cons (PEp.tup (PAp.cons PEp.int (PAp.cons PEp.int PAp.nil))) (PAp.cons (PEp.len c m_len (PRp.var c 3)) PAp.nil)))) (PSsp.one (PSp.if_ (PRp.bool (PEp.rd (PEp.call c h_lives (PAp.cons (PEp.var c 0) (PAp.cons (PEp.var c 6) (PAp.cons (PEp.var c 4) PAp.nil))))))
      (PSsp.one (PSp.append c 5 (PEp.tup (PAp.cons (PEp.var c 6) (PAp.cons (PEp.var c 7) (PAp.cons (PFp.val (PFp.lst (PAp.cons (PEp.var c 2) (PAp.cons (PEp.var c 6) PAp.nil)))) PAp.nil))))))
      (PSsp.cons (PSp.frzB 8 (PSp.setLc c 8 [("child", 10)] (PIh.seq (PFp.rd (PFp.call c h_children_on (PAp.cons (PEp.var c 0) (PAp.cons (PEp.var c 6) (PAp.cons (PEp.var c 4) PAp.nil)))))) (fun _ c' => (PGp.name c' 10)) (fun _ c' => (PTq.one (PRp.bool (PEp.rd (PEp.ix c' (PRp.var c' 1) (PRp.var c' 10)))))) (fun _ c' => (PEp.var c' 10)) hk)) (PSsp.cons (PSp.set c 9 (PFp.val (PFp.call c h_dealt_among (PAp.cons (PEp.var c 0) (PAp.cons (PEp.var c 1) (PAp.cons (PEp.var c 6) (PAp.cons (PEp.var c 8) (PAp.cons (PEp.var c 4) PAp.nil)))))))) (PSsp.one (PSp.extend c 5 (PFp.rd (PFp.call c h_ahead_of (PAp.cons (PEp.var c 2) (PAp.cons (PEp.var c 7) (PAp.cons (PEp.var c 9) PAp.nil))))))))))))) (PSsp.one (PSp.retV c 5))))
theorem kr_dealt_among {P : Program} {w : World} {K : PySem.W.Frag} {mg : Str → Option Value} {base : Heap} (T : Top K mg "dealt_among" s_dealt_among)
    (hW : w = TabP.W)
    (m_len : mg "len" = none)
    (h_shared : Kn P w K mg base CX0 "shared" 3 (spF K mg 2 (F_shared)))
    (h_lives : Kn P w K mg base CX0 "lives" 1 (spF K mg 3 (F_lives)))
    (h_ahead_of : Kn P w K mg base CX0 "ahead_of" 4 (spN K mg 3 (F_ahead_of)))
    (h_children_on : Kn P w K mg base CX0 "children_on" 2 (spN K mg 3 (F_children_on))) : ∀ n : Nat, Kn P w K mg base CX0 "dealt_among" (4 + n) (spN K mg 5 (R_dealt_among n))
  | 0 => Kn.errN (ps := ["people", "lined", "person", "takers", "day"]) T 5 (fun _ _ _ _ _ _ us hl => match us, hl with | [_, _, _, _, _], _ => rfl)
  | n + 1 => by
    have h_dealt_among := kr_dealt_among T hW m_len h_shared h_lives h_ahead_of h_children_on n
    exact Kn.defN (k := 4 + n) T sc_dealt_among 5 rfl 11 rfl (fun _ _ _ _ _ _ us hl => match us, hl with | [_, _, _, _, _], _ => rfl) fun X e1 e2 e3 e4 e5 hr hk c => by
      subst e1; subst e2; subst e3; subst e4; subst e5
      exact b_dealt_among c hk hW m_len (h_shared.cal hr (by omega)) (h_lives.cal hr (by omega)) (h_dealt_among.cal hr (by omega)) (h_ahead_of.cal hr (by omega)) (h_children_on.cal hr (by omega))
theorem b_by_lines {X : Cx} (c : Ctx X N_by_lines (defScope s_by_lines) (fun _ => true)) (hk : X.env.scope.kind = .function)
    (hW : X.w = TabP.W)
    (h_lines_on : Cal X.prog X.w X.K X.mg X.base X.A CX0 "lines_on" (spF X.K X.mg 2 (F_lines_on)))
    (h_dealt_among : Cal X.prog X.w X.K X.mg X.base X.A CX0 "dealt_among" (spN X.K X.mg 5 (R_dealt_among 36)))
    (h_children_on : Cal X.prog X.w X.K X.mg X.base X.A CX0 "children_on" (spN X.K X.mg 3 (F_children_on))) : PSsp X W0 (defBody s_by_lines) S_by_lines :=
  (PSsp.cons (PSp.set c 3 (PEp.call c h_lines_on (PAp.cons (PEp.var c 0) (PAp.cons (PEp.var c 2) PAp.nil)))) (PSsp.cons (PSp.frzB 4 (PSp.setLc c 4 [("child", 5)] (PIh.seq (PFp.rd (PFp.call c h_children_on (PAp.cons (PEp.var c 0) (PAp.cons (PEp.var c 1) (PAp.cons (PEp.var c 2) PAp.nil)))))) (fun _ c' => (PGp.name c' 5)) (fun _ c' => (PTq.one (PRp.bool (PEp.rd (PEp.ix c' (PRp.var c' 3) (PRp.var c' 5)))))) (fun _ c' => (PEp.var c' 5)) hk)) (PSsp.one (PSp.retF (PFp.call c h_dealt_among (PAp.cons (PEp.var c 0) (PAp.cons (PEp.var c 3) (PAp.cons (PEp.var c 1) (PAp.cons (PEp.var c 4) (PAp.cons (PEp.var c 2) PAp.nil))))))))))
theorem kn_by_lines {P : Program} {w : World} {K : PySem.W.Frag} {mg : Str → Option Value} {base : Heap} (T : Top K mg "by_lines" s_by_lines)
    (hW : w = TabP.W)
    (h_lines_on : Kn P w K mg base CX0 "lines_on" 5 (spF K mg 2 (F_lines_on)))
    (h_dealt_among : Kn P w K mg base CX0 "dealt_among" 40 (spN K mg 5 (R_dealt_among 36)))
    (h_children_on : Kn P w K mg base CX0 "children_on" 2 (spN K mg 3 (F_children_on))) : Kn P w K mg base CX0 "by_lines" 41 (spN K mg 3 F_by_lines) :=
  Kn.defN (k := 40) T sc_by_lines 3 rfl 6 rfl (fun _ _ _ _ _ _ us hl => match us, hl with | [_, _, _], _ => rfl) fun X e1 e2 e3 e4 e5 hr hk c => by
    subst e1; subst e2; subst e3; subst e4; subst e5
    exact b_by_lines c hk hW (h_lines_on.cal hr (by decide)) (h_dealt_among.cal hr (by decide)) (h_children_on.cal hr (by decide))
theorem b_given_to {X : Cx} (c : Ctx X N_given_to (defScope s_given_to) (fun _ => true)) (hk : X.env.scope.kind = .function)
    (hW : X.w = TabP.W)
    (h_lives : Cal X.prog X.w X.K X.mg X.base X.A CX0 "lives" (spF X.K X.mg 3 (F_lives)))
    (h_ahead_of : Cal X.prog X.w X.K X.mg X.base X.A CX0 "ahead_of" (spN X.K X.mg 3 (F_ahead_of)))
    (h_by_lines : Cal X.prog X.w X.K X.mg X.base X.A CX0 "by_lines" (spN X.K X.mg 3 (F_by_lines))) : PSsp X W0 (defBody s_given_to) S_given_to :=
  (PSsp.cons (PSp.asg (PEp.var c 2) (PGp.tup (n := 2) c (PGm.cons (PGp.name c 4) (PGm.cons (PGp.name c 5) PGm.nil)))) (PSsp.cons (PSp.if_ (PRp.bool (PEp.rd (PEp.call c h_lives (PAp.cons (PEp.var c 0) (PAp.cons (PEp.var c 4) (PAp.cons (PEp.var c 3) PAp.nil))))))
      (PSsp.one (PSp.retF (PFp.lst (PAp.cons (PEp.tup (PAp.cons (PEp.var c 4) (PAp.cons (PEp.var c 5) (PAp.cons PEp.str (PAp.cons (PFp.val (PFp.lst (PAp.cons (PEp.var c 1) (PAp.cons (PEp.var c 4) PAp.nil)))) PAp.nil))))) PAp.nil))))
      PSsp.nil) (PSsp.cons (PSp.set c 6 (PFp.val (PFp.call c h_ahead_of (PAp.cons (PEp.var c 1) (PAp.cons (PEp.var c 5) (PAp.cons (PFp.val (PFp.call c h_by_lines (PAp.cons (PEp.var c 0) (PAp.cons (PEp.var c 4) (PAp.cons (PEp.var c 3) PAp.nil))))) PAp.nil)))))) (PSsp.one (PSp.retF (PFp.lc c [("heir", 7), ("share", 8), ("line", 9)] (PIh.seq (PRp.var c 6)) (fun _ c' => (PGp.tup (n := 3) c' (PGm.cons (PGp.name c' 7) (PGm.cons (PGp.name c' 8) (PGm.cons (PGp.name c' 9) PGm.nil))))) (fun _ c' => PTq.no) (fun _ c' => (PEp.tup (PAp.cons (PEp.var c' 7) (PAp.cons (PEp.var c' 8) (PAp.cons PEp.str (PAp.cons (PEp.var c' 9) PAp.nil))))))))))))
theorem kn_given_to {P : Program} {w : World} {K : PySem.W.Frag} {mg : Str → Option Value} {base : Heap} (T : Top K mg "given_to" s_given_to)
    (hW : w = TabP.W)
    (h_lives : Kn P w K mg base CX0 "lives" 1 (spF K mg 3 (F_lives)))
    (h_ahead_of : Kn P w K mg base CX0 "ahead_of" 4 (spN K mg 3 (F_ahead_of)))
    (h_by_lines : Kn P w K mg base CX0 "by_lines" 41 (spN K mg 3 (F_by_lines))) : Kn P w K mg base CX0 "given_to" 42 (spN K mg 4 F_given_to) :=
  Kn.defN (k := 41) T sc_given_to 4 rfl 10 rfl (fun _ _ _ _ _ _ us hl => match us, hl with | [_, _, _, _], _ => rfl) fun X e1 e2 e3 e4 e5 hr hk c => by
    subst e1; subst e2; subst e3; subst e4; subst e5
    exact b_given_to c hk hW (h_lives.cal hr (by decide)) (h_ahead_of.cal hr (by decide)) (h_by_lines.cal hr (by decide))
theorem b_less {X : Cx} (c : Ctx X N_less (defScope s_less) (fun _ => true)) (hk : X.env.scope.kind = .function)
    (hW : X.w = TabP.W)
    (h_part : Cal X.prog X.w X.K X.mg X.base X.A CX0 "part" (spF X.K X.mg 2 (F_part))) : PSsp X W0 (defBody s_less) S_less :=
  (PSsp.one (PSp.ret (PEp.call c h_part (PAp.cons (PEp.sub (PEp.rd (PEp.mul (PEp.rd (PEp.ix c (PRp.var c 0) (PEp.rd PEp.int))) (PEp.rd (PEp.ix c (PRp.var c 1) (PEp.rd PEp.int))))) (PEp.rd (PEp.mul (PEp.rd (PEp.ix c (PRp.var c 1) (PEp.rd PEp.int))) (PEp.rd (PEp.ix c (PRp.var c 0) (PEp.rd PEp.int)))))) (PAp.cons (PEp.mul (PEp.rd (PEp.ix c (PRp.var c 0) (PEp.rd PEp.int))) (PEp.rd (PEp.ix c (PRp.var c 1) (PEp.rd PEp.int)))) PAp.nil)))))
theorem kn_less {P : Program} {w : World} {K : PySem.W.Frag} {mg : Str → Option Value} {base : Heap} (T : Top K mg "less" s_less)
    (hW : w = TabP.W)
    (h_part : Kn P w K mg base CX0 "part" 2 (spF K mg 2 (F_part))) : Kn P w K mg base CX0 "less" 3 (spF K mg 2 F_less) :=
  Kn.def_ (k := 2) T sc_less 2 rfl 2 rfl (fun _ _ _ _ _ _ us hl => match us, hl with | [_, _], _ => rfl) fun X e1 e2 e3 e4 e5 hr hk c => by
    subst e1; subst e2; subst e3; subst e4; subst e5
    exact b_less c hk hW (h_part.cal hr (by decide))
theorem b_others_of {X : Cx} (c : Ctx X N_others_of (defScope s_others_of) (fun _ => true)) (hk : X.env.scope.kind = .function)
    (hW : X.w = TabP.W)
    (h_children_on : Cal X.prog X.w X.K X.mg X.base X.A CX0 "children_on" (spN X.K X.mg 3 (F_children_on))) : PSsp X W0 (defBody s_others_of) S_others_of :=
  (PSsp.one (PSp.retF (PFp.lc c [("child", 5)] (PIh.seq (PFp.rd (PFp.call c h_children_on (PAp.cons (PEp.var c 0) (PAp.cons (PEp.var c 2) (PAp.cons (PEp.var c 4) PAp.nil)))))) (fun _ c' => (PGp.name c' 5)) (fun _ c' => (PTq.one (PBw.pb (PBw.and (PRp.bool (PEp.rd (PEp.ix c' (PRp.var c' 1) (PRp.var c' 5)))) (PBw.and1 (PBp.ne c' (PRp.var c' 5) (PRp.var c' 3))))))) (fun _ c' => (PEp.var c' 5)))))
theorem kn_others_of {P : Program} {w : World} {K : PySem.W.Frag} {mg : Str → Option Value} {base : Heap} (T : Top K mg "others_of" s_others_of)
    (hW : w = TabP.W)
    (h_children_on : Kn P w K mg base CX0 "children_on" 2 (spN K mg 3 (F_children_on))) : Kn P w K mg base CX0 "others_of" 3 (spN K mg 5 F_others_of) :=
  Kn.defN (k := 2) T sc_others_of 5 rfl 6 rfl (fun _ _ _ _ _ _ us hl => match us, hl with | [_, _, _, _, _], _ => rfl) fun X e1 e2 e3 e4 e5 hr hk c => by
    subst e1; subst e2; subst e3; subst e4; subst e5
    exact b_others_of c hk hW (h_children_on.cal hr (by decide))
theorem b_by_parents {X : Cx} (c : Ctx X N_by_parents (defScope s_by_parents) (fun _ => true)) (hk : X.env.scope.kind = .function)
    (hW : X.w = TabP.W)
    (m_len : X.mg "len" = none)
    (h_lines_on : Cal X.prog X.w X.K X.mg X.base X.A CX0 "lines_on" (spF X.K X.mg 2 (F_lines_on)))
    (h_parents_on : Cal X.prog X.w X.K X.mg X.base X.A CX0 "parents_on" (spF X.K X.mg 3 (F_parents_on)))
    (h_shared : Cal X.prog X.w X.K X.mg X.base X.A CX0 "shared" (spF X.K X.mg 2 (F_shared)))
    (h_lives : Cal X.prog X.w X.K X.mg X.base X.A CX0 "lives" (spF X.K X.mg 3 (F_lives)))
    (h_dealt_among : Cal X.prog X.w X.K X.mg X.base X.A CX0 "dealt_among" (spN X.K X.mg 5 (R_dealt_among 36)))
    (h_others_of : Cal X.prog X.w X.K X.mg X.base X.A CX0 "others_of" (spN X.K X.mg 5 (F_others_of)))
    (h_ahead_of : Cal X.prog X.w X.K X.mg X.base X.A CX0 "ahead_of" (spN X.K X.mg 3 (F_ahead_of))) : PSsp X W0 (defBody s_by_parents) S_by_parents :=
  (PSsp.cons (PSp.set c 3 (PEp.call c h_lines_on (PAp.cons (PEp.var c 0) (PAp.cons (PEp.var c 2) PAp.nil)))) (PSsp.cons (PSp.setF c 4 (PFp.lst PAp.nil)) (PSsp.cons (PSp.for_ c [5] (PIp.seq (PEp.call c h_parents_on (PAp.cons (PEp.var c 0) (PAp.cons (PEp.var c 1) (PAp.cons (PEp.var c 2) PAp.nil))))) (PGp.name c 5)
      (PSsp.one (PSp.if_ (PBw.pb (PBw.or (PRp.bool (PEp.rd (PEp.call c h_lives (PAp.cons (PEp.var c 0) (PAp.cons (PEp.var c 5) (PAp.cons (PEp.var c 2) PAp.nil)))))) (PBw.or1 (PBp.ne c (PFp.rd (PFp.call c h_others_of (PAp.cons (PEp.var c 0) (PAp.cons (PEp.var c 3) (PAp.cons (PEp.var c 5) (PAp.cons (PEp.var c 1) (PAp.cons (PEp.var c 2) PAp.nil))))))) (PFp.rd (PFp.lst PAp.nil))))))
      (PSsp.one (PSp.append c 4 (PEp.var c 5)))
      PSsp.nil))) (PSsp.frz 4 (PSsp.cons (PSp.setF c 6 (PFp.lst PAp.nil)) (PSsp.cons (PSp.for_ c [7, 8] (PIp.seq (PEp.var c 4)) (PGp.name c 5)
      (PSsp.cons (PSp.set c 7 (PEp.call c h_shared (PAp.cons (PEp.tup (PAp.cons PEp.int (PAp.cons PEp.int PAp.nil))) (PAp.cons (PEp.len c m_len (PRp.var c 4)) PAp.nil)))) (PSsp.one (PSp.if_ (PRp.bool (PEp.rd (PEp.call c h_lives (PAp.cons (PEp.var c 0) (PAp.cons (PEp.var c 5) (PAp.cons (PEp.var c 2) PAp.nil))))))
      (PSsp.one (PSp.append c 6 (PEp.tup (PAp.cons (PEp.var c 5) (PAp.cons (PEp.var c 7) (PAp.cons (PFp.val (PFp.lst (PAp.cons (PEp.var c 1) (PAp.cons (PEp.var c 5) PAp.nil)))) PAp.nil))))))
      (PSsp.cons (PSp.set c 8 (PFp.val (PFp.call c h_dealt_among (PAp.cons (PEp.var c 0) (PAp.cons (PEp.var c 3) (PAp.cons (PEp.var c 5) (PAp.cons (PFp.val (PFp.call c h_others_of (PAp.cons (PEp.var c 0) (PAp.cons (PEp.var c 3) (PAp.cons (PEp.var c 5) (PAp.cons (PEp.var c 1) (PAp.cons (PEp.var c 2) PAp.nil))))))) (PAp.cons (PEp.var c 2) PAp.nil)))))))) (PSsp.one (PSp.extend c 6 (PFp.rd (PFp.call c h_ahead_of (PAp.cons (PEp.var c 1) (PAp.cons (PEp.var c 7) (PAp.cons (PEp.var c 8) PAp.nil)))))))))))) (PSsp.one (PSp.retV c 6))))))))
theorem kn_by_parents {P : Program} {w : World} {K : PySem.W.Frag} {mg : Str → Option Value} {base : Heap} (T : Top K mg "by_parents" s_by_parents)
    (hW : w = TabP.W)
    (m_len : mg "len" = none)
    (h_lines_on : Kn P w K mg base CX0 "lines_on" 5 (spF K mg 2 (F_lines_on)))
    (h_parents_on : Kn P w K mg base CX0 "parents_on" 1 (spF K mg 3 (F_parents_on)))
    (h_shared : Kn P w K mg base CX0 "shared" 3 (spF K mg 2 (F_shared)))
    (h_lives : Kn P w K mg base CX0 "lives" 1 (spF K mg 3 (F_lives)))
    (h_dealt_among : Kn P w K mg base CX0 "dealt_among" 40 (spN K mg 5 (R_dealt_among 36)))
    (h_others_of : Kn P w K mg base CX0 "others_of" 3 (spN K mg 5 (F_others_of)))
    (h_ahead_of : Kn P w K mg base CX0 "ahead_of" 4 (spN K mg 3 (F_ahead_of))) : Kn P w K mg base CX0 "by_parents" 41 (spN K mg 3 F_by_parents) :=
  Kn.defN (k := 40) T sc_by_parents 3 rfl 9 rfl (fun _ _ _ _ _ _ us hl => match us, hl with | [_, _, _], _ => rfl) fun X e1 e2 e3 e4 e5 hr hk c => by
    subst e1; subst e2; subst e3; subst e4; subst e5
    exact b_by_parents c hk hW m_len (h_lines_on.cal hr (by decide)) (h_parents_on.cal hr (by decide)) (h_shared.cal hr (by decide)) (h_lives.cal hr (by decide)) (h_dealt_among.cal hr (by decide)) (h_others_of.cal hr (by decide)) (h_ahead_of.cal hr (by decide))
theorem b_moves {X : Cx} (c : Ctx X N_moves (defScope s_moves) (fun _ => true)) (hk : X.env.scope.kind = .function)
    (hW : X.w = TabP.W)
    (h_children_on : Cal X.prog X.w X.K X.mg X.base X.A CX0 "children_on" (spN X.K X.mg 3 (F_children_on)))
    (h_parents_on : Cal X.prog X.w X.K X.mg X.base X.A CX0 "parents_on" (spF X.K X.mg 3 (F_parents_on))) : PSsp X W0 (defBody s_moves) S_moves :=
  (PSsp.cons (PSp.asg (PEp.var c 1) (PGp.tup (n := 2) c (PGm.cons (PGp.name c 3) (PGm.cons (PGp.name c 4) PGm.nil)))) (PSsp.cons (PSp.frzB 5 (PSp.setLc c 5 [("child", 6)] (PIh.seq (PFp.rd (PFp.call c h_children_on (PAp.cons (PEp.var c 0) (PAp.cons (PEp.var c 3) (PAp.cons (PEp.var c 2) PAp.nil)))))) (fun _ c' => (PGp.name c' 6)) (fun _ c' => PTq.no) (fun _ c' => (PEp.tup (PAp.cons (PEp.var c' 6) (PAp.cons PEp.bl PAp.nil)))) hk)) (PSsp.cons (PSp.if_ (PBp.not (PRp.bool (PRp.var c 4)))
      (PSsp.one (PSp.set c 5 (PFp.val (PFp.cat (PRp.var c 5) (PFp.rd (PFp.lc c [("parent", 7)] (PIh.seq (PEp.rd (PEp.call c h_parents_on (PAp.cons (PEp.var c 0) (PAp.cons (PEp.var c 3) (PAp.cons (PEp.var c 2) PAp.nil)))))) (fun _ c' => (PGp.name c' 7)) (fun _ c' => PTq.no) (fun _ c' => (PEp.tup (PAp.cons (PEp.var c' 7) (PAp.cons PEp.bl PAp.nil))))))))))
      PSsp.nil) (PSsp.one (PSp.ret (PEp.var c 5))))))
theorem kn_moves {P : Program} {w : World} {K : PySem.W.Frag} {mg : Str → Option Value} {base : Heap} (T : Top K mg "moves" s_moves)
    (hW : w = TabP.W)
    (h_children_on : Kn P w K mg base CX0 "children_on" 2 (spN K mg 3 (F_children_on)))
    (h_parents_on : Kn P w K mg base CX0 "parents_on" 1 (spF K mg 3 (F_parents_on))) : Kn P w K mg base CX0 "moves" 3 (spF K mg 3 F_moves) :=
  Kn.def_ (k := 2) T sc_moves 3 rfl 8 rfl (fun _ _ _ _ _ _ us hl => match us, hl with | [_, _, _], _ => rfl) fun X e1 e2 e3 e4 e5 hr hk c => by
    subst e1; subst e2; subst e3; subst e4; subst e5
    exact b_moves c hk hW (h_children_on.cal hr (by decide)) (h_parents_on.cal hr (by decide))
theorem b_onward {X : Cx} (c : Ctx X N_onward (defScope s_onward) (fun _ => true)) (hk : X.env.scope.kind = .function)
    (hW : X.w = TabP.W)
    (m_min : X.mg "min" = none)
    (h_moves : Cal X.prog X.w X.K X.mg X.base X.A CX0 "moves" (spF X.K X.mg 3 (F_moves))) : PSsp X W0 (defBody s_onward) S_onward :=
  (PSsp.cons (PSp.newN c 4) (PSsp.cons (PSp.forN c [5, 6, 7] 1 (PGp.name c 5)
      (PSsp.one (PSp.for_ c [6, 7] (PIp.seq (PEp.call c h_moves (PAp.cons (PEp.var c 0) (PAp.cons (PEp.var c 5) (PAp.cons (PEp.var c 3) PAp.nil))))) (PGp.name c 6)
      (PSsp.one (PSp.if_ (PBp.ninN hW c 2 (PRp.var c 6))
      (PSsp.cons (PSp.set c 7 (PFp.val (PFp.cat (PEp.rd (PEp.ixN hW c 1 (PRp.var c 5))) (PFp.rd (PFp.lst (PAp.cons (PEp.ix c (PRp.var c 6) (PEp.rd PEp.int)) PAp.nil)))))) (PSsp.one (PSp.setN hW c 4 (PEp.min2D c m_min (PEp.getN hW c 4 (PRp.var c 6) (PEp.var c 7)) (PEp.var c 7)) (PRp.var c 6))))
      PSsp.nil))))) (PSsp.cons (PSp.forN c [] 4 (PGp.name c 5)
      (PSsp.one (PSp.setN hW c 2 PEp.bl (PRp.var c 5)))) (PSsp.one (PSp.retN_ c 4)))))
theorem kn_onward {P : Program} {w : World} {K : PySem.W.Frag} {mg : Str → Option Value} {base : Heap} (T : Top K mg "onward" s_onward)
    (hW : w = TabP.W)
    (m_min : mg "min" = none)
    (h_moves : Kn P w K mg base CX0 "moves" 3 (spF K mg 3 (F_moves))) : Kn P w K mg base CX0 "onward" 4 (spR K 4 2 F_onward) :=
  Kn.defR (k := 3) T sc_onward 4 2 rfl 8 rfl (fun _ _ _ _ _ _ us hl => match us, hl with | [_, _, _, _], _ => rfl) fun X e1 e2 e3 e4 e5 hr hk c => by
    subst e1; subst e2; subst e3; subst e4; subst e5
    exact b_onward c hk hW m_min (h_moves.cal hr (by decide))
theorem b_living_ends {X : Cx} (c : Ctx X N_living_ends (defScope s_living_ends) (fun _ => true)) (hk : X.env.scope.kind = .function)
    (hW : X.w = TabP.W)
    (m_list : X.mg "list" = none)
    (m_min : X.mg "min" = none)
    (m_sorted : X.mg "sorted" = none)
    (h_lives : Cal X.prog X.w X.K X.mg X.base X.A CX0 "lives" (spF X.K X.mg 3 (F_lives))) : PSsp X W0 (defBody s_living_ends) S_living_ends :=
  (PSsp.cons (PSp.setK c 4 PKp.nil) (PSsp.cons (PSp.forN c [5, 6] 1 (PGp.name c 5)
      (PSsp.cons (PSp.set c 6 (PEp.ix c (PRp.var c 5) (PEp.rd PEp.int))) (PSsp.one (PSp.if_ (PBw.pb (PBw.and (PBp.ne c (PRp.var c 6) (PRp.var c 2)) (PBw.and1 (PRp.bool (PEp.rd (PEp.call c h_lives (PAp.cons (PEp.var c 0) (PAp.cons (PEp.var c 6) (PAp.cons (PEp.var c 3) PAp.nil)))))))))
      (PSsp.one (PSp.setI c 4 (PEp.min2D c m_min (PEp.dget2 c (PRp.var c 4) (PRp.var c 6) (PEp.ixN hW c 1 (PRp.var c 5))) (PEp.ixN hW c 1 (PRp.var c 5))) (PRp.var c 6)))
      PSsp.nil)))) (PSsp.frz 4 (PSsp.one (PSp.retF (PFp.lc c [("heir", 6)] (PIh.seq (PFp.rd (PFp.sorted c m_sorted (PFp.rd (PFp.list c m_list (PRp.var c 4)))))) (fun _ c' => (PGp.name c' 6)) (fun _ c' => PTq.no) (fun _ c' => (PEp.tup (PAp.cons (PEp.var c' 6) (PAp.cons (PEp.ix c' (PRp.var c' 4) (PRp.var c' 6)) PAp.nil))))))))))
theorem kn_living_ends {P : Program} {w : World} {K : PySem.W.Frag} {mg : Str → Option Value} {base : Heap} (T : Top K mg "living_ends" s_living_ends)
    (hW : w = TabP.W)
    (m_list : mg "list" = none)
    (m_min : mg "min" = none)
    (m_sorted : mg "sorted" = none)
    (h_lives : Kn P w K mg base CX0 "lives" 1 (spF K mg 3 (F_lives))) : Kn P w K mg base CX0 "living_ends" 2 (spB K 4 F_living_ends) :=
  Kn.defB (k := 1) T sc_living_ends 4 rfl 7 rfl (fun _ _ _ _ _ _ us hl => match us, hl with | [_, _, _, _], _ => rfl) fun X e1 e2 e3 e4 e5 hr hk c => by
    subst e1; subst e2; subst e3; subst e4; subst e5
    exact b_living_ends c hk hW m_list m_min m_sorted (h_lives.cal hr (by decide))
theorem b_nearest {X : Cx} (c : Ctx X N_nearest (defScope s_nearest) (fun _ => true)) (hk : X.env.scope.kind = .function)
    (hW : X.w = TabP.W)
    (m_len : X.mg "len" = none)
    (h_onward : Cal X.prog X.w X.K X.mg X.base X.A CX0 "onward" (spR X.K 4 2 F_onward))
    (h_living_ends : Cal X.prog X.w X.K X.mg X.base X.A CX0 "living_ends" (spB X.K 4 F_living_ends)) : PSsp X W0 (defBody s_nearest) S_nearest :=
  (PSsp.cons (PSp.newN1 hW c 3 (PEp.tup (PAp.cons (PEp.var c 1) (PAp.cons PEp.bl PAp.nil))) (PFp.val (PFp.lst (PAp.cons (PEp.var c 1) PAp.nil)))) (PSsp.cons (PSp.newN1 hW c 4 (PEp.tup (PAp.cons (PEp.var c 1) (PAp.cons PEp.bl PAp.nil))) PEp.bl) (PSsp.cons (PSp.while_ c [5] mu_nearest_0 (PBp.gt (PEp.rd (PEp.lenN hW c m_len 3)) (PEp.rd PEp.int))
      (PSsp.cons (PSp.setR c 3 4 2 h_onward (PNm.cons c 0 .d (PNm.cons c 3 .b (PNm.cons c 4 .m (PNm.cons c 2 .d PNm.nil))))) (PSsp.cons (PSp.set c 5 (PFp.val (PFp.callB c h_living_ends (PNm.cons c 0 .d (PNm.cons c 3 .b (PNm.cons c 1 .d (PNm.cons c 2 .d PNm.nil))))))) (PSsp.one (PSp.if_ (PBp.ne c (PRp.var c 5) (PFp.rd (PFp.lst PAp.nil)))
      (PSsp.one (PSp.ret (PEp.var c 5)))
      PSsp.nil))))) (PSsp.one (PSp.ret (PFp.val (PFp.lst PAp.nil)))))))
theorem kn_nearest {P : Program} {w : World} {K : PySem.W.Frag} {mg : Str → Option Value} {base : Heap} (T : Top K mg "nearest" s_nearest)
    (hW : w = TabP.W)
    (m_len : mg "len" = none)
    (h_onward : Kn P w K mg base CX0 "onward" 4 (spR K 4 2 F_onward))
    (h_living_ends : Kn P w K mg base CX0 "living_ends" 2 (spB K 4 F_living_ends)) : Kn P w K mg base CX0 "nearest" 5 (spF K mg 3 F_nearest) :=
  Kn.def_ (k := 4) T sc_nearest 3 rfl 6 rfl (fun _ _ _ _ _ _ us hl => match us, hl with | [_, _, _], _ => rfl) fun X e1 e2 e3 e4 e5 hr hk c => by
    subst e1; subst e2; subst e3; subst e4; subst e5
    exact b_nearest c hk hW m_len (h_onward.cal hr (by decide)) (h_living_ends.cal hr (by decide))
theorem b_kin_of {X : Cx} (c : Ctx X N_kin_of (defScope s_kin_of) (fun _ => true)) (hk : X.env.scope.kind = .function)
    (hW : X.w = TabP.W)
    (m_len : X.mg "len" = none)
    (h_by_lines : Cal X.prog X.w X.K X.mg X.base X.A CX0 "by_lines" (spN X.K X.mg 3 (F_by_lines)))
    (h_by_parents : Cal X.prog X.w X.K X.mg X.base X.A CX0 "by_parents" (spN X.K X.mg 3 (F_by_parents)))
    (h_nearest : Cal X.prog X.w X.K X.mg X.base X.A CX0 "nearest" (spF X.K X.mg 3 (F_nearest)))
    (h_shared : Cal X.prog X.w X.K X.mg X.base X.A CX0 "shared" (spF X.K X.mg 2 (F_shared))) : PSsp X W0 (defBody s_kin_of) S_kin_of :=
  (PSsp.cons (PSp.set c 3 (PFp.val (PFp.call c h_by_lines (PAp.cons (PEp.var c 0) (PAp.cons (PEp.var c 1) (PAp.cons (PEp.var c 2) PAp.nil)))))) (PSsp.cons (PSp.if_ (PBp.ne c (PRp.var c 3) (PFp.rd (PFp.lst PAp.nil)))
      (PSsp.one (PSp.ret (PEp.tup (PAp.cons (PEp.var c 3) (PAp.cons PEp.str (PAp.cons (PEp.tup (PAp.cons PEp.int (PAp.cons PEp.int PAp.nil))) PAp.nil))))))
      PSsp.nil) (PSsp.cons (PSp.set c 3 (PFp.val (PFp.call c h_by_parents (PAp.cons (PEp.var c 0) (PAp.cons (PEp.var c 1) (PAp.cons (PEp.var c 2) PAp.nil)))))) (PSsp.cons (PSp.if_ (PBp.ne c (PRp.var c 3) (PFp.rd (PFp.lst PAp.nil)))
      (PSsp.one (PSp.ret (PEp.tup (PAp.cons (PEp.var c 3) (PAp.cons PEp.str (PAp.cons (PEp.tup (PAp.cons PEp.int (PAp.cons PEp.int PAp.nil))) PAp.nil))))))
      PSsp.nil) (PSsp.cons (PSp.set c 4 (PEp.call c h_nearest (PAp.cons (PEp.var c 0) (PAp.cons (PEp.var c 1) (PAp.cons (PEp.var c 2) PAp.nil))))) (PSsp.cons (PSp.if_ (PBp.ne c (PRp.var c 4) (PFp.rd (PFp.lst PAp.nil)))
      (PSsp.cons (PSp.set c 5 (PEp.call c h_shared (PAp.cons (PEp.tup (PAp.cons PEp.int (PAp.cons PEp.int PAp.nil))) (PAp.cons (PEp.len c m_len (PRp.var c 4)) PAp.nil)))) (PSsp.one (PSp.ret (PEp.tup (PAp.cons (PFp.val (PFp.lc c [("heir", 6), ("line", 7)] (PIh.seq (PRp.var c 4)) (fun _ c' => (PGp.tup (n := 2) c' (PGm.cons (PGp.name c' 6) (PGm.cons (PGp.name c' 7) PGm.nil)))) (fun _ c' => PTq.no) (fun _ c' => (PEp.tup (PAp.cons (PEp.var c' 6) (PAp.cons (PEp.var c' 5) (PAp.cons (PEp.var c' 7) PAp.nil))))))) (PAp.cons PEp.str (PAp.cons (PEp.tup (PAp.cons PEp.int (PAp.cons PEp.int PAp.nil))) PAp.nil)))))))
      PSsp.nil) (PSsp.one (PSp.ret (PEp.tup (PAp.cons (PFp.val (PFp.lst PAp.nil)) (PAp.cons PEp.str (PAp.cons (PEp.tup (PAp.cons PEp.int (PAp.cons PEp.int PAp.nil))) PAp.nil))))))))))))
theorem kn_kin_of {P : Program} {w : World} {K : PySem.W.Frag} {mg : Str → Option Value} {base : Heap} (T : Top K mg "kin_of" s_kin_of)
    (hW : w = TabP.W)
    (m_len : mg "len" = none)
    (h_by_lines : Kn P w K mg base CX0 "by_lines" 41 (spN K mg 3 (F_by_lines)))
    (h_by_parents : Kn P w K mg base CX0 "by_parents" 41 (spN K mg 3 (F_by_parents)))
    (h_nearest : Kn P w K mg base CX0 "nearest" 5 (spF K mg 3 (F_nearest)))
    (h_shared : Kn P w K mg base CX0 "shared" 3 (spF K mg 2 (F_shared))) : Kn P w K mg base CX0 "kin_of" 42 (spF K mg 3 F_kin_of) :=
  Kn.def_ (k := 41) T sc_kin_of 3 rfl 8 rfl (fun _ _ _ _ _ _ us hl => match us, hl with | [_, _, _], _ => rfl) fun X e1 e2 e3 e4 e5 hr hk c => by
    subst e1; subst e2; subst e3; subst e4; subst e5
    exact b_kin_of c hk hW m_len (h_by_lines.cal hr (by decide)) (h_by_parents.cal hr (by decide)) (h_nearest.cal hr (by decide)) (h_shared.cal hr (by decide))
theorem b_spouse_on {X : Cx} (c : Ctx X N_spouse_on (defScope s_spouse_on) (fun _ => true)) (hk : X.env.scope.kind = .function)
    (hW : X.w = TabP.W)
    (h_lives : Cal X.prog X.w X.K X.mg X.base X.A CX0 "lives" (spF X.K X.mg 3 (F_lives))) : PSsp X W0 (defBody s_spouse_on) S_spouse_on :=
  (PSsp.cons (PSp.asg (PEp.var c 0) (PGp.tup (n := 3) c (PGm.cons (PGp.name c 3) (PGm.cons (PGp.name c 4) (PGm.cons (PGp.name c 5) PGm.nil))))) (PSsp.cons (PSp.for_ c [6, 7, 8, 9] (PIp.seq (PEp.var c 4)) (PGp.tup (n := 3) c (PGm.cons (PGp.name c 6) (PGm.cons (PGp.name c 7) (PGm.cons (PGp.name c 8) PGm.nil))))
      (PSsp.one (PSp.if_ (PBw.pb (PBw.and (PBp.le (PRp.var c 8) (PRp.var c 2)) (PBw.and1 (PBp.in_ c (PRp.var c 1) (PEp.rd (PEp.tup (PAp.cons (PEp.var c 6) (PAp.cons (PEp.var c 7) PAp.nil))))))))
      (PSsp.cons (PSp.set c 9 (PEp.sub (PEp.rd (PEp.add (PRp.var c 6) (PRp.var c 7))) (PRp.var c 1))) (PSsp.one (PSp.if_ (PRp.bool (PEp.rd (PEp.call c h_lives (PAp.cons (PEp.var c 3) (PAp.cons (PEp.var c 9) (PAp.cons (PEp.var c 2) PAp.nil))))))
      (PSsp.one (PSp.ret (PEp.var c 9)))
      PSsp.nil)))
      PSsp.nil))) (PSsp.one (PSp.ret PEp.non))))
theorem kn_spouse_on {P : Program} {w : World} {K : PySem.W.Frag} {mg : Str → Option Value} {base : Heap} (T : Top K mg "spouse_on" s_spouse_on)
    (hW : w = TabP.W)
    (h_lives : Kn P w K mg base CX0 "lives" 1 (spF K mg 3 (F_lives))) : Kn P w K mg base CX0 "spouse_on" 2 (spF K mg 3 F_spouse_on) :=
  Kn.def_ (k := 1) T sc_spouse_on 3 rfl 10 rfl (fun _ _ _ _ _ _ us hl => match us, hl with | [_, _, _], _ => rfl) fun X e1 e2 e3 e4 e5 hr hk c => by
    subst e1; subst e2; subst e3; subst e4; subst e5
    exact b_spouse_on c hk hW (h_lives.cal hr (by decide))
theorem b_rest_rows {X : Cx} (c : Ctx X N_rest_rows (defScope s_rest_rows) (fun _ => true)) (hk : X.env.scope.kind = .function)
    (hW : X.w = TabP.W)
    (h_kin_of : Cal X.prog X.w X.K X.mg X.base X.A CX0 "kin_of" (spF X.K X.mg 3 (F_kin_of)))
    (h_spouse_on : Cal X.prog X.w X.K X.mg X.base X.A CX0 "spouse_on" (spF X.K X.mg 3 (F_spouse_on)))
    (h_less : Cal X.prog X.w X.K X.mg X.base X.A CX0 "less" (spF X.K X.mg 2 (F_less)))
    (h_times : Cal X.prog X.w X.K X.mg X.base X.A CX0 "times" (spF X.K X.mg 2 (F_times))) : PSsp X W0 (defBody s_rest_rows) S_rest_rows :=
  (PSsp.cons (PSp.set c 4 (PEp.ix c (PRp.var c 0) (PEp.rd PEp.int))) (PSsp.cons (PSp.asg (PEp.call c h_kin_of (PAp.cons (PEp.var c 4) (PAp.cons (PEp.var c 1) (PAp.cons (PEp.var c 3) PAp.nil)))) (PGp.tup (n := 3) c (PGm.cons (PGp.name c 5) (PGm.cons (PGp.name c 6) (PGm.cons (PGp.name c 7) PGm.nil))))) (PSsp.cons (PSp.set c 8 (PEp.call c h_spouse_on (PAp.cons (PEp.var c 0) (PAp.cons (PEp.var c 1) (PAp.cons (PEp.var c 3) PAp.nil))))) (PSsp.cons (PSp.if_ (PBw.pb (PBw.and (PBp.isN (PRp.var c 8)) (PBw.and1 (PBp.eq c (PRp.var c 5) (PFp.rd (PFp.lst PAp.nil))))))
      (PSsp.one (PSp.retF (PFp.lst (PAp.cons (PEp.tup (PAp.cons PEp.non (PAp.cons (PEp.var c 2) (PAp.cons PEp.str (PAp.cons (PFp.val (PFp.lst (PAp.cons (PEp.var c 1) PAp.nil))) PAp.nil))))) PAp.nil))))
      PSsp.nil) (PSsp.cons (PSp.setF c 9 (PFp.lst PAp.nil)) (PSsp.cons (PSp.if_ (PBp.notN (PRp.var c 8))
      (PSsp.cons (PSp.append c 9 (PEp.tup (PAp.cons (PEp.var c 8) (PAp.cons (PEp.call c h_times (PAp.cons (PEp.var c 2) (PAp.cons (PEp.var c 7) PAp.nil))) (PAp.cons PEp.str (PAp.cons (PFp.val (PFp.lst (PAp.cons (PEp.var c 1) (PAp.cons (PEp.var c 8) PAp.nil)))) PAp.nil)))))) (PSsp.one (PSp.set c 2 (PEp.call c h_less (PAp.cons (PEp.var c 2) (PAp.cons (PEp.call c h_times (PAp.cons (PEp.var c 2) (PAp.cons (PEp.var c 7) PAp.nil))) PAp.nil))))))
      PSsp.nil) (PSsp.cons (PSp.for_ c [10, 11, 12] (PIp.seq (PEp.var c 5)) (PGp.tup (n := 3) c (PGm.cons (PGp.name c 10) (PGm.cons (PGp.name c 11) (PGm.cons (PGp.name c 12) PGm.nil))))
      (PSsp.one (PSp.append c 9 (PEp.tup (PAp.cons (PEp.var c 10) (PAp.cons (PEp.call c h_times (PAp.cons (PEp.var c 2) (PAp.cons (PEp.var c 11) PAp.nil))) (PAp.cons (PEp.var c 6) (PAp.cons (PEp.var c 12) PAp.nil)))))))) (PSsp.one (PSp.retV c 9)))))))))
theorem kn_rest_rows {P : Program} {w : World} {K : PySem.W.Frag} {mg : Str → Option Value} {base : Heap} (T : Top K mg "rest_rows" s_rest_rows)
    (hW : w = TabP.W)
    (h_kin_of : Kn P w K mg base CX0 "kin_of" 42 (spF K mg 3 (F_kin_of)))
    (h_spouse_on : Kn P w K mg base CX0 "spouse_on" 2 (spF K mg 3 (F_spouse_on)))
    (h_less : Kn P w K mg base CX0 "less" 3 (spF K mg 2 (F_less)))
    (h_times : Kn P w K mg base CX0 "times" 3 (spF K mg 2 (F_times))) : Kn P w K mg base CX0 "rest_rows" 43 (spN K mg 4 F_rest_rows) :=
  Kn.defN (k := 42) T sc_rest_rows 4 rfl 13 rfl (fun _ _ _ _ _ _ us hl => match us, hl with | [_, _, _, _], _ => rfl) fun X e1 e2 e3 e4 e5 hr hk c => by
    subst e1; subst e2; subst e3; subst e4; subst e5
    exact b_rest_rows c hk hW (h_kin_of.cal hr (by decide)) (h_spouse_on.cal hr (by decide)) (h_less.cal hr (by decide)) (h_times.cal hr (by decide))
theorem b_dealt {X : Cx} (c : Ctx X N_dealt (defScope s_dealt) (fun _ => true)) (hk : X.env.scope.kind = .function)
    (hW : X.w = TabP.W)
    (h_will_on : Cal X.prog X.w X.K X.mg X.base X.A CX0 "will_on" (spF X.K X.mg 3 (F_will_on)))
    (h_given_to : Cal X.prog X.w X.K X.mg X.base X.A CX0 "given_to" (spN X.K X.mg 4 (F_given_to)))
    (h_less : Cal X.prog X.w X.K X.mg X.base X.A CX0 "less" (spF X.K X.mg 2 (F_less)))
    (h_rest_rows : Cal X.prog X.w X.K X.mg X.base X.A CX0 "rest_rows" (spN X.K X.mg 4 (F_rest_rows))) : PSsp X W0 (defBody s_dealt) S_dealt :=
  (PSsp.cons (PSp.set c 2 (PEp.ix c (PEp.rd (PEp.ix c (PEp.rd (PEp.ix c (PRp.var c 0) (PEp.rd PEp.int))) (PRp.var c 1))) (PEp.rd PEp.int))) (PSsp.cons (PSp.if_ (PBp.isN (PRp.var c 2))
      (PSsp.one PSp.errS)
      PSsp.nil) (PSsp.cons (PSp.setF c 3 (PFp.lst PAp.nil)) (PSsp.cons (PSp.set c 4 (PEp.tup (PAp.cons PEp.int (PAp.cons PEp.int PAp.nil)))) (PSsp.cons (PSp.for_ c [5, 6] (PIp.seq (PEp.call c h_will_on (PAp.cons (PEp.var c 0) (PAp.cons (PEp.var c 1) (PAp.cons (PEp.var c 2) PAp.nil))))) (PGp.name c 5)
      (PSsp.cons (PSp.set c 6 (PFp.val (PFp.call c h_given_to (PAp.cons (PEp.ix c (PRp.var c 0) (PEp.rd PEp.int)) (PAp.cons (PEp.var c 1) (PAp.cons (PEp.var c 5) (PAp.cons (PEp.var c 2) PAp.nil))))))) (PSsp.one (PSp.if_ (PBp.ne c (PRp.var c 6) (PFp.rd (PFp.lst PAp.nil)))
      (PSsp.cons (PSp.set c 4 (PEp.call c h_less (PAp.cons (PEp.var c 4) (PAp.cons (PEp.ix c (PRp.var c 5) (PEp.rd PEp.int)) PAp.nil)))) (PSsp.one (PSp.extend c 3 (PRp.var c 6))))
      PSsp.nil)))) (PSsp.cons (PSp.if_ (PBp.ne c (PRp.var c 4) (PEp.rd (PEp.tup (PAp.cons PEp.int (PAp.cons PEp.int PAp.nil)))))
      (PSsp.one (PSp.extend c 3 (PFp.rd (PFp.call c h_rest_rows (PAp.cons (PEp.var c 0) (PAp.cons (PEp.var c 1) (PAp.cons (PEp.var c 4) (PAp.cons (PEp.var c 2) PAp.nil))))))))
      PSsp.nil) (PSsp.one (PSp.retV c 3))))))))
theorem kn_dealt {P : Program} {w : World} {K : PySem.W.Frag} {mg : Str → Option Value} {base : Heap} (T : Top K mg "dealt" s_dealt)
    (hW : w = TabP.W)
    (h_will_on : Kn P w K mg base CX0 "will_on" 1 (spF K mg 3 (F_will_on)))
    (h_given_to : Kn P w K mg base CX0 "given_to" 42 (spN K mg 4 (F_given_to)))
    (h_less : Kn P w K mg base CX0 "less" 3 (spF K mg 2 (F_less)))
    (h_rest_rows : Kn P w K mg base CX0 "rest_rows" 43 (spN K mg 4 (F_rest_rows))) : Kn P w K mg base CX0 "dealt" 44 (spN K mg 2 F_dealt) :=
  Kn.defN (k := 43) T sc_dealt 2 rfl 7 rfl (fun _ _ _ _ _ _ us hl => match us, hl with | [_, _], _ => rfl) fun X e1 e2 e3 e4 e5 hr hk c => by
    subst e1; subst e2; subst e3; subst e4; subst e5
    exact b_dealt c hk hW (h_will_on.cal hr (by decide)) (h_given_to.cal hr (by decide)) (h_less.cal hr (by decide)) (h_rest_rows.cal hr (by decide))
theorem b_Book_roll {X : Cx} (c : Ctx X N_Book_roll (defScope s_Book_roll) (fun _ => true)) (hk : X.env.scope.kind = .function)
    (hW : X.w = TabP.W)
    (m_list : X.mg "list" = none)
    (hB : BkC X.K) : PQsp X (defBody s_Book_roll) S_Book_roll :=
  (PQsp.one (PQp.ret (PEp.tup (PAp.cons (PFp.val (PFp.list c m_list (PRp.fld (by exact hB) c 0 .pe))) (PAp.cons (PFp.val (PFp.list c m_list (PRp.fld (by exact hB) c 0 .ma))) (PAp.cons (PFp.val (PFp.list c m_list (PRp.fld (by exact hB) c 0 .wi))) PAp.nil))))))
theorem kn_Book_roll {P : Program} {w : World} {K : PySem.W.Frag} {mg : Str → Option Value} {base : Heap} (T : TopM K "roll" "Book.roll" s_Book_roll)
    (hW : w = TabP.W)
    (m_list : mg "list" = none)
    (hB : BkC K) : KnM P w K mg base CX0 "roll" 1 (spQ K 0 F_Book_roll) :=
  KnM.defQ (k := 0) T sc_Book_roll 0 rfl 1 rfl (by decide) (fun _ _ _ _ _ _ us hl => match us, hl with | [_], _ => rfl) fun X e1 e2 e3 e4 e5 hr hk c => by
    subst e1; subst e2; subst e3; subst e4; subst e5
    exact b_Book_roll c hk hW m_list hB 
theorem b_Book_deal_anew {X : Cx} (c : Ctx X N_Book_deal_anew (defScope s_Book_deal_anew) (fun _ => true)) (hk : X.env.scope.kind = .function)
    (hW : X.w = TabP.W)
    (hB : BkC X.K)
    (h_Book_dead : CalM X.prog X.w X.K X.mg X.base X.A CX0 "dead" (spQF X.K 0 F_Book_dead))
    (h_dealt : Cal X.prog X.w X.K X.mg X.base X.A CX0 "dealt" (spN X.K X.mg 2 (F_dealt)))
    (h_Book_roll : CalM X.prog X.w X.K X.mg X.base X.A CX0 "roll" (spQ X.K 0 F_Book_roll)) : PSsp X W0 (defBody s_Book_deal_anew) S_Book_deal_anew :=
  (PSsp.cons (PSp.fldNew (by exact hB) c 0 .ot (PFp.lst PAp.nil)) (PSsp.one (PSp.for_ c [1, 2] (PIp.seq (PFp.val (PFp.callQ0 (by exact hB) c 0 h_Book_dead))) (PGp.name c 1)
      (PSsp.cons (PSp.set c 2 (PFp.val (PFp.call c h_dealt (PAp.cons (PEp.callQ0 (by exact hB) c 0 h_Book_roll) (PAp.cons (PEp.var c 1) PAp.nil))))) (PSsp.cons (PSp.if_ (PBp.ne c (PRp.var c 2) (PEp.rd (PEp.dget1 c (PRp.fld (by exact hB) c 0 .de) (PRp.var c 1))))
      (PSsp.one (PSp.fldApp (by exact hB) c 0 .ot (PEp.var c 1)))
      PSsp.nil) (PSsp.one (PSp.fldPut (by exact hB) c 0 (PEp.var c 2) (PRp.var c 1))))))))
theorem kn_Book_deal_anew {P : Program} {w : World} {K : PySem.W.Frag} {mg : Str → Option Value} {base : Heap} (T : TopM K "deal_anew" "Book.deal_anew" s_Book_deal_anew)
    (hW : w = TabP.W)
    (hB : BkC K)
    (h_Book_dead : KnM P w K mg base CX0 "dead" 1 (spQF K 0 F_Book_dead))
    (h_dealt : Kn P w K mg base CX0 "dealt" 44 (spN K mg 2 (F_dealt)))
    (h_Book_roll : KnM P w K mg base CX0 "roll" 1 (spQ K 0 F_Book_roll)) : KnM P w K mg base CX0 "deal_anew" 45 (spM K 0 F_Book_deal_anew) :=
  KnM.def_ (k := 44) T sc_Book_deal_anew 0 rfl 3 rfl (by decide) (fun _ _ _ _ _ _ us hl => match us, hl with | [_], _ => rfl) fun X e1 e2 e3 e4 e5 hr hk c => by
    subst e1; subst e2; subst e3; subst e4; subst e5
    exact b_Book_deal_anew c hk hW hB (h_Book_dead.cal hr (by decide)) (h_dealt.cal hr (by decide)) (h_Book_roll.cal hr (by decide))
theorem b_Book_died {X : Cx} (c : Ctx X N_Book_died (defScope s_Book_died) (fun _ => true)) (hk : X.env.scope.kind = .function)
    (hW : X.w = TabP.W)
    (hB : BkC X.K)
    (h_need_death : Cal X.prog X.w X.K X.mg X.base X.A CX0 "need_death" (spF X.K X.mg 3 (F_need_death)))
    (h_Book_deal_anew : CalM X.prog X.w X.K X.mg X.base X.A CX0 "deal_anew" (spM X.K 0 F_Book_deal_anew))
    (h_Book_roll : CalM X.prog X.w X.K X.mg X.base X.A CX0 "roll" (spQ X.K 0 F_Book_roll)) : PSsp X W0 (defBody s_Book_died) S_Book_died :=
  (PSsp.cons (PSp.expr (PEp.call c h_need_death (PAp.cons (PEp.callQ0 (by exact hB) c 0 h_Book_roll) (PAp.cons (PEp.var c 1) (PAp.cons (PEp.var c 2) PAp.nil))))) (PSsp.cons (PSp.asg (PEp.ix c (PRp.fld (by exact hB) c 0 .pe) (PRp.var c 1)) (PGp.tup (n := 4) c (PGm.cons (PGp.name c 3) (PGm.cons (PGp.name c 4) (PGm.cons (PGp.name c 5) (PGm.cons (PGp.name c 6) PGm.nil)))))) (PSsp.cons (PSp.fldSet (by exact hB) c 0 .pe (PEp.tup (PAp.cons (PEp.var c 3) (PAp.cons (PEp.var c 4) (PAp.cons (PEp.var c 5) (PAp.cons (PEp.var c 2) PAp.nil))))) (PRp.var c 1)) (PSsp.one (PSp.callM0 (by exact hB) c 0 h_Book_deal_anew)))))
theorem kn_Book_died {P : Program} {w : World} {K : PySem.W.Frag} {mg : Str → Option Value} {base : Heap} (T : TopM K "died" "Book.died" s_Book_died)
    (hW : w = TabP.W)
    (hB : BkC K)
    (h_need_death : Kn P w K mg base CX0 "need_death" 3 (spF K mg 3 (F_need_death)))
    (h_Book_deal_anew : KnM P w K mg base CX0 "deal_anew" 45 (spM K 0 F_Book_deal_anew))
    (h_Book_roll : KnM P w K mg base CX0 "roll" 1 (spQ K 0 F_Book_roll)) : KnM P w K mg base CX0 "died" 46 (spM K 2 F_Book_died) :=
  KnM.def_ (k := 45) T sc_Book_died 2 rfl 7 rfl (by decide) (fun _ _ _ _ _ _ us hl => match us, hl with | [_, _, _], _ => rfl) fun X e1 e2 e3 e4 e5 hr hk c => by
    subst e1; subst e2; subst e3; subst e4; subst e5
    exact b_Book_died c hk hW hB (h_need_death.cal hr (by decide)) (h_Book_deal_anew.cal hr (by decide)) (h_Book_roll.cal hr (by decide))
theorem b_copied {X : Cx} (c : Ctx X N_copied (defScope s_copied) (fun _ => true)) (hk : X.env.scope.kind = .function)
    (hW : X.w = TabP.W)
    (m_list : X.mg "list" = none) : PSsp X W0 (defBody s_copied) S_copied :=
  (PSsp.one (PSp.retF (PFp.lc c [("heir", 1), ("mine", 2), ("how", 3), ("line", 4)] (PIh.seq (PRp.var c 0)) (fun _ c' => (PGp.tup (n := 4) c' (PGm.cons (PGp.name c' 1) (PGm.cons (PGp.name c' 2) (PGm.cons (PGp.name c' 3) (PGm.cons (PGp.name c' 4) PGm.nil)))))) (fun _ c' => PTq.no) (fun _ c' => (PEp.tup (PAp.cons (PEp.var c' 1) (PAp.cons (PEp.var c' 2) (PAp.cons (PEp.var c' 3) (PAp.cons (PFp.val (PFp.list c' m_list (PRp.var c' 4))) PAp.nil)))))))))
theorem kn_copied {P : Program} {w : World} {K : PySem.W.Frag} {mg : Str → Option Value} {base : Heap} (T : Top K mg "copied" s_copied)
    (hW : w = TabP.W)
    (m_list : mg "list" = none) : Kn P w K mg base CX0 "copied" 1 (spN K mg 1 F_copied) :=
  Kn.defN (k := 0) T sc_copied 1 rfl 5 rfl (fun _ _ _ _ _ _ us hl => match us, hl with | [_], _ => rfl) fun X e1 e2 e3 e4 e5 hr hk c => by
    subst e1; subst e2; subst e3; subst e4; subst e5
    exact b_copied c hk hW m_list 
theorem b_Book_deal {X : Cx} (c : Ctx X N_Book_deal (defScope s_Book_deal) (fun _ => true)) (hk : X.env.scope.kind = .function)
    (hW : X.w = TabP.W)
    (hB : BkC X.K)
    (h_need_people : Cal X.prog X.w X.K X.mg X.base X.A CX0 "need_people" (spF X.K X.mg 2 (F_need_people)))
    (h_copied : Cal X.prog X.w X.K X.mg X.base X.A CX0 "copied" (spN X.K X.mg 1 (F_copied))) : PQsp X (defBody s_Book_deal) S_Book_deal :=
  (PQsp.cons (PQp.expr (PEp.tmp 0 (PEp.call c h_need_people (PAp.cons (PEp.fldZ (by exact hB) c 0 .pe) (PAp.cons (PFp.val (PFp.lst (PAp.cons (PEp.var c 1) PAp.nil))) PAp.nil))))) (PQsp.cons (PQp.if_ (PBp.nin c (PRp.var c 1) (PRp.fld (by exact hB) c 0 .de))
      (PQsp.one PQp.errS)
      PQsp.nil) (PQsp.one (PQp.retF (PFp.call c h_copied (PAp.cons (PEp.ix c (PRp.fld (by exact hB) c 0 .de) (PRp.var c 1)) PAp.nil))))))
theorem kn_Book_deal {P : Program} {w : World} {K : PySem.W.Frag} {mg : Str → Option Value} {base : Heap} (T : TopM K "deal" "Book.deal" s_Book_deal)
    (hW : w = TabP.W)
    (hB : BkC K)
    (h_need_people : Kn P w K mg base CX0 "need_people" 2 (spF K mg 2 (F_need_people)))
    (h_copied : Kn P w K mg base CX0 "copied" 1 (spN K mg 1 (F_copied))) : KnM P w K mg base CX0 "deal" 3 (spQF K 1 F_Book_deal) :=
  KnM.defQF (k := 2) T sc_Book_deal 1 rfl 2 rfl (by decide) (fun _ _ _ _ _ _ us hl => match us, hl with | [_, _], _ => rfl) fun X e1 e2 e3 e4 e5 hr hk c => by
    subst e1; subst e2; subst e3; subst e4; subst e5
    exact b_Book_deal c hk hW hB (h_need_people.cal hr (by decide)) (h_copied.cal hr (by decide))
theorem b__law_line {X : Cx} (c : Ctx X N__law_line (defScope s__law_line) (fun _ => true)) (hk : X.env.scope.kind = .function)
    (hW : X.w = TabP.W)
    (m_range : X.mg "range" = none) : PSsp X W0 (defBody s__law_line) S__law_line :=
  (PSsp.cons (PSp.set c 1 (PEp.add (PEp.rd PEp.int) (PEp.rd (PEp.mod (PRp.var c 0) (PEp.rd PEp.int))))) (PSsp.cons (PSp.set c 2 (PEp.add (PEp.rd (PEp.mul (PEp.rd PEp.int) (PRp.var c 1))) (PEp.rd PEp.int))) (PSsp.cons (PSp.set c 3 (PEp.var c 1)) (PSsp.cons (PSp.setLc c 4 [("_law_k", 7)] (PIp.h (PIp.range c m_range (PRp.var c 1))) (fun _ c' => (PGp.name c' 7)) (fun _ c' => PTq.no) (fun _ c' => (PEp.tup (PAp.cons PEp.str (PAp.cons (PEp.mul (PEp.rd PEp.int) (PRp.var c' 7)) (PAp.cons (PFp.val (PFp.slice (PFp.rd (PFp.lst (PAp.cons (PEp.sub (PRp.var c' 7) (PEp.rd PEp.int)) PAp.nil))) POp.no (POp.some (PRp.var c' 7)))) PAp.nil))))) hk) (PSsp.cons (PSp.append c 4 (PEp.tup (PAp.cons PEp.str (PAp.cons (PEp.mul (PEp.rd PEp.int) (PRp.var c 1)) (PAp.cons (PFp.val (PFp.lst (PAp.cons (PEp.mod (PEp.rd (PEp.div (PRp.var c 0) (PEp.rd PEp.int))) (PEp.rd (PEp.sub (PRp.var c 1) (PEp.rd PEp.int)))) PAp.nil))) PAp.nil))))) (PSsp.cons (PSp.setF c 4 (PFp.cat (PRp.var c 4) (PFp.rd (PFp.lc c [("_law_k", 7)] (PIp.h (PIp.range2 c m_range (PEp.rd PEp.int) (PEp.rd (PEp.sub (PRp.var c 1) (PEp.rd PEp.int))))) (fun _ c' => (PGp.name c' 7)) (fun _ c' => PTq.no) (fun _ c' => (PEp.tup (PAp.cons PEp.str (PAp.cons (PEp.var c' 7) (PAp.cons (PEp.add (PEp.rd (PEp.add (PRp.var c' 2) (PEp.rd (PEp.mod (PEp.rd (PEp.div (PRp.var c' 0) (PEp.rd PEp.int))) (PEp.rd PEp.int))))) (PRp.var c' 7)) PAp.nil))))))))) (PSsp.cons (PSp.append c 4 (PEp.tup (PAp.cons PEp.str (PAp.cons PEp.int (PAp.cons (PEp.add (PRp.var c 2) (PEp.rd PEp.int)) PAp.nil))))) (PSsp.frz 4 (PSsp.cons (PSp.setF c 5 (PFp.lst (PAp.cons (PEp.tup (PAp.cons PEp.str (PAp.cons (PEp.add (PRp.var c 2) (PEp.rd (PEp.mod (PEp.rd (PEp.div (PRp.var c 0) (PEp.rd PEp.int))) (PEp.rd PEp.int)))) (PAp.cons (PFp.val (PFp.lst (PAp.cons (PEp.sub (PRp.var c 1) (PEp.rd PEp.int)) PAp.nil))) PAp.nil)))) (PAp.cons (PEp.tup (PAp.cons PEp.str (PAp.cons (PEp.sub (PRp.var c 1) (PEp.rd PEp.int)) (PAp.cons (PEp.add (PEp.rd (PEp.add (PRp.var c 2) (PEp.rd PEp.int))) (PEp.rd (PEp.mod (PEp.rd (PEp.div (PRp.var c 0) (PEp.rd PEp.int))) (PEp.rd PEp.int)))) PAp.nil)))) PAp.nil)))) (PSsp.cons (PSp.if_ (PBp.eq c (PEp.rd (PEp.mod (PEp.rd (PEp.div (PRp.var c 0) (PEp.rd PEp.int))) (PEp.rd PEp.int))) (PEp.rd PEp.int))
      (PSsp.one (PSp.append c 5 (PEp.tup (PAp.cons PEp.str (PAp.cons (PEp.var c 3) (PAp.cons (PEp.add (PEp.rd (PEp.add (PRp.var c 2) (PEp.rd PEp.int))) (PEp.rd (PEp.mod (PEp.rd (PEp.div (PRp.var c 0) (PEp.rd PEp.int))) (PEp.rd PEp.int)))) PAp.nil))))))
      (PSsp.one (PSp.append c 5 (PEp.tup (PAp.cons PEp.str (PAp.cons (PEp.var c 3) (PAp.cons (PEp.add (PEp.rd (PEp.add (PRp.var c 2) (PEp.rd PEp.int))) (PEp.rd (PEp.mod (PEp.rd (PEp.div (PRp.var c 0) (PEp.rd PEp.int))) (PEp.rd PEp.int)))) (PAp.cons (PFp.val (PFp.lst (PAp.cons (PEp.sub (PRp.var c 1) (PEp.rd PEp.int)) PAp.nil))) PAp.nil)))))))) (PSsp.frz 5 (PSsp.cons (PSp.set c 6 (PEp.mod (PEp.rd (PEp.div (PRp.var c 0) (PEp.rd PEp.int))) (PEp.rd PEp.int))) (PSsp.one (PSp.ret (PEp.tup (PAp.cons (PEp.var c 4) (PAp.cons (PFp.val (PFp.cat (PFp.rd (PFp.slice (PRp.var c 5) (POp.some (PRp.var c 6)) POp.no)) (PFp.rd (PFp.slice (PRp.var c 5) POp.no (POp.some (PRp.var c 6)))))) PAp.nil)))))))))))))))))
theorem kn__law_line {P : Program} {w : World} {K : PySem.W.Frag} {mg : Str → Option Value} {base : Heap} (T : Top K mg "_law_line" s__law_line)
    (hW : w = TabP.W)
    (m_range : mg "range" = none) : Kn P w K mg base CX0 "_law_line" 1 (spF K mg 1 F__law_line) :=
  Kn.def_ (k := 0) T sc__law_line 1 rfl 8 rfl (fun _ _ _ _ _ _ us hl => match us, hl with | [_], _ => rfl) fun X e1 e2 e3 e4 e5 hr hk c => by
    subst e1; subst e2; subst e3; subst e4; subst e5
    exact b__law_line c hk hW m_range 
theorem b__law_deals {X : Cx} (c : Ctx X N__law_deals (defScope s__law_deals) (fun _ => true)) (hk : X.env.scope.kind = .function)
    (hW : X.w = TabP.W)
    (m_len : X.mg "len" = none)
    (m_range : X.mg "range" = none)
    (h_dealt : Cal X.prog X.w X.K X.mg X.base X.A CX0 "dealt" (spN X.K X.mg 2 (F_dealt))) : PSsp X W0 (defBody s__law_deals) S__law_deals :=
  (PSsp.cons (PSp.setK c 1 PKp.nil) (PSsp.cons (PSp.for_ c [2] (PIp.range c m_range (PEp.rd (PEp.len c m_len (PEp.rd (PEp.ix c (PRp.var c 0) (PEp.rd PEp.int)))))) (PGp.name c 2)
      (PSsp.one (PSp.if_ (PBp.notN (PEp.rd (PEp.ix c (PEp.rd (PEp.ix c (PEp.rd (PEp.ix c (PRp.var c 0) (PEp.rd PEp.int))) (PRp.var c 2))) (PEp.rd PEp.int))))
      (PSsp.one (PSp.setI c 1 (PFp.val (PFp.call c h_dealt (PAp.cons (PEp.var c 0) (PAp.cons (PEp.var c 2) PAp.nil)))) (PRp.var c 2)))
      PSsp.nil))) (PSsp.frz 1 (PSsp.one (PSp.ret (PEp.var c 1))))))
theorem kn__law_deals {P : Program} {w : World} {K : PySem.W.Frag} {mg : Str → Option Value} {base : Heap} (T : Top K mg "_law_deals" s__law_deals)
    (hW : w = TabP.W)
    (m_len : mg "len" = none)
    (m_range : mg "range" = none)
    (h_dealt : Kn P w K mg base CX0 "dealt" 44 (spN K mg 2 (F_dealt))) : Kn P w K mg base CX0 "_law_deals" 45 (spF K mg 1 F__law_deals) :=
  Kn.def_ (k := 44) T sc__law_deals 1 rfl 3 rfl (fun _ _ _ _ _ _ us hl => match us, hl with | [_], _ => rfl) fun X e1 e2 e3 e4 e5 hr hk c => by
    subst e1; subst e2; subst e3; subst e4; subst e5
    exact b__law_deals c hk hW m_len m_range (h_dealt.cal hr (by decide))
theorem b_need_parents {X : Cx} (c : Ctx X N_need_parents (defScope s_need_parents) (fun _ => true)) (hk : X.env.scope.kind = .function)
    (hW : X.w = TabP.W)
    (m_len : X.mg "len" = none) : PSsp X W0 (defBody s_need_parents) S_need_parents :=
  (PSsp.cons (PSp.if_ (PBw.pb (PBw.or (PBp.gt (PEp.rd (PEp.len c m_len (PRp.var c 1))) (PEp.rd PEp.int)) (PBw.or1 (PBw.pb (PBw.and (PBp.eq c (PEp.rd (PEp.len c m_len (PRp.var c 1))) (PEp.rd PEp.int)) (PBw.and1 (PBp.eq c (PEp.rd (PEp.ix c (PRp.var c 1) (PEp.rd PEp.int))) (PEp.rd (PEp.ix c (PRp.var c 1) (PEp.rd PEp.int))))))))))
      (PSsp.one PSp.errS)
      PSsp.nil) (PSsp.one (PSp.for_ c [3] (PIp.seq (PEp.var c 1)) (PGp.name c 3)
      (PSsp.one (PSp.if_ (PBp.ge (PEp.rd (PEp.ix c (PEp.rd (PEp.ix c (PRp.var c 0) (PRp.var c 3))) (PEp.rd PEp.int))) (PRp.var c 2))
      (PSsp.one PSp.errS)
      PSsp.nil)))))
theorem kn_need_parents {P : Program} {w : World} {K : PySem.W.Frag} {mg : Str → Option Value} {base : Heap} (T : Top K mg "need_parents" s_need_parents)
    (hW : w = TabP.W)
    (m_len : mg "len" = none) : Kn P w K mg base CX0 "need_parents" 1 (spF K mg 3 F_need_parents) :=
  Kn.def_ (k := 0) T sc_need_parents 3 rfl 4 rfl (fun _ _ _ _ _ _ us hl => match us, hl with | [_, _, _], _ => rfl) fun X e1 e2 e3 e4 e5 hr hk c => by
    subst e1; subst e2; subst e3; subst e4; subst e5
    exact b_need_parents c hk hW m_len 
theorem b_need_birth {X : Cx} (c : Ctx X N_need_birth (defScope s_need_birth) (fun _ => true)) (hk : X.env.scope.kind = .function)
    (hW : X.w = TabP.W)
    (g_MOST_PEOPLE : ∃ u, X.mg "MOST_PEOPLE" = some u ∧ L2.RelV (V.int 60) u)
    (m_len : X.mg "len" = none)
    (h_need_people : Cal X.prog X.w X.K X.mg X.base X.A CX0 "need_people" (spF X.K X.mg 2 (F_need_people)))
    (h_need_day : Cal X.prog X.w X.K X.mg X.base X.A CX0 "need_day" (spF X.K X.mg 1 (F_need_day)))
    (h_need_parents : Cal X.prog X.w X.K X.mg X.base X.A CX0 "need_parents" (spF X.K X.mg 3 (F_need_parents))) : PSsp X W0 (defBody s_need_birth) S_need_birth :=
  (PSsp.cons (PSp.expr (PEp.call c h_need_people (PAp.cons (PEp.var c 0) (PAp.cons (PEp.var c 2) PAp.nil)))) (PSsp.cons (PSp.expr (PEp.call c h_need_day (PAp.cons (PEp.var c 1) PAp.nil))) (PSsp.cons (PSp.expr (PEp.call c h_need_parents (PAp.cons (PEp.var c 0) (PAp.cons (PEp.var c 2) (PAp.cons (PEp.var c 1) PAp.nil))))) (PSsp.one (PSp.if_ (PBp.ge (PEp.rd (PEp.len c m_len (PRp.var c 0))) (PEp.rd (PEp.glob c g_MOST_PEOPLE)))
      (PSsp.one PSp.errS)
      PSsp.nil)))))
theorem kn_need_birth {P : Program} {w : World} {K : PySem.W.Frag} {mg : Str → Option Value} {base : Heap} (T : Top K mg "need_birth" s_need_birth)
    (hW : w = TabP.W)
    (g_MOST_PEOPLE : ∃ u, mg "MOST_PEOPLE" = some u ∧ L2.RelV (V.int 60) u)
    (m_len : mg "len" = none)
    (h_need_people : Kn P w K mg base CX0 "need_people" 2 (spF K mg 2 (F_need_people)))
    (h_need_day : Kn P w K mg base CX0 "need_day" 2 (spF K mg 1 (F_need_day)))
    (h_need_parents : Kn P w K mg base CX0 "need_parents" 1 (spF K mg 3 (F_need_parents))) : Kn P w K mg base CX0 "need_birth" 3 (spF K mg 3 F_need_birth) :=
  Kn.def_ (k := 2) T sc_need_birth 3 rfl 3 rfl (fun _ _ _ _ _ _ us hl => match us, hl with | [_, _, _], _ => rfl) fun X e1 e2 e3 e4 e5 hr hk c => by
    subst e1; subst e2; subst e3; subst e4; subst e5
    exact b_need_birth c hk hW g_MOST_PEOPLE m_len (h_need_people.cal hr (by decide)) (h_need_day.cal hr (by decide)) (h_need_parents.cal hr (by decide))
theorem b_Book_born {X : Cx} (c : Ctx X N_Book_born (defScope s_Book_born) (fun _ => true)) (hk : X.env.scope.kind = .function)
    (hW : X.w = TabP.W)
    (m_len : X.mg "len" = none)
    (m_tuple : X.mg "tuple" = none)
    (hB : BkC X.K)
    (h_need_birth : Cal X.prog X.w X.K X.mg X.base X.A CX0 "need_birth" (spF X.K X.mg 3 (F_need_birth)))
    (h_Book_deal_anew : CalM X.prog X.w X.K X.mg X.base X.A CX0 "deal_anew" (spM X.K 0 F_Book_deal_anew)) : PSsp X W0 (defBody s_Book_born) S_Book_born :=
  (PSsp.cons (PSp.expr (PEp.tmp 0 (PEp.call c h_need_birth (PAp.cons (PEp.fldZ (by exact hB) c 0 .pe) (PAp.cons (PEp.var c 1) (PAp.cons (PEp.var c 2) PAp.nil)))))) (PSsp.cons (PSp.fldApp (by exact hB) c 0 .pe (PEp.tup (PAp.cons (PEp.var c 1) (PAp.cons (PEp.tupleOf c m_tuple (PRp.var c 2)) (PAp.cons PEp.non (PAp.cons PEp.non PAp.nil)))))) (PSsp.cons (PSp.callM0 (by exact hB) c 0 h_Book_deal_anew) (PSsp.one (PSp.retB (PEp.sub (PEp.rd (PEp.len c m_len (PRp.fld (by exact hB) c 0 .pe))) (PEp.rd PEp.int)))))))
theorem kn_Book_born {P : Program} {w : World} {K : PySem.W.Frag} {mg : Str → Option Value} {base : Heap} (T : TopM K "born" "Book.born" s_Book_born)
    (hW : w = TabP.W)
    (m_len : mg "len" = none)
    (m_tuple : mg "tuple" = none)
    (hB : BkC K)
    (h_need_birth : Kn P w K mg base CX0 "need_birth" 3 (spF K mg 3 (F_need_birth)))
    (h_Book_deal_anew : KnM P w K mg base CX0 "deal_anew" 45 (spM K 0 F_Book_deal_anew)) : KnM P w K mg base CX0 "born" 46 (spM K 2 F_Book_born) :=
  KnM.def_ (k := 45) T sc_Book_born 2 rfl 3 rfl (by decide) (fun _ _ _ _ _ _ us hl => match us, hl with | [_, _, _], _ => rfl) fun X e1 e2 e3 e4 e5 hr hk c => by
    subst e1; subst e2; subst e3; subst e4; subst e5
    exact b_Book_born c hk hW m_len m_tuple hB (h_need_birth.cal hr (by decide)) (h_Book_deal_anew.cal hr (by decide))
theorem b_need_adoption {X : Cx} (c : Ctx X N_need_adoption (defScope s_need_adoption) (fun _ => true)) (hk : X.env.scope.kind = .function)
    (hW : X.w = TabP.W)
    (h_need_people : Cal X.prog X.w X.K X.mg X.base X.A CX0 "need_people" (spF X.K X.mg 2 (F_need_people)))
    (h_need_day : Cal X.prog X.w X.K X.mg X.base X.A CX0 "need_day" (spF X.K X.mg 1 (F_need_day)))
    (h_need_parents : Cal X.prog X.w X.K X.mg X.base X.A CX0 "need_parents" (spF X.K X.mg 3 (F_need_parents))) : PSsp X W0 (defBody s_need_adoption) S_need_adoption :=
  (PSsp.cons (PSp.expr (PEp.call c h_need_people (PAp.cons (PEp.var c 0) (PAp.cons (PFp.val (PFp.cat (PFp.rd (PFp.lst (PAp.cons (PEp.var c 1) PAp.nil))) (PRp.var c 3))) PAp.nil)))) (PSsp.cons (PSp.expr (PEp.call c h_need_day (PAp.cons (PEp.var c 2) PAp.nil))) (PSsp.cons (PSp.asg (PEp.ix c (PRp.var c 0) (PRp.var c 1)) (PGp.tup (n := 4) c (PGm.cons (PGp.name c 4) (PGm.cons (PGp.name c 5) (PGm.cons (PGp.name c 6) (PGm.cons (PGp.name c 7) PGm.nil)))))) (PSsp.cons (PSp.if_ (PBw.pb (PBw.or (PBp.lt (PRp.var c 2) (PRp.var c 4)) (PBw.or1 (PBw.pb (PBw.and (PBp.notN (PRp.var c 7)) (PBw.and1 (PBp.ge (PRp.var c 2) (PRp.var c 7))))))))
      (PSsp.one PSp.errS)
      PSsp.nil) (PSsp.cons (PSp.if_ (PBp.eq c (PRp.var c 3) (PFp.rd (PFp.lst PAp.nil)))
      (PSsp.one PSp.errS)
      PSsp.nil) (PSsp.cons (PSp.expr (PEp.call c h_need_parents (PAp.cons (PEp.var c 0) (PAp.cons (PEp.var c 3) (PAp.cons (PEp.var c 4) PAp.nil))))) (PSsp.one (PSp.if_ (PBp.notN (PRp.var c 6))
      (PSsp.one PSp.errS)
      PSsp.nil))))))))
theorem kn_need_adoption {P : Program} {w : World} {K : PySem.W.Frag} {mg : Str → Option Value} {base : Heap} (T : Top K mg "need_adoption" s_need_adoption)
    (hW : w = TabP.W)
    (h_need_people : Kn P w K mg base CX0 "need_people" 2 (spF K mg 2 (F_need_people)))
    (h_need_day : Kn P w K mg base CX0 "need_day" 2 (spF K mg 1 (F_need_day)))
    (h_need_parents : Kn P w K mg base CX0 "need_parents" 1 (spF K mg 3 (F_need_parents))) : Kn P w K mg base CX0 "need_adoption" 3 (spF K mg 4 F_need_adoption) :=
  Kn.def_ (k := 2) T sc_need_adoption 4 rfl 8 rfl (fun _ _ _ _ _ _ us hl => match us, hl with | [_, _, _, _], _ => rfl) fun X e1 e2 e3 e4 e5 hr hk c => by
    subst e1; subst e2; subst e3; subst e4; subst e5
    exact b_need_adoption c hk hW (h_need_people.cal hr (by decide)) (h_need_day.cal hr (by decide)) (h_need_parents.cal hr (by decide))
theorem b_Book_adopted {X : Cx} (c : Ctx X N_Book_adopted (defScope s_Book_adopted) (fun _ => true)) (hk : X.env.scope.kind = .function)
    (hW : X.w = TabP.W)
    (m_tuple : X.mg "tuple" = none)
    (hB : BkC X.K)
    (h_need_adoption : Cal X.prog X.w X.K X.mg X.base X.A CX0 "need_adoption" (spF X.K X.mg 4 (F_need_adoption)))
    (h_Book_deal_anew : CalM X.prog X.w X.K X.mg X.base X.A CX0 "deal_anew" (spM X.K 0 F_Book_deal_anew)) : PSsp X W0 (defBody s_Book_adopted) S_Book_adopted :=
  (PSsp.cons (PSp.expr (PEp.tmp 0 (PEp.call c h_need_adoption (PAp.cons (PEp.fldZ (by exact hB) c 0 .pe) (PAp.cons (PEp.var c 1) (PAp.cons (PEp.var c 2) (PAp.cons (PEp.var c 3) PAp.nil))))))) (PSsp.cons (PSp.asg (PEp.ix c (PRp.fld (by exact hB) c 0 .pe) (PRp.var c 1)) (PGp.tup (n := 4) c (PGm.cons (PGp.name c 4) (PGm.cons (PGp.name c 5) (PGm.cons (PGp.name c 6) (PGm.cons (PGp.name c 7) PGm.nil)))))) (PSsp.cons (PSp.fldSet (by exact hB) c 0 .pe (PEp.tup (PAp.cons (PEp.var c 4) (PAp.cons (PEp.var c 5) (PAp.cons (PEp.tup (PAp.cons (PEp.var c 2) (PAp.cons (PEp.tupleOf c m_tuple (PRp.var c 3)) PAp.nil))) (PAp.cons (PEp.var c 7) PAp.nil))))) (PRp.var c 1)) (PSsp.one (PSp.callM0 (by exact hB) c 0 h_Book_deal_anew)))))
theorem kn_Book_adopted {P : Program} {w : World} {K : PySem.W.Frag} {mg : Str → Option Value} {base : Heap} (T : TopM K "adopted" "Book.adopted" s_Book_adopted)
    (hW : w = TabP.W)
    (m_tuple : mg "tuple" = none)
    (hB : BkC K)
    (h_need_adoption : Kn P w K mg base CX0 "need_adoption" 3 (spF K mg 4 (F_need_adoption)))
    (h_Book_deal_anew : KnM P w K mg base CX0 "deal_anew" 45 (spM K 0 F_Book_deal_anew)) : KnM P w K mg base CX0 "adopted" 46 (spM K 3 F_Book_adopted) :=
  KnM.def_ (k := 45) T sc_Book_adopted 3 rfl 8 rfl (by decide) (fun _ _ _ _ _ _ us hl => match us, hl with | [_, _, _, _], _ => rfl) fun X e1 e2 e3 e4 e5 hr hk c => by
    subst e1; subst e2; subst e3; subst e4; subst e5
    exact b_Book_adopted c hk hW m_tuple hB (h_need_adoption.cal hr (by decide)) (h_Book_deal_anew.cal hr (by decide))
theorem b__law_tell {X : Cx} (c : Ctx X N__law_tell (defScope s__law_tell) (fun _ => true)) (hk : X.env.scope.kind = .function)
    (hW : X.w = TabP.W)
    (hB : BkC X.K)
    (h_Book_adopted : CalM X.prog X.w X.K X.mg X.base X.A CX0 "adopted" (spM X.K 3 F_Book_adopted))
    (h_Book_born : CalM X.prog X.w X.K X.mg X.base X.A CX0 "born" (spM X.K 2 F_Book_born))
    (h_Book_died : CalM X.prog X.w X.K X.mg X.base X.A CX0 "died" (spM X.K 2 F_Book_died)) : PSsp X W0 (defBody s__law_tell) S__law_tell :=
  (PSsp.cons (PSp.if_ (PBp.eq c (PEp.rd (PEp.ix c (PRp.var c 1) (PEp.rd PEp.int))) (PEp.rd PEp.str))
      (PSsp.one (PSp.retM (by exact hB) c 0 h_Book_born (PAp.cons (PEp.ix c (PRp.var c 1) (PEp.rd PEp.int)) (PAp.cons (PEp.ix c (PRp.var c 1) (PEp.rd PEp.int)) PAp.nil))))
      PSsp.nil) (PSsp.cons (PSp.if_ (PBp.eq c (PEp.rd (PEp.ix c (PRp.var c 1) (PEp.rd PEp.int))) (PEp.rd PEp.str))
      (PSsp.one (PSp.retM (by exact hB) c 0 h_Book_died (PAp.cons (PEp.ix c (PRp.var c 1) (PEp.rd PEp.int)) (PAp.cons (PEp.ix c (PRp.var c 1) (PEp.rd PEp.int)) PAp.nil))))
      PSsp.nil) (PSsp.one (PSp.retM (by exact hB) c 0 h_Book_adopted (PAp.cons (PEp.ix c (PRp.var c 1) (PEp.rd PEp.int)) (PAp.cons (PEp.ix c (PRp.var c 1) (PEp.rd PEp.int)) (PAp.cons (PEp.ix c (PRp.var c 1) (PEp.rd PEp.int)) PAp.nil)))))))
theorem kn__law_tell {P : Program} {w : World} {K : PySem.W.Frag} {mg : Str → Option Value} {base : Heap} (T : Top K mg "_law_tell" s__law_tell)
    (hW : w = TabP.W)
    (hB : BkC K)
    (h_Book_adopted : KnM P w K mg base CX0 "adopted" 46 (spM K 3 F_Book_adopted))
    (h_Book_born : KnM P w K mg base CX0 "born" 46 (spM K 2 F_Book_born))
    (h_Book_died : KnM P w K mg base CX0 "died" 46 (spM K 2 F_Book_died)) : Kn P w K mg base CX0 "_law_tell" 47 (spM K 1 F__law_tell) :=
  Kn.defM (k := 46) T sc__law_tell 1 rfl 2 rfl (by decide) (fun _ _ _ _ _ _ us hl => match us, hl with | [_, _], _ => rfl) fun X e1 e2 e3 e4 e5 hr hk c => by
    subst e1; subst e2; subst e3; subst e4; subst e5
    exact b__law_tell c hk hW hB (h_Book_adopted.cal hr (by decide)) (h_Book_born.cal hr (by decide)) (h_Book_died.cal hr (by decide))
theorem b__law_lowest {X : Cx} (c : Ctx X N__law_lowest (defScope s__law_lowest) (fun _ => true)) (hk : X.env.scope.kind = .function)
    (hW : X.w = TabP.W) : PSsp X W0 (defBody s__law_lowest) S__law_lowest :=
  (PSsp.cons (PSp.set c 2 (PEp.var c 0)) (PSsp.cons (PSp.set c 3 (PEp.var c 1)) (PSsp.cons (PSp.while_ c [4] mu__law_lowest_0 (PBp.gt (PRp.var c 3) (PEp.rd PEp.int))
      (PSsp.cons (PSp.set c 4 (PEp.mod (PRp.var c 2) (PRp.var c 3))) (PSsp.cons (PSp.set c 2 (PEp.var c 3)) (PSsp.one (PSp.set c 3 (PEp.var c 4)))))) (PSsp.one (PSp.ret (PEp.tup (PAp.cons (PEp.div (PRp.var c 0) (PRp.var c 2)) (PAp.cons (PEp.div (PRp.var c 1) (PRp.var c 2)) PAp.nil))))))))
theorem kn__law_lowest {P : Program} {w : World} {K : PySem.W.Frag} {mg : Str → Option Value} {base : Heap} (T : Top K mg "_law_lowest" s__law_lowest)
    (hW : w = TabP.W) : Kn P w K mg base CX0 "_law_lowest" 1 (spF K mg 2 F__law_lowest) :=
  Kn.def_ (k := 0) T sc__law_lowest 2 rfl 5 rfl (fun _ _ _ _ _ _ us hl => match us, hl with | [_, _], _ => rfl) fun X e1 e2 e3 e4 e5 hr hk c => by
    subst e1; subst e2; subst e3; subst e4; subst e5
    exact b__law_lowest c hk hW 
theorem b__law_done {X : Cx} (c : Ctx X N__law_done (defScope s__law_done) (fun _ => true)) (hk : X.env.scope.kind = .function)
    (hW : X.w = TabP.W)
    (m_list : X.mg "list" = none)
    (m_tuple : X.mg "tuple" = none)
    (h__law_lowest : Cal X.prog X.w X.K X.mg X.base X.A CX0 "_law_lowest" (spF X.K X.mg 2 (F__law_lowest))) : PSsp X W0 (defBody s__law_done) S__law_done :=
  (PSsp.cons (PSp.setF c 2 (PFp.list c m_list (PEp.rd (PEp.ix c (PRp.var c 0) (PEp.rd PEp.int))))) (PSsp.cons (PSp.setF c 3 (PFp.list c m_list (PEp.rd (PEp.ix c (PRp.var c 0) (PEp.rd PEp.int))))) (PSsp.cons (PSp.setF c 4 (PFp.list c m_list (PEp.rd (PEp.ix c (PRp.var c 0) (PEp.rd PEp.int))))) (PSsp.cons (PSp.if_ (PBp.eq c (PEp.rd (PEp.ix c (PRp.var c 1) (PEp.rd PEp.int))) (PEp.rd PEp.str))
      (PSsp.one (PSp.append c 2 (PEp.tup (PAp.cons (PEp.ix c (PRp.var c 1) (PEp.rd PEp.int)) (PAp.cons (PEp.tupleOf c m_tuple (PEp.rd (PEp.ix c (PRp.var c 1) (PEp.rd PEp.int)))) (PAp.cons PEp.non (PAp.cons PEp.non PAp.nil)))))))
      (PSsp.one (PSp.if_ (PBp.eq c (PEp.rd (PEp.ix c (PRp.var c 1) (PEp.rd PEp.int))) (PEp.rd PEp.str))
      (PSsp.one (PSp.append c 3 (PEp.tup (PAp.cons (PEp.ix c (PRp.var c 1) (PEp.rd PEp.int)) (PAp.cons (PEp.ix c (PRp.var c 1) (PEp.rd PEp.int)) (PAp.cons (PEp.ix c (PRp.var c 1) (PEp.rd PEp.int)) PAp.nil))))))
      (PSsp.one (PSp.if_ (PBp.eq c (PEp.rd (PEp.ix c (PRp.var c 1) (PEp.rd PEp.int))) (PEp.rd PEp.str))
      (PSsp.cons (PSp.frzB 5 (PSp.setLc c 5 [("_law_named", 10), ("_law_over", 11), ("_law_under", 12)] (PIh.seq (PEp.rd (PEp.ix c (PRp.var c 1) (PEp.rd PEp.int)))) (fun _ c' => (PGp.tup (n := 3) c' (PGm.cons (PGp.name c' 10) (PGm.cons (PGp.name c' 11) (PGm.cons (PGp.name c' 12) PGm.nil))))) (fun _ c' => PTq.no) (fun _ c' => (PEp.tup (PAp.cons (PEp.var c' 10) (PAp.cons (PEp.call c' h__law_lowest (PAp.cons (PEp.var c' 11) (PAp.cons (PEp.var c' 12) PAp.nil))) PAp.nil)))) hk)) (PSsp.one (PSp.append c 4 (PEp.tup (PAp.cons (PEp.ix c (PRp.var c 1) (PEp.rd PEp.int)) (PAp.cons (PEp.ix c (PRp.var c 1) (PEp.rd PEp.int)) (PAp.cons (PEp.tupleOf c m_tuple (PRp.var c 5)) PAp.nil)))))))
      (PSsp.cons (PSp.asg (PEp.ix c (PRp.var c 2) (PEp.rd (PEp.ix c (PRp.var c 1) (PEp.rd PEp.int)))) (PGp.tup (n := 4) c (PGm.cons (PGp.name c 6) (PGm.cons (PGp.name c 7) (PGm.cons (PGp.name c 8) (PGm.cons (PGp.name c 9) PGm.nil)))))) (PSsp.cons (PSp.if_ (PBp.eq c (PEp.rd (PEp.ix c (PRp.var c 1) (PEp.rd PEp.int))) (PEp.rd PEp.str))
      (PSsp.one (PSp.set c 9 (PEp.ix c (PRp.var c 1) (PEp.rd PEp.int))))
      (PSsp.one (PSp.set c 8 (PEp.tup (PAp.cons (PEp.ix c (PRp.var c 1) (PEp.rd PEp.int)) (PAp.cons (PEp.tupleOf c m_tuple (PEp.rd (PEp.ix c (PRp.var c 1) (PEp.rd PEp.int)))) PAp.nil)))))) (PSsp.one (PSp.setI c 2 (PEp.tup (PAp.cons (PEp.var c 6) (PAp.cons (PEp.var c 7) (PAp.cons (PEp.var c 8) (PAp.cons (PEp.var c 9) PAp.nil))))) (PEp.rd (PEp.ix c (PRp.var c 1) (PEp.rd PEp.int)))))))))))) (PSsp.frz 4 (PSsp.frz 3 (PSsp.frz 2 (PSsp.one (PSp.ret (PEp.tup (PAp.cons (PEp.var c 2) (PAp.cons (PEp.var c 3) (PAp.cons (PEp.var c 4) PAp.nil)))))))))))))
theorem kn__law_done {P : Program} {w : World} {K : PySem.W.Frag} {mg : Str → Option Value} {base : Heap} (T : Top K mg "_law_done" s__law_done)
    (hW : w = TabP.W)
    (m_list : mg "list" = none)
    (m_tuple : mg "tuple" = none)
    (h__law_lowest : Kn P w K mg base CX0 "_law_lowest" 1 (spF K mg 2 (F__law_lowest))) : Kn P w K mg base CX0 "_law_done" 2 (spF K mg 2 F__law_done) :=
  Kn.def_ (k := 1) T sc__law_done 2 rfl 13 rfl (fun _ _ _ _ _ _ us hl => match us, hl with | [_, _], _ => rfl) fun X e1 e2 e3 e4 e5 hr hk c => by
    subst e1; subst e2; subst e3; subst e4; subst e5
    exact b__law_done c hk hW m_list m_tuple (h__law_lowest.cal hr (by decide))
theorem b__law_cell_at {X : Cx} (c : Ctx X N__law_cell_at (defScope s__law_cell_at) (fun _ => true)) (hk : X.env.scope.kind = .function)
    (hW : X.w = TabP.W)
    (m_len : X.mg "len" = none) : PSsp X W0 (defBody s__law_cell_at) S__law_cell_at :=
  (PSsp.cons (PSp.if_ (PBp.lt (PRp.var c 1) (PEp.rd (PEp.len c m_len (PRp.var c 0))))
      (PSsp.one (PSp.ret (PEp.ix c (PRp.var c 0) (PRp.var c 1))))
      PSsp.nil) (PSsp.one (PSp.ret PEp.int)))
theorem kn__law_cell_at {P : Program} {w : World} {K : PySem.W.Frag} {mg : Str → Option Value} {base : Heap} (T : Top K mg "_law_cell_at" s__law_cell_at)
    (hW : w = TabP.W)
    (m_len : mg "len" = none) : Kn P w K mg base CX0 "_law_cell_at" 1 (spF K mg 2 F__law_cell_at) :=
  Kn.def_ (k := 0) T sc__law_cell_at 2 rfl 2 rfl (fun _ _ _ _ _ _ us hl => match us, hl with | [_, _], _ => rfl) fun X e1 e2 e3 e4 e5 hr hk c => by
    subst e1; subst e2; subst e3; subst e4; subst e5
    exact b__law_cell_at c hk hW m_len 
theorem b_Book_anew {X : Cx} (c : Ctx X N_Book_anew (defScope s_Book_anew) (fun _ => true)) (hk : X.env.scope.kind = .function)
    (hW : X.w = TabP.W)
    (m_list : X.mg "list" = none)
    (hB : BkC X.K) : PQsp X (defBody s_Book_anew) S_Book_anew :=
  (PQsp.one (PQp.retF (PFp.list c m_list (PRp.fld (by exact hB) c 0 .ot))))
theorem kn_Book_anew {P : Program} {w : World} {K : PySem.W.Frag} {mg : Str → Option Value} {base : Heap} (T : TopM K "anew" "Book.anew" s_Book_anew)
    (hW : w = TabP.W)
    (m_list : mg "list" = none)
    (hB : BkC K) : KnM P w K mg base CX0 "anew" 1 (spQF K 0 F_Book_anew) :=
  KnM.defQF (k := 0) T sc_Book_anew 0 rfl 1 rfl (by decide) (fun _ _ _ _ _ _ us hl => match us, hl with | [_], _ => rfl) fun X e1 e2 e3 e4 e5 hr hk c => by
    subst e1; subst e2; subst e3; subst e4; subst e5
    exact b_Book_anew c hk hW m_list hB 
theorem b__law_stands {X : Cx} (c : Ctx X N__law_stands (defScope s__law_stands) (fun _ => true)) (hk : X.env.scope.kind = .function)
    (hW : X.w = TabP.W)
    (m_list : X.mg "list" = none)
    (m_sorted : X.mg "sorted" = none)
    (hB : BkC X.K)
    (h_Book_anew : CalM X.prog X.w X.K X.mg X.base X.A CX0 "anew" (spQF X.K 0 F_Book_anew))
    (h_Book_dead : CalM X.prog X.w X.K X.mg X.base X.A CX0 "dead" (spQF X.K 0 F_Book_dead))
    (h_Book_roll : CalM X.prog X.w X.K X.mg X.base X.A CX0 "roll" (spQ X.K 0 F_Book_roll))
    (h_Book_deal : CalM X.prog X.w X.K X.mg X.base X.A CX0 "deal" (spQF X.K 1 F_Book_deal)) : PQsp X (defBody s__law_stands) S__law_stands :=
  (PQsp.cons (PQp.if_ (PBw.pb (PBw.or (PBp.ne c (PFp.rd (PFp.callQ0 (by exact hB) c 0 h_Book_anew)) (PRp.var c 3)) (PBw.or (PBp.ne c (PFp.rd (PFp.callQ0 (by exact hB) c 0 h_Book_dead)) (PFp.rd (PFp.sorted c m_sorted (PFp.rd (PFp.list c m_list (PRp.var c 2)))))) (PBw.or1 (PBp.ne c (PEp.rd (PEp.callQ0 (by exact hB) c 0 h_Book_roll)) (PRp.var c 1))))))
      (PQsp.one (PQp.ret PEp.bl))
      PQsp.nil) (PQsp.one (PQp.ret (PBp.val (PBp.eq c (PFp.rd (PFp.lc c [("_law_one", 4)] (PIh.seq (PFp.rd (PFp.sorted c m_sorted (PFp.rd (PFp.list c m_list (PRp.var c 2)))))) (fun _ c' => (PGp.name c' 4)) (fun _ c' => PTq.no) (fun _ c' => (PFp.val (PFp.callQ (by exact hB) c' 0 h_Book_deal (PAp.cons (PEp.var c' 4) PAp.nil)))))) (PFp.rd (PFp.lc c [("_law_one", 4)] (PIh.seq (PFp.rd (PFp.sorted c m_sorted (PFp.rd (PFp.list c m_list (PRp.var c 2)))))) (fun _ c' => (PGp.name c' 4)) (fun _ c' => PTq.no) (fun _ c' => (PEp.ix c' (PRp.var c' 2) (PRp.var c' 4))))))))))
theorem kn__law_stands {P : Program} {w : World} {K : PySem.W.Frag} {mg : Str → Option Value} {base : Heap} (T : Top K mg "_law_stands" s__law_stands)
    (hW : w = TabP.W)
    (m_list : mg "list" = none)
    (m_sorted : mg "sorted" = none)
    (hB : BkC K)
    (h_Book_anew : KnM P w K mg base CX0 "anew" 1 (spQF K 0 F_Book_anew))
    (h_Book_dead : KnM P w K mg base CX0 "dead" 1 (spQF K 0 F_Book_dead))
    (h_Book_roll : KnM P w K mg base CX0 "roll" 1 (spQ K 0 F_Book_roll))
    (h_Book_deal : KnM P w K mg base CX0 "deal" 3 (spQF K 1 F_Book_deal)) : Kn P w K mg base CX0 "_law_stands" 4 (spQ K 3 F__law_stands) :=
  Kn.defQ (k := 3) T sc__law_stands 3 rfl 5 rfl (by decide) (fun _ _ _ _ _ _ us hl => match us, hl with | [_, _, _, _], _ => rfl) fun X e1 e2 e3 e4 e5 hr hk c => by
    subst e1; subst e2; subst e3; subst e4; subst e5
    exact b__law_stands c hk hW m_list m_sorted hB (h_Book_anew.cal hr (by decide)) (h_Book_dead.cal hr (by decide)) (h_Book_roll.cal hr (by decide)) (h_Book_deal.cal hr (by decide))
theorem b_law {X : Cx} (c : Ctx X N_law (defScope s_law) (fun _ => true)) (hk : X.env.scope.kind = .function)
    (hW : X.w = TabP.W)
    (m_list : X.mg "list" = none)
    (m_range : X.mg "range" = none)
    (m_sorted : X.mg "sorted" = none)
    (hB : BkC X.K)
    (hBk : CalB X.prog X.w X.K X.mg X.base X.A)
    (h_Book_died : CalM X.prog X.w X.K X.mg X.base X.A CX0 "died" (spM X.K 2 F_Book_died))
    (h_Book_deal : CalM X.prog X.w X.K X.mg X.base X.A CX0 "deal" (spQF X.K 1 F_Book_deal))
    (h__law_line : Cal X.prog X.w X.K X.mg X.base X.A CX0 "_law_line" (spF X.K X.mg 1 (F__law_line)))
    (h__law_deals : Cal X.prog X.w X.K X.mg X.base X.A CX0 "_law_deals" (spF X.K X.mg 1 (F__law_deals)))
    (h_Book_born : CalM X.prog X.w X.K X.mg X.base X.A CX0 "born" (spM X.K 2 F_Book_born))
    (h__law_tell : Cal X.prog X.w X.K X.mg X.base X.A CX0 "_law_tell" (spM X.K 1 F__law_tell))
    (h__law_done : Cal X.prog X.w X.K X.mg X.base X.A CX0 "_law_done" (spF X.K X.mg 2 (F__law_done)))
    (h__law_cell_at : Cal X.prog X.w X.K X.mg X.base X.A CX0 "_law_cell_at" (spF X.K X.mg 2 (F__law_cell_at)))
    (h__law_stands : Cal X.prog X.w X.K X.mg X.base X.A CX0 "_law_stands" (spQ X.K 3 F__law_stands))
    (h_Book_anew : CalM X.prog X.w X.K X.mg X.base X.A CX0 "anew" (spQF X.K 0 F_Book_anew))
    (h_Book_dead : CalM X.prog X.w X.K X.mg X.base X.A CX0 "dead" (spQF X.K 0 F_Book_dead)) : PSsp X W0 (defBody s_law) S_law :=
  (PSsp.cons (PSp.newB c 1 hBk) (PSsp.cons (PSp.newB c 2 hBk) (PSsp.cons (PSp.for_ c [3] (PIp.range c m_range (PEp.rd PEp.int)) (PGp.name c 3)
      (PSsp.one (PSp.callM (by exact hB) c 2 h_Book_born (PAp.cons (PEp.var c 3) (PAp.cons (PFp.val (PFp.slice (PFp.rd (PFp.lst (PAp.cons PEp.int PAp.nil))) POp.no (POp.some (PRp.var c 3)))) PAp.nil))))) (PSsp.cons (PSp.callM (by exact hB) c 2 h_Book_died (PAp.cons PEp.int (PAp.cons (PEp.add (PEp.rd PEp.int) (PEp.rd (PEp.mod (PEp.rd (PEp.call c h__law_cell_at (PAp.cons (PEp.var c 0) (PAp.cons PEp.int PAp.nil)))) (PEp.rd PEp.int)))) PAp.nil))) (PSsp.cons (PSp.set c 4 (PFp.val (PFp.callQ (by exact hB) c 2 h_Book_deal (PAp.cons PEp.int PAp.nil)))) (PSsp.cons (PSp.asg (PEp.call c h__law_line (PAp.cons (PEp.mod (PEp.rd (PEp.call c h__law_cell_at (PAp.cons (PEp.var c 0) (PAp.cons PEp.int PAp.nil)))) (PEp.rd (PEp.pow (PEp.rd PEp.int) (PEp.rd PEp.int)))) PAp.nil)) (PGp.tup (n := 2) c (PGm.cons (PGp.name c 5) (PGm.cons (PGp.name c 6) PGm.nil)))) (PSsp.cons (PSp.set c 7 (PEp.tup (PAp.cons (PFp.val (PFp.lst PAp.nil)) (PAp.cons (PFp.val (PFp.lst PAp.nil)) (PAp.cons (PFp.val (PFp.lst PAp.nil)) PAp.nil))))) (PSsp.cons (PSp.for_ c [8] (PIp.seq (PEp.var c 5)) (PGp.name c 8)
      (PSsp.cons (PSp.callFM c 1 h__law_tell (PAp.cons (PEp.var c 8) PAp.nil)) (PSsp.one (PSp.set c 7 (PEp.call c h__law_done (PAp.cons (PEp.var c 7) (PAp.cons (PEp.var c 8) PAp.nil))))))) (PSsp.cons (PSp.set c 9 (PEp.call c h__law_deals (PAp.cons (PEp.var c 7) PAp.nil))) (PSsp.cons (PSp.for_ c [10, 11] (PIp.seq (PEp.var c 6)) (PGp.name c 8)
      (PSsp.cons (PSp.if_ (PBw.pb (PBw.and (PBp.eq c (PEp.rd (PEp.ix c (PRp.var c 8) (PEp.rd PEp.int))) (PEp.rd PEp.str)) (PBw.and1 (PBp.eq c (PEp.rd (PEp.mod (PEp.rd (PEp.call c h__law_cell_at (PAp.cons (PEp.var c 0) (PAp.cons PEp.int PAp.nil)))) (PEp.rd PEp.int))) (PEp.rd PEp.int)))))
      (PSsp.one PSp.cont)
      PSsp.nil) (PSsp.cons (PSp.callFM c 1 h__law_tell (PAp.cons (PEp.var c 8) PAp.nil)) (PSsp.cons (PSp.set c 7 (PEp.call c h__law_done (PAp.cons (PEp.var c 7) (PAp.cons (PEp.var c 8) PAp.nil)))) (PSsp.cons (PSp.set c 10 (PEp.call c h__law_deals (PAp.cons (PEp.var c 7) PAp.nil))) (PSsp.cons (PSp.frzB 11 (PSp.setLc c 11 [("_law_one", 12)] (PIh.seq (PFp.rd (PFp.sorted c m_sorted (PFp.rd (PFp.list c m_list (PRp.var c 10)))))) (fun _ c' => (PGp.name c' 12)) (fun _ c' => (PTq.one (PBw.pb (PBw.or (PBp.nin c' (PRp.var c' 12) (PRp.var c' 9)) (PBw.or1 (PBp.ne c' (PEp.rd (PEp.ix c' (PRp.var c' 9) (PRp.var c' 12))) (PEp.rd (PEp.ix c' (PRp.var c' 10) (PRp.var c' 12))))))))) (fun _ c' => (PEp.var c' 12)) hk)) (PSsp.cons (PSp.set c 9 (PEp.var c 10)) (PSsp.one (PSp.if_ (PBp.not (PRp.bool (PEp.rd (PEp.callFQ c 1 h__law_stands (PAp.cons (PEp.var c 7) (PAp.cons (PEp.var c 9) (PAp.cons (PEp.var c 11) PAp.nil)))))))
      (PSsp.one (PSp.ret PEp.bl))
      PSsp.nil))))))))) (PSsp.one (PSp.ret (PBp.val (PBw.pb (PBw.and (PBp.eq c (PFp.rd (PFp.callQ (by exact hB) c 2 h_Book_deal (PAp.cons PEp.int PAp.nil))) (PRp.var c 4)) (PBw.and (PBp.eq c (PFp.rd (PFp.callQ0 (by exact hB) c 2 h_Book_anew)) (PFp.rd (PFp.lst (PAp.cons PEp.int PAp.nil)))) (PBw.and1 (PBp.eq c (PFp.rd (PFp.callQ0 (by exact hB) c 2 h_Book_dead)) (PFp.rd (PFp.lst (PAp.cons PEp.int PAp.nil)))))))))))))))))))))
theorem fn_law {P : Program} {w : World} {K : PySem.W.Frag} {mg : Str → Option Value} {base : Heap} {f : Addr} {fd : FuncData} (T : Fun K "law" "law" s_law f fd)
    (hW : w = TabP.W)
    (m_list : mg "list" = none)
    (m_range : mg "range" = none)
    (m_sorted : mg "sorted" = none)
    (hB : BkC K)
    (hBk : MkB P w K mg base 1)
    (h_Book_died : KnM P w K mg base CX0 "died" 46 (spM K 2 F_Book_died))
    (h_Book_deal : KnM P w K mg base CX0 "deal" 3 (spQF K 1 F_Book_deal))
    (h__law_line : Kn P w K mg base CX0 "_law_line" 1 (spF K mg 1 (F__law_line)))
    (h__law_deals : Kn P w K mg base CX0 "_law_deals" 45 (spF K mg 1 (F__law_deals)))
    (h_Book_born : KnM P w K mg base CX0 "born" 46 (spM K 2 F_Book_born))
    (h__law_tell : Kn P w K mg base CX0 "_law_tell" 47 (spM K 1 F__law_tell))
    (h__law_done : Kn P w K mg base CX0 "_law_done" 2 (spF K mg 2 (F__law_done)))
    (h__law_cell_at : Kn P w K mg base CX0 "_law_cell_at" 1 (spF K mg 2 (F__law_cell_at)))
    (h__law_stands : Kn P w K mg base CX0 "_law_stands" 4 (spQ K 3 F__law_stands))
    (h_Book_anew : KnM P w K mg base CX0 "anew" 1 (spQF K 0 F_Book_anew))
    (h_Book_dead : KnM P w K mg base CX0 "dead" 1 (spQF K 0 F_Book_dead)) : FnOk P w K mg base CX0 48 f fd ["_law_script"] (spF K mg 1 F_law) :=
  ok_def (k := 47) T sc_law 1 rfl 13 rfl fun X e1 e2 e3 e4 e5 hr hk c => by
    subst e1; subst e2; subst e3; subst e4; subst e5
    exact b_law c hk hW m_list m_range m_sorted hB (hBk.cal hr (by decide)) (h_Book_died.cal hr (by decide)) (h_Book_deal.cal hr (by decide)) (h__law_line.cal hr (by decide)) (h__law_deals.cal hr (by decide)) (h_Book_born.cal hr (by decide)) (h__law_tell.cal hr (by decide)) (h__law_done.cal hr (by decide)) (h__law_cell_at.cal hr (by decide)) (h__law_stands.cal hr (by decide)) (h_Book_anew.cal hr (by decide)) (h_Book_dead.cal hr (by decide))
end
def dd_Book___init__ : He.DefD := ⟨("Book", some "__init__"), "__init__", "Book.__init__", defArgs s_Book___init__, defBody s_Book___init__, defScope s_Book___init__, [], []⟩
def dd_is_whole : He.DefD := ⟨("is_whole", none), "is_whole", "is_whole", defArgs s_is_whole, defBody s_is_whole, defScope s_is_whole, [], []⟩
def dd_need_people : He.DefD := ⟨("need_people", none), "need_people", "need_people", defArgs s_need_people, defBody s_need_people, defScope s_need_people, [], []⟩
def dd_need_day : He.DefD := ⟨("need_day", none), "need_day", "need_day", defArgs s_need_day, defBody s_need_day, defScope s_need_day, [], []⟩
def dd_need_death : He.DefD := ⟨("need_death", none), "need_death", "need_death", defArgs s_need_death, defBody s_need_death, defScope s_need_death, [], []⟩
def dd_Book_dead : He.DefD := ⟨("Book", some "dead"), "dead", "Book.dead", defArgs s_Book_dead, defBody s_Book_dead, defScope s_Book_dead, [], []⟩
def dd_will_on : He.DefD := ⟨("will_on", none), "will_on", "will_on", defArgs s_will_on, defBody s_will_on, defScope s_will_on, [], []⟩
def dd_lives : He.DefD := ⟨("lives", none), "lives", "lives", defArgs s_lives, defBody s_lives, defScope s_lives, [], []⟩
def dd_common : He.DefD := ⟨("common", none), "common", "common", defArgs s_common, defBody s_common, defScope s_common, [], []⟩
def dd_part : He.DefD := ⟨("part", none), "part", "part", defArgs s_part, defBody s_part, defScope s_part, [], []⟩
def dd_times : He.DefD := ⟨("times", none), "times", "times", defArgs s_times, defBody s_times, defScope s_times, [], []⟩
def dd_ahead_of : He.DefD := ⟨("ahead_of", none), "ahead_of", "ahead_of", defArgs s_ahead_of, defBody s_ahead_of, defScope s_ahead_of, [], []⟩
def dd_parents_on : He.DefD := ⟨("parents_on", none), "parents_on", "parents_on", defArgs s_parents_on, defBody s_parents_on, defScope s_parents_on, [], []⟩
def dd_children_on : He.DefD := ⟨("children_on", none), "children_on", "children_on", defArgs s_children_on, defBody s_children_on, defScope s_children_on, [], []⟩
def dd_birth_of : He.DefD := ⟨("birth_of", none), "birth_of", "birth_of", defArgs s_birth_of, defBody s_birth_of, defScope s_birth_of, [], []⟩
def dd_lines_on : He.DefD := ⟨("lines_on", none), "lines_on", "lines_on", defArgs s_lines_on, defBody s_lines_on, defScope s_lines_on, [], []⟩
def dd_shared : He.DefD := ⟨("shared", none), "shared", "shared", defArgs s_shared, defBody s_shared, defScope s_shared, [], []⟩
def dd_dealt_among : He.DefD := ⟨("dealt_among", none), "dealt_among", "dealt_among", defArgs s_dealt_among, defBody s_dealt_among, defScope s_dealt_among, [], []⟩
def dd_by_lines : He.DefD := ⟨("by_lines", none), "by_lines", "by_lines", defArgs s_by_lines, defBody s_by_lines, defScope s_by_lines, [], []⟩
def dd_given_to : He.DefD := ⟨("given_to", none), "given_to", "given_to", defArgs s_given_to, defBody s_given_to, defScope s_given_to, [], []⟩
def dd_less : He.DefD := ⟨("less", none), "less", "less", defArgs s_less, defBody s_less, defScope s_less, [], []⟩
def dd_others_of : He.DefD := ⟨("others_of", none), "others_of", "others_of", defArgs s_others_of, defBody s_others_of, defScope s_others_of, [], []⟩
def dd_by_parents : He.DefD := ⟨("by_parents", none), "by_parents", "by_parents", defArgs s_by_parents, defBody s_by_parents, defScope s_by_parents, [], []⟩
def dd_moves : He.DefD := ⟨("moves", none), "moves", "moves", defArgs s_moves, defBody s_moves, defScope s_moves, [], []⟩
def dd_onward : He.DefD := ⟨("onward", none), "onward", "onward", defArgs s_onward, defBody s_onward, defScope s_onward, [], []⟩
def dd_living_ends : He.DefD := ⟨("living_ends", none), "living_ends", "living_ends", defArgs s_living_ends, defBody s_living_ends, defScope s_living_ends, [], []⟩
def dd_nearest : He.DefD := ⟨("nearest", none), "nearest", "nearest", defArgs s_nearest, defBody s_nearest, defScope s_nearest, [], []⟩
def dd_kin_of : He.DefD := ⟨("kin_of", none), "kin_of", "kin_of", defArgs s_kin_of, defBody s_kin_of, defScope s_kin_of, [], []⟩
def dd_spouse_on : He.DefD := ⟨("spouse_on", none), "spouse_on", "spouse_on", defArgs s_spouse_on, defBody s_spouse_on, defScope s_spouse_on, [], []⟩
def dd_rest_rows : He.DefD := ⟨("rest_rows", none), "rest_rows", "rest_rows", defArgs s_rest_rows, defBody s_rest_rows, defScope s_rest_rows, [], []⟩
def dd_dealt : He.DefD := ⟨("dealt", none), "dealt", "dealt", defArgs s_dealt, defBody s_dealt, defScope s_dealt, [], []⟩
def dd_Book_roll : He.DefD := ⟨("Book", some "roll"), "roll", "Book.roll", defArgs s_Book_roll, defBody s_Book_roll, defScope s_Book_roll, [], []⟩
def dd_Book_deal_anew : He.DefD := ⟨("Book", some "deal_anew"), "deal_anew", "Book.deal_anew", defArgs s_Book_deal_anew, defBody s_Book_deal_anew, defScope s_Book_deal_anew, [], []⟩
def dd_Book_died : He.DefD := ⟨("Book", some "died"), "died", "Book.died", defArgs s_Book_died, defBody s_Book_died, defScope s_Book_died, [], []⟩
def dd_copied : He.DefD := ⟨("copied", none), "copied", "copied", defArgs s_copied, defBody s_copied, defScope s_copied, [], []⟩
def dd_Book_deal : He.DefD := ⟨("Book", some "deal"), "deal", "Book.deal", defArgs s_Book_deal, defBody s_Book_deal, defScope s_Book_deal, [], []⟩
def dd__law_line : He.DefD := ⟨("_law_line", none), "_law_line", "_law_line", defArgs s__law_line, defBody s__law_line, defScope s__law_line, [], []⟩
def dd__law_deals : He.DefD := ⟨("_law_deals", none), "_law_deals", "_law_deals", defArgs s__law_deals, defBody s__law_deals, defScope s__law_deals, [], []⟩
def dd_need_parents : He.DefD := ⟨("need_parents", none), "need_parents", "need_parents", defArgs s_need_parents, defBody s_need_parents, defScope s_need_parents, [], []⟩
def dd_need_birth : He.DefD := ⟨("need_birth", none), "need_birth", "need_birth", defArgs s_need_birth, defBody s_need_birth, defScope s_need_birth, [], []⟩
def dd_Book_born : He.DefD := ⟨("Book", some "born"), "born", "Book.born", defArgs s_Book_born, defBody s_Book_born, defScope s_Book_born, [], []⟩
def dd_need_adoption : He.DefD := ⟨("need_adoption", none), "need_adoption", "need_adoption", defArgs s_need_adoption, defBody s_need_adoption, defScope s_need_adoption, [], []⟩
def dd_Book_adopted : He.DefD := ⟨("Book", some "adopted"), "adopted", "Book.adopted", defArgs s_Book_adopted, defBody s_Book_adopted, defScope s_Book_adopted, [], []⟩
def dd__law_tell : He.DefD := ⟨("_law_tell", none), "_law_tell", "_law_tell", defArgs s__law_tell, defBody s__law_tell, defScope s__law_tell, [], []⟩
def dd__law_lowest : He.DefD := ⟨("_law_lowest", none), "_law_lowest", "_law_lowest", defArgs s__law_lowest, defBody s__law_lowest, defScope s__law_lowest, [], []⟩
def dd__law_done : He.DefD := ⟨("_law_done", none), "_law_done", "_law_done", defArgs s__law_done, defBody s__law_done, defScope s__law_done, [], []⟩
def dd__law_cell_at : He.DefD := ⟨("_law_cell_at", none), "_law_cell_at", "_law_cell_at", defArgs s__law_cell_at, defBody s__law_cell_at, defScope s__law_cell_at, [], []⟩
def dd_Book_anew : He.DefD := ⟨("Book", some "anew"), "anew", "Book.anew", defArgs s_Book_anew, defBody s_Book_anew, defScope s_Book_anew, [], []⟩
def dd__law_stands : He.DefD := ⟨("_law_stands", none), "_law_stands", "_law_stands", defArgs s__law_stands, defBody s__law_stands, defScope s__law_stands, [], []⟩
def dd_law : He.DefD := ⟨("law", none), "law", "law", defArgs s_law, defBody s_law, defScope s_law, [], []⟩
def fnL : List He.DefD := (([dd_Book___init__, dd_is_whole, dd_need_people, dd_need_day, dd_need_death, dd_Book_dead, dd_will_on, dd_lives, dd_common, dd_part, dd_times, dd_ahead_of, dd_parents_on, dd_children_on, dd_birth_of, dd_lines_on, dd_shared, dd_dealt_among, dd_by_lines, dd_given_to, dd_less, dd_others_of, dd_by_parents, dd_moves, dd_onward, dd_living_ends, dd_nearest, dd_kin_of, dd_spouse_on, dd_rest_rows, dd_dealt, dd_Book_roll, dd_Book_deal_anew, dd_Book_died, dd_copied, dd_Book_deal, dd__law_line, dd__law_deals, dd_need_parents, dd_need_birth] : List He.DefD) ++ ([dd_Book_born, dd_need_adoption, dd_Book_adopted, dd__law_tell, dd__law_lowest, dd__law_done, dd__law_cell_at, dd_Book_anew, dd__law_stands, dd_law] : List He.DefD))
def faL : List He.Fa := (([.meth "Book" "__init__", .glo "is_whole", .glo "need_people", .glo "need_day", .glo "need_death", .meth "Book" "dead", .glo "will_on", .glo "lives", .glo "common", .glo "part", .glo "times", .glo "ahead_of", .glo "parents_on", .glo "children_on", .glo "birth_of", .glo "lines_on", .glo "shared", .glo "dealt_among", .glo "by_lines", .glo "given_to", .glo "less", .glo "others_of", .glo "by_parents", .glo "moves", .glo "onward", .glo "living_ends", .glo "nearest", .glo "kin_of", .glo "spouse_on", .glo "rest_rows", .glo "dealt", .meth "Book" "roll", .meth "Book" "deal_anew", .meth "Book" "died", .glo "copied", .meth "Book" "deal", .glo "_law_line", .glo "_law_deals", .glo "need_parents", .glo "need_birth"] : List He.Fa) ++ ([.meth "Book" "born", .glo "need_adoption", .meth "Book" "adopted", .glo "_law_tell", .glo "_law_lowest", .glo "_law_done", .glo "_law_cell_at", .meth "Book" "anew", .glo "_law_stands", .glo "law", .free "bool", .free "int", .free "isinstance", .free "len", .free "list", .free "min", .free "range", .free "sorted", .free "tuple", .glo "Book", .cls "Book", .mkr "Book", .noat "Book" "people", .noat "Book" "marriages", .noat "Book" "wills", .noat "Book" "deals", .noat "Book" "other", .int "LAST_DAY" 100000, .int "MOST_PEOPLE" 60] : List He.Fa))
def tfL : List He.Defn := [("lines_on", none)]
abbrev RL : PySem.W.OpenRow := PySem.W.OpenLaw.row PySem.Challenge.rw_estateroll_k14_whole_far_off
abbrev hkL : PySem.W.Hook := He.hookX 5 faL fnL [] tfL (tabsNd tfL)
def obL (s : PySem.W.SharedT) : He.AlX := He.obsX 5 faL fnL [] tfL (tabsNd tfL) (HandSHeadRun.getT s)
theorem obL_eq (s : PySem.W.SharedT) : obL s = hkL.obs s.abs := He.obsX_eq (HandSHeadRun.getT_eq s)
abbrev others0 : List PySem.Str := ["lives", "parents_on", "children_on", "birth_of", "lines_on", "moves", "onward", "living_ends", "nearest", "EstateError", "NoPerson", "NoDay", "NoParents", "NoMatch", "NoWill", "Again", "Full", "NotDead", "common", "part", "added", "less", "times", "shared", "ahead_of"]
abbrev others1 : List PySem.Str := ["dealt_among", "by_lines", "others_of", "by_parents", "spouse_on", "will_on", "given_to", "kin_of", "rest_rows", "dealt", "is_whole", "need_people", "need_day", "need_parents", "need_birth", "need_adoption", "end_of", "ends_ahead", "need_marriage", "need_death", "need_gifts", "need_will", "copied", "Book", "_law_cell_at"]
abbrev others2 : List PySem.Str := ["_law_lowest", "_law_done", "_law_line", "_law_tell", "_law_deals", "_law_stands", "LAST_DAY", "MOST_PEOPLE", "MOST_GIFTS", "MOST_NUMBER"]
abbrev othersL : List PySem.Str := others0 ++ others1 ++ others2
theorem runL (w : World) : HandSHeadRun.RunEq RL (PySem.W.view RL.prog [69]) hkL obL 12000 othersL w := by
  intro os
  kernel_rfl
theorem law_at {w : World} {K : PySem.W.Frag} {h : Heap} {mg : Str → Option Value} {fa : Addr} (KX : K.In h) (G : h.Ns mainGlobals mg) (hfa : mg "law" = some (.ref fa)) (c : He.SaysX faL fnL [] tfL (tabsNd tfL) w h K)
    (hL : ∀ ns : List Int, ns.length ≤ 63 → F_law [scrD (ns.map PyData.int)] = .ok (.bool true)) : LamX.LawAtS PySem.Challenge.rw_estateroll_k14_whole_far_off w K CX0 48 63 "_law_script" mg fa h := by
  letI : TabP := ⟨tabT K tfL, w, (He.ga K "Book")⟩
  have hW : w = TabP.W := rfl
  have g0 := He.meth_ok (c.t.d.fact 0 (f := .meth "Book" "__init__") rfl)
  have g1 := He.glo_ok KX G (c.t.d.fact 1 (f := .glo "is_whole") rfl)
  have g2 := He.glo_ok KX G (c.t.d.fact 2 (f := .glo "need_people") rfl)
  have g3 := He.glo_ok KX G (c.t.d.fact 3 (f := .glo "need_day") rfl)
  have g4 := He.glo_ok KX G (c.t.d.fact 4 (f := .glo "need_death") rfl)
  have g5 := He.meth_ok (c.t.d.fact 5 (f := .meth "Book" "dead") rfl)
  have g6 := He.glo_ok KX G (c.t.d.fact 6 (f := .glo "will_on") rfl)
  have g7 := He.glo_ok KX G (c.t.d.fact 7 (f := .glo "lives") rfl)
  have g8 := He.glo_ok KX G (c.t.d.fact 8 (f := .glo "common") rfl)
  have g9 := He.glo_ok KX G (c.t.d.fact 9 (f := .glo "part") rfl)
  have g10 := He.glo_ok KX G (c.t.d.fact 10 (f := .glo "times") rfl)
  have g11 := He.glo_ok KX G (c.t.d.fact 11 (f := .glo "ahead_of") rfl)
  have g12 := He.glo_ok KX G (c.t.d.fact 12 (f := .glo "parents_on") rfl)
  have g13 := He.glo_ok KX G (c.t.d.fact 13 (f := .glo "children_on") rfl)
  have g14 := He.glo_ok KX G (c.t.d.fact 14 (f := .glo "birth_of") rfl)
  have g15 := He.glo_ok KX G (c.t.d.fact 15 (f := .glo "lines_on") rfl)
  have g16 := He.glo_ok KX G (c.t.d.fact 16 (f := .glo "shared") rfl)
  have g17 := He.glo_ok KX G (c.t.d.fact 17 (f := .glo "dealt_among") rfl)
  have g18 := He.glo_ok KX G (c.t.d.fact 18 (f := .glo "by_lines") rfl)
  have g19 := He.glo_ok KX G (c.t.d.fact 19 (f := .glo "given_to") rfl)
  have g20 := He.glo_ok KX G (c.t.d.fact 20 (f := .glo "less") rfl)
  have g21 := He.glo_ok KX G (c.t.d.fact 21 (f := .glo "others_of") rfl)
  have g22 := He.glo_ok KX G (c.t.d.fact 22 (f := .glo "by_parents") rfl)
  have g23 := He.glo_ok KX G (c.t.d.fact 23 (f := .glo "moves") rfl)
  have g24 := He.glo_ok KX G (c.t.d.fact 24 (f := .glo "onward") rfl)
  have g25 := He.glo_ok KX G (c.t.d.fact 25 (f := .glo "living_ends") rfl)
  have g26 := He.glo_ok KX G (c.t.d.fact 26 (f := .glo "nearest") rfl)
  have g27 := He.glo_ok KX G (c.t.d.fact 27 (f := .glo "kin_of") rfl)
  have g28 := He.glo_ok KX G (c.t.d.fact 28 (f := .glo "spouse_on") rfl)
  have g29 := He.glo_ok KX G (c.t.d.fact 29 (f := .glo "rest_rows") rfl)
  have g30 := He.glo_ok KX G (c.t.d.fact 30 (f := .glo "dealt") rfl)
  have g31 := He.meth_ok (c.t.d.fact 31 (f := .meth "Book" "roll") rfl)
  have g32 := He.meth_ok (c.t.d.fact 32 (f := .meth "Book" "deal_anew") rfl)
  have g33 := He.meth_ok (c.t.d.fact 33 (f := .meth "Book" "died") rfl)
  have g34 := He.glo_ok KX G (c.t.d.fact 34 (f := .glo "copied") rfl)
  have g35 := He.meth_ok (c.t.d.fact 35 (f := .meth "Book" "deal") rfl)
  have g36 := He.glo_ok KX G (c.t.d.fact 36 (f := .glo "_law_line") rfl)
  have g37 := He.glo_ok KX G (c.t.d.fact 37 (f := .glo "_law_deals") rfl)
  have g38 := He.glo_ok KX G (c.t.d.fact 38 (f := .glo "need_parents") rfl)
  have g39 := He.glo_ok KX G (c.t.d.fact 39 (f := .glo "need_birth") rfl)
  have g40 := He.meth_ok (c.t.d.fact 40 (f := .meth "Book" "born") rfl)
  have g41 := He.glo_ok KX G (c.t.d.fact 41 (f := .glo "need_adoption") rfl)
  have g42 := He.meth_ok (c.t.d.fact 42 (f := .meth "Book" "adopted") rfl)
  have g43 := He.glo_ok KX G (c.t.d.fact 43 (f := .glo "_law_tell") rfl)
  have g44 := He.glo_ok KX G (c.t.d.fact 44 (f := .glo "_law_lowest") rfl)
  have g45 := He.glo_ok KX G (c.t.d.fact 45 (f := .glo "_law_done") rfl)
  have g46 := He.glo_ok KX G (c.t.d.fact 46 (f := .glo "_law_cell_at") rfl)
  have g47 := He.meth_ok (c.t.d.fact 47 (f := .meth "Book" "anew") rfl)
  have g48 := He.glo_ok KX G (c.t.d.fact 48 (f := .glo "_law_stands") rfl)
  have g49 := He.glo_ok KX G (c.t.d.fact 49 (f := .glo "law") rfl)
  have gBook := He.glo_ok KX G (c.t.d.fact 59 (f := .glo "Book") rfl)
  have mkBook := He.mkr_ok (c.t.d.fact 61 (f := .mkr "Book") rfl)
  have hB : BkC K := ⟨He.cls_ok (c.t.d.fact 60 (f := .cls "Book") rfl), fun n => match n with
    | .pe => He.noat_ok (c.t.d.fact 62 (f := .noat "Book" "people") rfl)
    | .ma => He.noat_ok (c.t.d.fact 63 (f := .noat "Book" "marriages") rfl)
    | .wi => He.noat_ok (c.t.d.fact 64 (f := .noat "Book" "wills") rfl)
    | .de => He.noat_ok (c.t.d.fact 65 (f := .noat "Book" "deals") rfl)
    | .ot => He.noat_ok (c.t.d.fact 66 (f := .noat "Book" "other") rfl)⟩
  have m_bool := He.free_ok KX G (c.t.d.fact 50 (f := .free "bool") rfl)
  have m_int := He.free_ok KX G (c.t.d.fact 51 (f := .free "int") rfl)
  have m_isinstance := He.free_ok KX G (c.t.d.fact 52 (f := .free "isinstance") rfl)
  have m_len := He.free_ok KX G (c.t.d.fact 53 (f := .free "len") rfl)
  have m_list := He.free_ok KX G (c.t.d.fact 54 (f := .free "list") rfl)
  have m_min := He.free_ok KX G (c.t.d.fact 55 (f := .free "min") rfl)
  have m_range := He.free_ok KX G (c.t.d.fact 56 (f := .free "range") rfl)
  have m_sorted := He.free_ok KX G (c.t.d.fact 57 (f := .free "sorted") rfl)
  have m_tuple := He.free_ok KX G (c.t.d.fact 58 (f := .free "tuple") rfl)
  have g_LAST_DAY : ∃ u, mg "LAST_DAY" = some u ∧ L2.RelV (V.int 100000) u := by
    obtain ⟨t, h⟩ := He.int_ok KX G (c.t.d.fact 67 (f := .int "LAST_DAY" 100000) rfl)
    exact ⟨_, h, t, rfl⟩
  have g_MOST_PEOPLE : ∃ u, mg "MOST_PEOPLE" = some u ∧ L2.RelV (V.int 60) u := by
    obtain ⟨t, h⟩ := He.int_ok KX G (c.t.d.fact 68 (f := .int "MOST_PEOPLE" 60) rfl)
    exact ⟨_, h, t, rfl⟩
  cases hfa.symm.trans g49
  obtain ⟨fd, FL⟩ := c.t.d.def_ 49 (d := dd_law) rfl
  have bl := FunD.bindsA (ps := ["_law_script"]) FL fun _ _ _ _ _ _ us hl => match us, hl with | [_], _ => rfl
  refine ⟨fd, tfL.map (He.cT K), spLaw K 63, fun p hp => ?_, fun p hp => ?_, fun p hp => ?_, fun s v => bl s [v] rfl, fun H a ns hl _ hT hS => ⟨a, ns, rfl, hS, hl, tb_start hT, fun _ => rfl⟩, fun base hb hn tb => ?_⟩
  · obtain ⟨d, hd, rfl⟩ := List.mem_map.mp hp; exact c.empty d hd
  · obtain ⟨d, hd, rfl⟩ := List.mem_map.mp hp; exact c.out d hd
  · obtain ⟨d, hd, rfl⟩ := List.mem_map.mp hp; exact PySem.W.codeHd_of_K KX (c.hd d hd)
  obtain ⟨fdI, FI⟩ := c.t.d.def_ 0 (d := dd_Book___init__) rfl
  have hBk : MkB (PySem.Challenge.rw_estateroll_k14_whole_far_off).prog w K mg base 1 := MkB.of (st := s_Book___init__) (k := 0) hB (fun_ofD (st := s_Book___init__) FI) mkBook gBook sc_Book___init__ (fun _ _ _ _ _ _ us hl => match us, hl with | [_], _ => rfl) fun X _ _ _ _ _ _ _ c => pss_cons (ps_fld (pe_var (i := 0) (by rw [c.hN]; rfl) (c.vis rfl) (by decide) (by decide)) (pe_lst pa_nil) rfl) (pss_cons (ps_fld (pe_var (i := 0) (by rw [c.hN]; rfl) (c.vis rfl) (by decide) (by decide)) (pe_lst pa_nil) rfl) (pss_cons (ps_fld (pe_var (i := 0) (by rw [c.hN]; rfl) (c.vis rfl) (by decide) (by decide)) (pe_lst pa_nil) rfl) (pss_cons (ps_fld (pe_var (i := 0) (by rw [c.hN]; rfl) (c.vis rfl) (by decide) (by decide)) pe_dnewK rfl) (pss_one (ps_fld (pe_var (i := 0) (by rw [c.hN]; rfl) (c.vis rfl) (by decide) (by decide)) (pe_lst pa_nil) rfl)))))
  have T1 : Top K mg "is_whole" s_is_whole := Top.ofD (c.t.d.def_ 1 (d := dd_is_whole) rfl) g1
  have h_is_whole := kn_is_whole (P := (PySem.Challenge.rw_estateroll_k14_whole_far_off).prog) (w := w) (base := base) T1 hW m_bool m_int m_isinstance
  have T2 : Top K mg "need_people" s_need_people := Top.ofD (c.t.d.def_ 2 (d := dd_need_people) rfl) g2
  have h_need_people := kn_need_people (P := (PySem.Challenge.rw_estateroll_k14_whole_far_off).prog) (w := w) (base := base) T2 hW m_len h_is_whole
  have T3 : Top K mg "need_day" s_need_day := Top.ofD (c.t.d.def_ 3 (d := dd_need_day) rfl) g3
  have h_need_day := kn_need_day (P := (PySem.Challenge.rw_estateroll_k14_whole_far_off).prog) (w := w) (base := base) T3 hW g_LAST_DAY h_is_whole
  have T4 : Top K mg "need_death" s_need_death := Top.ofD (c.t.d.def_ 4 (d := dd_need_death) rfl) g4
  have h_need_death := kn_need_death (P := (PySem.Challenge.rw_estateroll_k14_whole_far_off).prog) (w := w) (base := base) T4 hW h_need_people h_need_day
  obtain ⟨fd5, F5⟩ := c.t.d.def_ 5 (d := dd_Book_dead) rfl
  have T5 : TopM K "dead" "Book.dead" s_Book_dead := ⟨⟨_, fd5, fun_ofD F5, g5⟩⟩
  have h_Book_dead := kn_Book_dead (P := (PySem.Challenge.rw_estateroll_k14_whole_far_off).prog) (w := w) (base := base) T5 hW m_len m_range hB
  have T6 : Top K mg "will_on" s_will_on := Top.ofD (c.t.d.def_ 6 (d := dd_will_on) rfl) g6
  have h_will_on := kn_will_on (P := (PySem.Challenge.rw_estateroll_k14_whole_far_off).prog) (w := w) (base := base) T6 hW
  have T7 : Top K mg "lives" s_lives := Top.ofD (c.t.d.def_ 7 (d := dd_lives) rfl) g7
  have h_lives := kn_lives (P := (PySem.Challenge.rw_estateroll_k14_whole_far_off).prog) (w := w) (base := base) T7 hW
  have T8 : Top K mg "common" s_common := Top.ofD (c.t.d.def_ 8 (d := dd_common) rfl) g8
  have h_common := kn_common (P := (PySem.Challenge.rw_estateroll_k14_whole_far_off).prog) (w := w) (base := base) T8 hW
  have T9 : Top K mg "part" s_part := Top.ofD (c.t.d.def_ 9 (d := dd_part) rfl) g9
  have h_part := kn_part (P := (PySem.Challenge.rw_estateroll_k14_whole_far_off).prog) (w := w) (base := base) T9 hW h_common
  have T10 : Top K mg "times" s_times := Top.ofD (c.t.d.def_ 10 (d := dd_times) rfl) g10
  have h_times := kn_times (P := (PySem.Challenge.rw_estateroll_k14_whole_far_off).prog) (w := w) (base := base) T10 hW h_part
  have T11 : Top K mg "ahead_of" s_ahead_of := Top.ofD (c.t.d.def_ 11 (d := dd_ahead_of) rfl) g11
  have h_ahead_of := kn_ahead_of (P := (PySem.Challenge.rw_estateroll_k14_whole_far_off).prog) (w := w) (base := base) T11 hW h_times
  have T12 : Top K mg "parents_on" s_parents_on := Top.ofD (c.t.d.def_ 12 (d := dd_parents_on) rfl) g12
  have h_parents_on := kn_parents_on (P := (PySem.Challenge.rw_estateroll_k14_whole_far_off).prog) (w := w) (base := base) T12 hW
  have T13 : Top K mg "children_on" s_children_on := Top.ofD (c.t.d.def_ 13 (d := dd_children_on) rfl) g13
  have h_children_on := kn_children_on (P := (PySem.Challenge.rw_estateroll_k14_whole_far_off).prog) (w := w) (base := base) T13 hW m_len m_range h_parents_on
  have T14 : Top K mg "birth_of" s_birth_of := Top.ofD (c.t.d.def_ 14 (d := dd_birth_of) rfl) g14
  have h_birth_of := kn_birth_of (P := (PySem.Challenge.rw_estateroll_k14_whole_far_off).prog) (w := w) (base := base) T14 hW
  have T15 : TopC K mg "lines_on" s_lines_on (He.codeOf K ("lines_on", none)) := TopC.ofD (c.t.d.def_ 15 (d := dd_lines_on) rfl) g15
  have h_lines_on := kn_lines_on (P := (PySem.Challenge.rw_estateroll_k14_whole_far_off).prog) (w := w) (base := base) T15 hW m_len m_list m_range m_sorted h_lives h_children_on h_birth_of (fun X e1 e2 hc hq => ⟨_, _, lamP_of (tf := tfL) c.more (x := "lines_on") (by simp [tfL]) (by rw [e1, e2]; exact tb _ (List.mem_map.mpr ⟨("lines_on", none), by simp [tfL], rfl⟩)) hc hq⟩)
  have T16 : Top K mg "shared" s_shared := Top.ofD (c.t.d.def_ 16 (d := dd_shared) rfl) g16
  have h_shared := kn_shared (P := (PySem.Challenge.rw_estateroll_k14_whole_far_off).prog) (w := w) (base := base) T16 hW h_part
  have T17 : Top K mg "dealt_among" s_dealt_among := Top.ofD (c.t.d.def_ 17 (d := dd_dealt_among) rfl) g17
  have h_dealt_among := kr_dealt_among (P := (PySem.Challenge.rw_estateroll_k14_whole_far_off).prog) (w := w) (base := base) T17 hW m_len h_shared h_lives h_ahead_of h_children_on 36
  have T18 : Top K mg "by_lines" s_by_lines := Top.ofD (c.t.d.def_ 18 (d := dd_by_lines) rfl) g18
  have h_by_lines := kn_by_lines (P := (PySem.Challenge.rw_estateroll_k14_whole_far_off).prog) (w := w) (base := base) T18 hW h_lines_on h_dealt_among h_children_on
  have T19 : Top K mg "given_to" s_given_to := Top.ofD (c.t.d.def_ 19 (d := dd_given_to) rfl) g19
  have h_given_to := kn_given_to (P := (PySem.Challenge.rw_estateroll_k14_whole_far_off).prog) (w := w) (base := base) T19 hW h_lives h_ahead_of h_by_lines
  have T20 : Top K mg "less" s_less := Top.ofD (c.t.d.def_ 20 (d := dd_less) rfl) g20
  have h_less := kn_less (P := (PySem.Challenge.rw_estateroll_k14_whole_far_off).prog) (w := w) (base := base) T20 hW h_part
  have T21 : Top K mg "others_of" s_others_of := Top.ofD (c.t.d.def_ 21 (d := dd_others_of) rfl) g21
  have h_others_of := kn_others_of (P := (PySem.Challenge.rw_estateroll_k14_whole_far_off).prog) (w := w) (base := base) T21 hW h_children_on
  have T22 : Top K mg "by_parents" s_by_parents := Top.ofD (c.t.d.def_ 22 (d := dd_by_parents) rfl) g22
  have h_by_parents := kn_by_parents (P := (PySem.Challenge.rw_estateroll_k14_whole_far_off).prog) (w := w) (base := base) T22 hW m_len h_lines_on h_parents_on h_shared h_lives h_dealt_among h_others_of h_ahead_of
  have T23 : Top K mg "moves" s_moves := Top.ofD (c.t.d.def_ 23 (d := dd_moves) rfl) g23
  have h_moves := kn_moves (P := (PySem.Challenge.rw_estateroll_k14_whole_far_off).prog) (w := w) (base := base) T23 hW h_children_on h_parents_on
  have T24 : Top K mg "onward" s_onward := Top.ofD (c.t.d.def_ 24 (d := dd_onward) rfl) g24
  have h_onward := kn_onward (P := (PySem.Challenge.rw_estateroll_k14_whole_far_off).prog) (w := w) (base := base) T24 hW m_min h_moves
  have T25 : Top K mg "living_ends" s_living_ends := Top.ofD (c.t.d.def_ 25 (d := dd_living_ends) rfl) g25
  have h_living_ends := kn_living_ends (P := (PySem.Challenge.rw_estateroll_k14_whole_far_off).prog) (w := w) (base := base) T25 hW m_list m_min m_sorted h_lives
  have T26 : Top K mg "nearest" s_nearest := Top.ofD (c.t.d.def_ 26 (d := dd_nearest) rfl) g26
  have h_nearest := kn_nearest (P := (PySem.Challenge.rw_estateroll_k14_whole_far_off).prog) (w := w) (base := base) T26 hW m_len h_onward h_living_ends
  have T27 : Top K mg "kin_of" s_kin_of := Top.ofD (c.t.d.def_ 27 (d := dd_kin_of) rfl) g27
  have h_kin_of := kn_kin_of (P := (PySem.Challenge.rw_estateroll_k14_whole_far_off).prog) (w := w) (base := base) T27 hW m_len h_by_lines h_by_parents h_nearest h_shared
  have T28 : Top K mg "spouse_on" s_spouse_on := Top.ofD (c.t.d.def_ 28 (d := dd_spouse_on) rfl) g28
  have h_spouse_on := kn_spouse_on (P := (PySem.Challenge.rw_estateroll_k14_whole_far_off).prog) (w := w) (base := base) T28 hW h_lives
  have T29 : Top K mg "rest_rows" s_rest_rows := Top.ofD (c.t.d.def_ 29 (d := dd_rest_rows) rfl) g29
  have h_rest_rows := kn_rest_rows (P := (PySem.Challenge.rw_estateroll_k14_whole_far_off).prog) (w := w) (base := base) T29 hW h_kin_of h_spouse_on h_less h_times
  have T30 : Top K mg "dealt" s_dealt := Top.ofD (c.t.d.def_ 30 (d := dd_dealt) rfl) g30
  have h_dealt := kn_dealt (P := (PySem.Challenge.rw_estateroll_k14_whole_far_off).prog) (w := w) (base := base) T30 hW h_will_on h_given_to h_less h_rest_rows
  obtain ⟨fd31, F31⟩ := c.t.d.def_ 31 (d := dd_Book_roll) rfl
  have T31 : TopM K "roll" "Book.roll" s_Book_roll := ⟨⟨_, fd31, fun_ofD F31, g31⟩⟩
  have h_Book_roll := kn_Book_roll (P := (PySem.Challenge.rw_estateroll_k14_whole_far_off).prog) (w := w) (base := base) T31 hW m_list hB
  obtain ⟨fd32, F32⟩ := c.t.d.def_ 32 (d := dd_Book_deal_anew) rfl
  have T32 : TopM K "deal_anew" "Book.deal_anew" s_Book_deal_anew := ⟨⟨_, fd32, fun_ofD F32, g32⟩⟩
  have h_Book_deal_anew := kn_Book_deal_anew (P := (PySem.Challenge.rw_estateroll_k14_whole_far_off).prog) (w := w) (base := base) T32 hW hB h_Book_dead h_dealt h_Book_roll
  obtain ⟨fd33, F33⟩ := c.t.d.def_ 33 (d := dd_Book_died) rfl
  have T33 : TopM K "died" "Book.died" s_Book_died := ⟨⟨_, fd33, fun_ofD F33, g33⟩⟩
  have h_Book_died := kn_Book_died (P := (PySem.Challenge.rw_estateroll_k14_whole_far_off).prog) (w := w) (base := base) T33 hW hB h_need_death h_Book_deal_anew h_Book_roll
  have T34 : Top K mg "copied" s_copied := Top.ofD (c.t.d.def_ 34 (d := dd_copied) rfl) g34
  have h_copied := kn_copied (P := (PySem.Challenge.rw_estateroll_k14_whole_far_off).prog) (w := w) (base := base) T34 hW m_list
  obtain ⟨fd35, F35⟩ := c.t.d.def_ 35 (d := dd_Book_deal) rfl
  have T35 : TopM K "deal" "Book.deal" s_Book_deal := ⟨⟨_, fd35, fun_ofD F35, g35⟩⟩
  have h_Book_deal := kn_Book_deal (P := (PySem.Challenge.rw_estateroll_k14_whole_far_off).prog) (w := w) (base := base) T35 hW hB h_need_people h_copied
  have T36 : Top K mg "_law_line" s__law_line := Top.ofD (c.t.d.def_ 36 (d := dd__law_line) rfl) g36
  have h__law_line := kn__law_line (P := (PySem.Challenge.rw_estateroll_k14_whole_far_off).prog) (w := w) (base := base) T36 hW m_range
  have T37 : Top K mg "_law_deals" s__law_deals := Top.ofD (c.t.d.def_ 37 (d := dd__law_deals) rfl) g37
  have h__law_deals := kn__law_deals (P := (PySem.Challenge.rw_estateroll_k14_whole_far_off).prog) (w := w) (base := base) T37 hW m_len m_range h_dealt
  have T38 : Top K mg "need_parents" s_need_parents := Top.ofD (c.t.d.def_ 38 (d := dd_need_parents) rfl) g38
  have h_need_parents := kn_need_parents (P := (PySem.Challenge.rw_estateroll_k14_whole_far_off).prog) (w := w) (base := base) T38 hW m_len
  have T39 : Top K mg "need_birth" s_need_birth := Top.ofD (c.t.d.def_ 39 (d := dd_need_birth) rfl) g39
  have h_need_birth := kn_need_birth (P := (PySem.Challenge.rw_estateroll_k14_whole_far_off).prog) (w := w) (base := base) T39 hW g_MOST_PEOPLE m_len h_need_people h_need_day h_need_parents
  obtain ⟨fd40, F40⟩ := c.t.d.def_ 40 (d := dd_Book_born) rfl
  have T40 : TopM K "born" "Book.born" s_Book_born := ⟨⟨_, fd40, fun_ofD F40, g40⟩⟩
  have h_Book_born := kn_Book_born (P := (PySem.Challenge.rw_estateroll_k14_whole_far_off).prog) (w := w) (base := base) T40 hW m_len m_tuple hB h_need_birth h_Book_deal_anew
  have T41 : Top K mg "need_adoption" s_need_adoption := Top.ofD (c.t.d.def_ 41 (d := dd_need_adoption) rfl) g41
  have h_need_adoption := kn_need_adoption (P := (PySem.Challenge.rw_estateroll_k14_whole_far_off).prog) (w := w) (base := base) T41 hW h_need_people h_need_day h_need_parents
  obtain ⟨fd42, F42⟩ := c.t.d.def_ 42 (d := dd_Book_adopted) rfl
  have T42 : TopM K "adopted" "Book.adopted" s_Book_adopted := ⟨⟨_, fd42, fun_ofD F42, g42⟩⟩
  have h_Book_adopted := kn_Book_adopted (P := (PySem.Challenge.rw_estateroll_k14_whole_far_off).prog) (w := w) (base := base) T42 hW m_tuple hB h_need_adoption h_Book_deal_anew
  have T43 : Top K mg "_law_tell" s__law_tell := Top.ofD (c.t.d.def_ 43 (d := dd__law_tell) rfl) g43
  have h__law_tell := kn__law_tell (P := (PySem.Challenge.rw_estateroll_k14_whole_far_off).prog) (w := w) (base := base) T43 hW hB h_Book_adopted h_Book_born h_Book_died
  have T44 : Top K mg "_law_lowest" s__law_lowest := Top.ofD (c.t.d.def_ 44 (d := dd__law_lowest) rfl) g44
  have h__law_lowest := kn__law_lowest (P := (PySem.Challenge.rw_estateroll_k14_whole_far_off).prog) (w := w) (base := base) T44 hW
  have T45 : Top K mg "_law_done" s__law_done := Top.ofD (c.t.d.def_ 45 (d := dd__law_done) rfl) g45
  have h__law_done := kn__law_done (P := (PySem.Challenge.rw_estateroll_k14_whole_far_off).prog) (w := w) (base := base) T45 hW m_list m_tuple h__law_lowest
  have T46 : Top K mg "_law_cell_at" s__law_cell_at := Top.ofD (c.t.d.def_ 46 (d := dd__law_cell_at) rfl) g46
  have h__law_cell_at := kn__law_cell_at (P := (PySem.Challenge.rw_estateroll_k14_whole_far_off).prog) (w := w) (base := base) T46 hW m_len
  obtain ⟨fd47, F47⟩ := c.t.d.def_ 47 (d := dd_Book_anew) rfl
  have T47 : TopM K "anew" "Book.anew" s_Book_anew := ⟨⟨_, fd47, fun_ofD F47, g47⟩⟩
  have h_Book_anew := kn_Book_anew (P := (PySem.Challenge.rw_estateroll_k14_whole_far_off).prog) (w := w) (base := base) T47 hW m_list hB
  have T48 : Top K mg "_law_stands" s__law_stands := Top.ofD (c.t.d.def_ 48 (d := dd__law_stands) rfl) g48
  have h__law_stands := kn__law_stands (P := (PySem.Challenge.rw_estateroll_k14_whole_far_off).prog) (w := w) (base := base) T48 hW m_list m_sorted hB h_Book_anew h_Book_dead h_Book_roll h_Book_deal
  exact law_of (fn_law (fun_ofD FL) hW m_list m_range m_sorted hB hBk h_Book_died h_Book_deal h__law_line h__law_deals h_Book_born h__law_tell h__law_done h__law_cell_at h__law_stands h_Book_anew h_Book_dead) hL
end K14
open PySem PySem.W PySem.Calls PyProof.Rows
set_option maxHeartbeats 0 in
theorem PySem.Challenge.cw_estateroll_k14_whole_far_off_holds : PySem.Challenge.rw_estateroll_k14_whole_far_off.Holds := by
  w_on; o_law
  refine HandSHeadRun.head_any (r := OpenLaw.row PySem.Challenge.rw_estateroll_k14_whole_far_off) (q := view (OpenLaw.row PySem.Challenge.rw_estateroll_k14_whole_far_off).prog [69]) (H := K14.hkL) (ob := K14.obL) (M := 12000) (loose := K14.othersL) (d := HandSHeadRun.topDef (OpenLaw.row PySem.Challenge.rw_estateroll_k14_whole_far_off).prog 69) (kwd := []) K14.obL_eq
    (by kernel_rfl) (fun s => by kernel_rfl) K14.runL (by kernel_rfl) (by kernel_rfl) (by kernel_rfl) (by rfl) (by first | assumption | decide +kernel) (by decide +kernel) ⟨rfl, rfl, rfl, rfl, rfl, by decide +kernel⟩ ?hw ?hc
  case hw => w_witness2
  case hc =>
    refine LamX.walk_ofTsE (l := PySem.Challenge.rw_estateroll_k14_whole_far_off) (n := 63) (k := 48) (x := "_law_script") (CX := fun _ => L2.CX0) rfl (by decide) (by kernel_rfl) ⟨rfl, by decide, by decide⟩ ?F (fun _ _ _ _ _ z => z)
    intro w mg fa h Y G hmg0
    obtain ⟨K, KX, c⟩ := Y
    have hmg : mg ("law" : PySem.Str) = some (.ref fa) := by
      have e : (HandSHeadRun.topDef (OpenLaw.row PySem.Challenge.rw_estateroll_k14_whole_far_off).prog 69).name = ("law" : PySem.Str) := by kernel_rfl
      rw [← e]
      exact hmg0
    exact ⟨K, KX, K14.law_at KX G hmg c (@K14.law_true ⟨[], w, 0⟩)⟩
