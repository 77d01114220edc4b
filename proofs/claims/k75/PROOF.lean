import PyProof.Rows.All
import Wide.All
import OpenK.AllK
import Wide.FinOn
import HandS.ForMost
import HandS.TupAny
import HandS.IsInst
import HandS.Style
import HandS.Star
import HandS.SortOrd
import HandS.SortKw
import HandS.TupMul
import HandS.Deep
import HandS.Wide
import HandS.Strs
import HandS.TupLen
import HandS.Zip
import HandS.Lambda
import HandS.EndTab
import HandS.Small
import KE.SortData
import KE.KRevSl
import HandS.Conv
import KE.GoesEnum
import KE.SortKeyHeap
import HandS.Nested
import KE.KSortKey
import KE.KDictSum
import HandS.TupSets
import PyProof.Rows.SetFrom
import PyProof.WalksMore
import KE.DataMinKey
import KE.LtData
import HandS.NoneIn
import PySem.Challenge.RW_plainlybest_k75_whole_double_clocks
import HandS.Head0
import HandS.Head1
import HandS.Head2
import HandS.HeadEnd
import HandS.HeadHook1
import HandS.HeadHook2
import HandS.HeadHook3
import HandS.HeadHook4
import HandS.HeadWalk
set_option Elab.async false
set_option linter.all false
set_option maxRecDepth 100000
set_option maxHeartbeats 2000000
set_option autoImplicit false
/-! HD0: data trees, how they lie in the abstract heap, what a frame owns. -/
namespace HD
open PySem PySem.Spec PyProof.Rows L2

inductive D where
  | non | bl (b : Bool) | int (i : Int) | str (x : Str)
  | tup (ds : List D) | lst (ds : List D) | dct (t : Nat) (kvs : List (D × D))
  /-- the law's script -/
  | scr (ns : List Int)

instance : Inhabited D := ⟨.non⟩

/-- a number that is not too large (the kernel does not try to work this out) -/
def smB (i : Int) : Bool := Nat.ble i.natAbs 1000000000000000000
theorem smB_iff {i : Int} : smB i = true ↔ i.natAbs ≤ 1000000000000000000 := by
  unfold smB
  rw [Nat.ble_eq]
theorem smB_of {i : Int} (h : i.natAbs ≤ 1000000000000000000) : smB i = true := smB_iff.mpr h
/-- a divisor -/
def dvB (j : Int) : Bool := Nat.ble 1 j.toNat && Nat.ble j.toNat 1000000000000000000000000000000000000000000000000000000000000
theorem dvB_iff {j : Int} : dvB j = true ↔ 1 ≤ j.toNat ∧ j.toNat ≤ 1000000000000000000000000000000000000000000000000000000000000 := by
  unfold dvB
  rw [Bool.and_eq_true, Nat.ble_eq, Nat.ble_eq]
mutual
/-- nothing in it can ever change -/
def D.im : D → Bool
  | .tup ds => D.ims ds
  | .lst _ => false
  | .dct _ _ => false
  | .scr _ => false
  | .non => true
  | .bl _ => true
  | .int _ => true
  | .str _ => true
def D.ims : List D → Bool
  | [] => true
  | d :: ds => d.im && D.ims ds
end

mutual
def D.py : D → PyData
  | .non => .none
  | .bl b => .bool b
  | .int i => .int i
  | .str x => .str x
  | .tup ds => .tuple (D.pys ds)
  | .lst ds => .list (D.pys ds)
  | .dct _ _ => .dict []
  | .scr _ => .dict []
def D.pys : List D → List PyData
  | [] => []
  | d :: ds => d.py :: D.pys ds
end

def keyD : Key → D
  | .inl i => .int i
  | .inr x => .str x

mutual
/-- v stands for d, by what lies frozen in G -/
inductive Rep (K : PySem.W.Frag) (G : Hp) : V → D → Prop
  | non : Rep K G .non .non
  | bl (b : Bool) : Rep K G (.bl b) (.bl b)
  | int (i : Int) : Rep K G (.int i) (.int i)
  | str (x : Str) : Rep K G (.str x) (.str x)
  | tup {a : Addr} {xs : List V} {ds : List D} : G a = some (.tup xs) → Reps K G xs ds → Rep K G (.ref a) (.tup ds)
  | lst {a : Addr} {xs : List V} {ds : List D} : G a = some (.lst xs) → Reps K G xs ds → Rep K G (.ref a) (.lst ds)
  | dK {a : Addr} {ks : List (Key × V)} {ds : List D} {kvs : List (D × D)} : G a = some (.dK ks) → Reps K G (ks.map (·.2)) ds → kvs = (ks.map fun p => keyD p.1).zip ds → Rep K G (.ref a) (.dct 0 kvs)
  | dT {a : Addr} {ks : List (List Key × V)} {ds : List D} {kvs : List (D × D)} : G a = some (.dT ks) → Reps K G (ks.map (·.2)) ds → kvs = (ks.map fun p => .tup (p.1.map keyD)).zip ds → Rep K G (.ref a) (.dct 1 kvs)
  | scr {a : Addr} {ns : List Int} : SqL K G a (ns.map V.int) → Rep K G (.ref a) (.scr ns)
inductive Reps (K : PySem.W.Frag) (G : Hp) : List V → List D → Prop
  | nil : Reps K G [] []
  | cons {v : V} {vs : List V} {d : D} {ds : List D} : Rep K G v d → Reps K G vs ds → Reps K G (v :: vs) (d :: ds)
end

theorem Same.sqT {K : PySem.W.Frag} {G G' : Hp} {a : Addr} {xs : List V} (e : Same G G') (h : SqT K G a xs) : SqT K G' a xs := by
  rcases h with (h | ⟨o, h⟩) | h
  · exact .inl (.inl (e _ _ h))
  · exact .inl (.inr ⟨o, e _ _ h⟩)
  · exact .inr h
theorem Same.rd {G G' : Hp} {a : Addr} {u : HO} (e : Same G G') (h : Rd G a u) : Rd G' a u := by
  rcases h with h | ⟨o, h⟩
  · exact .inl (e _ _ h)
  · exact .inr ⟨o, e _ _ h⟩

mutual
theorem Rep.mono {K : PySem.W.Frag} {G G' : Hp} (e : Same G G') : ∀ {v : V} {d : D}, Rep K G v d → Rep K G' v d
  | _, _, .non => .non
  | _, _, .bl b => .bl b
  | _, _, .int i => .int i
  | _, _, .str x => .str x
  | _, _, .tup h r => .tup (e _ _ h) (Reps.mono e r)
  | _, _, .lst h r => .lst (e _ _ h) (Reps.mono e r)
  | _, _, .dK h r q => .dK (e _ _ h) (Reps.mono e r) q
  | _, _, .dT h r q => .dT (e _ _ h) (Reps.mono e r) q
  | _, _, .scr h => .scr (Same.seq e h)
theorem Reps.mono {K : PySem.W.Frag} {G G' : Hp} (e : Same G G') : ∀ {v : List V} {d : List D}, Reps K G v d → Reps K G' v d
  | _, _, .nil => .nil
  | _, _, .cons h r => .cons (Rep.mono e h) (Reps.mono e r)
end

theorem Reps.length {K : PySem.W.Frag} {G : Hp} : ∀ {vs : List V} {ds : List D}, Reps K G vs ds → vs.length = ds.length
  | _, _, .nil => rfl
  | _, _, .cons _ r => by rw [List.length_cons, List.length_cons, Reps.length r]
theorem Reps.get {K : PySem.W.Frag} {G : Hp} : ∀ {vs : List V} {ds : List D} {i : Nat} {d : D}, Reps K G vs ds → ds[i]? = some d → ∃ v, vs[i]? = some v ∧ Rep K G v d
  | _, _, _, _, .nil, e => by simp at e
  | _, _, 0, _, .cons h _, e => by
    simp at e
    subst e
    exact ⟨_, rfl, h⟩
  | _, _, i + 1, d, .cons _ r, e => by
    obtain ⟨v, h1, h2⟩ := Reps.get (i := i) (d := d) r (by simpa using e)
    exact ⟨v, by simpa using h1, h2⟩
theorem Reps.getV {K : PySem.W.Frag} {G : Hp} {vs : List V} {ds : List D} {i : Nat} {v : V} (r : Reps K G vs ds) (e : vs[i]? = some v) : ∃ d, ds[i]? = some d ∧ Rep K G v d := by
  have hl := r.length
  have hi : i < ds.length := by
    rw [← hl]
    exact (List.getElem?_eq_some_iff.mp e).1
  obtain ⟨w, h1, h2⟩ := r.get (List.getElem?_eq_getElem hi)
  rw [e] at h1
  cases h1
  exact ⟨_, List.getElem?_eq_getElem hi, h2⟩
theorem Reps.app {K : PySem.W.Frag} {G : Hp} : ∀ {vs ws : List V} {ds es : List D}, Reps K G vs ds → Reps K G ws es → Reps K G (vs ++ ws) (ds ++ es)
  | _, _, _, _, .nil, s => s
  | _, _, _, _, .cons h r, s => .cons h (Reps.app r s)
theorem Reps.take {K : PySem.W.Frag} {G : Hp} : ∀ {vs : List V} {ds : List D} (n : Nat), Reps K G vs ds → Reps K G (vs.take n) (ds.take n)
  | _, _, 0, _ => .nil
  | _, _, _ + 1, .nil => .nil
  | _, _, n + 1, .cons h r => .cons h (Reps.take n r)
theorem Reps.drop {K : PySem.W.Frag} {G : Hp} : ∀ {vs : List V} {ds : List D} (n : Nat), Reps K G vs ds → Reps K G (vs.drop n) (ds.drop n)
  | _, _, 0, r => r
  | _, _, _ + 1, .nil => .nil
  | _, _, n + 1, .cons _ r => Reps.drop n r
theorem Reps.set {K : PySem.W.Frag} {G : Hp} {v : V} {d : D} (h : Rep K G v d) : ∀ {vs : List V} {ds : List D} (n : Nat), Reps K G vs ds → Reps K G (vs.set n v) (ds.set n d)
  | _, _, _, .nil => .nil
  | _, _, 0, .cons _ r => .cons h r
  | _, _, n + 1, .cons g r => .cons g (Reps.set h n r)
theorem Reps.rev {K : PySem.W.Frag} {G : Hp} : ∀ {vs : List V} {ds : List D}, Reps K G vs ds → Reps K G vs.reverse ds.reverse
  | _, _, .nil => .nil
  | _, _, .cons h r => by
    rw [List.reverse_cons, List.reverse_cons]
    exact (Reps.rev r).app (.cons h .nil)
theorem Reps.all {K : PySem.W.Frag} {G : Hp} : ∀ {vs : List V} {ds : List D}, vs.length = ds.length → (∀ (i : Nat) (v : V) (d : D), vs[i]? = some v → ds[i]? = some d → Rep K G v d) → Reps K G vs ds
  | [], [], _, _ => .nil
  | v :: vs, d :: ds, hl, h => .cons (h 0 v d rfl rfl) (Reps.all (by simpa using hl) fun i v d e1 e2 => h (i + 1) v d (by simpa using e1) (by simpa using e2))
  | [], _ :: _, hl, _ => by simp at hl
  | _ :: _, [], hl, _ => by simp at hl

/-- what lies in what can't change is tuples alone -/
def TupLe (G G' : Hp) : Prop := ∀ a xs, G a = some (HO.tup xs) → G' a = some (HO.tup xs)
mutual
theorem Rep.imTo {K : PySem.W.Frag} {G G' : Hp} (e : TupLe G G') : ∀ {v : V} {d : D}, Rep K G v d → d.im = true → Rep K G' v d
  | _, _, .non, _ => .non
  | _, _, .bl b, _ => .bl b
  | _, _, .int i, _ => .int i
  | _, _, .str x, _ => .str x
  | _, _, .tup h r, i =>   .tup (e _ _ h) (Reps.imTo e r (by simpa only [D.im] using i))
  | _, _, .lst h r, i => by simp [D.im] at i
  | _, _, .dK h r q, i => by simp [D.im] at i
  | _, _, .dT h r q, i => by simp [D.im] at i
  | _, _, .scr h, i => by simp [D.im] at i
theorem Reps.imTo {K : PySem.W.Frag} {G G' : Hp} (e : TupLe G G') : ∀ {v : List V} {d : List D}, Reps K G v d → D.ims d = true → Reps K G' v d
  | _, _, .nil, _ => .nil
  | _, _, .cons h r, i => by
    rw [D.ims, Bool.and_eq_true] at i
    exact .cons (Rep.imTo e h i.1) (Reps.imTo e r i.2)
end
theorem ims_iff {ds : List D} : D.ims ds = true ↔ ∀ d ∈ ds, d.im = true := by
  induction ds with
  | nil => simp [D.ims]
  | cons d ds ih => simp [D.ims, ih]

/-- what may be changed by a frame that owns it -/
def MutO : HO → Prop
  | .lst _ => True
  | .dK _ => True
  | .dT _ => True
  | _ => False

mutual
/-- to depth n the tree's own lists and dicts stand at F, in H; what hangs below is frozen in G -/
inductive Own (K : PySem.W.Frag) (G H : Hp) : Nat → V → D → List Addr → Prop
  | shr {n : Nat} {v : V} {d : D} : (n = 0 ∨ d.im = true) → Rep K G v d → Own K G H n v d []
  | lst {n : Nat} {a : Addr} {xs : List V} {ds : List D} {F : List Addr} : H a = some (.lst xs) → Owns K G H n xs ds F → a ∉ F → Own K G H (n + 1) (.ref a) (.lst ds) (a :: F)
  | dK {n : Nat} {a : Addr} {ks : List (Key × V)} {ds : List D} {kvs : List (D × D)} {F : List Addr} : H a = some (.dK ks) → Owns K G H n (ks.map (·.2)) ds F → a ∉ F → kvs = (ks.map fun p => keyD p.1).zip ds → Own K G H (n + 1) (.ref a) (.dct 0 kvs) (a :: F)
  | dT {n : Nat} {a : Addr} {ks : List (List Key × V)} {ds : List D} {kvs : List (D × D)} {F : List Addr} : H a = some (.dT ks) → Owns K G H n (ks.map (·.2)) ds F → a ∉ F → kvs = (ks.map fun p => .tup (p.1.map keyD)).zip ds → Own K G H (n + 1) (.ref a) (.dct 1 kvs) (a :: F)
inductive Owns (K : PySem.W.Frag) (G H : Hp) : Nat → List V → List D → List Addr → Prop
  | nil {n : Nat} : Owns K G H n [] [] []
  | cons {n : Nat} {v : V} {vs : List V} {d : D} {ds : List D} {F1 F2 : List Addr} : Own K G H n v d F1 → Owns K G H n vs ds F2 → (∀ a ∈ F1, a ∉ F2) → Owns K G H n (v :: vs) (d :: ds) (F1 ++ F2)
end

section
variable {K : PySem.W.Frag} {G G' H H' : Hp}
mutual
theorem Own.move (eg : Same G G') : ∀ {n : Nat} {v : V} {d : D} {F : List Addr}, Own K G H n v d F → (∀ a ∈ F, H' a = H a) → Own K G' H' n v d F
  | _, _, _, _, .shr c r, _ => .shr c (r.mono eg)
  | _, _, _, _, .lst h r c, e => .lst (by rw [e _ List.mem_cons_self]; exact h) (Owns.move eg r fun a ha => e a (List.mem_cons_of_mem _ ha)) c
  | _, _, _, _, .dK h r c q, e => .dK (by rw [e _ List.mem_cons_self]; exact h) (Owns.move eg r fun a ha => e a (List.mem_cons_of_mem _ ha)) c q
  | _, _, _, _, .dT h r c q, e => .dT (by rw [e _ List.mem_cons_self]; exact h) (Owns.move eg r fun a ha => e a (List.mem_cons_of_mem _ ha)) c q
theorem Owns.move (eg : Same G G') : ∀ {n : Nat} {v : List V} {d : List D} {F : List Addr}, Owns K G H n v d F → (∀ a ∈ F, H' a = H a) → Owns K G' H' n v d F
  | _, _, _, _, .nil, _ => .nil
  | _, _, _, _, .cons h r c, e => .cons (Own.move eg h fun a ha => e a (List.mem_append_left _ ha)) (Owns.move eg r fun a ha => e a (List.mem_append_right _ ha)) c
end
mutual
/-- frozen where it stands -/
theorem Own.rep (eg : Same G G') : ∀ {n : Nat} {v : V} {d : D} {F : List Addr}, Own K G H n v d F → (∀ a ∈ F, G' a = H a) → Rep K G' v d
  | _, _, _, _, .shr c r, _ => r.mono eg
  | _, _, _, _, .lst h r c, e => .lst (by rw [e _ List.mem_cons_self]; exact h) (Owns.rep eg r fun a ha => e a (List.mem_cons_of_mem _ ha))
  | _, _, _, _, .dK h r c q, e => .dK (by rw [e _ List.mem_cons_self]; exact h) (Owns.rep eg r fun a ha => e a (List.mem_cons_of_mem _ ha)) q
  | _, _, _, _, .dT h r c q, e => .dT (by rw [e _ List.mem_cons_self]; exact h) (Owns.rep eg r fun a ha => e a (List.mem_cons_of_mem _ ha)) q
theorem Owns.rep (eg : Same G G') : ∀ {n : Nat} {v : List V} {d : List D} {F : List Addr}, Owns K G H n v d F → (∀ a ∈ F, G' a = H a) → Reps K G' v d
  | _, _, _, _, .nil, _ => .nil
  | _, _, _, _, .cons h r c, e => .cons (Own.rep eg h fun a ha => e a (List.mem_append_left _ ha)) (Owns.rep eg r fun a ha => e a (List.mem_append_right _ ha))
end
mutual
theorem Own.mut : ∀ {n : Nat} {v : V} {d : D} {F : List Addr}, Own K G H n v d F → ∀ a ∈ F, ∃ o, H a = some o ∧ MutO o
  | _, _, _, _, .shr c r, a, ha => by cases ha
  | _, _, _, _, .lst h r c, a, ha => by
    rcases List.mem_cons.mp ha with e | ha
    · subst e
      exact ⟨_, h, trivial⟩
    · exact Owns.mut r a ha
  | _, _, _, _, .dK h r c q, a, ha => by
    rcases List.mem_cons.mp ha with e | ha
    · subst e
      exact ⟨_, h, trivial⟩
    · exact Owns.mut r a ha
  | _, _, _, _, .dT h r c q, a, ha => by
    rcases List.mem_cons.mp ha with e | ha
    · subst e
      exact ⟨_, h, trivial⟩
    · exact Owns.mut r a ha
theorem Owns.mut : ∀ {n : Nat} {v : List V} {d : List D} {F : List Addr}, Owns K G H n v d F → ∀ a ∈ F, ∃ o, H a = some o ∧ MutO o
  | _, _, _, _, .nil, a, ha => by cases ha
  | _, _, _, _, .cons h r c, a, ha => by
    rcases List.mem_append.mp ha with ha | ha
    · exact Own.mut h a ha
    · exact Owns.mut r a ha
end
/-- a row of frozen things, owned at depth 0 -/
theorem Reps.owns : ∀ {vs : List V} {ds : List D}, Reps K G vs ds → Owns K G H 0 vs ds []
  | _, _, .nil => .nil
  | _, _, .cons h r => by
    have := Owns.cons (.shr (.inl rfl) h) (Reps.owns r) (fun a ha => by cases ha)
    exact this
theorem Owns.reps0 : ∀ {vs : List V} {ds : List D} {F : List Addr}, Owns K G H 0 vs ds F → Reps K G vs ds ∧ F = []
  | _, _, _, .nil => ⟨.nil, rfl⟩
  | _, _, _, .cons h r _ => by
    obtain ⟨r2, e2⟩ := Owns.reps0 r
    cases h with
    | shr c q => exact ⟨.cons q r2, e2⟩
theorem Reps.ownsN {n : Nat} : ∀ {vs : List V} {ds : List D}, Reps K G vs ds → D.ims ds = true → Owns K G H n vs ds []
  | _, _, .nil, _ => .nil
  | _, _, .cons h r, i => by
    rw [D.ims, Bool.and_eq_true] at i
    have := Owns.cons (n := n) (.shr (.inr i.1) h) (Reps.ownsN r i.2) (fun a ha => by cases ha)
    exact this
theorem Owns.length {n : Nat} : ∀ {vs : List V} {ds : List D} {F : List Addr}, Owns K G H n vs ds F → vs.length = ds.length
  | _, _, _, .nil => rfl
  | _, _, _, .cons _ r _ => by rw [List.length_cons, List.length_cons, Owns.length r]
end

/-! ### the tables of code objects -/
/-- the tables that the law's lambdas use -/
class Tb where
  T : List (Addr × Str)
variable [Tb]
/-- the frozen heap holds no table, the heap holds the law's -/
structure TbOk (G H : Hp) : Prop where
  nt : ∀ a ps, G a ≠ some (.tbl ps)
  tabs : LamX.Tabs Tb.T H
theorem tabs_keep {T : List (Addr × Str)} {H H' : Hp} (t : LamX.Tabs T H) (k : ∀ a o, H a = some o → ¬ MutO o → H' a = some o) : LamX.Tabs T H' := fun p hp => by
  obtain ⟨ps, h1, h2, h3⟩ := t p hp
  refine ⟨ps, k _ _ h1 (fun z => z), h2, fun pos cv hc => ?_⟩
  obtain ⟨c, e1, e2⟩ := h3 pos cv hc
  exact ⟨c, e1, k _ _ e2 (fun z => by unfold LamX.CodeO at z; exact z)⟩
theorem TbOk.same {G H G' H' : Hp} (t : TbOk G H) (g : ∀ a o, G' a = some o → G a = some o ∨ ∀ ps, o ≠ .tbl ps) (k : ∀ a o, H a = some o → ¬ MutO o → H' a = some o) : TbOk G' H' :=
  ⟨fun a ps e => (g a _ e).elim (fun z => t.nt a ps z) fun z => z ps rfl, tabs_keep t.tabs k⟩
/-- what became of an object that nobody owns: only tables change -/
def KO (o : HO) (x : Option HO) : Prop := x = some o ∨ ∃ ps ps', o = .tbl ps ∧ x = some (.tbl ps')
theorem KO.eq {o : HO} {x : Option HO} (h : KO o x) (n : ∀ ps, o ≠ .tbl ps) : x = some o := by
  rcases h with h | ⟨ps, _, e, _⟩
  · exact h
  · exact absurd e (n ps)
theorem KO.mut {o : HO} {x : Option HO} (h : KO o x) (n : MutO o) : x = some o := h.eq fun ps e => by rw [e] at n; exact n
theorem KO.any {o : HO} {x : Option HO} (h : KO o x) : ∃ o', x = some o' := by
  rcases h with h | ⟨_, ps, _, e⟩
  · exact ⟨_, h⟩
  · exact ⟨_, e⟩
theorem KO.upd {o u : HO} {H : Hp} {a p : Addr} (h : KO o (H a)) (hp : H p = none) : KO o (upd H p u a) := by
  obtain ⟨o', e⟩ := h.any
  rw [upd_ne (ne_of_none e hp)]
  exact h
theorem TbOk.upd {G H : Hp} {p : Addr} {o : HO} (t : TbOk G H) (hp : ∀ u, H p = some u → MutO u) : TbOk G (upd H p o) :=
  ⟨t.nt, tabs_keep t.tabs fun a u e n => by
    rw [upd_ne fun z => n (hp u (by rw [← z]; exact e))]
    exact e⟩
theorem TbOk.new {G H : Hp} {p : Addr} {o : HO} (t : TbOk G H) (hp : H p = none) : TbOk G (L2.upd H p o) := t.upd fun u e => by rw [hp] at e; cases e
theorem mutN {H : Hp} {p : Addr} (h : H p = none) : ∀ u, H p = some u → MutO u := fun u e => by rw [h] at e; cases e
theorem mutS {H : Hp} {p : Addr} {o : HO} (h : H p = some o) (m : MutO o) : ∀ u, H p = some u → MutO u := fun u e => by rw [h] at e; cases e; exact m
theorem mut_ntbl {o : HO} (m : MutO o) : ∀ ps, o ≠ .tbl ps := fun ps e => by rw [e] at m; exact m

/-! ### a frame's slots by their data -/
inductive Slot where
  | none
  | shr (d : D)
  | own (n : Nat) (d : D)
abbrev Env := List Slot

structure S (K : PySem.W.Frag) (σ : L2.St) (H G : Hp) (env : Env) (F : Nat → List Addr) : Prop where
  same : Same G H
  shr : ∀ (i : Nat) (d : D), env[i]? = some (Slot.shr d) → ∃ v, σ[i]? = some (some v) ∧ Rep K G v d
  own : ∀ (i n : Nat) (d : D), env[i]? = some (Slot.own n d) → ∃ v, σ[i]? = some (some v) ∧ Own K G H n v d (F i)
  emp : ∀ (i : Nat), (∀ (n : Nat) (d : D), env[i]? ≠ some (Slot.own n d)) → F i = []
  free : ∀ (i : Nat) (a : Addr), a ∈ F i → G a = none
  apart : ∀ (i j : Nat) (a : Addr), i ≠ j → a ∈ F i → a ∉ F j
  len : env.length ≤ σ.length
  tb : TbOk G H

/-- what is seen holds no table -/
theorem S.nt {K : PySem.W.Frag} {σ : L2.St} {H G : Hp} {env : Env} {F : Nat → List Addr} (s : S K σ H G env F) : ∀ a ps, G a ≠ some (.tbl ps) := s.tb.nt
theorem S.mut {K : PySem.W.Frag} {σ : L2.St} {H G : Hp} {env : Env} {F : Nat → List Addr} (s : S K σ H G env F) {i : Nat} {a : Addr} (h : a ∈ F i) : ∃ o, H a = some o ∧ MutO o := by
  by_cases q : ∃ n d, env[i]? = some (.own n d)
  · obtain ⟨n, d, e⟩ := q
    obtain ⟨v, _, o⟩ := s.own i n d e
    exact o.mut a h
  · rw [s.emp i fun n d e => q ⟨n, d, e⟩] at h
    cases h

/-- the frozen heap, and what the slots r own as it stands -/
def vw (r : List Nat) (H G : Hp) (F : Nat → List Addr) : Hp := fun a => if r.any (fun i => decide (a ∈ F i)) = true then H a else G a
theorem vw_nil {H G : Hp} {F : Nat → List Addr} : vw [] H G F = G := by
  funext a
  simp [vw]
theorem vw_in {r : List Nat} {H G : Hp} {F : Nat → List Addr} {i : Nat} {a : Addr} (hi : i ∈ r) (ha : a ∈ F i) : vw r H G F a = H a := by
  unfold vw
  rw [if_pos]
  exact List.any_eq_true.mpr ⟨i, hi, decide_eq_true ha⟩
theorem vw_out {r : List Nat} {H G : Hp} {F : Nat → List Addr} {a : Addr} (h : ∀ i ∈ r, a ∉ F i) : vw r H G F a = G a := by
  unfold vw
  rw [if_neg]
  intro q
  obtain ⟨i, hi, ha⟩ := List.any_eq_true.mp q
  exact h i hi (of_decide_eq_true ha)
theorem vw_cases (r : List Nat) (F : Nat → List Addr) (a : Addr) : (∃ i ∈ r, a ∈ F i) ∨ (∀ i ∈ r, a ∉ F i) := by
  by_cases h : ∃ i ∈ r, a ∈ F i
  · exact .inl h
  · exact .inr fun i hi ha => h ⟨i, hi, ha⟩
section
variable {K : PySem.W.Frag} {σ : L2.St} {H G : Hp} {env : Env} {F : Nat → List Addr}
theorem S.vwH (s : S K σ H G env F) (r : List Nat) : Same (vw r H G F) H := fun a o e => by
  rcases vw_cases r F a with ⟨i, hi, ha⟩ | h
  · rw [vw_in hi ha] at e
    exact e
  · rw [vw_out h] at e
    exact s.same a o e
theorem S.vwG (s : S K σ H G env F) (r : List Nat) : Same G (vw r H G F) := fun a o e => by
  rw [vw_out]
  · exact e
  · intro i _ ha
    rw [s.free i a ha] at e
    cases e
theorem S.vwSub (s : S K σ H G env F) {r r' : List Nat} (h : ∀ i ∈ r, i ∈ r') : Same (vw r H G F) (vw r' H G F) := fun a o e => by
  rcases vw_cases r F a with ⟨i, hi, ha⟩ | q
  · rw [vw_in hi ha] at e
    rw [vw_in (h i hi) ha]
    exact e
  · rw [vw_out q] at e
    exact s.vwG r' a o e
/-- tuples are never owned -/
theorem S.tups (s : S K σ H G env F) (r : List Nat) : TupLe (vw r H G F) G := fun a xs e => by
  rcases vw_cases r F a with ⟨i, hi, ha⟩ | q
  · exfalso
    obtain ⟨o, ho, m⟩ := s.mut ha
    rw [vw_in hi ha, ho] at e
    cases e
    exact m
  · rw [vw_out q] at e
    exact e
theorem S.im (s : S K σ H G env F) {r : List Nat} {v : V} {d : D} (h : Rep K (vw r H G F) v d) (i : d.im = true) : Rep K G v d := h.imTo (s.tups r) i
end

theorem S.vwnt {K : PySem.W.Frag} {σ : L2.St} {H G : Hp} {env : Env} {F : Nat → List Addr} (s : S K σ H G env F) (r : List Nat) : ∀ a ps, vw r H G F a ≠ some (.tbl ps) := fun a ps e => by
  rcases vw_cases r F a with ⟨i, hi, ha⟩ | q
  · obtain ⟨o, ho, m⟩ := s.mut ha
    rw [vw_in hi ha, ho] at e
    cases e
    exact m
  · rw [vw_out q] at e
    exact s.tb.nt a ps e

/-- a tuple -/
def TupO (o : HO) : Prop := ∃ xs, o = .tup xs
theorem TupO.mut {o : HO} (h : TupO o) (m : MutO o) : False := by
  obtain ⟨xs, rfl⟩ := h
  exact m
/-- from one state to a later one; the slots outside of m stand as they stood -/
structure Evo (m : List Nat) (env : Env) (H G : Hp) (F : Nat → List Addr) (env' : Env) (H' G' : Hp) (F' : Nat → List Addr) : Prop where
  g : Same G G'
  k : ∀ a o, H a = some o → (∀ i, a ∉ F i) → KO o (H' a)
  f : ∀ i a, a ∈ F' i → (∃ j, a ∈ F j) ∨ H a = none
  n : ∀ a o, G' a = some o → G a = some o ∨ H a = none ∨ (∃ j, a ∈ F j) ∨ (TupO o ∧ H a = some o)
  u : ∀ i, i ∉ m → env'[i]? = env[i]? ∧ F' i = F i ∧ ∀ a ∈ F i, H' a = H a
  l : env'.length = env.length
section
variable {m m' : List Nat} {env env' env'' : Env} {H G H' G' H'' G'' : Hp} {F F' F'' : Nat → List Addr}
theorem Evo.refl : Evo m env H G F env H G F := ⟨Same.refl G, fun _ _ e _ => .inl e, fun i a h => .inl ⟨i, h⟩, fun _ _ e => .inl e, fun _ _ => ⟨rfl, rfl, fun _ _ => rfl⟩, rfl⟩
theorem Evo.mono (h : Evo m env H G F env' H' G' F') (hm : ∀ i ∈ m, i ∈ m') : Evo m' env H G F env' H' G' F' := ⟨h.g, h.k, h.f, h.n, fun i hi => h.u i fun q => hi (hm i q), h.l⟩
theorem Evo.none_of (h : Evo m env H G F env' H' G' F') {a : Addr} (e : H' a = none) : H a = none ∨ ∃ j, a ∈ F j := by
  cases q : H a with
  | none => exact .inl rfl
  | some o =>
    refine .inr ?_
    by_cases z : ∃ j, a ∈ F j
    · exact z
    · obtain ⟨o', e'⟩ := (h.k a o q fun i hi => z ⟨i, hi⟩).any
      rw [e'] at e
      cases e
theorem Evo.trans (h : Evo m env H G F env' H' G' F') (k : Evo m' env' H' G' F' env'' H'' G'' F'') : Evo (m ++ m') env H G F env'' H'' G'' F'' where
  l := k.l.trans h.l
  g := h.g.trans k.g
  k := fun a o e q => by
    have nf : ∀ i, a ∉ F' i := fun i hi => by
      rcases h.f i a hi with ⟨j, hj⟩ | z
      · exact q j hj
      · rw [e] at z
        cases z
    rcases h.k a o e q with z | ⟨ps, ps', z1, z2⟩
    · exact k.k a o z nf
    · rcases k.k a _ z2 nf with z | ⟨ps2, ps3, z3, z4⟩
      · exact .inr ⟨ps, ps', z1, z⟩
      · exact .inr ⟨ps, ps3, z1, z4⟩
  f := fun i a ha => by
    rcases k.f i a ha with ⟨j, hj⟩ | z
    · exact h.f j a hj
    · rcases h.none_of z with z | ⟨j, hj⟩
      · exact .inr z
      · exact .inl ⟨j, hj⟩
  n := fun a o e => by
    rcases k.n a o e with z | z | ⟨j, hj⟩ | ⟨z, z2⟩
    · exact h.n a o z
    · rcases h.none_of z with z | z
      · exact .inr (.inl z)
      · exact .inr (.inr (.inl z))
    · rcases h.f j a hj with z | z
      · exact .inr (.inr (.inl z))
      · exact .inr (.inl z)
    · cases q : H a with
      | none => exact .inr (.inl rfl)
      | some u =>
        by_cases w : ∃ j, a ∈ F j
        · exact .inr (.inr (.inl w))
        · have kk := h.k a u q fun i hi => w ⟨i, hi⟩
          rw [z2] at kk
          rcases kk with kk | ⟨ps, ps', _, kk⟩
          · cases kk
            exact .inr (.inr (.inr ⟨z, rfl⟩))
          · cases kk
            obtain ⟨xs, z⟩ := z
            cases z
  u := fun i hi => by
    obtain ⟨e1, e2, e3⟩ := h.u i fun q => hi (List.mem_append_left _ q)
    obtain ⟨f1, f2, f3⟩ := k.u i fun q => hi (List.mem_append_right _ q)
    exact ⟨f1.trans e1, f2.trans e2, fun a ha => (f3 a (by rw [e2]; exact ha)).trans (e3 a ha)⟩
/-- what was read by way of the slots r, none of which has been touched, still reads so -/
theorem Evo.seen (h : Evo m env H G F env' H' G' F') {K : PySem.W.Frag} {σ' : L2.St} (s' : S K σ' H' G' env' F') {r r' : List Nat} (hd : ∀ i ∈ r, i ∉ m) (hr : ∀ i ∈ r, i ∈ r') : Same (vw r H G F) (vw r' H' G' F') := fun a o e => by
  rcases vw_cases r F a with ⟨i, hi, ha⟩ | q
  · rw [vw_in hi ha] at e
    obtain ⟨_, e2, e3⟩ := h.u i (hd i hi)
    rw [vw_in (hr i hi) (by rw [e2]; exact ha), e3 a ha]
    exact e
  · rw [vw_out q] at e
    exact s'.vwG r' a o (h.g a o e)
end

def dj (r m : List Nat) : Bool := r.all fun i => !m.contains i
theorem dj_iff {r m : List Nat} : dj r m = true ↔ ∀ i ∈ r, i ∉ m := by
  unfold dj
  simp
end HD
set_option Elab.async false
set_option linter.all false
set_option maxRecDepth 100000
set_option maxHeartbeats 2000000
set_option autoImplicit false
/-! HD1: expressions by their data. -/
namespace HD
open PySem PySem.Spec PyProof.Rows L2
variable [Tb]

/-- a heap grows: W is what is seen, H all -/
structure Grow (W H W' H' : Hp) : Prop where
  w : Same W W'
  h : Same H H'
  s : Same W' H'
  n : ∀ a o, W' a = some o → W a = some o ∨ H a = none
  t : ∀ a ps, W' a = some (.tbl ps) → W a = some (.tbl ps)
theorem Grow.refl {W H : Hp} (e : Same W H) : Grow W H W H := ⟨Same.refl _, Same.refl _, e, fun _ _ h => .inl h, fun _ _ h => h⟩
theorem same_new {H : Hp} {p : Addr} {o : HO} (h : H p = none) : Same H (upd H p o) := fun b x e => by
  rw [upd_ne (ne_of_none e h)]
  exact e
theorem Grow.new {W H : Hp} (e : Same W H) {p : Addr} {o : HO} (h : H p = none) (ht : ∀ ps, o ≠ .tbl ps := by intro ps z; cases z) : Grow W H (upd W p o) (upd H p o) := by
  refine ⟨same_new (e.free h), same_new h, fun a u q => ?_, fun a u q => ?_, fun a ps q => ?_⟩
  · by_cases z : a = p
    · subst z
      rw [upd_same] at q ⊢
      exact q
    · rw [upd_ne z] at q ⊢
      exact e a u q
  · by_cases z : a = p
    · subst z
      exact .inr h
    · rw [upd_ne z] at q
      exact .inl q
  · by_cases z : a = p
    · subst z
      rw [upd_same] at q
      exact absurd (Option.some.inj q) (ht ps)
    · rw [upd_ne z] at q
      exact q
theorem Grow.trans {W H W1 H1 W2 H2 : Hp} (a : Grow W H W1 H1) (b : Grow W1 H1 W2 H2) : Grow W H W2 H2 := by
  refine ⟨a.w.trans b.w, a.h.trans b.h, b.s, fun c o q => ?_, fun c ps q => a.t c ps (b.t c ps q)⟩
  rcases b.n c o q with z | z
  · exact a.n c o z
  · refine .inr ?_
    cases e : H c with
    | none => rfl
    | some u =>
      rw [a.h c u e] at z
      cases z

section
variable {K : PySem.W.Frag} {σ : L2.St} {H G H' W' : Hp} {env : Env} {F : Nat → List Addr} {r : List Nat}
/-- the frozen heap after a growth of what is seen -/
def grown (G H W' : Hp) : Hp := fun a => if (H a).isSome = true then G a else W' a
theorem grown_old {a : Addr} {o : HO} (h : H a = some o) : grown G H W' a = G a := by
  unfold grown
  rw [h]
  rfl
theorem grown_new {a : Addr} (h : H a = none) : grown G H W' a = W' a := by
  unfold grown
  rw [h]
  rfl
theorem S.grow (s : S K σ H G env F) (g : Grow (vw r H G F) H W' H') :
    S K σ H' (grown G H W') env F ∧ Evo [] env H G F env H' (grown G H W') F ∧ Same W' (vw r H' (grown G H W') F) := by
  have keep : ∀ i a, a ∈ F i → H' a = H a := fun i a ha => by
    obtain ⟨o, e, _⟩ := s.mut ha
    rw [e]
    exact g.h a o e
  have gg : Same G (grown G H W') := fun a o e => by
    rw [grown_old (s.same a o e)]
    exact e
  have gn : ∀ a o, grown G H W' a = some o → G a = some o ∨ H a = none := fun a o e => by
    cases q : H a with
    | none => exact .inr rfl
    | some u =>
      rw [grown_old q] at e
      exact .inl e
  refine ⟨⟨fun a o e => ?_, fun i d e => ?_, fun i n d e => ?_, s.emp, fun i a ha => ?_, s.apart, s.len, ⟨fun a ps e => ?_, s.tb.tabs.ext g.h⟩⟩, ⟨gg, fun a o e _ => .inl (g.h a o e), fun i a ha => .inl ⟨i, ha⟩, fun a o e => ?_, fun i _ => ⟨rfl, rfl, fun a ha => keep i a ha⟩, rfl⟩, fun a o e => ?_⟩
  · cases q : H a with
    | none =>
      rw [grown_new q] at e
      exact g.s a o e
    | some u =>
      rw [grown_old q] at e
      exact g.h a o (s.same a o e)
  · obtain ⟨v, e1, h⟩ := s.shr i d e
    exact ⟨v, e1, h.mono gg⟩
  · obtain ⟨v, e1, h⟩ := s.own i n d e
    exact ⟨v, e1, h.move gg fun a ha => keep i a ha⟩
  · obtain ⟨o, e, _⟩ := s.mut ha
    rw [grown_old e]
    exact s.free i a ha
  · cases q : H a with
    | none =>
      rw [grown_new q] at e
      exact s.vwnt r a ps (g.t a ps e)
    | some u =>
      rw [grown_old q] at e
      exact s.tb.nt a ps e
  · rcases gn a o e with z | z
    · exact .inl z
    · exact .inr (.inl z)
  · cases q : H a with
    | none =>
      rw [vw_out, grown_new q]
      · exact e
      · intro i _ ha
        obtain ⟨u, e2, _⟩ := s.mut ha
        rw [q] at e2
        cases e2
    | some u =>
      rcases g.n a o e with z | z
      · rcases vw_cases r F a with ⟨i, hi, ha⟩ | w
        · rw [vw_in hi ha] at z ⊢
          rw [keep i a ha]
          exact z
        · rw [vw_out w] at z ⊢
          rw [grown_old q]
          exact z
      · rw [q] at z
        cases z
end

/-! ### the readings -/
abbrev M (α : Type) := Env → Option (α × Env)
def tD (K : PySem.W.Frag) (m r : List Nat) (f : M D) : TE := fun σ H Q => ∃ G env F d env', S K σ H G env F ∧ f env = some (d, env') ∧
  ∀ v H' G' F', S K σ H' G' env' F' → Evo m env H G F env' H' G' F' → Rep K (vw r H' G' F') v d → Q v H'
def tDT (K : PySem.W.Frag) (m : List Nat) (f : M Bool) : TT := fun σ H Q => ∃ G env F b env', S K σ H G env F ∧ f env = some (b, env') ∧
  ∀ H' G' F', S K σ H' G' env' F' → Evo m env H G F env' H' G' F' → Q b H'
def tDA (K : PySem.W.Frag) (m r : List Nat) (f : M (List D)) : TA := fun σ H Q => ∃ G env F ds env', S K σ H G env F ∧ f env = some (ds, env') ∧
  ∀ vs H' G' F', S K σ H' G' env' F' → Evo m env H G F env' H' G' F' → Reps K (vw r H' G' F') vs ds → Q vs H'
def tDO (K : PySem.W.Frag) (m : List Nat) (f : M (Option Int)) : TO := fun σ H Q => ∃ G env F o env', S K σ H G env F ∧ f env = some (o, env') ∧
  ∀ H' G' F', S K σ H' G' env' F' → Evo m env H G F env' H' G' F' → Q o H'
abbrev DE (X : Cx) (m r : List Nat) (f : M D) (e : Expr) : Prop := PE X e (tD X.K m r f)
abbrev DT (X : Cx) (m : List Nat) (f : M Bool) (e : Expr) : Prop := PT X e (tDT X.K m f)
abbrev DW (X : Cx) (m : List Nat) (f : M Bool) (e : Expr) : Prop := PW X e (tDT X.K m f)
abbrev DA (X : Cx) (m r : List Nat) (f : M (List D)) (es : List Expr) : Prop := PA X es (tDA X.K m r f)
abbrev DO (X : Cx) (m : List Nat) (f : M (Option Int)) (e : Option Expr) : Prop := PO X e (tDO X.K m f)

section
variable {X : Cx} {e : Expr}
theorem pe_weak {t t' : TE} (h : PE X e t) (w : ∀ σ H Q, t' σ H Q → t σ H Q) : PE X e t' := ⟨fun pins s σ H Q I q => h.run pins s σ H Q I (w σ H Q q)⟩
theorem pt_weak {t t' : TT} (h : PT X e t) (w : ∀ σ H Q, t' σ H Q → t σ H Q) : PT X e t' := ⟨fun pins s σ H Q I q => h.run pins s σ H Q I (w σ H Q q)⟩
theorem pw_weak {t t' : TT} (h : PW X e t) (w : ∀ σ H Q, t' σ H Q → t σ H Q) : PW X e t' := ⟨fun wh pins s σ H Q I q => h.run wh pins s σ H Q I (w σ H Q q)⟩
theorem pa_weak {es : List Expr} {t t' : TA} (h : PA X es t) (w : ∀ σ H Q, t' σ H Q → t σ H Q) : PA X es t' := ⟨fun pos pins s σ H Q I q => h.run pos pins s σ H Q I (w σ H Q q)⟩
theorem po_weak {o : Option Expr} {t t' : TO} (h : PO X o t) (w : ∀ σ H Q, t' σ H Q → t σ H Q) : PO X o t' := ⟨fun pins s σ H Q I q => h.run pins s σ H Q I (w σ H Q q)⟩
theorem de_mono {m m' r r' : List Nat} {f : M D} (h : DE X m r f e) (hm : ∀ i ∈ m, i ∈ m') (hr : ∀ i ∈ r, i ∈ r') : DE X m' r' f e := pe_weak h fun σ H Q ⟨G, env, F, d, env', s, hf, q⟩ =>
  ⟨G, env, F, d, env', s, hf, fun v H' G' F' s' ev rp => q v H' G' F' s' (ev.mono hm) (rp.mono (s'.vwSub hr))⟩
end

/-! ### combinators -/
def cst (d : D) : M D := fun env => some (d, env)
def nm (i : Nat) : M D := fun env => match env[i]? with
  | some (.shr d) => some (d, env)
  | some (.own _ d) => some (d, env)
  | _ => none
/-- two in a row; st: the first stands whatever the second does -/
def bin (st : Bool) (f1 f2 : M D) (g : D → D → Option D) : M D := fun env => (f1 env).bind fun p => (f2 p.2).bind fun q => if (st || p.1.im) = true then (g p.1 q.1).map fun d => (d, q.2) else none
def una (f : M D) (g : D → Option D) : M D := fun env => (f env).bind fun p => (g p.1).map fun d => (d, p.2)
def args0 : M (List D) := fun env => some ([], env)
def argsC (st : Bool) (f : M D) (g : M (List D)) : M (List D) := fun env => (f env).bind fun p => (g p.2).bind fun q => if (st || p.1.im) = true then some (p.1 :: q.1, q.2) else none
def app (f : M (List D)) (g : List D → Option D) : M D := fun env => (f env).bind fun p => (g p.1).map fun d => (d, p.2)

theorem bin_some {st : Bool} {f1 f2 : M D} {g : D → D → Option D} {env env' : Env} {d : D} (h : bin st f1 f2 g env = some (d, env')) :
    ∃ x e1 y, f1 env = some (x, e1) ∧ f2 e1 = some (y, env') ∧ (st || x.im) = true ∧ g x y = some d := by
  unfold bin at h
  cases h1 : f1 env with
  | none => simp [h1] at h
  | some p =>
    obtain ⟨x, e1⟩ := p
    cases h2 : f2 e1 with
    | none => simp [h1, h2] at h
    | some q =>
      obtain ⟨y, e2⟩ := q
      simp only [h1, h2, Option.bind_some] at h
      by_cases c : (st || x.im) = true
      · rw [if_pos c] at h
        cases h3 : g x y with
        | none => simp [h3] at h
        | some z =>
          simp [h3] at h
          obtain ⟨rfl, rfl⟩ := h
          exact ⟨x, e1, y, rfl, h2, c, h3⟩
      · rw [if_neg c] at h
        cases h
theorem una_some {f : M D} {g : D → Option D} {env env' : Env} {d : D} (h : una f g env = some (d, env')) : ∃ x, f env = some (x, env') ∧ g x = some d := by
  unfold una at h
  cases h1 : f env with
  | none => simp [h1] at h
  | some p =>
    obtain ⟨x, e1⟩ := p
    cases h3 : g x with
    | none => simp [h1, h3] at h
    | some z =>
      simp [h1, h3] at h
      obtain ⟨rfl, rfl⟩ := h
      exact ⟨x, rfl, h3⟩
theorem app_some {f : M (List D)} {g : List D → Option D} {env env' : Env} {d : D} (h : app f g env = some (d, env')) : ∃ x, f env = some (x, env') ∧ g x = some d := by
  unfold app at h
  cases h1 : f env with
  | none => simp [h1] at h
  | some p =>
    obtain ⟨x, e1⟩ := p
    cases h3 : g x with
    | none => simp [h1, h3] at h
    | some z =>
      simp [h1, h3] at h
      obtain ⟨rfl, rfl⟩ := h
      exact ⟨x, rfl, h3⟩
theorem argsC_some {st : Bool} {f : M D} {g : M (List D)} {env env' : Env} {ds : List D} (h : argsC st f g env = some (ds, env')) :
    ∃ x e1 xs, f env = some (x, e1) ∧ g e1 = some (xs, env') ∧ (st || x.im) = true ∧ ds = x :: xs := by
  unfold argsC at h
  cases h1 : f env with
  | none => simp [h1] at h
  | some p =>
    obtain ⟨x, e1⟩ := p
    cases h2 : g e1 with
    | none => simp [h1, h2] at h
    | some q =>
      obtain ⟨y, e2⟩ := q
      simp only [h1, h2, Option.bind_some] at h
      by_cases c : (st || x.im) = true
      · rw [if_pos c] at h
        simp at h
        obtain ⟨rfl, rfl⟩ := h
        exact ⟨x, e1, y, rfl, h2, c, rfl⟩
      · rw [if_neg c] at h
        cases h

/-- what stood seen stands seen -/
theorem keepRep {K : PySem.W.Frag} {m r1 r2 : List Nat} {env env' : Env} {H G H' G' : Hp} {F F' : Nat → List Addr} {σ σ' : L2.St} {v : V} {d : D} (s : S K σ H G env F) (s' : S K σ' H' G' env' F') (ev : Evo m env H G F env' H' G' F')
    (h : Rep K (vw r1 H G F) v d) (c : (dj r1 m || d.im) = true) (hr : ∀ i ∈ r1, i ∈ r2) : Rep K (vw r2 H' G' F') v d := by
  rw [Bool.or_eq_true] at c
  rcases c with c | c
  · exact h.mono (ev.seen s' (dj_iff.mp c) hr)
  · exact ((s.im h c).mono ev.g).mono (s'.vwG r2)

/-! ### operations by data -/
def rD2 (K : PySem.W.Frag) (g : D → D → Option D) : R2 := fun x y H Q => ∃ W d1 d2 d, Same W H ∧ Rep K W x d1 ∧ Rep K W y d2 ∧ g d1 d2 = some d ∧ ∀ v H' W', Grow W H W' H' → Rep K W' v d → Q v H'
def rD1 (K : PySem.W.Frag) (g : D → Option D) : V → Hp → VK → Prop := fun x H Q => ∃ W d1 d, Same W H ∧ Rep K W x d1 ∧ g d1 = some d ∧ ∀ v H' W', Grow W H W' H' → Rep K W' v d → Q v H'
def rDN (K : PySem.W.Frag) (g : List D → Option D) : List V → Hp → VK → Prop := fun vs H Q => ∃ W ds d, Same W H ∧ Reps K W vs ds ∧ g ds = some d ∧ ∀ v H' W', Grow W H W' H' → Rep K W' v d → Q v H'

section
variable {X : Cx} {a b e : Expr} {es : List Expr} {pos : Pos} {m1 m2 r1 r2 m r : List Nat} {f1 f2 f : M D} {g : D → D → Option D}
/-- the reading of two operands and an operation -/
theorem tD_bin {σ : L2.St} {H : Hp} {Q : VK} (h : tD X.K (m1 ++ m2) (r1 ++ r2) (bin (dj r1 m2) f1 f2 g) σ H Q) : tOp (rD2 X.K g) (tD X.K m1 r1 f1) (tD X.K m2 r2 f2) σ H Q := by
  obtain ⟨G, env, F, d, env', s, hf, q⟩ := h
  obtain ⟨x, e1, y, h1, h2, c, hg⟩ := bin_some hf
  refine ⟨G, env, F, x, e1, s, h1, fun v H1 G1 F1 s1 ev1 rp1 => ⟨G1, e1, F1, y, env', s1, h2, fun w H2 G2 F2 s2 ev2 rp2 => ?_⟩⟩
  refine ⟨vw (r1 ++ r2) H2 G2 F2, x, y, d, s2.vwH _, keepRep s1 s2 ev2 rp1 c fun i hi => List.mem_append_left _ hi, rp2.mono (s2.vwSub fun i hi => List.mem_append_right _ hi), hg, fun z H' W' gr rz => ?_⟩
  obtain ⟨s3, ev3, sm⟩ := s2.grow gr
  exact q z H' _ F2 s3 (((ev1.trans ev2).trans ev3).mono fun i hi => by simpa using hi) (rz.mono sm)
theorem de_op {op : Operator} (ho : OpR X (binaryOp op) (rD2 X.K g)) (ha : DE X m1 r1 f1 a) (hb : DE X m2 r2 f2 b) : DE X (m1 ++ m2) (r1 ++ r2) (bin (dj r1 m2) f1 f2 g) (.BinOp a op b pos) :=
  pe_weak (pe_op ho ha hb) fun _ _ _ h => tD_bin h
theorem de_cmp {op : CmpOp} (ho : OpR X (compareOp op) (rD2 X.K g)) (ha : DE X m1 r1 f1 a) (hb : DE X m2 r2 f2 b) (hm : behindInMarks op b = false) : DE X (m1 ++ m2) (r1 ++ r2) (bin (dj r1 m2) f1 f2 g) (.Compare a [op] [b] pos) :=
  pe_weak (pe_cmpR ho ha hb hm) fun _ _ _ h => tD_bin h
theorem de_ix (ho : IxR X (rD2 X.K g)) (ha : DE X m1 r1 f1 a) (hb : DE X m2 r2 f2 b) (hs : PlainIx b) : DE X (m1 ++ m2) (r1 ++ r2) (bin (dj r1 m2) f1 f2 g) (.Subscript a b pos) :=
  pe_weak (pe_ix ho ha hb hs) fun _ _ _ h => tD_bin h
/-- a result that nothing can change needs no slot -/
theorem de_im (h : DE X m r f e) (hi : ∀ env d env', f env = some (d, env') → d.im = true) : DE X m [] f e := pe_weak h fun σ H Q ⟨G, env, F, d, env', s, hf, q⟩ =>
  ⟨G, env, F, d, env', s, hf, fun v H' G' F' s' ev rp => q v H' G' F' s' ev (by rw [vw_nil]; exact s'.im rp (hi _ _ _ hf))⟩
def asB : D → Option Bool
  | .bl b => some b
  | _ => none
def tst (f : M D) : M Bool := fun env => (f env).bind fun p => (asB p.1).map fun b => (b, p.2)
theorem tst_some {f : M D} {env env' : Env} {b : Bool} (h : tst f env = some (b, env')) : f env = some (.bl b, env') := by
  unfold tst at h
  cases h1 : f env with
  | none => simp [h1] at h
  | some p =>
    obtain ⟨x, e1⟩ := p
    cases x <;> simp [h1, asB] at h
    obtain ⟨rfl, rfl⟩ := h
    rfl
theorem tD_tst {σ : L2.St} {H : Hp} {Q : Bool → Hp → Prop} (h : tDT X.K m (tst f) σ H Q) : tTest (tD X.K m r f) σ H Q := by
  obtain ⟨G, env, F, b, env', s, hf, q⟩ := h
  refine ⟨G, env, F, .bl b, env', s, tst_some hf, fun v H' G' F' s' ev rp => ?_⟩
  cases rp
  exact ⟨b, rfl, q H' G' F' s' ev⟩
theorem dt_cmp {op : CmpOp} (ho : OpR X (compareOp op) (rD2 X.K g)) (ha : DE X m1 r1 f1 a) (hb : DE X m2 r2 f2 b) (hm : behindInMarks op b = false) : DT X (m1 ++ m2) (tst (bin (dj r1 m2) f1 f2 g)) (.Compare a [op] [b] pos) := by
  refine pt_weak (pt_cmpR ho ha hb hm) fun σ H Q h => ?_
  have h2 := tD_tst (r := r1 ++ r2) h
  exact tD_bin h2
theorem dt_val (h : DE X m r f e) (he : ∀ whole, isTrue e X.env whole = (do let v ← whole; standAt e.pos; holding [v] (truthy v)) := by intro _; rfl) : DT X m (tst f) e :=
  pt_weak (pt_val h he) fun σ H Q q => tD_tst q
theorem de_const {d : D} {v : V} (h : PE X e (tC v)) (hr : ∀ K G, Rep K G v d) : DE X [] [] (cst d) e := pe_weak h fun σ H Q ⟨G, env, F, d', env', s, hf, q⟩ => by
  simp only [cst, Option.some.injEq, Prod.mk.injEq] at hf
  obtain ⟨rfl, rfl⟩ := hf
  exact q v H G F s Evo.refl (hr _ _)
theorem de_int {i : Int} {j} : DE X [] [] (cst (.int i)) (.Constant (.int i) j pos) := de_const pe_int fun _ _ => .int i
theorem de_bl {b : Bool} {j} : DE X [] [] (cst (.bl b)) (.Constant (.bool b) j pos) := de_const pe_bl fun _ _ => .bl b
theorem de_non {j} : DE X [] [] (cst .non) (.Constant .none j pos) := de_const pe_non fun _ _ => .non
theorem de_str {x : Str} {j} : DE X [] [] (cst (.str x)) (.Constant (.str x) j pos) := de_const pe_str fun _ _ => .str x
theorem de_nm (i : Nat) {x : Str} (hN : X.N[i]? = some x := by rfl) (hv : Vis X.env.scope x := by first | exact Or.inl rfl | exact Or.inr (Or.inl rfl) | exact Or.inr (Or.inr rfl)) (hd : (x == ("__debug__" : Str)) = false := by decide)
    (hcd : (x == ("__classdict__" : Str)) = false := by decide) : DE X [] [i] (nm i) (.Name x pos) := pe_weak (pe_var hN hv hd hcd) fun σ H Q ⟨G, env, F, d, env', s, hf, q⟩ => by
  unfold nm at hf
  split at hf
  · rename_i d' e1
    simp only [Option.some.injEq, Prod.mk.injEq] at hf
    obtain ⟨rfl, rfl⟩ := hf
    obtain ⟨v, h1, h2⟩ := s.shr i _ e1
    exact ⟨v, h1, q v H G F s Evo.refl (h2.mono (s.vwG _))⟩
  · rename_i n d' e1
    simp only [Option.some.injEq, Prod.mk.injEq] at hf
    obtain ⟨rfl, rfl⟩ := hf
    obtain ⟨v, h1, h2⟩ := s.own i n _ e1
    exact ⟨v, h1, q v H G F s Evo.refl (h2.rep (s.vwG _) fun a ha => vw_in List.mem_cons_self ha)⟩
  · cases hf
/-! ### argument lists -/
theorem da_nil : DA X [] [] args0 [] := pa_weak pa_nil fun σ H Q ⟨G, env, F, ds, env', s, hf, q⟩ => by
  simp only [args0, Option.some.injEq, Prod.mk.injEq] at hf
  obtain ⟨rfl, rfl⟩ := hf
  exact q [] H G F s Evo.refl .nil
theorem da_cons {fs : M (List D)} (ha : DE X m1 r1 f1 e) (hb : DA X m2 r2 fs es) (hs : starEach (e :: es) X.env = (false, eval e X.env) :: starEach es X.env := by rfl) : DA X (m1 ++ m2) (r1 ++ r2) (argsC (dj r1 m2) f1 fs) (e :: es) := by
  refine pa_weak (pa_cons ha hb hs) fun σ H Q ⟨G, env, F, ds, env', s, hf, q⟩ => ?_
  obtain ⟨x, e1, xs, h1, h2, c, rfl⟩ := argsC_some hf
  refine ⟨G, env, F, x, e1, s, h1, fun v H1 G1 F1 s1 ev1 rp1 => ⟨G1, e1, F1, xs, env', s1, h2, fun ws H2 G2 F2 s2 ev2 rp2 => ?_⟩⟩
  exact q _ H2 G2 F2 s2 (ev1.trans ev2) (.cons (keepRep s1 s2 ev2 rp1 c fun i hi => List.mem_append_left _ hi) (rp2.mono (s2.vwSub fun i hi => List.mem_append_right _ hi)))
/-- an argument list, then something that makes a value of it -/
theorem tDA_app {fs : M (List D)} {gn : List D → Option D} {σ : L2.St} {H : Hp} {Q : VK} (h : tD X.K m r (app fs gn) σ H Q) : tDA X.K m r fs σ H fun vs H1 => rDN X.K gn vs H1 Q := by
  obtain ⟨G, env, F, d, env', s, hf, q⟩ := h
  obtain ⟨xs, h1, h2⟩ := app_some hf
  refine ⟨G, env, F, xs, env', s, h1, fun vs H1 G1 F1 s1 ev1 rp1 => ⟨vw r H1 G1 F1, xs, d, s1.vwH _, rp1, h2, fun v H2 W2 gr rz => ?_⟩⟩
  obtain ⟨s3, ev3, sm⟩ := s1.grow gr
  exact q v H2 _ F1 s3 ((ev1.trans ev3).mono fun i hi => by simpa using hi) (rz.mono sm)
def tupD (ds : List D) : Option D := if ds.length ≤ 16777216 then some (.tup ds) else none
def lstD (ds : List D) : Option D := if ds.length ≤ 16777216 then some (.lst ds) else none
theorem de_tup {fs : M (List D)} {x1} (h : DA X m r fs es) : DE X m r (app fs tupD) (.Tuple es x1 pos) := pe_weak (pe_tup h) fun σ H Q q => by
  obtain ⟨G, env, F, ds, env', s, hf, k⟩ := tDA_app q
  refine ⟨G, env, F, ds, env', s, hf, fun vs H1 G1 F1 s1 ev1 rp1 => ?_⟩
  obtain ⟨W, ds', d, sm, rp, hg, q⟩ := k vs H1 G1 F1 s1 ev1 rp1
  unfold tupD at hg
  split at hg
  · rename_i hz
    cases hg
    refine ⟨by rw [rp.length, sizeLine_eq]; exact hz, fun p hp => q _ _ _ (Grow.new sm (o := .tup vs) hp) (.tup upd_same (rp.mono (same_new (sm.free hp))))⟩
  · cases hg
/-- a call of a built-in function, of a built-in type -/
theorem de_callB {fs : M (List D)} {gn : List D → Option D} {x : Str} {p : Pos} {id : String} (hc : CallR X (.builtin id) (rDN X.K gn)) (hg : Gl X x) (hm : X.mg x = none) (hv : bootBuiltins x = some (.builtin id)) (ha : DA X m r fs (e :: es)) (hn : x ≠ "__name__" := by decide)
    (hdb : (x == ("__debug__" : Str)) = false := by decide) (he : starEach (e :: es) X.env = (false, eval e X.env) :: starEach es X.env := by rfl) (hpl : (backTo pos (starEach es X.env)).any (·.1) = false := by rfl) : DE X m r (app fs gn) (.Call (.Name x p) (e :: es) [] pos) :=
  pe_weak (pe_callB hc hg hm hv ha hn hdb he hpl) fun σ H Q q => tDA_app q
theorem de_callTy {fs : M (List D)} {gn : List D → Option D} {x : Str} {p : Pos} {T : String} (hc : CallR X (.type T) (rDN X.K gn)) (hg : Gl X x) (hm : X.mg x = none) (hv : bootBuiltins x = some (.type T)) (ha : DA X m r fs (e :: es)) (hn : x ≠ "__name__" := by decide)
    (hdb : (x == ("__debug__" : Str)) = false := by decide) (he : starEach (e :: es) X.env = (false, eval e X.env) :: starEach es X.env := by rfl) (hpl : (backTo pos (starEach es X.env)).any (·.1) = false := by rfl) : DE X m r (app fs gn) (.Call (.Name x p) (e :: es) [] pos) :=
  pe_weak (pe_callTy hc hg hm hv ha hn hdb he hpl) fun σ H Q q => tDA_app q
/-- an operator upon one value -/
theorem de_un {op : UnaryOp} {g1 : D → Option D} (ho : UnR X (unaryOp op) (rD1 X.K g1)) (ha : DE X m r f a) : DE X m r (una f g1) (.UnaryOp op a pos) := pe_weak (pe_un ho ha) fun σ H Q ⟨G, env, F, d, env', s, hf, q⟩ => by
  obtain ⟨x, h1, h2⟩ := una_some hf
  refine ⟨G, env, F, x, env', s, h1, fun v H1 G1 F1 s1 ev1 rp1 => ⟨vw r H1 G1 F1, x, d, s1.vwH _, rp1, h2, fun w H2 W2 gr rz => ?_⟩⟩
  obtain ⟨s3, ev3, sm⟩ := s1.grow gr
  exact q w H2 _ F1 s3 ((ev1.trans ev3).mono fun i hi => by simpa using hi) (rz.mono sm)
/-! ### tests -/
def andB (f1 f2 : M Bool) : M Bool := fun env => (f1 env).bind fun p => if p.1 = true then f2 p.2 else some (false, p.2)
def orB (f1 f2 : M Bool) : M Bool := fun env => (f1 env).bind fun p => if p.1 = true then some (true, p.2) else f2 p.2
def notB (f1 : M Bool) : M Bool := fun env => (f1 env).map fun p => (!p.1, p.2)
omit [Tb] in
theorem bind_some' {α β : Type} {x : Option α} {h : α → Option β} {b : β} (e : x.bind h = some b) : ∃ a, x = some a ∧ h a = some b := by
  cases x with
  | none => cases e
  | some a => exact ⟨a, rfl, e⟩
omit [Tb] in
theorem map_some' {α β : Type} {x : Option α} {h : α → β} {b : β} (e : x.map h = some b) : ∃ a, x = some a ∧ h a = b := by
  cases x with
  | none => cases e
  | some a => exact ⟨a, rfl, by simpa using e⟩
theorem tDT_and {b1 b2 : M Bool} {σ : L2.St} {H : Hp} {Q : Bool → Hp → Prop} (h : tDT X.K (m1 ++ m2) (andB b1 b2) σ H Q) : tAnd (tDT X.K m1 b1) (tDT X.K m2 b2) σ H Q := by
  obtain ⟨G, env, F, b, env', s, hf, q⟩ := h
  obtain ⟨⟨c, e1⟩, h1, h2⟩ := bind_some' hf
  refine ⟨G, env, F, c, e1, s, h1, fun H1 G1 F1 s1 ev1 => ?_⟩
  cases c with
  | true =>
    rw [if_pos rfl]
    exact ⟨G1, e1, F1, b, env', s1, h2, fun H2 G2 F2 s2 ev2 => q H2 G2 F2 s2 (ev1.trans ev2)⟩
  | false =>
    rw [if_neg Bool.false_ne_true]
    simp at h2
    obtain ⟨rfl, rfl⟩ := h2
    exact q H1 G1 F1 s1 (ev1.mono fun i hi => List.mem_append_left _ hi)
theorem tDT_or {b1 b2 : M Bool} {σ : L2.St} {H : Hp} {Q : Bool → Hp → Prop} (h : tDT X.K (m1 ++ m2) (orB b1 b2) σ H Q) : tOr (tDT X.K m1 b1) (tDT X.K m2 b2) σ H Q := by
  obtain ⟨G, env, F, b, env', s, hf, q⟩ := h
  obtain ⟨⟨c, e1⟩, h1, h2⟩ := bind_some' hf
  refine ⟨G, env, F, c, e1, s, h1, fun H1 G1 F1 s1 ev1 => ?_⟩
  cases c with
  | true =>
    rw [if_pos rfl]
    simp at h2
    obtain ⟨rfl, rfl⟩ := h2
    exact q H1 G1 F1 s1 (ev1.mono fun i hi => List.mem_append_left _ hi)
  | false =>
    rw [if_neg Bool.false_ne_true]
    exact ⟨G1, e1, F1, b, env', s1, h2, fun H2 G2 F2 s2 ev2 => q H2 G2 F2 s2 (ev1.trans ev2)⟩
theorem dw_and1 {b1 : M Bool} (ha : DT X m1 b1 a) : DW X m1 b1 (.BoolOp .And [a] pos) := pw_and1 ha
theorem dw_or1 {b1 : M Bool} (ha : DT X m1 b1 a) : DW X m1 b1 (.BoolOp .Or [a] pos) := pw_or1 ha
theorem dw_and {b1 b2 : M Bool} {rest : List Expr} (ha : DT X m1 b1 a) (hb : DW X m2 b2 (.BoolOp .And (b :: rest) pos)) : DW X (m1 ++ m2) (andB b1 b2) (.BoolOp .And (a :: b :: rest) pos) := pw_weak (pw_and ha hb) fun _ _ _ h => tDT_and h
theorem dw_or {b1 b2 : M Bool} {rest : List Expr} (ha : DT X m1 b1 a) (hb : DW X m2 b2 (.BoolOp .Or (b :: rest) pos)) : DW X (m1 ++ m2) (orB b1 b2) (.BoolOp .Or (a :: b :: rest) pos) := pw_weak (pw_or ha hb) fun _ _ _ h => tDT_or h
theorem dt_bo {b1 : M Bool} (h : DW X m b1 e) : DT X m b1 e := h.pt
theorem dt_not {b1 : M Bool} (ha : DT X m b1 a) : DT X m (notB b1) (.UnaryOp .Not a pos) := pt_weak (pt_not ha) fun σ H Q ⟨G, env, F, b, env', s, hf, q⟩ => by
  obtain ⟨⟨c, e1⟩, h1, h2⟩ := map_some' hf
  simp at h2
  obtain ⟨rfl, rfl⟩ := h2
  exact ⟨G, env, F, _, e1, s, h1, fun H1 G1 F1 s1 ev1 => by simpa using q H1 G1 F1 s1 ev1⟩
/-! ### and, or, not as values (bools), the conditional expression -/
def andV (f1 f2 : M D) : M D := fun env => (f1 env).bind fun p => (asB p.1).bind fun c => if c = true then f2 p.2 else some (.bl false, p.2)
def orV (f1 f2 : M D) : M D := fun env => (f1 env).bind fun p => (asB p.1).bind fun c => if c = true then some (.bl true, p.2) else f2 p.2
def notD : D → Option D
  | .bl b => some (.bl (!b))
  | _ => none
omit [Tb] in
theorem asB_some {d : D} {b : Bool} (h : asB d = some b) : d = .bl b := by
  cases d <;> simp [asB] at h
  subst h
  rfl
theorem de_one {op} (h : DE X m r f a) : DE X m r f (.BoolOp op [a] pos) := pe_one h
theorem de_and {rest : List Expr} (ha : DE X m1 r1 f1 a) (hb : DE X m2 r2 f2 (.BoolOp .And (b :: rest) pos)) : DE X (m1 ++ m2) r2 (andV f1 f2) (.BoolOp .And (a :: b :: rest) pos) := pe_weak (pe_and ha hb) fun σ H Q ⟨G, env, F, d, env', s, hf, q⟩ => by
  obtain ⟨⟨x, e1⟩, h1, h2⟩ := bind_some' hf
  obtain ⟨c, h3, h4⟩ := bind_some' h2
  cases asB_some h3
  refine ⟨G, env, F, .bl c, e1, s, h1, fun v H1 G1 F1 s1 ev1 rp1 => ?_⟩
  cases rp1
  refine ⟨c, rfl, ?_⟩
  cases c with
  | true =>
    rw [if_pos rfl] at h4 ⊢
    exact ⟨G1, e1, F1, d, env', s1, h4, fun w H2 G2 F2 s2 ev2 rp2 => q w H2 G2 F2 s2 (ev1.trans ev2) rp2⟩
  | false =>
    rw [if_neg Bool.false_ne_true] at h4 ⊢
    simp at h4
    obtain ⟨rfl, rfl⟩ := h4
    exact q _ H1 G1 F1 s1 (ev1.mono fun i hi => List.mem_append_left _ hi) (.bl false)
theorem de_or {rest : List Expr} (ha : DE X m1 r1 f1 a) (hb : DE X m2 r2 f2 (.BoolOp .Or (b :: rest) pos)) : DE X (m1 ++ m2) r2 (orV f1 f2) (.BoolOp .Or (a :: b :: rest) pos) := pe_weak (pe_or ha hb) fun σ H Q ⟨G, env, F, d, env', s, hf, q⟩ => by
  obtain ⟨⟨x, e1⟩, h1, h2⟩ := bind_some' hf
  obtain ⟨c, h3, h4⟩ := bind_some' h2
  cases asB_some h3
  refine ⟨G, env, F, .bl c, e1, s, h1, fun v H1 G1 F1 s1 ev1 rp1 => ?_⟩
  cases rp1
  refine ⟨c, rfl, ?_⟩
  cases c with
  | true =>
    rw [if_pos rfl] at h4 ⊢
    simp at h4
    obtain ⟨rfl, rfl⟩ := h4
    exact q _ H1 G1 F1 s1 (ev1.mono fun i hi => List.mem_append_left _ hi) (.bl true)
  | false =>
    rw [if_neg Bool.false_ne_true] at h4 ⊢
    exact ⟨G1, e1, F1, d, env', s1, h4, fun w H2 G2 F2 s2 ev2 rp2 => q w H2 G2 F2 s2 (ev1.trans ev2) rp2⟩
theorem de_not (ha : DE X m r f a) : DE X m [] (una f notD) (.UnaryOp .Not a pos) := pe_weak (pe_not ha) fun σ H Q ⟨G, env, F, d, env', s, hf, q⟩ => by
  obtain ⟨x, h1, h2⟩ := una_some hf
  cases x <;> simp [notD] at h2
  subst h2
  refine ⟨G, env, F, _, env', s, h1, fun v H1 G1 F1 s1 ev1 rp1 => ?_⟩
  cases rp1
  exact ⟨_, rfl, q _ H1 G1 F1 s1 ev1 (.bl _)⟩
def iteM {α : Type} (c : M Bool) (f1 f2 : M α) : M α := fun env => (c env).bind fun p => if p.1 = true then f1 p.2 else f2 p.2
theorem de_ifE {c : Expr} {fc : M Bool} (hc : DT X m fc c) (ha : DE X m1 r1 f1 a) (hb : DE X m2 r2 f2 b) : DE X (m ++ (m1 ++ m2)) (r1 ++ r2) (iteM fc f1 f2) (.IfExp c a b pos) := pe_weak (pe_ifExp hc ha hb) fun σ H Q ⟨G, env, F, d, env', s, hf, q⟩ => by
  obtain ⟨⟨k, e1⟩, h1, h2⟩ := bind_some' hf
  refine ⟨G, env, F, k, e1, s, h1, fun H1 G1 F1 s1 ev1 => ?_⟩
  cases k with
  | true =>
    rw [if_pos rfl] at h2 ⊢
    exact ⟨G1, e1, F1, d, env', s1, h2, fun w H2 G2 F2 s2 ev2 rp2 => q w H2 G2 F2 s2 (ev1.trans (ev2.mono fun i hi => List.mem_append_left _ hi)) (rp2.mono (s2.vwSub fun i hi => List.mem_append_left _ hi))⟩
  | false =>
    rw [if_neg Bool.false_ne_true] at h2 ⊢
    exact ⟨G1, e1, F1, d, env', s1, h2, fun w H2 G2 F2 s2 ev2 rp2 => q w H2 G2 F2 s2 (ev1.trans (ev2.mono fun i hi => List.mem_append_right _ hi)) (rp2.mono (s2.vwSub fun i hi => List.mem_append_right _ hi))⟩
/-! ### slices -/
def prt0 : M (Option Int) := fun env => some (none, env)
def asI : D → Option Int
  | .int i => some i
  | _ => none
def prt (f : M D) : M (Option Int) := fun env => (f env).bind fun p => (asI p.1).map fun i => (some i, p.2)
omit [Tb] in
theorem asI_some {d : D} {b : Int} (h : asI d = some b) : d = .int b := by
  cases d <;> simp [asI] at h
  subst h
  rfl
theorem do_none : DO X [] prt0 none := po_weak po_none fun σ H Q ⟨G, env, F, o, env', s, hf, q⟩ => by
  simp only [prt0, Option.some.injEq, Prod.mk.injEq] at hf
  obtain ⟨rfl, rfl⟩ := hf
  exact q H G F s Evo.refl
theorem do_some (h : DE X m r f e) : DO X m (prt f) (some e) := po_weak (po_some h) fun σ H Q ⟨G, env, F, o, env', s, hf, q⟩ => by
  obtain ⟨⟨x, e1⟩, h1, h2⟩ := bind_some' hf
  obtain ⟨i, h3, h4⟩ := map_some' h2
  simp at h4
  obtain ⟨rfl, rfl⟩ := h4
  cases asI_some h3
  refine ⟨G, env, F, _, e1, s, h1, fun v H1 G1 F1 s1 ev1 rp1 => ?_⟩
  cases rp1
  exact ⟨i, rfl, q H1 G1 F1 s1 ev1⟩
def cutD (xs : List D) (lo hi : Option Int) : List D := (xs.drop (HT.sIx xs.length 0 lo)).take (HT.sIx xs.length xs.length hi - HT.sIx xs.length 0 lo)
def slcD : D → Option Int → Option Int → Option D
  | .tup xs, lo, hi => some (.tup (cutD xs lo hi))
  | .lst xs, lo, hi => some (.lst (cutD xs lo hi))
  | .scr ns, lo, hi => some (.lst (cutD (ns.map D.int) lo hi))
  | _, _, _ => none
theorem reps_scr {K : PySem.W.Frag} {W : Hp} : ∀ is : List Int, Reps K W (is.map V.int) (is.map D.int)
  | [] => .nil
  | i :: is => .cons (.int i) (reps_scr is)
def slc (st : Bool) (f : M D) (fl fh : M (Option Int)) : M D := fun env => (f env).bind fun p => (fl p.2).bind fun q => (fh q.2).bind fun z => if (st || p.1.im) = true then (slcD p.1 q.1 z.1).map fun d => (d, z.2) else none
theorem Reps.cut {K : PySem.W.Frag} {G : Hp} {vs : List V} {ds : List D} (h : Reps K G vs ds) (lo hi : Option Int) : Reps K G (cutV vs lo hi) (cutD ds lo hi) := by
  unfold cutV cutD
  rw [h.length]
  exact (h.drop _).take _
theorem cutD_whole {xs : List D} {lo hi : Option Int} (h1 : HT.sIx xs.length 0 lo = 0) (h2 : HT.sIx xs.length xs.length hi = xs.length) : cutD xs lo hi = xs := by
  unfold cutD
  rw [h1, h2]
  simp
theorem de_slice {lo hi : Option Expr} {ml mh : List Nat} {fl fh : M (Option Int)} {p2 : Pos} (he : DE X m r f e) (hl : DO X ml fl lo) (hh : DO X mh fh hi) :
    DE X (m ++ (ml ++ mh)) r (slc (dj r (ml ++ mh)) f fl fh) (.Subscript e (.Slice lo hi none p2) pos) := by
  refine pe_weak (pe_slice (SlR.or sl_list sl_tupA) he hl hh) fun σ H Q ⟨G, env, F, d, env', s, hf, q⟩ => ?_
  obtain ⟨⟨x, e1⟩, h1, h2⟩ := bind_some' hf
  obtain ⟨⟨l, e2⟩, h3, h4⟩ := bind_some' h2
  obtain ⟨⟨u, e3⟩, h5, h6⟩ := bind_some' h4
  have c : (dj r (ml ++ mh) || x.im) = true := by
    cases hc : (dj r (ml ++ mh) || x.im) with
    | true => rfl
    | false => simp [hc] at h6
  simp only [] at h6
  rw [if_pos c] at h6
  obtain ⟨d', h7, h8⟩ := map_some' h6
  simp at h8
  obtain ⟨rfl, rfl⟩ := h8
  refine ⟨G, env, F, x, e1, s, h1, fun v H1 G1 F1 s1 ev1 rp1 => ⟨G1, e1, F1, l, e2, s1, h3, fun H2 G2 F2 s2 ev2 => ⟨G2, e2, F2, u, e3, s2, h5, fun H3 G3 F3 s3 ev3 => ?_⟩⟩⟩
  have rp : Rep X.K (vw r H3 G3 F3) v x := keepRep s1 s3 (ev2.trans ev3) rp1 c fun i hi => hi
  have go : ∀ w H' W', Grow (vw r H3 G3 F3) H3 W' H' → Rep X.K W' w d' → Q w H' := fun w H' W' gr rz => by
    obtain ⟨s4, ev4, sm⟩ := s3.grow gr
    exact q w H' _ F3 s4 (((ev1.trans (ev2.trans ev3)).trans ev4).mono fun i hi => by simpa using hi) (rz.mono sm)
  have sV := s3.vwH r
  cases rp with
  | @lst a xs ds ha hx =>
    cases h7
    refine .inl ⟨a, xs, rfl, SqL.of (sV _ _ ha), fun p hp => go _ _ _ (Grow.new sV hp) (.lst upd_same ((hx.cut l u).mono (same_new (sV.free hp))))⟩
  | @tup a xs ds ha hx =>
    cases h7
    refine .inr ⟨a, xs, rfl, SqT.of (sV _ _ ha), fun hw => ?_, fun hw p hp => ?_⟩
    · rw [hx.length] at hw
      rw [cutD_whole hw.1 hw.2] at go
      exact go _ _ _ (Grow.refl sV) (.tup ha hx)
    · exact go _ _ _ (Grow.new sV hp) (.tup upd_same ((hx.cut l u).mono (same_new (sV.free hp))))
  | @scr a ns ha =>
    cases h7
    exact .inl ⟨a, ns.map V.int, rfl, Same.seq sV ha, fun p hp => go _ _ _ (Grow.new sV hp) (.lst upd_same ((reps_scr ns).cut l u))⟩
  | _ => simp [slcD] at h7
end
end HD
set_option Elab.async false
set_option linter.all false
set_option maxRecDepth 100000
set_option maxHeartbeats 2000000
set_option autoImplicit false
/-! HD2: the operators, comparisons, subscripts and built-in calls by their data. -/
namespace HD
open PySem PySem.Spec PyProof.Rows L2
variable [Tb]

def addD : D → D → Option D
  | .int i, .int j => some (.int (i + j))
  | .tup a, .tup b => if a.length + b.length ≤ 16777216 then some (.tup (a ++ b)) else none
  | .lst a, .lst b => if a.length + b.length ≤ 16777216 then some (.lst (a ++ b)) else none
  | .str a, .str b => if a.length + b.length ≤ 16777216 then some (.str (a ++ b)) else none
  | _, _ => none
def subD : D → D → Option D
  | .int i, .int j => some (.int (i - j))
  | _, _ => none
def mulD : D → D → Option D
  | .int i, .int j => if (smB i || smB j) = true then some (.int (i * j)) else none
  | .lst a, .int k => if (smB k && decide (a.length * k.toNat ≤ 16777216)) = true then some (.lst (List.replicate k.toNat a).flatten) else none
  | _, _ => none
def modD : D → D → Option D
  | .int i, .int j => if 0 < j then some (.int (i % j)) else none
  | _, _ => none
def fdivD : D → D → Option D
  | .int i, .int j => if dvB j = true then some (.int (i / j)) else none
  | _, _ => none
def powD : D → D → Option D
  | .int i, .int j => if (decide (0 ≤ j) && Nat.ble j.toNat 1000000 && smB i) = true then some (.int (i ^ j.toNat)) else none
  | _, _ => none
def negD : D → Option D
  | .int i => some (.int (-i))
  | _ => none
def cmpD (p : Int → Int → Bool) : D → D → Option D
  | .int i, .int j => some (.bl (p i j))
  | _, _ => none
abbrev ltD := cmpD fun i j => decide (i < j)
abbrev leD := cmpD fun i j => decide (i ≤ j)
abbrev gtD := cmpD fun i j => decide (j < i)
abbrev geD := cmpD fun i j => decide (j ≤ i)
mutual
def D.eqv : D → D → Bool
  | .non, .non => true
  | .bl a, .bl b => a == b
  | .bl a, .int j => (if a then 1 else 0) == j
  | .int i, .bl b => i == (if b then 1 else 0)
  | .int i, .int j => i == j
  | .str x, .str y => x == y
  | .lst xs, .lst ys => D.eqvs xs ys
  | .tup xs, .tup ys => D.eqvs xs ys
  | _, _ => false
def D.eqvs : List D → List D → Bool
  | [], [] => true
  | x :: xs, y :: ys => D.eqv x y && D.eqvs xs ys
  | _, _ => false
end
mutual
/-- what == may be asked of: no dict in it, no deeper than n -/
def D.okE : Nat → D → Bool
  | _, .non => true
  | _, .bl _ => true
  | _, .int _ => true
  | _, .str x => PyData.strOk x
  | 0, _ => false
  | _ + 1, .dct _ _ => false
  | _ + 1, .scr _ => false
  | n + 1, .tup ds => D.okEs n ds && decide (ds.length ≤ 16777216)
  | n + 1, .lst ds => D.okEs n ds && decide (ds.length ≤ 16777216)
def D.okEs : Nat → List D → Bool
  | _, [] => true
  | n, d :: ds => D.okE n d && D.okEs n ds
end
def eqD (x y : D) : Option D := if (D.okE 62 x && D.okE 62 y) = true then some (.bl (D.eqv x y)) else none
def neD (x y : D) : Option D := if (D.okE 62 x && D.okE 62 y) = true then some (.bl (!D.eqv x y)) else none
def isD (x : D) : D → Option D
  | .non => some (.bl (match x with | .non => true | _ => false))
  | .bl b => some (.bl (match x with | .bl c => c == b | _ => false))
  | _ => none
def isNotD (x : D) : D → Option D
  | .non => some (.bl (match x with | .non => false | _ => true))
  | .bl b => some (.bl (match x with | .bl c => !(c == b) | _ => true))
  | _ => none

mutual
theorem py_eqv : ∀ (x y : D) (n m : Nat), D.okE n x = true → D.okE m y = true → PyData.eqv x.py y.py = D.eqv x y
  | .non, y, _, _, _, h => by cases y <;> simp [D.py, D.eqv, PyData.eqv]
  | .bl _, y, _, _, _, h => by cases y <;> simp [D.py, D.eqv, PyData.eqv]
  | .int _, y, _, _, _, h => by cases y <;> simp [D.py, D.eqv, PyData.eqv]
  | .str _, y, _, _, _, h => by cases y <;> simp [D.py, D.eqv, PyData.eqv]
  | .dct _ _, y, n, _, h, _ => by cases n <;> simp [D.okE] at h
  | .scr _, y, n, _, h, _ => by cases n <;> simp [D.okE] at h
  | .tup xs, y, n, m, h1, h2 => by
    cases y with
    | tup ys =>
      cases n with
      | zero => simp [D.okE] at h1
      | succ n =>
        cases m with
        | zero => simp [D.okE] at h2
        | succ m =>
          simp only [D.okE, Bool.and_eq_true] at h1 h2
          simp only [D.py, D.eqv, PyData.eqv]
          exact pys_eqv xs ys n m h1.1 h2.1
    | _ => simp [D.py, D.eqv, PyData.eqv]
  | .lst xs, y, n, m, h1, h2 => by
    cases y with
    | lst ys =>
      cases n with
      | zero => simp [D.okE] at h1
      | succ n =>
        cases m with
        | zero => simp [D.okE] at h2
        | succ m =>
          simp only [D.okE, Bool.and_eq_true] at h1 h2
          simp only [D.py, D.eqv, PyData.eqv]
          exact pys_eqv xs ys n m h1.1 h2.1
    | _ => simp [D.py, D.eqv, PyData.eqv]
theorem pys_eqv : ∀ (xs ys : List D) (n m : Nat), D.okEs n xs = true → D.okEs m ys = true → PyData.eqvAll (D.pys xs) (D.pys ys) = D.eqvs xs ys
  | [], [], _, _, _, _ => by simp [D.pys, D.eqvs, PyData.eqvAll]
  | [], _ :: _, _, _, _, _ => by simp [D.pys, D.eqvs, PyData.eqvAll]
  | _ :: _, [], _, _, _, _ => by simp [D.pys, D.eqvs, PyData.eqvAll]
  | x :: xs, y :: ys, n, m, h1, h2 => by
    simp only [D.okEs, Bool.and_eq_true] at h1 h2
    simp only [D.pys, D.eqvs, PyData.eqvAll]
    rw [py_eqv x y n m h1.1 h2.1, pys_eqv xs ys n m h1.2 h2.2]
end

mutual
theorem okE_lay : ∀ (d : D) (n : Nat), D.okE n d = true → d.py.canLay0 = true ∧ d.py.depth ≤ n
  | .non, n, _ => by simp [D.py, PyData.canLay0, PyData.depth]
  | .bl _, n, _ => by simp [D.py, PyData.canLay0, PyData.depth]
  | .int _, n, _ => by simp [D.py, PyData.canLay0, PyData.depth]
  | .str x, n, h => by
    have h' : PyData.strOk x = true := by cases n <;> simpa [D.okE] using h
    simp [D.py, PyData.canLay0, PyData.depth, h']
  | .dct _ _, n, h => by cases n <;> simp [D.okE] at h
  | .scr _, n, h => by cases n <;> simp [D.okE] at h
  | .tup xs, n, h => by
    cases n with
    | zero => simp [D.okE] at h
    | succ n =>
      simp only [D.okE, Bool.and_eq_true] at h
      obtain ⟨a, b⟩ := okEs_lay xs n h.1
      simp only [D.py, PyData.canLay0, PyData.depth]
      exact ⟨a, by omega⟩
  | .lst xs, n, h => by
    cases n with
    | zero => simp [D.okE] at h
    | succ n =>
      simp only [D.okE, Bool.and_eq_true] at h
      obtain ⟨a, b⟩ := okEs_lay xs n h.1
      simp only [D.py, PyData.canLay0, PyData.depth]
      exact ⟨a, by omega⟩
theorem okEs_lay : ∀ (ds : List D) (n : Nat), D.okEs n ds = true → PyData.canLayAll0 (D.pys ds) = true ∧ PyData.depthAll (D.pys ds) ≤ n
  | [], n, _ => by simp [D.pys, PyData.canLayAll0, PyData.depthAll]
  | d :: ds, n, h => by
    simp only [D.okEs, Bool.and_eq_true] at h
    obtain ⟨a, b⟩ := okE_lay d n h.1
    obtain ⟨a2, b2⟩ := okEs_lay ds n h.2
    simp only [D.pys, PyData.canLayAll0, PyData.depthAll, a, a2]
    exact ⟨rfl, by omega⟩
end
theorem okE_shaped {d : D} (h : D.okE 62 d = true) : SeqAt.shaped d.py = true := by
  obtain ⟨a, b⟩ := okE_lay d 62 h
  unfold SeqAt.shaped
  rw [a, decide_eq_true (by omega)]
  rfl
theorem okEs_shaped {ds : List D} (h : D.okEs 62 ds = true) : SeqAt.shaped (.list (D.pys ds)) = true := by
  obtain ⟨a, b⟩ := okEs_lay ds 62 h
  have e : (PyData.list (D.pys ds)).depth = PyData.depthAll (D.pys ds) + 1 := by simp only [PyData.depth]
  have e2 : (PyData.list (D.pys ds)).canLay0 = PyData.canLayAll0 (D.pys ds) := by simp only [PyData.canLay0]
  unfold SeqAt.shaped
  rw [Bool.and_eq_true, decide_eq_true_eq, e, e2]
  exact ⟨a, by omega⟩
mutual
theorem Rep.dp {K : PySem.W.Frag} {W : Hp} : ∀ {v : V} {d : D} {n : Nat}, Rep K W v d → D.okE n d = true → Dp K W v d.py
  | _, _, _, .non, _ => .non
  | _, _, _, .bl b, _ => .bl b
  | _, _, _, .int i, _ => .int i
  | _, _, _, .str x, _ => .str x
  | _, _, n, .tup h r, e => by
    cases n with
    | zero => simp [D.okE] at e
    | succ n =>
      simp only [D.okE, Bool.and_eq_true] at e
      exact .tup (SqT.of h) (Reps.dp r e.1)
  | _, _, n, .lst h r, e => by
    cases n with
    | zero => simp [D.okE] at e
    | succ n =>
      simp only [D.okE, Bool.and_eq_true] at e
      exact .lst (SqL.of h) (Reps.dp r e.1)
  | _, _, n, .dK h r q, e => by cases n <;> simp [D.okE] at e
  | _, _, n, .dT h r q, e => by cases n <;> simp [D.okE] at e
  | _, _, n, .scr h, e => by cases n <;> simp [D.okE] at e
theorem Reps.dp {K : PySem.W.Frag} {W : Hp} : ∀ {v : List V} {d : List D} {n : Nat}, Reps K W v d → D.okEs n d = true → DpAll K W v (D.pys d)
  | _, _, _, .nil, _ => .nil
  | _, _, _, .cons h r, e => by
    simp only [D.okEs, Bool.and_eq_true] at e
    exact .cons (Rep.dp h e.1) (Reps.dp r e.2)
end
mutual
theorem Dp.monoW {K : PySem.W.Frag} {W H : Hp} (e : Same W H) : ∀ {v : V} {d : PyData}, Dp K W v d → Dp K H v d
  | _, _, .non => .non
  | _, _, .bl b => .bl b
  | _, _, .int i => .int i
  | _, _, .str x => .str x
  | _, _, .lst h r => .lst (e.seq h) (DpAll.monoW e r)
  | _, _, .tup h r => .tup (Same.sqT e h) (DpAll.monoW e r)
theorem DpAll.monoW {K : PySem.W.Frag} {W H : Hp} (e : Same W H) : ∀ {v : List V} {d : List PyData}, DpAll K W v d → DpAll K H v d
  | _, _, .nil => .nil
  | _, _, .cons h r => .cons (Dp.monoW e h) (DpAll.monoW e r)
end

section
variable {X : Cx}
theorem op_add_d : OpR X (binaryOp .Add) (rD2 X.K addD) := by
  intro pins s σ H x y v u Q I rx ry h
  obtain ⟨W, d1, d2, d, sm, r1, r2, hg, q⟩ := h
  cases r1 with
  | int i =>
    cases r2 <;> simp [addD] at hg
    subst hg
    exact op_add pins s σ H _ _ v u Q I rx ry ⟨_, _, rfl, rfl, q _ _ _ (Grow.refl sm) (.int _)⟩
  | str i =>
    cases r2 <;> simp [addD] at hg
    obtain ⟨hz, rfl⟩ := hg
    exact op_add_str pins s σ H _ _ v u Q I rx ry ⟨_, _, rfl, rfl, by rw [sizeLine_eq]; exact hz, q _ _ _ (Grow.refl sm) (.str _)⟩
  | @tup a xs ds ha hx =>
    cases r2 with
    | @tup b ys es hb hy =>
      simp only [addD] at hg
      split at hg
      · rename_i hz
        cases hg
        have l1 := hx.length
        have l2 := hy.length
        refine op_catA pins s σ H _ _ v u Q I rx ry ⟨a, b, xs, ys, rfl, rfl, SqT.of (sm _ _ ha), SqT.of (sm _ _ hb), by rw [sizeLine_eq]; omega, fun e => ?_, fun _ e => ?_, fun _ _ p hp => ?_⟩
        · subst e
          cases hx
          exact q _ _ _ (Grow.refl sm) (.tup hb hy)
        · subst e
          cases hy
          rw [List.append_nil] at q
          exact q _ _ _ (Grow.refl sm) (.tup ha hx)
        · exact q _ _ _ (Grow.new sm hp) (.tup upd_same ((hx.app hy).mono (same_new (sm.free hp))))
      · cases hg
    | _ => simp [addD] at hg
  | @lst a xs ds ha hx =>
    cases r2 with
    | @lst b ys es hb hy =>
      simp only [addD] at hg
      split at hg
      · rename_i hz
        cases hg
        have l1 := hx.length
        have l2 := hy.length
        refine op_cat pins s σ H _ _ v u Q I rx ry ⟨a, b, xs, ys, rfl, rfl, sm _ _ ha, sm _ _ hb, by rw [sizeLine_eq]; omega, fun p hp => ?_⟩
        exact q _ _ _ (Grow.new sm hp) (.lst upd_same ((hx.app hy).mono (same_new (sm.free hp))))
      · cases hg
    | _ => simp [addD] at hg
  | _ => simp [addD] at hg
theorem op_sub_d : OpR X (binaryOp .Sub) (rD2 X.K subD) := by
  intro pins s σ H x y v u Q I rx ry h
  obtain ⟨W, d1, d2, d, sm, r1, r2, hg, q⟩ := h
  cases r1 <;> cases r2 <;> simp [subD] at hg
  subst hg
  exact op_sub pins s σ H _ _ v u Q I rx ry ⟨_, _, rfl, rfl, q _ _ _ (Grow.refl sm) (.int _)⟩
theorem Reps.rep {K : PySem.W.Frag} {G : Hp} {vs : List V} {ds : List D} (h : Reps K G vs ds) : ∀ k : Nat, Reps K G (List.replicate k vs).flatten (List.replicate k ds).flatten
  | 0 => .nil
  | k + 1 => by
    rw [List.replicate_succ, List.replicate_succ, List.flatten_cons, List.flatten_cons]
    exact h.app (Reps.rep h k)
theorem op_mul_d : OpR X (binaryOp .Mult) (rD2 X.K mulD) := by
  intro pins s σ H x y v u Q I rx ry h
  obtain ⟨W, d1, d2, d, sm, r1, r2, hg, q⟩ := h
  cases r1 with
  | int i =>
    cases r2 <;> simp only [mulD] at hg <;> try (cases hg; done)
    split at hg
    · rename_i j hz
      cases hg
      have hz : (-(2 ^ 64) < i ∧ i < 2 ^ 64) ∨ (-(2 ^ 64) < j ∧ j < 2 ^ 64) := by
        rw [Bool.or_eq_true, smB_iff, smB_iff] at hz
        exact hz.elim (fun z => .inl (by omega)) fun z => .inr (by omega)
      exact op_mul pins s σ H _ _ v u Q I rx ry ⟨_, _, rfl, rfl, hz, q _ _ _ (Grow.refl sm) (.int _)⟩
    · cases hg
  | @lst a xs ds ha hx =>
    cases r2 <;> simp only [mulD] at hg <;> try (cases hg; done)
    split at hg
    · rename_i hz
      cases hg
      exact op_rep pins s σ H _ _ v u Q I rx ry ⟨a, _, xs, rfl, rfl, sm _ _ ha, (by rw [Bool.and_eq_true, smB_iff] at hz; omega), (by rw [Bool.and_eq_true, smB_iff] at hz; omega), by rw [sizeLine_eq, hx.length]; rw [Bool.and_eq_true, decide_eq_true_eq] at hz; exact hz.2, fun p hp => q _ _ _ (Grow.new sm hp) (.lst upd_same ((hx.rep _).mono (same_new (sm.free hp))))⟩
    · cases hg
  | _ => simp [mulD] at hg
theorem op_mod_d : OpR X (binaryOp .Mod) (rD2 X.K modD) := by
  intro pins s σ H x y v u Q I rx ry h
  obtain ⟨W, d1, d2, d, sm, r1, r2, hg, q⟩ := h
  cases r1 <;> cases r2 <;> simp [modD] at hg
  obtain ⟨hz, rfl⟩ := hg
  refine op_modN pins s σ H _ _ v u Q I rx ry ⟨_, _, rfl, rfl, by omega, ?_⟩
  show Q (V.int (Int.fmod _ _)) H
  rw [Int.fmod_eq_emod_of_nonneg _ (by omega)]
  exact q _ _ _ (Grow.refl sm) (.int _)
theorem op_fdiv_d : OpR X (binaryOp .FloorDiv) (rD2 X.K fdivD) := by
  intro pins s σ H x y v u Q I rx ry h
  obtain ⟨W, d1, d2, d, sm, r1, r2, hg, q⟩ := h
  cases r1 <;> cases r2 <;> simp only [fdivD] at hg <;> try (cases hg; done)
  split at hg
  · rename_i hz
    cases hg
    exact op_fdivW pins s σ H _ _ v u Q I rx ry ⟨_, _, rfl, rfl, wide_div (b := 200) (by rw [dvB_iff] at hz; omega) (by rw [dvB_iff] at hz; omega) (by decide) (by decide), q _ _ _ (Grow.refl sm) (.int _)⟩
  · cases hg
theorem op_pow_d : OpR X (binaryOp .Pow) (rD2 X.K powD) := by
  intro pins s σ H x y v u Q I rx ry h
  obtain ⟨W, d1, d2, d, sm, r1, r2, hg, q⟩ := h
  cases r1 <;> cases r2 <;> simp only [powD] at hg <;> try (cases hg; done)
  split at hg
  · rename_i hz
    cases hg
    rw [Bool.and_eq_true, Bool.and_eq_true, decide_eq_true_eq, Nat.ble_eq, smB_iff] at hz
    exact op_pow pins s σ H _ _ v u Q I rx ry ⟨_, _, rfl, rfl, ⟨hz.1.1, by omega, by omega⟩, q _ _ _ (Grow.refl sm) (.int _)⟩
  · cases hg
theorem un_neg_d : UnR X (unaryOp .USub) (rD1 X.K negD) := by
  intro pins s σ H x v Q I rx h
  obtain ⟨W, d1, d, sm, r1, hg, q⟩ := h
  cases r1 <;> simp [negD] at hg
  subst hg
  exact un_neg pins s σ H _ v Q I rx ⟨_, rfl, q _ _ _ (Grow.refl sm) (.int _)⟩
theorem op_cmp_d {op : CmpOp} {p : Int → Int → Bool} (ho : OpR X (compareOp op) (rI0 fun i j => .bl (p i j))) : OpR X (compareOp op) (rD2 X.K (cmpD p)) := by
  intro pins s σ H x y v u Q I rx ry h
  obtain ⟨W, d1, d2, d, sm, r1, r2, hg, q⟩ := h
  cases r1 <;> cases r2 <;> simp [cmpD] at hg
  subst hg
  exact ho pins s σ H _ _ v u Q I rx ry ⟨_, _, rfl, rfl, q _ _ _ (Grow.refl sm) (.bl _)⟩
theorem op_lt_d : OpR X (compareOp .Lt) (rD2 X.K ltD) := op_cmp_d op_lt
theorem op_le_d : OpR X (compareOp .LtE) (rD2 X.K leD) := op_cmp_d op_le
theorem op_gt_d : OpR X (compareOp .Gt) (rD2 X.K gtD) := op_cmp_d op_gt
theorem op_ge_d : OpR X (compareOp .GtE) (rD2 X.K geD) := op_cmp_d op_ge
theorem op_eq_d (hu : X.A.units + 64 < cLine) : OpR X (compareOp .Eq) (rD2 X.K eqD) := by
  intro pins s σ H x y v u Q I rx ry h
  obtain ⟨W, d1, d2, d, sm, r1, r2, hg, q⟩ := h
  unfold eqD at hg
  split at hg
  · rename_i c
    rw [Bool.and_eq_true] at c
    cases hg
    refine op_eqD hu pins s σ H x y v u Q I rx ry ⟨_, _, Dp.monoW sm (r1.dp c.1), Dp.monoW sm (r2.dp c.2), okE_shaped c.1, okE_shaped c.2, ?_⟩
    rw [py_eqv _ _ _ _ c.1 c.2]
    exact q _ _ _ (Grow.refl sm) (.bl _)
  · cases hg
theorem op_ne_d (hu : X.A.units + 64 < cLine) : OpR X (compareOp .NotEq) (rD2 X.K neD) := by
  intro pins s σ H x y v u Q I rx ry h
  obtain ⟨W, d1, d2, d, sm, r1, r2, hg, q⟩ := h
  unfold neD at hg
  split at hg
  · rename_i c
    rw [Bool.and_eq_true] at c
    cases hg
    refine op_neD hu pins s σ H x y v u Q I rx ry ⟨_, _, Dp.monoW sm (r1.dp c.1), Dp.monoW sm (r2.dp c.2), okE_shaped c.1, okE_shaped c.2, ?_⟩
    rw [py_eqv _ _ _ _ c.1 c.2]
    exact q _ _ _ (Grow.refl sm) (.bl _)
  · cases hg
theorem is_bool_gen {M : Model} {A : Around} {E : Value → Shared → Prop} {s : Shared} {Q : Value → Shared → Prop} {x : V} {v : Value} {b : Bool} (rx : L2.RelV x v) (h : Q (.bool (v == .bool b)) s) : wpAny M A (compareOp .Is v (.bool b)) Q E s := by
  cases x <;> first
    | (cases rx; exact wpAny_pure h)
    | (obtain ⟨t, rfl⟩ := rx; exact wpAny_pure h)
theorem isnot_bool_gen {M : Model} {A : Around} {E : Value → Shared → Prop} {s : Shared} {Q : Value → Shared → Prop} {x : V} {v : Value} {b : Bool} (rx : L2.RelV x v) (h : Q (.bool (!(v == .bool b))) s) : wpAny M A (compareOp .IsNot v (.bool b)) Q E s := by
  cases x <;> first
    | (cases rx; exact wpAny_pure h)
    | (obtain ⟨t, rfl⟩ := rx; exact wpAny_pure h)
def boolIs (x : V) (b : Bool) : Bool := match x with | .bl c => c == b | _ => false
theorem RelV.bool_iff {x : V} {v : Value} {b : Bool} (r : L2.RelV x v) : (v == Value.bool b) = boolIs x b := by
  cases x with
  | bl c =>
    cases (show v = Value.bool c from r)
    cases b <;> cases c <;> simp [boolIs]
  | _ => first
    | (cases r; rfl)
    | (obtain ⟨t, rfl⟩ := r; rfl)
theorem op_is_d : OpR X (compareOp .Is) (rD2 X.K isD) := by
  intro pins s σ H x y v u Q I rx ry h
  obtain ⟨W, d1, d2, d, sm, r1, r2, hg, q⟩ := h
  cases r2 <;> simp only [isD] at hg <;> try (cases hg; done)
  · refine op_isN pins s σ H _ _ v u Q I rx ry ⟨rfl, ?_⟩
    cases r1 <;> (simp at hg; subst hg; simp; exact q _ _ _ (Grow.refl sm) (.bl _))
  · rename_i b
    cases (show u = Value.bool b from ry)
    refine is_bool_gen rx ?_
    rw [RelV.bool_iff rx]
    refine ⟨.bl _, H, I, rfl, ?_⟩
    cases r1 <;> (simp at hg; subst hg; exact q _ _ _ (Grow.refl sm) (.bl _))
theorem op_isNot_d : OpR X (compareOp .IsNot) (rD2 X.K isNotD) := by
  intro pins s σ H x y v u Q I rx ry h
  obtain ⟨W, d1, d2, d, sm, r1, r2, hg, q⟩ := h
  cases r2 <;> simp only [isNotD] at hg <;> try (cases hg; done)
  · refine op_notN pins s σ H _ _ v u Q I rx ry ⟨rfl, ?_⟩
    cases r1 <;> (simp at hg; subst hg; simp; exact q _ _ _ (Grow.refl sm) (.bl _))
  · rename_i b
    cases (show u = Value.bool b from ry)
    refine isnot_bool_gen rx ?_
    rw [RelV.bool_iff rx]
    refine ⟨.bl _, H, I, rfl, ?_⟩
    cases r1 <;> (simp at hg; subst hg; exact q _ _ _ (Grow.refl sm) (.bl _))
end
end HD
set_option Elab.async false
set_option linter.all false
set_option maxRecDepth 100000
set_option maxHeartbeats 2000000
set_option autoImplicit false
/-! HD3: in, len, subscripts, dicts read, isinstance, the built-in calls by their data. -/
namespace HD
open PySem PySem.Spec PyProof.Rows L2
variable [Tb]

/-! ### keys -/
def asKey : D → Option Key
  | .int i => some (.inl i)
  | .str x => some (.inr x)
  | _ => none
theorem asKey_some {d : D} {k : Key} (h : asKey d = some k) : d = keyD k := by
  cases d <;> simp [asKey] at h <;> subst h <;> rfl
theorem asKey_keyD (k : Key) : asKey (keyD k) = some k := by
  cases k <;> rfl
def asKeys : List D → Option (List Key)
  | [] => some []
  | d :: ds => (asKey d).bind fun k => (asKeys ds).map fun ks => k :: ks
theorem asKeys_some : ∀ {ds : List D} {ks : List Key}, asKeys ds = some ks → ds = ks.map keyD
  | [], ks, h => by
    simp [asKeys] at h
    subst h
    rfl
  | d :: ds, ks, h => by
    simp only [asKeys] at h
    cases h1 : asKey d with
    | none => simp [h1] at h
    | some k =>
      cases h2 : asKeys ds with
      | none => simp [h1, h2] at h
      | some r =>
        simp [h1, h2] at h
        subst h
        rw [List.map_cons, ← asKey_some h1, ← asKeys_some h2]
/-- what a dict of that kind may be asked for -/
def keyOk (t : Nat) (k : D) : Bool :=
  match t with
  | 0 => (asKey k).isSome
  | 1 => match k with
    | .tup ds => (asKeys ds).isSome
    | _ => false
  | _ => false
def lkD (kvs : List (D × D)) (k : D) : Option D := (kvs.find? fun p => D.eqv p.1 k).map (·.2)
def ptD (kvs : List (D × D)) (k v : D) : List (D × D) := if (kvs.any fun p => D.eqv p.1 k) = true then kvs.map (fun p => if D.eqv p.1 k = true then (p.1, v) else p) else kvs ++ [(k, v)]
theorem eqv_key (a b : Key) : D.eqv (keyD a) (keyD b) = decide (a = b) := by
  cases a with
  | inl i =>
    cases b with
    | inl j => rw [show D.eqv (keyD (.inl i)) (keyD (.inl j)) = (i == j) by simp [keyD, D.eqv], key_ll]
    | inr y => rw [key_lr]; simp [keyD, D.eqv]
  | inr x =>
    cases b with
    | inl j => rw [key_rl]; simp [keyD, D.eqv]
    | inr y =>
      rw [key_rr, show D.eqv (keyD (.inr x)) (keyD (.inr y)) = (x == y) by simp [keyD, D.eqv]]
      by_cases e : x = y
      · subst e
        simp
      · rw [decide_eq_false e]
        exact beq_eq_false_iff_ne.mpr e
theorem eqvs_keys : ∀ a b : List Key, D.eqvs (a.map keyD) (b.map keyD) = decide (a = b)
  | [], [] => by simp [D.eqvs]
  | [], _ :: _ => by simp [D.eqvs]
  | _ :: _, [] => by simp [D.eqvs]
  | x :: a, y :: b => by
    simp only [List.map_cons, D.eqvs, eqv_key, eqvs_keys a b]
    by_cases e : x = y
    · by_cases e2 : a = b
      · simp [e, e2]
      · simp [e, e2]
    · simp [e]
theorem eqv_keys (a b : List Key) : D.eqv (.tup (a.map keyD)) (.tup (b.map keyD)) = decide (a = b) := by
  simp only [D.eqv]
  exact eqvs_keys a b

section
variable {κ : Type} [DecidableEq κ] {K : PySem.W.Frag} {W : Hp} (f : κ → D) (hf : ∀ a b, D.eqv (f a) (f b) = decide (a = b))
include hf
theorem lk_rel (k : κ) : ∀ {ks : List (κ × V)} {ds : List D}, Reps K W (ks.map (·.2)) ds → (∀ d, lkD ((ks.map fun p => f p.1).zip ds) (f k) = some d → ∃ v, valV ks k = some v ∧ Rep K W v d) ∧ (lkD ((ks.map fun p => f p.1).zip ds) (f k) = none → valV ks k = none)
  | [], ds, h => ⟨fun d e => by simp [lkD] at e, fun _ => rfl⟩
  | p :: ks, [], h => by cases h
  | p :: ks, d :: ds, h => by
    cases h with
    | cons h1 h2 =>
      have ih := lk_rel k h2
      by_cases e : p.1 = k
      · have e1 : lkD (((p :: ks).map fun p => f p.1).zip (d :: ds)) (f k) = some d := by
          simp [lkD, List.find?_cons, hf, e]
        rw [e1, valV_pos e]
        exact ⟨fun d' q => by cases q; exact ⟨_, rfl, h1⟩, fun q => by cases q⟩
      · have e1 : lkD (((p :: ks).map fun p => f p.1).zip (d :: ds)) (f k) = lkD ((ks.map fun p => f p.1).zip ds) (f k) := by
          simp [lkD, List.find?_cons, hf, e]
        rw [e1, valV_neg e]
        exact ih
theorem any_rel (k : κ) {ks : List (κ × V)} {ds : List D} (h : (ks.map (·.2)).length = ds.length) : (((ks.map fun p => f p.1).zip ds).any fun p => D.eqv p.1 (f k)) = ks.any fun p => decide (p.1 = k) := by
  induction ks generalizing ds with
  | nil => rfl
  | cons p ks ih =>
    cases ds with
    | nil => simp at h
    | cons d ds => simp [hf, ih (by simpa using h)]
theorem pt_rel {P : V → D → Prop} (k : κ) {v : V} {d : D} {ks : List (κ × V)} {ds : List D} (h : (ks.map (·.2)).length = ds.length) :
    ∃ ds' : List D, ptD ((ks.map fun p => f p.1).zip ds) (f k) d = ((putK ks k v).map fun p => f p.1).zip ds' ∧ ((putK ks k v).map (·.2)).length = ds'.length ∧
      (∀ (i : Nat) (x : V) (y : D), ((putK ks k v).map (·.2))[i]? = some x → ds'[i]? = some y → (x = v ∧ y = d) ∨ ((ks.map (·.2))[i]? = some x ∧ ds[i]? = some y)) := by
  unfold ptD putK
  rw [any_rel f hf k h]
  by_cases a : (ks.any fun p => decide (p.1 = k)) = true
  · rw [if_pos a, if_pos a]
    clear a
    refine ⟨((ks.map (·.1)).zip ds).map fun p => if p.1 = k then d else p.2, ?_, ?_, ?_⟩
    · induction ks generalizing ds with
      | nil => rfl
      | cons p ks ih =>
        cases ds with
        | nil => simp at h
        | cons e ds =>
          have q := ih (ds := ds) (by simpa using h)
          simp only [List.map_cons, List.zip_cons_cons, hf, q]
          by_cases z : p.1 = k <;> simp [z]
    · simp at h ⊢
      omega
    · intro i x y h1 h2
      rw [List.getElem?_map] at h1 h2
      rw [List.getElem?_map] at h1
      cases e1 : ks[i]? with
      | none => rw [e1] at h1; simp at h1
      | some p =>
        rw [e1] at h1
        have hi := (List.getElem?_eq_some_iff.mp e1).1
        have hd : i < ds.length := by
          rw [← h]
          simpa using hi
        have e2 : ((ks.map (·.1)).zip ds)[i]? = some (p.1, ds[i]) := by
          rw [List.getElem?_zip_eq_some]
          exact ⟨by rw [List.getElem?_map, e1]; rfl, List.getElem?_eq_getElem hd⟩
        rw [e2] at h2
        simp at h1 h2
        by_cases z : p.1 = k
        · rw [if_pos z] at h1 h2
          exact .inl ⟨h1.symm, h2.symm⟩
        · rw [if_neg z] at h1 h2
          exact .inr ⟨by rw [List.getElem?_map, e1]; simp [h1], by rw [List.getElem?_eq_getElem hd, h2]⟩
  · rw [if_neg a, if_neg a]
    refine ⟨ds ++ [d], ?_, ?_, ?_⟩
    · rw [List.map_append, List.zip_append (by simpa using h)]
      rfl
    · simp at h ⊢
      exact h
    · intro i x y h1 h2
      rw [List.map_append] at h1
      by_cases hi : i < ds.length
      · rw [List.getElem?_append_left hi] at h2
        rw [List.getElem?_append_left (by rw [h]; exact hi)] at h1
        exact .inr ⟨h1, h2⟩
      · rw [List.getElem?_append_right (by omega)] at h2
        rw [List.getElem?_append_right (by rw [h]; omega), h] at h1
        have e : i - ds.length = 0 := by
          have := (List.getElem?_eq_some_iff.mp h2).1
          simp at this
          omega
        rw [e] at h1 h2
        simp at h1 h2
        exact .inl ⟨h1.symm, h2.symm⟩
end

/-- a key of a dict, as a value -/
theorem rep_key {K : PySem.W.Frag} {W H : Hp} (sm : Same W H) {y : V} {d : D} {k : Key} (r : Rep K W y d) (h : asKey d = some k) : y = kV k := by
  cases r <;> simp [asKey] at h <;> subst h <;> rfl
theorem reps_keys {K : PySem.W.Frag} {W H : Hp} (sm : Same W H) : ∀ {ys : List V} {ds : List D} {ks : List Key}, Reps K W ys ds → asKeys ds = some ks → ys = ks.map kV
  | _, _, ks, .nil, h => by
    simp [asKeys] at h
    subst h
    rfl
  | _, _, ks, .cons (d := d) (ds := ds) r rr, h => by
    simp only [asKeys] at h
    cases h1 : asKey d with
    | none => simp [h1] at h
    | some k =>
      cases h2 : asKeys ds with
      | none => simp [h1, h2] at h
      | some q =>
        simp [h1, h2] at h
        subst h
        rw [List.map_cons, rep_key sm r h1, reps_keys sm rr h2]
end HD
set_option Elab.async false
set_option linter.all false
set_option maxRecDepth 100000
set_option maxHeartbeats 2000000
set_option autoImplicit false
/-! HD4: subscripts, in, len, isinstance, the built-in calls by their data. -/
namespace HD
open PySem PySem.Spec PyProof.Rows L2
variable [Tb]

/-! ### subscripts -/
def idxD : D → D → Option D
  | .lst xs, .int i => atI xs i
  | .tup xs, .int i => atI xs i
  | .str z, .int i => if z.length ≤ 16777216 then (atI z.cps.toList i).map fun c => .str ⟨#[c]⟩ else none
  | .dct t kvs, k => if keyOk t k = true then lkD kvs k else none
  | _, _ => none
theorem reps_atI {K : PySem.W.Frag} {G : Hp} {vs : List V} {ds : List D} (h : Reps K G vs ds) {i : Int} {d : D} (e : atI ds i = some d) : ∃ v, atI vs i = some v ∧ Rep K G v d := by
  unfold atI at e ⊢
  rw [h.length]
  cases q : ixN ds.length i with
  | none => rw [q] at e; cases e
  | some j =>
    rw [q] at e
    exact h.get (i := j) (d := d) e
theorem keyOk0 {k : D} (h : keyOk 0 k = true) : ∃ q, asKey k = some q := by
  simp only [keyOk] at h
  exact Option.isSome_iff_exists.mp h
theorem keyOk1 {k : D} (h : keyOk 1 k = true) : ∃ ds q, k = .tup ds ∧ asKeys ds = some q := by
  cases k <;> simp only [keyOk] at h <;> try (cases h; done)
  obtain ⟨q, e⟩ := Option.isSome_iff_exists.mp h
  exact ⟨_, q, rfl, e⟩
theorem dget_rep {K : PySem.W.Frag} {W H : Hp} (sm : Same W H) {x y : V} {t : Nat} {kvs : List (D × D)} {k : D} (rx : Rep K W x (.dct t kvs)) (ry : Rep K W y k) (ok : keyOk t k = true) :
    ∃ a o, x = .ref a ∧ DGet H a y o ∧ (∀ d, lkD kvs k = some d → ∃ v, o = some v ∧ Rep K W v d) ∧ (lkD kvs k = none → o = none) := by
  cases rx with
  | @dK a ks ds _ h1 h2 h3 =>
    obtain ⟨q, hq⟩ := keyOk0 ok
    cases rep_key sm ry hq
    subst h3
    rw [asKey_some hq]
    obtain ⟨l1, l2⟩ := lk_rel keyD eqv_key q h2
    exact ⟨a, _, rfl, DGet.k (sm _ _ h1), l1, l2⟩
  | @dT a ks ds _ h1 h2 h3 =>
    obtain ⟨es, q, rfl, hq⟩ := keyOk1 ok
    cases ry with
    | @tup b ys _ hb hy =>
      cases reps_keys sm hy hq
      subst h3
      rw [asKeys_some hq]
      obtain ⟨l1, l2⟩ := lk_rel (fun p : List Key => .tup (p.map keyD)) eqv_keys q h2
      exact ⟨a, _, rfl, DGet.t (sm _ _ h1) (sm _ _ hb), l1, l2⟩
theorem tailD {prog : Program} {w : World} {A : Around} {E : Value → Shared → Prop} {s : Shared} {value slice : Expr} {T id : String} {o i : Value} {Q : Value → Shared → Prop}
    (hl : typeLookup (.type T) "__getitem__" = pure (some (.builtin id))) (hs : subscripted slice false o i = operate [o, i] (getItem o i)) (hT : s.TypeIs o T) (h : wpAny (model prog w) A (getItem o i) Q E s) :
    wpAny (model prog w) A (subscriptTail value slice o i) Q E s := by
  unfold subscriptTail
  refine wpAny_bind ?_
  rw [getitemInPython_of_ne hT.not_modules]
  refine wpAny_bind (wpAny_specialOf hT hl ?_)
  have fin : wpAny (model prog w) A (subscripted slice false o i) (fun r s₃ => wpAny (model prog w) A (letTemporaryGo value o r >>= fun _ => pure r) Q E s₃) E s := by
    rw [hs]
    exact wpAny_operating (wpAny_mono h (fun r s₃ h₃ => wpAny_bind (wpAny_letTemporaryGo (wpAny_pure h₃))) fun _ _ x => x)
  first
    | exact wpAny_pure (wpAny_bind fin)
    | exact wpAny_bind (wpAny_pure (wpAny_bind fin))
    | exact wpAny_bind fin
section
variable {X : Cx}
theorem ix_d (hu : X.A.units + 1 < cLine) : IxR X (rD2 X.K idxD) := by
  intro value slice pins s σ H x y v u Q I rx ry h hs
  obtain ⟨W, d1, d2, d, sm, r1, r2, hg, q⟩ := h
  cases d1 with
  | lst ds =>
    cases d2 with
    | int i =>
      cases r2
      cases r1 with
      | @lst a xs _ ha hx =>
        obtain ⟨z, e, rz⟩ := reps_atI hx hg
        exact ix_list value slice pins s σ H _ _ v u Q I rx ry ⟨a, xs, i, z, rfl, rfl, SqL.of (sm _ _ ha), e, q _ _ _ (Grow.refl sm) rz⟩ hs
    | _ => simp [idxD] at hg
  | tup ds =>
    cases d2 with
    | int i =>
      cases r2
      cases r1 with
      | @tup a xs _ ha hx =>
        obtain ⟨z, e, rz⟩ := reps_atI hx hg
        exact ix_tup value slice pins s σ H _ _ v u Q I rx ry ⟨a, xs, i, z, rfl, rfl, SqT.of (sm _ _ ha), e, q _ _ _ (Grow.refl sm) rz⟩ hs
    | _ => simp [idxD] at hg
  | str z =>
    cases d2 with
    | int i =>
      cases r2
      cases r1
      simp only [idxD] at hg
      split at hg
      · rename_i hz
        obtain ⟨c, e, rfl⟩ := map_some' hg
        exact ix_str value slice pins s σ H _ _ v u Q I rx ry ⟨z, i, c, rfl, rfl, by rw [sizeLine_eq]; exact hz, e, q _ _ _ (Grow.refl sm) (.str _)⟩ hs
      · cases hg
    | _ => simp [idxD] at hg
  | dct t kvs =>
    simp only [idxD] at hg
    split at hg
    · rename_i ok
      obtain ⟨a, o, rfl, g, l1, _⟩ := dget_rep sm r1 r2 ok
      obtain ⟨z, rfl, rz⟩ := l1 _ hg
      obtain rfl : v = Value.ref a := rx
      exact tailD PySem.F.slot_dict_getitem.lookup hs (dict_typeIs I g) (d_getItem hu I g ry fun w' s3 I3 rw' => ⟨z, H, I3, rw', q _ _ _ (Grow.refl sm) rz⟩)
    · cases hg
  | _ => simp [idxD] at hg
end

/-! ### in, not in -/
def D.flat : D → Bool
  | .non => true
  | .bl _ => true
  | .int _ => true
  | .str _ => true
  | _ => false
def inB (x : D) : D → Option Bool
  | .tup ds => if (x.flat && ds.all D.flat) = true then some (ds.any fun z => D.eqv z x) else none
  | .lst ds => if (D.okE 62 x && D.okEs 62 ds) = true then some (ds.any fun z => D.eqv z x) else none
  | .dct t kvs => if keyOk t x = true then some (lkD kvs x).isSome else none
  | _ => none
def inD (x y : D) : Option D := (inB x y).map .bl
def ninD (x y : D) : Option D := (inB x y).map fun b => .bl (!b)
theorem rep_flat {K : PySem.W.Frag} {W : Hp} {v : V} {d : D} (r : Rep K W v d) (h : d.flat = true) : flatV v = true := by
  cases r <;> simp [D.flat] at h <;> rfl
theorem reps_flat {K : PySem.W.Frag} {W : Hp} : ∀ {vs : List V} {ds : List D}, Reps K W vs ds → ds.all D.flat = true → vs.all flatV = true
  | _, _, .nil, _ => rfl
  | _, _, .cons r rr, h => by
    rw [List.all_cons, Bool.and_eq_true] at h ⊢
    exact ⟨rep_flat r h.1, reps_flat rr h.2⟩
theorem eqV_rep {K : PySem.W.Frag} {W : Hp} {v w : V} {d e : D} (r : Rep K W v d) (r2 : Rep K W w e) (h : d.flat = true) (h2 : e.flat = true) : eqV v w = D.eqv d e := by
  cases r <;> simp [D.flat] at h <;> cases r2 <;> simp [D.flat] at h2 <;> simp [eqV, D.eqv]
theorem inV_rep {K : PySem.W.Frag} {W : Hp} {v : V} {d : D} (r : Rep K W v d) (h : d.flat = true) : ∀ {vs : List V} {ds : List D}, Reps K W vs ds → ds.all D.flat = true → inV v vs = ds.any fun z => D.eqv z d
  | _, _, .nil, _ => rfl
  | _, _, .cons q rr, f => by
    rw [List.all_cons, Bool.and_eq_true] at f
    have ih := inV_rep r h rr f.2
    unfold inV at ih ⊢
    rw [List.any_cons, List.any_cons, ih, eqV_rep q r f.1 h]
theorem pys_any (d : D) (n m : Nat) (hd : D.okE m d = true) : ∀ ds : List D, D.okEs n ds = true → ((D.pys ds).any fun z => PyData.eqv z d.py) = ds.any fun z => D.eqv z d
  | [], _ => by simp [D.pys]
  | x :: xs, h => by
    simp only [D.okEs, Bool.and_eq_true] at h
    simp only [D.pys, List.any_cons, py_eqv _ _ _ _ h.1 hd, pys_any d n m hd xs h.2]
section
variable {X : Cx}
theorem op_in_d (hu : X.A.units + 65 < cLine) : OpR X (compareOp .In) (rD2 X.K inD) := by
  intro pins s σ H x y v u Q I rx ry h
  obtain ⟨W, d1, d2, d, sm, r1, r2, hg, q⟩ := h
  obtain ⟨b, hb, rfl⟩ := map_some' hg
  have q' := q _ _ _ (Grow.refl sm) (.bl b)
  cases d2 with
  | tup ds =>
    simp only [inB] at hb
    split at hb
    · rename_i c
      rw [Bool.and_eq_true] at c
      cases hb
      cases r2 with
      | @tup a xs _ ha hx => exact op_in_seq pins s σ H _ _ v u Q I rx ry ⟨a, xs, rfl, .inr (SqT.of (sm _ _ ha)), rep_flat r1 c.1, reps_flat hx c.2, by rw [inV_rep r1 c.1 hx c.2]; exact q'⟩
    · cases hb
  | lst ds =>
    simp only [inB] at hb
    split at hb
    · rename_i c
      rw [Bool.and_eq_true] at c
      cases hb
      cases r2 with
      | @lst a xs _ ha hx =>
        exact op_inD hu pins s σ H _ _ v u Q I rx ry ⟨d1.py, D.pys ds, Dp.monoW sm (r1.dp c.1), Dp.monoW sm (.lst (SqL.of ha) (hx.dp c.2)), okE_shaped c.1, okEs_shaped c.2, by rw [pys_any d1 62 62 c.1 ds c.2]; exact q'⟩
    · cases hb
  | dct t kvs =>
    simp only [inB] at hb
    split at hb
    · rename_i ok
      cases hb
      obtain ⟨a, o, rfl, g, l1, l2⟩ := dget_rep sm r2 r1 ok
      obtain rfl : u = Value.ref a := ry
      have e : o.isSome = (lkD kvs d1).isSome := by
        cases z : lkD kvs d1 with
        | none => rw [l2 z]; rfl
        | some d => obtain ⟨w, hw, _⟩ := l1 d z; rw [hw]; rfl
      refine d_in (by omega) I g rx fun s3 I3 => ⟨.bl o.isSome, H, I3, rfl, ?_⟩
      rw [e]
      exact q'
    · cases hb
  | _ => simp [inB] at hb
theorem op_notIn_d (hu : X.A.units + 65 < cLine) : OpR X (compareOp .NotIn) (rD2 X.K ninD) := by
  intro pins s σ H x y v u Q I rx ry h
  obtain ⟨W, d1, d2, d, sm, r1, r2, hg, q⟩ := h
  obtain ⟨b, hb, rfl⟩ := map_some' hg
  have q' := q _ _ _ (Grow.refl sm) (.bl (!b))
  cases d2 with
  | tup ds =>
    simp only [inB] at hb
    split at hb
    · rename_i c
      rw [Bool.and_eq_true] at c
      cases hb
      cases r2 with
      | @tup a xs _ ha hx => exact op_notIn_seq pins s σ H _ _ v u Q I rx ry ⟨a, xs, rfl, .inr (SqT.of (sm _ _ ha)), rep_flat r1 c.1, reps_flat hx c.2, by rw [inV_rep r1 c.1 hx c.2]; exact q'⟩
    · cases hb
  | lst ds =>
    simp only [inB] at hb
    split at hb
    · rename_i c
      rw [Bool.and_eq_true] at c
      cases hb
      cases r2 with
      | @lst a xs _ ha hx =>
        exact op_notInD hu pins s σ H _ _ v u Q I rx ry ⟨d1.py, D.pys ds, Dp.monoW sm (r1.dp c.1), Dp.monoW sm (.lst (SqL.of ha) (hx.dp c.2)), okE_shaped c.1, okEs_shaped c.2, by rw [pys_any d1 62 62 c.1 ds c.2]; exact q'⟩
    · cases hb
  | dct t kvs =>
    simp only [inB] at hb
    split at hb
    · rename_i ok
      cases hb
      obtain ⟨a, o, rfl, g, l1, l2⟩ := dget_rep sm r2 r1 ok
      obtain rfl : u = Value.ref a := ry
      have e : o.isSome = (lkD kvs d1).isSome := by
        cases z : lkD kvs d1 with
        | none => rw [l2 z]; rfl
        | some d => obtain ⟨w, hw, _⟩ := l1 d z; rw [hw]; rfl
      refine d_notIn (by omega) I g rx fun s3 I3 => ⟨.bl (!o.isSome), H, I3, rfl, ?_⟩
      rw [e]
      exact q'
    · cases hb
  | _ => simp [inB] at hb
end

/-! ### calls of built-in functions and types -/
def one (g : D → Option D) : List D → Option D
  | [d] => g d
  | _ => none
def two (g : D → D → Option D) : List D → Option D
  | [d, e] => g d e
  | _ => none
def lenD : D → Option D
  | .lst xs => some (.int xs.length)
  | .tup xs => some (.int xs.length)
  | .str z => if z.length ≤ 16777216 then some (.int z.length) else none
  | .dct _ kvs => some (.int kvs.length)
  | _ => none
def asIs : List D → Option (List Int)
  | [] => some []
  | d :: ds => (asI d).bind fun i => (asIs ds).map fun is => i :: is
def asBs : List D → Option (List Bool)
  | [] => some []
  | d :: ds => (asB d).bind fun i => (asBs ds).map fun is => i :: is
omit [Tb] in
theorem asIs_some : ∀ {ds : List D} {is : List Int}, asIs ds = some is → ds = is.map D.int
  | [], is, h => by
    simp [asIs] at h
    subst h
    rfl
  | d :: ds, is, h => by
    simp only [asIs] at h
    obtain ⟨i, h1, h2⟩ := bind_some' h
    obtain ⟨r, h3, rfl⟩ := map_some' h2
    rw [List.map_cons, ← asI_some h1, ← asIs_some h3]
omit [Tb] in
theorem asBs_some : ∀ {ds : List D} {is : List Bool}, asBs ds = some is → ds = is.map D.bl
  | [], is, h => by
    simp [asBs] at h
    subst h
    rfl
  | d :: ds, is, h => by
    simp only [asBs] at h
    obtain ⟨i, h1, h2⟩ := bind_some' h
    obtain ⟨r, h3, rfl⟩ := map_some' h2
    rw [List.map_cons, ← asB_some h1, ← asBs_some h3]
omit [Tb] in
theorem asIs_map (is : List Int) : asIs (is.map D.int) = some is := by
  induction is with
  | nil => rfl
  | cons i is ih => simp [asIs, asI, ih]
omit [Tb] in
theorem asBs_map (is : List Bool) : asBs (is.map D.bl) = some is := by
  induction is with
  | nil => rfl
  | cons i is ih => simp [asBs, asB, ih]
theorem reps_ints {K : PySem.W.Frag} {W : Hp} : ∀ {vs : List V} {is : List Int}, Reps K W vs (is.map D.int) → vs = is.map V.int
  | _, [], h => by
    cases h
    rfl
  | _, i :: is, h => by
    cases h with
    | cons h1 h2 =>
      cases h1
      rw [List.map_cons, reps_ints h2]
theorem reps_bls {K : PySem.W.Frag} {W : Hp} : ∀ {vs : List V} {is : List Bool}, Reps K W vs (is.map D.bl) → vs = is.map V.bl
  | _, [], h => by
    cases h
    rfl
  | _, i :: is, h => by
    cases h with
    | cons h1 h2 =>
      cases h1
      rw [List.map_cons, reps_bls h2]
theorem ints_reps {K : PySem.W.Frag} {W : Hp} : ∀ is : List Int, Reps K W (is.map V.int) (is.map D.int)
  | [] => .nil
  | i :: is => .cons (.int i) (ints_reps is)
def sumD : D → Option D
  | .lst xs => (asIs xs).map fun is => .int is.sum
  | _ => none
def allD : D → Option D
  | .lst xs => (asBs xs).map fun bs => .bl (bs.all id)
  | _ => none
def anyD : D → Option D
  | .lst xs => (asBs xs).map fun bs => .bl (bs.any id)
  | _ => none
def absD : D → Option D
  | .int i => some (.int (if i < 0 then -i else i))
  | _ => none
def intD : D → Option D
  | .int i => some (.int i)
  | .bl b => some (.int (if b then 1 else 0))
  | _ => none
def max2D : D → D → Option D
  | .int i, .int j => some (.int (if j > i then j else i))
  | _, _ => none
def min2D : D → D → Option D
  | .int i, .int j => some (.int (if j < i then j else i))
  | _, _ => none
def tupleD : D → Option D
  | .lst xs => some (.tup xs)
  | .tup xs => some (.tup xs)
  | _ => none
def maxL : List Int → Option Int
  | [] => none
  | i :: is => some (is.foldl max i)
def minL : List Int → Option Int
  | [] => none
  | i :: is => some (is.foldl min i)
def maxD : D → Option D
  | .lst xs => (asIs xs).bind fun is => (maxL is).map .int
  | _ => none
def minD : D → Option D
  | .lst xs => (asIs xs).bind fun is => (minL is).map .int
  | _ => none
theorem reps1 {K : PySem.W.Frag} {W : Hp} {vs : List V} {d : D} (h : Reps K W vs [d]) : ∃ v, vs = [v] ∧ Rep K W v d := by
  cases h with
  | cons h1 h2 => cases h2; exact ⟨_, rfl, h1⟩
theorem reps2 {K : PySem.W.Frag} {W : Hp} {vs : List V} {d e : D} (h : Reps K W vs [d, e]) : ∃ v w, vs = [v, w] ∧ Rep K W v d ∧ Rep K W w e := by
  cases h with
  | cons h1 h2 =>
    obtain ⟨w, rfl, h3⟩ := reps1 h2
    exact ⟨_, w, rfl, h1, h3⟩
theorem one_some {g : D → Option D} {ds : List D} {d : D} (h : one g ds = some d) : ∃ x, ds = [x] ∧ g x = some d := by
  cases ds with
  | nil => cases h
  | cons x r =>
    cases r with
    | nil => exact ⟨x, rfl, h⟩
    | cons y r => cases h
theorem two_some {g : D → D → Option D} {ds : List D} {d : D} (h : two g ds = some d) : ∃ x y, ds = [x, y] ∧ g x y = some d := by
  cases ds with
  | nil => cases h
  | cons x r =>
    cases r with
    | nil => cases h
    | cons y r =>
      cases r with
      | nil => exact ⟨x, y, rfl, h⟩
      | cons z r => cases h
section
variable {X : Cx}
/-- a built-in of one argument -/
theorem call1 {f : Value} {g : D → Option D} (h : ∀ (pins : List (Addr × Obj)) (s : Shared) (σ : L2.St) (H W : Hp) (x : V) (u : Value) (dx d : D) (Q : VK), Inv X pins σ H s → L2.RelV x u → Same W H → Rep X.K W x dx → g dx = some d →
    (∀ v H' W', Grow W H W' H' → Rep X.K W' v d → Q v H') → wpAny (model X.prog X.w) X.A (call f [u]) (EP X pins σ Q) X.xe s) : CallR X f (rDN X.K (one g)) := by
  intro pins s σ H xs us Q I r q
  obtain ⟨W, ds, d, sm, rp, hg, k⟩ := q
  obtain ⟨x, rfl, hx⟩ := one_some hg
  obtain ⟨v, rfl, rv⟩ := reps1 rp
  obtain ⟨u, rfl, ru⟩ := vals1 r
  exact h pins s σ H W v u x d Q I ru sm rv hx k
theorem call2 {f : Value} {g : D → D → Option D} (h : ∀ (pins : List (Addr × Obj)) (s : Shared) (σ : L2.St) (H W : Hp) (x y : V) (u w : Value) (dx dy d : D) (Q : VK), Inv X pins σ H s → L2.RelV x u → L2.RelV y w → Same W H → Rep X.K W x dx → Rep X.K W y dy → g dx dy = some d →
    (∀ v H' W', Grow W H W' H' → Rep X.K W' v d → Q v H') → wpAny (model X.prog X.w) X.A (call f [u, w]) (EP X pins σ Q) X.xe s) : CallR X f (rDN X.K (two g)) := by
  intro pins s σ H xs us Q I r q
  obtain ⟨W, ds, d, sm, rp, hg, k⟩ := q
  obtain ⟨x, y, rfl, hx⟩ := two_some hg
  obtain ⟨v, z, rfl, rv, rz⟩ := reps2 rp
  obtain ⟨u, w, rfl, ru, rw'⟩ := vals2 r
  exact h pins s σ H W v z u w x y d Q I ru rw' sm rv rz hx k
theorem c_len : CallR X (.builtin "len") (rDN X.K (one lenD)) := call1 fun pins s σ H W x u dx d Q I ru sm rx hg q => by
  cases rx with
  | @lst a xs ds ha hx =>
    simp only [lenD, Option.some.injEq] at hg
    subst hg
    rw [← hx.length] at q
    exact call_len_seq pins s σ H _ _ Q I (.cons ru .nil) ⟨a, xs, rfl, .inl (SqL.of (sm _ _ ha)), q _ _ _ (Grow.refl sm) (.int _)⟩
  | @tup a xs ds ha hx =>
    simp only [lenD, Option.some.injEq] at hg
    subst hg
    rw [← hx.length] at q
    exact call_len_seq pins s σ H _ _ Q I (.cons ru .nil) ⟨a, xs, rfl, .inr (SqT.of (sm _ _ ha)), q _ _ _ (Grow.refl sm) (.int _)⟩
  | str z =>
    simp only [lenD] at hg
    split at hg
    · rename_i hz
      cases hg
      exact call_len pins s σ H _ _ Q I (.cons ru .nil) ⟨_, z.length, rfl, ⟨by rw [sizeLine_eq]; exact hz, rfl⟩, q _ _ _ (Grow.refl sm) (.int _)⟩
    · cases hg
  | @dK a ks ds kvs h1 h2 h3 =>
    simp only [lenD, Option.some.injEq] at hg
    subst hg
    have l := h2.length
    have e : kvs.length = ks.length := by
      rw [h3]
      simp at l ⊢
      omega
    rw [e] at q
    exact call_lenD pins s σ H _ _ Q I (.cons ru .nil) ⟨a, ks, rfl, sm _ _ h1, q _ _ _ (Grow.refl sm) (.int _)⟩
  | @dT a ks ds kvs h1 h2 h3 =>
    simp only [lenD, Option.some.injEq] at hg
    subst hg
    have l := h2.length
    have e : kvs.length = ks.length := by
      rw [h3]
      simp at l ⊢
      omega
    rw [e] at q
    exact call_len_dT pins s σ H _ _ Q I (.cons ru .nil) ⟨a, ks, rfl, sm _ _ h1, q _ _ _ (Grow.refl sm) (.int _)⟩
  | _ => simp [lenD] at hg
theorem c_sum (hc : X.calm = true) : CallR X (.builtin "sum") (rDN X.K (one sumD)) := call1 fun pins s σ H W x u dx d Q I ru sm rx hg q => by
  cases rx with
  | @lst a xs ds ha hx =>
    simp only [sumD] at hg
    obtain ⟨is, h1, rfl⟩ := map_some' hg
    cases asIs_some h1
    cases reps_ints hx
    exact cr_sum hc pins s σ H _ _ Q I (.cons ru .nil) ⟨a, is, rfl, SqL.of (sm _ _ ha), q _ _ _ (Grow.refl sm) (.int _)⟩
  | _ => simp [sumD] at hg
theorem c_all (hc : X.calm = true) : CallR X (.builtin "all") (rDN X.K (one allD)) := call1 fun pins s σ H W x u dx d Q I ru sm rx hg q => by
  cases rx with
  | @lst a xs ds ha hx =>
    simp only [allD] at hg
    obtain ⟨is, h1, rfl⟩ := map_some' hg
    cases asBs_some h1
    cases reps_bls hx
    exact cr_all hc pins s σ H _ _ Q I (.cons ru .nil) ⟨a, is, rfl, SqL.of (sm _ _ ha), q _ _ _ (Grow.refl sm) (.bl _)⟩
  | _ => simp [allD] at hg
theorem c_any (hc : X.calm = true) : CallR X (.builtin "any") (rDN X.K (one anyD)) := call1 fun pins s σ H W x u dx d Q I ru sm rx hg q => by
  cases rx with
  | @lst a xs ds ha hx =>
    simp only [anyD] at hg
    obtain ⟨is, h1, rfl⟩ := map_some' hg
    cases asBs_some h1
    cases reps_bls hx
    exact cr_any hc pins s σ H _ _ Q I (.cons ru .nil) ⟨a, is, rfl, SqL.of (sm _ _ ha), q _ _ _ (Grow.refl sm) (.bl _)⟩
  | _ => simp [anyD] at hg
theorem c_abs : CallR X (.builtin "abs") (rDN X.K (one absD)) := call1 fun pins s σ H W x u dx d Q I ru sm rx hg q => by
  cases rx <;> simp only [absD] at hg <;> try (cases hg; done)
  cases hg
  exact call_abs pins s σ H _ _ Q I (.cons ru .nil) ⟨_, rfl, q _ _ _ (Grow.refl sm) (.int _)⟩
theorem c_int : CallR X (.type "int") (rDN X.K (one intD)) := call1 fun pins s σ H W x u dx d Q I ru sm rx hg q => by
  cases rx <;> simp only [intD] at hg <;> try (cases hg; done)
  · cases hg
    exact call_int1 pins s σ H _ _ Q I (.cons ru .nil) (.inr ⟨_, rfl, q _ _ _ (Grow.refl sm) (.int _)⟩)
  · cases hg
    exact call_int1 pins s σ H _ _ Q I (.cons ru .nil) (.inl ⟨_, rfl, q _ _ _ (Grow.refl sm) (.int _)⟩)
theorem c_max2 (hc : X.calm = true) : CallR X (.builtin "max") (rDN X.K (two max2D)) := call2 fun pins s σ H W x y u w dx dy d Q I ru rw' sm rx ry hg q => by
  cases rx <;> cases ry <;> simp only [max2D] at hg <;> try (cases hg; done)
  cases hg
  exact call_max2 hc pins s σ H _ _ Q I (.cons ru (.cons rw' .nil)) ⟨_, _, rfl, q _ _ _ (Grow.refl sm) (.int _)⟩
theorem c_min2 (hc : X.calm = true) : CallR X (.builtin "min") (rDN X.K (two min2D)) := call2 fun pins s σ H W x y u w dx dy d Q I ru rw' sm rx ry hg q => by
  cases rx <;> cases ry <;> simp only [min2D] at hg <;> try (cases hg; done)
  cases hg
  exact call_min2 hc pins s σ H _ _ Q I (.cons ru (.cons rw' .nil)) ⟨_, _, rfl, q _ _ _ (Grow.refl sm) (.int _)⟩
theorem c_tuple : CallR X (.type "tuple") (rDN X.K (one tupleD)) := call1 fun pins s σ H W x u dx d Q I ru sm rx hg q => by
  cases rx with
  | @lst a xs ds ha hx =>
    simp only [tupleD, Option.some.injEq] at hg
    subst hg
    exact call_tuple_of pins s σ H _ _ Q I (.cons ru .nil) ⟨a, xs, rfl, .inl ⟨SqL.of (sm _ _ ha), fun p hp => q _ _ _ (Grow.new sm hp) (.tup upd_same (hx.mono (same_new (sm.free hp))))⟩⟩
  | @tup a xs ds ha hx =>
    simp only [tupleD, Option.some.injEq] at hg
    subst hg
    exact call_tuple_of pins s σ H _ _ Q I (.cons ru .nil) ⟨a, xs, rfl, .inr ⟨SqT.of (sm _ _ ha), q _ _ _ (Grow.refl sm) (.tup ha hx)⟩⟩
  | _ => simp [tupleD] at hg
theorem foldl_max_mem : ∀ (is : List Int) (i : Int), is.foldl max i ∈ i :: is ∧ ∀ j ∈ i :: is, j ≤ is.foldl max i
  | [], i => by simp
  | k :: is, i => by
    obtain ⟨h1, h2⟩ := foldl_max_mem is (max i k)
    rw [List.foldl_cons]
    have hm := h2 (max i k) List.mem_cons_self
    refine ⟨?_, fun j hj => ?_⟩
    · rcases List.mem_cons.mp h1 with e | e
      · rw [e]
        rcases Int.le_total i k with z | z
        · rw [show max i k = k by omega]; simp
        · rw [show max i k = i by omega]; simp
      · simp [e]
    · rcases List.mem_cons.mp hj with e | hj
      · subst e; omega
      · rcases List.mem_cons.mp hj with e | hj
        · subst e; omega
        · exact h2 j (List.mem_cons_of_mem _ hj)
theorem foldl_min_mem : ∀ (is : List Int) (i : Int), is.foldl min i ∈ i :: is ∧ ∀ j ∈ i :: is, is.foldl min i ≤ j
  | [], i => by simp
  | k :: is, i => by
    obtain ⟨h1, h2⟩ := foldl_min_mem is (min i k)
    rw [List.foldl_cons]
    have hm := h2 (min i k) List.mem_cons_self
    refine ⟨?_, fun j hj => ?_⟩
    · rcases List.mem_cons.mp h1 with e | e
      · rw [e]
        rcases Int.le_total i k with z | z
        · rw [show min i k = i by omega]; simp
        · rw [show min i k = k by omega]; simp
      · simp [e]
    · rcases List.mem_cons.mp hj with e | hj
      · subst e; omega
      · rcases List.mem_cons.mp hj with e | hj
        · subst e; omega
        · exact h2 j (List.mem_cons_of_mem _ hj)
theorem c_max (hc : X.calm = true) : CallR X (.builtin "max") (rDN X.K (one maxD)) := call1 fun pins s σ H W x u dx d Q I ru sm rx hg q => by
  cases rx with
  | @lst a xs ds ha hx =>
    simp only [maxD] at hg
    obtain ⟨is, h1, h2⟩ := bind_some' hg
    obtain ⟨m, h3, rfl⟩ := map_some' h2
    cases asIs_some h1
    cases reps_ints hx
    cases is with
    | nil => cases h3
    | cons i is =>
      simp only [maxL, Option.some.injEq] at h3
      subst h3
      obtain ⟨m1, m2⟩ := foldl_max_mem is i
      refine cr_max hc pins s σ H _ _ Q I (.cons ru .nil) ⟨a, i :: is, rfl, SqL.of (sm _ _ ha), by simp, fun m hm hle => ?_⟩
      have e : m = is.foldl max i := by
        have := m2 m hm
        have := hle _ m1
        omega
      rw [e]
      exact q _ _ _ (Grow.refl sm) (.int _)
  | _ => simp [maxD] at hg
theorem c_min (hc : X.calm = true) : CallR X (.builtin "min") (rDN X.K (one minD)) := call1 fun pins s σ H W x u dx d Q I ru sm rx hg q => by
  cases rx with
  | @lst a xs ds ha hx =>
    simp only [minD] at hg
    obtain ⟨is, h1, h2⟩ := bind_some' hg
    obtain ⟨m, h3, rfl⟩ := map_some' h2
    cases asIs_some h1
    cases reps_ints hx
    cases is with
    | nil => cases h3
    | cons i is =>
      simp only [minL, Option.some.injEq] at h3
      subst h3
      obtain ⟨m1, m2⟩ := foldl_min_mem is i
      refine cr_min hc pins s σ H _ _ Q I (.cons ru .nil) ⟨a, i :: is, rfl, SqL.of (sm _ _ ha), by simp, fun m hm hle => ?_⟩
      have e : m = is.foldl min i := by
        have := m2 m hm
        have := hle _ m1
        omega
      rw [e]
      exact q _ _ _ (Grow.refl sm) (.int _)
  | _ => simp [minD] at hg
/-! ### isinstance(x, T), T a built-in class -/
def tyN : D → String
  | .non => "NoneType"
  | .bl _ => "bool"
  | .int _ => "int"
  | .str _ => "str"
  | .tup _ => "tuple"
  | .lst _ => "list"
  | .dct _ _ => "dict"
  | .scr _ => "list"
def isScr : D → Bool
  | .scr _ => true
  | _ => false
/-- the answers -/
def isiT (T t : String) : Bool := t == T || (T == "int" && t == "bool")
def isiD (T : String) (d : D) : Option D := if isScr d = true then none else some (.bl (isiT T (tyN d)))
theorem kit_all {T : String} (hT : T = "int" ∨ T = "bool" ∨ T = "str" ∨ T = "tuple" ∨ T = "list") (d : D) : kitB (tyN d) T = some (isiT T (tyN d)) := by
  rcases hT with rfl | rfl | rfl | rfl | rfl <;> cases d <;> simp only [tyN] <;> decide +kernel
theorem de_isi {m r : List Nat} {f : M D} {e : Expr} {T : String} {x : Str} {p p2 pos : Pos} (hT : T = "int" ∨ T = "bool" ∨ T = "str" ∨ T = "tuple" ∨ T = "list") (hg : Gl X "isinstance") (hm : X.mg "isinstance" = none) (gx : Gl X x) (mx : X.mg x = none) (bx : bootBuiltins x = some (.type T)) (ha : DE X m r f e)
    (hs : starEach [e, .Name x p2] X.env = (false, eval e X.env) :: starEach [.Name x p2] X.env := by rfl) (hs2 : starEach [.Name x p2] X.env = (false, eval (.Name x p2) X.env) :: starEach [] X.env := by rfl)
    (hpl : (backTo pos (starEach [.Name x p2] X.env)).any (·.1) = false := by rfl) (hn : x ≠ "__name__" := by decide) (hd : (x == ("__debug__" : Str)) = false := by decide) :
    DE X m [] (una f (isiD T)) (.Call (.Name "isinstance" p) [e, .Name x p2] [] pos) := by
  refine pe_weak (pe_callB call_isi hg hm (by decide +kernel) (pa_cons ha (pa_cons (pe_bltn (v := .ty T) gx mx bx rfl hn hd) pa_nil hs2) hs) (by decide) (by decide) hs hpl) fun σ H Q ⟨G, env, F, d, env', s, hf, q⟩ => ?_
  obtain ⟨dx, h1, h2⟩ := una_some hf
  unfold isiD at h2
  have nsc : isScr dx = false := by
    cases z : isScr dx with
    | false => rfl
    | true => rw [z] at h2; cases h2
  rw [nsc, if_neg Bool.false_ne_true] at h2
  simp only [Option.some.injEq] at h2
  subst h2
  refine ⟨G, env, F, dx, env', s, h1, fun v H1 G1 F1 s1 ev1 rp1 => ?_⟩
  refine ⟨v, .ty T, .type (tyN dx), .type T, isiT T (tyN dx), rfl, .ty T, ?_, kit_ty (kit_all hT dx), q _ H1 G1 F1 s1 ev1 (.bl _)⟩
  have sm := s1.vwH r
  cases rp1 with
  | non => exact .base .non
  | bl b => exact .base (.bl b)
  | int i => exact .base (.int i)
  | str z => exact .base (.str z)
  | tup h _ => exact .base (.tup (sm _ _ h))
  | lst h _ => exact .base (.lst (sm _ _ h))
  | dK h _ _ => exact .base (.dK (sm _ _ h))
  | dT h _ _ => exact .base (.dT (sm _ _ h))
  | scr _ => cases nsc
end
end HD
set_option Elab.async false
set_option linter.all false
set_option maxRecDepth 100000
set_option maxHeartbeats 2000000
set_option autoImplicit false
/-! HD5: slots written, things frozen, fresh things, statements. -/
namespace HD
open PySem PySem.Spec PyProof.Rows L2
variable [Tb]

/-! ### slots -/
def fset (F : Nat → List Addr) (i : Nat) (l : List Addr) : Nat → List Addr := fun j => if j = i then l else F j
theorem fset_same {F : Nat → List Addr} {i : Nat} {l : List Addr} : fset F i l i = l := by unfold fset; rw [if_pos rfl]
theorem fset_ne {F : Nat → List Addr} {i j : Nat} {l : List Addr} (h : j ≠ i) : fset F i l j = F j := by unfold fset; rw [if_neg h]
theorem env_set {env : Env} {i j : Nat} {s : Slot} {x : Slot} (h : (env.set i s)[j]? = some x) : (j = i ∧ x = s ∧ i < env.length) ∨ (j ≠ i ∧ env[j]? = some x) := by
  by_cases e : j = i
  · subst e
    by_cases hl : j < env.length
    · rw [List.getElem?_set_self hl] at h
      cases h
      exact .inl ⟨rfl, rfl, hl⟩
    · rw [List.getElem?_eq_none (by rw [List.length_set]; omega)] at h
      cases h
  · rw [List.getElem?_set_ne (Ne.symm e)] at h
    exact .inr ⟨e, h⟩
theorem env_set_ne {env : Env} {i j : Nat} {s : Slot} (h : j ≠ i) : (env.set i s)[j]? = env[j]? := List.getElem?_set_ne (Ne.symm h)

section
variable {K : PySem.W.Frag} {σ : L2.St} {H G : Hp} {env : Env} {F : Nat → List Addr}
/-- a value is stored that can't change: what the slot owned is let go -/
theorem S.setShr (s : S K σ H G env F) {i : Nat} {v : V} {d : D} (r : Rep K G v d) : S K (σ.set i (some v)) H G (env.set i (.shr d)) (fset F i []) where
  len := by rw [List.length_set, List.length_set]; exact s.len
  tb := s.tb
  same := s.same
  shr := fun j e h => by
    rcases env_set h with ⟨rfl, q, hi⟩ | ⟨n, q⟩
    · cases q
      exact ⟨v, List.getElem?_set_self (Nat.lt_of_lt_of_le hi s.len), r⟩
    · obtain ⟨w, h1, h2⟩ := s.shr j e q
      exact ⟨w, by rw [List.getElem?_set_ne (Ne.symm n)]; exact h1, h2⟩
  own := fun j n e h => by
    rcases env_set h with ⟨rfl, q, _⟩ | ⟨ne, q⟩
    · cases q
    · obtain ⟨w, h1, h2⟩ := s.own j n e q
      exact ⟨w, by rw [List.getElem?_set_ne (Ne.symm ne)]; exact h1, by rw [fset_ne ne]; exact h2⟩
  emp := fun j h => by
    by_cases e : j = i
    · subst e
      exact fset_same
    · rw [fset_ne e]
      exact s.emp j fun n d q => h n d (by rw [env_set_ne e]; exact q)
  free := fun j a ha => by
    by_cases e : j = i
    · subst e
      rw [fset_same] at ha
      cases ha
    · rw [fset_ne e] at ha
      exact s.free j a ha
  apart := fun j k a ne ha hb => by
    by_cases e : j = i
    · subst e
      rw [fset_same] at ha
      cases ha
    · by_cases e2 : k = i
      · subst e2
        rw [fset_same] at hb
        cases hb
      · rw [fset_ne e] at ha
        rw [fset_ne e2] at hb
        exact s.apart j k a ne ha hb
/-- a fresh thing is stored -/
theorem S.setOwn (s : S K σ H G env F) {i n : Nat} {v : V} {d : D} {FT : List Addr} (hl : i < env.length ∨ FT = []) (r : Own K G H n v d FT) (hf : ∀ a ∈ FT, G a = none ∧ ∀ j, a ∉ F j) : S K (σ.set i (some v)) H G (env.set i (.own n d)) (fset F i FT) where
  len := by rw [List.length_set, List.length_set]; exact s.len
  tb := s.tb
  same := s.same
  shr := fun j e h => by
    rcases env_set h with ⟨rfl, q, _⟩ | ⟨n, q⟩
    · cases q
    · obtain ⟨w, h1, h2⟩ := s.shr j e q
      exact ⟨w, by rw [List.getElem?_set_ne (Ne.symm n)]; exact h1, h2⟩
  own := fun j m e h => by
    rcases env_set h with ⟨rfl, q, hi⟩ | ⟨ne, q⟩
    · cases q
      exact ⟨v, List.getElem?_set_self (Nat.lt_of_lt_of_le hi s.len), by rw [fset_same]; exact r⟩
    · obtain ⟨w, h1, h2⟩ := s.own j m e q
      exact ⟨w, by rw [List.getElem?_set_ne (Ne.symm ne)]; exact h1, by rw [fset_ne ne]; exact h2⟩
  emp := fun j h => by
    by_cases e : j = i
    · subst e
      rcases hl with hl | hl
      · exact absurd (List.getElem?_set_self hl) (h n d)
      · rw [fset_same]
        exact hl
    · rw [fset_ne e]
      exact s.emp j fun n d q => h n d (by rw [env_set_ne e]; exact q)
  free := fun j a ha => by
    by_cases e : j = i
    · subst e
      rw [fset_same] at ha
      exact (hf a ha).1
    · rw [fset_ne e] at ha
      exact s.free j a ha
  apart := fun j k a ne ha hb => by
    by_cases e : j = i
    · subst e
      rw [fset_same] at ha
      rw [fset_ne (Ne.symm ne)] at hb
      exact (hf a ha).2 k hb
    · by_cases e2 : k = i
      · subst e2
        rw [fset_same] at hb
        rw [fset_ne e] at ha
        exact (hf a hb).2 j ha
      · rw [fset_ne e] at ha
        rw [fset_ne e2] at hb
        exact s.apart j k a ne ha hb
theorem Evo.set {i : Nat} {s : Slot} {l : List Addr} (hl : ∀ a ∈ l, (∃ j, a ∈ F j) ∨ H a = none) : Evo [i] env H G F (env.set i s) H G (fset F i l) where
  l := List.length_set
  g := Same.refl G
  k := fun _ _ e _ => .inl e
  f := fun j a ha => by
    by_cases e : j = i
    · subst e
      rw [fset_same] at ha
      exact hl a ha
    · rw [fset_ne e] at ha
      exact .inl ⟨j, ha⟩
  n := fun _ _ e => .inl e
  u := fun j hj => by
    have e : j ≠ i := fun q => hj (by rw [q]; exact List.mem_cons_self)
    exact ⟨env_set_ne e, fset_ne e, fun _ _ => rfl⟩
/-- the slot is let go -/
theorem S.clr1 (s : S K σ H G env F) (i : Nat) : S K σ H G (env.set i .none) (fset F i []) where
  len := by rw [List.length_set]; exact s.len
  tb := s.tb
  same := s.same
  shr := fun j e h => by
    rcases env_set h with ⟨rfl, q, _⟩ | ⟨n, q⟩
    · cases q
    · exact s.shr j e q
  own := fun j m e h => by
    rcases env_set h with ⟨rfl, q, _⟩ | ⟨ne, q⟩
    · cases q
    · obtain ⟨w, h1, h2⟩ := s.own j m e q
      exact ⟨w, h1, by rw [fset_ne ne]; exact h2⟩
  emp := fun j h => by
    by_cases e : j = i
    · subst e
      exact fset_same
    · rw [fset_ne e]
      exact s.emp j fun n d q => h n d (by rw [env_set_ne e]; exact q)
  free := fun j a ha => by
    by_cases e : j = i
    · subst e
      rw [fset_same] at ha
      cases ha
    · rw [fset_ne e] at ha
      exact s.free j a ha
  apart := fun j k a ne ha hb => by
    by_cases e : j = i
    · subst e
      rw [fset_same] at ha
      cases ha
    · by_cases e2 : k = i
      · subst e2
        rw [fset_same] at hb
        cases hb
      · rw [fset_ne e] at ha
        rw [fset_ne e2] at hb
        exact s.apart j k a ne ha hb

/-! ### freezing -/
def frzS : Slot → Slot
  | .own _ d => .shr d
  | s => s
def frz : List Nat → Env → Env
  | [], env => env
  | i :: r, env => (frz r env).set i (match (frz r env)[i]? with | some s => frzS s | none => .none)
def ffrz (r : List Nat) (F : Nat → List Addr) : Nat → List Addr := fun j => if r.contains j = true then [] else F j
theorem frz_get (r : List Nat) (env : Env) (j : Nat) : (frz r env)[j]? = if r.contains j = true then (env[j]?).map frzS else env[j]? := by
  induction r with
  | nil => simp [frz]
  | cons i r ih =>
    unfold frz
    have ff : ∀ s : Slot, frzS (frzS s) = frzS s := fun s => by cases s <;> rfl
    by_cases e : j = i
    · subst e
      cases q : (frz r env)[j]? with
      | none =>
        rw [q] at ih
        rw [List.getElem?_eq_none (by rw [List.length_set]; exact List.getElem?_eq_none_iff.mp q)]
        by_cases c : r.contains j = true
        · rw [if_pos c] at ih
          cases z : env[j]? with
          | none => simp
          | some s => rw [z] at ih; cases ih
        · rw [if_neg c] at ih
          simp [← ih]
      | some s =>
        rw [q] at ih
        rw [List.getElem?_set_self (List.getElem?_eq_some_iff.mp q).1, if_pos (by simp)]
        by_cases c : r.contains j = true
        · rw [if_pos c] at ih
          cases z : env[j]? with
          | none => rw [z] at ih; cases ih
          | some t =>
            rw [z] at ih
            simp at ih
            simp [ih, ff]
        · rw [if_neg c] at ih
          simp [← ih]
    · rw [env_set_ne e, ih]
      simp [List.contains_cons, e]
theorem frz_len (r : List Nat) (env : Env) : (frz r env).length = env.length := by
  induction r with
  | nil => rfl
  | cons i r ih => unfold frz; rw [List.length_set, ih]
theorem S.frz (s : S K σ H G env F) (r : List Nat) : S K σ H (vw r H G F) (frz r env) (ffrz r F) where
  len := by rw [frz_len]; exact s.len
  tb := ⟨s.vwnt r, s.tb.tabs⟩
  same := s.vwH r
  shr := fun j e h => by
    rw [frz_get] at h
    by_cases c : r.contains j = true
    · rw [if_pos c] at h
      cases q : env[j]? with
      | none => rw [q] at h; cases h
      | some t =>
        rw [q] at h
        cases t with
        | none => simp [frzS] at h
        | shr d =>
          simp [frzS] at h
          subst h
          obtain ⟨v, h1, h2⟩ := s.shr j _ q
          exact ⟨v, h1, h2.mono (s.vwG r)⟩
        | own n d =>
          simp [frzS] at h
          subst h
          obtain ⟨v, h1, h2⟩ := s.own j n _ q
          exact ⟨v, h1, h2.rep (s.vwG r) fun a ha => vw_in (by simpa using c) ha⟩
    · rw [if_neg c] at h
      obtain ⟨v, h1, h2⟩ := s.shr j e h
      exact ⟨v, h1, h2.mono (s.vwG r)⟩
  own := fun j n e h => by
    rw [frz_get] at h
    by_cases c : r.contains j = true
    · rw [if_pos c] at h
      cases q : env[j]? with
      | none => rw [q] at h; cases h
      | some t => rw [q] at h; cases t <;> simp [frzS] at h
    · rw [if_neg c] at h
      obtain ⟨v, h1, h2⟩ := s.own j n e h
      refine ⟨v, h1, ?_⟩
      unfold ffrz
      rw [if_neg c]
      exact h2.move (s.vwG r) fun a _ => rfl
  emp := fun j h => by
    unfold ffrz
    by_cases c : r.contains j = true
    · rw [if_pos c]
    · rw [if_neg c]
      exact s.emp j fun n d q => h n d (by rw [frz_get, if_neg c]; exact q)
  free := fun j a ha => by
    unfold ffrz at ha
    by_cases c : r.contains j = true
    · rw [if_pos c] at ha
      cases ha
    · rw [if_neg c] at ha
      rw [vw_out]
      · exact s.free j a ha
      · intro i hi hb
        have ne : i ≠ j := fun q => c (by simpa [q] using hi)
        exact s.apart i j a ne hb ha
  apart := fun j k a ne ha hb => by
    unfold ffrz at ha hb
    split at ha
    · cases ha
    · split at hb
      · cases hb
      · exact s.apart j k a ne ha hb
theorem Evo.frz (s : S K σ H G env F) (r : List Nat) : Evo r env H G F (frz r env) H (vw r H G F) (ffrz r F) where
  l := frz_len r env
  g := s.vwG r
  k := fun _ _ e _ => .inl e
  f := fun j a ha => by
    unfold ffrz at ha
    split at ha
    · cases ha
    · exact .inl ⟨j, ha⟩
  n := fun a o e => by
    rcases vw_cases r F a with ⟨i, hi, ha⟩ | q
    · exact .inr (.inr (.inl ⟨i, ha⟩))
    · rw [vw_out q] at e
      exact .inl e
  u := fun j hj => by
    have c : ¬ r.contains j = true := fun q => hj (by simpa using q)
    exact ⟨by rw [frz_get, if_neg c], by unfold ffrz; rw [if_neg c], fun _ _ => rfl⟩
end

/-! ### fresh things -/
def tDF (K : PySem.W.Frag) (m : List Nat) (f : M (D × Nat)) : TE := fun σ H Q => ∃ G env F p env', S K σ H G env F ∧ f env = some (p, env') ∧
  ∀ v H' G' F' FT, S K σ H' G' env' F' → Evo m env H G F env' H' G' F' → Own K G' H' p.2 v p.1 FT → (∀ a ∈ FT, (G' a = none ∧ ∀ j, a ∉ F' j) ∧ ((∃ j, a ∈ F j) ∨ H a = none)) → Q v H'
abbrev DF (X : Cx) (m : List Nat) (f : M (D × Nat)) (e : Expr) : Prop := PE X e (tDF X.K m f)
def fst' (f : M (D × Nat)) : M D := fun env => (f env).map fun p => (p.1.1, p.2)
def addF (G H : Hp) (FT : List Addr) : Hp := fun a => if decide (a ∈ FT) = true then H a else G a
section
variable {X : Cx} {e : Expr} {m : List Nat} {f : M (D × Nat)}
/-- a fresh thing frozen at once -/
theorem de_fresh (h : DF X m f e) : DE X m [] (fst' f) e := pe_weak h fun σ H Q ⟨G, env, F, d, env', s, hf, q⟩ => by
  obtain ⟨⟨⟨x, n⟩, e1⟩, h1, h2⟩ := map_some' hf
  simp at h2
  obtain ⟨rfl, rfl⟩ := h2
  refine ⟨G, env, F, _, e1, s, h1, fun v H1 G1 F1 FT s1 ev1 ow hF => ?_⟩
  have inF : ∀ a ∈ FT, addF G1 H1 FT a = H1 a := fun a ha => by unfold addF; rw [if_pos (decide_eq_true ha)]
  have outF : ∀ a, a ∉ FT → addF G1 H1 FT a = G1 a := fun a ha => by unfold addF; rw [if_neg (fun z => ha (of_decide_eq_true z))]
  have gg : Same G1 (addF G1 H1 FT) := fun a o q => by
    rw [outF a fun ha => by rw [(hF a ha).1.1] at q; cases q]
    exact q
  refine q v H1 (addF G1 H1 FT) F1 ⟨fun a o q => ?_, fun i d q => ?_, fun i n d q => ?_, s1.emp, fun i a ha => ?_, s1.apart, s1.len, ⟨fun a ps q => ?_, s1.tb.tabs⟩⟩ ⟨ev1.g.trans gg, ev1.k, ev1.f, fun a o q => ?_, ev1.u, ev1.l⟩ (by rw [vw_nil]; exact ow.rep gg inF)
  · by_cases c : a ∈ FT
    · rw [inF a c] at q
      exact q
    · rw [outF a c] at q
      exact s1.same a o q
  · obtain ⟨w, h1, h2⟩ := s1.shr i d q
    exact ⟨w, h1, h2.mono gg⟩
  · obtain ⟨w, h1, h2⟩ := s1.own i n d q
    exact ⟨w, h1, h2.move gg fun _ _ => rfl⟩
  · rw [outF a fun hb => (hF a hb).1.2 i ha]
    exact s1.free i a ha
  · by_cases c : a ∈ FT
    · rw [inF a c] at q
      obtain ⟨o, ho, mo⟩ := ow.mut a c
      rw [ho] at q
      cases q
      exact mo
    · rw [outF a c] at q
      exact s1.tb.nt a ps q
  · by_cases c : a ∈ FT
    · rcases (hF a c).2 with z | z
      · exact .inr (.inr (.inl z))
      · exact .inr (.inl z)
    · rw [outF a c] at q
      exact ev1.n a o q
/-- something whose one new object is a list (or a dict) of frozen things -/
theorem tDF_new {m r : List Nat} {fs : M (List D)} {gn : List D → Option D} {σ : L2.St} {H : Hp} {Q : VK} {n : Nat} (h : tDF X.K m (fun env => (fs env).bind fun p => if (r.isEmpty || D.ims p.1) = true then (gn p.1).map fun d => ((d, n), p.2) else none) σ H Q) :
    tDA X.K m r fs σ H fun vs H1 => ∃ G ds d, Same G H1 ∧ Reps X.K G vs ds ∧ gn ds = some d ∧ ∀ p o, H1 p = none → Own X.K G (upd H1 p o) n (.ref p) d [p] → Q (.ref p) (upd H1 p o) := by
  obtain ⟨G, env, F, ⟨d, n'⟩, env', s, hf, q⟩ := h
  obtain ⟨⟨ds, e1⟩, h1, h2⟩ := bind_some' hf
  have c : (r.isEmpty || D.ims ds) = true := by
    cases hc : (r.isEmpty || D.ims ds) with
    | true => rfl
    | false => simp [hc] at h2
  simp only [] at h2
  rw [if_pos c] at h2
  obtain ⟨d', h3, h4⟩ := map_some' h2
  simp at h4
  obtain ⟨⟨rfl, rfl⟩, rfl⟩ := h4
  refine ⟨G, env, F, ds, e1, s, h1, fun vs H1 G1 F1 s1 ev1 rp => ⟨G1, ds, d', s1.same, ?_, h3, fun p o hp ow => ?_⟩⟩
  · rw [Bool.or_eq_true] at c
    rcases c with c | c
    · rw [List.isEmpty_iff] at c
      subst c
      rw [vw_nil] at rp
      exact rp
    · exact rp.imTo (s1.tups r) c
  · have hG : G1 p = none := s1.same.free hp
    have hF : ∀ j, p ∉ F1 j := fun j hj => by
      obtain ⟨u, hu, _⟩ := s1.mut hj
      rw [hp] at hu
      cases hu
    have keep : ∀ i, ∀ a ∈ F1 i, upd H1 p o a = H1 a := fun i a ha => upd_ne fun z => hF i (by rw [← z]; exact ha)
    refine q _ _ G1 F1 [p] ⟨fun a u e => ?_, s1.shr, fun i n d e => ?_, s1.emp, s1.free, s1.apart, s1.len, s1.tb.new hp⟩ ⟨ev1.g, fun a u e1 e2 => ?_, ev1.f, ev1.n, fun i hi => ?_, ev1.l⟩ ow fun a ha => ?_
    · rw [upd_ne (ne_of_none (s1.same a u e) hp)]
      exact s1.same a u e
    · obtain ⟨w, q1, q2⟩ := s1.own i n d e
      exact ⟨w, q1, q2.move (Same.refl _) (keep i)⟩
    · exact (ev1.k a u e1 e2).upd hp
    · obtain ⟨a1, a2, a3⟩ := ev1.u i hi
      exact ⟨a1, a2, fun a ha => by rw [keep i a (by rw [a2]; exact ha)]; exact a3 a ha⟩
    · have e : a = p := by simpa using ha
      subst e
      refine ⟨⟨hG, hF⟩, ?_⟩
      rcases ev1.none_of hp with z | z
      · exact .inr z
      · exact .inl z
def frN (r : List Nat) (n : Nat) (fs : M (List D)) (gn : List D → Option D) : M (D × Nat) := fun env => (fs env).bind fun p => if (r.isEmpty || D.ims p.1) = true then (gn p.1).map fun d => ((d, n), p.2) else none
theorem own_lst {K : PySem.W.Frag} {G H : Hp} {p : Addr} {vs : List V} {ds : List D} (rp : Reps K G vs ds) : Own K G (upd H p (.lst vs)) 1 (.ref p) (.lst ds) [p] := .lst upd_same rp.owns (by simp)
/-- [a, b, ..] -/
theorem df_lst {es : List Expr} {pos : Pos} {r : List Nat} {fs : M (List D)} (h : DA X m r fs es) : DF X m (frN r 1 fs lstD) (.List es pos) := pe_weak (pe_lst h) fun σ H Q q => by
  obtain ⟨G, env, F, ds, env', s, hf, k⟩ := tDF_new q
  refine ⟨G, env, F, ds, env', s, hf, fun vs H1 G1 F1 s1 ev1 rp1 => ?_⟩
  obtain ⟨G2, ds2, d, sm, rp, hg, q⟩ := k vs H1 G1 F1 s1 ev1 rp1
  unfold lstD at hg
  split at hg
  · rename_i hz
    cases hg
    exact ⟨by rw [rp.length, sizeLine_eq]; exact hz, fun p hp => q p _ hp (own_lst rp)⟩
  · cases hg
end
end HD
set_option Elab.async false
set_option linter.all false
set_option maxRecDepth 100000
set_option maxHeartbeats 2000000
set_option autoImplicit false
/-! HD6: statements by their data. -/
namespace HD
open PySem PySem.Spec PyProof.Rows L2
variable [Tb]

inductive Out where
  | nx (e : Env)
  | rt (d : D) (n : Nat) (e : Env)
  | bk (e : Env)
  | ct (e : Env)
abbrev SF := Env → Option Out

/-- the frames' values differ at most at m -/
def Only (m : List Nat) (σ σ' : L2.St) : Prop := σ'.length = σ.length ∧ ∀ i, i ∉ m → σ'[i]? = σ[i]?
theorem Only.refl {m : List Nat} {σ : L2.St} : Only m σ σ := ⟨rfl, fun _ _ => rfl⟩
theorem Only.trans {m m' : List Nat} {σ σ' σ'' : L2.St} (a : Only m σ σ') (b : Only m' σ' σ'') : Only (m ++ m') σ σ'' :=
  ⟨b.1.trans a.1, fun i hi => (b.2 i fun q => hi (List.mem_append_right _ q)).trans (a.2 i fun q => hi (List.mem_append_left _ q))⟩
theorem Only.mono {m m' : List Nat} {σ σ' : L2.St} (a : Only m σ σ') (h : ∀ i ∈ m, i ∈ m') : Only m' σ σ' := ⟨a.1, fun i hi => a.2 i fun q => hi (h i q)⟩
theorem Only.set {σ : L2.St} {i : Nat} {x : Option V} : Only [i] σ (σ.set i x) := ⟨List.length_set, fun j hj => List.getElem?_set_ne fun z => hj (by rw [z]; exact List.mem_cons_self)⟩
/-- what is promised at a statement's end; m: what it may touch, w: the names it may store -/
def tOut (K : PySem.W.Frag) (m w : List Nat) (Dn : Ends) (σ : L2.St) (env : Env) (H G : Hp) (F : Nat → List Addr) : Out → Prop
  | .nx env' => ∀ σ' H' G' F', S K σ' H' G' env' F' → Evo m env H G F env' H' G' F' → Only w σ σ' → Dn.nx σ' H'
  | .bk env' => ∀ σ' H' G' F', S K σ' H' G' env' F' → Evo m env H G F env' H' G' F' → Only w σ σ' → Dn.bk σ' H'
  | .ct env' => ∀ σ' H' G' F', S K σ' H' G' env' F' → Evo m env H G F env' H' G' F' → Only w σ σ' → Dn.ct σ' H'
  | .rt d n env' => ∀ v σ' H' G' F' FT, S K σ' H' G' env' F' → Evo m env H G F env' H' G' F' → Only w σ σ' → Own K G' H' n v d FT → (∀ a ∈ FT, (G' a = none ∧ ∀ j, a ∉ F' j) ∧ ((∃ j, a ∈ F j) ∨ H a = none)) → Dn.rt v H'
def tDS (K : PySem.W.Frag) (m w : List Nat) (f : SF) : TS := fun Dn σ H => ∃ G env F o, S K σ H G env F ∧ f env = some o ∧ tOut K m w Dn σ env H G F o
abbrev DS (X : Cx) (m w : List Nat) (f : SF) (st : Stmt) : Prop := PS X st (tDS X.K m w f)
abbrev DB (X : Cx) (m w : List Nat) (f : SF) (st : List Stmt) : Prop := PSs X st (tDS X.K m w f)
section
variable {X : Cx} {st : Stmt} {sts : List Stmt}
theorem ps_weak {t t' : TS} (h : PS X st t) (w : ∀ Dn σ H, t' Dn σ H → t Dn σ H) : PS X st t' := ⟨fun pins s σ H Dn I q => h.run pins s σ H Dn I (w Dn σ H q)⟩
theorem pss_weak {t t' : TS} (h : PSs X sts t) (w : ∀ Dn σ H, t' Dn σ H → t Dn σ H) : PSs X sts t' := ⟨fun pins s σ H Dn I q => h.run pins s σ H Dn I (w Dn σ H q)⟩
end
/-- what is promised from an earlier state, from a later one on -/
theorem tOut.back {K : PySem.W.Frag} {m1 m2 w1 w2 : List Nat} {Dn : Ends} {σ σ1 : L2.St} {env env1 : Env} {H G H1 G1 : Hp} {F F1 : Nat → List Addr} (ev : Evo m1 env H G F env1 H1 G1 F1) (on : Only w1 σ σ1) : ∀ {o : Out}, tOut K (m1 ++ m2) (w1 ++ w2) Dn σ env H G F o → tOut K m2 w2 Dn σ1 env1 H1 G1 F1 o
  | .nx _, h => fun σ' H' G' F' s e k => h σ' H' G' F' s (ev.trans e) (on.trans k)
  | .bk _, h => fun σ' H' G' F' s e k => h σ' H' G' F' s (ev.trans e) (on.trans k)
  | .ct _, h => fun σ' H' G' F' s e k => h σ' H' G' F' s (ev.trans e) (on.trans k)
  | .rt _ _ _, h => fun v σ' H' G' F' FT s e k ow hF => h v σ' H' G' F' FT s (ev.trans e) (on.trans k) ow fun a ha => by
      obtain ⟨x, y⟩ := hF a ha
      refine ⟨x, ?_⟩
      rcases y with ⟨j, hj⟩ | z
      · exact ev.f j a hj
      · exact (ev.none_of z).elim .inr .inl
theorem tOut.mono {K : PySem.W.Frag} {m m' w w' : List Nat} {Dn : Ends} {σ : L2.St} {env : Env} {H G : Hp} {F : Nat → List Addr} (hm : ∀ i ∈ m, i ∈ m') (hw : ∀ i ∈ w, i ∈ w') : ∀ {o : Out}, tOut K m' w' Dn σ env H G F o → tOut K m w Dn σ env H G F o
  | .nx _, h => fun σ' H' G' F' s e k => h σ' H' G' F' s (e.mono hm) (k.mono hw)
  | .bk _, h => fun σ' H' G' F' s e k => h σ' H' G' F' s (e.mono hm) (k.mono hw)
  | .ct _, h => fun σ' H' G' F' s e k => h σ' H' G' F' s (e.mono hm) (k.mono hw)
  | .rt _ _ _, h => fun v σ' H' G' F' FT s e k ow hF => h v σ' H' G' F' FT s (e.mono hm) (k.mono hw) ow hF
theorem tOut.back0 {K : PySem.W.Frag} {m1 m2 w2 : List Nat} {Dn : Ends} {σ : L2.St} {env env1 : Env} {H G H1 G1 : Hp} {F F1 : Nat → List Addr} (ev : Evo m1 env H G F env1 H1 G1 F1) {o : Out} (h : tOut K (m1 ++ m2) w2 Dn σ env H G F o) : tOut K m2 w2 Dn σ env1 H1 G1 F1 o :=
  tOut.back (w1 := []) ev Only.refl h

/-! ### blocks -/
def seqS (f g : SF) : SF := fun env => (f env).bind fun o => match o with
  | .nx e => g e
  | o => some o
def nxt : SF := fun env => some (.nx env)
section
variable {X : Cx} {st : Stmt} {sts : List Stmt} {m m1 m2 r w w1 w2 : List Nat} {f g : SF} {pos : Pos} {e : Expr}
theorem db_nil : DB X [] [] nxt [] := pss_weak pss_nil fun Dn σ H ⟨G, env, F, o, s, hf, q⟩ => by
  simp only [nxt, Option.some.injEq] at hf
  subst hf
  exact q σ H G F s Evo.refl Only.refl
theorem db_cons (h1 : DS X m1 w1 f st) (h2 : DB X m2 w2 g sts) : DB X (m1 ++ m2) (w1 ++ w2) (seqS f g) (st :: sts) := pss_weak (pss_cons h1 h2) fun Dn σ H ⟨G, env, F, o, s, hf, q⟩ => by
  obtain ⟨o1, e1, e2⟩ := bind_some' hf
  refine ⟨G, env, F, o1, s, e1, ?_⟩
  cases o1 with
  | nx env1 =>
    intro σ1 H1 G1 F1 s1 ev1 on1
    exact ⟨G1, env1, F1, o, s1, e2, q.back ev1 on1⟩
  | bk env1 =>
    cases e2
    exact fun σ' H' G' F' s e on => q σ' H' G' F' s (e.mono fun i hi => List.mem_append_left _ hi) (on.mono fun i hi => List.mem_append_left _ hi)
  | ct env1 =>
    cases e2
    exact fun σ' H' G' F' s e on => q σ' H' G' F' s (e.mono fun i hi => List.mem_append_left _ hi) (on.mono fun i hi => List.mem_append_left _ hi)
  | rt d n env1 =>
    cases e2
    exact fun v σ' H' G' F' FT s e on ow hF => q v σ' H' G' F' FT s (e.mono fun i hi => List.mem_append_left _ hi) (on.mono fun i hi => List.mem_append_left _ hi) ow hF
theorem db_one (h1 : DS X m1 w1 f st) : DB X m1 w1 f [st] := pss_one h1
theorem ds_pass : DS X [] [] nxt (.Pass pos) := ps_weak ps_pass fun Dn σ H ⟨G, env, F, o, s, hf, q⟩ => by
  simp only [nxt, Option.some.injEq] at hf
  subst hf
  exact q σ H G F s Evo.refl Only.refl
def brkS : SF := fun env => some (.bk env)
def cntS : SF := fun env => some (.ct env)
theorem ds_break : DS X [] [] brkS (.Break pos) := ps_weak ps_break fun Dn σ H ⟨G, env, F, o, s, hf, q⟩ => by
  simp only [brkS, Option.some.injEq] at hf
  subst hf
  exact q σ H G F s Evo.refl Only.refl
theorem ds_continue : DS X [] [] cntS (.Continue pos) := ps_weak ps_continue fun Dn σ H ⟨G, env, F, o, s, hf, q⟩ => by
  simp only [cntS, Option.some.injEq] at hf
  subst hf
  exact q σ H G F s Evo.refl Only.refl
def ifS (c : M Bool) (f g : SF) : SF := fun env => (c env).bind fun p => if p.1 = true then f p.2 else g p.2
theorem ds_if {c : Expr} {a b : List Stmt} {fc : M Bool} (hc : DT X m fc c) (ha : DB X m1 w1 f a) (hb : DB X m2 w2 g b) : DS X (m ++ (m1 ++ m2)) (w1 ++ w2) (ifS fc f g) (.If c a b pos) := ps_weak (ps_if hc ha hb) fun Dn σ H ⟨G, env, F, o, s, hf, q⟩ => by
  obtain ⟨⟨k, e1⟩, h1, h2⟩ := bind_some' hf
  refine ⟨G, env, F, k, e1, s, h1, fun H1 G1 F1 s1 ev1 => ?_⟩
  have q1 := q.back0 ev1
  cases k with
  | true =>
    rw [if_pos rfl] at h2
    show if true = true then tDS X.K m1 w1 f Dn σ H1 else tDS X.K m2 w2 g Dn σ H1
    rw [if_pos rfl]
    exact ⟨G1, e1, F1, o, s1, h2, q1.mono (fun i hi => List.mem_append_left _ hi) fun i hi => List.mem_append_left _ hi⟩
  | false =>
    rw [if_neg Bool.false_ne_true] at h2
    show if false = true then tDS X.K m1 w1 f Dn σ H1 else tDS X.K m2 w2 g Dn σ H1
    rw [if_neg Bool.false_ne_true]
    exact ⟨G1, e1, F1, o, s1, h2, q1.mono (fun i hi => List.mem_append_right _ hi) fun i hi => List.mem_append_right _ hi⟩

/-! ### things ready to be stored -/
def frF (r : List Nat) (f : M D) : M (D × Nat) := fun env => (f env).map fun p => ((p.1, 0), if p.1.im = true then p.2 else frz r p.2)
/-- what is seen by way of the slots r is frozen with them, unless nothing in it can change -/
theorem df_of {fd : M D} (h : DE X m r fd e) : DF X (m ++ r) (frF r fd) e := pe_weak h fun σ H Q ⟨G, env, F, p, env', s, hf, q⟩ => by
  obtain ⟨⟨d, e1⟩, h1, h2⟩ := map_some' hf
  simp at h2
  obtain ⟨rfl, rfl⟩ := h2
  refine ⟨G, env, F, d, e1, s, h1, fun v H1 G1 F1 s1 ev1 rp => ?_⟩
  by_cases c : d.im = true
  · rw [if_pos c] at q
    exact q v H1 G1 F1 [] s1 (ev1.mono fun i hi => List.mem_append_left _ hi) (.shr (.inl rfl) (s1.im rp c)) fun a ha => by cases ha
  · rw [if_neg c] at q
    exact q v H1 _ _ [] (s1.frz r) (ev1.trans (Evo.frz s1 r)) (.shr (.inl rfl) rp) fun a ha => by cases ha
/-- the slot's own thing is handed on -/
def mvF (i : Nat) : M (D × Nat) := fun env => match env[i]? with
  | some (.own n d) => some ((d, n), env.set i .none)
  | some (.shr d) => some ((d, 0), env)
  | _ => none
theorem df_mv (i : Nat) {x : Str} (hN : X.N[i]? = some x := by rfl) (hv : Vis X.env.scope x := by first | exact Or.inl rfl | exact Or.inr (Or.inl rfl) | exact Or.inr (Or.inr rfl)) (hd : (x == ("__debug__" : Str)) = false := by decide)
    (hcd : (x == ("__classdict__" : Str)) = false := by decide) : DF X [i] (mvF i) (.Name x pos) := pe_weak (pe_var hN hv hd hcd) fun σ H Q ⟨G, env, F, p, env', s, hf, q⟩ => by
  unfold mvF at hf
  split at hf
  · rename_i n d e1
    simp only [Option.some.injEq, Prod.mk.injEq] at hf
    obtain ⟨rfl, rfl⟩ := hf
    obtain ⟨v, h1, h2⟩ := s.own i n _ e1
    refine ⟨v, h1, q v H G _ (F i) (s.clr1 i) (Evo.set fun a ha => by cases ha) h2 fun a ha => ⟨⟨s.free i a ha, fun j hj => ?_⟩, .inl ⟨i, ha⟩⟩⟩
    by_cases z : j = i
    · subst z
      rw [fset_same] at hj
      cases hj
    · rw [fset_ne z] at hj
      exact s.apart j i a z hj ha
  · rename_i d e1
    simp only [Option.some.injEq, Prod.mk.injEq] at hf
    obtain ⟨rfl, rfl⟩ := hf
    obtain ⟨v, h1, h2⟩ := s.shr i _ e1
    exact ⟨v, h1, q v H G F [] s Evo.refl (.shr (.inl rfl) h2) fun a ha => by cases ha⟩
  · cases hf

/-! ### assignments -/
def mkS (d : D) (n : Nat) : Slot := match n with
  | 0 => .shr d
  | n + 1 => .own (n + 1) d
theorem S.put {K : PySem.W.Frag} {σ : L2.St} {H G : Hp} {env : Env} {F : Nat → List Addr} (s : S K σ H G env F) {i n : Nat} {v : V} {d : D} {FT : List Addr} (hi : i < env.length) (ow : Own K G H n v d FT) (hf : ∀ a ∈ FT, G a = none ∧ ∀ j, a ∉ F j) :
    S K (σ.set i (some v)) H G (env.set i (mkS d n)) (fset F i FT) := by
  cases n with
  | zero =>
    cases ow with
    | shr c r => exact s.setShr r
  | succ n => exact s.setOwn (.inl hi) ow hf
theorem Evo.put {m : List Nat} {env env' : Env} {H G H' G' : Hp} {F F' : Nat → List Addr} (h : Evo m env H G F env' H' G' F') {i : Nat} {sl : Slot} {FT : List Addr} (hF : ∀ a ∈ FT, (∃ j, a ∈ F j) ∨ H a = none) : Evo (m ++ [i]) env H G F (env'.set i sl) H' G' (fset F' i FT) where
  l := (List.length_set).trans h.l
  g := h.g
  k := h.k
  f := fun j a ha => by
    by_cases e : j = i
    · subst e
      rw [fset_same] at ha
      exact hF a ha
    · rw [fset_ne e] at ha
      exact h.f j a ha
  n := h.n
  u := fun j hj => by
    have e : j ≠ i := fun q => hj (by rw [q]; exact List.mem_append_right _ List.mem_cons_self)
    obtain ⟨a1, a2, a3⟩ := h.u j fun q => hj (List.mem_append_left _ q)
    exact ⟨(env_set_ne e).trans a1, (fset_ne e).trans a2, a3⟩
def setS (i : Nat) (f : M (D × Nat)) : SF := fun env => (f env).bind fun p => if i < p.2.length then some (.nx (p.2.set i (mkS p.1.1 p.1.2))) else none
theorem ds_set {i : Nat} {x : Str} {pos' : Pos} {fd : M (D × Nat)} (hN : X.N.Nodup) (hi : X.N[i]? = some x) (hx : Loc X.env.scope x) (he : DF X m fd e) (hs : swapsWith e (some (.Name x pos')) pos.line X.env = pure false := by rfl)
    (hf : X.fn x = true ∨ X.env.scope.names.lookup x = some .local := by first | exact .inl rfl | exact .inr rfl | assumption) : DS X (m ++ [i]) [i] (setS i fd) (.Assign [.Name x pos'] e pos) :=
  ps_weak (ps_set hN hi hx he hs hf) fun Dn σ H ⟨G, env, F, o, s, hf, q⟩ => by
    obtain ⟨⟨⟨d, n⟩, e1⟩, h1, h2⟩ := bind_some' hf
    by_cases c : i < e1.length
    · rw [if_pos c] at h2
      cases h2
      refine ⟨G, env, F, (d, n), e1, s, h1, fun v H1 G1 F1 FT s1 ev1 ow hF => ?_⟩
      exact q _ H1 G1 _ (s1.put c ow fun a ha => (hF a ha).1) (ev1.put fun a ha => (hF a ha).2) Only.set
    · rw [if_neg c] at h2
      cases h2
/-- a, b = x, y -/
def setS2 (i j : Nat) (f1 f2 : M (D × Nat)) : SF := fun env => (f1 env).bind fun p => (f2 p.2).bind fun q => if i < q.2.length ∧ j < q.2.length ∧ i ≠ j then some (.nx ((q.2.set i (mkS p.1.1 p.1.2)).set j (mkS q.1.1 q.1.2))) else none
theorem Own.later {K : PySem.W.Frag} {m : List Nat} {env env' : Env} {H G H' G' : Hp} {F F' : Nat → List Addr} {n : Nat} {v : V} {d : D} {FT : List Addr} (ow : Own K G H n v d FT) (hf : ∀ a ∈ FT, G a = none ∧ ∀ j, a ∉ F j) (ev : Evo m env H G F env' H' G' F') :
    Own K G' H' n v d FT ∧ ∀ a ∈ FT, G' a = none ∧ ∀ j, a ∉ F' j := by
  have keep : ∀ a ∈ FT, H' a = H a := fun a ha => by
    obtain ⟨o, e, mo⟩ := ow.mut a ha
    rw [e]
    exact (ev.k a o e (hf a ha).2).mut mo
  refine ⟨ow.move ev.g keep, fun a ha => ⟨?_, fun j hj => ?_⟩⟩
  · cases q : G' a with
    | none => rfl
    | some o =>
      obtain ⟨u, e, _⟩ := ow.mut a ha
      rcases ev.n a o q with z | z | ⟨j, z⟩ | ⟨z, z2⟩
      · rw [(hf a ha).1] at z; cases z
      · rw [e] at z; cases z
      · exact absurd z ((hf a ha).2 j)
      · obtain ⟨u2, e2, m2⟩ := ow.mut a ha
        rw [z2] at e2
        cases e2
        exact (z.mut m2).elim
  · obtain ⟨u, e, _⟩ := ow.mut a ha
    rcases ev.f j a hj with ⟨k, z⟩ | z
    · exact (hf a ha).2 k z
    · rw [e] at z; cases z
theorem pa_two {a b : Expr} {t : TA} (h : PA X [a, b] t) : PA X [a, b] t := h
theorem ds_par {i j : Nat} {x y : Str} {a b : Expr} {px py pt : Pos} {kt k2 pt2} {fa fb : M (D × Nat)} (hc : X.calm = true) (hN : X.N.Nodup) (hi : X.N[i]? = some x) (hj : X.N[j]? = some y) (hij : i ≠ j)
    (hx : X.env.scope.names.lookup x = some .local) (hy : X.env.scope.names.lookup y = some .local) (ha : DF X m1 fa a) (hb : DF X m2 fb b)
    (hw : swappedStores [.Tuple [.Name x px, .Name y py] kt pt] (.Tuple [a, b] k2 pt2) X.env = pure (some [x, y]))
    (hs : swapsWithSole [.Tuple [.Name x px, .Name y py] kt pt] (.Tuple [a, b] k2 pt2) pos.line X.env = pure false := by rfl)
    (hs1 : starEach [a, b] X.env = (false, eval a X.env) :: starEach [b] X.env := by rfl) (hs2 : starEach [b] X.env = (false, eval b X.env) :: starEach [] X.env := by rfl) :
    DS X (m1 ++ m2 ++ [i] ++ [j]) ([i] ++ [j]) (setS2 i j fa fb) (.Assign [.Tuple [.Name x px, .Name y py] kt pt] (.Tuple [a, b] k2 pt2) pos) := by
  refine ps_weak (ps_par hc hN hi hj hij hx hy (pa_cons ha (pa_cons hb pa_nil hs2) hs1) hw hs) fun Dn σ H ⟨G, env, F, o, s, hf, q⟩ => ?_
  obtain ⟨⟨⟨d, n⟩, e1⟩, h1, h2⟩ := bind_some' hf
  obtain ⟨⟨⟨d2, n2⟩, e2⟩, h3, h4⟩ := bind_some' h2
  by_cases c : i < e2.length ∧ j < e2.length ∧ i ≠ j
  · rw [if_pos c] at h4
    cases h4
    refine ⟨G, env, F, (d, n), e1, s, h1, fun v H1 G1 F1 FT s1 ev1 ow hF => ⟨G1, e1, F1, (d2, n2), e2, s1, h3, fun w H2 G2 F2 FT2 s2 ev2 ow2 hF2 => ⟨v, w, rfl, ?_⟩⟩⟩
    obtain ⟨ow', hF'⟩ := ow.later (fun a ha => (hF a ha).1) ev2
    have ap : ∀ a ∈ FT2, a ∉ FT := fun a h2 h1 => by
      obtain ⟨o, ho, _⟩ := ow.mut a h1
      rcases (hF2 a h2).2 with ⟨k, hk⟩ | z
      · exact (hF a h1).1.2 k hk
      · rw [ho] at z; cases z
    have s3 := s2.put c.1 ow' hF'
    have s4 := s3.put (i := j) (by rw [List.length_set]; exact c.2.1) ow2 fun a ha => ⟨(hF2 a ha).1.1, fun k hk => by
      by_cases z : k = i
      · subst z
        rw [fset_same] at hk
        exact ap a ha hk
      · rw [fset_ne z] at hk
        exact (hF2 a ha).1.2 k hk⟩
    refine q _ H2 G2 _ s4 (Evo.put (Evo.put (ev1.trans ev2) fun a ha => (hF a ha).2) fun a ha => ?_) (Only.set.trans Only.set)
    rcases (hF2 a ha).2 with ⟨k, hk⟩ | z
    · exact ev1.f k a hk
    · exact (ev1.none_of z).elim .inr .inl
  · rw [if_neg c] at h4
    cases h4
/-! ### return, expressions as statements -/
def retS (f : M (D × Nat)) : SF := fun env => (f env).map fun p => .rt p.1.1 p.1.2 p.2
theorem ds_ret {fd : M (D × Nat)} (he : DF X m fd e) : DS X m [] (retS fd) (.Return (some e) pos) := ps_weak (ps_ret he) fun Dn σ H ⟨G, env, F, o, s, hf, q⟩ => by
  obtain ⟨⟨⟨d, n⟩, e1⟩, h1, rfl⟩ := map_some' hf
  exact ⟨G, env, F, (d, n), e1, s, h1, fun v H1 G1 F1 FT s1 ev1 ow hF => q v σ H1 G1 F1 FT s1 ev1 Only.refl ow hF⟩
def retN : SF := fun env => some (.rt .non 0 env)
theorem ds_retN : DS X [] [] retN (.Return none pos) := ps_weak ps_retN fun Dn σ H ⟨G, env, F, o, s, hf, q⟩ => by
  simp only [retN, Option.some.injEq] at hf
  subst hf
  exact q .non σ H G F [] s Evo.refl Only.refl (.shr (.inl rfl) .non) fun a ha => by cases ha
def exprS {α : Type} (f : M α) : SF := fun env => (f env).map fun p => .nx p.2
theorem ds_expr {fd : M D} (he : DE X m r fd e) (hs : swapsWith e none pos.line X.env = pure false := by rfl) : DS X m [] (exprS fd) (.Expr e pos) := ps_weak (ps_expr he hs) fun Dn σ H ⟨G, env, F, o, s, hf, q⟩ => by
  obtain ⟨⟨d, e1⟩, h1, rfl⟩ := map_some' hf
  exact ⟨G, env, F, d, e1, s, h1, fun v H1 G1 F1 s1 ev1 _ => q σ H1 G1 F1 s1 ev1 Only.refl⟩
end
end HD
set_option Elab.async false
set_option linter.all false
set_option maxRecDepth 100000
set_option maxHeartbeats 2000000
set_option autoImplicit false
/-! HD7: targets, what is walked, for and while by their data. -/
namespace HD
open PySem PySem.Spec PyProof.Rows L2
variable [Tb]

/-! ### targets -/
abbrev GF := D → Env → Option Env
abbrev GsF := List D → Env → Option Env
def tDG (K : PySem.W.Frag) (m : List Nat) (h : GF) : TG := fun v σ H Q => ∃ G env F d env', S K σ H G env F ∧ Rep K G v d ∧ h d env = some env' ∧ ∀ σ' F', S K σ' H G env' F' → Evo m env H G F env' H G F' → Only m σ σ' → Q σ' H
def tDGs (K : PySem.W.Frag) (m : List Nat) (h : GsF) : TGs := fun vs σ H Q => ∃ G env F ds env', S K σ H G env F ∧ Reps K G vs ds ∧ h ds env = some env' ∧ ∀ σ' F', S K σ' H G env' F' → Evo m env H G F env' H G F' → Only m σ σ' → Q σ' H
abbrev DG (X : Cx) (m : List Nat) (h : GF) (tg : Expr) : Prop := PG X tg (tDG X.K m h)
abbrev DGs (X : Cx) (m : List Nat) (h : GsF) (tgs : List Expr) : Prop := PGs X tgs (tDGs X.K m h)
def gnm (i : Nat) : GF := fun d env => if i < env.length then some (env.set i (.shr d)) else none
def gtup (h : GsF) : GF := fun d env => match d with
  | .tup ds => h ds env
  | _ => none
def gnil : GsF := fun ds env => match ds with
  | [] => some env
  | _ => none
def gcons (h : GF) (hs : GsF) : GsF := fun ds env => match ds with
  | d :: ds => (h d env).bind fun e => hs ds e
  | [] => none
section
variable {X : Cx} {pos : Pos} {tg : Expr} {tgs : List Expr} {m m1 m2 : List Nat}
theorem pg_weak {t t' : TG} (h : PG X tg t) (w : ∀ v σ H Q, t' v σ H Q → t v σ H Q) : PG X tg t' := ⟨fun pins s σ H v u Q I r q => h.run pins s σ H v u Q I r (w v σ H Q q)⟩
theorem pgs_weak {t t' : TGs} (h : PGs X tgs t) (w : ∀ v σ H Q, t' v σ H Q → t v σ H Q) : PGs X tgs t' := ⟨fun pins s σ H v u Q I r q => h.run pins s σ H v u Q I r (w v σ H Q q)⟩
theorem dg_nm {i : Nat} {x : Str} (hN : X.N.Nodup) (hi : X.N[i]? = some x) (hx : Loc X.env.scope x) (hf : X.fn x = true ∨ X.env.scope.names.lookup x = some .local := by first | exact .inl rfl | exact .inr rfl | assumption) : DG X [i] (gnm i) (.Name x pos) :=
  pg_weak (pg_name hN hi hx hf) fun v σ H Q ⟨G, env, F, d, env', s, rp, hh, q⟩ => by
    unfold gnm at hh
    split at hh
    · cases hh
      refine q _ _ (s.setShr rp) (Evo.set fun a ha => by cases ha) ⟨by rw [List.length_set], fun j hj => ?_⟩
      rw [List.getElem?_set_ne fun z => hj (by rw [z]; exact List.mem_cons_self)]
    · cases hh
theorem dgs_nil : DGs X [] gnil [] := pgs_weak pgs_nil fun vs σ H Q ⟨G, env, F, ds, env', s, rp, hh, q⟩ => by
  cases ds with
  | nil =>
    cases rp
    simp only [gnil, Option.some.injEq] at hh
    subst hh
    exact ⟨rfl, q σ F s Evo.refl Only.refl⟩
  | cons d ds => simp [gnil] at hh
theorem dgs_cons {h : GF} {hs : GsF} (h1 : DG X m1 h tg) (h2 : DGs X m2 hs tgs) (hst : (assignEach (tg :: tgs) X.env).map (·.2) = assign tg X.env :: (assignEach tgs X.env).map (·.2) := by rfl) : DGs X (m1 ++ m2) (gcons h hs) (tg :: tgs) :=
  pgs_weak (pgs_cons h1 h2 hst) fun vs σ H Q ⟨G, env, F, ds, env', s, rp, hh, q⟩ => by
    cases rp with
    | nil => simp [gcons] at hh
    | @cons v vs d ds r rr =>
      simp only [gcons] at hh
      obtain ⟨e1, h3, h4⟩ := bind_some' hh
      exact ⟨v, vs, rfl, G, env, F, d, e1, s, r, h3, fun σ1 F1 s1 ev1 o1 => ⟨G, e1, F1, ds, env', s1, rr, h4, fun σ2 F2 s2 ev2 o2 => q σ2 F2 s2 (ev1.trans ev2) (o1.trans o2)⟩⟩
theorem gs_len {hs : GsF} : True := trivial
theorem dg_tup {h : GsF} {k n : Nat} (hc : X.calm = true) (hg : DGs X m h tgs) (hl : ∀ ds env env', h ds env = some env' → ds.length = n) (hn : (assignEach tgs X.env).length = n := by rfl) (hst : (assignEach tgs X.env).findIdx? (·.1) = none := by rfl) : DG X m (gtup h) (.Tuple tgs k pos) :=
  pg_weak (pg_tup hc hg hn hst) fun v σ H Q ⟨G, env, F, d, env', s, rp, hh, q⟩ => by
    cases rp with
    | @tup a xs ds ha hx =>
      simp only [gtup] at hh
      exact ⟨a, xs, rfl, SqT.of (s.same _ _ ha), by rw [hx.length]; exact hl ds env env' hh, G, env, F, ds, env', s, hx, hh, q⟩
    | _ => simp [gtup] at hh
theorem glen0 : ∀ ds env env', gnil ds env = some env' → ds.length = 0 := fun ds env env' h => by
  cases ds with
  | nil => rfl
  | cons _ _ => simp [gnil] at h
theorem glenS {h : GF} {hs : GsF} {n : Nat} (k : ∀ ds env env', hs ds env = some env' → ds.length = n) : ∀ ds env env', gcons h hs ds env = some env' → ds.length = n + 1 := fun ds env env' q => by
  cases ds with
  | nil => simp [gcons] at q
  | cons d ds =>
    simp only [gcons] at q
    obtain ⟨e, _, h2⟩ := bind_some' q
    rw [List.length_cons, k _ _ _ h2]
/-- targets = a tuple that is there -/
def asgS (f : M (D × Nat)) (h : GF) : SF := fun env => (f env).bind fun p => if p.1.2 = 0 then (h p.1.1 p.2).map fun e => .nx e else none
theorem ds_asg {e : Expr} {fd : M (D × Nat)} {h : GF} (he : DF X m1 fd e) (hg : DG X m2 h tg) (hs : swapsWithSole [tg] e pos.line X.env = pure false := by rfl) (hw : swappedStores [tg] e X.env = pure none := by rfl)
    (h1 : (assignEach [tg] X.env).map (·.2) = [assign tg X.env] := by rfl) : DS X (m1 ++ m2) m2 (asgS fd h) (.Assign [tg] e pos) := ps_weak (ps_asg he hg hs hw h1) fun Dn σ H ⟨G, env, F, o, s, hf, q⟩ => by
  obtain ⟨⟨⟨d, n⟩, e1⟩, h2, h3⟩ := bind_some' hf
  by_cases c : n = 0
  · subst c
    simp at h3
    obtain ⟨e2, h4, rfl⟩ := h3
    refine ⟨G, env, F, (d, 0), e1, s, h2, fun v H1 G1 F1 FT s1 ev1 ow hF => ?_⟩
    cases ow with
    | shr c r => exact ⟨G1, e1, F1, d, e2, s1, r, h4, fun σ' F' s2 ev2 on => q σ' H1 G1 F' s2 (ev1.trans ev2) on⟩
  · simp [c] at h3
end

/-! ### what is walked -/
/-- J gives ds, as long as the slots r stand (or st: in any case) -/
def ItD (K : PySem.W.Frag) (r : List Nat) (st : Bool) (env : Env) (H G : Hp) (F : Nat → List Addr) (J : It) (ds : List D) : Prop :=
  ∀ m σ' env' H' G' F', S K σ' H' G' env' F' → Evo m env H G F env' H' G' F' → (dj r m || st) = true →
    (∀ i d, ds[i]? = some d → J.go i H' ∧ ∀ x H'', J.yld i H' x H'' → ∃ W'', Grow (vw r H' G' F') H' W'' H'' ∧ Rep K W'' x d) ∧ J.stop ds.length H'
def tDI (K : PySem.W.Frag) (m r : List Nat) (f : M (List D × Bool)) : TI := fun σ H R => ∃ G env F p env', S K σ H G env F ∧ f env = some (p, env') ∧
  ∀ J H' G' F', S K σ H' G' env' F' → Evo m env H G F env' H' G' F' → ItD K r p.2 env' H' G' F' J p.1 → R J H'
abbrev DI (X : Cx) (m r : List Nat) (f : M (List D × Bool)) (tg it : Expr) : Prop := PI X tg it (tDI X.K m r f)
def seqOf : D → Option (List D)
  | .lst ds => some ds
  | .tup ds => some ds
  | _ => none
def walk (f : M D) : M (List D × Bool) := fun env => (f env).bind fun p => (seqOf p.1).map fun ds => ((ds, p.1.im), p.2)
/-- an argument list, then what is walked of it -/
def wk (f : M (List D)) (g : List D → Option (List D × Bool)) : M (List D × Bool) := fun env => (f env).bind fun p => (g p.1).map fun q => (q, p.2)
def rngD (lo : Int) (n : Nat) : List D := (List.range n).map fun (k : Nat) => D.int (lo + (k : Int))
def rng1 : List D → Option (List D × Bool)
  | [.int j] => if smB j = true then some (rngD 0 j.toNat, true) else none
  | _ => none
def rng2 : List D → Option (List D × Bool)
  | [.int i, .int j] => if (smB i && smB j) = true then some (rngD i (j - i).toNat, true) else none
  | _ => none
def pairD (x y : D) : D := .tup [x, y]
def zip2 : List D → Option (List D × Bool)
  | [.lst xs, .lst ys] => some (List.zipWith pairD xs ys, false)
  | [.tup xs, .tup ys] => some (List.zipWith pairD xs ys, D.ims xs && D.ims ys)
  | _ => none
def enum1 : List D → Option (List D × Bool)
  | [.lst xs] => some (xs.mapIdx fun (i : Nat) x => pairD (.int (i : Int)) x, false)
  | [.tup xs] => some (xs.mapIdx fun (i : Nat) x => pairD (.int (i : Int)) x, D.ims xs)
  | _ => none
/-- a frozen sequence, seen at a later time -/
theorem later_rep {K : PySem.W.Frag} {m r : List Nat} {env env' : Env} {H G H' G' : Hp} {F F' : Nat → List Addr} {σ σ' : L2.St} {v : V} {d : D} {st : Bool} (s : S K σ H G env F) (rp : Rep K (vw r H G F) v d) (hst : st = true → d.im = true) (s' : S K σ' H' G' env' F') (ev : Evo m env H G F env' H' G' F') (c : (dj r m || st) = true) : Rep K (vw r H' G' F') v d := by
  refine keepRep s s' ev rp ?_ fun i hi => hi
  rw [Bool.or_eq_true] at c ⊢
  exact c.imp_right hst
section
variable {X : Cx} {tg it : Expr} {m r : List Nat} {pos : Pos}
theorem pi_weak {t t' : TI} (h : PI X tg it t) (w : ∀ σ H R, t' σ H R → t σ H R) : PI X tg it t' := ⟨fun pins s σ H R I q => h.run pins s σ H R I (w σ H R q)⟩
theorem PI.or {t t' : TI} (h : PI X tg it t) (h' : PI X tg it t') : PI X tg it (fun σ H R => t σ H R ∨ t' σ H R) := ⟨fun pins s σ H R I q => q.elim (h.run pins s σ H R I) (h'.run pins s σ H R I)⟩
/-- the expression is asked once, then the value's own kind decides -/
theorem di_seq {l : Expr} {fd : M D} (hl : DE X m r fd l) : DI X m r (walk fd) tg l := by
  refine ⟨fun pins s σ H R I h => ?_⟩
  obtain ⟨G, env, F, ⟨ds, st⟩, env', sS, hf, q⟩ := h
  obtain ⟨⟨d, e1⟩, h1, h2⟩ := bind_some' hf
  obtain ⟨ds', h3, h4⟩ := map_some' h2
  simp at h4
  obtain ⟨⟨rfl, rfl⟩, rfl⟩ := h4
  refine thn (hl.run pins s σ H (fun v H' => ∃ G' F', S X.K σ H' G' e1 F' ∧ Evo m env H G F e1 H' G' F' ∧ Rep X.K (vw r H' G' F') v d) I ⟨G, env, F, d, e1, sS, h1, fun v H' G' F' s' ev rp => ⟨G', F', s', ev, rp⟩⟩) fun v s1 ⟨x, H1, I1, r1, G1, F1, sS1, ev1, rp1⟩ => ?_
  cases rp1 with
  | @lst a xs es ha hx =>
    simp [seqOf] at h3
    subst h3
    cases r1
    have hq : SqL X.K H1 a xs := SqL.of (sS1.vwH r _ _ ha)
    obtain ⟨its, rv, p, hz⟩ := I1.list hq
    refine wpAny_pyIter_list p.isList ?_
    refine ⟨s1.heap.objs.size, [s1.heap.objs.size], _, _, H1, rfl, I1.kept (t' := s1.toks) fun b o e => Heap.get?_push_of_some _ e, turn_list a _, ⟨_, Heap.get?_push_size _ rfl, rfl, rfl⟩, fun b hb => ?_, q _ H1 G1 F1 sS1 ev1 ?_⟩
    · have e : b = s1.heap.objs.size := by simpa using hb
      subst e
      exact I1.fpOk (Nat.le_refl _) (I1.hok.fresh (Nat.le_refl _))
    · intro m' σ' env' H' G' F' s' ev c
      have rp := later_rep sS1 (Rep.lst ha hx) (fun z => z) s' ev c
      cases rp with
      | lst hb hy =>
        have hL := s'.vwH r _ _ hb
        refine ⟨fun i d hd => ?_, ⟨_, SqL.of hL, by rw [hy.length]; exact Nat.le_refl _⟩⟩
        obtain ⟨w, hw, rw'⟩ := hy.get hd
        refine ⟨⟨_, w, SqL.of hL, hw⟩, fun x H'' ⟨e, y⟩ => ?_⟩
        subst e
        have : w = x := Option.some.inj (hw.symm.trans (y _ (SqL.of hL)))
        subst this
        exact ⟨_, Grow.refl (s'.vwH r), rw'⟩
  | @tup a xs es ha hx =>
    simp [seqOf] at h3
    subst h3
    cases r1
    have hq : SqT X.K H1 a xs := SqT.of (sS1.vwH r _ _ ha)
    obtain ⟨its, rv, p, hz⟩ := I1.tuple hq
    refine wpAny_pyIter_tuple (show s1.heap.IsTuple a its.toArray from p) ?_
    refine ⟨s1.heap.objs.size, [s1.heap.objs.size], _, _, H1, rfl, I1.kept (t' := s1.toks) fun b o e => Heap.get?_push_of_some _ e, turn_tuple a _, ⟨_, Heap.get?_push_size _ rfl, rfl, rfl⟩, fun b hb => ?_, q _ H1 G1 F1 sS1 ev1 ?_⟩
    · have e : b = s1.heap.objs.size := by simpa using hb
      subst e
      exact I1.fpOk (Nat.le_refl _) (I1.hok.fresh (Nat.le_refl _))
    · intro m' σ' env' H' G' F' s' ev c
      have rp := later_rep sS1 (Rep.tup ha hx) (fun z => z) s' ev c
      cases rp with
      | tup hb hy =>
        have hL := s'.vwH r _ _ hb
        refine ⟨fun i d hd => ?_, ⟨_, SqT.of hL, by rw [hy.length]; exact Nat.le_refl _⟩⟩
        obtain ⟨w, hw, rw'⟩ := hy.get hd
        refine ⟨⟨_, w, SqT.of hL, hw⟩, fun x H'' ⟨e, y⟩ => ?_⟩
        subst e
        have : w = x := Option.some.inj (hw.symm.trans (y _ (SqT.of hL)))
        subst this
        exact ⟨_, Grow.refl (s'.vwH r), rw'⟩
  | _ => simp [seqOf] at h3
theorem rngD_get {lo : Int} {n i : Nat} {d : D} (h : (rngD lo n)[i]? = some d) : i < n ∧ d = .int (lo + (i : Int)) := by
  unfold rngD at h
  rw [List.getElem?_map] at h
  obtain ⟨k, hk, rfl⟩ := Option.map_eq_some_iff.mp h
  have hi := (List.getElem?_eq_some_iff.mp hk).1
  rw [List.length_range] at hi
  have e : k = i := by
    have := (List.getElem?_eq_some_iff.mp hk).2
    simpa using this.symm
  subst e
  exact ⟨hi, rfl⟩
theorem rngD_len {lo : Int} {n : Nat} : (rngD lo n).length = n := by
  unfold rngD
  rw [List.length_map, List.length_range]
theorem itd_range {K : PySem.W.Frag} {lo : Int} {n : Nat} {env : Env} {H G : Hp} {F : Nat → List Addr} {r : List Nat} : ItD K r true env H G F (Itr lo n) (rngD lo n) := by
  intro m σ' env' H' G' F' s' ev c
  refine ⟨fun i d hd => ?_, by show n ≤ _; rw [rngD_len]; exact Nat.le_refl _⟩
  obtain ⟨hi, rfl⟩ := rngD_get hd
  refine ⟨hi, fun x H'' ⟨e1, e2⟩ => ?_⟩
  subst e1 e2
  exact ⟨_, Grow.refl (s'.vwH _), .int _⟩
theorem wk_some {f : M (List D)} {g : List D → Option (List D × Bool)} {env env' : Env} {q : List D × Bool} (h : wk f g env = some (q, env')) : ∃ xs, f env = some (xs, env') ∧ g xs = some q := by
  obtain ⟨⟨xs, e1⟩, h1, h2⟩ := bind_some' h
  obtain ⟨q', h3, h4⟩ := map_some' h2
  simp at h4
  obtain ⟨rfl, rfl⟩ := h4
  exact ⟨xs, h1, h3⟩
theorem di_range1 {a : Expr} {fs : M (List D)} {p : Pos} (hg : Gl X "range") (hm : X.mg "range" = none) (ha : DA X m r fs [a]) (hs : starEach [a] X.env = [(false, eval a X.env)] := by rfl) : DI X m r (wk fs rng1) tg (.Call (.Name "range" p) [a] [] pos) := by
  refine pi_weak (pi_range1 hg hm ha hs) fun σ H R ⟨G, env, F, ⟨ds, st⟩, env', s, hf, q⟩ => ?_
  obtain ⟨xs, h1, h2⟩ := wk_some hf
  refine ⟨G, env, F, xs, env', s, h1, fun vs H1 G1 F1 s1 ev1 rp => ?_⟩
  unfold rng1 at h2
  split at h2
  · rename_i j
    obtain ⟨v, rfl, rv⟩ := reps1 rp
    cases rv
    split at h2
    · rename_i c
      cases h2
      rw [smB_iff] at c
      exact ⟨j, rfl, by omega, by omega, q _ H1 G1 F1 s1 ev1 itd_range⟩
    · cases h2
  · cases h2
theorem di_range2 {a b : Expr} {fs : M (List D)} {p : Pos} (hg : Gl X "range") (hm : X.mg "range" = none) (ha : DA X m r fs [a, b]) (hs : starEach [a, b] X.env = [(false, eval a X.env), (false, eval b X.env)] := by rfl) (hs2 : starEach [b] X.env = [(false, eval b X.env)] := by rfl) :
    DI X m r (wk fs rng2) tg (.Call (.Name "range" p) [a, b] [] pos) := by
  refine pi_weak (pi_range2 hg hm ha hs hs2) fun σ H R ⟨G, env, F, ⟨ds, st⟩, env', s, hf, q⟩ => ?_
  obtain ⟨xs, h1, h2⟩ := wk_some hf
  refine ⟨G, env, F, xs, env', s, h1, fun vs H1 G1 F1 s1 ev1 rp => ?_⟩
  unfold rng2 at h2
  split at h2
  · rename_i i j
    obtain ⟨v, w, rfl, rv, rw'⟩ := reps2 rp
    cases rv
    cases rw'
    split at h2
    · rename_i c
      cases h2
      rw [Bool.and_eq_true, smB_iff, smB_iff] at c
      exact ⟨i, j, rfl, ⟨by omega, by omega, by omega, by omega⟩, q _ H1 G1 F1 s1 ev1 itd_range⟩
    · cases h2
  · cases h2
theorem di_zip {e e2 : Expr} {fs : M (List D)} {p tpos : Pos} {elts : List Expr} {kk : Nat} (hg : Gl X "zip") (hm : X.mg "zip" = none) (ha : DA X m r fs [e, e2])
    (hs : starEach [e, e2] X.env = (false, eval e X.env) :: starEach [e2] X.env := by rfl) (hpl : (backTo pos (starEach [e2] X.env)).any (·.1) = false := by rfl) :
    DI X m r (wk fs zip2) (.Tuple elts kk tpos) (.Call (.Name "zip" p) [e, e2] [] pos) := by
  refine pi_weak (RZ.pi_zipA hg hm ha hs hpl) fun σ H R ⟨G, env, F, ⟨ds, st⟩, env', s, hf, q⟩ => ?_
  obtain ⟨xs, h1, h2⟩ := wk_some hf
  refine ⟨G, env, F, xs, env', s, h1, fun vs H1 G1 F1 s1 ev1 rp => ?_⟩
  unfold zip2 at h2
  split at h2
  · rename_i xs ys
    obtain ⟨v, w, rfl, rv, rw'⟩ := reps2 rp
    cases h2
    cases rv with
    | @lst a us _ ha hx =>
      cases rw' with
      | @lst b ws _ hb hy =>
        have sV := s1.vwH r
        refine ⟨a, b, us, ws, rfl, .inl ⟨SqL.of (sV _ _ ha), SqL.of (sV _ _ hb), q _ H1 G1 F1 s1 ev1 ?_⟩⟩
        intro m' σ' env' H' G' F' s' ev c
        have r1 := later_rep s1 (Rep.lst ha hx) (fun z => Bool.noConfusion z) s' ev c
        have r2 := later_rep s1 (Rep.lst hb hy) (fun z => Bool.noConfusion z) s' ev c
        cases r1 with
        | @lst _ us' _ ha' hx' =>
          cases r2 with
          | @lst _ ws' _ hb' hy' =>
            have sV' := s'.vwH r
            refine ⟨fun i d hd => ?_, ⟨us', ws', SqL.of (sV' _ _ ha'), SqL.of (sV' _ _ hb'), ?_⟩⟩
            · rw [List.getElem?_zipWith] at hd
              cases e1 : xs[i]? with
              | none => rw [e1] at hd; simp at hd
              | some x =>
                cases e2 : ys[i]? with
                | none => rw [e1, e2] at hd; simp at hd
                | some y =>
                  rw [e1, e2] at hd
                  simp at hd
                  subst hd
                  obtain ⟨u, hu, ru⟩ := hx'.get e1
                  obtain ⟨w, hw, rw'⟩ := hy'.get e2
                  refine ⟨⟨us', ws', u, w, SqL.of (sV' _ _ ha'), SqL.of (sV' _ _ hb'), hu, hw⟩, fun v H'' ⟨T, u2, w2, e3, hT, e4, k1, k2⟩ => ?_⟩
                  subst e3 e4
                  have z1 : u = u2 := Option.some.inj (hu.symm.trans (k1 _ (SqL.of (sV' _ _ ha'))))
                  have z2 : w = w2 := Option.some.inj (hw.symm.trans (k2 _ (SqL.of (sV' _ _ hb'))))
                  subst z1 z2
                  have sn := same_new (o := HO.tup [u, w]) (sV'.free hT)
                  exact ⟨_, Grow.new sV' hT, .tup upd_same (.cons (ru.mono sn) (.cons (rw'.mono sn) .nil))⟩
            · rw [List.length_zipWith, hx'.length, hy'.length]
              omega
  · rename_i xs ys
    obtain ⟨v, w, rfl, rv, rw'⟩ := reps2 rp
    cases h2
    cases rv with
    | @tup a us _ ha hx =>
      cases rw' with
      | @tup b ws _ hb hy =>
        have sV := s1.vwH r
        refine ⟨a, b, us, ws, rfl, .inr ⟨SqT.of (sV _ _ ha), SqT.of (sV _ _ hb), q _ H1 G1 F1 s1 ev1 ?_⟩⟩
        intro m' σ' env' H' G' F' s' ev c
        have r1 := later_rep s1 (Rep.tup ha hx) (fun z => by rw [Bool.and_eq_true] at z; simp only [D.im]; exact z.1) s' ev c
        have r2 := later_rep s1 (Rep.tup hb hy) (fun z => by rw [Bool.and_eq_true] at z; simp only [D.im]; exact z.2) s' ev c
        cases r1 with
        | @tup _ us' _ ha' hx' =>
          cases r2 with
          | @tup _ ws' _ hb' hy' =>
            have sV' := s'.vwH r
            refine ⟨fun i d hd => ?_, ⟨us', ws', SqT.of (sV' _ _ ha'), SqT.of (sV' _ _ hb'), ?_⟩⟩
            · rw [List.getElem?_zipWith] at hd
              cases e1 : xs[i]? with
              | none => rw [e1] at hd; simp at hd
              | some x =>
                cases e2 : ys[i]? with
                | none => rw [e1, e2] at hd; simp at hd
                | some y =>
                  rw [e1, e2] at hd
                  simp at hd
                  subst hd
                  obtain ⟨u, hu, ru⟩ := hx'.get e1
                  obtain ⟨w, hw, rw'⟩ := hy'.get e2
                  refine ⟨⟨us', ws', u, w, SqT.of (sV' _ _ ha'), SqT.of (sV' _ _ hb'), hu, hw⟩, fun v H'' ⟨T, u2, w2, e3, hT, e4, k1, k2⟩ => ?_⟩
                  subst e3 e4
                  have z1 : u = u2 := Option.some.inj (hu.symm.trans (k1 _ (SqT.of (sV' _ _ ha'))))
                  have z2 : w = w2 := Option.some.inj (hw.symm.trans (k2 _ (SqT.of (sV' _ _ hb'))))
                  subst z1 z2
                  have sn := same_new (o := HO.tup [u, w]) (sV'.free hT)
                  exact ⟨_, Grow.new sV' hT, .tup upd_same (.cons (ru.mono sn) (.cons (rw'.mono sn) .nil))⟩
            · rw [List.length_zipWith, hx'.length, hy'.length]
              omega
  · cases h2

/-! ### for -/
def loopD (rE : Bool) (tgt : GF) (body : SF) : List D → Env → Option Out
  | [], env => some (.nx env)
  | d :: ds, env => if (rE || d.im) = true then (tgt d env).bind fun e1 => (body e1).bind fun o => match o with
      | .nx e2 => loopD rE tgt body ds e2
      | .ct e2 => loopD rE tgt body ds e2
      | .bk e2 => some (.nx e2)
      | .rt d n e2 => some (.rt d n e2)
    else none
def forS (rE dj' : Bool) (it : M (List D × Bool)) (tgt : GF) (body : SF) : SF := fun env => (it env).bind fun p => if (dj' || p.1.2) = true then loopD rE tgt body p.1.1 p.2 else none
theorem ds_for {body : List Stmt} {fi : M (List D × Bool)} {gt : GF} {fb : SF} {mt mb wb : List Nat} (hp : PassesOwn (model X.prog X.w) X.A X.env X.xe) (hc : X.calm = true) (hi : DI X m r fi tg it) (hg : DG X mt gt tg) (hb : DB X mb wb fb body)
    (hs : ∀ x, foldedSetIterable it X.env x = pure x := by intro _; rfl) : DS X (m ++ (mt ++ mb)) (mt ++ wb) (forS r.isEmpty (dj r (mt ++ mb)) fi gt fb) (.For tg it body [] pos) := by
  refine ps_weak (ps_for hp hc hi hg hb hs) fun Dn σ H ⟨G, env, F, o, s, hf, q⟩ => ?_
  obtain ⟨⟨⟨ds, st⟩, e0⟩, h1, h2⟩ := bind_some' hf
  have c : (dj r (mt ++ mb) || st) = true := by
    cases hc : (dj r (mt ++ mb) || st) with
    | true => rfl
    | false => simp [hc] at h2
  simp only [] at h2
  rw [if_pos c] at h2
  refine ⟨G, env, F, (ds, st), e0, s, h1, fun J H0 G0 F0 s0 ev0 hJ => ?_⟩
  have q0 := q.back0 ev0
  refine ⟨fun i k σ' H' => k = ds.length - i ∧ i ≤ ds.length ∧ ∃ G' env' F', S X.K σ' H' G' env' F' ∧ Evo (mt ++ mb) e0 H0 G0 F0 env' H' G' F' ∧ Only (mt ++ wb) σ σ' ∧ loopD r.isEmpty gt fb (ds.drop i) env' = some o, ⟨_, rfl, Nat.zero_le _, G0, e0, F0, s0, Evo.refl, Only.refl, h2⟩, ?_⟩
  rintro i k σ1 H1 ⟨rfl, hi, G1, e1, F1, s1, ev1, on1, hl⟩
  obtain ⟨j1, j2⟩ := hJ _ _ _ _ _ _ s1 ev1 c
  by_cases hlt : i < ds.length
  · rw [List.drop_eq_getElem_cons hlt] at hl
    obtain ⟨go, yl⟩ := j1 i ds[i] (List.getElem?_eq_getElem hlt)
    refine .inr ⟨go, fun σ' H' => ∃ G' env' F', S X.K σ' H' G' env' F' ∧ Evo (mt ++ mb) e0 H0 G0 F0 env' H' G' F' ∧ Only (mt ++ wb) σ σ' ∧ loopD r.isEmpty gt fb (ds.drop (i + 1)) env' = some o, fun σ' H' ⟨G', env', F', a, b, c⟩ => ⟨_, by omega, rfl, hlt, G', env', F', a, b, c⟩, fun x H2 hy => ?_⟩
    obtain ⟨W2, gr, rx⟩ := yl x H2 hy
    obtain ⟨s2, ev2, sm⟩ := s1.grow gr
    unfold loopD at hl
    have cd : (r.isEmpty || (ds[i]).im) = true := by
      cases hc : (r.isEmpty || (ds[i]).im) with
      | true => rfl
      | false => simp [hc] at hl
    rw [if_pos cd] at hl
    obtain ⟨e3, h3, h4⟩ := bind_some' hl
    obtain ⟨o1, h5, h6⟩ := bind_some' h4
    have rf : Rep X.K (grown G1 H1 W2) x ds[i] := by
      have rz := rx.mono sm
      rw [Bool.or_eq_true] at cd
      rcases cd with z | z
      · rw [List.isEmpty_iff] at z
        subst z
        rw [vw_nil] at rz
        exact rz
      · exact s2.im rz z
    refine ⟨_, e1, F1, ds[i], e3, s2, rf, h3, fun σ3 F3 s3 ev3 on3 => ⟨_, e3, F3, o1, s3, h5, ?_⟩⟩
    have ev13 : Evo (mt ++ mb) e0 H0 G0 F0 e3 H2 (grown G1 H1 W2) F3 := ((ev1.trans ev2).trans ev3).mono fun i hi => by
      simp only [List.mem_append] at hi ⊢
      rcases hi with (hi | hi) | hi
      · exact hi
      · cases hi
      · exact .inl hi
    have cl : ∀ {H' G' env' F'}, Evo mb e3 H2 (grown G1 H1 W2) F3 env' H' G' F' → Evo (mt ++ mb) e0 H0 G0 F0 env' H' G' F' := fun {H' G' env' F'} ev => (ev13.trans ev).mono fun i hi => by
      simp only [List.mem_append] at hi ⊢
      rcases hi with hi | hi
      · exact hi
      · exact .inr hi
    have cn : ∀ {σ' : L2.St}, Only wb σ3 σ' → Only (mt ++ wb) σ σ' := fun {σ'} on => ((on1.trans on3).trans on).mono fun i hi => by
      simp only [List.mem_append] at hi ⊢
      rcases hi with (hi | hi) | hi
      · exact hi
      · exact .inl hi
      · exact .inr hi
    cases o1 with
    | nx e4 => exact fun σ' H' G' F' s4 ev4 on4 => ⟨G', e4, F', s4, cl ev4, cn on4, h6⟩
    | ct e4 => exact fun σ' H' G' F' s4 ev4 on4 => ⟨G', e4, F', s4, cl ev4, cn on4, h6⟩
    | bk e4 =>
      cases h6
      exact fun σ' H' G' F' s4 ev4 on4 => q0 σ' H' G' F' s4 (cl ev4) (cn on4)
    | rt d n e4 =>
      cases h6
      refine fun v σ' H' G' F' FT s4 ev4 on4 ow hF => q0 v σ' H' G' F' FT s4 (cl ev4) (cn on4) ow fun a ha => ?_
      obtain ⟨x, y⟩ := hF a ha
      refine ⟨x, ?_⟩
      rcases y with ⟨j, hj⟩ | z
      · exact ev13.f j a hj
      · exact (ev13.none_of z).elim .inr .inl
  · have e : i = ds.length := by omega
    subst e
    rw [List.drop_length] at hl
    unfold loopD at hl
    cases hl
    exact .inl ⟨j2, q0 σ1 H1 G1 F1 s1 ev1 on1⟩
/-! ### while -/
def whD (c : M Bool) (body : SF) : Nat → Env → Option Out
  | 0, _ => none
  | n + 1, env => (c env).bind fun p => if p.1 = true then (body p.2).bind fun o => match o with
      | .nx e2 => whD c body n e2
      | .ct e2 => whD c body n e2
      | .bk e2 => some (.nx e2)
      | .rt d k e2 => some (.rt d k e2)
    else some (.nx p.2)
omit [Tb] in
theorem whD_mono {c : M Bool} {body : SF} {o : Out} : ∀ {n N : Nat} {env : Env}, n ≤ N → whD c body n env = some o → whD c body N env = some o
  | 0, _, _, _, h => by cases h
  | n + 1, 0, _, hn, _ => by omega
  | n + 1, N + 1, env, hn, h => by
    unfold whD at h ⊢
    obtain ⟨⟨b, e2⟩, h1, h2⟩ := bind_some' h
    rw [h1, Option.bind_some]
    cases b with
    | false => simpa using h2
    | true =>
      simp only [if_true] at h2 ⊢
      obtain ⟨o1, h3, h4⟩ := bind_some' h2
      rw [h3, Option.bind_some]
      cases o1 with
      | nx e4 => exact whD_mono (by omega) h4
      | ct e4 => exact whD_mono (by omega) h4
      | bk e4 => exact h4
      | rt d k e4 => exact h4
theorem ds_while {c : Expr} {body : List Stmt} {fc : M Bool} {fb : SF} {mb wb : List Nat} (N : Nat) (hp : PassesOwn (model X.prog X.w) X.A X.env X.xe) (hc : DT X m fc c) (hb : DB X mb wb fb body) : DS X (m ++ mb) wb (whD fc fb N) (.While c body [] pos) := by
  refine ps_weak (ps_while hp hc hb) fun Dn σ H ⟨G, env, F, o, s, hf, q⟩ => ?_
  refine ⟨fun k σ' H' => ∃ G' env' F', S X.K σ' H' G' env' F' ∧ Evo (m ++ mb) env H G F env' H' G' F' ∧ Only wb σ σ' ∧ whD fc fb k env' = some o, ⟨N, G, env, F, s, Evo.refl, Only.refl, hf⟩, ?_⟩
  rintro k σ1 H1 ⟨G1, e1, F1, s1, ev1, on1, hw⟩
  cases k with
  | zero => cases hw
  | succ k =>
    unfold whD at hw
    obtain ⟨⟨b, e2⟩, h1, h2⟩ := bind_some' hw
    refine ⟨G1, e1, F1, b, e2, s1, h1, fun H2 G2 F2 s2 ev2 => ?_⟩
    have ev12 : Evo (m ++ mb) env H G F e2 H2 G2 F2 := (ev1.trans ev2).mono fun i hi => by
      simp only [List.mem_append] at hi ⊢
      rcases hi with hi | hi
      · exact hi
      · exact .inl hi
    have cl : ∀ {H' G' env' F'}, Evo mb e2 H2 G2 F2 env' H' G' F' → Evo (m ++ mb) env H G F env' H' G' F' := fun {H' G' env' F'} ev => (ev12.trans ev).mono fun i hi => by
      simp only [List.mem_append] at hi ⊢
      rcases hi with hi | hi
      · exact hi
      · exact .inr hi
    cases b with
    | false =>
      simp at h2
      subst h2
      simp only [Bool.false_eq_true, if_false]
      exact q σ1 H2 G2 F2 s2 ev12 on1
    | true =>
      simp only [if_true] at h2 ⊢
      obtain ⟨o1, h3, h4⟩ := bind_some' h2
      refine ⟨fun σ' H' => ∃ G' env' F', S X.K σ' H' G' env' F' ∧ Evo (m ++ mb) env H G F env' H' G' F' ∧ Only wb σ σ' ∧ whD fc fb k env' = some o, fun σ' H' z => ⟨k, Nat.lt_succ_self _, z⟩, G2, e2, F2, o1, s2, h3, ?_⟩
      have cn : ∀ {σ' : L2.St}, Only wb σ1 σ' → Only wb σ σ' := fun {σ'} on => (on1.trans on).mono fun i hi => by simpa using hi
      cases o1 with
      | nx e4 => exact fun σ' H' G' F' s4 ev4 on4 => ⟨G', e4, F', s4, cl ev4, cn on4, h4⟩
      | ct e4 => exact fun σ' H' G' F' s4 ev4 on4 => ⟨G', e4, F', s4, cl ev4, cn on4, h4⟩
      | bk e4 =>
        cases h4
        exact fun σ' H' G' F' s4 ev4 on4 => q σ' H' G' F' s4 (cl ev4) (cn on4)
      | rt d n e4 =>
        cases h4
        refine fun v σ' H' G' F' FT s4 ev4 on4 ow hF => q v σ' H' G' F' FT s4 (cl ev4) (cn on4) ow fun a ha => ?_
        obtain ⟨x, y⟩ := hF a ha
        refine ⟨x, ?_⟩
        rcases y with ⟨j, hj⟩ | z
        · exact ev12.f j a hj
        · exact (ev12.none_of z).elim .inr .inl
end
end HD
set_option Elab.async false
set_option linter.all false
set_option maxRecDepth 100000
set_option maxHeartbeats 2000000
set_option autoImplicit false
/-! HD8: list comprehensions by their data. -/
namespace HD
open PySem PySem.Spec PyProof.Rows L2
variable [Tb]

/-! ### slots let go and got back -/
def clr (env : Env) : List Nat → Env
  | [] => env
  | v :: vs => (clr env vs).set v .none
def fclr (F : Nat → List Addr) : List Nat → Nat → List Addr
  | [] => F
  | v :: vs => fset (fclr F vs) v []
def rst (env0 env : Env) : List Nat → Env
  | [] => env
  | v :: vs => (rst env0 env vs).set v ((env0[v]?).getD .none)
def noOwn (env : Env) (vs : List Nat) : Bool := vs.all fun v => match env[v]? with
  | some (.own _ _) => false
  | some _ => true
  | none => false
theorem wipe_get (σ : L2.St) (vs : List Nat) (i : Nat) : (wipe σ vs)[i]? = if i ∈ vs ∧ i < σ.length then some none else σ[i]? := by
  induction vs with
  | nil => simp [wipe]
  | cons v vs ih =>
    unfold wipe
    by_cases e : i = v
    · subst e
      by_cases h : i < σ.length
      · rw [List.getElem?_set_self (by rw [wipe_length]; exact h), if_pos ⟨List.mem_cons_self, h⟩]
      · rw [List.getElem?_eq_none (by rw [List.length_set, wipe_length]; omega), if_neg (fun z => h z.2), List.getElem?_eq_none (by omega)]
    · rw [List.getElem?_set_ne (Ne.symm e), ih]
      simp [e]
theorem wipe_only {mt vs : List Nat} {σ σ2 : L2.St} (o : Only mt (wipe σ vs) σ2) (h : ∀ i ∈ mt, i ∈ vs) : wipe σ2 vs = wipe σ vs := by
  have hl : σ2.length = σ.length := o.1.trans (wipe_length σ vs)
  apply List.ext_getElem?
  intro i
  rw [wipe_get, wipe_get, hl]
  by_cases c : i ∈ vs ∧ i < σ.length
  · rw [if_pos c, if_pos c]
  · rw [if_neg c, if_neg c]
    by_cases m : i ∈ mt
    · have hi : ¬ i < σ.length := fun z => c ⟨h i m, z⟩
      rw [List.getElem?_eq_none (by omega), List.getElem?_eq_none (by omega)]
    · rw [o.2 i m, wipe_get, if_neg c]
omit [Tb] in
theorem clr_len (env : Env) (vs : List Nat) : (clr env vs).length = env.length := by
  induction vs with
  | nil => rfl
  | cons v vs ih => unfold clr; rw [List.length_set, ih]
omit [Tb] in
theorem rst_len (e0 env : Env) (vs : List Nat) : (rst e0 env vs).length = env.length := by
  induction vs with
  | nil => rfl
  | cons v vs ih => unfold rst; rw [List.length_set, ih]
omit [Tb] in
theorem clr_get (env : Env) (vs : List Nat) (i : Nat) : (clr env vs)[i]? = if i ∈ vs ∧ i < env.length then some .none else env[i]? := by
  induction vs with
  | nil => simp [clr]
  | cons v vs ih =>
    unfold clr
    by_cases e : i = v
    · subst e
      by_cases h : i < env.length
      · rw [List.getElem?_set_self (by rw [clr_len]; exact h), if_pos ⟨List.mem_cons_self, h⟩]
      · rw [List.getElem?_eq_none (by rw [List.length_set, clr_len]; omega), if_neg (fun z => h z.2), List.getElem?_eq_none (by omega)]
    · rw [List.getElem?_set_ne (Ne.symm e), ih]
      simp [e]
omit [Tb] in
theorem rst_get (e0 env : Env) (vs : List Nat) (i : Nat) : (rst e0 env vs)[i]? = if i ∈ vs ∧ i < env.length then some ((e0[i]?).getD .none) else env[i]? := by
  induction vs with
  | nil => simp [rst]
  | cons v vs ih =>
    unfold rst
    by_cases e : i = v
    · subst e
      by_cases h : i < env.length
      · rw [List.getElem?_set_self (by rw [rst_len]; exact h), if_pos ⟨List.mem_cons_self, h⟩]
      · rw [List.getElem?_eq_none (by rw [List.length_set, rst_len]; omega), if_neg (fun z => h z.2), List.getElem?_eq_none (by omega)]
    · rw [List.getElem?_set_ne (Ne.symm e), ih]
      simp [e]
theorem fclr_get (F : Nat → List Addr) (vs : List Nat) (i : Nat) : fclr F vs i = if i ∈ vs then [] else F i := by
  induction vs with
  | nil => simp [fclr]
  | cons v vs ih =>
    unfold fclr
    by_cases e : i = v
    · subst e
      rw [fset_same, if_pos List.mem_cons_self]
    · rw [fset_ne e, ih]
      simp [e]
section
variable {K : PySem.W.Frag} {σ σ' : L2.St} {H G H1 G1 : Hp} {env env1 : Env} {F F1 : Nat → List Addr}
theorem S.clrs (s : S K σ H G env F) : ∀ vs : List Nat, S K σ H G (clr env vs) (fclr F vs)
  | [] => s
  | v :: vs => (S.clrs s vs).clr1 v
theorem S.sub (s : S K σ H G env F) (hl : env.length ≤ σ'.length) (h : ∀ (i : Nat) (x : Slot), env[i]? = some x → x ≠ .none → σ'[i]? = σ[i]?) : S K σ' H G env F :=
  ⟨s.same, fun i d e => by
    obtain ⟨v, h1, h2⟩ := s.shr i d e
    exact ⟨v, (h i _ e (fun z => by cases z)).trans h1, h2⟩, fun i n d e => by
    obtain ⟨v, h1, h2⟩ := s.own i n d e
    exact ⟨v, (h i _ e (fun z => by cases z)).trans h1, h2⟩, s.emp, s.free, s.apart, hl, s.tb⟩
theorem S.wiped (s : S K σ H G env F) (vs : List Nat) : S K (wipe σ vs) H G (clr env vs) (fclr F vs) :=
  (s.clrs vs).sub (by rw [clr_len, wipe_length]; exact s.len) fun i x e ne => by
    rw [clr_get] at e
    by_cases c : i ∈ vs ∧ i < env.length
    · rw [if_pos c] at e
      cases e
      exact absurd rfl ne
    · rw [if_neg c] at e
      have hi := (List.getElem?_eq_some_iff.mp e).1
      rw [wipe_get, if_neg fun z => c ⟨z.1, hi⟩]
theorem Evo.clrs (m : List Nat) (h : Evo m env H G F env1 H1 G1 F1) (vs : List Nat) : Evo (vs ++ m) env H G F (clr env1 vs) H1 G1 (fclr F1 vs) where
  l := (clr_len env1 vs).trans h.l
  g := h.g
  k := h.k
  f := fun i a ha => by
    rw [fclr_get] at ha
    split at ha
    · cases ha
    · exact h.f i a ha
  n := h.n
  u := fun i hi => by
    have hv : i ∉ vs := fun z => hi (List.mem_append_left _ z)
    obtain ⟨a1, a2, a3⟩ := h.u i fun z => hi (List.mem_append_right _ z)
    exact ⟨by rw [clr_get, if_neg fun z => hv z.1]; exact a1, by rw [fclr_get, if_neg hv]; exact a2, a3⟩
/-- behind a block: its own names' slots as they were -/
theorem S.back {H0 G0 : Hp} {env0 : Env} {F0 : Nat → List Addr} {vs : List Nat} (s0 : S K σ H0 G0 env0 F0) (no : noOwn env0 vs = true) (s : S K (wipe σ vs) H G env F) (he : env.length = env0.length) (gg : Same G0 G) : S K σ H G (rst env0 env vs) F := by
  have hv : ∀ i ∈ vs, (∃ x, env0[i]? = some x ∧ ∀ n d, x ≠ .own n d) ∧ ∀ x, env[i]? = some x → x = .none := fun i hi => by
    have q := List.all_eq_true.mp no i hi
    refine ⟨?_, fun x hx => ?_⟩
    · cases z : env0[i]? with
      | none => rw [z] at q; cases q
      | some x =>
        rw [z] at q
        refine ⟨x, rfl, fun n d e => ?_⟩
        subst e
        cases q
    · have hl : i < σ.length := Nat.lt_of_lt_of_le (List.getElem?_eq_some_iff.mp hx).1 (by rw [← wipe_length σ vs]; exact s.len)
      have w : (wipe σ vs)[i]? = some none := by rw [wipe_get, if_pos ⟨hi, hl⟩]
      cases x with
      | none => rfl
      | shr d =>
        obtain ⟨v, h1, _⟩ := s.shr i d hx
        rw [w] at h1
        cases h1
      | own n d =>
        obtain ⟨v, h1, _⟩ := s.own i n d hx
        rw [w] at h1
        cases h1
  have key : ∀ (i : Nat) (x : Slot), (rst env0 env vs)[i]? = some x → (i ∈ vs ∧ env0[i]? = some x) ∨ (i ∉ vs ∧ env[i]? = some x) := fun i x e => by
    rw [rst_get] at e
    by_cases c : i ∈ vs ∧ i < env.length
    · rw [if_pos c] at e
      obtain ⟨y, hy, _⟩ := (hv i c.1).1
      rw [hy] at e
      exact .inl ⟨c.1, by rw [hy]; exact e⟩
    · rw [if_neg c] at e
      exact .inr ⟨fun z => c ⟨z, (List.getElem?_eq_some_iff.mp e).1⟩, e⟩
  refine ⟨s.same, fun i d e => ?_, fun i n d e => ?_, fun i h => ?_, s.free, s.apart, by rw [rst_len, he]; exact s0.len, s.tb⟩
  · rcases key i _ e with ⟨_, q⟩ | ⟨hi, q⟩
    · obtain ⟨v, h1, h2⟩ := s0.shr i d q
      exact ⟨v, h1, h2.mono gg⟩
    · obtain ⟨v, h1, h2⟩ := s.shr i d q
      exact ⟨v, (wipe_some h1).1, h2⟩
  · rcases key i _ e with ⟨hi, q⟩ | ⟨hi, q⟩
    · obtain ⟨x, hx, ne⟩ := (hv i hi).1
      rw [hx] at q
      cases q
      exact absurd rfl (ne n d)
    · obtain ⟨v, h1, h2⟩ := s.own i n d q
      exact ⟨v, (wipe_some h1).1, h2⟩
  · refine s.emp i fun n d q => ?_
    by_cases hi : i ∈ vs
    · cases (hv i hi).2 _ q
    · exact h n d (by rw [rst_get, if_neg fun z => hi z.1]; exact q)
theorem Evo.back {m : List Nat} {H0 G0 : Hp} {env0 : Env} {F0 : Nat → List Addr} {vs : List Nat} (s0 : S K σ H0 G0 env0 F0) (no : noOwn env0 vs = true) (s : S K (wipe σ vs) H G env F) (he : env.length = env0.length) (ev : Evo (vs ++ m) env0 H0 G0 F0 env H G F) : Evo m env0 H0 G0 F0 (rst env0 env vs) H G F where
  l := (rst_len env0 env vs).trans he
  g := ev.g
  k := ev.k
  f := ev.f
  n := ev.n
  u := fun i hi => by
    by_cases c : i ∈ vs
    · have q := List.all_eq_true.mp no i c
      have hF0 : F0 i = [] := s0.emp i fun n d e => by rw [e] at q; cases q
      have hl : i < env0.length := by
        cases z : env0[i]? with
        | none => rw [z] at q; cases q
        | some x => exact (List.getElem?_eq_some_iff.mp z).1
      have hF : F i = [] := s.emp i fun n d e => by
        obtain ⟨v, h1, _⟩ := s.own i n d e
        rw [wipe_get, if_pos ⟨c, Nat.lt_of_lt_of_le hl s0.len⟩] at h1
        cases h1
      refine ⟨?_, by rw [hF, hF0], fun a ha => by rw [hF0] at ha; cases ha⟩
      rw [rst_get, if_pos ⟨c, by rw [he]; exact hl⟩, List.getElem?_eq_getElem hl]
      rfl
    · obtain ⟨a1, a2, a3⟩ := ev.u i fun z => (List.mem_append.mp z).elim c hi
      exact ⟨by rw [rst_get, if_neg fun z => c z.1]; exact a1, a2, a3⟩
/-- a new object, of nobody yet -/
theorem S.updOut (s : S K σ H G env F) {p : Addr} {o : HO} (hG : G p = none) (hF : ∀ i, p ∉ F i) (hm : ∀ u, H p = some u → MutO u) : S K σ (upd H p o) G env F := by
  have keep : ∀ i, ∀ a ∈ F i, upd H p o a = H a := fun i a ha => upd_ne fun z => hF i (by rw [← z]; exact ha)
  refine ⟨fun a u e => ?_, s.shr, fun i n d e => ?_, s.emp, s.free, s.apart, s.len, s.tb.upd hm⟩
  · rw [upd_ne (ne_of_none e hG)]
    exact s.same a u e
  · obtain ⟨w, q1, q2⟩ := s.own i n d e
    exact ⟨w, q1, q2.move (Same.refl _) (keep i)⟩
theorem Evo.updOut {m : List Nat} (ev : Evo m env H G F env1 H1 G1 F1) {p : Addr} {o : HO} (hn : H p = none) (hF : ∀ i, p ∉ F i) : Evo m env H G F env1 (upd H1 p o) G1 F1 :=
  ⟨ev.g, fun a u e1 e2 => by rw [upd_ne (ne_of_none e1 hn)]; exact ev.k a u e1 e2, ev.f, ev.n, fun i hi => by
    obtain ⟨a1, a2, a3⟩ := ev.u i hi
    exact ⟨a1, a2, fun a ha => by rw [upd_ne fun z => hF i (by rw [← z]; exact ha)]; exact a3 a ha⟩, ev.l⟩
end

/-! ### the comprehension -/
structure Cmp where
  rE : Bool
  tgt : GF
  tst : M Bool
  elt : M D
  rEe : Bool
  vs : List Nat
def compL (c : Cmp) : List D → Env → Option (List D × Env)
  | [], env => some ([], env)
  | d :: ds, env => if (c.rE || d.im) = true then (c.tgt d env).bind fun e1 => (c.tst e1).bind fun p =>
      if p.1 = true then (c.elt p.2).bind fun q => if (c.rEe || q.1.im) = true then (compL c ds (clr q.2 c.vs)).map fun r => (q.1 :: r.1, r.2) else none
      else compL c ds (clr p.2 c.vs)
    else none
def compF (dj' : Bool) (it : M (List D × Bool)) (c : Cmp) : M (D × Nat) := fun env => (it env).bind fun p =>
  if ((dj' || p.1.2) && noOwn p.2 c.vs && decide (p.1.1.length ≤ 16777216)) = true then (compL c p.1.1 (clr p.2 c.vs)).map fun r => ((.lst r.1, 1), rst p.2 r.2 c.vs) else none
def yes : M Bool := fun env => some (true, env)
abbrev DTs (X : Cx) (m : List Nat) (f : M Bool) (ifs : List Expr) : Prop := PTs X ifs (tDT X.K m f)
section
variable {X : Cx} {m r : List Nat} {pos : Pos}
theorem pts_weak {ifs : List Expr} {t t' : TT} (h : PTs X ifs t) (w : ∀ σ H Q, t' σ H Q → t σ H Q) : PTs X ifs t' := ⟨fun pins s σ H Q I q => h.run pins s σ H Q I (w σ H Q q)⟩
theorem dts_nil : DTs X [] yes [] := pts_weak pts_nil fun σ H Q ⟨G, env, F, b, env', s, hf, q⟩ => by
  simp only [yes, Option.some.injEq, Prod.mk.injEq] at hf
  obtain ⟨rfl, rfl⟩ := hf
  exact q H G F s Evo.refl
theorem dts_one {c : Expr} {f : M Bool} (h : DT X m f c) : DTs X m f [c] := pts_one h
theorem Evo.out {m : List Nat} {env env' : Env} {H G H' G' : Hp} {F F' : Nat → List Addr} (ev : Evo m env H G F env' H' G' F') {p : Addr} {o : HO} (h : H p = some o) (g : G p = none) (f : ∀ j, p ∉ F j) (mo : ∀ ps, o ≠ .tbl ps := by intro ps z; cases z) (mt : ¬ TupO o := by rintro ⟨xs, z⟩; cases z) : H' p = some o ∧ G' p = none ∧ ∀ j, p ∉ F' j := by
  refine ⟨(ev.k p o h f).eq mo, ?_, fun j hj => ?_⟩
  · cases z : G' p with
    | none => rfl
    | some u =>
      rcases ev.n p u z with w | w | ⟨j, w⟩ | ⟨w, w2⟩
      · rw [g] at w; cases w
      · rw [h] at w; cases w
      · exact absurd w (f j)
      · rw [h] at w2; cases w2; exact absurd w mt
  · rcases ev.f j p hj with ⟨k, w⟩ | w
    · exact f k w
    · rw [h] at w; cases w
theorem lc_read {own : List (Str × Nat)} {tg it : Expr} {fi : M (List D × Bool)} {c : Cmp} {mt ms me re : List Nat} (hvs : c.vs = own.map (·.2)) (hrE : c.rE = r.isEmpty) (hre : c.rEe = re.isEmpty) (hmt : ∀ i ∈ mt, i ∈ c.vs) {σ : L2.St} {H : Hp} {Q : VK}
    (h : tDF X.K (m ++ (ms ++ me)) (compF (dj r (c.vs ++ (ms ++ me))) fi c) σ H Q) : tLc (tDI X.K m r fi) (tDG X.K mt c.tgt) (tDT X.K ms c.tst) (tD X.K me re c.elt) (own.map (·.2)) σ H Q := by
  obtain ⟨G, env, F, ⟨d, n⟩, env', s, hf, q⟩ := h
  obtain ⟨⟨⟨ds, st⟩, e0⟩, h1, h2⟩ := bind_some' hf
  have cc : ((dj r (c.vs ++ (ms ++ me)) || st) && noOwn e0 c.vs && decide (ds.length ≤ 16777216)) = true := by
    cases hc : ((dj r (c.vs ++ (ms ++ me)) || st) && noOwn e0 c.vs && decide (ds.length ≤ 16777216)) with
    | true => rfl
    | false => simp [hc] at h2
  simp only [] at h2
  rw [if_pos cc] at h2
  obtain ⟨⟨xs, ez⟩, h3, h4⟩ := map_some' h2
  simp at h4
  obtain ⟨⟨rfl, rfl⟩, rfl⟩ := h4
  rw [Bool.and_eq_true, Bool.and_eq_true, decide_eq_true_eq] at cc
  obtain ⟨⟨c1, no⟩, hz⟩ := cc
  rw [← hvs]
  refine ⟨G, env, F, (ds, st), e0, s, h1, fun J H0 G0 F0 s0 ev0 hJ Dd hD => ?_⟩
  have hG0 : G0 Dd = none := s0.same.free hD
  have hF0 : ∀ j, Dd ∉ F0 j := fun j hj => by
    obtain ⟨u, hu, _⟩ := s0.mut hj
    rw [hD] at hu
    cases hu
  have hFc : ∀ j, Dd ∉ fclr F0 c.vs j := fun j hj => by
    rw [fclr_get] at hj
    split at hj
    · cases hj
    · exact hF0 j hj
  -- W: by the turn
  refine ⟨fun i k H' => k = ds.length - i ∧ i ≤ ds.length ∧ ∃ G' env' F' acc ys zs, S X.K (wipe σ c.vs) H' G' env' F' ∧ Evo (c.vs ++ (ms ++ me)) e0 H0 G0 F0 env' H' G' F' ∧ (H' Dd = some (.lst acc) ∧ G' Dd = none ∧ ∀ j, Dd ∉ F' j) ∧ acc.length ≤ i ∧ Reps X.K G' acc ys ∧ xs = ys ++ zs ∧ compL c (ds.drop i) env' = some (zs, ez), ⟨_, rfl, Nat.zero_le _, G0, clr e0 c.vs, fclr F0 c.vs, [], [], xs, (s0.wiped c.vs).updOut hG0 hFc (mutN hD), (Evo.clrs (ms ++ me) Evo.refl c.vs).updOut hD hF0, ⟨upd_same, hG0, hFc⟩, Nat.zero_le _, .nil, rfl, h3⟩, ?_⟩
  rintro i k H1 ⟨rfl, hi, G1, e1, F1, acc, ys, zs, s1, ev1, hA, hacc, rA, exs, hl⟩
  obtain ⟨j1, j2⟩ := hJ _ _ _ _ _ _ s1 ev1 c1
  by_cases hlt : i < ds.length
  · rw [List.drop_eq_getElem_cons hlt] at hl
    obtain ⟨go, yl⟩ := j1 i ds[i] (List.getElem?_eq_getElem hlt)
    refine .inr ⟨go, fun H' => ∃ G' env' F' acc ys zs, S X.K (wipe σ c.vs) H' G' env' F' ∧ Evo (c.vs ++ (ms ++ me)) e0 H0 G0 F0 env' H' G' F' ∧ (H' Dd = some (.lst acc) ∧ G' Dd = none ∧ ∀ j, Dd ∉ F' j) ∧ acc.length ≤ i + 1 ∧ Reps X.K G' acc ys ∧ xs = ys ++ zs ∧ compL c (ds.drop (i + 1)) env' = some (zs, ez), fun H' z => ⟨_, by omega, rfl, hlt, z⟩, fun x H2 hy => ?_⟩
    obtain ⟨W2, gr, rx⟩ := yl x H2 hy
    obtain ⟨s2, ev2, sm⟩ := s1.grow gr
    have hA2 := ev2.out hA.1 hA.2.1 hA.2.2
    unfold compL at hl
    have cd : (c.rE || (ds[i]).im) = true := by
      cases hc : (c.rE || (ds[i]).im) with
      | true => rfl
      | false => simp [hc] at hl
    rw [if_pos cd] at hl
    obtain ⟨e3, h3, h4⟩ := bind_some' hl
    obtain ⟨⟨b, e4⟩, h5, h6⟩ := bind_some' h4
    have rf : Rep X.K (grown G1 H1 W2) x ds[i] := by
      have rz := rx.mono sm
      rw [Bool.or_eq_true] at cd
      rcases cd with z | z
      · rw [hrE, List.isEmpty_iff] at z
        subst z
        rw [vw_nil] at rz
        exact rz
      · exact s2.im rz z
    refine ⟨_, e1, F1, ds[i], e3, s2, rf, h3, fun σ3 F3 s3 ev3 on => ⟨wipe_only on hmt, grown G1 H1 W2, e3, F3, b, e4, s3, h5, fun H4 G4 F4 s4 ev4 => ?_⟩⟩
    have hA4 := ev4.out (ev3.out hA2.1 hA2.2.1 hA2.2.2).1 (ev3.out hA2.1 hA2.2.1 hA2.2.2).2.1 (ev3.out hA2.1 hA2.2.1 hA2.2.2).2.2
    have ev14 : Evo (c.vs ++ (ms ++ me)) e0 H0 G0 F0 e4 H4 G4 F4 := (((ev1.trans ev2).trans ev3).trans ev4).mono fun i hi => by
      simp only [List.mem_append] at hi ⊢
      rcases hi with ((hi | hi) | hi) | hi
      · exact hi
      · cases hi
      · exact .inl (hmt i hi)
      · exact .inr (.inl hi)
    have g14 : Same G1 G4 := ((ev2.g).trans ev3.g).trans ev4.g
    have we : wipe σ3 c.vs = wipe σ c.vs := wipe_only on hmt
    cases b with
    | true =>
      rw [if_pos rfl] at h6
      show if true = true then _ else _
      rw [if_pos rfl]
      obtain ⟨⟨y, e5⟩, h7, h8⟩ := bind_some' h6
      have ce : (c.rEe || y.im) = true := by
        cases hc : (c.rEe || y.im) with
        | true => rfl
        | false => simp [hc] at h8
      simp only [] at h8
      rw [if_pos ce] at h8
      obtain ⟨⟨zs', ez'⟩, h9, h10⟩ := map_some' h8
      simp at h10
      obtain ⟨rfl, rfl⟩ := h10
      refine ⟨G4, e4, F4, y, e5, s4, h7, fun v H5 G5 F5 s5 ev5 rp5 => ?_⟩
      have hA5 := ev5.out hA4.1 hA4.2.1 hA4.2.2
      have rv : Rep X.K G5 v y := by
        rw [Bool.or_eq_true] at ce
        rcases ce with z | z
        · rw [hre, List.isEmpty_iff] at z
          subst z
          rw [vw_nil] at rp5
          exact rp5
        · exact s5.im rp5 z
      have ev15 : Evo (c.vs ++ (ms ++ me)) e0 H0 G0 F0 e5 H5 G5 F5 := (ev14.trans ev5).mono fun i hi => by
        simp only [List.mem_append] at hi ⊢
        rcases hi with hi | hi
        · exact hi
        · exact .inr (.inr hi)
      have hF6 : ∀ j, Dd ∉ fclr F5 c.vs j := fun j hj => by
        rw [fclr_get] at hj
        split at hj
        · cases hj
        · exact hA5.2.2 j hj
      have s6 := s5.wiped c.vs
      rw [we] at s6
      refine ⟨acc, hA5.1, by rw [sizeLine_eq]; omega, G5, clr e5 c.vs, fclr F5 c.vs, acc ++ [v], ys ++ [y], zs', s6.updOut hA5.2.1 hF6 (mutS hA5.1 trivial), ((Evo.clrs _ ev15 c.vs).mono fun i hi => ?_).updOut hD hF0, ⟨upd_same, hA5.2.1, hF6⟩, by rw [List.length_append]; exact Nat.succ_le_succ hacc, (rA.mono (g14.trans ev5.g)).app (.cons rv .nil), by rw [exs, List.append_assoc]; rfl, h9⟩
      simp only [List.mem_append] at hi ⊢
      rcases hi with hi | hi
      · exact .inl hi
      · exact hi
    | false =>
      rw [if_neg Bool.false_ne_true] at h6
      show if false = true then _ else _
      rw [if_neg Bool.false_ne_true]
      have hF6 : ∀ j, Dd ∉ fclr F4 c.vs j := fun j hj => by
        rw [fclr_get] at hj
        split at hj
        · cases hj
        · exact hA4.2.2 j hj
      have s6 := s4.wiped c.vs
      rw [we] at s6
      refine ⟨G4, clr e4 c.vs, fclr F4 c.vs, acc, ys, zs, s6, (Evo.clrs _ ev14 c.vs).mono fun i hi => ?_, ⟨hA4.1, hA4.2.1, hF6⟩, by omega, rA.mono g14, exs, h6⟩
      simp only [List.mem_append] at hi ⊢
      rcases hi with hi | hi
      · exact .inl hi
      · exact hi
  · have e : i = ds.length := by omega
    subst e
    rw [List.drop_length] at hl
    simp only [compL, Option.some.injEq, Prod.mk.injEq] at hl
    obtain ⟨rfl, rfl⟩ := hl
    rw [List.append_nil] at exs
    subst exs
    have le : e1.length = e0.length := ev1.l
    have s9 := s0.back no s1 le ev1.g
    have ev9 := Evo.back s0 no s1 le ev1
    refine .inl ⟨j2, q _ H1 G1 F1 [Dd] s9 ((ev0.trans ev9).mono fun i hi => hi) (.lst hA.1 rA.owns (by simp)) fun a ha => ?_⟩
    have e : a = Dd := by simpa using ha
    subst e
    exact ⟨⟨hA.2.1, hA.2.2⟩, (ev0.none_of hD).elim .inr .inl⟩
/-- [elt for target in it if ..] -/
theorem df_lc {elt tg it : Expr} {ifs : List Expr} {scope : Scope} {own : List (Str × Nat)} {fi : M (List D × Bool)} {c : Cmp} {mt ms me re : List Nat} (hc : X.calm = true) (hN : X.N.Nodup) (hi : DI X m r fi tg it) (ok : BlkOk X.N X.env.scope scope own) (hvs : c.vs = own.map (·.2)) (hrE : c.rE = r.isEmpty) (hre : c.rEe = re.isEmpty) (hmt : ∀ i ∈ mt, i ∈ c.vs)
    (hg : ∀ (s : Shared) (H : Hp) (C : Addr) (cl : List (Str × Addr)) (fp : List Addr), DG (X.blk s H scope (compEnvC scope cl C X.env) fp) mt c.tgt tg) (ht : ∀ (s : Shared) (H : Hp) (C : Addr) (cl : List (Str × Addr)) (fp : List Addr), DTs (X.blk s H scope (compEnvC scope cl C X.env) fp) ms c.tst ifs)
    (he : ∀ (s : Shared) (H : Hp) (C : Addr) (cl : List (Str × Addr)) (fp : List Addr), DE (X.blk s H scope (compEnvC scope cl C X.env) fp) me re c.elt elt) (hs : ∀ x, foldedSetIterable it X.env x = pure x := by intro _; rfl) :
    DF X (m ++ (ms ++ me)) (compF (dj r (c.vs ++ (ms ++ me))) fi c) (.ListComp elt [⟨tg, it, ifs, 0⟩] scope pos) :=
  pe_weak (pe_lc (g := tDG X.K mt c.tgt) (tt := tDT X.K ms c.tst) (te := tD X.K me re c.elt) hc hN hi ok hg ht he hs) fun σ H Q h => lc_read (tg := tg) (it := it) hvs hrE hre hmt h
theorem ds_setW {st : Stmt} {i : Nat} {fd : M (D × Nat)} {t0 : TE} (h : PS X st (tAsg t0 (gName i))) (w : ∀ σ H Q, tDF X.K m fd σ H Q → t0 σ H Q) : DS X (m ++ [i]) [i] (setS i fd) st :=
  ps_weak h fun Dn σ H ⟨G, env, F, o, s, hf, q⟩ => by
    obtain ⟨⟨⟨d, n⟩, e1⟩, h1, h2⟩ := bind_some' hf
    by_cases c : i < e1.length
    · rw [if_pos c] at h2
      cases h2
      exact w σ H _ ⟨G, env, F, (d, n), e1, s, h1, fun v H1 G1 F1 FT s1 ev1 ow hF => q _ H1 G1 _ (s1.put c ow fun a ha => (hF a ha).1) (ev1.put fun a ha => (hF a ha).2) Only.set⟩
    · rw [if_neg c] at h2
      cases h2
/-- name = [..] on one line, the name a local -/
theorem ds_setLc {i : Nat} {y : Str} {py : Pos} {elt tg it : Expr} {ifs : List Expr} {scope : Scope} {own : List (Str × Nat)} {fi : M (List D × Bool)} {c : Cmp} {mt ms me re : List Nat} {spos : Pos} (hc : X.calm = true) (hN : X.N.Nodup) (hi : DI X m r fi tg it) (ok : BlkOk X.N X.env.scope scope own) (hvs : c.vs = own.map (·.2)) (hrE : c.rE = r.isEmpty) (hre : c.rEe = re.isEmpty) (hmt : ∀ i ∈ mt, i ∈ c.vs)
    (hg : ∀ (s : Shared) (H : Hp) (C : Addr) (cl : List (Str × Addr)) (fp : List Addr), DG (X.blk s H scope (compEnvC scope cl C X.env) fp) mt c.tgt tg) (ht : ∀ (s : Shared) (H : Hp) (C : Addr) (cl : List (Str × Addr)) (fp : List Addr), DTs (X.blk s H scope (compEnvC scope cl C X.env) fp) ms c.tst ifs)
    (he : ∀ (s : Shared) (H : Hp) (C : Addr) (cl : List (Str × Addr)) (fp : List Addr), DE (X.blk s H scope (compEnvC scope cl C X.env) fp) me re c.elt elt)
    (hy : X.N[i]? = some y := by rfl) (hyl : X.env.scope.names.lookup y = some .local := by rfl) (hsw : swapsWith (.ListComp elt [⟨tg, it, ifs, 0⟩] scope pos) (some (.Name y py)) spos.line X.env = pure true := by rfl) (hs : ∀ x, foldedSetIterable it X.env x = pure x := by intro _; rfl) :
    DS X ((m ++ (ms ++ me)) ++ [i]) [i] (setS i (compF (dj r (c.vs ++ (ms ++ me))) fi c)) (.Assign [.Name y py] (.ListComp elt [⟨tg, it, ifs, 0⟩] scope pos) spos) :=
  ds_setW (ps_setLc (g := tDG X.K mt c.tgt) (tt := tDT X.K ms c.tst) (te := tD X.K me re c.elt) hc hN hy hyl hsw hi ok hg ht he hs) fun σ H Q h => lc_read (tg := tg) (it := it) hvs hrE hre hmt h
end
end HD
set_option Elab.async false
set_option linter.all false
set_option maxRecDepth 100000
set_option maxHeartbeats 2000000
set_option autoImplicit false
/-! HD9: defs by their data, and their calls. -/
namespace HD
open PySem PySem.Spec PyProof.Rows L2
variable [Tb]

/-- a def's meaning: of the arguments' data the result, to which depth it is fresh, and what the arguments that may change are then -/
abbrev FnD := List D → Option (D × Nat × List D)
/-- the arguments: none: frozen; some n: owned to depth n, to be changed -/
inductive ArgsR (K : PySem.W.Frag) (G H : Hp) : List (Option Nat) → List V → List D → List (List Addr) → Prop
  | nil : ArgsR K G H [] [] [] []
  | shr {ms : List (Option Nat)} {v : V} {vs : List V} {d : D} {ds : List D} {Fs : List (List Addr)} : Rep K G v d → ArgsR K G H ms vs ds Fs → ArgsR K G H (none :: ms) (v :: vs) (d :: ds) ([] :: Fs)
  | io {n : Nat} {ms : List (Option Nat)} {v : V} {vs : List V} {d : D} {ds : List D} {F : List Addr} {Fs : List (List Addr)} : Own K G H n v d F → ArgsR K G H ms vs ds Fs → ArgsR K G H (some n :: ms) (v :: vs) (d :: ds) (F :: Fs)
/-- those that may change, behind the call -/
inductive IoR (K : PySem.W.Frag) (G H : Hp) : List (Option Nat) → List V → List D → List (List Addr) → Prop
  | nil : IoR K G H [] [] [] []
  | shr {ms : List (Option Nat)} {v : V} {vs : List V} {d : D} {ds : List D} {Fs : List (List Addr)} : IoR K G H ms vs ds Fs → IoR K G H (none :: ms) (v :: vs) (d :: ds) ([] :: Fs)
  | io {n : Nat} {ms : List (Option Nat)} {v : V} {vs : List V} {d : D} {ds : List D} {F : List Addr} {Fs : List (List Addr)} : Own K G H n v d F → IoR K G H ms vs ds Fs → IoR K G H (some n :: ms) (v :: vs) (d :: ds) (F :: Fs)
def fat (Fs : List (List Addr)) (i : Nat) : List Addr := Fs.getD i []
def spD (K : PySem.W.Frag) (ms : List (Option Nat)) (φ : FnD) : Sp := fun vs H Q _ => ∃ G ds Fs r n outs, Same G H ∧ TbOk G H ∧ ArgsR K G H ms vs ds Fs ∧ (∀ i a, a ∈ fat Fs i → G a = none) ∧ (∀ i j a, i ≠ j → a ∈ fat Fs i → a ∉ fat Fs j) ∧ φ ds = some (r, n, outs) ∧
  ∀ v H' G' Fs' FT, Same G G' → Same G' H' → TbOk G' H' → (∀ a o, H a = some o → (∀ i, a ∉ fat Fs i) → KO o (H' a)) → (∀ a o, G' a = some o → G a = some o ∨ H a = none ∨ (∃ i, a ∈ fat Fs i) ∨ (TupO o ∧ H a = some o)) →
    IoR K G' H' ms vs outs Fs' → (∀ i a, a ∈ fat Fs' i → ((∃ j, a ∈ fat Fs j) ∨ H a = none) ∧ G' a = none) → (∀ i j a, i ≠ j → a ∈ fat Fs' i → a ∉ fat Fs' j) →
    Own K G' H' n v r FT → (∀ a ∈ FT, ((∃ j, a ∈ fat Fs j) ∨ H a = none) ∧ G' a = none ∧ ∀ i, a ∉ fat Fs' i) → Q v H'
theorem ArgsR.len {K : PySem.W.Frag} {G H : Hp} {ms : List (Option Nat)} {vs : List V} {ds : List D} {Fs : List (List Addr)} (h : ArgsR K G H ms vs ds Fs) : vs.length = ms.length ∧ ds.length = ms.length ∧ Fs.length = ms.length := by
  induction h with
  | nil => exact ⟨rfl, rfl, rfl⟩
  | shr _ _ ih => simp [ih]
  | io _ _ ih => simp [ih]
theorem fat_cons (F : List Addr) (Fs : List (List Addr)) (i : Nat) : fat (F :: Fs) (i + 1) = fat Fs i := by simp [fat]
theorem fat_zero (F : List Addr) (Fs : List (List Addr)) : fat (F :: Fs) 0 = F := by simp [fat]
theorem fat_nil (i : Nat) : fat [] i = [] := by simp [fat]

/-! ### a body -/
def env0 : List (Option Nat) → List D → List Slot
  | none :: ms, d :: ds => .shr d :: env0 ms ds
  | some n :: ms, d :: ds => mkS d n :: env0 ms ds
  | _, _ => []
def finO : List (Option Nat) → Nat → Env → Option (List D)
  | [], _, _ => some []
  | none :: ms, i, env => (finO ms (i + 1) env).map fun r => .non :: r
  | some n :: ms, i, env => match env[i]? with
    | some (.own k d) => if k = n then (finO ms (i + 1) env).map fun r => d :: r else none
    | _ => none
def runF (ms : List (Option Nat)) (nl : Nat) (fb : SF) : FnD := fun ds => if ds.length = ms.length then (fb (env0 ms ds ++ List.replicate (nl - ms.length) .none)).bind fun o => match o with
    | .rt d n e => (finO ms 0 e).map fun outs => (d, n, outs)
    | .nx e => (finO ms 0 e).map fun outs => (.non, 0, outs)
    | _ => none
  else none
theorem env0_get {K : PySem.W.Frag} {G H : Hp} {ms : List (Option Nat)} {vs : List V} {ds : List D} {Fs : List (List Addr)} (h : ArgsR K G H ms vs ds Fs) (hp : ∀ n, some n ∈ ms → 0 < n) : ∀ (i : Nat) (x : Slot), (env0 ms ds)[i]? = some x →
    (∃ d v, x = .shr d ∧ vs[i]? = some v ∧ Rep K G v d ∧ fat Fs i = []) ∨ ∃ n d v, x = .own n d ∧ vs[i]? = some v ∧ Own K G H n v d (fat Fs i) := by
  induction h with
  | nil => intro i x e; simp [env0] at e
  | shr r _ ih =>
    intro i x e
    cases i with
    | zero =>
      simp [env0] at e
      subst e
      exact .inl ⟨_, _, rfl, rfl, r, fat_zero _ _⟩
    | succ i =>
      simp only [env0, List.getElem?_cons_succ] at e
      rw [fat_cons]
      simpa using ih (fun n hn => hp n (List.mem_cons_of_mem _ hn)) i x e
  | @io n _ _ _ _ _ _ _ r _ ih =>
    intro i x e
    cases i with
    | zero =>
      simp [env0] at e
      subst e
      have := hp n List.mem_cons_self
      cases n with
      | zero => omega
      | succ n => exact .inr ⟨_, _, _, rfl, rfl, by rw [fat_zero]; exact r⟩
    | succ i =>
      simp only [env0, List.getElem?_cons_succ] at e
      rw [fat_cons]
      simpa using ih (fun n hn => hp n (List.mem_cons_of_mem _ hn)) i x e
omit [Tb] in
theorem env0_len {ms : List (Option Nat)} : ∀ {ds : List D}, ds.length = ms.length → (env0 ms ds).length = ms.length := by
  induction ms with
  | nil => intro ds h; rfl
  | cons m ms ih =>
    intro ds h
    cases ds with
    | nil => simp at h
    | cons d ds => cases m <;> simp [env0, ih (by simpa using h)]
theorem entry {K : PySem.W.Frag} {G H : Hp} {ms : List (Option Nat)} {vs : List V} {ds : List D} {Fs : List (List Addr)} {N : List Str} (sm : Same G H) (tb : TbOk G H) (h : ArgsR K G H ms vs ds Fs) (hp : ∀ n, some n ∈ ms → 0 < n) (hf : ∀ i a, a ∈ fat Fs i → G a = none) (ha : ∀ i j a, i ≠ j → a ∈ fat Fs i → a ∉ fat Fs j) (hl : ms.length ≤ N.length) :
    S K (L2.start N vs) H G (env0 ms ds ++ List.replicate (N.length - ms.length) .none) (fat Fs) := by
  obtain ⟨l1, l2, l3⟩ := h.len
  have le := env0_len l2
  have sg : ∀ (i : Nat) (v : V), vs[i]? = some v → (L2.start N vs)[i]? = some (some v) := fun i v e => by
    unfold L2.start
    rw [List.getElem?_append_left (by rw [List.length_map]; exact (List.getElem?_eq_some_iff.mp e).1), List.getElem?_map, e]
    rfl
  have eg : ∀ (i : Nat) (x : Slot), (env0 ms ds ++ List.replicate (N.length - ms.length) Slot.none)[i]? = some x → (env0 ms ds)[i]? = some x ∨ x = .none := fun i x e => by
    by_cases c : i < (env0 ms ds).length
    · rw [List.getElem?_append_left c] at e
      exact .inl e
    · rw [List.getElem?_append_right (by omega), List.getElem?_replicate] at e
      split at e
      · exact .inr (Option.some.inj e).symm
      · cases e
  refine ⟨sm, fun i d e => ?_, fun i n d e => ?_, fun i q => ?_, hf, ha, ?_, tb⟩
  · rcases eg i _ e with z | z
    · rcases env0_get h hp i _ z with ⟨d', v, e1, e2, e3, _⟩ | ⟨n, d', v, e1, _⟩
      · cases e1
        exact ⟨v, sg i v e2, e3⟩
      · cases e1
    · cases z
  · rcases eg i _ e with z | z
    · rcases env0_get h hp i _ z with ⟨d', v, e1, _⟩ | ⟨n', d', v, e1, e2, e3⟩
      · cases e1
      · cases e1
        exact ⟨v, sg i v e2, e3⟩
    · cases z
  · by_cases c : i < (env0 ms ds).length
    · have z := List.getElem?_eq_getElem c
      rcases env0_get h hp i _ z with ⟨d', v, e1, _, _, e4⟩ | ⟨n', d', v, e1, _⟩
      · exact e4
      · exact absurd (by rw [List.getElem?_append_left c, z, e1]) (q n' d')
    · unfold fat
      rw [List.getD_eq_getElem?_getD, List.getElem?_eq_none (by omega)]
      rfl
  · unfold L2.start
    simp
    omega
/-- at the end: what may have changed -/
theorem fin_io {K : PySem.W.Frag} {G H : Hp} {env : Env} {F : Nat → List Addr} {σ : L2.St} (s : S K σ H G env F) : ∀ (ms : List (Option Nat)) (i : Nat) (vs : List V) (outs : List D), vs.length = ms.length → (∀ (j n : Nat), ms[j]? = some (some n) → ∃ v, vs[j]? = some v ∧ σ[i + j]? = some (some v)) → finO ms i env = some outs →
    ∃ Fs, IoR K G H ms vs outs Fs ∧ Fs.length = ms.length ∧ ∀ j, fat Fs j = [] ∨ fat Fs j = F (i + j)
  | [], i, vs, outs, hl, _, h => by
    cases vs with
    | nil =>
      simp [finO] at h
      subst h
      exact ⟨[], .nil, rfl, fun j => .inl (fat_nil j)⟩
    | cons _ _ => simp at hl
  | none :: ms, i, vs, outs, hl, hv, h => by
    cases vs with
    | nil => simp at hl
    | cons v vs =>
      simp only [finO] at h
      obtain ⟨os, h1, rfl⟩ := map_some' h
      obtain ⟨Fs, r, l, f⟩ := fin_io s ms (i + 1) vs os (by simpa using hl) (fun j n e => by
        obtain ⟨w, a, b⟩ := hv (j + 1) n (by simpa using e)
        exact ⟨w, by simpa using a, by rw [show i + 1 + j = i + (j + 1) by omega]; exact b⟩) h1
      refine ⟨[] :: Fs, .shr r, by simp [l], fun j => ?_⟩
      cases j with
      | zero => exact .inl (fat_zero _ _)
      | succ j => rw [fat_cons, show i + (j + 1) = i + 1 + j by omega]; exact f j
  | some n :: ms, i, vs, outs, hl, hv, h => by
    cases vs with
    | nil => simp at hl
    | cons v vs =>
      simp only [finO] at h
      split at h
      · rename_i k d e
        split at h
        · rename_i hk
          subst hk
          obtain ⟨os, h1, rfl⟩ := map_some' h
          obtain ⟨Fs, r, l, f⟩ := fin_io s ms (i + 1) vs os (by simpa using hl) (fun j n e => by
            obtain ⟨w, a, b⟩ := hv (j + 1) n (by simpa using e)
            exact ⟨w, by simpa using a, by rw [show i + 1 + j = i + (j + 1) by omega]; exact b⟩) h1
          obtain ⟨w, a, b⟩ := hv 0 k rfl
          simp at a
          subst a
          obtain ⟨w2, c1, c2⟩ := s.own i k d e
          rw [Nat.add_zero, c1] at b
          cases b
          refine ⟨F i :: Fs, .io c2 r, by simp [l], fun j => ?_⟩
          cases j with
          | zero => exact .inr (fat_zero _ _)
          | succ j => rw [fat_cons, show i + (j + 1) = i + 1 + j by omega]; exact f j
        · cases h
      · cases h
section
variable {P : Program} {w : World} {K : PySem.W.Frag} {mg : Str → Option Value} {base : Heap}
theorem fun_okC {x qual : Str} {st : Stmt} {f : Addr} {fd : FuncData} {N ps : List Str} {k : Nat} {sp : Sp} (F : Fun K x qual st f fd) (S : FnScope N ps (defScope st)) (len : ∀ vs H Q E, sp vs H Q E → vs.length = ps.length)
    (hbody : ∀ (cdv : Value), fd.code = cdv → ∀ (A : Around) (outer : List PySem.Env) (s : Shared) (H : Hp) (vs : List V) (Q : VK) (E : XK), Room k (A.deeper (envOfC qual (defScope st) s.heap.objs.size f cdv)) → sp vs H Q E →
      ∃ t, PSs (cxOf CX0 P w K mg base N qual (defScope st) f cdv A outer s H E).nox (defBody st) t ∧ t { nx := fun _ H' => Q .non H', rt := Q } (L2.start N vs) H) : FnOk P w K mg base CX0 (k + 1) f fd ps sp := by
  obtain ⟨oc, od, kV, doc, pm, an, cdv, ct, osl, rfl, lk, hcd⟩ := F.ex
  refine fn_of lk hcd S len fun A outer s H vs Q E hr hsp => ?_
  obtain ⟨t, h, q⟩ := hbody cdv rfl A outer s H vs Q E hr hsp
  exact ⟨t, h.nox, q⟩
/-- THE RULE for a def, its code object known -/
theorem fn_dC {x qual : Str} {st : Stmt} {f : Addr} {fd : FuncData} {N ps : List Str} {k : Nat} {ms : List (Option Nat)} {φ : FnD} {fb : SF} {m ww : List Nat} (Fn : Fun K x qual st f fd) (Sc : FnScope N ps (defScope st)) (hms : ms.length = ps.length) (hpos : ∀ n, some n ∈ ms → 0 < n)
    (hb : ∀ (cdv : Value), fd.code = cdv → ∀ (A : Around) (outer : List PySem.Env) (s : Shared) (H : Hp) (E : XK), Room k (A.deeper (envOfC qual (defScope st) s.heap.objs.size f cdv)) → DB (cxOf CX0 P w K mg base N qual (defScope st) f cdv A outer s H E).nox m ww fb (defBody st))
    (hφ : ∀ ds r, φ ds = some r → runF ms N.length fb ds = some r) (hw : ∀ (i n : Nat), ms[i]? = some (some n) → i ∉ ww) : FnOk P w K mg base CX0 (k + 1) f fd ps (spD K ms φ) := by
  have hpl : ps.length ≤ N.length := by
    have := congrArg List.length Sc.pre
    rw [List.length_take] at this
    omega
  refine fun_okC Fn Sc (fun vs H Q E h => ?_) (fun cdv hcdv A outer s H vs Q E hr h => ?_)
  · obtain ⟨G, ds, Fs, r, n, outs, _, _, ha, _⟩ := h
    rw [ha.len.1, hms]
  · obtain ⟨G, ds, Fs, r, n, outs, sm, tb, ha, hF, hA, hr1, q⟩ := h
    obtain ⟨l1, l2, l3⟩ := ha.len
    have hrun := hφ _ _ hr1
    unfold runF at hrun
    rw [if_pos l2] at hrun
    obtain ⟨o, h1, h2⟩ := bind_some' hrun
    have s0 : S K (L2.start N vs) H G (env0 ms ds ++ List.replicate (N.length - ms.length) .none) (fat Fs) := entry sm tb ha hpos hF hA (by omega)
    refine ⟨_, hb cdv hcdv A outer s H E hr, G, _, fat Fs, o, s0, h1, ?_⟩
    have sg : ∀ (i : Nat) (v : V), vs[i]? = some v → (L2.start N vs)[i]? = some (some v) := fun i v e => by
      unfold L2.start
      rw [List.getElem?_append_left (by rw [List.length_map]; exact (List.getElem?_eq_some_iff.mp e).1), List.getElem?_map, e]
      rfl
    have fin : ∀ (σ' : L2.St) (H' G' : Hp) (F' : Nat → List Addr) (env' : Env) (outs : List D), S K σ' H' G' env' F' → Only ww (L2.start N vs) σ' → finO ms 0 env' = some outs → ∃ Fs', IoR K G' H' ms vs outs Fs' ∧ ∀ j, fat Fs' j = [] ∨ fat Fs' j = F' j := fun σ' H' G' F' env' outs s' on hfin => by
      obtain ⟨Fs', a, _, b⟩ := fin_io s' ms 0 vs outs l1 (fun j n e => by
        have hj : j < vs.length := by rw [l1]; exact (List.getElem?_eq_some_iff.mp e).1
        refine ⟨vs[j], List.getElem?_eq_getElem hj, ?_⟩
        rw [Nat.zero_add, on.2 j (hw j n e)]
        exact sg j _ (List.getElem?_eq_getElem hj)) hfin
      exact ⟨Fs', a, fun j => by simpa using b j⟩
    have lk : ∀ {Fs' : List (List Addr)} {F' : Nat → List Addr}, (∀ j, fat Fs' j = [] ∨ fat Fs' j = F' j) → ∀ {i a}, a ∈ fat Fs' i → a ∈ F' i := fun {Fs' F'} hj {i a} h => by
      rcases hj i with z | z
      · rw [z] at h; cases h
      · rw [z] at h; exact h
    cases o with
    | rt d n' e =>
      obtain ⟨outs', h3, h4⟩ := map_some' h2
      simp at h4
      obtain ⟨rfl, rfl, rfl⟩ := h4
      intro v σ' H' G' F' FT s' ev on ow hFT
      obtain ⟨Fs', io, hj⟩ := fin σ' H' G' F' e _ s' on h3
      exact q v H' G' Fs' FT ev.g s'.same s'.tb ev.k ev.n io (fun i a hi => ⟨ev.f i a (lk hj hi), s'.free i a (lk hj hi)⟩) (fun i j a ne hi hb => s'.apart i j a ne (lk hj hi) (lk hj hb)) ow fun a h => ⟨(hFT a h).2, (hFT a h).1.1, fun i hi => (hFT a h).1.2 i (lk hj hi)⟩
    | nx e =>
      obtain ⟨outs', h3, h4⟩ := map_some' h2
      simp at h4
      obtain ⟨rfl, rfl, rfl⟩ := h4
      intro σ' H' G' F' s' ev on
      obtain ⟨Fs', io, hj⟩ := fin σ' H' G' F' e _ s' on h3
      exact q .non H' G' Fs' [] ev.g s'.same s'.tb ev.k ev.n io (fun i a hi => ⟨ev.f i a (lk hj hi), s'.free i a (lk hj hi)⟩) (fun i j a ne hi hb => s'.apart i j a ne (lk hj hi) (lk hj hb)) (.shr (.inl rfl) .non) fun a h => by cases h
    | bk e => simp at h2
    | ct e => simp at h2
/-- THE RULE for a def -/
theorem fn_d {x qual : Str} {st : Stmt} {f : Addr} {fd : FuncData} {N ps : List Str} {k : Nat} {ms : List (Option Nat)} {φ : FnD} {fb : SF} {m ww : List Nat} (Fn : Fun K x qual st f fd) (Sc : FnScope N ps (defScope st)) (hms : ms.length = ps.length) (hpos : ∀ n, some n ∈ ms → 0 < n)
    (hb : ∀ (cdv : Value) (A : Around) (outer : List PySem.Env) (s : Shared) (H : Hp) (E : XK), Room k (A.deeper (envOfC qual (defScope st) s.heap.objs.size f cdv)) → DB (cxOf CX0 P w K mg base N qual (defScope st) f cdv A outer s H E).nox m ww fb (defBody st))
    (hφ : ∀ ds r, φ ds = some r → runF ms N.length fb ds = some r) (hw : ∀ (i n : Nat), ms[i]? = some (some n) → i ∉ ww) : FnOk P w K mg base CX0 (k + 1) f fd ps (spD K ms φ) :=
  fn_dC Fn Sc hms hpos (fun cdv _ => hb cdv) hφ hw
end
end HD
set_option Elab.async false
set_option linter.all false
set_option maxRecDepth 100000
set_option maxHeartbeats 2000000
set_option autoImplicit false
/-! HD10: calls of defs by their data. -/
namespace HD
open PySem PySem.Spec PyProof.Rows L2
variable [Tb]

/-- the call's arguments as they were asked: seen by W, or the own thing of a slot -/
inductive CR (K : PySem.W.Frag) (W : Hp) (σ : L2.St) : List (Option Nat) → List V → List D → Prop
  | nil : CR K W σ [] [] []
  | shr {js : List (Option Nat)} {v : V} {vs : List V} {d : D} {ds : List D} : Rep K W v d → CR K W σ js vs ds → CR K W σ (none :: js) (v :: vs) (d :: ds)
  | io {j : Nat} {js : List (Option Nat)} {v : V} {vs : List V} {ds : List D} : σ[j]? = some (some v) → CR K W σ js vs ds → CR K W σ (some j :: js) (v :: vs) (.non :: ds)
def tDC (K : PySem.W.Frag) (js : List (Option Nat)) (m r : List Nat) (f : M (List D)) : TA := fun σ H Q => ∃ G env F ds env', S K σ H G env F ∧ f env = some (ds, env') ∧
  ∀ vs H' G' F', S K σ H' G' env' F' → Evo m env H G F env' H' G' F' → CR K (vw r H' G' F') σ js vs ds → Q vs H'
abbrev DC (X : Cx) (js : List (Option Nat)) (m r : List Nat) (f : M (List D)) (es : List Expr) : Prop := PA X es (tDC X.K js m r f)
def ioA (j : Nat) (g : M (List D)) : M (List D) := fun env => match env[j]? with
  | some (.own _ _) => (g env).map fun p => (.non :: p.1, p.2)
  | _ => none
/-- the slots of those that may change -/
def ioJ : List (Option Nat) → List Nat
  | [] => []
  | none :: js => ioJ js
  | some j :: js => j :: ioJ js
/-- the arguments' data, those of the slots filled in; ms: their depths -/
def fillA : List (Option Nat) → List (Option Nat) → List D → Env → Option (List D)
  | [], [], [], _ => some []
  | none :: ms, none :: js, d :: ds, env => (fillA ms js ds env).map fun r => d :: r
  | some n :: ms, some j :: js, _ :: ds, env => match env[j]? with
    | some (.own k d) => if k = n then (fillA ms js ds env).map fun r => d :: r else none
    | _ => none
  | _, _, _, _ => none
/-- behind the call -/
def putA : List (Option Nat) → List (Option Nat) → List D → Env → Env
  | some n :: ms, some j :: js, d :: ds, env => (putA ms js ds env).set j (.own n d)
  | none :: ms, none :: js, _ :: ds, env => putA ms js ds env
  | _, _, _, env => env
mutual
/-- to depth n its own, below that nothing that can change -/
def D.sep : Nat → D → Bool
  | 0, d => d.im
  | n + 1, .lst ds => D.seps n ds
  | n + 1, .dct _ kvs => D.sepk n kvs
  | _ + 1, d => d.im
def D.seps : Nat → List D → Bool
  | _, [] => true
  | n, d :: ds => D.sep n d && D.seps n ds
def D.sepk : Nat → List (D × D) → Bool
  | _, [] => true
  | n, p :: ds => D.sep n p.2 && D.sepk n ds
end
def sepO : List (Option Nat) → List D → Bool
  | some n :: ms, d :: ds => D.sep n d && sepO ms ds
  | none :: ms, _ :: ds => sepO ms ds
  | _, _ => true
section
variable {K : PySem.W.Frag} {G G' H : Hp}
theorem sepk_zip {n : Nat} : ∀ {ks ds : List D}, ks.length = ds.length → D.sepk n (ks.zip ds) = D.seps n ds
  | [], [], _ => by simp [D.sepk, D.seps]
  | [], _ :: _, h => by simp at h
  | _ :: _, [], h => by simp at h
  | k :: ks, d :: ds, h => by
    rw [List.zip_cons_cons, D.sepk, D.seps, sepk_zip (by simpa using h)]
mutual
theorem Own.sepTo (e : TupLe G G') : ∀ {n : Nat} {v : V} {d : D} {F : List Addr}, Own K G H n v d F → D.sep n d = true → Own K G' H n v d F
  | 0, _, _, _, .shr c r, h => .shr (.inl rfl) (r.imTo e (by simpa only [D.sep] using h))
  | n + 1, _, _, _, .shr c r, h => by
    rcases c with c | c
    · omega
    · exact .shr (.inr c) (r.imTo e c)
  | _, _, _, _, .lst a r c, h => .lst a (Owns.sepTo e r (by simpa only [D.sep] using h)) c
  | _, _, _, _, .dK a r c q, h => .dK a (Owns.sepTo e r (by
    have l := r.length
    rw [q] at h
    simp only [D.sep] at h
    rw [sepk_zip (by simp at l ⊢; omega)] at h
    exact h)) c q
  | _, _, _, _, .dT a r c q, h => .dT a (Owns.sepTo e r (by
    have l := r.length
    rw [q] at h
    simp only [D.sep] at h
    rw [sepk_zip (by simp at l ⊢; omega)] at h
    exact h)) c q
theorem Owns.sepTo (e : TupLe G G') : ∀ {n : Nat} {v : List V} {d : List D} {F : List Addr}, Owns K G H n v d F → D.seps n d = true → Owns K G' H n v d F
  | _, _, _, _, .nil, _ => .nil
  | _, _, _, _, .cons h r c, q => by
    rw [D.seps, Bool.and_eq_true] at q
    exact .cons (Own.sepTo e h q.1) (Owns.sepTo e r q.2) c
end
end
section
variable {X : Cx} {e : Expr} {es : List Expr} {pos : Pos} {js : List (Option Nat)} {m m1 m2 r r1 r2 : List Nat} {f1 : M D} {fs : M (List D)}
theorem dc_nil : DC X [] [] [] args0 [] := pa_weak pa_nil fun σ H Q ⟨G, env, F, ds, env', s, hf, q⟩ => by
  simp only [args0, Option.some.injEq, Prod.mk.injEq] at hf
  obtain ⟨rfl, rfl⟩ := hf
  exact q [] H G F s Evo.refl .nil
theorem CR.mono {K : PySem.W.Frag} {W W' : Hp} {σ : L2.St} (e : Same W W') {js : List (Option Nat)} {vs : List V} {ds : List D} (h : CR K W σ js vs ds) : CR K W' σ js vs ds := by
  induction h with
  | nil => exact .nil
  | shr r _ ih => exact .shr (r.mono e) ih
  | io h _ ih => exact .io h ih
theorem dc_cons (ha : DE X m1 r1 f1 e) (hb : DC X js m2 r2 fs es) (hs : starEach (e :: es) X.env = (false, eval e X.env) :: starEach es X.env := by rfl) : DC X (none :: js) (m1 ++ m2) (r1 ++ r2) (argsC (dj r1 m2) f1 fs) (e :: es) := by
  refine pa_weak (pa_cons ha hb hs) fun σ H Q ⟨G, env, F, ds, env', s, hf, q⟩ => ?_
  obtain ⟨x, e1, xs, h1, h2, c, rfl⟩ := argsC_some hf
  refine ⟨G, env, F, x, e1, s, h1, fun v H1 G1 F1 s1 ev1 rp1 => ⟨G1, e1, F1, xs, env', s1, h2, fun ws H2 G2 F2 s2 ev2 rp2 => ?_⟩⟩
  exact q _ H2 G2 F2 s2 (ev1.trans ev2) (.shr (keepRep s1 s2 ev2 rp1 c fun i hi => List.mem_append_left _ hi) (rp2.mono (s2.vwSub fun i hi => List.mem_append_right _ hi)))
theorem dc_io (j : Nat) {x : Str} (hN : X.N[j]? = some x) (hv : Vis X.env.scope x) (hb : DC X js m2 r2 fs es) (hs : starEach (.Name x pos :: es) X.env = (false, eval (.Name x pos) X.env) :: starEach es X.env := by rfl) (hd : (x == ("__debug__" : Str)) = false := by decide)
    (hcd : (x == ("__classdict__" : Str)) = false := by decide) : DC X (some j :: js) m2 r2 (ioA j fs) (.Name x pos :: es) := by
  refine pa_weak (pa_cons (pe_var hN hv hd hcd) hb hs) fun σ H Q ⟨G, env, F, ds, env', s, hf, q⟩ => ?_
  unfold ioA at hf
  split at hf
  · rename_i n d e1
    obtain ⟨⟨xs, e2⟩, h1, h2⟩ := map_some' hf
    simp at h2
    obtain ⟨rfl, rfl⟩ := h2
    obtain ⟨v, h3, _⟩ := s.own j n d e1
    exact ⟨v, h3, G, env, F, xs, e2, s, h1, fun ws H2 G2 F2 s2 ev2 rp2 => q _ H2 G2 F2 s2 ev2 (.io h3 rp2)⟩
  · cases hf
/-- the arguments as the callee wants them -/
theorem fill_ok {K : PySem.W.Frag} {σ : L2.St} {H G : Hp} {env : Env} {F : Nat → List Addr} {r : List Nat} (s : S K σ H G env F) : ∀ {ms js : List (Option Nat)} {vs : List V} {ds full : List D}, CR K (vw r H G F) σ js vs ds → fillA ms js ds env = some full →
    ∃ Fs, ArgsR K (vw r H G F) H ms vs full Fs ∧ js.length = ms.length ∧ ∀ i, (∃ j, js[i]? = some (some j) ∧ fat Fs i = F j) ∨ ((∀ j, js[i]? ≠ some (some j)) ∧ fat Fs i = [])
  | [], _, _, _, full, .nil, h => by
    simp [fillA] at h
    subst h
    exact ⟨[], .nil, rfl, fun i => .inr ⟨fun j => by simp, fat_nil i⟩⟩
  | none :: ms, _, _, _, full, .shr (js := js) (ds := ds) rp c, h => by
    simp only [fillA] at h
    obtain ⟨r1, h1, rfl⟩ := map_some' h
    obtain ⟨Fs, a, l, b⟩ := fill_ok s c h1
    refine ⟨[] :: Fs, .shr rp a, by simp [l], fun i => ?_⟩
    cases i with
    | zero => exact .inr ⟨fun j => by simp, fat_zero _ _⟩
    | succ i => rw [fat_cons]; simpa using b i
  | some n :: ms, _, _, _, full, .io (j := j) (js := js) (ds := ds) hv c, h => by
    simp only [fillA] at h
    split at h
    · rename_i k d e
      split at h
      · rename_i hk
        subst hk
        obtain ⟨r1, h1, rfl⟩ := map_some' h
        obtain ⟨Fs, a, l, b⟩ := fill_ok s c h1
        obtain ⟨w, c1, c2⟩ := s.own j k d e
        rw [hv] at c1
        cases c1
        refine ⟨F j :: Fs, .io (c2.move (s.vwG r) fun _ _ => rfl) a, by simp [l], fun i => ?_⟩
        cases i with
        | zero => exact .inl ⟨j, rfl, fat_zero _ _⟩
        | succ i => rw [fat_cons]; simpa using b i
      · cases h
    · cases h
  | none :: ms, _, _, _, full, .io hv c, h => by simp [fillA] at h
  | some n :: ms, _, _, _, full, .shr rp c, h => by simp [fillA] at h
  | [], _, _, _, full, .shr rp c, h => by simp [fillA] at h
  | [], _, _, _, full, .io hv c, h => by simp [fillA] at h
  | _ :: _, _, _, _, full, .nil, h => by simp [fillA] at h
def fput : List (Option Nat) → List (List Addr) → (Nat → List Addr) → Nat → List Addr
  | some j :: js, l :: Fs, F => fset (fput js Fs F) j l
  | none :: js, _ :: Fs, F => fput js Fs F
  | _, _, F => F
theorem fput_get : ∀ (js : List (Option Nat)) (Fs : List (List Addr)) (F : Nat → List Addr), js.length = Fs.length → (ioJ js).Nodup → ∀ i, (∃ k, js[k]? = some (some i) ∧ fput js Fs F i = fat Fs k) ∨ (i ∉ ioJ js ∧ fput js Fs F i = F i)
  | [], [], F, _, _, i => .inr ⟨by simp [ioJ], rfl⟩
  | [], _ :: _, F, h, _, i => by simp at h
  | _ :: _, [], F, h, _, i => by simp at h
  | none :: js, l :: Fs, F, h, nd, i => by
    rcases fput_get js Fs F (by simpa using h) (by simpa [ioJ] using nd) i with ⟨k, a, b⟩ | ⟨a, b⟩
    · exact .inl ⟨k + 1, by simpa using a, by rw [fat_cons]; exact b⟩
    · exact .inr ⟨by simpa [ioJ] using a, b⟩
  | some j :: js, l :: Fs, F, h, nd, i => by
    simp only [ioJ, List.nodup_cons] at nd
    by_cases e : i = j
    · subst e
      exact .inl ⟨0, rfl, by rw [fat_zero]; exact fset_same⟩
    · rcases fput_get js Fs F (by simpa using h) nd.2 i with ⟨k, a, b⟩ | ⟨a, b⟩
      · exact .inl ⟨k + 1, by simpa using a, by rw [fat_cons]; exact (fset_ne e).trans b⟩
      · exact .inr ⟨by simp [ioJ, e, a], (fset_ne e).trans b⟩
theorem putA_len : ∀ (ms js : List (Option Nat)) (ds : List D) (env : Env), (putA ms js ds env).length = env.length
  | [], js, ds, env => by simp [putA]
  | none :: ms, none :: js, d :: ds, env => by simp [putA, putA_len ms js ds env]
  | some n :: ms, some j :: js, d :: ds, env => by simp [putA, putA_len ms js ds env]
  | none :: ms, [], ds, env => by simp [putA]
  | none :: ms, some j :: js, ds, env => by simp [putA]
  | none :: ms, none :: js, [], env => by simp [putA]
  | some n :: ms, [], ds, env => by simp [putA]
  | some n :: ms, none :: js, ds, env => by simp [putA]
  | some n :: ms, some j :: js, [], env => by simp [putA]
theorem mem_ioJ : ∀ {js : List (Option Nat)} {k j : Nat}, js[k]? = some (some j) → j ∈ ioJ js
  | [], k, j, h => by simp at h
  | none :: js, 0, j, h => by simp at h
  | some i :: js, 0, j, h => by
    simp at h
    subst h
    simp [ioJ]
  | none :: js, k + 1, j, h => by
    simp only [ioJ]
    exact mem_ioJ (k := k) (by simpa using h)
  | some i :: js, k + 1, j, h => by
    simp only [ioJ]
    exact List.mem_cons_of_mem _ (mem_ioJ (k := k) (by simpa using h))
theorem putA_get {K : PySem.W.Frag} {G H : Hp} {σ : L2.St} {W : Hp} : ∀ {ms js : List (Option Nat)} {vs : List V} {ds outs : List D} {Fs : List (List Addr)} {env : Env}, CR K W σ js vs ds → IoR K G H ms vs outs Fs → js.length = ms.length → (∀ k : Nat, (ms[k]? = some none ↔ js[k]? = some none)) → (ioJ js).Nodup → ∀ i,
    (∃ k n d v, js[k]? = some (some i) ∧ (i < env.length → (putA ms js outs env)[i]? = some (.own n d)) ∧ σ[i]? = some (some v) ∧ Own K G H n v d (fat Fs k)) ∨ (i ∉ ioJ js ∧ (putA ms js outs env)[i]? = env[i]?)
  | _, _, _, _, _, _, env, .nil, .nil, _, _, _, i => .inr ⟨by simp [ioJ], rfl⟩
  | _, _, _, _, _, _, env, .shr _ c, .shr io, hl, hk, nd, i => by
    rcases putA_get (env := env) c io (by simpa using hl) (fun k => by simpa using hk (k + 1)) (by simpa [ioJ] using nd) i with ⟨k, n, d, v, a, b, e, f⟩ | ⟨a, b⟩
    · exact .inl ⟨k + 1, n, d, v, by simpa using a, b, e, by rw [fat_cons]; exact f⟩
    · exact .inr ⟨by simpa [ioJ] using a, b⟩
  | _, _, _, _, _, _, env, .io (j := j) (v := v) hv c, .io (n := n) (d := d) ow io, hl, hk, nd, i => by
    simp only [ioJ, List.nodup_cons] at nd
    by_cases e : i = j
    · subst e
      exact .inl ⟨0, n, d, v, rfl, fun hi => List.getElem?_set_self (by rw [putA_len]; exact hi), hv, by rw [fat_zero]; exact ow⟩
    · rcases putA_get (env := env) c io (by simpa using hl) (fun k => by simpa using hk (k + 1)) nd.2 i with ⟨k, n', d', v', a, b, e2, f⟩ | ⟨a, b⟩
      · exact .inl ⟨k + 1, n', d', v', by simpa using a, fun hi => (env_set_ne e).trans (b hi), e2, by rw [fat_cons]; exact f⟩
      · exact .inr ⟨by simp [ioJ, e, a], (env_set_ne e).trans b⟩
  | _, _, _, _, _, _, env, .shr _ c, .io ow io, hl, hk, nd, i => by
    have := (hk 0).mpr rfl
    simp at this
  | _, _, _, _, _, _, env, .io hv c, .shr io, hl, hk, nd, i => by
    have := (hk 0).mp rfl
    simp at this
def alike : List (Option Nat) → List (Option Nat) → Bool
  | [], [] => true
  | none :: a, none :: b => alike a b
  | some _ :: a, some _ :: b => alike a b
  | _, _ => false
theorem alike_iff : ∀ {a b : List (Option Nat)}, alike a b = true → ∀ k : Nat, (a[k]? = some none ↔ b[k]? = some none)
  | [], [], _, k => by simp
  | none :: a, none :: b, h, k => by
    cases k with
    | zero => simp
    | succ k => simpa using alike_iff (a := a) (b := b) (by simpa [alike] using h) k
  | some _ :: a, some _ :: b, h, k => by
    cases k with
    | zero => simp
    | succ k => simpa using alike_iff (a := a) (b := b) (by simpa [alike] using h) k
  | [], _ :: _, h, _ => by simp [alike] at h
  | _ :: _, [], h, _ => by simp [alike] at h
  | none :: _, some _ :: _, h, _ => by simp [alike] at h
  | some _ :: _, none :: _, h, _ => by simp [alike] at h
theorem io_sep {K : PySem.W.Frag} {G G' H : Hp} (e : TupLe G G') {ms : List (Option Nat)} {vs : List V} {ds : List D} {Fs : List (List Addr)} (h : IoR K G H ms vs ds Fs) : sepO ms ds = true → IoR K G' H ms vs ds Fs := by
  induction h with
  | nil => intro _; exact .nil
  | shr _ ih => intro q; exact .shr (ih (by simpa only [sepO] using q))
  | io ow _ ih =>
    intro q
    simp only [sepO, Bool.and_eq_true] at q
    exact .io (ow.sepTo e q.1) (ih q.2)
theorem IoR.len {K : PySem.W.Frag} {G H : Hp} {ms : List (Option Nat)} {vs : List V} {ds : List D} {Fs : List (List Addr)} (h : IoR K G H ms vs ds Fs) : vs.length = ms.length ∧ Fs.length = ms.length := by
  induction h with
  | nil => exact ⟨rfl, rfl⟩
  | shr _ ih => simp [ih]
  | io _ _ ih => simp [ih]
theorem fill_own : ∀ {ms js : List (Option Nat)} {ds full : List D} {env : Env}, fillA ms js ds env = some full → ∀ {k i : Nat}, js[k]? = some (some i) → ∃ n d, env[i]? = some (.own n d)
  | [], [], [], _, _, _, k, i, h => by simp at h
  | none :: ms, none :: js, d :: ds, full, env, hf, k, i, h => by
    simp only [fillA] at hf
    obtain ⟨r1, h1, rfl⟩ := map_some' hf
    cases k with
    | zero => simp at h
    | succ k => exact fill_own h1 (k := k) (by simpa using h)
  | some n :: ms, some j :: js, d :: ds, full, env, hf, k, i, h => by
    simp only [fillA] at hf
    split at hf
    · rename_i k2 d2 e
      split at hf
      · obtain ⟨r1, h1, rfl⟩ := map_some' hf
        cases k with
        | zero =>
          simp at h
          subst h
          exact ⟨_, _, e⟩
        | succ k => exact fill_own h1 (k := k) (by simpa using h)
      · cases hf
    · cases hf
  | [], _ :: _, _, _, _, hf, _, _, _ => by simp [fillA] at hf
  | [], [], _ :: _, _, _, hf, _, _, _ => by simp [fillA] at hf
  | none :: _, [], _, _, _, hf, _, _, _ => by simp [fillA] at hf
  | none :: _, some _ :: _, _, _, _, hf, _, _, _ => by simp [fillA] at hf
  | none :: _, none :: _, [], _, _, hf, _, _, _ => by simp [fillA] at hf
  | some _ :: _, [], _, _, _, hf, _, _, _ => by simp [fillA] at hf
  | some _ :: _, none :: _, _, _, _, hf, _, _, _ => by simp [fillA] at hf
  | some _ :: _, some _ :: _, [], _, _, hf, _, _, _ => by simp [fillA] at hf
def callF (ms js : List (Option Nat)) (r : List Nat) (φ : FnD) (fs : M (List D)) : M (D × Nat) := fun env => (fs env).bind fun p => (fillA ms js p.1 p.2).bind fun full => (φ full).bind fun q =>
  if ((noOwn p.2 r || (D.sep q.2.1 q.1 && sepO ms q.2.2)) && dj r (ioJ js)) = true then some ((q.1, q.2.1), putA ms js q.2.2 p.2) else none
/-- what is beyond reach of those slots -/
def cutH (r : List Nat) (G : Hp) (F : Nat → List Addr) : Hp := fun a => if r.any (fun i => decide (a ∈ F i)) = true then none else G a
/-- the reading of a call -/
theorem tDF_call {ms : List (Option Nat)} {φ : FnD} (nd : (ioJ js).Nodup) (al : alike ms js = true) {σ : L2.St} {H : Hp} {Q : VK} (h : tDF X.K (m ++ ioJ js) (callF ms js r φ fs) σ H Q) : tDC X.K js m r fs σ H fun vs H1 => spD X.K ms φ (vs ++ []) H1 Q E0 := by
  obtain ⟨G, env, F, ⟨d, n⟩, env', s, hf, q⟩ := h
  obtain ⟨⟨ds, e1⟩, h1, h2⟩ := bind_some' hf
  obtain ⟨full, h3, h4⟩ := bind_some' h2
  obtain ⟨⟨d', n', outs⟩, h5, h6⟩ := bind_some' h4
  have cc : ((noOwn e1 r || (D.sep n' d' && sepO ms outs)) && dj r (ioJ js)) = true := by
    cases hc : ((noOwn e1 r || (D.sep n' d' && sepO ms outs)) && dj r (ioJ js)) with
    | true => rfl
    | false => simp [hc] at h6
  simp only [] at h6
  rw [if_pos cc] at h6
  simp at h6
  obtain ⟨⟨rfl, rfl⟩, rfl⟩ := h6
  rw [Bool.and_eq_true, Bool.or_eq_true, Bool.and_eq_true] at cc
  obtain ⟨c12, c3⟩ := cc
  refine ⟨G, env, F, ds, e1, s, h1, fun vs H1 G1 F1 s1 ev1 cr => ?_⟩
  show spD X.K ms φ (vs ++ []) H1 Q E0
  rw [List.append_nil]
  obtain ⟨Fs, ar, ljs, fm⟩ := fill_ok s1 cr h3
  have al' := alike_iff al
  have fsub : ∀ {i a}, a ∈ fat Fs i → ∃ j, js[i]? = some (some j) ∧ a ∈ F1 j := fun {i a} h => by
    rcases fm i with ⟨j, e, f⟩ | ⟨_, f⟩
    · exact ⟨j, e, by rw [← f]; exact h⟩
    · rw [f] at h; cases h
  have inFs : ∀ {j a}, j ∈ ioJ js → a ∈ F1 j → ∃ i, a ∈ fat Fs i := fun {j a} hj ha => by
    have : ∃ k : Nat, js[k]? = some (some j) := by
      clear fm al' ljs ar cr h3 h1 hf q h2 h4 h5 nd al c3 fsub
      induction js with
      | nil => simp [ioJ] at hj
      | cons x js ih =>
        cases x with
        | none =>
          obtain ⟨k, e⟩ := ih (by simpa [ioJ] using hj)
          exact ⟨k + 1, by simpa using e⟩
        | some i =>
          simp only [ioJ, List.mem_cons] at hj
          rcases hj with rfl | hj
          · exact ⟨0, rfl⟩
          · obtain ⟨k, e⟩ := ih hj
            exact ⟨k + 1, by simpa using e⟩
    obtain ⟨k, e⟩ := this
    rcases fm k with ⟨j', e', f⟩ | ⟨f, _⟩
    · rw [e] at e'
      cases e'
      exact ⟨k, by rw [f]; exact ha⟩
    · exact absurd e (f j)
  have kinj : ∀ {k k' j : Nat}, js[k]? = some (some j) → js[k']? = some (some j) → k = k' := by
    clear fm al' ljs ar cr h3 h1 hf q h2 h4 h5 al c3 fsub inFs
    induction js with
    | nil => intro k k' j a; simp at a
    | cons x js ih =>
      intro k k' j a b
      cases x with
      | none =>
        cases k with
        | zero => simp at a
        | succ k =>
          cases k' with
          | zero => simp at b
          | succ k' =>
            have := ih (by simpa [ioJ] using nd) (k := k) (k' := k') (j := j) (by simpa using a) (by simpa using b)
            omega
      | some i =>
        simp only [ioJ, List.nodup_cons] at nd
        cases k with
        | zero =>
          cases k' with
          | zero => rfl
          | succ k' =>
            simp at a
            subst a
            exact absurd (mem_ioJ (k := k') (by simpa using b)) nd.1
        | succ k =>
          cases k' with
          | zero =>
            simp at b
            subst b
            exact absurd (mem_ioJ (k := k) (by simpa using a)) nd.1
          | succ k' =>
            have := ih nd.2 (k := k) (k' := k') (j := j) (by simpa using a) (by simpa using b)
            omega
  have wnone : ∀ {i a}, a ∈ fat Fs i → vw r H1 G1 F1 a = none := fun {i a} h => by
    obtain ⟨j, e, ha⟩ := fsub h
    rw [vw_out]
    · exact s1.free j a ha
    · intro k hk hb
      have : k ≠ j := fun z => dj_iff.mp c3 k hk (by rw [z]; exact mem_ioJ e)
      exact s1.apart k j a this hb ha
  refine ⟨vw r H1 G1 F1, full, Fs, d', n', outs, s1.vwH r, ⟨s1.vwnt r, s1.tb.tabs⟩, ar, fun i a h => wnone h, fun i j a ne hi hb => ?_, h5, fun v H' G' Fs' FT g1 g2 tb2 kk nn io hF' apF ow hFT => ?_⟩
  · obtain ⟨j1, e1, a1⟩ := fsub hi
    obtain ⟨j2, e2, a2⟩ := fsub hb
    by_cases z : j1 = j2
    · subst z
      exact ne (kinj e1 e2)
    · exact s1.apart j1 j2 a z a1 a2
  · have cutO : ∀ {a}, (∀ i ∈ r, a ∉ F1 i) → cutH r G' F1 a = G' a := fun {a} h => by
      unfold cutH
      rw [if_neg]
      intro z
      obtain ⟨i, hi, ha⟩ := List.any_eq_true.mp z
      exact h i hi (of_decide_eq_true ha)
    have cutI : ∀ {a i}, i ∈ r → a ∈ F1 i → cutH r G' F1 a = none := fun {a i} hi ha => by
      unfold cutH
      rw [if_pos (List.any_eq_true.mpr ⟨i, hi, decide_eq_true ha⟩)]
    have cutS : Same (cutH r G' F1) G' := fun a o e => by
      rcases vw_cases r F1 a with ⟨i, hi, ha⟩ | z
      · rw [cutI hi ha] at e; cases e
      · rw [cutO z] at e; exact e
    have tl : TupLe G' (cutH r G' F1) := fun a xs e => by
      rcases vw_cases r F1 a with ⟨i, hi, ha⟩ | z
      · exfalso
        obtain ⟨o, ho, mo⟩ := s1.mut ha
        have : vw r H1 G1 F1 a = some o := by rw [vw_in hi ha]; exact ho
        have := g1 a o this
        rw [e] at this
        cases this
        exact mo
      · rw [cutO z]; exact e
    have gS : Same G1 (cutH r G' F1) := fun a o e => by
      rw [cutO fun i hi ha => by rw [s1.free i a ha] at e; cases e]
      exact g1 a o (s1.vwG r a o e)
    have cutE : noOwn e1 r = true → cutH r G' F1 = G' := fun no => by
      funext a
      refine cutO fun i hi ha => ?_
      rw [s1.emp i fun n d e => by
        have := List.all_eq_true.mp no i hi
        rw [e] at this
        cases this] at ha
      cases ha
    have io' : IoR X.K (cutH r G' F1) H' ms vs outs Fs' := by
      rcases c12 with c | c
      · rw [cutE c]; exact io
      · exact io_sep tl io c.2
    have ow' : Own X.K (cutH r G' F1) H' n' v d' FT := by
      rcases c12 with c | c
      · rw [cutE c]; exact ow
      · exact ow.sepTo tl c.1
    have lF : js.length = Fs'.length := by rw [io.len.2, ljs]
    have pg := fput_get js Fs' F1 lF nd
    have keepO : ∀ {i a}, i ∉ ioJ js → a ∈ F1 i → H' a = H1 a := fun {i a} hi ha => by
      obtain ⟨o, ho, mo⟩ := s1.mut ha
      rw [ho]
      refine (kk a o ho fun k hk => ?_).mut mo
      obtain ⟨j, e, ha2⟩ := fsub hk
      have : i ≠ j := fun z => hi (by rw [z]; exact mem_ioJ e)
      exact s1.apart i j a this ha ha2
    have notF' : ∀ {k i a}, i ∉ ioJ js → a ∈ fat Fs' k → a ∉ F1 i := fun {k i a} hi hk ha => by
      rcases (hF' k a hk).1 with ⟨k2, h2⟩ | z
      · obtain ⟨j, e, ha2⟩ := fsub h2
        have : i ≠ j := fun z => hi (by rw [z]; exact mem_ioJ e)
        exact s1.apart i j a this ha ha2
      · obtain ⟨o, ho, _⟩ := s1.mut ha
        rw [z] at ho; cases ho
    have pA := putA_get (env := e1) cr io' ljs al' nd
    have s2 : S X.K σ H' (cutH r G' F1) (putA ms js outs e1) (fput js Fs' F1) := by
      refine ⟨cutS.trans g2, fun i d e => ?_, fun i n d e => ?_, fun i h => ?_, fun i a ha => ?_, fun i j a ne hi hb => ?_, by rw [putA_len]; exact s1.len, ⟨fun a ps e => tb2.nt a ps (cutS a _ e), tb2.tabs⟩⟩
      · rcases pA i with ⟨k, n, d2, v2, a1, a2, a3, a4⟩ | ⟨a1, a2⟩
        · have hi : i < e1.length := by
            have := (List.getElem?_eq_some_iff.mp e).1
            rw [putA_len] at this
            exact this
          rw [a2 hi] at e
          cases e
        · rw [a2] at e
          obtain ⟨w, h1, h2⟩ := s1.shr i d e
          exact ⟨w, h1, h2.mono gS⟩
      · rcases pA i with ⟨k, n2, d2, v2, a1, a2, a3, a4⟩ | ⟨a1, a2⟩
        · have hi : i < e1.length := by
            have := (List.getElem?_eq_some_iff.mp e).1
            rw [putA_len] at this
            exact this
          rw [a2 hi] at e
          cases e
          rcases pg i with ⟨k', b1, b2⟩ | ⟨b1, _⟩
          · have : k' = k := kinj b1 a1
            subst this
            exact ⟨v2, a3, by rw [b2]; exact a4⟩
          · exact absurd (mem_ioJ a1) b1
        · rw [a2] at e
          obtain ⟨w, h1, h2⟩ := s1.own i n d e
          rcases pg i with ⟨k', b1, b2⟩ | ⟨b1, b2⟩
          · exact absurd (mem_ioJ b1) a1
          · refine ⟨w, h1, ?_⟩
            rw [b2]
            exact h2.move gS fun a ha => keepO a1 ha
      · rcases pg i with ⟨k', b1, b2⟩ | ⟨b1, b2⟩
        · rcases pA i with ⟨k, n2, d2, v2, a1, a2, a3, a4⟩ | ⟨a1, a2⟩
          · have : k' = k := kinj b1 a1
            subst this
            by_cases hi : i < e1.length
            · exact absurd (a2 hi) (h n2 d2)
            · exfalso
              rcases fm k' with ⟨j, f1, f2⟩ | ⟨f1, _⟩
              · have l1 := ar.len
                have hk : k' < ms.length := by rw [← ljs]; exact (List.getElem?_eq_some_iff.mp a1).1
                -- the slot holds something of its own
                have hex : ∃ n d, e1[i]? = some (.own n d) := fill_own h3 a1
                obtain ⟨n, d, he⟩ := hex
                exact hi (List.getElem?_eq_some_iff.mp he).1
              · exact f1 i a1
          · exact absurd (mem_ioJ b1) a1
        · rw [b2]
          rcases pA i with ⟨k, n2, d2, v2, a1, a2, a3, a4⟩ | ⟨a1, a2⟩
          · exact absurd (mem_ioJ a1) b1
          · exact s1.emp i fun n d e => h n d (by rw [a2]; exact e)
      · rcases pg i with ⟨k', b1, b2⟩ | ⟨b1, b2⟩
        · rw [b2] at ha
          cases z : cutH r G' F1 a with
          | none => rfl
          | some o =>
            have := cutS a o z
            rw [(hF' k' a ha).2] at this
            cases this
        · rw [b2] at ha
          by_cases hr : i ∈ r
          · exact cutI hr ha
          · cases z : cutH r G' F1 a with
            | none => rfl
            | some o =>
              exfalso
              have hg := cutS a o z
              obtain ⟨u, hu, _⟩ := s1.mut ha
              rcases nn a o hg with w | w | ⟨k, w⟩ | ⟨w, w2⟩
              · rw [vw_out fun k hk hb => s1.apart k i a (fun q => hr (by rw [← q]; exact hk)) hb ha] at w
                rw [s1.free i a ha] at w
                cases w
              · rw [hu] at w; cases w
              · obtain ⟨j, e, ha2⟩ := fsub w
                have : i ≠ j := fun z => b1 (by rw [z]; exact mem_ioJ e)
                exact s1.apart i j a this ha ha2
              · obtain ⟨u2, hu2, m2⟩ := s1.mut ha
                rw [w2] at hu2
                cases hu2
                exact w.mut m2
      · rcases pg i with ⟨k, b1, b2⟩ | ⟨b1, b2⟩
        · rw [b2] at hi
          rcases pg j with ⟨k2, b3, b4⟩ | ⟨b3, b4⟩
          · rw [b4] at hb
            refine apF k k2 a (fun z => ?_) hi hb
            subst z
            rw [b1] at b3
            cases b3
            exact ne rfl
          · rw [b4] at hb
            exact notF' b3 hi hb
        · rw [b2] at hi
          rcases pg j with ⟨k2, b3, b4⟩ | ⟨b3, b4⟩
          · rw [b4] at hb
            exact notF' b1 hb hi
          · rw [b4] at hb
            exact s1.apart i j a ne hi hb
    have ev2 : Evo (ioJ js) e1 H1 G1 F1 (putA ms js outs e1) H' (cutH r G' F1) (fput js Fs' F1) := by
      refine ⟨gS, fun a o e h => kk a o e fun k hk => ?_, fun i a ha => ?_, fun a o e => ?_, fun i hi => ?_, putA_len _ _ _ _⟩
      · obtain ⟨j, _, ha2⟩ := fsub hk
        exact h j ha2
      · rcases pg i with ⟨k', b1, b2⟩ | ⟨b1, b2⟩
        · rw [b2] at ha
          rcases (hF' k' a ha).1 with ⟨k2, h2⟩ | z
          · obtain ⟨j, _, ha2⟩ := fsub h2
            exact .inl ⟨j, ha2⟩
          · exact .inr z
        · rw [b2] at ha
          exact .inl ⟨i, ha⟩
      · rcases nn a o (cutS a o e) with w | w | ⟨k, w⟩ | w
        · rcases vw_cases r F1 a with ⟨i, hi, ha⟩ | z
          · exact .inr (.inr (.inl ⟨i, ha⟩))
          · rw [vw_out z] at w
            exact .inl w
        · exact .inr (.inl w)
        · obtain ⟨j, _, ha2⟩ := fsub w
          exact .inr (.inr (.inl ⟨j, ha2⟩))
        · exact .inr (.inr (.inr w))
      · rcases pg i with ⟨k', b1, b2⟩ | ⟨b1, b2⟩
        · exact absurd (mem_ioJ b1) hi
        · rcases pA i with ⟨k, n2, d2, v2, a1, a2, a3, a4⟩ | ⟨a1, a2⟩
          · exact absurd (mem_ioJ a1) hi
          · exact ⟨a2, b2, fun a ha => keepO hi ha⟩
    refine q v H' _ _ FT s2 (ev1.trans ev2) ow' fun a ha => ?_
    obtain ⟨t1, t2, t3⟩ := hFT a ha
    refine ⟨⟨?_, fun j hj => ?_⟩, ?_⟩
    · cases z : cutH r G' F1 a with
      | none => rfl
      | some o =>
        have := cutS a o z
        rw [t2] at this
        cases this
    · rcases pg j with ⟨k', b1, b2⟩ | ⟨b1, b2⟩
      · rw [b2] at hj
        exact t3 k' hj
      · rw [b2] at hj
        rcases t1 with ⟨k, w⟩ | w
        · obtain ⟨j2, e, ha2⟩ := fsub w
          have : j ≠ j2 := fun z => b1 (by rw [z]; exact mem_ioJ e)
          exact s1.apart j j2 a this hj ha2
        · obtain ⟨u, hu, _⟩ := s1.mut hj
          rw [w] at hu; cases hu
    · rcases t1 with ⟨k, w⟩ | w
      · obtain ⟨j2, e, ha2⟩ := fsub w
        exact ev1.f j2 a ha2
      · exact (ev1.none_of w).elim .inr .inl
end
end HD
set_option Elab.async false
set_option linter.all false
set_option maxRecDepth 100000
set_option maxHeartbeats 2000000
set_option autoImplicit false
/-! HD11: calls written out; lists and dicts changed. -/
namespace HD
open PySem PySem.Spec PyProof.Rows L2
variable [Tb]

section
variable {X : Cx} {e : Expr} {es : List Expr} {pos p : Pos} {x : Str} {k : Nat} {f : Addr} {fd : FuncData} {ps : List Str} {ms js : List (Option Nat)} {m r : List Nat} {φ : FnD} {fs : M (List D)}
/-- f(e, ..) -/
theorem df_call (Fk : FnOk X.prog X.w X.K X.mg X.base CX0 k f fd ps (spD X.K ms φ)) (hr : Room k X.A) (hg : Gl X x) (hm : X.mg x = some (.ref f)) (hk : PySem.W.keepIn X.K (.ref f) = true) (hb : Binds X.K fd ps []) (ha : DC X js m r fs (e :: es)) (nd : (ioJ js).Nodup := by decide) (al : alike ms js = true := by rfl)
    (hdb : (x == ("__debug__" : Str)) = false := by decide) (he : starEach (e :: es) X.env = (false, eval e X.env) :: starEach es X.env := by rfl) (hpl : (backTo pos (starEach es X.env)).any (·.1) = false := by rfl) :
    DF X (m ++ ioJ js) (callF ms js r φ fs) (.Call (.Name x p) (e :: es) [] pos) := pe_weak (pe_call Fk hr hg hm hk hb .nil pass0 ha hdb he hpl) fun σ H Q h => tDF_call nd al h
theorem df_call0 (Fk : FnOk X.prog X.w X.K X.mg X.base CX0 k f fd ps (spD X.K [] φ)) (hr : Room k X.A) (hg : Gl X x) (hm : X.mg x = some (.ref f)) (hk : PySem.W.keepIn X.K (.ref f) = true) (hb : Binds X.K fd ps [])
    (hdb : (x == ("__debug__" : Str)) = false := by decide) : DF X [] (callF [] [] [] φ args0) (.Call (.Name x p) [] [] pos) := by
  refine pe_weak (pe_call0 Fk hr hg hm hk hb .nil pass0 hdb) fun σ H Q h => ?_
  obtain ⟨G, env, F, p, env', s, hf, q⟩ := h
  have z := tDF_call (X := X) (js := []) (m := []) (r := []) (ms := []) (fs := args0) (by decide) rfl ⟨G, env, F, p, env', s, hf, q⟩
  obtain ⟨G, env, F, ds, env', s, hf, k⟩ := z
  simp only [args0, Option.some.injEq, Prod.mk.injEq] at hf
  obtain ⟨rfl, rfl⟩ := hf
  exact k [] H G F s Evo.refl .nil
end

/-! ### rows of own things -/
section
variable {K : PySem.W.Frag} {G H : Hp} {n : Nat}
theorem Owns.app : ∀ {xs ys : List V} {ds es : List D} {F1 F2 : List Addr}, Owns K G H n xs ds F1 → Owns K G H n ys es F2 → (∀ a ∈ F1, a ∉ F2) → Owns K G H n (xs ++ ys) (ds ++ es) (F1 ++ F2)
  | _, _, _, _, _, _, .nil, s, _ => s
  | _, _, _, _, _, F2, .cons (F1 := A) (F2 := B) h r c, s, ap => by
    rw [List.append_assoc]
    exact .cons h (Owns.app r s fun a ha => ap a (List.mem_append_right _ ha)) fun a ha hb => (List.mem_append.mp hb).elim (c a ha) (ap a (List.mem_append_left _ ha))
theorem Owns.split : ∀ {xs ys : List V} {ds es : List D} {F : List Addr}, Owns K G H n (xs ++ ys) (ds ++ es) F → xs.length = ds.length → ∃ F1 F2, Owns K G H n xs ds F1 ∧ Owns K G H n ys es F2 ∧ F = F1 ++ F2 ∧ ∀ a ∈ F1, a ∉ F2
  | [], ys, [], es, F, h, _ => ⟨[], F, .nil, h, rfl, fun a ha => by cases ha⟩
  | x :: xs, ys, d :: ds, es, _, .cons (F1 := A) h r c, hl => by
    obtain ⟨F1, F2, h1, h2, e, ap⟩ := Owns.split (xs := xs) (ds := ds) r (by simpa using hl)
    subst e
    exact ⟨A ++ F1, F2, .cons h h1 fun a ha hb => c a ha (List.mem_append_left _ hb), h2, by rw [List.append_assoc], fun a ha hb => (List.mem_append.mp ha).elim (fun z => c a z (List.mem_append_right _ hb)) (fun z => ap a z hb)⟩
  | [], _, _ :: _, _, _, _, hl => by simp at hl
  | _ :: _, _, [], _, _, _, hl => by simp at hl
theorem Owns.one {v : V} {d : D} {F : List Addr} (h : Own K G H n v d F) : Owns K G H n [v] [d] F := by
  have := Owns.cons h (.nil (K := K) (G := G) (H := H)) fun a _ hb => by cases hb
  rw [List.append_nil] at this
  exact this
theorem Owns.one' {v : V} {d : D} {F : List Addr} (h : Owns K G H n [v] [d] F) : Own K G H n v d F := by
  cases h with
  | cons h r c =>
    cases r
    rw [List.append_nil]
    exact h
theorem list_at {α : Type} : ∀ {l : List α} {j : Nat} {x : α}, l[j]? = some x → l = l.take j ++ x :: l.drop (j + 1)
  | [], j, x, h => by simp at h
  | a :: l, 0, x, h => by
    simp at h
    subst h
    rfl
  | a :: l, j + 1, x, h => by
    rw [List.take_succ_cons, List.drop_succ_cons, List.cons_append, ← list_at (l := l) (j := j) (by simpa using h)]
theorem set_at {α : Type} : ∀ {l : List α} {j : Nat} {x y : α}, l[j]? = some x → l.set j y = l.take j ++ y :: l.drop (j + 1)
  | [], j, x, y, h => by simp at h
  | a :: l, 0, x, y, h => by rfl
  | a :: l, j + 1, x, y, h => by
    rw [List.set_cons_succ, List.take_succ_cons, List.drop_succ_cons, List.cons_append, ← set_at (l := l) (j := j) (by simpa using h)]
/-- one thing is put in the place of another -/
theorem Owns.put {xs : List V} {ds : List D} {F FT : List Addr} {j : Nat} {v : V} {d : D} (h : Owns K G H n xs ds F) (hj : j < ds.length) (ow : Own K G H n v d FT) (ap : ∀ a ∈ FT, a ∉ F) :
    ∃ F', Owns K G H n (xs.set j v) (ds.set j d) F' ∧ ∀ a ∈ F', a ∈ F ∨ a ∈ FT := by
  have hl := h.length
  obtain ⟨x, hx⟩ : ∃ x, xs[j]? = some x := ⟨_, List.getElem?_eq_getElem (by omega)⟩
  obtain ⟨y, hy⟩ : ∃ y, ds[j]? = some y := ⟨_, List.getElem?_eq_getElem hj⟩
  rw [list_at hx, list_at hy] at h
  obtain ⟨A, B, h1, h2, e, c1⟩ := h.split (by rw [List.length_take, List.length_take, hl])
  cases h2 with
  | cons h3 h4 c2 =>
    rename_i C Dd
    subst e
    refine ⟨A ++ (FT ++ Dd), ?_, fun a ha => ?_⟩
    · rw [set_at hx, set_at hy]
      refine h1.app (.cons ow h4 fun a ha hb => ap a ha (List.mem_append_right _ (List.mem_append_right _ hb))) fun a ha hb => ?_
      rcases List.mem_append.mp hb with z | z
      · exact ap a z (List.mem_append_left _ ha)
      · exact c1 a ha (List.mem_append_right _ z)
    · rcases List.mem_append.mp ha with z | z
      · exact .inl (List.mem_append_left _ z)
      · rcases List.mem_append.mp z with z | z
        · exact .inr z
        · exact .inl (List.mem_append_right _ (List.mem_append_right _ z))
end

/-- what may be put into something owned to depth k + 1: its own to depth k, or (frozen) at k = 0, or what can't change -/
def fits (k n : Nat) (d : D) : Bool := n == k || d.im
theorem fits_own {K : PySem.W.Frag} {G H : Hp} {k n : Nat} {v : V} {d : D} {F : List Addr} (h : Own K G H n v d F) (c : fits k n d = true) : Own K G H k v d F := by
  unfold fits at c
  rw [Bool.or_eq_true] at c
  rcases c with c | c
  · have e : n = k := by simpa using c
    rw [← e]
    exact h
  · cases h with
    | shr _ r => exact .shr (.inr c) r
    | lst _ _ _ => simp [D.im] at c
    | dK _ _ _ _ => simp [D.im] at c
    | dT _ _ _ _ => simp [D.im] at c
section
variable {K : PySem.W.Frag} {σ : L2.St} {H G : Hp} {env : Env} {F : Nat → List Addr}
/-- a slot's own object is rewritten at its root p: the others stand -/
theorem S.reput (s : S K σ H G env F) {i n : Nat} {p : Addr} {o : HO} {d : D} {F' : List Addr} {v : V} (hp : p ∈ F i) (hσ : σ[i]? = some (some v)) (hi : i < env.length) (ow : Own K G (upd H p o) n v d F') (hF : ∀ a ∈ F', G a = none ∧ ∀ j, j ≠ i → a ∉ F j) : S K σ (upd H p o) G (env.set i (.own n d)) (fset F i F') := by
  refine ⟨fun a u e => ?_, fun j d' e => ?_, fun j n' d' e => ?_, fun j h => ?_, fun j a ha => ?_, fun j k a ne ha hb => ?_, by rw [List.length_set]; exact s.len, s.tb.upd fun u e => by
    obtain ⟨o', e', m⟩ := s.mut hp
    rw [e] at e'
    cases e'
    exact m⟩
  · have := s.free i p hp
    rw [upd_ne (ne_of_none e this)]
    exact s.same a u e
  · rcases env_set e with ⟨_, q, _⟩ | ⟨_, q⟩
    · cases q
    · exact s.shr j d' q
  · rcases env_set e with ⟨rfl, q, _⟩ | ⟨ne, q⟩
    · cases q
      exact ⟨v, hσ, by rw [fset_same]; exact ow⟩
    · obtain ⟨w, h1, h2⟩ := s.own j n' d' q
      refine ⟨w, h1, ?_⟩
      rw [fset_ne ne]
      exact h2.move (Same.refl _) fun a ha => upd_ne fun z => s.apart j i a ne ha (by rw [z]; exact hp)
  · by_cases e : j = i
    · subst e
      exact absurd (List.getElem?_set_self hi) (h n d)
    · rw [fset_ne e]
      exact s.emp j fun n d q => h n d (by rw [env_set_ne e]; exact q)
  · by_cases e : j = i
    · subst e
      rw [fset_same] at ha
      exact (hF a ha).1
    · rw [fset_ne e] at ha
      exact s.free j a ha
  · by_cases e : j = i
    · subst e
      rw [fset_same] at ha
      rw [fset_ne (Ne.symm ne)] at hb
      exact (hF a ha).2 k (Ne.symm ne) hb
    · by_cases e2 : k = i
      · subst e2
        rw [fset_same] at hb
        rw [fset_ne e] at ha
        exact (hF a hb).2 j e ha
      · rw [fset_ne e] at ha
        rw [fset_ne e2] at hb
        exact s.apart j k a ne ha hb
theorem Evo.reput {i : Nat} {p : Addr} {o : HO} {sl : Slot} {F' : List Addr} {H0 : Hp} {env0 : Env} {G0 : Hp} {F0 : Nat → List Addr} {m : List Nat} (s : S K σ H G env F) (ev : Evo m env0 H0 G0 F0 env H G F) (hp : p ∈ F i) (hF : ∀ a ∈ F', (∃ j, a ∈ F0 j) ∨ H0 a = none) : Evo (m ++ [i]) env0 H0 G0 F0 (env.set i sl) (upd H p o) G (fset F i F') where
  l := (List.length_set).trans ev.l
  g := ev.g
  k := fun a u e h => by
    have : a ≠ p := fun z => by
      subst z
      rcases ev.f i a hp with ⟨j, hj⟩ | w
      · exact h j hj
      · rw [e] at w; cases w
    rw [upd_ne this]
    exact ev.k a u e h
  f := fun j a ha => by
    by_cases e : j = i
    · subst e
      rw [fset_same] at ha
      exact hF a ha
    · rw [fset_ne e] at ha
      exact ev.f j a ha
  n := ev.n
  u := fun j hj => by
    have e : j ≠ i := fun q => hj (by rw [q]; exact List.mem_append_right _ List.mem_cons_self)
    obtain ⟨a1, a2, a3⟩ := ev.u j fun q => hj (List.mem_append_left _ q)
    refine ⟨(env_set_ne e).trans a1, (fset_ne e).trans a2, fun a ha => ?_⟩
    have : a ≠ p := fun z => by
      subst z
      exact s.apart j i a e (by rw [a2]; exact ha) hp
    rw [upd_ne this]
    exact a3 a ha
end
/-! ### x.append(e), x.pop() -/
def appM (i : Nat) (f : M (D × Nat)) : M D := fun env => match env[i]? with
  | some (.own _ (.lst _)) => (f env).bind fun p => match p.2[i]? with
    | some (.own (k + 1) (.lst ds)) => if (fits k p.1.2 p.1.1 && decide (ds.length < 16777216)) = true then some (.non, p.2.set i (.own (k + 1) (.lst (ds ++ [p.1.1])))) else none
    | _ => none
  | _ => none
def popM (i : Nat) : M (D × Nat) := fun env => match env[i]? with
  | some (.own (k + 1) (.lst ds)) => match ds.getLast? with
    | some d => some ((d, if d.im = true then 0 else k), env.set i (.own (k + 1) (.lst ds.dropLast)))
    | none => none
  | _ => none
def popI (i : Nat) (f : M D) : M (D × Nat) := fun env => match env[i]? with
  | some (.own _ (.lst _)) => (f env).bind fun p => match p.1, p.2[i]? with
    | .int j, some (.own (k + 1) (.lst ds)) => if 0 ≤ j ∧ j < 2 ^ 63 ∧ D.ims ds = true then (ds[j.toNat]?).map fun d => ((d, 0), p.2.set i (.own (k + 1) (.lst (ds.eraseIdx j.toNat)))) else none
    | _, _ => none
  | _ => none
section
variable {X : Cx} {e : Expr} {m r : List Nat} {i : Nat} {x : Str} {xp apos cpos : Pos}
theorem de_append {fd : M (D × Nat)} (hN : X.N[i]? = some x) (hv : Vis X.env.scope x) (ha : DF X m fd e) (hd : (x == ("__debug__" : Str)) = false := by decide) (hcd : (x == ("__classdict__" : Str)) = false := by decide)
    (hbase : attributeBase (.Name x xp) "append" X.env (eval (.Name x xp) X.env) = eval (.Name x xp) X.env := by rfl)
    (hfew : ((backTo cpos (starEach [e] X.env)).all (fun x => !x.1) && (backToKw cpos (keywordEach [] X.env)).all (fun x => x.1.isSome) && decide (([e] : List Expr).length + ([] : List Keyword).length + (if ([] : List Keyword).isEmpty then 0 else 1) < 30)) = true := by rfl)
    (hline : (apos.endLine == cpos.line) = true := by rfl) (hs : starEach [e] X.env = (false, eval e X.env) :: starEach [] X.env := by rfl) (hplain : (backTo cpos (starEach [] X.env)).any (·.1) = false := by rfl) :
    DE X (m ++ [i]) [] (appM i fd) (.Call (.Attribute (.Name x xp) "append" apos) [e] [] cpos) := by
  refine pe_weak (pe_bm PySem.F.plainAttrs_list PySem.F.slot_list_append PySem.F.type_list_append mt_append (pe_var hN hv hd hcd) (pa_cons ha pa_nil hs) hbase hfew hline hs hplain) fun σ H Q ⟨G, env, F, d, env', s, hf, q⟩ => ?_
  unfold appM at hf
  split at hf
  · rename_i k0 ds0 e0
    obtain ⟨⟨⟨y, n⟩, e1⟩, h1, h2⟩ := bind_some' hf
    simp only [] at h2
    split at h2
    · rename_i k ds e2
      split at h2
      · rename_i c
        cases h2
        rw [Bool.and_eq_true, decide_eq_true_eq] at c
        obtain ⟨v, hσ, ow0⟩ := s.own i k0 _ e0
        have hty : tyV X.K "list" v H := by
          generalize F i = Fq at ow0
          cases ow0 with
          | shr c r =>
            cases r with
            | lst a _ => exact .inl ⟨rfl, _, SqL.of (s.same _ _ a)⟩
          | lst a _ _ => exact .inl ⟨rfl, _, SqL.of a⟩
        refine ⟨v, hσ, hty, G, env, F, (y, n), e1, s, h1, fun u H1 G1 F1 FT s1 ev1 ow hF => ?_⟩
        obtain ⟨v', hσ', ow1⟩ := s1.own i (k + 1) _ e2
        rw [hσ] at hσ'
        cases hσ'
        have oy := fits_own ow c.1
        have hlen : ∀ a ∈ FT, a ∉ F1 i := fun a ha => (hF a ha).1.2 i
        generalize hFi : F1 i = Fi at ow1
        cases ow1 with
        | shr c _ => rcases c with c | c <;> simp [D.im] at c
        | @lst _ p xs _ Fr hp ho hpn =>
          have hpi : p ∈ F1 i := by rw [hFi]; exact List.mem_cons_self
          have pT : p ∉ FT := fun z => hlen p z hpi
          have ho' : Owns X.K G1 (upd H1 p (.lst (xs ++ [u]))) k xs ds Fr := ho.move (Same.refl _) fun a ha => upd_ne fun z => hpn (by rw [← z]; exact ha)
          have oy' : Own X.K G1 (upd H1 p (.lst (xs ++ [u]))) k u y FT := oy.move (Same.refl _) fun a ha => upd_ne fun z => pT (by rw [← z]; exact ha)
          have on := ho'.app (Owns.one oy') fun a ha hb => hlen a hb (by rw [hFi]; exact List.mem_cons_of_mem _ ha)
          refine ⟨p, xs, u, rfl, rfl, hp, by rw [sizeLine_eq, ho.length]; exact c.2, ?_⟩
          refine q .non _ G1 _ (s1.reput hpi hσ (List.getElem?_eq_some_iff.mp e2).1 (.lst upd_same on fun z => (List.mem_append.mp z).elim hpn pT) fun a ha => ?_) (Evo.reput s1 ev1 hpi fun a ha => ?_) (by rw [vw_nil]; exact .non)
          · rcases List.mem_cons.mp ha with z | z
            · subst z
              exact ⟨s1.free i a hpi, fun j ne hj => s1.apart j i a ne hj hpi⟩
            · rcases List.mem_append.mp z with z | z
              · have hz : a ∈ F1 i := by rw [hFi]; exact List.mem_cons_of_mem _ z
                exact ⟨s1.free i a hz, fun j ne hj => s1.apart j i a ne hj hz⟩
              · exact ⟨(hF a z).1.1, fun j _ => (hF a z).1.2 j⟩
          · rcases List.mem_cons.mp ha with z | z
            · subst z
              exact ev1.f i a hpi
            · rcases List.mem_append.mp z with z | z
              · exact ev1.f i a (by rw [hFi]; exact List.mem_cons_of_mem _ z)
              · exact (hF a z).2
      · cases h2
    · cases h2
  · cases hf
end
end HD
set_option Elab.async false
set_option linter.all false
set_option maxRecDepth 100000
set_option maxHeartbeats 2000000
set_option autoImplicit false
/-! HD12: displays and comprehensions of fresh things; dicts made of pairs. -/
namespace HD
open PySem PySem.Spec PyProof.Rows L2
variable [Tb]

abbrev Rl := Hp → Hp → V → D → List Addr → Prop
/-- a way to stand for data with a footprint, that lasts while nobody writes there -/
structure ElR (R : Rl) : Prop where
  move : ∀ {G G' H H' : Hp} {v : V} {d : D} {F : List Addr}, R G H v d F → Same G G' → (∀ a ∈ F, H' a = H a) → R G' H' v d F
  mt : ∀ {G H : Hp} {v : V} {d : D} {F : List Addr}, R G H v d F → ∀ a ∈ F, ∃ o, H a = some o ∧ MutO o
def OwnR (K : PySem.W.Frag) (k : Nat) : Rl := fun G H v d F => Own K G H k v d F
theorem ownR {K : PySem.W.Frag} {k : Nat} : ElR (OwnR K k) := ⟨fun h e f => Own.move e h f, fun h => Own.mut h⟩
inductive OwnsR (R : Rl) (G H : Hp) : List V → List D → List Addr → Prop
  | nil : OwnsR R G H [] [] []
  | cons {v : V} {vs : List V} {d : D} {ds : List D} {F1 F2 : List Addr} : R G H v d F1 → OwnsR R G H vs ds F2 → (∀ a ∈ F1, a ∉ F2) → OwnsR R G H (v :: vs) (d :: ds) (F1 ++ F2)
section
variable {R : Rl} {G G' H H' : Hp}
theorem OwnsR.move (er : ElR R) (eg : Same G G') : ∀ {v : List V} {d : List D} {F : List Addr}, OwnsR R G H v d F → (∀ a ∈ F, H' a = H a) → OwnsR R G' H' v d F
  | _, _, _, .nil, _ => .nil
  | _, _, _, .cons h r c, e => .cons (er.move h eg fun a ha => e a (List.mem_append_left _ ha)) (OwnsR.move er eg r fun a ha => e a (List.mem_append_right _ ha)) c
theorem OwnsR.mts (er : ElR R) : ∀ {v : List V} {d : List D} {F : List Addr}, OwnsR R G H v d F → ∀ a ∈ F, ∃ o, H a = some o ∧ MutO o
  | _, _, _, .nil, a, ha => by cases ha
  | _, _, _, .cons h r c, a, ha => by
    rcases List.mem_append.mp ha with ha | ha
    · exact er.mt h a ha
    · exact OwnsR.mts er r a ha
theorem OwnsR.app : ∀ {xs ys : List V} {ds es : List D} {F1 F2 : List Addr}, OwnsR R G H xs ds F1 → OwnsR R G H ys es F2 → (∀ a ∈ F1, a ∉ F2) → OwnsR R G H (xs ++ ys) (ds ++ es) (F1 ++ F2)
  | _, _, _, _, _, _, .nil, s, _ => s
  | _, _, _, _, _, F2, .cons (F1 := A) (F2 := B) h r c, s, ap => by
    rw [List.append_assoc]
    exact .cons h (OwnsR.app r s fun a ha => ap a (List.mem_append_right _ ha)) fun a ha hb => (List.mem_append.mp hb).elim (c a ha) (ap a (List.mem_append_left _ ha))
theorem OwnsR.one {v : V} {d : D} {F : List Addr} (h : R G H v d F) : OwnsR R G H [v] [d] F := by
  have := OwnsR.cons h (.nil (R := R) (G := G) (H := H)) fun a _ hb => by cases hb
  rw [List.append_nil] at this
  exact this
theorem OwnsR.length : ∀ {vs : List V} {ds : List D} {F : List Addr}, OwnsR R G H vs ds F → vs.length = ds.length
  | _, _, _, .nil => rfl
  | _, _, _, .cons _ r _ => by rw [List.length_cons, List.length_cons, OwnsR.length r]
theorem OwnsR.owns {K : PySem.W.Frag} {k : Nat} : ∀ {vs : List V} {ds : List D} {F : List Addr}, OwnsR (OwnR K k) G H vs ds F → Owns K G H k vs ds F
  | _, _, _, .nil => .nil
  | _, _, _, .cons h r c => .cons h (OwnsR.owns r) c
end

/-- of nobody yet -/
def Frs (G' : Hp) (F' F : Nat → List Addr) (H : Hp) (FT : List Addr) : Prop := ∀ a ∈ FT, (G' a = none ∧ ∀ j, a ∉ F' j) ∧ ((∃ j, a ∈ F j) ∨ H a = none)
/-- what was fresh stays fresh -/
theorem Frs.later {R : Rl} (er : ElR R) {m : List Nat} {env env' : Env} {H G H' G' H0 : Hp} {F F' F0 : Nat → List Addr} {vs : List V} {ds : List D} {FT : List Addr} (ow : OwnsR R G H vs ds FT) (hf : Frs G F F0 H0 FT) (ev : Evo m env H G F env' H' G' F') :
    OwnsR R G' H' vs ds FT ∧ Frs G' F' F0 H0 FT := by
  have keep : ∀ a ∈ FT, H' a = H a := fun a ha => by
    obtain ⟨o, e, mo⟩ := ow.mts er a ha
    rw [e]
    exact (ev.k a o e (hf a ha).1.2).mut mo
  refine ⟨ow.move er ev.g keep, fun a ha => ⟨⟨?_, fun j hj => ?_⟩, (hf a ha).2⟩⟩
  · cases q : G' a with
    | none => rfl
    | some o =>
      obtain ⟨u, e, _⟩ := ow.mts er a ha
      rcases ev.n a o q with z | z | ⟨j, z⟩ | ⟨z, z2⟩
      · rw [(hf a ha).1.1] at z; cases z
      · rw [e] at z; cases z
      · exact absurd z ((hf a ha).1.2 j)
      · obtain ⟨u2, e2, m2⟩ := ow.mts er a ha
        rw [z2] at e2
        cases e2
        exact (z.mut m2).elim
  · obtain ⟨u, e, _⟩ := ow.mts er a ha
    rcases ev.f j a hj with ⟨k, z⟩ | z
    · exact (hf a ha).1.2 k z
    · rw [e] at z; cases z
/-- the later is apart from the earlier -/
theorem Frs.apart {R : Rl} (er : ElR R) {H G G' H0 : Hp} {F F' F0 : Nat → List Addr} {vs : List V} {ds : List D} {FT FT2 : List Addr} (ow : OwnsR R G H vs ds FT) (hf : Frs G F F0 H0 FT) (h2 : Frs G' F' F H FT2) : ∀ a ∈ FT, a ∉ FT2 := fun a h1 hb => by
  obtain ⟨o, ho, _⟩ := ow.mts er a h1
  rcases (h2 a hb).2 with ⟨k, hk⟩ | z
  · exact (hf a h1).1.2 k hk
  · rw [ho] at z; cases z
theorem Frs.back {m : List Nat} {env env' : Env} {H G H' G' G2 : Hp} {F F' F2 : Nat → List Addr} {FT : List Addr} (ev : Evo m env H G F env' H' G' F') (h : Frs G2 F2 F' H' FT) : Frs G2 F2 F H FT := fun a ha => ⟨(h a ha).1, by
  rcases (h a ha).2 with ⟨j, hj⟩ | z
  · exact ev.f j a hj
  · exact (ev.none_of z).elim .inr .inl⟩

/-! ### readings -/
def tDR (K : PySem.W.Frag) (R : Rl) (m : List Nat) (f : M D) : TE := fun σ H Q => ∃ G env F d env', S K σ H G env F ∧ f env = some (d, env') ∧
  ∀ v H' G' F' FT, S K σ H' G' env' F' → Evo m env H G F env' H' G' F' → R G' H' v d FT → Frs G' F' F H FT → Q v H'
abbrev DR (X : Cx) (R : Rl) (m : List Nat) (f : M D) (e : Expr) : Prop := PE X e (tDR X.K R m f)
def tDAR (K : PySem.W.Frag) (R : Rl) (m : List Nat) (f : M (List D)) : TA := fun σ H Q => ∃ G env F ds env', S K σ H G env F ∧ f env = some (ds, env') ∧
  ∀ vs H' G' F' FT, S K σ H' G' env' F' → Evo m env H G F env' H' G' F' → OwnsR R G' H' vs ds FT → Frs G' F' F H FT → Q vs H'
abbrev DAR (X : Cx) (R : Rl) (m : List Nat) (f : M (List D)) (es : List Expr) : Prop := PA X es (tDAR X.K R m f)
/-- a new list of such things -/
def tDL (K : PySem.W.Frag) (R : Rl) (m : List Nat) (f : M (List D)) : TE := fun σ H Q => ∃ G env F ds env', S K σ H G env F ∧ f env = some (ds, env') ∧
  ∀ p vs H' G' F' FT, S K σ H' G' env' F' → Evo m env H G F env' H' G' F' → H' p = some (.lst vs) → OwnsR R G' H' vs ds FT → p ∉ FT → Frs G' F' F H (p :: FT) → Q (.ref p) H'
abbrev DL (X : Cx) (R : Rl) (m : List Nat) (f : M (List D)) (e : Expr) : Prop := PE X e (tDL X.K R m f)
def fitM (k : Nat) (f : M (D × Nat)) : M D := fun env => (f env).bind fun p => if fits k p.1.2 p.1.1 = true then some (p.1.1, p.2) else none
def consM (f : M D) (g : M (List D)) : M (List D) := fun env => (f env).bind fun p => (g p.2).map fun q => (p.1 :: q.1, q.2)
def lstF (k : Nat) (f : M (List D)) : M (D × Nat) := fun env => (f env).map fun p => ((.lst p.1, k + 1), p.2)
def dispM (f : M (List D)) : M (List D) := fun env => (f env).bind fun p => if p.1.length ≤ 16777216 then some p else none
section
variable {X : Cx} {e : Expr} {es : List Expr} {m m1 m2 : List Nat} {k : Nat} {R : Rl} {pos : Pos}
theorem dr_of {f : M (D × Nat)} (h : DF X m f e) : DR X (OwnR X.K k) m (fitM k f) e := pe_weak h fun σ H Q ⟨G, env, F, d, env', s, hf, q⟩ => by
  obtain ⟨⟨⟨x, n⟩, e1⟩, h1, h2⟩ := bind_some' hf
  simp only [] at h2
  split at h2
  · rename_i c
    simp only [Option.some.injEq, Prod.mk.injEq] at h2
    obtain ⟨rfl, rfl⟩ := h2
    exact ⟨G, env, F, _, e1, s, h1, fun v H1 G1 F1 FT s1 ev1 ow hF => q v H1 G1 F1 FT s1 ev1 (fits_own ow c) hF⟩
  · cases h2
theorem dar_nil : DAR X R [] args0 [] := pa_weak pa_nil fun σ H Q ⟨G, env, F, ds, env', s, hf, q⟩ => by
  simp only [args0, Option.some.injEq, Prod.mk.injEq] at hf
  obtain ⟨rfl, rfl⟩ := hf
  exact q [] H G F [] s Evo.refl .nil fun a ha => by cases ha
theorem dar_cons (er : ElR R) {f1 : M D} {fs : M (List D)} (ha : DR X R m1 f1 e) (hb : DAR X R m2 fs es) (hs : starEach (e :: es) X.env = (false, eval e X.env) :: starEach es X.env := by rfl) : DAR X R (m1 ++ m2) (consM f1 fs) (e :: es) := by
  refine pa_weak (pa_cons ha hb hs) fun σ H Q ⟨G, env, F, ds, env', s, hf, q⟩ => ?_
  obtain ⟨⟨x, e1⟩, h1, h2⟩ := bind_some' hf
  obtain ⟨⟨xs, e2⟩, h3, h4⟩ := map_some' h2
  simp only [Prod.mk.injEq] at h4
  obtain ⟨rfl, rfl⟩ := h4
  refine ⟨G, env, F, x, e1, s, h1, fun v H1 G1 F1 FT s1 ev1 rp1 hF1 => ⟨G1, e1, F1, xs, e2, s1, h3, fun ws H2 G2 F2 FT2 s2 ev2 rp2 hF2 => ?_⟩⟩
  obtain ⟨o1, f1⟩ := Frs.later er (OwnsR.one rp1) hF1 ev2
  have ap := Frs.apart er (OwnsR.one rp1) hF1 hF2
  refine q _ H2 G2 F2 (FT ++ FT2) s2 (ev1.trans ev2) (o1.app rp2 ap) fun a ha => (List.mem_append.mp ha).elim (f1 a) ((hF2.back ev1) a)
/-- [a, b, ..] of fresh things -/
theorem dl_disp (er : ElR R) {fs : M (List D)} (h : DAR X R m fs es) : DL X R m (dispM fs) (.List es pos) := pe_weak (pe_lst h) fun σ H Q ⟨G, env, F, ds, env', s, hf, q⟩ => by
  obtain ⟨⟨ds', e1⟩, h1, h2⟩ := bind_some' hf
  by_cases c : ds'.length ≤ 16777216
  · rw [if_pos c] at h2
    cases h2
    refine ⟨G, env, F, ds, env', s, h1, fun vs H1 G1 F1 FT s1 ev1 ow hF => ⟨by rw [ow.length, sizeLine_eq]; exact c, fun p hp => ?_⟩⟩
    have hG : G1 p = none := s1.same.free hp
    have hFp : ∀ j, p ∉ F1 j := fun j hj => by
      obtain ⟨u, hu, _⟩ := s1.mut hj
      rw [hp] at hu
      cases hu
    have pT : p ∉ FT := fun z => by
      obtain ⟨u, hu, _⟩ := ow.mts er p z
      rw [hp] at hu
      cases hu
    refine q p vs _ G1 F1 FT (s1.updOut hG hFp (mutN hp)) ⟨ev1.g, fun a u e1 e2 => ?_, ev1.f, ev1.n, fun i hi => ?_, ev1.l⟩ upd_same (ow.move er (Same.refl _) fun a ha => upd_ne fun z => pT (by rw [← z]; exact ha)) pT fun a ha => ?_
    · exact (ev1.k a u e1 e2).upd hp
    · obtain ⟨a1, a2, a3⟩ := ev1.u i hi
      exact ⟨a1, a2, fun a ha => by rw [upd_ne fun z => hFp i (by rw [← z, a2]; exact ha)]; exact a3 a ha⟩
    · rcases List.mem_cons.mp ha with z | z
      · subst z
        exact ⟨⟨hG, hFp⟩, (ev1.none_of hp).elim .inr .inl⟩
      · exact hF a z
  · rw [if_neg c] at h2
    cases h2
theorem df_ofL {f : M (List D)} (h : DL X (OwnR X.K k) m f e) : DF X m (lstF k f) e := pe_weak h fun σ H Q ⟨G, env, F, d, env', s, hf, q⟩ => by
  obtain ⟨⟨x, e1⟩, h1, h2⟩ := map_some' hf
  simp only [Prod.mk.injEq] at h2
  obtain ⟨rfl, rfl⟩ := h2
  exact ⟨G, env, F, x, e1, s, h1, fun p vs H1 G1 F1 FT s1 ev1 hp ow hn hF => q _ H1 G1 F1 (p :: FT) s1 ev1 (.lst hp ow.owns hn) hF⟩
end

/-! ### comprehensions of fresh things -/
structure Cmp2 where
  rE : Bool
  tgt : GF
  tst : M Bool
  elt : M D
  vs : List Nat
def compL2 (c : Cmp2) : List D → Env → Option (List D × Env)
  | [], env => some ([], env)
  | d :: ds, env => if (c.rE || d.im) = true then (c.tgt d env).bind fun e1 => (c.tst e1).bind fun p =>
      if p.1 = true then (c.elt p.2).bind fun q => (compL2 c ds (clr q.2 c.vs)).map fun r => (q.1 :: r.1, r.2)
      else compL2 c ds (clr p.2 c.vs)
    else none
def compG (dj' : Bool) (it : M (List D × Bool)) (c : Cmp2) : M (List D) := fun env => (it env).bind fun p =>
  if ((dj' || p.1.2) && noOwn p.2 c.vs && decide (p.1.1.length ≤ 16777216)) = true then (compL2 c p.1.1 (clr p.2 c.vs)).map fun r => (r.1, rst p.2 r.2 c.vs) else none
section
variable {X : Cx} {m r : List Nat} {pos : Pos} {R : Rl}
theorem lc_readR (er : ElR R) {own : List (Str × Nat)} {tg it : Expr} {fi : M (List D × Bool)} {c : Cmp2} {mt ms me : List Nat} (hvs : c.vs = own.map (·.2)) (hrE : c.rE = r.isEmpty) (hmt : ∀ i ∈ mt, i ∈ c.vs) {σ : L2.St} {H : Hp} {Q : VK}
    (h : tDL X.K R (m ++ (ms ++ me)) (compG (dj r (c.vs ++ (ms ++ me))) fi c) σ H Q) : tLc (tDI X.K m r fi) (tDG X.K mt c.tgt) (tDT X.K ms c.tst) (tDR X.K R me c.elt) (own.map (·.2)) σ H Q := by
  obtain ⟨G, env, F, d, env', s, hf, q⟩ := h
  obtain ⟨⟨⟨ds, st⟩, e0⟩, h1, h2⟩ := bind_some' hf
  have cc : ((dj r (c.vs ++ (ms ++ me)) || st) && noOwn e0 c.vs && decide (ds.length ≤ 16777216)) = true := by
    cases hc : ((dj r (c.vs ++ (ms ++ me)) || st) && noOwn e0 c.vs && decide (ds.length ≤ 16777216)) with
    | true => rfl
    | false => simp [hc] at h2
  simp only [] at h2
  rw [if_pos cc] at h2
  obtain ⟨⟨xs, ez⟩, h3, h4⟩ := map_some' h2
  simp at h4
  obtain ⟨rfl, rfl⟩ := h4
  rw [Bool.and_eq_true, Bool.and_eq_true, decide_eq_true_eq] at cc
  obtain ⟨⟨c1, no⟩, hz⟩ := cc
  rw [← hvs]
  refine ⟨G, env, F, (ds, st), e0, s, h1, fun J H0 G0 F0 s0 ev0 hJ Dd hD => ?_⟩
  have hG0 : G0 Dd = none := s0.same.free hD
  have hF0 : ∀ j, Dd ∉ F0 j := fun j hj => by
    obtain ⟨u, hu, _⟩ := s0.mut hj
    rw [hD] at hu
    cases hu
  have hFc : ∀ j, Dd ∉ fclr F0 c.vs j := fun j hj => by
    rw [fclr_get] at hj
    split at hj
    · cases hj
    · exact hF0 j hj
  have clF : ∀ {Fq : Nat → List Addr} {a : Addr}, (∀ j, a ∉ Fq j) → ∀ j, a ∉ fclr Fq c.vs j := fun h j hj => by
    rw [fclr_get] at hj
    split at hj
    · cases hj
    · exact h j hj
  -- W: by the turn
  refine ⟨fun i k H' => k = ds.length - i ∧ i ≤ ds.length ∧ ∃ G' env' F' acc ys zs FA, S X.K (wipe σ c.vs) H' G' env' F' ∧ Evo (c.vs ++ (ms ++ me)) e0 H0 G0 F0 env' H' G' F' ∧ (H' Dd = some (.lst acc) ∧ G' Dd = none ∧ ∀ j, Dd ∉ F' j) ∧ acc.length ≤ i ∧ (OwnsR R G' H' acc ys FA ∧ Frs G' F' F0 H0 FA ∧ Dd ∉ FA) ∧ xs = ys ++ zs ∧ compL2 c (ds.drop i) env' = some (zs, ez), ⟨_, rfl, Nat.zero_le _, G0, clr e0 c.vs, fclr F0 c.vs, [], [], xs, [], (s0.wiped c.vs).updOut hG0 hFc (mutN hD), (Evo.clrs (ms ++ me) Evo.refl c.vs).updOut hD hF0, ⟨upd_same, hG0, hFc⟩, Nat.zero_le _, ⟨.nil, (fun a ha => by cases ha), by simp⟩, rfl, h3⟩, ?_⟩
  rintro i k H1 ⟨rfl, hi, G1, e1, F1, acc, ys, zs, FA, s1, ev1, hA, hacc, ⟨rA, fA, nA⟩, exs, hl⟩
  obtain ⟨j1, j2⟩ := hJ _ _ _ _ _ _ s1 ev1 c1
  by_cases hlt : i < ds.length
  · rw [List.drop_eq_getElem_cons hlt] at hl
    obtain ⟨go, yl⟩ := j1 i ds[i] (List.getElem?_eq_getElem hlt)
    refine .inr ⟨go, fun H' => ∃ G' env' F' acc ys zs FA, S X.K (wipe σ c.vs) H' G' env' F' ∧ Evo (c.vs ++ (ms ++ me)) e0 H0 G0 F0 env' H' G' F' ∧ (H' Dd = some (.lst acc) ∧ G' Dd = none ∧ ∀ j, Dd ∉ F' j) ∧ acc.length ≤ i + 1 ∧ (OwnsR R G' H' acc ys FA ∧ Frs G' F' F0 H0 FA ∧ Dd ∉ FA) ∧ xs = ys ++ zs ∧ compL2 c (ds.drop (i + 1)) env' = some (zs, ez), fun H' z => ⟨_, by omega, rfl, hlt, z⟩, fun x H2 hy => ?_⟩
    obtain ⟨W2, gr, rx⟩ := yl x H2 hy
    obtain ⟨s2, ev2, sm⟩ := s1.grow gr
    have hA2 := ev2.out hA.1 hA.2.1 hA.2.2
    obtain ⟨rA2, fA2⟩ := Frs.later er rA fA ev2
    unfold compL2 at hl
    have cd : (c.rE || (ds[i]).im) = true := by
      cases hc : (c.rE || (ds[i]).im) with
      | true => rfl
      | false => simp [hc] at hl
    rw [if_pos cd] at hl
    obtain ⟨e3, h3, h4⟩ := bind_some' hl
    obtain ⟨⟨b, e4⟩, h5, h6⟩ := bind_some' h4
    have rf : Rep X.K (grown G1 H1 W2) x ds[i] := by
      have rz := rx.mono sm
      rw [Bool.or_eq_true] at cd
      rcases cd with z | z
      · rw [hrE, List.isEmpty_iff] at z
        subst z
        rw [vw_nil] at rz
        exact rz
      · exact s2.im rz z
    refine ⟨_, e1, F1, ds[i], e3, s2, rf, h3, fun σ3 F3 s3 ev3 on => ⟨wipe_only on hmt, grown G1 H1 W2, e3, F3, b, e4, s3, h5, fun H4 G4 F4 s4 ev4 => ?_⟩⟩
    have hA4 := ev4.out (ev3.out hA2.1 hA2.2.1 hA2.2.2).1 (ev3.out hA2.1 hA2.2.1 hA2.2.2).2.1 (ev3.out hA2.1 hA2.2.1 hA2.2.2).2.2
    obtain ⟨rA3, fA3⟩ := Frs.later er rA2 fA2 ev3
    obtain ⟨rA4, fA4⟩ := Frs.later er rA3 fA3 ev4
    have ev14 : Evo (c.vs ++ (ms ++ me)) e0 H0 G0 F0 e4 H4 G4 F4 := (((ev1.trans ev2).trans ev3).trans ev4).mono fun i hi => by
      simp only [List.mem_append] at hi ⊢
      rcases hi with ((hi | hi) | hi) | hi
      · exact hi
      · cases hi
      · exact .inl (hmt i hi)
      · exact .inr (.inl hi)
    have we : wipe σ3 c.vs = wipe σ c.vs := wipe_only on hmt
    cases b with
    | true =>
      rw [if_pos rfl] at h6
      show if true = true then _ else _
      rw [if_pos rfl]
      obtain ⟨⟨y, e5⟩, h7, h8⟩ := bind_some' h6
      obtain ⟨⟨zs', ez'⟩, h9, h10⟩ := map_some' h8
      simp at h10
      obtain ⟨rfl, rfl⟩ := h10
      refine ⟨G4, e4, F4, y, e5, s4, h7, fun v H5 G5 F5 FT s5 ev5 rp5 fT => ?_⟩
      have hA5 := ev5.out hA4.1 hA4.2.1 hA4.2.2
      obtain ⟨rA5, fA5⟩ := Frs.later er rA4 fA4 ev5
      have ap := Frs.apart er rA4 fA4 fT
      have nT : Dd ∉ FT := fun z => by
        rcases (fT Dd z).2 with ⟨j, hj⟩ | w
        · exact hA4.2.2 j hj
        · rw [hA4.1] at w; cases w
      have ev15 : Evo (c.vs ++ (ms ++ me)) e0 H0 G0 F0 e5 H5 G5 F5 := (ev14.trans ev5).mono fun i hi => by
        simp only [List.mem_append] at hi ⊢
        rcases hi with hi | hi
        · exact hi
        · exact .inr (.inr hi)
      have hF6 : ∀ j, Dd ∉ fclr F5 c.vs j := clF hA5.2.2
      have s6 := s5.wiped c.vs
      rw [we] at s6
      have nAll : Dd ∉ FA ++ FT := fun z => (List.mem_append.mp z).elim nA nT
      have oAll : OwnsR R G5 H5 (acc ++ [v]) (ys ++ [y]) (FA ++ FT) := rA5.app (OwnsR.one rp5) ap
      have fAll : Frs G5 F5 F0 H0 (FA ++ FT) := fun a ha => (List.mem_append.mp ha).elim (fA5 a) ((fT.back ev14) a)
      refine ⟨acc, hA5.1, by rw [sizeLine_eq]; omega, G5, clr e5 c.vs, fclr F5 c.vs, acc ++ [v], ys ++ [y], zs', FA ++ FT, s6.updOut hA5.2.1 hF6 (mutS hA5.1 trivial), ((Evo.clrs _ ev15 c.vs).mono fun i hi => ?_).updOut hD hF0, ⟨upd_same, hA5.2.1, hF6⟩, by rw [List.length_append]; exact Nat.succ_le_succ hacc, ⟨oAll.move er (Same.refl _) fun a ha => upd_ne fun z => nAll (by rw [← z]; exact ha), fun a ha => ⟨⟨(fAll a ha).1.1, clF (fAll a ha).1.2⟩, (fAll a ha).2⟩, nAll⟩, by rw [exs, List.append_assoc]; rfl, h9⟩
      simp only [List.mem_append] at hi ⊢
      rcases hi with hi | hi
      · exact .inl hi
      · exact hi
    | false =>
      rw [if_neg Bool.false_ne_true] at h6
      show if false = true then _ else _
      rw [if_neg Bool.false_ne_true]
      have hF6 : ∀ j, Dd ∉ fclr F4 c.vs j := clF hA4.2.2
      have s6 := s4.wiped c.vs
      rw [we] at s6
      refine ⟨G4, clr e4 c.vs, fclr F4 c.vs, acc, ys, zs, FA, s6, (Evo.clrs _ ev14 c.vs).mono fun i hi => ?_, ⟨hA4.1, hA4.2.1, hF6⟩, by omega, ⟨rA4, fun a ha => ⟨⟨(fA4 a ha).1.1, clF (fA4 a ha).1.2⟩, (fA4 a ha).2⟩, nA⟩, exs, h6⟩
      simp only [List.mem_append] at hi ⊢
      rcases hi with hi | hi
      · exact .inl hi
      · exact hi
  · have e : i = ds.length := by omega
    subst e
    rw [List.drop_length] at hl
    simp only [compL2, Option.some.injEq, Prod.mk.injEq] at hl
    obtain ⟨rfl, rfl⟩ := hl
    rw [List.append_nil] at exs
    subst exs
    have le : e1.length = e0.length := ev1.l
    have s9 := s0.back no s1 le ev1.g
    have ev9 := Evo.back s0 no s1 le ev1
    refine .inl ⟨j2, q Dd acc H1 G1 F1 FA s9 ((ev0.trans ev9).mono fun i hi => hi) hA.1 rA nA fun a ha => ?_⟩
    rcases List.mem_cons.mp ha with e | z
    · subst e
      exact ⟨⟨hA.2.1, hA.2.2⟩, (ev0.none_of hD).elim .inr .inl⟩
    · exact (fA.back ev0) a z
theorem dl_lc (er : ElR R) {elt tg it : Expr} {ifs : List Expr} {scope : Scope} {own : List (Str × Nat)} {fi : M (List D × Bool)} {c : Cmp2} {mt ms me : List Nat} (hc : X.calm = true) (hN : X.N.Nodup) (hi : DI X m r fi tg it) (ok : BlkOk X.N X.env.scope scope own) (hvs : c.vs = own.map (·.2)) (hrE : c.rE = r.isEmpty) (hmt : ∀ i ∈ mt, i ∈ c.vs)
    (hg : ∀ (s : Shared) (H : Hp) (C : Addr) (cl : List (Str × Addr)) (fp : List Addr), DG (X.blk s H scope (compEnvC scope cl C X.env) fp) mt c.tgt tg) (ht : ∀ (s : Shared) (H : Hp) (C : Addr) (cl : List (Str × Addr)) (fp : List Addr), DTs (X.blk s H scope (compEnvC scope cl C X.env) fp) ms c.tst ifs)
    (he : ∀ (s : Shared) (H : Hp) (C : Addr) (cl : List (Str × Addr)) (fp : List Addr), PE (X.blk s H scope (compEnvC scope cl C X.env) fp) elt (tDR X.K R me c.elt)) (hs : ∀ x, foldedSetIterable it X.env x = pure x := by intro _; rfl) :
    DL X R (m ++ (ms ++ me)) (compG (dj r (c.vs ++ (ms ++ me))) fi c) (.ListComp elt [⟨tg, it, ifs, 0⟩] scope pos) :=
  pe_weak (pe_lc (g := tDG X.K mt c.tgt) (tt := tDT X.K ms c.tst) (te := tDR X.K R me c.elt) hc hN hi ok hg ht he hs) fun σ H Q h => lc_readR er (tg := tg) (it := it) hvs hrE hmt h
theorem tDL_own {k : Nat} {f : M (List D)} {σ : L2.St} {H : Hp} {Q : VK} (h : tDF X.K m (lstF k f) σ H Q) : tDL X.K (OwnR X.K k) m f σ H Q := by
  obtain ⟨G, env, F, d, env', s, hf, q⟩ := h
  obtain ⟨⟨x, e1⟩, h1, h2⟩ := map_some' hf
  simp only [Prod.mk.injEq] at h2
  obtain ⟨rfl, rfl⟩ := h2
  exact ⟨G, env, F, x, e1, s, h1, fun p vs H1 G1 F1 FT s1 ev1 hp ow hn hF => q _ H1 G1 F1 (p :: FT) s1 ev1 (.lst hp ow.owns hn) hF⟩
/-- name = [..] of fresh things, on one line, the name a local -/
theorem ds_setLcF {k : Nat} {i : Nat} {y : Str} {py : Pos} {elt tg it : Expr} {ifs : List Expr} {scope : Scope} {own : List (Str × Nat)} {fi : M (List D × Bool)} {c : Cmp2} {mt ms me : List Nat} {spos : Pos} (hc : X.calm = true) (hN : X.N.Nodup) (hi : DI X m r fi tg it) (ok : BlkOk X.N X.env.scope scope own) (hvs : c.vs = own.map (·.2)) (hrE : c.rE = r.isEmpty) (hmt : ∀ i ∈ mt, i ∈ c.vs)
    (hg : ∀ (s : Shared) (H : Hp) (C : Addr) (cl : List (Str × Addr)) (fp : List Addr), DG (X.blk s H scope (compEnvC scope cl C X.env) fp) mt c.tgt tg) (ht : ∀ (s : Shared) (H : Hp) (C : Addr) (cl : List (Str × Addr)) (fp : List Addr), DTs (X.blk s H scope (compEnvC scope cl C X.env) fp) ms c.tst ifs)
    (he : ∀ (s : Shared) (H : Hp) (C : Addr) (cl : List (Str × Addr)) (fp : List Addr), PE (X.blk s H scope (compEnvC scope cl C X.env) fp) elt (tDR X.K (OwnR X.K k) me c.elt))
    (hy : X.N[i]? = some y := by rfl) (hyl : X.env.scope.names.lookup y = some .local := by rfl) (hsw : swapsWith (.ListComp elt [⟨tg, it, ifs, 0⟩] scope pos) (some (.Name y py)) spos.line X.env = pure true := by rfl) (hs : ∀ x, foldedSetIterable it X.env x = pure x := by intro _; rfl) :
    DS X ((m ++ (ms ++ me)) ++ [i]) [i] (setS i (lstF k (compG (dj r (c.vs ++ (ms ++ me))) fi c))) (.Assign [.Name y py] (.ListComp elt [⟨tg, it, ifs, 0⟩] scope pos) spos) :=
  ds_setW (ps_setLc (g := tDG X.K mt c.tgt) (tt := tDT X.K ms c.tst) (te := tDR X.K (OwnR X.K k) me c.elt) hc hN hy hyl hsw hi ok hg ht he hs) fun σ H Q h => lc_readR ownR (tg := tg) (it := it) hvs hrE hmt (tDL_own h)
end
end HD
set_option Elab.async false
set_option linter.all false
set_option maxRecDepth 100000
set_option maxHeartbeats 2000000
set_option autoImplicit false
/-! HD13: things changed at a path within a slot's own thing. -/
namespace HD
open PySem PySem.Spec PyProof.Rows L2
variable [Tb]

def kids : D → List D
  | .lst ds => ds
  | .dct _ kvs => kvs.map (·.2)
  | _ => []
def setKid : D → Nat → D → D
  | .lst ds, j, y => .lst (ds.set j y)
  | .dct t kvs, j, y => .dct t ((kvs.map (·.1)).zip ((kvs.map (·.2)).set j y))
  | d, _, _ => d
/-- the place of an index among the kids -/
def posD : D → D → Option Nat
  | .lst ds, .int i => if 0 ≤ i ∧ i < ds.length then some i.toNat else none
  | .dct t kvs, k => if keyOk t k = true then kvs.findIdx? (fun p => D.eqv p.1 k) else none
  | _, _ => none
def subP : D → List Nat → Option D
  | d, [] => some d
  | d, j :: p => ((kids d)[j]?).bind fun x => subP x p
def setP : D → List Nat → D → Option D
  | _, [], e => some e
  | d, j :: p, e => ((kids d)[j]?).bind fun x => (setP x p e).map fun y => setKid d j y
/-- w lies at the path p within v -/
inductive Pth (H : Hp) : V → List Nat → V → Prop
  | nil {v : V} : Pth H v [] v
  | lst {a : Addr} {xs : List V} {j : Nat} {v w : V} {p : List Nat} : H a = some (.lst xs) → xs[j]? = some v → Pth H v p w → Pth H (.ref a) (j :: p) w
  | dK {a : Addr} {ks : List (Key × V)} {j : Nat} {v w : V} {p : List Nat} : H a = some (.dK ks) → (ks.map (·.2))[j]? = some v → Pth H v p w → Pth H (.ref a) (j :: p) w
  | dT {a : Addr} {ks : List (List Key × V)} {j : Nat} {v w : V} {p : List Nat} : H a = some (.dT ks) → (ks.map (·.2))[j]? = some v → Pth H v p w → Pth H (.ref a) (j :: p) w
theorem Pth.inj {H : Hp} : ∀ {p : List Nat} {v w w' : V}, Pth H v p w → Pth H v p w' → w = w' := by
  intro p
  induction p with
  | nil =>
    intro v w w' h h'
    cases h
    cases h'
    rfl
  | cons j p ih =>
    intro v w w' h h'
    cases h with
    | lst a b c =>
      cases h' with
      | lst a' b' c' =>
        rw [a] at a'; cases a'
        rw [b] at b'; cases b'
        exact ih c c'
      | dK a' _ _ => rw [a] at a'; cases a'
      | dT a' _ _ => rw [a] at a'; cases a'
    | dK a b c =>
      cases h' with
      | dK a' b' c' =>
        rw [a] at a'; cases a'
        rw [b] at b'; cases b'
        exact ih c c'
      | lst a' _ _ => rw [a] at a'; cases a'
      | dT a' _ _ => rw [a] at a'; cases a'
    | dT a b c =>
      cases h' with
      | dT a' b' c' =>
        rw [a] at a'; cases a'
        rw [b] at b'; cases b'
        exact ih c c'
      | lst a' _ _ => rw [a] at a'; cases a'
      | dK a' _ _ => rw [a] at a'; cases a'
theorem Pth.snoc {H : Hp} {j : Nat} {v2 : V} : ∀ {p : List Nat} {v w : V}, Pth H v p w → Pth H w [j] v2 → Pth H v (p ++ [j]) v2
  | _, _, _, .nil, h => h
  | _, _, _, .lst a b c, h => .lst a b (Pth.snoc c h)
  | _, _, _, .dK a b c, h => .dK a b (Pth.snoc c h)
  | _, _, _, .dT a b c, h => .dT a b (Pth.snoc c h)

section
variable {K : PySem.W.Frag} {G H : Hp}
/-- one of a row: it, and the row when it is changed -/
theorem Owns.focus {n : Nat} {xs : List V} {ds : List D} {F : List Addr} {j : Nat} {x : D} (h : Owns K G H n xs ds F) (hj : ds[j]? = some x) :
    ∃ v C, xs[j]? = some v ∧ Own K G H n v x C ∧ (∀ a ∈ C, a ∈ F) ∧ ∀ (G2 H2 : Hp) (y : D) (C2 : List Addr), Same G G2 → (∀ a ∈ F, a ∉ C → H2 a = H a) → (∀ a ∈ C2, a ∈ C ∨ a ∉ F) → Own K G2 H2 n v y C2 →
      ∃ F3, Owns K G2 H2 n xs (ds.set j y) F3 ∧ (∀ a ∈ F3, (a ∈ F ∧ a ∉ C) ∨ a ∈ C2) := by
  have hl := h.length
  have hjd := (List.getElem?_eq_some_iff.mp hj).1
  obtain ⟨v, hx⟩ : ∃ v, xs[j]? = some v := ⟨_, List.getElem?_eq_getElem (by omega)⟩
  rw [list_at hx, list_at hj] at h
  obtain ⟨A, B, h1, h2, e, c1⟩ := h.split (by rw [List.length_take, List.length_take, hl])
  cases h2 with
  | cons h3 h4 c2 =>
    rename_i C Dd
    subst e
    refine ⟨v, C, hx, h3, fun a ha => List.mem_append_right _ (List.mem_append_left _ ha), fun G2 H2 y C2 sg eH hC ow => ?_⟩
    have nA : ∀ a ∈ A, a ∉ C := fun a ha hc => c1 a ha (List.mem_append_left _ hc)
    have nD : ∀ a ∈ Dd, a ∉ C := fun a ha hc => c2 a hc ha
    have hA := h1.move (H' := H2) sg fun a ha => eH a (List.mem_append_left _ ha) (nA a ha)
    have hD := h4.move (H' := H2) sg fun a ha => eH a (List.mem_append_right _ (List.mem_append_right _ ha)) (nD a ha)
    have aA : ∀ a ∈ C2, a ∉ A := fun a h2 ha => (hC a h2).elim (fun z => nA a ha z) fun z => z (List.mem_append_left _ ha)
    have aD : ∀ a ∈ C2, a ∉ Dd := fun a h2 ha => (hC a h2).elim (fun z => nD a ha z) fun z => z (List.mem_append_right _ (List.mem_append_right _ ha))
    refine ⟨A ++ (C2 ++ Dd), ?_, fun a ha => ?_⟩
    · rw [list_at hx, set_at hj]
      refine hA.app (.cons ow hD aD) fun a ha hb => ?_
      rcases List.mem_append.mp hb with z | z
      · exact aA a z ha
      · exact c1 a ha (List.mem_append_right _ z)
    · rcases List.mem_append.mp ha with z | z
      · exact .inl ⟨List.mem_append_left _ z, nA a z⟩
      · rcases List.mem_append.mp z with z | z
        · exact .inr z
        · exact .inl ⟨List.mem_append_right _ (List.mem_append_right _ z), nD a z⟩
theorem zip_kids {ks ds : List D} (h : ks.length = ds.length) : ((ks.zip ds).map (·.2)) = ds ∧ ((ks.zip ds).map (·.1)) = ks := by
  constructor
  · rw [List.map_snd_zip]
    omega
  · rw [List.map_fst_zip]
    omega
/-- what lies at a path, and the whole when it is changed -/
theorem Own.zip : ∀ (path : List Nat) {n : Nat} {v : V} {d : D} {F : List Addr} {d' : D}, Own K G H n v d F → subP d path = some d' → path.length < n →
    ∃ v' F1, Pth H v path v' ∧ Own K G H (n - path.length) v' d' F1 ∧ (∀ a ∈ F1, a ∈ F) ∧ ∀ (G2 H2 : Hp) (d2 : D) (F2 : List Addr), Same G G2 → (∀ a ∈ F, a ∉ F1 → H2 a = H a) → (∀ a ∈ F2, a ∈ F1 ∨ a ∉ F) → Own K G2 H2 (n - path.length) v' d2 F2 →
      ∃ dd F3, setP d path d2 = some dd ∧ Own K G2 H2 n v dd F3 ∧ (∀ a ∈ F3, (a ∈ F ∧ a ∉ F1) ∨ a ∈ F2) := by
  intro path
  induction path with
  | nil =>
    intro n v d F d' h hs hn
    simp only [subP, Option.some.injEq] at hs
    subst hs
    exact ⟨v, F, .nil, h, fun a ha => ha, fun G2 H2 d2 F2 sg eH hF ow => ⟨d2, F2, rfl, ow, fun a ha => .inr ha⟩⟩
  | cons j p ih =>
    intro n v d F d' h hs hn
    simp only [subP] at hs
    obtain ⟨x, hx, hs2⟩ := bind_some' hs
    cases h with
    | shr c r =>
      exfalso
      cases d with
      | lst ds => rcases c with c | c
                  · subst c; simp at hn
                  · simp [D.im] at c
      | dct t kvs => rcases c with c | c
                     · subst c; simp at hn
                     · simp [D.im] at c
      | _ => simp [kids] at hx
    | @lst n' a xs ds F0 ha ho hna =>
      obtain ⟨v1, C, hv, ow, hC, up⟩ := ho.focus (x := x) hx
      obtain ⟨v', F1, pt, ow', hF1, up'⟩ := ih ow hs2 (by simpa using hn)
      have e : n' + 1 - (j :: p).length = n' - p.length := by simp
      rw [e]
      refine ⟨v', F1, .lst ha hv pt, ow', fun b hb => List.mem_cons_of_mem _ (hC b (hF1 b hb)), fun G2 H2 d2 F2 sg eH hF ow2 => ?_⟩
      have nr : a ∉ F1 := fun z => hna (hC a (hF1 a z))
      obtain ⟨dd, F3, h1, h2, h3⟩ := up' G2 H2 d2 F2 sg (fun b hb hn => eH b (List.mem_cons_of_mem _ (hC b hb)) hn) (fun b hb => (hF b hb).imp id fun z w => z (List.mem_cons_of_mem _ (hC b w))) ow2
      have hq : ∀ b ∈ F3, b ∈ C ∨ b ∉ F0 := fun b hb => by
        rcases h3 b hb with ⟨w1, w2⟩ | w
        · exact .inl w1
        · rcases hF b w with y | y
          · exact .inl (hF1 b y)
          · exact .inr fun q => y (List.mem_cons_of_mem _ q)
      obtain ⟨F4, h4, h5⟩ := up G2 H2 dd F3 sg (fun b hb hn => eH b (List.mem_cons_of_mem _ hb) fun z => hn (hF1 b z)) hq h2
      · refine ⟨.lst (ds.set j dd), a :: F4, ?_, .lst (by rw [eH a List.mem_cons_self nr]; exact ha) h4 fun z => ?_, fun b hb => ?_⟩
        · simp only [setP]
          rw [show (kids (.lst ds))[j]? = some x from hx]
          simp [h1, setKid]
        · rcases h5 a z with ⟨w, _⟩ | w
          · exact hna w
          · rcases h3 a w with ⟨w, _⟩ | w
            · exact hna (hC a w)
            · rcases hF a w with w | w
              · exact nr w
              · exact w List.mem_cons_self
        · rcases List.mem_cons.mp hb with z | z
          · subst z
            exact .inl ⟨List.mem_cons_self, nr⟩
          · rcases h5 b z with ⟨w1, w2⟩ | w
            · exact .inl ⟨List.mem_cons_of_mem _ w1, fun y => w2 (hF1 b y)⟩
            · rcases h3 b w with ⟨w1, w2⟩ | w
              · exact .inl ⟨List.mem_cons_of_mem _ (hC b w1), w2⟩
              · exact .inr w
    | @dK n' a ks ds kvs F0 ha ho hna q =>
      subst q
      have hll : (ks.map fun p => keyD p.1).length = ds.length := by rw [List.length_map, ← ho.length, List.length_map]
      have hx' : ds[j]? = some x := by
        have := hx
        simp only [kids] at this
        rw [(zip_kids hll).1] at this
        exact this
      obtain ⟨v1, C, hv, ow, hC, up⟩ := ho.focus (x := x) hx'
      obtain ⟨v', F1, pt, ow', hF1, up'⟩ := ih ow hs2 (by simpa using hn)
      have e : n' + 1 - (j :: p).length = n' - p.length := by simp
      rw [e]
      refine ⟨v', F1, .dK ha hv pt, ow', fun b hb => List.mem_cons_of_mem _ (hC b (hF1 b hb)), fun G2 H2 d2 F2 sg eH hF ow2 => ?_⟩
      have nr : a ∉ F1 := fun z => hna (hC a (hF1 a z))
      obtain ⟨dd, F3, h1, h2, h3⟩ := up' G2 H2 d2 F2 sg (fun b hb hn => eH b (List.mem_cons_of_mem _ (hC b hb)) hn) (fun b hb => (hF b hb).imp id fun z w => z (List.mem_cons_of_mem _ (hC b w))) ow2
      have hq : ∀ b ∈ F3, b ∈ C ∨ b ∉ F0 := fun b hb => by
        rcases h3 b hb with ⟨w1, w2⟩ | w
        · exact .inl w1
        · rcases hF b w with y | y
          · exact .inl (hF1 b y)
          · exact .inr fun q => y (List.mem_cons_of_mem _ q)
      obtain ⟨F4, h4, h5⟩ := up G2 H2 dd F3 sg (fun b hb hn => eH b (List.mem_cons_of_mem _ hb) fun z => hn (hF1 b z)) hq h2
      · refine ⟨.dct 0 ((ks.map fun p => keyD p.1).zip (ds.set j dd)), a :: F4, ?_, .dK (by rw [eH a List.mem_cons_self nr]; exact ha) h4 (fun z => ?_) rfl, fun b hb => ?_⟩
        · simp only [setP]
          rw [show (kids (.dct 0 ((ks.map fun p => keyD p.1).zip ds)))[j]? = some x from hx]
          simp only [Option.bind_some, h1, Option.map_some, setKid]
          rw [(zip_kids hll).1, (zip_kids hll).2]
        · rcases h5 a z with ⟨w, _⟩ | w
          · exact hna w
          · rcases h3 a w with ⟨w, _⟩ | w
            · exact hna (hC a w)
            · rcases hF a w with w | w
              · exact nr w
              · exact w List.mem_cons_self
        · rcases List.mem_cons.mp hb with z | z
          · subst z
            exact .inl ⟨List.mem_cons_self, nr⟩
          · rcases h5 b z with ⟨w1, w2⟩ | w
            · exact .inl ⟨List.mem_cons_of_mem _ w1, fun y => w2 (hF1 b y)⟩
            · rcases h3 b w with ⟨w1, w2⟩ | w
              · exact .inl ⟨List.mem_cons_of_mem _ (hC b w1), w2⟩
              · exact .inr w
    | @dT n' a ks ds kvs F0 ha ho hna q =>
      subst q
      have hll : (ks.map fun p => D.tup (p.1.map keyD)).length = ds.length := by rw [List.length_map, ← ho.length, List.length_map]
      have hx' : ds[j]? = some x := by
        have := hx
        simp only [kids] at this
        rw [(zip_kids hll).1] at this
        exact this
      obtain ⟨v1, C, hv, ow, hC, up⟩ := ho.focus (x := x) hx'
      obtain ⟨v', F1, pt, ow', hF1, up'⟩ := ih ow hs2 (by simpa using hn)
      have e : n' + 1 - (j :: p).length = n' - p.length := by simp
      rw [e]
      refine ⟨v', F1, .dT ha hv pt, ow', fun b hb => List.mem_cons_of_mem _ (hC b (hF1 b hb)), fun G2 H2 d2 F2 sg eH hF ow2 => ?_⟩
      have nr : a ∉ F1 := fun z => hna (hC a (hF1 a z))
      obtain ⟨dd, F3, h1, h2, h3⟩ := up' G2 H2 d2 F2 sg (fun b hb hn => eH b (List.mem_cons_of_mem _ (hC b hb)) hn) (fun b hb => (hF b hb).imp id fun z w => z (List.mem_cons_of_mem _ (hC b w))) ow2
      have hq : ∀ b ∈ F3, b ∈ C ∨ b ∉ F0 := fun b hb => by
        rcases h3 b hb with ⟨w1, w2⟩ | w
        · exact .inl w1
        · rcases hF b w with y | y
          · exact .inl (hF1 b y)
          · exact .inr fun q => y (List.mem_cons_of_mem _ q)
      obtain ⟨F4, h4, h5⟩ := up G2 H2 dd F3 sg (fun b hb hn => eH b (List.mem_cons_of_mem _ hb) fun z => hn (hF1 b z)) hq h2
      · refine ⟨.dct 1 ((ks.map fun p => D.tup (p.1.map keyD)).zip (ds.set j dd)), a :: F4, ?_, .dT (by rw [eH a List.mem_cons_self nr]; exact ha) h4 (fun z => ?_) rfl, fun b hb => ?_⟩
        · simp only [setP]
          rw [show (kids (.dct 1 ((ks.map fun p => D.tup (p.1.map keyD)).zip ds)))[j]? = some x from hx]
          simp only [Option.bind_some, h1, Option.map_some, setKid]
          rw [(zip_kids hll).1, (zip_kids hll).2]
        · rcases h5 a z with ⟨w, _⟩ | w
          · exact hna w
          · rcases h3 a w with ⟨w, _⟩ | w
            · exact hna (hC a w)
            · rcases hF a w with w | w
              · exact nr w
              · exact w List.mem_cons_self
        · rcases List.mem_cons.mp hb with z | z
          · subst z
            exact .inl ⟨List.mem_cons_self, nr⟩
          · rcases h5 b z with ⟨w1, w2⟩ | w
            · exact .inl ⟨List.mem_cons_of_mem _ w1, fun y => w2 (hF1 b y)⟩
            · rcases h3 b w with ⟨w1, w2⟩ | w
              · exact .inl ⟨List.mem_cons_of_mem _ (hC b w1), w2⟩
              · exact .inr w
/-- what a path meets stands in what is owned -/
theorem Pth.keep {H H2 : Hp} : ∀ (path : List Nat) {n : Nat} {v : V} {d d' : D} {F : List Addr} {w : V}, Own K G H n v d F → subP d path = some d' → path.length ≤ n → Pth H v path w → (∀ a ∈ F, H2 a = H a) → Pth H2 v path w := by
  intro path
  induction path with
  | nil =>
    intro n v d d' F w _ _ _ h _
    cases h
    exact .nil
  | cons j p ih =>
    intro n v d d' F w ow hs hn h e
    simp only [subP] at hs
    obtain ⟨x, hx, hs2⟩ := bind_some' hs
    cases ow with
    | shr c r =>
      exfalso
      cases d with
      | lst ds => rcases c with c | c
                  · subst c; simp at hn
                  · simp [D.im] at c
      | dct t kvs => rcases c with c | c
                     · subst c; simp at hn
                     · simp [D.im] at c
      | _ => simp [kids] at hx
    | @lst n' a xs ds F0 ha ho hna =>
      obtain ⟨v1, C, hv, ow, hC, _⟩ := ho.focus (x := x) hx
      cases h with
      | lst a' b' c' =>
        rw [ha] at a'; cases a'
        rw [hv] at b'; cases b'
        exact .lst (by rw [e _ List.mem_cons_self]; exact ha) hv (ih ow hs2 (by simpa using hn) c' fun b hb => e b (List.mem_cons_of_mem _ (hC b hb)))
      | dK a' _ _ => rw [ha] at a'; cases a'
      | dT a' _ _ => rw [ha] at a'; cases a'
    | @dK n' a ks ds kvs F0 ha ho hna q =>
      subst q
      have hll : (ks.map fun p => keyD p.1).length = ds.length := by rw [List.length_map, ← ho.length, List.length_map]
      obtain ⟨v1, C, hv, ow, hC, _⟩ := ho.focus (x := x) (by simp only [kids] at hx; rw [(zip_kids hll).1] at hx; exact hx)
      cases h with
      | dK a' b' c' =>
        rw [ha] at a'; cases a'
        rw [hv] at b'; cases b'
        exact .dK (by rw [e _ List.mem_cons_self]; exact ha) hv (ih ow hs2 (by simpa using hn) c' fun b hb => e b (List.mem_cons_of_mem _ (hC b hb)))
      | lst a' _ _ => rw [ha] at a'; cases a'
      | dT a' _ _ => rw [ha] at a'; cases a'
    | @dT n' a ks ds kvs F0 ha ho hna q =>
      subst q
      have hll : (ks.map fun p => D.tup (p.1.map keyD)).length = ds.length := by rw [List.length_map, ← ho.length, List.length_map]
      obtain ⟨v1, C, hv, ow, hC, _⟩ := ho.focus (x := x) (by simp only [kids] at hx; rw [(zip_kids hll).1] at hx; exact hx)
      cases h with
      | dT a' b' c' =>
        rw [ha] at a'; cases a'
        rw [hv] at b'; cases b'
        exact .dT (by rw [e _ List.mem_cons_self]; exact ha) hv (ih ow hs2 (by simpa using hn) c' fun b hb => e b (List.mem_cons_of_mem _ (hC b hb)))
      | lst a' _ _ => rw [ha] at a'; cases a'
      | dK a' _ _ => rw [ha] at a'; cases a'
end

/-! ### expressions that lead to such a place -/
def tDP (K : PySem.W.Frag) (i : Nat) (m : List Nat) (f : M (List Nat)) : TE := fun σ H Q => ∃ G env F p env', S K σ H G env F ∧ f env = some (p, env') ∧
  ∀ v H' G' F', S K σ H' G' env' F' → Evo m env H G F env' H' G' F' → (∃ w n d d', env'[i]? = some (.own n d) ∧ subP d p = some d' ∧ p.length < n ∧ σ[i]? = some (some w) ∧ Pth H' w p v) → Q v H'
abbrev DP (X : Cx) (i : Nat) (m : List Nat) (f : M (List Nat)) (e : Expr) : Prop := PE X e (tDP X.K i m f)
def pnm (i : Nat) : M (List Nat) := fun env => match env[i]? with
  | some (.own n _) => if 0 < n then some ([], env) else none
  | _ => none
def pix (i : Nat) (fp : M (List Nat)) (fi : M D) : M (List Nat) := fun env => (fp env).bind fun p => (fi p.2).bind fun q => match q.2[i]? with
  | some (.own n d) => (subP d p.1).bind fun s => (posD s q.1).bind fun j => if p.1.length + 1 < n then some (p.1 ++ [j], q.2) else none
  | _ => none
theorem subP_snoc : ∀ {p : List Nat} {d s x : D} {j : Nat}, subP d p = some s → (kids s)[j]? = some x → subP d (p ++ [j]) = some x
  | [], d, s, x, j, h, hx => by
    simp only [subP, Option.some.injEq] at h
    subst h
    simp [subP, hx]
  | k :: p, d, s, x, j, h, hx => by
    simp only [subP] at h
    obtain ⟨y, h1, h2⟩ := bind_some' h
    rw [List.cons_append]
    simp only [subP, h1, Option.bind_some]
    exact subP_snoc h2 hx
theorem find_at {κ : Type} [DecidableEq κ] {f : κ → D} (hf : ∀ a b, D.eqv (f a) (f b) = decide (a = b)) {k : κ} : ∀ {ks : List (κ × V)} {ds : List D} {j : Nat}, ks.length = ds.length → ((ks.map fun p => f p.1).zip ds).findIdx? (fun p => D.eqv p.1 (f k)) = some j → ∃ v, (ks.map (·.2))[j]? = some v ∧ valV ks k = some v
  | [], ds, j, _, h => by simp at h
  | p :: ks, [], j, hl, h => by simp at hl
  | p :: ks, d :: ds, j, hl, h => by
    by_cases e : p.1 = k
    · have : j = 0 := by
        simp [List.findIdx?_cons, hf, e] at h
        exact h.symm
      subst this
      exact ⟨p.2, by simp, valV_pos e⟩
    · simp [List.findIdx?_cons, hf, e] at h
      obtain ⟨j', h1, rfl⟩ := h
      obtain ⟨v, h2, h3⟩ := find_at hf (ks := ks) (ds := ds) (by simpa using hl) (by simpa using h1)
      exact ⟨v, by simpa using h2, by rw [valV_neg e]; exact h3⟩
theorem posD_kid {d k : D} {j : Nat} (h : posD d k = some j) : ∃ x, (kids d)[j]? = some x := by
  cases d with
  | lst ds =>
    cases k with
    | int i =>
      simp only [posD] at h
      split at h
      · rename_i c
        cases h
        exact ⟨_, List.getElem?_eq_getElem (by simp only [kids]; omega)⟩
      · cases h
    | _ => simp [posD] at h
  | dct t kvs =>
    simp only [posD] at h
    split at h
    · have := (List.findIdx?_eq_some_iff_findIdx_eq.mp h).1
      exact ⟨_, List.getElem?_eq_getElem (by simp only [kids, List.length_map]; omega)⟩
    · cases h
  | _ => simp [posD] at h
section
variable {X : Cx} {e e2 : Expr} {es : List Expr} {m m1 m2 r r2 : List Nat} {pos : Pos}
theorem dp_nm (i : Nat) {x : Str} (hN : X.N[i]? = some x := by rfl) (hv : Vis X.env.scope x := by first | exact Or.inl rfl | exact Or.inr (Or.inl rfl) | exact Or.inr (Or.inr rfl)) (hd : (x == ("__debug__" : Str)) = false := by decide)
    (hcd : (x == ("__classdict__" : Str)) = false := by decide) : DP X i [] (pnm i) (.Name x pos) := pe_weak (pe_var hN hv hd hcd) fun σ H Q ⟨G, env, F, p, env', s, hf, q⟩ => by
  unfold pnm at hf
  split at hf
  · rename_i n d e1
    split at hf
    · rename_i hn
      simp only [Option.some.injEq, Prod.mk.injEq] at hf
      obtain ⟨rfl, rfl⟩ := hf
      obtain ⟨v, h1, h2⟩ := s.own i n _ e1
      exact ⟨v, h1, q v H G F s Evo.refl ⟨v, n, d, d, e1, rfl, hn, h1, .nil⟩⟩
    · cases hf
  · cases hf
/-- the kid at a place, by what is asked of an index -/
theorem kid_at {K : PySem.W.Frag} {G H W : Hp} {n : Nat} {v y w : V} {s k x : D} {F1 : List Addr} {j : Nat} (ow : Own K G H (n + 1) v s F1) (hp : posD s k = some j) (sm : Same W H) (ry : Rep K W y k) :
    ∃ a v1, v = .ref a ∧ Pth H v [j] v1 ∧ ((∃ xs i, H a = some (.lst xs) ∧ y = .int i ∧ ixN xs.length i = some j ∧ xs[j]? = some v1) ∨ DGet H a y (some v1)) := by
  cases ow with
  | shr c r =>
    exfalso
    rcases c with c | c
    · cases c
    · cases s <;> simp [posD, D.im] at hp c
  | @lst _ a xs ds F0 ha ho hna =>
    cases k with
    | int i =>
      simp only [posD] at hp
      split at hp
      · rename_i c
        cases hp
        cases ry
        have hl := ho.length
        have hj : i.toNat < xs.length := by omega
        refine ⟨a, xs[i.toNat], rfl, .lst ha (List.getElem?_eq_getElem hj) .nil, .inl ⟨xs, i, ha, rfl, ?_, List.getElem?_eq_getElem hj⟩⟩
        have : i = ((i.toNat : Nat) : Int) := by omega
        rw [this]
        unfold ixN
        rw [if_pos (by omega), if_pos (by omega), Int.toNat_natCast]
      · cases hp
    | _ => simp [posD] at hp
  | @dK _ a ks ds kvs F0 ha ho hna q =>
    subst q
    simp only [posD] at hp
    split at hp
    · rename_i c
      obtain ⟨k', hk⟩ := keyOk0 c
      have ek := asKey_some hk
      subst ek
      obtain ⟨v1, h1, h2⟩ := find_at (f := keyD) eqv_key (k := k') (ks := ks) (ds := ds) (by have := ho.length; rw [List.length_map] at this; exact this) hp
      refine ⟨a, v1, rfl, .dK ha h1 .nil, .inr ?_⟩
      rw [rep_key sm ry hk, ← h2]
      exact DGet.k ha
    · cases hp
  | @dT _ a ks ds kvs F0 ha ho hna q =>
    subst q
    simp only [posD] at hp
    split at hp
    · rename_i c
      obtain ⟨ds', k', ed, hk⟩ := keyOk1 c
      subst ed
      have ek := asKeys_some hk
      subst ek
      obtain ⟨v1, h1, h2⟩ := find_at (f := fun k : List Key => D.tup (k.map keyD)) eqv_keys (k := k') (ks := ks) (ds := ds) (by have := ho.length; rw [List.length_map] at this; exact this) hp
      cases ry with
      | @tup b ys _ hb hr =>
        refine ⟨a, v1, rfl, .dT ha h1 .nil, .inr ?_⟩
        rw [← h2]
        refine DGet.t ha ?_
        rw [← reps_keys sm hr hk]
        exact sm _ _ hb
    · cases hp
end
end HD
set_option Elab.async false
set_option linter.all false
set_option maxRecDepth 100000
set_option maxHeartbeats 2000000
set_option autoImplicit false
/-! HD14: pop, append, stores at such a place. -/
namespace HD
open PySem PySem.Spec PyProof.Rows L2
variable [Tb]

def rIxP (K : PySem.W.Frag) : R2 := fun x y H Q => ∃ a v1, x = .ref a ∧ ((∃ xs i j, H a = some (.lst xs) ∧ y = .int i ∧ ixN xs.length i = some j ∧ xs[j]? = some v1) ∨ DGet H a y (some v1)) ∧ Q v1 H
section
variable {X : Cx} {e e2 : Expr} {es : List Expr} {m m1 m2 m3 r r2 : List Nat} {pos : Pos} {i : Nat}
theorem ix_p (hu : X.A.units + 1 < cLine) : IxR X (rIxP X.K) := by
  intro value slice pins s σ H x y v u Q I rx ry h hs
  obtain ⟨a, v1, rfl, h, q⟩ := h
  rcases h with ⟨xs, i, j, h1, rfl, h2, h3⟩ | g
  · refine ix_list value slice pins s σ H _ _ v u Q I rx ry ⟨a, xs, i, v1, rfl, rfl, SqL.of h1, ?_, q⟩ hs
    unfold atI
    rw [h2]
    exact h3
  · obtain rfl : v = Value.ref a := rx
    exact tailD PySem.F.slot_dict_getitem.lookup hs (dict_typeIs I g) (d_getItem hu I g ry fun w' s3 I3 rw' => ⟨v1, H, I3, rw', q⟩)
/-- the state of a place, and how it stands at later times -/
theorem place {σ : L2.St} {H G H' G' : Hp} {env env' : Env} {F F' : Nat → List Addr} {m : List Nat} {p : List Nat} {v : V} (s : S X.K σ H G env F) (s' : S X.K σ H' G' env' F') (ev : Evo m env H G F env' H' G' F') (hm : i ∉ m)
    (h : ∃ w n d d', env[i]? = some (.own n d) ∧ subP d p = some d' ∧ p.length < n ∧ σ[i]? = some (some w) ∧ Pth H w p v) : ∃ w n d d', env'[i]? = some (.own n d) ∧ subP d p = some d' ∧ p.length < n ∧ σ[i]? = some (some w) ∧ Pth H' w p v := by
  obtain ⟨w, n, d, d', h1, h2, h3, h4, h5⟩ := h
  obtain ⟨a1, a2, a3⟩ := ev.u i hm
  obtain ⟨w', e1, ow⟩ := s.own i n d h1
  rw [h4] at e1
  cases e1
  exact ⟨w, n, d, d', a1.trans h1, h2, h3, h4, h5.keep p ow h2 (by omega) a3⟩
theorem dp_ix {fp : M (List Nat)} {fi : M D} (hu : X.A.units + 1 < cLine) (ha : DP X i m1 fp e) (hb : DE X m2 r2 fi e2) (hs : PlainIx e2) (hi : i ∉ m2 := by decide) : DP X i (m1 ++ m2) (pix i fp fi) (.Subscript e e2 pos) := by
  refine pe_weak (pe_ix (ix_p hu) ha hb hs) fun σ H Q ⟨G, env, F, p, env', s, hf, q⟩ => ?_
  obtain ⟨⟨p1, e1⟩, h1, h2⟩ := bind_some' hf
  obtain ⟨⟨y, e3⟩, h3, h4⟩ := bind_some' h2
  simp only [] at h4
  split at h4
  · rename_i n d e4
    obtain ⟨sd, h5, h6⟩ := bind_some' h4
    obtain ⟨j, h7, h8⟩ := bind_some' h6
    split at h8
    · rename_i hn
      simp only [Option.some.injEq, Prod.mk.injEq] at h8
      obtain ⟨rfl, rfl⟩ := h8
      refine ⟨G, env, F, p1, e1, s, h1, fun v H1 G1 F1 s1 ev1 pl => ⟨G1, e1, F1, y, e3, s1, h3, fun w H2 G2 F2 s2 ev2 ry => ?_⟩⟩
      obtain ⟨w0, n0, d0, d0', q1, q2, q3, q4, q5⟩ := place s1 s2 ev2 hi pl
      rw [e4] at q1
      cases q1
      rw [h5] at q2
      cases q2
      obtain ⟨w1, q6, ow⟩ := s2.own i n d e4
      rw [q4] at q6
      cases q6
      obtain ⟨v', Fz, pt, oz, _, _⟩ := ow.zip p1 h5 q3
      have ev := pt.inj q5
      subst ev
      obtain ⟨k, hk⟩ : ∃ k, n - p1.length = k + 1 := ⟨n - p1.length - 1, by omega⟩
      rw [hk] at oz
      obtain ⟨a, v1, rfl, hp, hr⟩ := kid_at (x := y) (w := w) oz h7 (s2.vwH r2) ry
      obtain ⟨x, hx⟩ := posD_kid h7
      exact ⟨a, v1, rfl, hr.imp (fun ⟨xs, i, z⟩ => ⟨xs, i, j, z⟩) id, q v1 H2 G2 F2 s2 (ev1.trans ev2) ⟨w0, n, d, x, e4, subP_snoc h5 hx, by simpa using hn, q4, q5.snoc hp⟩⟩
    · cases h8
  · cases h4

/-! ### pop -/
theorem Owns.erase {K : PySem.W.Frag} {G H : Hp} {n : Nat} {xs : List V} {ds : List D} {F : List Addr} {j : Nat} {x : D} (h : Owns K G H n xs ds F) (hj : ds[j]? = some x) :
    ∃ v C F', xs[j]? = some v ∧ Own K G H n v x C ∧ Owns K G H n (xs.eraseIdx j) (ds.eraseIdx j) F' ∧ (∀ a ∈ C, a ∈ F ∧ a ∉ F') ∧ (∀ a ∈ F', a ∈ F) := by
  have hl := h.length
  have hjd := (List.getElem?_eq_some_iff.mp hj).1
  obtain ⟨v, hx⟩ : ∃ v, xs[j]? = some v := ⟨_, List.getElem?_eq_getElem (by omega)⟩
  rw [list_at hx, list_at hj] at h
  obtain ⟨A, B, h1, h2, e, c1⟩ := h.split (by rw [List.length_take, List.length_take, hl])
  cases h2 with
  | cons h3 h4 c2 =>
    rename_i C Dd
    subst e
    refine ⟨v, C, A ++ Dd, hx, h3, ?_, fun a ha => ⟨List.mem_append_right _ (List.mem_append_left _ ha), fun z => ?_⟩, fun a ha => ?_⟩
    · rw [List.eraseIdx_eq_take_drop_succ, List.eraseIdx_eq_take_drop_succ]
      exact h1.app h4 fun a ha hb => c1 a ha (List.mem_append_right _ hb)
    · rcases List.mem_append.mp z with z | z
      · exact c1 a z (List.mem_append_left _ ha)
      · exact c2 a ha z
    · rcases List.mem_append.mp ha with z | z
      · exact List.mem_append_left _ z
      · exact List.mem_append_right _ (List.mem_append_right _ z)
/-- the whole, one of the list at a path taken out -/
def popAt (i : Nat) (p : List Nat) (env : Env) (j : List D → Option Nat) : Option ((D × Nat) × Env) := match env[i]? with
  | some (.own n d) => match subP d p with
    | some (.lst ds) => if p.length < n then (j ds).bind fun j => (ds[j]?).bind fun x => (setP d p (.lst (ds.eraseIdx j))).map fun dd => ((x, if x.im = true then 0 else n - p.length - 1), env.set i (.own n dd)) else none
    | _ => none
  | _ => none
theorem pop_place {σ : L2.St} {H G H0 G0 : Hp} {env env' env0 : Env} {F F0 : Nat → List Addr} {m0 : List Nat} {p : List Nat} {v : V} {x : D} {k : Nat} {jf : List D → Option Nat} (s : S X.K σ H G env F) (ev0 : Evo m0 env0 H0 G0 F0 env H G F)
    (pl : ∃ w n d d', env[i]? = some (.own n d) ∧ subP d p = some d' ∧ p.length < n ∧ σ[i]? = some (some w) ∧ Pth H w p v) (h : popAt i p env jf = some ((x, k), env')) :
    ∃ a xs j y ds, v = .ref a ∧ H a = some (.lst xs) ∧ xs.length = ds.length ∧ jf ds = some j ∧ xs[j]? = some y ∧ ∃ G1 F1 FT, S X.K σ (upd H a (.lst (xs.eraseIdx j))) G1 env' F1 ∧ Evo (m0 ++ [i]) env0 H0 G0 F0 env' (upd H a (.lst (xs.eraseIdx j))) G1 F1 ∧ Own X.K G1 (upd H a (.lst (xs.eraseIdx j))) k y x FT ∧
      ∀ b ∈ FT, (G1 b = none ∧ ∀ j, b ∉ F1 j) ∧ ((∃ j, b ∈ F0 j) ∨ H0 b = none) := by
  obtain ⟨w, n, d, d', h1, h2, h3, h4, h5⟩ := pl
  unfold popAt at h
  rw [h1] at h
  simp only [] at h
  rw [h2] at h
  cases d' with
  | lst ds =>
    simp only [] at h
    rw [if_pos h3] at h
    obtain ⟨j, e1, h⟩ := bind_some' h
    obtain ⟨x', e2, h⟩ := bind_some' h
    obtain ⟨dd, e3, h⟩ := map_some' h
    simp only [Prod.mk.injEq] at h
    obtain ⟨⟨rfl, rfl⟩, rfl⟩ := h
    obtain ⟨w1, q6, ow⟩ := s.own i n d h1
    rw [h4] at q6
    cases q6
    obtain ⟨v', Fz, pt, oz, sub, up⟩ := ow.zip p h2 h3
    have ee := pt.inj h5
    subst ee
    obtain ⟨k, hk⟩ : ∃ k, n - p.length = k + 1 := ⟨n - p.length - 1, by omega⟩
    rw [hk] at oz up
    cases oz with
    | shr c r => rcases c with c | c <;> simp [D.im] at c
    | @lst _ a xs _ Fr ha ho hna =>
      obtain ⟨y, C, F', hy, oy, oE, cC, cF⟩ := ho.erase e2
      have mF : ∀ b ∈ a :: Fr, b ∈ F i := sub
      have ai : a ∈ F i := mF a List.mem_cons_self
      have nupd : ∀ b, b ≠ a → upd H a (.lst (xs.eraseIdx j)) b = H b := fun b hb => upd_ne hb
      have oE' := oE.move (H' := upd H a (.lst (xs.eraseIdx j))) (Same.refl G) fun b hb => nupd b fun z => hna (by rw [← z]; exact cF b hb)
      have oy' := oy.move (H' := upd H a (.lst (xs.eraseIdx j))) (Same.refl G) fun b hb => nupd b fun z => hna (by rw [← z]; exact (cC b hb).1)
      obtain ⟨d2, F3, g1, g2, g3⟩ := up G (upd H a (.lst (xs.eraseIdx j))) (.lst (ds.eraseIdx j)) (a :: F') (Same.refl G) (fun b hb hn => nupd b fun z => hn (by rw [z]; exact List.mem_cons_self)) (fun b hb => by
        rcases List.mem_cons.mp hb with z | z
        · exact .inl (by rw [z]; exact List.mem_cons_self)
        · exact .inl (List.mem_cons_of_mem _ (cF b z))) (.lst upd_same oE' fun z => hna (cF a z))
      rw [e3] at g1
      cases g1
      have F3i : ∀ b ∈ F3, b ∈ F i := fun b hb => by
        rcases g3 b hb with ⟨z, _⟩ | z
        · exact z
        · rcases List.mem_cons.mp z with z | z
          · exact mF b (by rw [z]; exact List.mem_cons_self)
          · exact mF b (List.mem_cons_of_mem _ (cF b z))
      have s1 := s.reput ai h4 (List.getElem?_eq_some_iff.mp h1).1 g2 fun b hb => ⟨s.free i b (F3i b hb), fun j ne hj => s.apart j i b ne hj (F3i b hb)⟩
      have ev1 := Evo.reput (sl := Slot.own n dd) s ev0 ai (F' := F3) (o := .lst (xs.eraseIdx j)) fun b hb => ev0.f i b (F3i b hb)
      have kk : n - p.length - 1 = k := by omega
      refine ⟨a, xs, j, y, ds, rfl, ha, ho.length, e1, hy, G, fset F i F3, if x'.im = true then [] else C, s1, ev1, ?_, fun b hb => ?_⟩
      · by_cases ci : x'.im = true
        · rw [if_pos ci, if_pos ci]
          cases oy' with
          | shr _ r => exact .shr (.inl rfl) r
          | lst _ _ _ => simp [D.im] at ci
          | dK _ _ _ _ => simp [D.im] at ci
          | dT _ _ _ _ => simp [D.im] at ci
        · rw [if_neg ci, if_neg ci, kk]
          exact oy'
      · have hb' : b ∈ C := by
          split at hb
          · cases hb
          · exact hb
        have bi := mF b (List.mem_cons_of_mem _ (cC b hb').1)
        refine ⟨⟨s.free i b bi, fun j hj => ?_⟩, ev0.f i b bi⟩
        by_cases z : j = i
        · subst z
          rw [fset_same] at hj
          rcases g3 b hj with ⟨_, z⟩ | z
          · exact z (List.mem_cons_of_mem _ (cC b hb').1)
          · rcases List.mem_cons.mp z with z | z
            · subst z
              exact hna (cC b hb').1
            · exact (cC b hb').2 z
        · rw [fset_ne z] at hj
          exact s.apart j i b z hj bi
  | _ => simp at h
def lastJ (ds : List D) : Option Nat := if ds.length = 0 then none else some (ds.length - 1)
def popP (i : Nat) (f : M (List Nat)) : M (D × Nat) := fun env => (f env).bind fun p => popAt i p.1 p.2 lastJ
theorem erase_last {α : Type} (l : List α) : l.eraseIdx (l.length - 1) = l.dropLast := by
  induction l with
  | nil => rfl
  | cons a l ih =>
    cases l with
    | nil => rfl
    | cons b l =>
      have : (a :: b :: l).length - 1 = (b :: l).length - 1 + 1 := by simp
      rw [this, List.eraseIdx_cons_succ, ih]
      rfl
theorem ty_place {H : Hp} {a : Addr} {xs : List V} (h : H a = some (.lst xs)) : tyV X.K "list" (.ref a) H := .inl ⟨rfl, _, SqL.of h⟩
theorem df_pop {fp : M (List Nat)} {apos cpos : Pos} (ha : DP X i m fp e)
    (hbase : attributeBase e "pop" X.env (eval e X.env) = eval e X.env := by rfl) (hline : (apos.endLine == cpos.line) = true := by rfl) : DF X (m ++ [i]) (popP i fp) (.Call (.Attribute e "pop" apos) [] [] cpos) := by
  refine pe_weak (pe_bm0 PySem.F.plainAttrs_list PySem.F.slot_list_pop PySem.F.type_list_pop mt_pop ha hbase hline) fun σ H Q ⟨G, env, F, p, env', s, hf, q⟩ => ?_
  obtain ⟨⟨p1, e1⟩, h1, h2⟩ := bind_some' hf
  refine ⟨G, env, F, p1, e1, s, h1, fun v H1 G1 F1 s1 ev1 pl => ?_⟩
  obtain ⟨x, k⟩ := p
  obtain ⟨a, xs, j, y, ds, rfl, ha, hl, hj, hy, G2, F2, FT, s2, ev2, ow, hF⟩ := pop_place s1 ev1 pl h2
  have ej : j = xs.length - 1 := by
    unfold lastJ at hj
    split at hj
    · cases hj
    · cases hj
      omega
  subst ej
  rw [erase_last] at s2 ev2 ow
  exact ⟨ty_place ha, a, xs, y, rfl, rfl, ha, hy, q y _ G2 F2 FT s2 ev2 ow hF⟩
def lstAt (i : Nat) (p : List Nat) (env : Env) : Bool := match env[i]? with
  | some (.own _ d) => (match subP d p with
    | some (.lst _) => true
    | _ => false)
  | _ => false
theorem lstAt_ty {σ : L2.St} {H G : Hp} {env : Env} {F : Nat → List Addr} {p : List Nat} {v : V} (s : S X.K σ H G env F) (pl : ∃ w n d d', env[i]? = some (.own n d) ∧ subP d p = some d' ∧ p.length < n ∧ σ[i]? = some (some w) ∧ Pth H w p v) (h : lstAt i p env = true) : tyV X.K "list" v H := by
  obtain ⟨w, n, d, d', h1, h2, h3, h4, h5⟩ := pl
  unfold lstAt at h
  rw [h1] at h
  simp only [] at h
  rw [h2] at h
  cases d' with
  | lst ds =>
    obtain ⟨w1, q6, ow⟩ := s.own i n d h1
    rw [h4] at q6
    cases q6
    obtain ⟨v', Fz, pt, oz, sub, up⟩ := ow.zip p h2 h3
    have ee := pt.inj h5
    subst ee
    obtain ⟨k, hk⟩ : ∃ k, n - p.length = k + 1 := ⟨n - p.length - 1, by omega⟩
    rw [hk] at oz
    cases oz with
    | shr c r => rcases c with c | c <;> simp [D.im] at c
    | lst ha _ _ => exact ty_place ha
  | _ => simp at h
/-- pop(j) -/
def popPI (i : Nat) (f : M (List Nat)) (fi : M D) : M (D × Nat) := fun env => (f env).bind fun p => if lstAt i p.1 p.2 = true then (fi p.2).bind fun q => match q.1 with
  | .int j => popAt i p.1 q.2 fun ds => if 0 ≤ j ∧ j < ds.length ∧ ds.length < 2 ^ 62 then some j.toNat else none
  | _ => none
  else none
theorem df_popI {fp : M (List Nat)} {fi : M D} {apos cpos : Pos} (ha : DP X i m1 fp e) (hb : DE X m2 r2 fi e2) (hi : i ∉ m2 := by decide)
    (hbase : attributeBase e "pop" X.env (eval e X.env) = eval e X.env := by rfl)
    (hfew : ((backTo cpos (starEach [e2] X.env)).all (fun x => !x.1) && (backToKw cpos (keywordEach [] X.env)).all (fun x => x.1.isSome) && decide (([e2] : List Expr).length + ([] : List Keyword).length + (if ([] : List Keyword).isEmpty then 0 else 1) < 30)) = true := by rfl)
    (hline : (apos.endLine == cpos.line) = true := by rfl) (hs : starEach [e2] X.env = (false, eval e2 X.env) :: starEach [] X.env := by rfl) (hplain : (backTo cpos (starEach [] X.env)).any (·.1) = false := by rfl) :
    DF X (m1 ++ m2 ++ [i]) (popPI i fp fi) (.Call (.Attribute e "pop" apos) [e2] [] cpos) := by
  refine pe_weak (pe_bm PySem.F.plainAttrs_list PySem.F.slot_list_pop PySem.F.type_list_pop mt_popAt ha (pa_cons hb pa_nil hs) hbase hfew hline hs hplain) fun σ H Q ⟨G, env, F, p, env', s, hf, q⟩ => ?_
  obtain ⟨⟨p1, e1⟩, h1, h2⟩ := bind_some' hf
  have hla : lstAt i p1 e1 = true := by
    cases c : lstAt i p1 e1 with
    | true => rfl
    | false => simp [c] at h2
  simp only [] at h2
  rw [if_pos hla] at h2
  obtain ⟨⟨z, e3⟩, h3, h4⟩ := bind_some' h2
  simp only [] at h4
  cases z with
  | int j =>
    simp only [] at h4
    obtain ⟨x, k⟩ := p
    refine ⟨G, env, F, p1, e1, s, h1, fun v H1 G1 F1 s1 ev1 pl => ?_⟩
    have key : ∀ (w : V) (H2 G2 : Hp) (F2 : Nat → List Addr), S X.K σ H2 G2 e3 F2 → Evo m2 e1 H1 G1 F1 e3 H2 G2 F2 → Rep X.K (vw r2 H2 G2 F2) w (.int j) → rPopAt v [w] H2 Q := fun w H2 G2 F2 s2 ev2 rw' => by
      cases rw'
      obtain ⟨a, xs, j', y, ds, rfl, ha, hl, hj, hy, G3, F3, FT, s3, ev3, ow, hF⟩ := pop_place s2 (ev1.trans ev2) (place s1 s2 ev2 hi pl) h4
      split at hj
      · rename_i c
        cases hj
        refine ⟨a, xs, j, j.toNat, y, rfl, rfl, ha, by omega, by omega, ?_, hy, q y _ G3 F3 FT s3 ev3 ow hF⟩
        have ec : seqIndex? j xs.length = some j.toNat := by
          unfold seqIndex?
          have h1 : ¬ j < 0 := by omega
          simp only [h1, if_false]
          rw [if_pos (by rw [Bool.and_eq_true, decide_eq_true_eq, decide_eq_true_eq]; omega)]
        exact ec
      · cases hj
    exact ⟨lstAt_ty s1 pl hla, G1, e1, F1, .int j, e3, s1, h3, fun w' H2 G2 F2 s2 ev2 rw' => key w' H2 G2 F2 s2 ev2 rw'⟩
  | _ => simp at h4

/-! ### append -/
/-- the whole, the list at a path changed -/
def lstPut (i : Nat) (p : List Nat) (env : Env) (g : Nat → List D → Option (List D)) : Option Env := match env[i]? with
  | some (.own n d) => match subP d p with
    | some (.lst ds) => if p.length < n then (g (n - p.length - 1) ds).bind fun ds' => (setP d p (.lst ds')).map fun dd => env.set i (.own n dd) else none
    | _ => none
  | _ => none
theorem put_place {σ : L2.St} {H G H0 G0 : Hp} {env env' env0 : Env} {F F0 : Nat → List Addr} {m0 : List Nat} {p : List Nat} {v : V} {g : Nat → List D → Option (List D)} (s : S X.K σ H G env F) (ev0 : Evo m0 env0 H0 G0 F0 env H G F)
    (pl : ∃ w n d d', env[i]? = some (.own n d) ∧ subP d p = some d' ∧ p.length < n ∧ σ[i]? = some (some w) ∧ Pth H w p v) (h : lstPut i p env g = some env') :
    ∃ a xs ds ds' k Fr, v = .ref a ∧ H a = some (.lst xs) ∧ Owns X.K G H k xs ds Fr ∧ a ∉ Fr ∧ (∀ b ∈ a :: Fr, b ∈ F i) ∧ g k ds = some ds' ∧ ∀ (xs' : List V) (Fn : List Addr), Owns X.K G (upd H a (.lst xs')) k xs' ds' Fn → a ∉ Fn → (∀ b ∈ Fn, b ∈ Fr ∨ ((G b = none ∧ ∀ j, b ∉ F j) ∧ ((∃ j, b ∈ F0 j) ∨ H0 b = none))) →
      ∃ F1, S X.K σ (upd H a (.lst xs')) G env' F1 ∧ Evo (m0 ++ [i]) env0 H0 G0 F0 env' (upd H a (.lst xs')) G F1 := by
  obtain ⟨w, n, d, d', h1, h2, h3, h4, h5⟩ := pl
  unfold lstPut at h
  rw [h1] at h
  simp only [] at h
  rw [h2] at h
  cases d' with
  | lst ds =>
    simp only [] at h
    rw [if_pos h3] at h
    obtain ⟨ds', e2, h⟩ := bind_some' h
    obtain ⟨dd, e3, rfl⟩ := map_some' h
    obtain ⟨w1, q6, ow⟩ := s.own i n d h1
    rw [h4] at q6
    cases q6
    obtain ⟨v', Fz, pt, oz, sub, up⟩ := ow.zip p h2 h3
    have ee := pt.inj h5
    subst ee
    obtain ⟨k, hk⟩ : ∃ k, n - p.length = k + 1 := ⟨n - p.length - 1, by omega⟩
    have kk : n - p.length - 1 = k := by omega
    rw [hk] at oz up
    rw [kk] at e2
    cases oz with
    | shr c r => rcases c with c | c <;> simp [D.im] at c
    | @lst _ a xs _ Fr ha ho hna =>
      refine ⟨a, xs, ds, ds', k, Fr, rfl, ha, ho, hna, sub, e2, fun xs' Fn on hn hF => ?_⟩
      have ai : a ∈ F i := sub a List.mem_cons_self
      obtain ⟨d2, F3, g1, g2, g3⟩ := up G (upd H a (.lst xs')) (.lst ds') (a :: Fn) (Same.refl G) (fun b hb hn => upd_ne fun z => hn (by rw [z]; exact List.mem_cons_self)) (fun b hb => by
        rcases List.mem_cons.mp hb with z | z
        · exact .inl (by rw [z]; exact List.mem_cons_self)
        · rcases hF b z with w | w
          · exact .inl (List.mem_cons_of_mem _ w)
          · exact .inr (w.1.2 i)) (.lst upd_same on hn)
      rw [e3] at g1
      cases g1
      have cls : ∀ b ∈ F3, b ∈ F i ∨ ((G b = none ∧ ∀ j, b ∉ F j) ∧ ((∃ j, b ∈ F0 j) ∨ H0 b = none)) := fun b hb => by
        rcases g3 b hb with ⟨z, _⟩ | z
        · exact .inl z
        · rcases List.mem_cons.mp z with z | z
          · exact .inl (by rw [z]; exact ai)
          · rcases hF b z with w | w
            · exact .inl (sub b (List.mem_cons_of_mem _ w))
            · exact .inr w
      exact ⟨fset F i F3, s.reput ai h4 (List.getElem?_eq_some_iff.mp h1).1 g2 fun b hb => (cls b hb).elim (fun z => ⟨s.free i b z, fun j ne hj => s.apart j i b ne hj z⟩) fun z => ⟨z.1.1, fun j _ => z.1.2 j⟩, Evo.reput s ev0 ai fun b hb => (cls b hb).elim (fun z => ev0.f i b z) fun z => z.2⟩
  | _ => simp at h
def appP (i : Nat) (f : M (List Nat)) (fe : M (D × Nat)) : M D := fun env => (f env).bind fun p => if lstAt i p.1 p.2 = true then (fe p.2).bind fun q =>
    (lstPut i p.1 q.2 fun k ds => if (fits k q.1.2 q.1.1 && decide (ds.length < 16777216)) = true then some (ds ++ [q.1.1]) else none).map fun e => (.non, e)
  else none
theorem de_appendP {fp : M (List Nat)} {fe : M (D × Nat)} {apos cpos : Pos} (ha : DP X i m1 fp e) (hb : DF X m2 fe e2) (hi : i ∉ m2 := by decide)
    (hbase : attributeBase e "append" X.env (eval e X.env) = eval e X.env := by rfl)
    (hfew : ((backTo cpos (starEach [e2] X.env)).all (fun x => !x.1) && (backToKw cpos (keywordEach [] X.env)).all (fun x => x.1.isSome) && decide (([e2] : List Expr).length + ([] : List Keyword).length + (if ([] : List Keyword).isEmpty then 0 else 1) < 30)) = true := by rfl)
    (hline : (apos.endLine == cpos.line) = true := by rfl) (hs : starEach [e2] X.env = (false, eval e2 X.env) :: starEach [] X.env := by rfl) (hplain : (backTo cpos (starEach [] X.env)).any (·.1) = false := by rfl) :
    DE X (m1 ++ m2 ++ [i]) [] (appP i fp fe) (.Call (.Attribute e "append" apos) [e2] [] cpos) := by
  refine pe_weak (pe_bm PySem.F.plainAttrs_list PySem.F.slot_list_append PySem.F.type_list_append mt_append ha (pa_cons hb pa_nil hs) hbase hfew hline hs hplain) fun σ H Q ⟨G, env, F, p, env', s, hf, q⟩ => ?_
  obtain ⟨⟨p1, e1⟩, h1, h2⟩ := bind_some' hf
  have hla : lstAt i p1 e1 = true := by
    cases c : lstAt i p1 e1 with
    | true => rfl
    | false => simp [c] at h2
  simp only [] at h2
  rw [if_pos hla] at h2
  obtain ⟨⟨⟨y, n⟩, e3⟩, h3, h4⟩ := bind_some' h2
  obtain ⟨e4, h5, h6⟩ := map_some' h4
  simp only [Prod.mk.injEq] at h6
  obtain ⟨rfl, rfl⟩ := h6
  refine ⟨G, env, F, p1, e1, s, h1, fun v H1 G1 F1 s1 ev1 pl => ⟨lstAt_ty s1 pl hla, G1, e1, F1, (y, n), e3, s1, h3, fun u H2 G2 F2 FT s2 ev2 oy hF => ?_⟩⟩
  obtain ⟨a, xs, ds, ds', k, Fr, rfl, ha, ho, hna, sub, hg, fin⟩ := put_place s2 (ev1.trans ev2) (place s1 s2 ev2 hi pl) h5
  split at hg
  · rename_i c
    cases hg
    rw [Bool.and_eq_true, decide_eq_true_eq] at c
    have oy2 := fits_own oy c.1
    have ap : ∀ b ∈ FT, b ∉ a :: Fr := fun b hb z => (hF b hb).1.2 i (sub b z)
    have hF' : ∀ b ∈ FT, (G2 b = none ∧ ∀ j, b ∉ F2 j) ∧ ((∃ j, b ∈ F j) ∨ H b = none) := fun b hb => ⟨(hF b hb).1, by
      rcases (hF b hb).2 with ⟨j, hj⟩ | z
      · exact ev1.f j b hj
      · exact (ev1.none_of z).elim .inr .inl⟩
    obtain ⟨F3, s3, ev3⟩ := fin (xs ++ [u]) (Fr ++ FT) ((ho.move (Same.refl _) fun b hb => upd_ne fun z => hna (by rw [← z]; exact hb)).app (Owns.one (oy2.move (Same.refl _) fun b hb => upd_ne fun z => ap b hb (by rw [z]; exact List.mem_cons_self))) fun b hb h2 => ap b h2 (List.mem_cons_of_mem _ hb)) (fun z => (List.mem_append.mp z).elim hna fun z => ap a z List.mem_cons_self) fun b hb => (List.mem_append.mp hb).imp id (hF' b)
    exact ⟨a, xs, u, rfl, rfl, ha, by rw [ho.length, sizeLine_eq]; exact c.2, q .non _ G2 F3 s3 (ev3.mono fun j hj => by simpa using hj) (by rw [vw_nil]; exact .non)⟩
  · cases hg
end
end HD
set_option Elab.async false
set_option linter.all false
set_option maxRecDepth 100000
set_option maxHeartbeats 2000000
set_option autoImplicit false
/-! HD15: stores at such a place. -/
namespace HD
open PySem PySem.Spec PyProof.Rows L2
variable [Tb]

section
variable {κ : Type} [DecidableEq κ] {K : PySem.W.Frag} {G H : Hp} {n : Nat} (f : κ → D) (hf : ∀ a b, D.eqv (f a) (f b) = decide (a = b))
theorem repl_own (k : κ) {v : V} {d : D} (ow : Own K G H n v d []) : ∀ {ks : List (κ × V)} {ds : List D} {F : List Addr}, Owns K G H n (ks.map (·.2)) ds F →
    ∃ F', Owns K G H n ((ks.map fun kv => if kv.1 = k then (kv.1, v) else kv).map (·.2)) (((ks.map (·.1)).zip ds).map fun p => if p.1 = k then d else p.2) F' ∧ ∀ a ∈ F', a ∈ F
  | [], [], F, h => ⟨[], .nil, fun a ha => by cases ha⟩
  | [], _ :: _, F, h => by cases h
  | p :: ks, [], F, h => by cases h
  | p :: ks, e :: ds, _, .cons (F1 := A) (F2 := B) h r c => by
    obtain ⟨F', o, s⟩ := repl_own k ow r
    by_cases z : p.1 = k
    · refine ⟨[] ++ F', ?_, fun a ha => List.mem_append_right _ (s a ha)⟩
      simp only [List.map_cons, List.zip_cons_cons, z, if_true]
      exact .cons ow o fun a ha => by cases ha
    · refine ⟨A ++ F', ?_, fun a ha => (List.mem_append.mp ha).elim (List.mem_append_left _) fun y => List.mem_append_right _ (s a y)⟩
      simp only [List.map_cons, List.zip_cons_cons, if_neg z]
      exact .cons h o fun a ha hb => c a ha (s a hb)
include hf
theorem repl_pt (k : κ) {v : V} {d : D} : ∀ {ks : List (κ × V)} {ds : List D}, ks.length = ds.length →
    ((ks.map fun p => f p.1).zip ds).map (fun p => if D.eqv p.1 (f k) = true then (p.1, d) else p) = ((ks.map fun kv => if kv.1 = k then (kv.1, v) else kv).map fun p => f p.1).zip (((ks.map (·.1)).zip ds).map fun p => if p.1 = k then d else p.2)
  | [], [], _ => rfl
  | [], _ :: _, h => by simp at h
  | _ :: _, [], h => by simp at h
  | p :: ks, e :: ds, h => by
    have q := repl_pt k (v := v) (d := d) (ks := ks) (ds := ds) (by simpa using h)
    simp only [List.map_cons, List.zip_cons_cons, hf, q]
    by_cases z : p.1 = k <;> simp [z]
theorem put_own (k : κ) {v : V} {d : D} {ks : List (κ × V)} {ds : List D} {F FT : List Addr} (h : Owns K G H n (ks.map (·.2)) ds F) (ow : Own K G H n v d FT) (ap : ∀ a ∈ FT, a ∉ F) (c : FT = [] ∨ (((ks.map fun p => f p.1).zip ds).any fun p => D.eqv p.1 (f k)) = false) :
    ∃ ds' F', Owns K G H n ((putK ks k v).map (·.2)) ds' F' ∧ ptD ((ks.map fun p => f p.1).zip ds) (f k) d = ((putK ks k v).map fun p => f p.1).zip ds' ∧ ∀ a ∈ F', a ∈ F ∨ a ∈ FT := by
  have hl : ks.length = ds.length := by have := h.length; rw [List.length_map] at this; exact this
  have an := any_rel f hf k (ks := ks) (ds := ds) h.length
  unfold ptD putK
  by_cases a : (ks.any fun p => decide (p.1 = k)) = true
  · rw [an, if_pos a, if_pos a]
    rcases c with c | c
    · subst c
      obtain ⟨F', o, s⟩ := repl_own k ow h
      exact ⟨_, F', o, repl_pt f hf k hl, fun a ha => .inl (s a ha)⟩
    · rw [an, a] at c
      cases c
  · rw [an, if_neg a, if_neg a]
    refine ⟨ds ++ [d], F ++ FT, ?_, ?_, fun a ha => List.mem_append.mp ha⟩
    · rw [List.map_append]
      exact h.app (Owns.one ow) fun a ha hb => ap a hb ha
    · rw [List.map_append, List.zip_append (by rw [List.length_map]; exact hl)]
      rfl
end

/-! ### an object at a path rewritten -/
def objPut (i : Nat) (p : List Nat) (env : Env) (g : Nat → D → Option D) : Option Env := match env[i]? with
  | some (.own n d) => (subP d p).bind fun sd => if p.length < n then (g (n - p.length - 1) sd).bind fun sd' => (setP d p sd').map fun dd => env.set i (.own n dd) else none
  | _ => none
def putD (key v : D) (nv : Nat) (k : Nat) (s : D) : Option D := if fits k nv v = true then match s with
    | .lst ds => (match key with
      | .int j => if 0 ≤ j ∧ j < ds.length then some (.lst (ds.set j.toNat v)) else none
      | _ => none)
    | .dct t kvs => if (keyOk t key && decide (kvs.length < 16777216) && (k == 0 || v.im || !(kvs.any fun p => D.eqv p.1 key))) = true then some (.dct t (ptD kvs key v)) else none
    | _ => none
  else none
def storeS (i : Nat) (fv : M (D × Nat)) (fp : M (List Nat)) (fi : M D) : SF := fun env => (fv env).bind fun v => (fp v.2).bind fun p => (fi p.2).bind fun q => (objPut i p.1 q.2 (putD q.1 v.1.1 v.1.2)).map fun e => .nx e
section
variable {X : Cx} {e e2 ev : Expr} {es : List Expr} {m m1 m2 m3 r r2 : List Nat} {pos : Pos} {i : Nat}
theorem obj_place {σ : L2.St} {H G H0 G0 : Hp} {env env' env0 : Env} {F F0 : Nat → List Addr} {m0 : List Nat} {p : List Nat} {v : V} {g : Nat → D → Option D} (s : S X.K σ H G env F) (ev0 : Evo m0 env0 H0 G0 F0 env H G F)
    (pl : ∃ w n d d', env[i]? = some (.own n d) ∧ subP d p = some d' ∧ p.length < n ∧ σ[i]? = some (some w) ∧ Pth H w p v) (h : objPut i p env g = some env') :
    ∃ k sd sd' Fz, Own X.K G H (k + 1) v sd Fz ∧ g k sd = some sd' ∧ (∀ b ∈ Fz, b ∈ F i) ∧ ∀ (a : Addr) (o : HO) (Fn : List Addr), a ∈ Fz → Own X.K G (upd H a o) (k + 1) v sd' Fn → (∀ b ∈ Fn, b ∈ Fz ∨ ((G b = none ∧ ∀ j, b ∉ F j) ∧ ((∃ j, b ∈ F0 j) ∨ H0 b = none))) →
      ∃ F1, S X.K σ (upd H a o) G env' F1 ∧ Evo (m0 ++ [i]) env0 H0 G0 F0 env' (upd H a o) G F1 := by
  obtain ⟨w, n, d, d', h1, h2, h3, h4, h5⟩ := pl
  unfold objPut at h
  rw [h1] at h
  simp only [h2, Option.bind_some] at h
  rw [if_pos h3] at h
  obtain ⟨sd', e2, h⟩ := bind_some' h
  obtain ⟨dd, e3, rfl⟩ := map_some' h
  obtain ⟨w1, q6, ow⟩ := s.own i n d h1
  rw [h4] at q6
  cases q6
  obtain ⟨v', Fz, pt, oz, sub, up⟩ := ow.zip p h2 h3
  have ee := pt.inj h5
  subst ee
  obtain ⟨k, hk⟩ : ∃ k, n - p.length = k + 1 := ⟨n - p.length - 1, by omega⟩
  have kk : n - p.length - 1 = k := by omega
  rw [hk] at oz up
  rw [kk] at e2
  refine ⟨k, d', sd', Fz, oz, e2, sub, fun a o Fn ha on hF => ?_⟩
  obtain ⟨d2, F3, g1, g2, g3⟩ := up G (upd H a o) sd' Fn (Same.refl G) (fun b hb hn => upd_ne fun z => hn (by rw [z]; exact ha)) (fun b hb => (hF b hb).imp id fun z => z.1.2 i) on
  rw [e3] at g1
  cases g1
  have cls : ∀ b ∈ F3, b ∈ F i ∨ ((G b = none ∧ ∀ j, b ∉ F j) ∧ ((∃ j, b ∈ F0 j) ∨ H0 b = none)) := fun b hb => by
    rcases g3 b hb with ⟨z, _⟩ | z
    · exact .inl z
    · exact (hF b z).imp (sub b) id
  exact ⟨fset F i F3, s.reput (sub a ha) h4 (List.getElem?_eq_some_iff.mp h1).1 g2 fun b hb => (cls b hb).elim (fun z => ⟨s.free i b z, fun j ne hj => s.apart j i b ne hj z⟩) fun z => ⟨z.1.1, fun j _ => z.1.2 j⟩, Evo.reput s ev0 (sub a ha) fun b hb => (cls b hb).elim (fun z => ev0.f i b z) fun z => z.2⟩
def rSetP : TSet := fun o i v H Q => rSetL o i v H Q ∨ rSetD o i v H Q
theorem set_p (hu : X.A.units + 1 < cLine) : PSet X rSetP := by
  intro pins s σ H o i v ov iv u Q I ro ri rv h
  exact h.elim (set_list pins s σ H o i v ov iv u Q I ro ri rv) (set_dict hu pins s σ H o i v ov iv u Q I ro ri rv)
/-- e[k] = v -/
theorem ds_store {fv : M (D × Nat)} {fp : M (List Nat)} {fi : M D} {tpos : Pos} (hu : X.A.units + 1 < cLine) (hv : DF X m1 fv ev) (hp : DP X i m2 fp e) (hb : DE X m3 r fi e2) (hi : i ∉ m3 := by decide)
    (hs : swapsWithSole [.Subscript e e2 tpos] ev pos.line X.env = pure false := by rfl) (hw : swappedStores [.Subscript e e2 tpos] ev X.env = pure none := by rfl)
    (h1 : (assignEach [.Subscript e e2 tpos] X.env).map (·.2) = [assign (.Subscript e e2 tpos) X.env] := by rfl)
    (h2 : ∀ v, assign (.Subscript e e2 tpos) X.env v = (do
      let ov ← holding [v] (eval e X.env)
      let iv ← holding [v, ov] (eval e2 X.env)
      standAt tpos
      holding [v, ov, iv] (setItem ov iv v)
      release [v, ov, iv] []) := by intro _; rfl) : DS X (m1 ++ (m2 ++ m3) ++ [i]) [] (storeS i fv fp fi) (.Assign [.Subscript e e2 tpos] ev pos) := by
  refine ps_weak (ps_asg hv (pg_sub hp hb (set_p hu) h2) hs hw h1) fun Dn σ H ⟨G, env, F, o, s, hf, q⟩ => ?_
  obtain ⟨⟨⟨d, nv⟩, e1⟩, h2, h3⟩ := bind_some' hf
  obtain ⟨⟨p1, e3⟩, h4, h5⟩ := bind_some' h3
  obtain ⟨⟨y, e4⟩, h6, h7⟩ := bind_some' h5
  obtain ⟨e5, h8, rfl⟩ := map_some' h7
  refine ⟨G, env, F, (d, nv), e1, s, h2, fun u H1 G1 F1 FT s1 ev1 ow hF => ⟨G1, e1, F1, p1, e3, s1, h4, fun v H2 G2 F2 s2 ev2 pl => ⟨G2, e3, F2, y, e4, s2, h6, fun w H3 G3 F3 s3 ev3 ry => ?_⟩⟩⟩
  obtain ⟨ow1, hF1⟩ := Frs.later (R := OwnR X.K nv) ownR (OwnsR.one ow) hF ev2
  obtain ⟨ow2, hF2⟩ := Frs.later ownR ow1 hF1 ev3
  have ow3 : Own X.K G3 H3 nv u d FT := (Owns.one' ow2.owns)
  obtain ⟨k, sd, sd', Fz, oz, hg, sub, fin⟩ := obj_place s3 ((ev1.trans ev2).trans ev3) (place s2 s3 ev3 hi pl) h8
  have done : ∀ {H' : Hp} {F' : Nat → List Addr}, S X.K σ H' G3 e5 F' → Evo (m1 ++ m2 ++ m3 ++ [i]) env H G F e5 H' G3 F' → Dn.nx σ H' := fun {H' F'} a b => q σ H' G3 F' a (b.mono fun j hj => by simpa [List.append_assoc] using hj) Only.refl
  unfold putD at hg
  by_cases cf : fits k nv d = true
  · rw [if_pos cf] at hg
    have ow4 := fits_own ow3 cf
    have ap : ∀ b ∈ FT, b ∉ Fz := fun b hb z => (hF2 b hb).1.2 i (sub b z)
    cases oz with
    | shr c r =>
      exfalso
      rcases c with c | c
      · cases c
      · cases sd <;> simp [D.im] at c hg
    | @lst _ a xs ds Fr ha ho hna =>
      cases y with
      | int j =>
        simp only [] at hg
        split at hg
        · rename_i c
          cases hg
          cases ry
          have hjd : j.toNat < ds.length := by omega
          have nu : ∀ b, b ≠ a → upd H3 a (.lst (xs.set j.toNat u)) b = H3 b := fun b hb => upd_ne hb
          obtain ⟨F', o', c'⟩ := Owns.put (ho.move (H' := upd H3 a (.lst (xs.set j.toNat u))) (Same.refl _) fun b hb => nu b fun z => hna (by rw [← z]; exact hb)) hjd (ow4.move (H' := upd H3 a (.lst (xs.set j.toNat u))) (Same.refl _) fun b hb => nu b fun z => ap b hb (by rw [z]; exact List.mem_cons_self)) fun b hb z => ap b hb (List.mem_cons_of_mem _ z)
          obtain ⟨F4, s4, ev4⟩ := fin a (.lst (xs.set j.toNat u)) (a :: F') List.mem_cons_self (.lst upd_same o' fun z => (c' a z).elim hna fun z => ap a z List.mem_cons_self) fun b hb => by
            rcases List.mem_cons.mp hb with z | z
            · exact .inl (by rw [z]; exact List.mem_cons_self)
            · exact (c' b z).imp (List.mem_cons_of_mem _) (hF2 b)
          refine .inl ⟨a, xs, j, j.toNat, rfl, rfl, ha, ?_, done s4 ev4⟩
          have hl := ho.length
          unfold ixN
          rw [if_pos (by omega), if_pos (by omega)]
        · cases hg
      | _ => simp at hg
    | @dK _ a ks ds kvs Fr ha ho hna qk =>
      subst qk
      simp only [] at hg
      split at hg
      · rename_i c
        cases hg
        rw [Bool.and_eq_true, Bool.and_eq_true, decide_eq_true_eq] at c
        obtain ⟨⟨c1, c2⟩, c3⟩ := c
        obtain ⟨k', hk⟩ := keyOk0 c1
        have ek := asKey_some hk
        subst ek
        have hll : ks.length = ds.length := by have := ho.length; rw [List.length_map] at this; exact this
        -- what is put in
        obtain ⟨FT', ow5, cF5, sb5⟩ : ∃ FT', Own X.K G3 H3 k u d FT' ∧ (FT' = [] ∨ (((ks.map fun p => keyD p.1).zip ds).any fun p => D.eqv p.1 (keyD k')) = false) ∧ ∀ b ∈ FT', b ∈ FT := by
          rw [Bool.or_eq_true, Bool.or_eq_true] at c3
          rcases c3 with (z | z) | z
          · have : k = 0 := by simpa using z
            subst this
            cases ow4 with
            | shr c r => exact ⟨[], .shr (.inl rfl) r, .inl rfl, fun b hb => by cases hb⟩
          · cases ow4 with
            | shr c r => exact ⟨[], .shr (.inr z) r, .inl rfl, fun b hb => by cases hb⟩
            | lst _ _ _ => simp [D.im] at z
            | dK _ _ _ _ => simp [D.im] at z
            | dT _ _ _ _ => simp [D.im] at z
          · exact ⟨FT, ow4, .inr (by simpa using z), fun b hb => hb⟩
        have nu : ∀ b, b ≠ a → upd H3 a (.dK (putK ks k' u)) b = H3 b := fun b hb => upd_ne hb
        obtain ⟨ds', F', o', e', c'⟩ := put_own keyD eqv_key k' (ho.move (H' := upd H3 a (.dK (putK ks k' u))) (Same.refl _) fun b hb => nu b fun z => hna (by rw [← z]; exact hb)) (ow5.move (H' := upd H3 a (.dK (putK ks k' u))) (Same.refl _) fun b hb => nu b fun z => ap b (sb5 b hb) (by rw [z]; exact List.mem_cons_self)) (fun b hb z => ap b (sb5 b hb) (List.mem_cons_of_mem _ z)) cF5
        obtain ⟨F4, s4, ev4⟩ := fin a (.dK (putK ks k' u)) (a :: F') List.mem_cons_self (.dK upd_same o' (fun z => (c' a z).elim hna fun z => ap a (sb5 a z) List.mem_cons_self) e') fun b hb => by
          rcases List.mem_cons.mp hb with z | z
          · exact .inl (by rw [z]; exact List.mem_cons_self)
          · exact (c' b z).imp (List.mem_cons_of_mem _) fun z => hF2 b (sb5 b z)
        refine .inr ⟨a, _, rfl, .inl ⟨ks, k', ha, rep_key (s3.vwH r) ry hk, ?_, rfl⟩, done s4 ev4⟩
        rw [sizeLine_eq, hll]
        simpa [hll] using c2
      · cases hg
    | @dT _ a ks ds kvs Fr ha ho hna qk =>
      subst qk
      simp only [] at hg
      split at hg
      · rename_i c
        cases hg
        rw [Bool.and_eq_true, Bool.and_eq_true, decide_eq_true_eq] at c
        obtain ⟨⟨c1, c2⟩, c3⟩ := c
        obtain ⟨dk, k', ed, hk⟩ := keyOk1 c1
        subst ed
        have ek := asKeys_some hk
        subst ek
        have hll : ks.length = ds.length := by have := ho.length; rw [List.length_map] at this; exact this
        obtain ⟨FT', ow5, cF5, sb5⟩ : ∃ FT', Own X.K G3 H3 k u d FT' ∧ (FT' = [] ∨ (((ks.map fun p => D.tup (p.1.map keyD)).zip ds).any fun p => D.eqv p.1 (D.tup (k'.map keyD))) = false) ∧ ∀ b ∈ FT', b ∈ FT := by
          rw [Bool.or_eq_true, Bool.or_eq_true] at c3
          rcases c3 with (z | z) | z
          · have : k = 0 := by simpa using z
            subst this
            cases ow4 with
            | shr c r => exact ⟨[], .shr (.inl rfl) r, .inl rfl, fun b hb => by cases hb⟩
          · cases ow4 with
            | shr c r => exact ⟨[], .shr (.inr z) r, .inl rfl, fun b hb => by cases hb⟩
            | lst _ _ _ => simp [D.im] at z
            | dK _ _ _ _ => simp [D.im] at z
            | dT _ _ _ _ => simp [D.im] at z
          · exact ⟨FT, ow4, .inr (by simpa using z), fun b hb => hb⟩
        have nu : ∀ b, b ≠ a → upd H3 a (.dT (putK ks k' u)) b = H3 b := fun b hb => upd_ne hb
        obtain ⟨ds', F', o', e', c'⟩ := put_own (fun k : List Key => D.tup (k.map keyD)) eqv_keys k' (ho.move (H' := upd H3 a (.dT (putK ks k' u))) (Same.refl _) fun b hb => nu b fun z => hna (by rw [← z]; exact hb)) (ow5.move (H' := upd H3 a (.dT (putK ks k' u))) (Same.refl _) fun b hb => nu b fun z => ap b (sb5 b hb) (by rw [z]; exact List.mem_cons_self)) (fun b hb z => ap b (sb5 b hb) (List.mem_cons_of_mem _ z)) cF5
        obtain ⟨F4, s4, ev4⟩ := fin a (.dT (putK ks k' u)) (a :: F') List.mem_cons_self (.dT upd_same o' (fun z => (c' a z).elim hna fun z => ap a (sb5 a z) List.mem_cons_self) e') fun b hb => by
          rcases List.mem_cons.mp hb with z | z
          · exact .inl (by rw [z]; exact List.mem_cons_self)
          · exact (c' b z).imp (List.mem_cons_of_mem _) fun z => hF2 b (sb5 b z)
        cases ry with
        | @tup b ys _ hb hr =>
          refine .inr ⟨a, _, rfl, .inr ⟨ks, k', b, ha, rfl, ?_, ?_, rfl⟩, done s4 ev4⟩
          · rw [← reps_keys (s3.vwH r) hr hk]
            exact (s3.vwH r) _ _ hb
          · rw [sizeLine_eq, hll]
            simpa [hll] using c2
      · cases hg
  · rw [if_neg cf] at hg
    cases hg
end
end HD
set_option Elab.async false
set_option linter.all false
set_option maxRecDepth 100000
set_option maxHeartbeats 2000000
set_option autoImplicit false
/-! HD16: sorted(..) of data of one kind, any number of them, tuples of any lengths. -/
namespace PySem.W
open PySem PySem.Calls PyProof.Rows PySem.SeqAt
section
variable {prog : Program} {w : World} {A : Around} {E : Value → Shared → Prop} {s : Shared}
theorem call_tuple_ltD {Q : Value → Shared → Prop} {l b : Addr} {items items2 : Array Value} {e r : Nat → Bool} (hl : s.heap.IsTuple l items) (hb : s.heap.IsTuple b items2)
    (he : ∀ j (h1 : j < items.size) (h2 : j < items2.size), EqAt A.in1 s items[j] items2[j] (e j)) (hr : ∀ j (h1 : j < items.size) (h2 : j < items2.size), e j = false → RcLt A.in1 s items[j] items2[j] (r j))
    (h : Q (.bool (firstLt e r (decide (items.size < items2.size)) (List.range (min items.size items2.size)))) s) : wpAny (model prog w) A (call (.builtin "tuple.__lt__") [.ref l, .ref b]) Q E s := by
  obtain ⟨⟨cls, dd, data, sl⟩, ho, hc, n, hd⟩ := id hl
  obtain ⟨⟨cls2, dd2, data2, sl2⟩, ho2, hc2, n2, hd2⟩ := id hb
  simp only at hc hd hc2 hd2
  subst hc hd hc2 hd2
  exact call_meets F.slot_tuple_lt ⟨_, ho, rfl⟩ F.entry_tuple_lt (F.args_tuple_lt_2 _ _) (tuple_ltAt l b items items2 n n2 dd dd2 sl sl2 e r) ⟨ho, ho2, he, hr, h⟩
theorem oneLt_tup {xs : List PyData} {db : PyData} {a b : Value} {as bs : List Addr} {Q : Bool → Shared → Prop} (ra : Reads s.heap a (.tuple xs) as) (rb : Reads s.heap b db bs) (h : alike (.tuple xs) db = true)
    (hu : A.units + min (PyData.tuple xs).depth db.depth < cLine) (hq : Q (dataLt (.tuple xs) db) s) : wpAny (model prog w) A (oneLt' true a b) Q E s := by
  cases db with
  | tuple ys =>
    have hal : alikeAll xs ys = true := by simpa [alike] using h
    cases ra with
    | @tuple l o vs n _ as₁ h1 h2 h3 h4 =>
      cases rb with
      | @tuple l' o' vs' n' _ bs₁ k1 k2 k3 k4 =>
        have n1 : vs.size = xs.length := by simpa using ReadsAll.length _ _ _ h4
        have n2 : vs'.size = ys.length := by simpa using ReadsAll.length _ _ _ k4
        rw [dataLt_tuple, ← firstLt_toks xs ys hal, ← n1, ← n2] at hq
        rw [oneLt'_eq]
        simp only [if_true]
        refine wpAny_bind (wpAny_cRoomFor (room_here hu) ?_)
        refine wpAny_bind (wpAny_callSpecialIfBound?_slot (T := "tuple") ⟨_, h1, h2⟩ F.slot_tuple_lt (call_tuple_ltD (e := pairEq xs ys) (r := fun j => dataLt (xs.getD j .none) (ys.getD j .none)) ⟨_, h1, h2, _, h3⟩ ⟨_, k1, k2, _, k3⟩ (fun j j1 j2 => ?_) (fun j j1 j2 hj => ?_) ?_))
        · have := eqAt_alikeAll xs ys A.in1 s vs.toList vs'.toList _ _ h4 k4 hal (room_in hu) j (by simpa using j1) (by simpa using j2)
          simpa using this
        · have := rcLt_alikeAll xs ys A.in1 s vs.toList vs'.toList _ _ h4 k4 hal (room_in hu) j (by simpa using j1) (by simpa using j2) hj
          simpa using this
        · exact wpAny_truthy_bool hq
  | _ => exact absurd h (by simp [alike])
theorem firsts_mixed : ∀ {vs : List Value} {ds : List PyData}, EachIs (fun v d => ∃ as, Reads s.heap v d as) vs ds → (∀ d ∈ ds, ∃ xs, d = .tuple xs) →
    ∃ fs : List (Option Value), fs.length = ds.length ∧ (∀ (i : Nat) (f : Option Value), fs[i]? = some f → (f.isSome = true ↔ ∃ x r, ds[i]? = some (.tuple (x :: r)))) ∧ ∀ {M : Model} {Q : List (Option Value) → Shared → Prop}, Q fs s → wpAny M A (vs.mapM firstOfTuple') Q E s := by
  intro vs
  induction vs with
  | nil =>
    intro ds e _
    cases ds with
    | nil => exact ⟨[], rfl, fun i f h => by simp at h, fun h => by rw [List.mapM_nil]; exact wpAny_pure h⟩
    | cons d ds => cases e
  | cons v vs ih =>
    intro ds e ht
    cases ds with
    | nil => cases e
    | cons d ds =>
      have e' : EachIs (fun v d => ∃ as, Reads s.heap v d as) vs ds := by cases e; assumption
      obtain ⟨as, r⟩ : ∃ as, Reads s.heap v d as := by cases e; assumption
      obtain ⟨fs, l, hf, run⟩ := ih e' fun d hd => ht d (List.mem_cons_of_mem _ hd)
      obtain ⟨xs, rfl⟩ := ht d List.mem_cons_self
      cases r with
      | @tuple a o its n _ as₁ h1 h2 h3 h4 =>
        have hl : its.size = xs.length := by simpa using ReadsAll.length _ _ _ h4
        refine ⟨its[0]? :: fs, by simp [l], fun i f h => ?_, fun {M Q} hq => ?_⟩
        · cases i with
          | zero =>
            simp at h
            subst h
            cases xs with
            | nil =>
              simp at hl
              simp [hl]
            | cons x r =>
              have : 0 < its.size := by rw [hl]; simp
              simp [this]
          | succ i =>
            have := hf i f (by simpa using h)
            simpa using this
        · rw [List.mapM_cons]
          refine wpAny_bind ?_
          rw [kas_first_eq]
          refine wpAny_bind (Looks.here (show Looks M s.heap (typeOf (.ref a)) o.cls from (Looks.ld h1).andThen .now) ?_)
          rw [h2, if_neg (by first | decide | simp)]
          refine wpAny_bind (listItems_at h1 h3 (wpAny_pure ?_))
          exact wpAny_bind (run (Q := fun bs s' => wpAny M A (pure (its[0]? :: bs)) Q E s') (wpAny_pure hq))
/-- alike tuples, of any lengths -/
theorem SortsAt.tups {vs : List Value} {ds : List PyData} (e : EachIs (fun v d => ∃ as, Reads s.heap v d as) vs ds) (hal : AllAlike ds) (ht : ∀ d ∈ ds, ∃ xs, d = .tuple xs) (hu : ∀ d, d ∈ ds → A.units + d.depth < cLine) : SortsAt prog w A s (dataKind s.heap ds) vs := by
  by_cases all : ∀ d, d ∈ ds → ∃ x r, d = .tuple (x :: r)
  · exact SortsAt.data e hal (.inl all) hu
  · have room : ∀ {d d' : PyData}, d ∈ ds → A.units + min d.depth d'.depth < cLine := fun {d d'} hd => Nat.lt_of_le_of_lt (Nat.add_le_add_left (Nat.min_le_left _ _) _) (hu d hd)
    refine ⟨fun v hv => ?_, ?_⟩
    · obtain ⟨d, hd, as, r⟩ := e.left v hv
      exact ⟨_, dataKind_some hal hd r⟩
    have lt : ∀ (f : Bool) (E : Value → Shared → Prop) (x y : Value) (a b : (dataKind s.heap ds).α) {Q : Bool → Shared → Prop}, (dataKind s.heap ds).keyOf x = some a → (dataKind s.heap ds).keyOf y = some b → Q ((dataKind s.heap ds).blt a b) s → wpAny (model prog w) A (oneLt' f x y) Q E s := by
      intro f E x y a b Q ha hb hq
      obtain ⟨d, as, hd, ra, rfl⟩ := dataKind_inv ha
      obtain ⟨d', as', hd', rb, rfl⟩ := dataKind_inv hb
      have hdd := hal d hd d' hd'
      have hroom := room (d' := d') hd
      obtain ⟨xs, rfl⟩ := ht d hd
      cases f with
      | true => exact oneLt_tup ra rb hdd hroom hq
      | false => exact oneLt_alike (fun z => by cases z) ra rb hdd (by simp) hroom hq
    have len : vs.length = ds.length := e.length
    obtain ⟨j, hj⟩ : ∃ j, ds[j]? = some (PyData.tuple []) := by
      apply Classical.byContradiction
      intro h
      apply all
      intro d hd
      obtain ⟨xs, rfl⟩ := ht d hd
      cases xs with
      | cons x r => exact ⟨x, r, rfl⟩
      | nil =>
        obtain ⟨j, hj⟩ := List.getElem?_of_mem hd
        exact absurd ⟨j, hj⟩ h
    cases ds with
    | nil => simp at hj
    | cons d0 ds0 =>
      obtain ⟨xs0, rfl⟩ := ht d0 List.mem_cons_self
      have start : ∀ (kd : SortKind), (∀ (M : Model) (E : Value → Shared → Prop) (Q : SortKind → Shared → Prop), Q kd s → ∀ fs : List (Option Value), fs.length = (PyData.tuple xs0 :: ds0).length → (∀ (i : Nat) (f : Option Value), fs[i]? = some f → (f.isSome = true ↔ ∃ x r, (PyData.tuple xs0 :: ds0)[i]? = some (.tuple (x :: r)))) →
          wpAny M A (do
            if fs.toArray.all (·.isSome) then
              rule "list.sort.keys-are-tuples"
              return tuples' ((← oneTypeOnly' (fs.toArray.filterMap id)).any (· != .type "tuple"))
            if (fs.toArray[0]?.bind id).isSome then return general'
            return if (← oneTypeOnly' vs.toArray).isSome then oneType' else general') Q E s) →
          (2 ≤ vs.length → ∀ (E : Value → Shared → Prop) {Q : SortKind → Shared → Prop}, Q kd s → wpAny (model prog w) A (keyKind' vs.toArray) Q E s) := by
        intro kd h _ E Q hq
        obtain ⟨fs, fl, ff, run⟩ := firsts_mixed (A := A) (E := E) e ht
        rw [kat_kind_eq, List.mapM_toArray, map_eq_pure_bind]
        refine wpAny_bind (wpAny_bind (run (wpAny_pure ?_)))
        exact h _ E Q hq fs fl ff
      have nall : ∀ fs : List (Option Value), fs.length = (PyData.tuple xs0 :: ds0).length → (∀ (i : Nat) (f : Option Value), fs[i]? = some f → (f.isSome = true ↔ ∃ x r, (PyData.tuple xs0 :: ds0)[i]? = some (.tuple (x :: r)))) → ¬ (fs.toArray.all (·.isSome)) = true := by
        intro fs fl ff h
        simp only [List.all_toArray, List.all_eq_true] at h
        have hjl : j < fs.length := by rw [fl]; exact (List.getElem?_eq_some_iff.mp hj).1
        have h1 := h fs[j] (List.getElem_mem hjl)
        obtain ⟨x, r, h2⟩ := (ff j fs[j] (List.getElem?_eq_getElem hjl)).mp h1
        rw [hj] at h2
        cases h2
      cases xs0 with
      | cons x r =>
        refine ⟨general', fun E x y a b Q ha hb hq => lt false E x y a b ha hb hq, start general' ?_⟩
        intro M E Q hq fs fl ff
        rw [if_neg (nall fs fl ff)]
        have h0 : (fs.toArray[0]?.bind id).isSome = true := by
          cases fs with
          | nil => simp at fl
          | cons f fs =>
            have := (ff 0 f rfl).mpr ⟨x, r, rfl⟩
            simpa using this
        rw [if_pos h0]
        exact wpAny_pure hq
      | nil =>
        refine ⟨oneType', fun E x y a b Q ha hb hq => by rw [keyLt'_oneType]; exact lt true E x y a b ha hb hq, start oneType' ?_⟩
        intro M E Q hq fs fl ff
        rw [if_neg (nall fs fl ff)]
        have h0 : ¬ (fs.toArray[0]?.bind id).isSome = true := by
          cases fs with
          | nil => simp at fl
          | cons f fs =>
            intro h
            have h2 := (ff 0 f rfl).mp (by simpa using h)
            obtain ⟨x, r, h3⟩ := h2
            simp at h3
        rw [if_neg h0]
        rw [oneTypeOnly'_eq, List.mapM_toArray, map_eq_pure_bind]
        refine wpAny_bind (wpAny_bind (wpAny_bind (kas_mapM (r := Value.type "tuple") _ (fun v hv Q' hq => ?_) (wpAny_pure ?_))))
        · obtain ⟨d, hd, as, r⟩ := e.left v hv
          obtain ⟨xs, rfl⟩ := ht d hd
          exact (looks_reads r).here hq
        · have hall : ((List.map (fun _ => Value.type "tuple") vs).toArray.all fun x => x == Value.type "tuple") = true := by
            simp only [List.all_toArray, List.all_map, List.all_eq_true]
            intro _ _
            exact beq_self_eq_true _
          have h0 : (List.map (fun _ => Value.type "tuple") vs).toArray[0]? = some (Value.type "tuple") := by
            cases vs with
            | nil => simp at len
            | cons v vs => simp
          rw [h0]
          simp only [hall, if_true]
          exact wpAny_pure (wpAny_pure hq)
/-! ### a tuple collected -/
theorem collect_tup {l : Addr} {vs : List Value} {Q : List Value → Shared → Prop} (hl : IsTup s.heap l vs.toArray)
    (h : Q vs { s with heap := (s.heap.push (seqObj "list" #[] 0)).update s.heap.objs.size (Obj.mapSeq (· ++ vs.toArray)) }) (hsz : vs.length ≤ sizeLine) :
    wpAny (model prog w) A (collect (.ref l)) Q E s := by
  obtain ⟨o, ho, hc, n, hd⟩ := id hl
  unfold collect
  refine wpAny_bind (wpAny_runValue (codeAny_builtin entry_proto_collect' ?_))
  show wpAny _ _ (do again (.builtin "list.__iadd__" ⟨[← newList [], .ref l], []⟩)) _ _ s
  refine wpAny_bind (wpAny_newList (wpAny_pure ⟨Code.quiet_builtin _ (by decide +kernel), codeAny_builtin entry_list_iadd' ?_⟩))
  show wpAny _ _ (Builtin.List.listExtendWith (.ref s.heap.objs.size) (.ref l) (.ref s.heap.objs.size)) _ _ { s with heap := s.heap.push (seqObj "list" #[] 0) }
  unfold Builtin.List.listExtendWith
  have ho' : (s.heap.push (seqObj "list" #[] 0)).get? l = some o := Heap.get?_push_of_some _ ho
  refine wpAny_bind (wpAny_typeOf (T := "tuple") ⟨o, ho', hc⟩ ?_)
  have ht : (Value.type "tuple" == Value.type "tuple") = true := by rfl
  rw [if_pos (by rw [ht]; simp)]
  refine wpAny_bind (listItems_at ho' hd ?_)
  refine wpAny_bind (listItems_at (xs := #[]) (n := 0) (Heap.get?_push_size _ rfl) rfl ?_)
  rw [if_neg (by simp)]
  refine wpAny_bind (listUpdate_at (xs := #[]) (n := 0) (Heap.get?_push_size _ rfl) rfl ?_ (Nat.zero_le _) (by show (#[] ++ vs.toArray).size ≤ sizeLine + 1; simp only [Array.size_append, List.size_toArray, List.length_nil]; omega))
  refine wpAny_pure ?_
  show wpAny (model prog w) A (do
      let o ← load s.heap.objs.size
      match o.data with
      | .seq xs _ => pure xs.toList
      | _ => unsupported "internal:collect") Q E { s with heap := (s.heap.push (seqObj "list" #[] 0)).update s.heap.objs.size (Obj.mapSeq (· ++ vs.toArray)) }
  refine wpAny_bind (wpAny_load (get?_update_seq (Heap.get?_push_size _ rfl) _) ?_)
  show wpAny _ _ (pure ((#[] : Array Value) ++ vs.toArray).toList) Q E _
  rw [show ((#[] : Array Value) ++ vs.toArray).toList = vs by simp]
  exact wpAny_pure h
theorem sorted_of_tup {l : Addr} {vs : List Value} {kw : List (Str × Value)} {Q : Value → Shared → Prop} (hl : IsTup s.heap l vs.toArray) (hL : vs.length ≤ sizeLine) (ha1 : argsOk "sorted" ⟨[.ref l], kw⟩) (ha2 : ∀ x, argsOk "list.sort" ⟨[.ref x], kw⟩)
    (body : ∀ E' : Value → Shared → Prop, wpAny (model prog w) A.in1.in1 (Builtin.«list.sort» ⟨[.ref (s.heap.objs.size + 1)], kw⟩) (fun f s' => f = .done (.ret .none) ∧ Q (.ref (s.heap.objs.size + 1)) s') E' { s with heap := copyHeap s.heap vs }) :
    wpAny (model prog w) A (call (.builtin "sorted") [.ref l] kw) Q E s := by
  refine call_function_entry_kw kind_sorted plain_sorted entry_sorted ha1 ?_
  unfold Builtin.«sorted»
  refine wpAny_bind (m := checkCount "sorted" 1 1 _) (wpAny_pure ?_)
  refine wpAny_bind (collect_tup hl ?_ hL)
  refine wpAny_bind (wpAny_newList ?_ hL)
  have hsz : ((s.heap.push (seqObj "list" #[] 0)).update s.heap.objs.size (Obj.mapSeq (· ++ vs.toArray))).objs.size = s.heap.objs.size + 1 := by
    rw [Heap.size_update, size_push']
  show wpAny _ _ _ _ _ { s with heap := copyHeap s.heap vs }
  rw [hsz]
  refine wpAny_bind (wpAny_holding (wpAny_call_entry_kw slot_list_sort ⟨_, copyHeap_at s.heap vs, rfl⟩ entry_list_sort ?body (ha2 _)))
  case body =>
    show wpAny (model prog w) A.in1.in1 (Builtin.«list.sort» ⟨[.ref (s.heap.objs.size + 1)], kw⟩) _ _ _
    refine wpAny_mono (body _) (fun f s' hf => ?_) fun _ _ e => e
    obtain ⟨rfl, hq⟩ := hf
    exact ⟨_, rfl, wpAny_pure ⟨_, rfl, hq⟩⟩
/-- what sorted(..) asks and gives: items that read as data of one kind -/
theorem sort_body {β : Type} {R : Value → β → Prop} {enc : β → PyData} {vs : List Value} {bs : List β} {Q : Value → Shared → Prop} (e : EachIs R vs bs) (er : EachIs (fun v b => ∃ as, Reads s.heap v (enc b) as) vs bs) (hal : AllAlike (bs.map enc)) (hk : Sortable (bs.map enc) ∨ ∀ d ∈ bs.map enc, ∃ xs, d = .tuple xs) (hL : bs.length ≤ sizeLine)
    (hu : ∀ b, b ∈ bs → A.units + 2 + (enc b).depth < cLine) (h : ∀ out, out.length = bs.length → EachIs R out (bs.mergeSort (dataLe false enc)) → Q (.ref (s.heap.objs.size + 1)) { s with heap := sortedAll s.heap vs (List.toArray out) }) (E' : Value → Shared → Prop) :
    wpAny (model prog w) A.in1.in1 (Builtin.«list.sort» ⟨[.ref (s.heap.objs.size + 1)], []⟩) (fun f s' => f = .done (.ret .none) ∧ Q (.ref (s.heap.objs.size + 1)) s') E' { s with heap := copyHeap s.heap vs } := by
  have er' : EachIs (fun v b => ∃ as, Reads (sortingHeap (copyHeap s.heap vs) (s.heap.objs.size + 1) vs) v (enc b) as) vs bs := er.mono fun _ _ ⟨as, r⟩ => ⟨as, PyProof.Rows.Reads.keeps (fun _ _ => sorting_copy_old) r⟩
  have em := each_map (R := fun v d => ∃ as, Reads (sortingHeap (copyHeap s.heap vs) (s.heap.objs.size + 1) vs) v d as) enc er'
  have S : SortsAt prog w A.in1.in1 { s with heap := sortingHeap (copyHeap s.heap vs) (s.heap.objs.size + 1) vs } (dataKind (sortingHeap (copyHeap s.heap vs) (s.heap.objs.size + 1) vs) (bs.map enc)) vs := by
    rcases hk with hk | hk
    · exact SortsAt.data (s := { s with heap := sortingHeap (copyHeap s.heap vs) (s.heap.objs.size + 1) vs }) em hal hk (bound_map (A := A.in1.in1) hu)
    · exact SortsAt.tups (s := { s with heap := sortingHeap (copyHeap s.heap vs) (s.heap.objs.size + 1) vs }) em hal hk (bound_map (A := A.in1.in1) hu)
  have hL' : vs.length ≤ sizeLine := by rw [e.length]; exact hL
  exact list_sort_vals (s := { s with heap := copyHeap s.heap vs }) (copyHeap_at s.heap vs) S hL' ⟨rfl, h _ (by rw [sortVals_length false rfl]; exact e.length) (sortVals_data false e er' hal)⟩
end
end PySem.W
set_option Elab.async false
set_option linter.all false
set_option maxRecDepth 100000
set_option maxHeartbeats 2000000
set_option autoImplicit false
/-! HD17: new lists out of calls and operators; ranges, turned tuples. -/
namespace HD
open PySem PySem.Spec PyProof.Rows L2
variable [Tb]

/-- a new list: its data by those of the arguments -/
def rNL (K : PySem.W.Frag) (g : List D → Option (List D)) : List V → Hp → VK → Prop := fun vs H Q => ∃ W ds ys, Same W H ∧ Reps K W vs ds ∧ g ds = some ys ∧ ∀ p zs, H p = none → Reps K W zs ys → Q (.ref p) (upd H p (.lst zs))
def nwF (r : List Nat) (fs : M (List D)) (gn : List D → Option (List D)) : M (D × Nat) := fun env => (fs env).bind fun p => (gn p.1).bind fun ys => if (r.isEmpty || D.ims ys) = true then some ((.lst ys, 1), p.2) else none
section
variable {X : Cx} {m r : List Nat}
theorem tDF_nl {fs : M (List D)} {gn : List D → Option (List D)} {σ : L2.St} {H : Hp} {Q : VK} (h : tDF X.K m (nwF r fs gn) σ H Q) : tDA X.K m r fs σ H fun vs H1 => rNL X.K gn vs H1 Q := by
  obtain ⟨G, env, F, ⟨d, n'⟩, env', s, hf, q⟩ := h
  obtain ⟨⟨ds, e1⟩, h1, h2⟩ := bind_some' hf
  obtain ⟨ys, h3, h4⟩ := bind_some' h2
  split at h4
  · rename_i c
    simp only [Option.some.injEq, Prod.mk.injEq] at h4
    obtain ⟨⟨rfl, rfl⟩, rfl⟩ := h4
    refine ⟨G, env, F, ds, e1, s, h1, fun vs H1 G1 F1 s1 ev1 rp => ⟨vw r H1 G1 F1, ds, ys, s1.vwH r, rp, h3, fun p zs hp rz => ?_⟩⟩
    have rg : Reps X.K G1 zs ys := by
      rw [Bool.or_eq_true] at c
      rcases c with c | c
      · rw [List.isEmpty_iff] at c
        subst c
        rw [vw_nil] at rz
        exact rz
      · exact rz.imTo (s1.tups r) c
    have hG : G1 p = none := s1.same.free hp
    have hF : ∀ j, p ∉ F1 j := fun j hj => by
      obtain ⟨u, hu, _⟩ := s1.mut hj
      rw [hp] at hu
      cases hu
    have keep : ∀ i, ∀ a ∈ F1 i, upd H1 p (.lst zs) a = H1 a := fun i a ha => upd_ne fun z => hF i (by rw [← z]; exact ha)
    refine q _ _ G1 F1 [p] (s1.updOut hG hF (mutN hp)) ⟨ev1.g, fun a u e1 e2 => ?_, ev1.f, ev1.n, fun i hi => ?_, ev1.l⟩ (own_lst rg) fun a ha => ?_
    · exact (ev1.k a u e1 e2).upd hp
    · obtain ⟨a1, a2, a3⟩ := ev1.u i hi
      exact ⟨a1, a2, fun a ha => by rw [keep i a (by rw [a2]; exact ha)]; exact a3 a ha⟩
    · have e : a = p := by simpa using ha
      subst e
      exact ⟨⟨hG, hF⟩, (ev1.none_of hp).elim .inr .inl⟩
  · cases h4
end
section
variable {X : Cx} {a b e : Expr} {es : List Expr} {pos : Pos} {m1 m2 r1 r2 m r : List Nat} {f1 f2 f : M D}
theorem df_callB {fs : M (List D)} {gn : List D → Option (List D)} {x : Str} {p : Pos} {id : String} (hc : CallR X (.builtin id) (rNL X.K gn)) (hg : Gl X x) (hm : X.mg x = none) (hv : bootBuiltins x = some (.builtin id)) (ha : DA X m r fs (e :: es)) (hn : x ≠ "__name__" := by decide)
    (hdb : (x == ("__debug__" : Str)) = false := by decide) (he : starEach (e :: es) X.env = (false, eval e X.env) :: starEach es X.env := by rfl) (hpl : (backTo pos (starEach es X.env)).any (·.1) = false := by rfl) : DF X m (nwF r fs gn) (.Call (.Name x p) (e :: es) [] pos) :=
  pe_weak (pe_callB hc hg hm hv ha hn hdb he hpl) fun σ H Q q => tDF_nl q
theorem df_callTy {fs : M (List D)} {gn : List D → Option (List D)} {x : Str} {p : Pos} {T : String} (hc : CallR X (.type T) (rNL X.K gn)) (hg : Gl X x) (hm : X.mg x = none) (hv : bootBuiltins x = some (.type T)) (ha : DA X m r fs (e :: es)) (hn : x ≠ "__name__" := by decide)
    (hdb : (x == ("__debug__" : Str)) = false := by decide) (he : starEach (e :: es) X.env = (false, eval e X.env) :: starEach es X.env := by rfl) (hpl : (backTo pos (starEach es X.env)).any (·.1) = false := by rfl) : DF X m (nwF r fs gn) (.Call (.Name x p) (e :: es) [] pos) :=
  pe_weak (pe_callTy hc hg hm hv ha hn hdb he hpl) fun σ H Q q => tDF_nl q

/-! ### list(x), sorted(x) -/
def seq1 (g : List D → Option (List D)) : List D → Option (List D)
  | [d] => (seqOf d).bind g
  | _ => none
theorem seq1_some {g : List D → Option (List D)} {ds ys : List D} (h : seq1 g ds = some ys) : ∃ d xs, ds = [d] ∧ seqOf d = some xs ∧ g xs = some ys := by
  cases ds with
  | nil => simp [seq1] at h
  | cons d ds =>
    cases ds with
    | nil =>
      obtain ⟨xs, h1, h2⟩ := bind_some' h
      exact ⟨d, xs, rfl, h1, h2⟩
    | cons _ _ => simp [seq1] at h
theorem rep_seq {K : PySem.W.Frag} {W H : Hp} (sm : Same W H) {v : V} {d : D} {xs : List D} (r : Rep K W v d) (h : seqOf d = some xs) : ∃ a us, v = .ref a ∧ Reps K W us xs ∧ (SqL K H a us ∨ SqT K H a us) := by
  cases d with
  | lst ds =>
    simp only [seqOf, Option.some.injEq] at h
    subst h
    cases r with
    | lst ha hr => exact ⟨_, _, rfl, hr, .inl (SqL.of (sm _ _ ha))⟩
  | tup ds =>
    simp only [seqOf, Option.some.injEq] at h
    subst h
    cases r with
    | tup ha hr => exact ⟨_, _, rfl, hr, .inr (SqT.of (sm _ _ ha))⟩
  | _ => simp [seqOf] at h
theorem c_list : CallR X (.type "list") (rNL X.K (seq1 some)) := by
  intro pins s σ H vs us Q I rv h
  obtain ⟨W, ds, ys, sm, rp, hg, q⟩ := h
  obtain ⟨d, xs, rfl, h1, h2⟩ := seq1_some hg
  cases h2
  obtain ⟨v, rfl, rp1⟩ := reps1 rp
  obtain ⟨a, us', rfl, hr, hs⟩ := rep_seq sm rp1 h1
  exact call_list_of pins s σ H _ _ Q I rv ⟨a, us', rfl, hs, fun l hl => q l us' hl hr⟩
def D.le (a b : D) : Bool := PySem.W.dataLe false D.py a b
def D.isTup : D → Bool
  | .tup _ => true
  | _ => false
def D.isNon : D → Bool
  | .non => true
  | _ => false
def sortOk (ds : List D) : Bool := D.okEs 60 ds && (ds.all fun x => ds.all fun y => PySem.W.alike x.py y.py) && (ds.all D.isTup || ds.all fun d => !(d.isTup || d.isNon)) && decide (ds.length ≤ 16777216)
def sortD (ds : List D) : Option (List D) := if sortOk ds = true then some (ds.mergeSort D.le) else none
theorem okEs_mem : ∀ {ds : List D} {n : Nat}, D.okEs n ds = true → ∀ d ∈ ds, D.okE n d = true
  | [], n, _, d, h => by cases h
  | e :: ds, n, h, d, hd => by
    rw [D.okEs, Bool.and_eq_true] at h
    rcases List.mem_cons.mp hd with z | z
    · rw [z]; exact h.1
    · exact okEs_mem h.2 d z
theorem reps_zip {K : PySem.W.Frag} {W : Hp} : ∀ {vs : List V} {ds : List D}, Reps K W vs ds → ∀ p ∈ vs.zip ds, Rep K W p.1 p.2
  | _, _, .nil, p, h => by simp at h
  | _, _, .cons a b, p, h => by
    rw [List.zip_cons_cons] at h
    rcases List.mem_cons.mp h with z | z
    · rw [z]; exact a
    · exact reps_zip b p z
theorem reps_of_zip {K : PySem.W.Frag} {W : Hp} : ∀ {l : List (V × D)}, (∀ p ∈ l, Rep K W p.1 p.2) → Reps K W (l.map Prod.fst) (l.map Prod.snd)
  | [], _ => .nil
  | p :: l, h => .cons (h p List.mem_cons_self) (reps_of_zip fun q hq => h q (List.mem_cons_of_mem _ hq))
theorem each_vals : ∀ {us : List Value} {xs : List V} {ds : List D}, Vals xs us → xs.length = ds.length → PySem.W.EachIs (fun (v : Value) (p : V × D) => RelV p.1 v) us (xs.zip ds)
  | _, _, ds, .nil, h => by
    rw [List.zip_nil_left]
    exact .nil
  | _, _, [], .cons a b, h => by simp at h
  | _, _, d :: ds, .cons a b, h => by
    rw [List.zip_cons_cons]
    exact .cons a (each_vals b (by simpa using h))
theorem vals_each : ∀ {l : List (V × D)} {us : List Value}, PySem.W.EachIs (fun (v : Value) (p : V × D) => RelV p.1 v) us l → Vals (l.map Prod.fst) us
  | [], _, .nil => .nil
  | p :: l, _, .cons a b => .cons a (vals_each b)
theorem c_sorted (hu : X.A.units + 70 < cLine) : CallR X (.builtin "sorted") (rNL X.K (seq1 sortD)) := by
  intro pins s σ H vs us Q I rv h
  obtain ⟨W, ds, ys, sm, rp, hg, q⟩ := h
  obtain ⟨d, xs, rfl, h1, h2⟩ := seq1_some hg
  obtain ⟨v, rfl, rp1⟩ := reps1 rp
  obtain ⟨a, ws, rfl, hr, hs⟩ := rep_seq sm rp1 h1
  rw [Vals.ref1 rv]
  unfold sortD at h2
  split at h2
  · rename_i c
    cases h2
    unfold sortOk at c
    rw [Bool.and_eq_true, Bool.and_eq_true, Bool.and_eq_true, decide_eq_true_eq] at c
    obtain ⟨⟨⟨c1, c2⟩, c3⟩, c4⟩ := c
    have hl := hr.length
    have alk : PySem.W.AllAlike ((ws.zip xs).map fun p => p.2.py) := by
      intro x hx y hy
      obtain ⟨p, hp, rfl⟩ := List.mem_map.mp hx
      obtain ⟨p', hp', rfl⟩ := List.mem_map.mp hy
      have a1 := (List.of_mem_zip hp).2
      have a2 := (List.of_mem_zip hp').2
      exact List.all_eq_true.mp (List.all_eq_true.mp c2 _ a1) _ a2
    have hk : PySem.W.Sortable ((ws.zip xs).map fun p => p.2.py) ∨ ∀ d ∈ (ws.zip xs).map fun p => p.2.py, ∃ xs, d = PyData.tuple xs := by
      rw [Bool.or_eq_true] at c3
      rcases c3 with c3 | c3
      · refine .inr fun d hd => ?_
        obtain ⟨p, hp, rfl⟩ := List.mem_map.mp hd
        have a1 := List.all_eq_true.mp c3 _ (List.of_mem_zip hp).2
        revert a1
        cases p.2 <;> simp [D.isTup, D.py]
      · refine .inl (.inr fun d hd => ?_)
        obtain ⟨p, hp, rfl⟩ := List.mem_map.mp hd
        have a1 := List.all_eq_true.mp c3 _ (List.of_mem_zip hp).2
        revert a1
        cases p.2 <;> simp [D.isTup, D.isNon, D.py]
    have room : ∀ b, b ∈ ws.zip xs → X.A.units + 2 + (b.2.py).depth < cLine := fun b hb => by
      have := (okE_lay b.2 60 (okEs_mem c1 _ (List.of_mem_zip hb).2)).2
      omega
    have rdp : ∀ p ∈ ws.zip xs, Dp X.K H p.1 p.2.py := fun p hp => Dp.monoW sm ((reps_zip hr p hp).dp (okEs_mem c1 _ (List.of_mem_zip hp).2))
    have zlen : (ws.zip xs).length ≤ sizeLine := by
      rw [List.length_zip, sizeLine_eq]
      omega
    have finish : ∀ {its : List Value} (out : List Value), out.length = (ws.zip xs).length → PySem.W.EachIs (fun (v : Value) (p : V × D) => RelV p.1 v) out ((ws.zip xs).mergeSort (PySem.W.dataLe false fun p => p.2.py)) →
        EP X pins σ Q (.ref (s.heap.objs.size + 1)) { s with heap := PyProof.Rows.sortedAll s.heap its (List.toArray out) } := fun {its} out ol eo => by
      obtain ⟨ep, he'⟩ := PyProof.Rows.sortedAll_at s.heap its out.toArray
      have vo := vals_each eo
      have mem : ∀ p ∈ (ws.zip xs).mergeSort (PySem.W.dataLe false fun p => p.2.py), Rep X.K W p.1 p.2 := fun p hp => reps_zip hr p ((List.mergeSort_perm _ _).mem_iff.mp hp)
      have ro := reps_of_zip mem
      have es : ((ws.zip xs).mergeSort (PySem.W.dataLe false fun p => p.2.py)).map Prod.snd = xs.mergeSort D.le := by
        have h := PySem.W.sort_maps (r := PySem.W.dataLe false fun p : V × D => p.2.py) (s := D.le) Prod.snd (l := ws.zip xs) fun a _ b _ => rfl
        refine h.trans ?_
        rw [List.map_snd_zip]
        omega
      rw [es] at ro
      exact ⟨.ref _, upd H (s.heap.objs.size + 1) (.lst (((ws.zip xs).mergeSort (PySem.W.dataLe false fun p => p.2.py)).map Prod.fst)), I.laid (t' := s.toks) (fun _ _ => PyProof.Rows.sortedAll_old) (Nat.le_succ _) ⟨by rw [vo.length, ol]; exact zlen, out, ep, vo, he'⟩, rfl, q _ _ (I.hok.fresh (Nat.le_succ _)) ro⟩
    rcases hs with hs | hs
    · obtain ⟨its, rvi, hli, hz⟩ := I.list hs
      have e := each_vals rvi hl
      have er : PySem.W.EachIs (fun v (b : V × D) => ∃ as, Reads s.heap v b.2.py as) its (ws.zip xs) := (PySem.W.each_mem e).mono fun v b ⟨h1, h2⟩ => Dp.reads I _ _ _ (rdp b h2) h1
      exact PySem.W.sorted_of_sort hli.isList (by rw [e.length]; exact zlen) (args_sorted1 _) (fun _ => args_list_sort _) (PySem.W.sort_body e er alk hk zlen room (finish (its := its)))
    · obtain ⟨its, rvi, hli, hz⟩ := I.tuple hs
      have e := each_vals rvi hl
      have er : PySem.W.EachIs (fun v (b : V × D) => ∃ as, Reads s.heap v b.2.py as) its (ws.zip xs) := (PySem.W.each_mem e).mono fun v b ⟨h1, h2⟩ => Dp.reads I _ _ _ (rdp b h2) h1
      exact PySem.W.sorted_of_tup hli (by rw [e.length]; exact zlen) (args_sorted1 _) (fun _ => args_list_sort _) (PySem.W.sort_body e er alk hk zlen room (finish (its := its)))
  · cases h2

/-! ### operators that make a list -/
def rNL2 (K : PySem.W.Frag) (g : D → D → Option (List D)) : R2 := fun x y H Q => rNL K (fun ds => match ds with
  | [d, e] => g d e
  | _ => none) [x, y] H Q
/-- two operands; the result's own list, of frozen things -/
def nwB (st : Bool) (r : List Nat) (f1 f2 : M D) (g : D → D → Option (List D)) : M (D × Nat) := nwF r (argsC st f1 (fun env => (f2 env).map fun q => ([q.1], q.2))) fun ds => match ds with
  | [d, e] => g d e
  | _ => none
theorem tDA_two {fs : M D} {g : M (D)} {st : Bool} {σ : L2.St} {H : Hp} {R : List V → Hp → Prop} (hst : st = dj r1 m2) (h : tDA X.K (m1 ++ m2) (r1 ++ r2) (argsC st f1 (fun env => (f2 env).map fun q => ([q.1], q.2))) σ H R) : tD X.K m1 r1 f1 σ H fun x H1 => tD X.K m2 r2 f2 σ H1 fun y H2 => R [x, y] H2 := by
  obtain ⟨G, env, F, ds, env', s, hf, q⟩ := h
  obtain ⟨x, e1, xs, h1, h2, c, rfl⟩ := argsC_some hf
  obtain ⟨⟨y, e2⟩, h3, h4⟩ := map_some' h2
  simp only [Prod.mk.injEq] at h4
  obtain ⟨rfl, rfl⟩ := h4
  subst hst
  refine ⟨G, env, F, x, e1, s, h1, fun v H1 G1 F1 s1 ev1 rp1 => ⟨G1, e1, F1, y, e2, s1, h3, fun w H2 G2 F2 s2 ev2 rp2 => ?_⟩⟩
  exact q _ H2 G2 F2 s2 (ev1.trans ev2) (.cons (keepRep s1 s2 ev2 rp1 c fun i hi => List.mem_append_left _ hi) (.cons (rp2.mono (s2.vwSub fun i hi => List.mem_append_right _ hi)) .nil))
theorem df_op {op : Operator} {g : D → D → Option (List D)} (ho : OpR X (binaryOp op) (rNL2 X.K g)) (ha : DE X m1 r1 f1 a) (hb : DE X m2 r2 f2 b) : DF X (m1 ++ m2) (nwB (dj r1 m2) (r1 ++ r2) f1 f2 g) (.BinOp a op b pos) :=
  pe_weak (pe_op ho ha hb) fun σ H Q h => tDA_two (r2 := r2) (fs := f1) (g := f2) rfl (tDF_nl h)
def catL : D → D → Option (List D)
  | .lst a, .lst b => if a.length + b.length ≤ 16777216 then some (a ++ b) else none
  | _, _ => none
def repL : D → D → Option (List D)
  | .lst a, .int k => if (smB k && decide (a.length * k.toNat ≤ 16777216)) = true then some (List.replicate k.toNat a).flatten else none
  | _, _ => none
theorem op_cat_l : OpR X (binaryOp .Add) (rNL2 X.K catL) := by
  intro pins s σ H x y v u Q I rx ry h
  obtain ⟨W, ds, ys, sm, rp, hg, q⟩ := h
  cases rp with
  | cons r1 rp =>
    cases rp with
    | cons r2 rp =>
      cases rp
      rename_i d e
      cases d with
      | lst xs =>
        cases e with
        | lst zs =>
          simp only [catL] at hg
          split at hg
          · rename_i hz
            cases hg
            cases r1 with
            | lst ha hx =>
              cases r2 with
              | lst hb hy => exact op_cat pins s σ H _ _ v u Q I rx ry ⟨_, _, _, _, rfl, rfl, sm _ _ ha, sm _ _ hb, by rw [hx.length, hy.length, sizeLine_eq]; exact hz, fun p hp => q p _ hp (hx.app hy)⟩
          · cases hg
        | _ => simp [catL] at hg
      | _ => simp [catL] at hg
theorem op_rep_l : OpR X (binaryOp .Mult) (rNL2 X.K repL) := by
  intro pins s σ H x y v u Q I rx ry h
  obtain ⟨W, ds, ys, sm, rp, hg, q⟩ := h
  cases rp with
  | cons r1 rp =>
    cases rp with
    | cons r2 rp =>
      cases rp
      rename_i d e
      cases d with
      | lst xs =>
        cases e with
        | int k =>
          simp only [repL] at hg
          split at hg
          · rename_i hz
            cases hg
            cases r2
            cases r1 with
            | lst ha hx => exact op_rep pins s σ H _ _ v u Q I rx ry ⟨_, _, _, rfl, rfl, sm _ _ ha, (by rw [Bool.and_eq_true, smB_iff] at hz; omega), (by rw [Bool.and_eq_true, smB_iff] at hz; omega), by rw [hx.length, sizeLine_eq]; rw [Bool.and_eq_true, decide_eq_true_eq] at hz; exact hz.2, fun p hp => q p _ hp (hx.rep k.toNat)⟩
          · cases hg
        | _ => simp [repL] at hg
      | _ => simp [repL] at hg
/-! ### xs[::-1] of a list -/
def asL : D → Option (List D)
  | .lst ds => some ds
  | _ => none
theorem df_rev {k : Nat} {p1 p2 p3 : Pos} (he : DE X m r f e) : DF X m (nwF r (fun env => (f env).map fun q => ([q.1], q.2)) (fun ds => match ds with
    | [d] => (asL d).map List.reverse
    | _ => none)) (.Subscript e (.Slice none none (some (.UnaryOp .USub (.Constant (.int 1) k p1) p2)) p3) pos) := pe_weak (pe_revL he) fun σ H Q h => by
  obtain ⟨G, env, F, ds, env', s, hf, q⟩ := tDF_nl h
  obtain ⟨⟨x, e1⟩, h1, h2⟩ := map_some' hf
  simp only [Prod.mk.injEq] at h2
  obtain ⟨rfl, rfl⟩ := h2
  refine ⟨G, env, F, x, e1, s, h1, fun v H1 G1 F1 s1 ev1 rp1 => ?_⟩
  obtain ⟨W, ds, ys, sm, rp, hg, q⟩ := q [v] H1 G1 F1 s1 ev1 (.cons rp1 .nil)
  cases rp with
  | cons r1 rp =>
    cases rp
    rename_i d
    cases d with
    | lst xs =>
      simp [asL] at hg
      subst hg
      cases r1 with
      | lst ha hx => exact ⟨_, _, rfl, SqL.of (sm _ _ ha), fun p hp => q p _ hp hx.rev⟩
    | _ => simp [asL] at hg
/-! ### list(range(..)), tuple(range(..)) -/
def rgok (a b : Int) : Bool := smB a && smB b && decide ((b - a).toNat ≤ 2 ^ 24)
theorem rgok_iff {a b : Int} (h : rgok a b = true) : RgOk a b := by
  unfold rgok at h
  simp only [Bool.and_eq_true, decide_eq_true_eq, smB_iff] at h
  obtain ⟨⟨h1, h2⟩, h5⟩ := h
  exact ⟨by omega, by omega, by omega, by omega, h5⟩
def rgD : List D → Option (List D)
  | [.int n] => if rgok 0 n = true then some (rngD 0 n.toNat) else none
  | [.int a, .int b] => if rgok a b = true then some (rngD a (b - a).toNat) else none
  | _ => none
theorem rg_reps {K : PySem.W.Frag} {W : Hp} (a b : Int) : Reps K W (rgV a b) (rngD a (b - a).toNat) := by
  refine Reps.all (by rw [rgV_length, rngD_len]) fun i v d h1 h2 => ?_
  obtain ⟨h3, rfl⟩ := rngD_get h2
  have : v = .int (a + (i : Int)) := by
    unfold rgV at h1
    rw [List.getElem?_map, List.getElem?_range h3] at h1
    simpa using h1.symm
  rw [this]
  exact .int _

theorem new_obj {K : PySem.W.Frag} {σ : L2.St} {H G H1 G1 : Hp} {env env1 : Env} {F F1 : Nat → List Addr} {m : List Nat} {p : Addr} {o : HO} {d : D} {n : Nat} (s1 : S K σ H1 G1 env1 F1) (ev1 : Evo m env H G F env1 H1 G1 F1) (hp : H1 p = none) (ow : Own K G1 (upd H1 p o) n (.ref p) d [p]) :
    S K σ (upd H1 p o) G1 env1 F1 ∧ Evo m env H G F env1 (upd H1 p o) G1 F1 ∧ ∀ a ∈ [p], (G1 a = none ∧ ∀ j, a ∉ F1 j) ∧ ((∃ j, a ∈ F j) ∨ H a = none) := by
  have hG : G1 p = none := s1.same.free hp
  have hF : ∀ j, p ∉ F1 j := fun j hj => by
    obtain ⟨u, hu, _⟩ := s1.mut hj
    rw [hp] at hu
    cases hu
  refine ⟨s1.updOut hG hF (mutN hp), ⟨ev1.g, fun a u e1 e2 => ?_, ev1.f, ev1.n, fun i hi => ?_, ev1.l⟩, fun a ha => ?_⟩
  · exact (ev1.k a u e1 e2).upd hp
  · obtain ⟨a1, a2, a3⟩ := ev1.u i hi
    exact ⟨a1, a2, fun a ha => by rw [upd_ne fun z => hF i (by rw [← z, a2]; exact ha)]; exact a3 a ha⟩
  · have e : a = p := by simpa using ha
    subst e
    exact ⟨⟨hG, hF⟩, (ev1.none_of hp).elim .inr .inl⟩
/-- an int for what makes a range, the range's data -/
def rg1 (f : M D) : M (List D) := fun env => (f env).bind fun q => match q.1 with
  | .int n => if rgok 0 n = true then some (rngD 0 n.toNat, q.2) else none
  | _ => none
def rg2 (f g : M D) : M (List D) := fun env => (f env).bind fun q => (g q.2).bind fun z => match q.1, z.1 with
  | .int a, .int b => if rgok a b = true then some (rngD a (b - a).toNat, z.2) else none
  | _, _ => none
def tRgD (K : PySem.W.Frag) (m : List Nat) (f : M (List D)) : L2.St → Hp → (Int → Int → Hp → Prop) → Prop := fun σ H Q => ∃ G env F ds env', S K σ H G env F ∧ f env = some (ds, env') ∧ ∀ a b H' G' F', S K σ H' G' env' F' → Evo m env H G F env' H' G' F' → rgok a b = true → ds = rngD a (b - a).toNat → Q a b H'
theorem prg_weak {t t' : L2.St → Hp → (Int → Int → Hp → Prop) → Prop} (h : PRg X e t) (w : ∀ σ H Q, t' σ H Q → t σ H Q) : PRg X e t' := fun pins s σ H Q I q => h pins s σ H Q I (w σ H Q q)
theorem drg_1 {p : Pos} (hg : Gl X "range") (hm : X.mg "range" = none) (ha : DE X m r f a) (na : starEach [a] X.env = (false, eval a X.env) :: starEach [] X.env := by rfl) : PRg X (.Call (.Name "range" p) [a] [] pos) (tRgD X.K m (rg1 f)) := prg_weak (prg_1 hg hm ha na) fun σ H Q ⟨G, env, F, ds, env', s, hf, q⟩ => by
  obtain ⟨⟨x, e1⟩, h1, h2⟩ := bind_some' hf
  cases x with
  | int n =>
    simp only [] at h2
    split at h2
    · rename_i c
      simp only [Option.some.injEq, Prod.mk.injEq] at h2
      obtain ⟨rfl, rfl⟩ := h2
      exact ⟨G, env, F, .int n, e1, s, h1, fun v H1 G1 F1 s1 ev1 rp1 => by
        cases rp1
        exact ⟨n, rfl, q 0 n H1 G1 F1 s1 ev1 c (by rw [Int.sub_zero])⟩⟩
    · cases h2
  | _ => simp at h2
theorem drg_2 {p : Pos} (hg : Gl X "range") (hm : X.mg "range" = none) (ha : DE X m1 r1 f1 a) (hb : DE X m2 r2 f2 b) (na : starEach [a, b] X.env = (false, eval a X.env) :: starEach [b] X.env := by rfl)
    (nb : starEach [b] X.env = (false, eval b X.env) :: starEach [] X.env := by rfl) (hp : (backTo pos (starEach [b] X.env)).any (·.1) = false := by rfl) : PRg X (.Call (.Name "range" p) [a, b] [] pos) (tRgD X.K (m1 ++ m2) (rg2 f1 f2)) := prg_weak (prg_2 hg hm ha hb na nb hp) fun σ H Q ⟨G, env, F, ds, env', s, hf, q⟩ => by
  obtain ⟨⟨x, e1⟩, h1, h2⟩ := bind_some' hf
  obtain ⟨⟨y, e2⟩, h3, h4⟩ := bind_some' h2
  cases x with
  | int n =>
    cases y with
    | int k =>
      simp only [] at h4
      split at h4
      · rename_i c
        simp only [Option.some.injEq, Prod.mk.injEq] at h4
        obtain ⟨rfl, rfl⟩ := h4
        exact ⟨G, env, F, .int n, e1, s, h1, fun v H1 G1 F1 s1 ev1 rp1 => ⟨G1, e1, F1, .int k, e2, s1, h3, fun w H2 G2 F2 s2 ev2 rp2 => by
          cases rp1
          cases rp2
          exact ⟨n, k, rfl, rfl, q n k H2 G2 F2 s2 (ev1.trans ev2) c rfl⟩⟩⟩
      · cases h4
    | _ => simp at h4
  | _ => simp at h2 h4
def lstN (f : M (List D)) : M (D × Nat) := fun env => (f env).map fun p => ((.lst p.1, 1), p.2)
def tupN (f : M (List D)) : M D := fun env => (f env).map fun p => (.tup p.1, p.2)
theorem df_listRg {p : Pos} {fr : M (List D)} (hc : X.calm = true) (hg : Gl X "list") (hm : X.mg "list" = none) (he : PRg X e (tRgD X.K m fr)) (na : starEach [e] X.env = (false, eval e X.env) :: starEach [] X.env := by rfl) : DF X m (lstN fr) (.Call (.Name "list" p) [e] [] pos) := pe_weak (pe_listRg hc hg hm he na) fun σ H Q ⟨G, env, F, d, env', s, hf, q⟩ => by
  obtain ⟨⟨x, e1⟩, h1, h2⟩ := map_some' hf
  simp only [Prod.mk.injEq] at h2
  obtain ⟨rfl, rfl⟩ := h2
  refine ⟨G, env, F, x, e1, s, h1, fun a b H1 G1 F1 s1 ev1 c ex => ⟨rgok_iff c, fun p hp => ?_⟩⟩
  subst ex
  have ow := own_lst (K := X.K) (G := G1) (H := H1) (p := p) (rg_reps a b)
  obtain ⟨s2, ev2, fr⟩ := new_obj s1 ev1 hp ow
  exact q _ _ G1 F1 [p] s2 ev2 ow fr
theorem de_tupRg {p : Pos} {fr : M (List D)} (hc : X.calm = true) (hg : Gl X "tuple") (hm : X.mg "tuple" = none) (he : PRg X e (tRgD X.K m fr)) (na : starEach [e] X.env = (false, eval e X.env) :: starEach [] X.env := by rfl) : DE X m [] (tupN fr) (.Call (.Name "tuple" p) [e] [] pos) := pe_weak (pe_tupRg hc hg hm he na) fun σ H Q ⟨G, env, F, d, env', s, hf, q⟩ => by
  obtain ⟨⟨x, e1⟩, h1, h2⟩ := map_some' hf
  simp only [Prod.mk.injEq] at h2
  obtain ⟨rfl, rfl⟩ := h2
  refine ⟨G, env, F, x, e1, s, h1, fun a b H1 G1 F1 s1 ev1 c ex => ⟨rgok_iff c, fun p hp => ?_⟩⟩
  subst ex
  obtain ⟨s2, ev2, sm⟩ := s1.grow (r := []) (Grow.new (s1.vwH []) hp (o := .tup (rgV a b)))
  refine q _ _ _ F1 s2 ((ev1.trans ev2).mono fun i hi => by simpa using hi) (Rep.mono sm (.tup upd_same (rg_reps a b)))
end
end HD
set_option Elab.async false
set_option linter.all false
set_option maxRecDepth 100000
set_option maxHeartbeats 2000000
set_option autoImplicit false
/-! HD18: enumerate(..) of a list, of a tuple. -/
namespace PySem
open Builtin
set_option maxHeartbeats 1000000 in
theorem meets_enumerate_newT (l : Addr) (items : Array Value) : Meets (Builtin.«enumerate.__new__» ⟨[.type "enumerate", .ref l], []⟩) (fun _ R s => s.heap.IsTuple l items ∧
      R (.ok (.ret (.ref (s.heap.push { cls := .type "tuple_iterator", data := .fields #[.ref l, .int 0 0] }).objs.size))) { s with heap := (s.heap.push { cls := .type "tuple_iterator", data := .fields #[.ref l, .int 0 0] }).push { cls := .type "enumerate", data := .fields #[.none, .bool false, .ref s.heap.objs.size, rawInt 0, .none, .none] } }) :=
  .of_wp fun prog w A R s h => by
    obtain ⟨hp, g, d, tk, os⟩ := s; obtain ⟨hl, h⟩ := h
    have hsub := sub_enumerate
    have hL : Heap.IsTuple (Shared.heap ⟨hp, g, d, tk, os⟩) l items := hl
    wp_walk
    refine wpAny_stack_any fun st => wpAny_pure ?_
    split
    · rename_i c _ _ _ _ _
      cases (c == Value.type "enumerate")
      · wp_walk using wpAny_pyIter_tuple hL
        exact ⟨_, rfl, h⟩
      · wp_walk using wpAny_pyIter_tuple hL
        exact ⟨_, rfl, h⟩
    · wp_walk using wpAny_pyIter_tuple hL
      exact ⟨_, rfl, h⟩
section
variable {prog : Program} {w : World} {A : Around} {E : Value → Shared → Prop} {s : Shared}
theorem call_enumerate_tuple {l : Addr} {items : Array Value} {Q : Value → Shared → Prop} (hL : s.heap.IsTuple l items)
    (h : ∀ h', IsEnum h' (s.heap.objs.size + 1) s.heap.objs.size 0 .none → h'.IsTupleIter s.heap.objs.size l 0 → h'.objs.size = s.heap.objs.size + 2 →
      (∀ b o, s.heap.get? b = some o → h'.get? b = some o) → Q (.ref (s.heap.objs.size + 1)) { s with heap := h' }) :
    wpAny (model prog w) A (call (.type "enumerate") [.ref l]) Q E s := by
  refine callType_new F.called_enumerate (by decide) (F.typeCall_enumerate_1 _) (F.newCall_enumerate_1 _) (fun obj => F.args_object_init_2 obj _) F.entry_enumerate_new
    (meets_enumerate_newT l items) ⟨hL, ?_⟩
  have hz : (s.heap.push { cls := .type "tuple_iterator", data := .fields #[.ref l, .int 0 0] }).objs.size = s.heap.objs.size + 1 := Heap.size_push ..
  show _ ∧ _
  rw [hz]
  have he : IsEnum ((s.heap.push { cls := .type "tuple_iterator", data := .fields #[.ref l, .int 0 0] }).push
      { cls := .type "enumerate", data := .fields #[.none, .bool false, .ref s.heap.objs.size, rawInt 0, .none, .none] }) (s.heap.objs.size + 1) s.heap.objs.size 0 .none := by
    have := Heap.get?_push_size (s.heap.push { cls := .type "tuple_iterator", data := .fields #[.ref l, .int 0 0] })
      (o := { cls := .type "enumerate", data := .fields #[.none, .bool false, .ref s.heap.objs.size, rawInt 0, .none, .none] }) rfl
    rw [hz] at this; exact this
  refine ⟨⟨_, he, rfl⟩, h _ he ⟨_, Heap.get?_push_of_some _ (Heap.get?_push_size _ rfl), rfl, rfl⟩ (by rw [Heap.size_push, hz]) fun b o x => Heap.get?_push_of_some _ (Heap.get?_push_of_some _ x)⟩
end
end PySem
namespace L2
open PySem PySem.Spec PyProof.Rows
/-- the tuple at a, each item in a new pair -/
def IteT (K : PySem.W.Frag) (a : Addr) : It :=
  ⟨fun i H => ∃ (xs : List V) (x : V), SqT K H a xs ∧ xs[i]? = some x, fun i H v H' => ∃ T x, v = .ref T ∧ H T = none ∧ H' = upd H T (.tup [.int (i : Nat), x]) ∧ ∀ xs, SqT K H a xs → xs[i]? = some x, fun i H => ∃ xs : List V, SqT K H a xs ∧ xs.length ≤ i⟩
theorem turn_enumT {P : Program} {w : World} {K : PySem.W.Frag} {elts : List Expr} {kk : Nat} {tpos : Pos} (a e it : Addr) (hai : a ≠ it) (hae : e ≠ a) :
    Turn P w K (.Tuple elts kk tpos) (IteT K a) [e, it] e (fun i h => (∃ old, IsEnum h e it ((i : Nat) : Int) old) ∧ h.IsTupleIter it a i ∧ e ≠ it) where
  mem := by simp
  obj := fun i h st b hb => by
    obtain ⟨⟨old, he⟩, ⟨o, ho, hc, hd⟩, _⟩ := st
    have e' : b = e ∨ b = it := by simpa using hb
    rcases e' with z | z
    · rw [z]; exact ⟨_, he, fun v q => nomatch q⟩
    · rw [z]; exact ⟨o, ho, fun v q => by rw [hd] at q; cases q⟩
  keep := fun i h h' st k => let ⟨⟨old, he⟩, hi, hne⟩ := st; ⟨⟨old, k e (by simp) _ he⟩, hi.at fun o q => k it (by simp) o q, hne⟩
  item := by
    intro X hP hw hK hc i pins s σ H E I hf st hg
    subst hP hw hK
    obtain ⟨⟨old, he⟩, hit, hne⟩ := st
    obtain ⟨xs, x, hq, hx⟩ := hg
    obtain ⟨its, rv, p, hz⟩ := I.tuple hq
    obtain ⟨u, hu, ru⟩ := rv.get hx
    have hel : e < s.heap.objs.size := Heap.lt_size he
    have hil : it < s.heap.objs.size := by obtain ⟨_, q, _⟩ := hit; exact Heap.lt_size q
    have hit' : i < its.toArray.size := by
      rw [List.size_toArray]
      have := (List.getElem?_eq_some_iff.mp hu).1
      exact this
    refine wpAny_pyNext_enum_itemD (Draws.tuple (A := X.A.in1) (I.ok.hd hc) it a hai its.toArray) he ⟨hit, p⟩ hit' hne (by simp [hne, hae]) fun x2 h' tk hP ho st' hT hsz hk => ?_
    have ex : x2 = u := by
      have h2 : its.toArray[i]? = some u := by simpa using hu
      have hP' : its.toArray[i]? = some x2 := hP
      rw [hP'] at h2
      exact Option.some.inj h2
    subst ex
    refine ⟨_, rfl, wpAny_letOwnedTupleGo_enum (s := { s with heap := h', toks := tk + 1 }) ho fun h'' he' sb => ?_⟩
    have hT2 : h''.get? s.heap.objs.size = some { cls := .type "tuple", data := .seq #[.int i tk, x2] } := (sb.2 _ (Nat.ne_of_gt hel)).trans hT
    have new : ObjOk X.prog X.w (upd H s.heap.objs.size (.tup [.int (i : Nat), x])) h'' s.heap.objs.size (.tup [.int (i : Nat), x]) :=
      ⟨by show 2 ≤ sizeLine; decide, [.int i tk, x2], .cons ⟨_, rfl⟩ (.cons ru .nil), ⟨_, hT2, rfl, _, rfl⟩⟩
    have I1 : Inv X pins σ (upd H s.heap.objs.size (.tup [.int (i : Nat), x])) { s with heap := h'', toks := tk + 1 } :=
      I.turnedNew (ch := [e, it]) (fun b ob hb q => (sb.2 b (fun z => hb (by simp [z]))).trans (hk b ob (fun z => hb (by simp [z])) (fun z => hb (by simp [z])) q)) hf (Nat.le_refl _) new
    refine ⟨.ref s.heap.objs.size, _, I1, rfl, ⟨_, x, rfl, I.hok.fresh (Nat.le_refl _), rfl, fun ys hy => by rw [I.tuple_inj hy hq]; exact hx⟩, ⟨⟨x2, ?_⟩, st'.1.at fun o q => (sb.2 it (Ne.symm hne)).trans q, hne⟩, fun b hb => ?_⟩
    · have e1 : ((i + 1 : Nat) : Int) = (i : Int) + 1 := by omega
      rw [e1]; exact he'
    · have hb' : b < s.heap.objs.size := by
        have e' : b = e ∨ b = it := by simpa using hb
        rcases e' with z | z
        · rw [z]; exact hel
        · rw [z]; exact hil
      rw [upd_ne (Nat.ne_of_lt hb')]
      exact (hf b hb).1
  done := by
    intro X hP hw hK hc i pins s σ H E I hf st hg
    subst hP hw hK
    obtain ⟨⟨old, he⟩, hit, hne⟩ := st
    obtain ⟨xs, hq, hx⟩ := hg
    obtain ⟨its, rv, p, hz⟩ := I.tuple hq
    obtain ⟨f0, f1, f2, f3, f4, f5⟩ := hf it (by simp)
    have hl := rv.length
    have D := Draws.tuple (prog := X.prog) (w := X.w) (A := X.A.in1) (I.ok.hd hc) it a hai its.toArray
    have hT : s.TypeIs (.ref e) "enumerate" := ⟨_, he, rfl⟩
    unfold pyNext
    refine wpAny_bind (wpAny_attempt (wpAny_callSpecial?_slot (name := Str.ofString "__next__") hT F.slot_enumerate_next
      (wpAny_call_entry F.slot_enumerate_next hT F.entry_enumerate_next ?_ (F.args_enumerate_next_1 _))))
    show wpAny _ _ (field (.ref e) 2 >>= _) _ _ _
    refine wpAny_bind (wpAny_field he rfl (x := .ref it) rfl ?_)
    refine wpAny_bind (wpAny_nextOf_tuple_end (I.ok.hd hc) hit p (by simp; omega) fun h' x he' hx' => ?_)
    obtain ⟨o, ho, hc'⟩ := hx'
    refine wpAny_bind (wpAny_isInstance (T := "StopIteration") (b := true) ⟨o, ho, hc'⟩ isSubtype_stop ?_)
    exact wpAny_pure ⟨rfl, I.turned (t' := s.toks) (fun b o hb q => he' b o hb q) f0 f1 f3 f4 f5⟩
  self := fun A i s Q E st h => let ⟨⟨_, he⟩, _⟩ := st; wpAny_pyIter_enum he h
def iEnumT (K : PySem.W.Frag) (ta : TA) : TI := fun σ H R => ta σ H fun vs H1 => ∃ a xs, vs = [.ref a] ∧ SqT K H1 a xs ∧ R (IteT K a) H1
theorem pi_enumT {X : Cx} {e : Expr} {ta : TA} {p pos tpos : Pos} {elts : List Expr} {kk : Nat} (hg : Gl X "enumerate") (hm : X.mg "enumerate" = none) (ha : PA X [e] ta) (hs : starEach [e] X.env = [(false, eval e X.env)] := by rfl) :
    PI X (.Tuple elts kk tpos) (.Call (.Name "enumerate" p) [e] [] pos) (iEnumT X.K ta) := by
  refine ⟨fun pins s σ H R I h => ?_⟩
  refine Call_ (ld_blt I hg hm boot_enumerate (PyProof.Rows.callWith_type1 (thn (ha.run pos pins s σ H _ I h) fun us s1 ⟨vs, H1, I1, r1, q1⟩ => ?_) hs rfl))
  obtain ⟨a, xs, ex, hq, q⟩ := q1
  subst ex
  cases r1 with
  | cons r rr =>
    cases rr
    cases r
    obtain ⟨its, rv, p', hz⟩ := I1.tuple hq
    obtain ⟨oa, hoa, _⟩ := id p'
    have hla := Heap.lt_size hoa
    refine call_enumerate_tuple (show s1.heap.IsTuple a its.toArray from p') fun h' he hit hsz hk => wpAny_pyIter_enum he ?_
    have I2 : Inv X pins σ H1 { s1 with heap := h' } := I1.kept (t' := s1.toks) hk
    refine ⟨s1.heap.objs.size + 1, [s1.heap.objs.size + 1, s1.heap.objs.size], _, _, H1, rfl, I2, turn_enumT a (s1.heap.objs.size + 1) s1.heap.objs.size (Nat.ne_of_lt hla) (Nat.ne_of_gt (Nat.lt_succ_of_lt hla)), ⟨⟨.none, he⟩, hit, Nat.succ_ne_self _⟩, fun b hb => ?_, q⟩
    have e' : b = s1.heap.objs.size + 1 ∨ b = s1.heap.objs.size := by simpa using hb
    have hle : s1.heap.objs.size ≤ b := by
      rcases e' with z | z
      · rw [z]; exact Nat.le_add_right _ _
      · rw [z]; exact Nat.le_refl _
    exact I1.fpOk hle (I1.hok.fresh hle)
end L2
set_option Elab.async false
set_option linter.all false
set_option maxRecDepth 100000
set_option maxHeartbeats 2000000
set_option autoImplicit false
/-! HD19: enumerate by data; starred displays; dicts made; names of ints. -/
namespace HD
open PySem PySem.Spec PyProof.Rows L2
variable [Tb]

section
variable {X : Cx} {m r : List Nat} {pos : Pos}
theorem enum_get {xs : List D} {i : Nat} {d : D} (h : (xs.mapIdx fun (i : Nat) x => pairD (.int (i : Int)) x)[i]? = some d) : ∃ x, xs[i]? = some x ∧ d = pairD (.int (i : Int)) x := by
  rw [List.getElem?_mapIdx] at h
  cases e : xs[i]? with
  | none => rw [e] at h; simp at h
  | some x =>
    rw [e] at h
    simp at h
    exact ⟨x, rfl, h.symm⟩
theorem di_enum {e : Expr} {fs : M (List D)} {p tpos : Pos} {elts : List Expr} {kk : Nat} (hg : Gl X "enumerate") (hm : X.mg "enumerate" = none) (ha : DA X m r fs [e]) (hs : starEach [e] X.env = [(false, eval e X.env)] := by rfl) :
    DI X m r (wk fs enum1) (.Tuple elts kk tpos) (.Call (.Name "enumerate" p) [e] [] pos) := by
  refine pi_weak (PI.or (pi_enum hg hm ha hs) (pi_enumT hg hm ha hs)) fun σ H R ⟨G, env, F, ⟨ds, st⟩, env', s, hf, q⟩ => ?_
  obtain ⟨xs, h1, h2⟩ := wk_some hf
  unfold enum1 at h2
  split at h2
  · rename_i xs
    cases h2
    refine .inl ⟨G, env, F, _, env', s, h1, fun vs H1 G1 F1 s1 ev1 rp => ?_⟩
    obtain ⟨v, rfl, rv⟩ := reps1 rp
    cases rv with
    | @lst a us _ ha hx =>
      have sV := s1.vwH r
      refine ⟨a, us, rfl, SqL.of (sV _ _ ha), q _ H1 G1 F1 s1 ev1 ?_⟩
      intro m' σ' env' H' G' F' s' ev c
      have r1 := later_rep s1 (Rep.lst ha hx) (fun z => Bool.noConfusion z) s' ev c
      cases r1 with
      | @lst _ us' _ ha' hx' =>
        have sV' := s'.vwH r
        refine ⟨fun i d hd => ?_, ⟨us', SqL.of (sV' _ _ ha'), by rw [List.length_mapIdx, hx'.length]; omega⟩⟩
        obtain ⟨x, e1, rfl⟩ := enum_get hd
        obtain ⟨u, hu, ru⟩ := hx'.get e1
        refine ⟨⟨us', u, SqL.of (sV' _ _ ha'), hu⟩, fun v H'' ⟨T, u2, e3, hT, e4, k1⟩ => ?_⟩
        subst e3 e4
        have z1 : u = u2 := Option.some.inj (hu.symm.trans (k1 _ (SqL.of (sV' _ _ ha'))))
        subst z1
        have sn := same_new (o := HO.tup [.int (i : Nat), u]) (sV'.free hT)
        exact ⟨_, Grow.new sV' hT, .tup upd_same (.cons (.int _) (.cons (ru.mono sn) .nil))⟩
  · rename_i xs
    cases h2
    refine .inr ⟨G, env, F, _, env', s, h1, fun vs H1 G1 F1 s1 ev1 rp => ?_⟩
    obtain ⟨v, rfl, rv⟩ := reps1 rp
    cases rv with
    | @tup a us _ ha hx =>
      have sV := s1.vwH r
      refine ⟨a, us, rfl, SqT.of (sV _ _ ha), q _ H1 G1 F1 s1 ev1 ?_⟩
      intro m' σ' env' H' G' F' s' ev c
      have r1 := later_rep s1 (Rep.tup ha hx) (fun z => by simp only [D.im]; exact z) s' ev c
      cases r1 with
      | @tup _ us' _ ha' hx' =>
        have sV' := s'.vwH r
        refine ⟨fun i d hd => ?_, ⟨us', SqT.of (sV' _ _ ha'), by rw [List.length_mapIdx, hx'.length]; omega⟩⟩
        obtain ⟨x, e1, rfl⟩ := enum_get hd
        obtain ⟨u, hu, ru⟩ := hx'.get e1
        refine ⟨⟨us', u, SqT.of (sV' _ _ ha'), hu⟩, fun v H'' ⟨T, u2, e3, hT, e4, k1⟩ => ?_⟩
        subst e3 e4
        have z1 : u = u2 := Option.some.inj (hu.symm.trans (k1 _ (SqT.of (sV' _ _ ha'))))
        subst z1
        have sn := same_new (o := HO.tup [.int (i : Nat), u]) (sV'.free hT)
        exact ⟨_, Grow.new sV' hT, .tup upd_same (.cons (.int _) (.cons (ru.mono sn) .nil))⟩
  · cases h2
end

/-! ### dict([]), {} -/
theorem c_dict0T {X : Cx} (hcalm : X.calm = true) : CallR X (.type "dict") (fun xs H Q => ∃ (a : Addr), xs = [.ref a] ∧ SqL X.K H a [] ∧ ∀ p, H p = none → Q (.ref p) (upd H p (.dT []))) := by
  intro pins s σ H xs us Q I r q
  obtain ⟨a, ex, hq, q⟩ := q
  subst ex
  obtain ⟨u, eu, rx⟩ := vals1 r
  subst eu
  cases rx
  obtain ⟨its, rv, pl, hz⟩ := I.list hq
  cases rv
  obtain ⟨o, n, ho, hc, hd, hdat⟩ := pl
  refine call_dict_pairs (prs := []) (I.ok.hd hcalm) ho hc hd hdat (by simp) (Nat.zero_le _) (fun j q' e => by simp at e) fun h' tk hd' k => ?_
  have hm : (s.heap.objs.size == sysModules) = false := beq_eq_false_iff_ne.mpr (Nat.ne_of_gt I.big)
  obtain ⟨o', es, ep, g1, g2, g3, g4, g5, g6⟩ := id hd'
  have ee : es.toList = [] := by
    have g7 : Pairs (mixKind X.prog X.w) es.toList [] := g5
    generalize es.toList = l at g7
    cases g7
    rfl
  exact ⟨.ref s.heap.objs.size, upd H s.heap.objs.size (.dT []), I.laid (t' := tk) k (Nat.le_refl _) (show ObjOk X.prog X.w _ _ _ (.dT []) from ⟨Nat.zero_le _, hm, [], .nil, o', es, ep, g1, g2, g3, ee, List.nodup_nil⟩), rfl, q _ (I.hok.fresh (Nat.le_refl _))⟩
def freshC (d : D) (n : Nat) : M (D × Nat) := fun env => some ((d, n), env)
section
variable {X : Cx} {pos : Pos} {e : Expr} {es : List Expr} {m m1 m2 r r1 r2 : List Nat}
theorem tDF_const {σ : L2.St} {H : Hp} {Q : VK} {d : D} {n : Nat} {o : HO} (h : tDF X.K [] (freshC d n) σ H Q) (ow : ∀ (G H : Hp) (p : Addr), Own X.K G (upd H p o) n (.ref p) d [p]) : ∀ p, H p = none → Q (.ref p) (upd H p o) := by
  obtain ⟨G, env, F, ⟨d', n'⟩, env', s, hf, q⟩ := h
  simp only [freshC, Option.some.injEq, Prod.mk.injEq] at hf
  obtain ⟨⟨rfl, rfl⟩, rfl⟩ := hf
  intro p hp
  obtain ⟨s2, ev2, fr⟩ := new_obj s (Evo.refl) hp (ow G H p)
  exact q _ _ G F [p] s2 ev2 (ow G H p) fr
theorem own_dK0 {K : PySem.W.Frag} (n : Nat) (G H : Hp) (p : Addr) : Own K G (upd H p (.dK [])) (n + 1) (.ref p) (.dct 0 []) [p] := .dK (ks := []) upd_same (.nil) (by simp) rfl
theorem own_dT0 {K : PySem.W.Frag} (n : Nat) (G H : Hp) (p : Addr) : Own K G (upd H p (.dT [])) (n + 1) (.ref p) (.dct 1 []) [p] := .dT (ks := []) upd_same (.nil) (by simp) rfl
/-- {}: of ints and texts (0), of tuples (1), its values owned to depth n -/
theorem df_bracesK (n : Nat) : DF X [] (freshC (.dct 0 []) (n + 1)) (.Dict [] [] pos) := pe_weak pe_dnewK fun σ H Q h => tDF_const h (own_dK0 n)
theorem df_bracesT (n : Nat) : DF X [] (freshC (.dct 1 []) (n + 1)) (.Dict [] [] pos) := pe_weak pe_dnewT fun σ H Q h => tDF_const h (own_dT0 n)
theorem tDF_later {σ : L2.St} {H : Hp} {Q : VK} {d : D} {n : Nat} (h : tDF X.K [] (freshC d n) σ H Q) {p : Addr} {o : HO} (hp : H p = none) : tDF X.K [] (freshC d n) σ (upd H p o) Q := by
  obtain ⟨G, env, F, ⟨d', n'⟩, env', s, hf, q⟩ := h
  simp only [freshC, Option.some.injEq, Prod.mk.injEq] at hf
  obtain ⟨⟨rfl, rfl⟩, rfl⟩ := hf
  have hG : G p = none := s.same.free hp
  have hF : ∀ j, p ∉ F j := fun j hj => by
    obtain ⟨u, hu, _⟩ := s.mut hj
    rw [hp] at hu
    cases hu
  have s2 := s.updOut (o := o) hG hF (mutN hp)
  have ev2 : Evo [] env H G F env (upd H p o) G F := Evo.refl.updOut hp hF
  refine ⟨G, env, F, _, env, s2, rfl, fun v H' G' F' FT s' ev ow hFT => q v H' G' F' FT s' (ev2.trans ev) ow fun a ha => ⟨(hFT a ha).1, ?_⟩⟩
  rcases (hFT a ha).2 with z | z
  · exact .inl z
  · refine .inr ?_
    by_cases e : a = p
    · rw [e]; exact hp
    · rw [upd_ne e] at z
      exact z
/-- dict([]) -/
theorem df_dict0K (n : Nat) {p p2 : Pos} (hc : X.calm = true) (hg : Gl X "dict") (hm : X.mg "dict" = none) (na : starEach [.List [] p2] X.env = (false, eval (.List [] p2) X.env) :: starEach [] X.env := by rfl) (hpl : (backTo pos (starEach [] X.env)).any (·.1) = false := by rfl) :
    DF X [] (freshC (.dct 0 []) (n + 1)) (.Call (.Name "dict" p) [.List [] p2] [] pos) := by
  refine pe_weak (pe_callTy (T := "dict") (call_dictP hc) hg hm (by first | rfl | kernel_rfl) (pa_cons (pe_lst pa_nil) pa_nil na) (by decide) (by decide) na hpl) fun σ H Q h => ?_
  refine ⟨Nat.zero_le _, fun p hp => ⟨p, [], [], rfl, SqL.of upd_same, .nil, ?_⟩⟩
  exact tDF_const (tDF_later h hp) (own_dK0 n)
theorem df_dict0T (n : Nat) {p p2 : Pos} (hc : X.calm = true) (hg : Gl X "dict") (hm : X.mg "dict" = none) (na : starEach [.List [] p2] X.env = (false, eval (.List [] p2) X.env) :: starEach [] X.env := by rfl) (hpl : (backTo pos (starEach [] X.env)).any (·.1) = false := by rfl) :
    DF X [] (freshC (.dct 1 []) (n + 1)) (.Call (.Name "dict" p) [.List [] p2] [] pos) := by
  refine pe_weak (pe_callTy (T := "dict") (c_dict0T hc) hg hm (by first | rfl | kernel_rfl) (pa_cons (pe_lst pa_nil) pa_nil na) (by decide) (by decide) na hpl) fun σ H Q h => ?_
  refine ⟨Nat.zero_le _, fun p hp => ⟨p, rfl, SqL.of upd_same, ?_⟩⟩
  exact tDF_const (tDF_later h hp) (own_dT0 n)

/-! ### starred arguments and displays -/
def argsS (st : Bool) (f : M D) (g : M (List D)) : M (List D) := fun env => (f env).bind fun p => (seqOf p.1).bind fun xs => (g p.2).bind fun q => if (st || p.1.im) = true then some (xs ++ q.1, q.2) else none
theorem da_star {f1 : M D} {fs : M (List D)} {p : Pos} (ha : DE X m1 r1 f1 e) (hb : DA X m2 r2 fs es) (hs : starEach (.Starred e p :: es) X.env = (true, eval e X.env) :: starEach es X.env := by rfl) : DA X (m1 ++ m2) (r1 ++ r2) (argsS (dj r1 m2) f1 fs) (.Starred e p :: es) := by
  refine pa_weak (StX.pa_star ha hb hs) fun σ H Q ⟨G, env, F, ds, env', s, hf, q⟩ => ?_
  obtain ⟨⟨x, e1⟩, h1, h2⟩ := bind_some' hf
  obtain ⟨xs, h3, h4⟩ := bind_some' h2
  obtain ⟨⟨ys, e2⟩, h5, h6⟩ := bind_some' h4
  simp only [] at h6
  split at h6
  · rename_i c
    simp only [Option.some.injEq, Prod.mk.injEq] at h6
    obtain ⟨rfl, rfl⟩ := h6
    refine ⟨G, env, F, x, e1, s, h1, fun v H1 G1 F1 s1 ev1 rp1 => ?_⟩
    obtain ⟨a, us, rfl, hr, hsq⟩ := rep_seq (s1.vwH r1) rp1 h3
    refine ⟨a, us, rfl, hsq.symm, G1, e1, F1, ys, e2, s1, h5, fun ws H2 G2 F2 s2 ev2 rp2 => ?_⟩
    have k2 : Reps X.K (vw (r1 ++ r2) H2 G2 F2) us xs := by
      rw [Bool.or_eq_true] at c
      rcases c with c | c
      · exact hr.mono (ev2.seen s2 (dj_iff.mp c) fun i hi => List.mem_append_left _ hi)
      · have hx : D.ims xs = true := by
          cases x with
          | tup dd =>
            simp only [seqOf, Option.some.injEq] at h3
            subst h3
            simpa only [D.im] using c
          | lst dd => simp [D.im] at c
          | _ => simp [seqOf] at h3
        exact ((hr.imTo (s1.tups r1) hx).mono ev2.g).mono (s2.vwG _)
    exact q _ H2 G2 F2 s2 (ev1.trans ev2) (k2.app (rp2.mono (s2.vwSub fun i hi => List.mem_append_right _ hi)))
  · cases h6
end
end HD
set_option Elab.async false
set_option linter.all false
set_option maxRecDepth 100000
set_option maxHeartbeats 2000000
set_option autoImplicit false
/-! HD20: chained comparisons, calls by keyword, tuples turned, += . -/
namespace HD
open PySem PySem.Spec PyProof.Rows L2
variable [Tb]

section
variable {X : Cx} {a b c e : Expr} {es : List Expr} {pos : Pos} {m1 m2 m3 r1 r2 r3 m r : List Nat} {f1 f2 f3 f : M D}
/-- a op1 b op2 c, ints (or what can't change) -/
def chn (f1 f2 f3 : M D) (g g' : D → D → Option D) : M D := fun env => (f1 env).bind fun p => (f2 p.2).bind fun q => if (p.1.im && q.1.im) = true then (g p.1 q.1).bind fun x => match x with
    | .bl true => (f3 q.2).bind fun z => (g' q.1 z.1).map fun d => (d, z.2)
    | .bl false => some (.bl false, q.2)
    | _ => none
  else none
theorem tD_chain {r r' : R2} {g g' : D → D → Option D} {σ : L2.St} {H : Hp} {Q : VK} (h : tD X.K (m1 ++ (m2 ++ m3)) r3 (chn f1 f2 f3 g g') σ H Q) : tChain (rD2 X.K g) (rD2 X.K g') (tD X.K m1 r1 f1) (tD X.K m2 r2 f2) (tD X.K m3 r3 f3) σ H Q := by
  obtain ⟨G, env, F, d, env', s, hf, q⟩ := h
  obtain ⟨⟨x, e1⟩, h1, h2⟩ := bind_some' hf
  obtain ⟨⟨y, e2⟩, h3, h4⟩ := bind_some' h2
  simp only [] at h4
  split at h4
  · rename_i hc
    rw [Bool.and_eq_true] at hc
    obtain ⟨z, h5, h6⟩ := bind_some' h4
    refine ⟨G, env, F, x, e1, s, h1, fun v H1 G1 F1 s1 ev1 rp1 => ⟨G1, e1, F1, y, e2, s1, h3, fun w H2 G2 F2 s2 ev2 rp2 => ?_⟩⟩
    have a1 : Rep X.K G2 v x := (s1.im rp1 hc.1).mono ev2.g
    have a2 : Rep X.K G2 w y := s2.im rp2 hc.2
    refine ⟨vw [] H2 G2 F2, x, y, z, s2.vwH _, by rw [vw_nil]; exact a1, by rw [vw_nil]; exact a2, h5, fun u H' W' gr rz => ?_⟩
    obtain ⟨s3, ev3, sm⟩ := s2.grow gr
    cases z with
    | bl k =>
      cases rz
      refine ⟨k, rfl, ?_⟩
      cases k with
      | true =>
        rw [if_pos rfl]
        simp only [] at h6
        obtain ⟨⟨t, e3⟩, h7, h8⟩ := bind_some' h6
        obtain ⟨d', h9, h10⟩ := map_some' h8
        simp only [Prod.mk.injEq] at h10
        obtain ⟨rfl, rfl⟩ := h10
        refine ⟨_, e2, F2, t, e3, s3, h7, fun w' H4 G4 F4 s4 ev4 rp4 => ⟨vw r3 H4 G4 F4, y, t, d', s4.vwH _, ((a2.mono ev3.g).mono ev4.g).mono (s4.vwG _), rp4, h9, fun u H5 W5 gr5 rz5 => ?_⟩⟩
        obtain ⟨s6, ev6, sm6⟩ := s4.grow gr5
        exact q u H5 _ F4 s6 (((((ev1.trans ev2).trans ev3).trans ev4).trans ev6).mono fun i hi => by simpa [or_assoc] using hi) (rz5.mono sm6)
      | false =>
        rw [if_neg Bool.false_ne_true]
        simp only [Option.some.injEq, Prod.mk.injEq] at h6
        obtain ⟨rfl, rfl⟩ := h6
        exact q _ H' _ F2 s3 (((ev1.trans ev2).trans ev3).mono fun i hi => by
          simp only [List.mem_append] at hi ⊢
          rcases hi with (hi | hi) | hi
          · exact .inl hi
          · exact .inr (.inl hi)
          · cases hi) (.bl _)
    | _ => simp at h6
  · cases h4
theorem de_chain {op op' : CmpOp} {g g' : D → D → Option D} (ho : OpR X (compareOp op) (rD2 X.K g)) (ho' : OpR X (compareOp op') (rD2 X.K g')) (ha : DE X m1 r1 f1 a) (hb : DE X m2 r2 f2 b) (hc : DE X m3 r3 f3 c)
    (hm : lastMarks [op, op'] [b, c] = false := by with_unfolding_all rfl) : DE X (m1 ++ (m2 ++ m3)) r3 (chn f1 f2 f3 g g') (.Compare a [op, op'] [b, c] pos) := pe_weak (pe_chain ho ho' ha hb hc hm) fun σ H Q h => tD_chain (r := rD2 X.K g) (r' := rD2 X.K g') h
theorem dt_chain {op op' : CmpOp} {g g' : D → D → Option D} (ho : OpR X (compareOp op) (rD2 X.K g)) (ho' : OpR X (compareOp op') (rD2 X.K g')) (ha : DE X m1 r1 f1 a) (hb : DE X m2 r2 f2 b) (hc : DE X m3 r3 f3 c)
    (hm : lastMarks [op, op'] [b, c] = false := by with_unfolding_all rfl) : DT X (m1 ++ (m2 ++ m3)) (tst (chn f1 f2 f3 g g')) (.Compare a [op, op'] [b, c] pos) := pt_weak (pt_chain ho ho' ha hb hc hm) fun σ H Q h => tD_chain (r := rD2 X.K g) (r' := rD2 X.K g') (tD_tst (r := r3) h)

/-! ### a whole number of the module -/
theorem de_glob {x : Str} {i : Int} {t : Tok} (hg : Gl X x) (hm : X.mg x = some (.int i t)) (hd : (x == ("__debug__" : Str)) = false := by decide) : DE X [] [] (cst (.int i)) (.Name x pos) := de_const (pe_glob (v := .int i) hg hm ⟨t, rfl⟩ hd) fun _ _ => .int i

/-! ### x += e -/
def augS (i : Nat) (f : M D) (g : D → D → Option D) : SF := fun env => (nm i env).bind fun q => if q.1.im = true then (f env).bind fun p => (g q.1 p.1).bind fun d => if i < p.2.length then some (.nx (p.2.set i (.shr d))) else none else none
theorem pip_d {op : Operator} {g : D → D → Option D} (ho : OpR X (inplaceOp op) (rD2 X.K g)) : PIp X op (rD2 X.K g) := fun pins s σ H x y v u Q I r1 r2 h => ho pins s σ H x y v u Q I r1 r2 h
theorem iop_add_d : PIp X .Add (rD2 X.K (fun x y => match x, y with
    | .int i, .int j => some (.int (i + j))
    | _, _ => none)) := by
  intro pins s σ H x y v u Q I r1 r2 h
  obtain ⟨W, d1, d2, d, sm, a1, a2, hg, q⟩ := h
  cases d1 with
  | int i =>
    cases d2 with
    | int j =>
      cases a1
      cases a2
      cases hg
      exact ip_add pins s σ H _ _ v u Q I r1 r2 ⟨i, j, rfl, rfl, q _ _ _ (Grow.refl sm) (.int _)⟩
    | _ => simp at hg
  | _ => simp at hg
theorem ds_aug {i : Nat} {x : Str} {op : Operator} {pos' : Pos} {g : D → D → Option D} (hN : X.N.Nodup) (hi : X.N[i]? = some x) (hx : Loc X.env.scope x) (he : DE X m [] f e) (ho : PIp X op (rD2 X.K g)) (hf : X.fn x = true ∨ X.env.scope.names.lookup x = some .local := by first | exact .inl rfl | exact .inr rfl | assumption) :
    DS X (m ++ [i]) [i] (augS i f g) (.AugAssign (.Name x pos') op e pos) := ps_weak (ps_aug hN hi hx he ho hf) fun Dn σ H ⟨G, env, F, o, s, hfx, q⟩ => by
  obtain ⟨⟨xv, env0⟩, h1, h2⟩ := bind_some' hfx
  simp only [] at h2
  split at h2
  · rename_i c
    obtain ⟨⟨y, e1⟩, h3, h4⟩ := bind_some' h2
    obtain ⟨d, h5, h6⟩ := bind_some' h4
    split at h6
    · rename_i hl
      cases h6
      obtain ⟨v, e2, rv⟩ : ∃ v, σ[i]? = some (some v) ∧ Rep X.K G v xv := by
        unfold nm at h1
        split at h1
        · rename_i d' e1
          simp only [Option.some.injEq, Prod.mk.injEq] at h1
          obtain ⟨rfl, rfl⟩ := h1
          exact s.shr i _ e1
        · rename_i n d' e1
          simp only [Option.some.injEq, Prod.mk.injEq] at h1
          obtain ⟨rfl, rfl⟩ := h1
          obtain ⟨v, e2, ow⟩ := s.own i n _ e1
          generalize F i = Fq at ow
          cases ow with
          | shr _ r => exact ⟨v, e2, r⟩
          | lst _ _ _ => simp [D.im] at c
          | dK _ _ _ _ => simp [D.im] at c
          | dT _ _ _ _ => simp [D.im] at c
        · cases h1
      refine ⟨v, e2, G, env, F, y, e1, s, h3, fun w H1 G1 F1 s1 ev1 rp => ?_⟩
      refine ⟨vw [] H1 G1 F1, xv, y, d, s1.vwH _, by rw [vw_nil]; exact rv.mono ev1.g, rp, h5, fun z H2 W2 gr rz => ?_⟩
      obtain ⟨s3, ev3, sm⟩ := s1.grow gr
      have rz' := rz.mono sm
      rw [vw_nil] at rz'
      exact q _ H2 _ _ (s3.setShr rz') ((Evo.put (ev1.trans ev3) (FT := []) fun a ha => by cases ha).mono fun j hj => by simpa using hj) Only.set
    · cases h6
  · cases h2
end


/-! ### lists prolonged: x += e -/
end HD
namespace L2
open PySem PySem.Spec PyProof.Rows
theorem b1_lt {M : Model} {A : Around} {E : Value → Shared → Prop} {s : Shared} {a b : Value} {Q : Option Value → Shared → Prop} (ha : s.TypeIs a "list") (hb : s.TypeIs b "tuple") (h : Q none s) : wpAny M A (binaryOp1 "add" a b) Q E s := by
  simp only [binaryOp1]
  refine wpAny_bind (wpAny_typeOf ha (wpAny_bind (wpAny_typeOf hb (wpAny_bind (wpAny_of_eq noFill_list_add ?_)))))
  have ne : (Value.type "list" == Value.type "tuple") = false := by decide
  simp only [ne, Bool.false_eq_true, if_false]
  refine wpAny_bind (wpAny_of_eq noFill_tuple_add ?_)
  simp only [pure_bind, Bool.false_and, Bool.and_false, Bool.false_eq_true, if_false]
  exact wpAny_pure h
set_option maxRecDepth 8000 in
theorem list_iadd_tup (l : Addr) (items : Array Value) (n : Nat) (b : Addr) (items2 : Array Value) (n2 : Nat) (dd : Option Addr) (sl : Array (Option Value)) (hs0 : ¬(!items.isEmpty && Builtin.List.listTooLong (items.size + items2.size)) = true) (hs1 : items.size ≤ sizeLine) (hs2 : items.size + items2.size ≤ sizeLine + 1) :
    Meets (Builtin.«list.__iadd__» ⟨[.ref l, .ref b], []⟩) (fun _ R s => s.heap.get? l = some { cls := .type "list", dict := none, data := .seq items n, slots := #[] } ∧ s.heap.get? b = some { cls := .type "tuple", dict := dd, data := .seq items2 n2, slots := sl } ∧ R (.ok (.ret (Value.ref l))) { s with heap := s.heap.update l (Obj.mapSeq fun x => x ++ items2), toks := s.toks }) :=
  .of_wp fun prog w A R s h => by
    obtain ⟨hp, g, d, tk, os⟩ := s; obtain ⟨hl, hb, h⟩ := h; have f1 := AutoSeq1.idx_int; have f2 := AutoSeq1.sub_tuple_tuple; have f3 := AutoSeq1.sub_list_list; have f4 := AutoSeq1.sub_tuple_list; have f5 := AutoSeq1.sub_list_tuple;
    have hz' : (items ++ items2).size ≤ sizeLine + 1 := by rw [Array.size_append]; exact hs2
    wp_walk using (wpAny_updateSeq hl rfl (hz := hs1) (_hz' := hz')), AutoSeq1.wpAny_loadPart' hl, AutoSeq1.wpAny_loadPart' hb; exact ⟨_, rfl, h⟩
theorem iadd_roadT {M : Model} {A : Around} {E : Value → Shared → Prop} {s : Shared} {a b : Value} {Q : Value → Shared → Prop} (ha : s.TypeIs a "list") (hb : s.TypeIs b "tuple") (hc : wpAny M A (call (.builtin "list.__iadd__") [a, b]) Q E s) : wpAny M A (inplaceOp .Add a b) Q E s := by
  have hsl : typeLookup (.type "list") (dunderI "add") = pure (some (.builtin "list.__iadd__")) := PySem.F.slot_list_iadd.lookup
  have hsq : isSeqSlot (some (.builtin "list.__iadd__")) = true := by decide +kernel
  have hfi : fillsInplaceSlot (.type "list") "add" (Operator.Add == .Add) = pure false := by
    unfold fillsInplaceSlot
    show (typeLookup (.type "list") (dunderI "add") >>= fun fi => pure (fi.isSome && !isSeqSlot fi)) = pure false
    rw [hsl]
    show (pure (true && !isSeqSlot (some (.builtin "list.__iadd__"))) : Sem Bool) = pure false
    rw [hsq] <;> rfl
  have hsi : seqSlot? (.type "list") (dunderI "add") = pure (some (.builtin "list.__iadd__")) := PySem.seqSlot_of hsl hsq
  unfold inplaceOp
  refine wpAny_holding ?_
  refine wpAny_bind (wpAny_typeOf ha (wpAny_bind (wpAny_of_eq hfi ?_)))
  show wpAny M A (if false = true then _ else _) Q E s
  rw [if_neg Bool.false_ne_true]
  refine wpAny_bind (b1_lt ha hb ?_)
  refine wpAny_bind (wpAny_of_eq hsi ?_)
  exact wpAny_bind (wpAny_rule hc)
/-- xs += t, t a tuple -/
def rExtT (K : PySem.W.Frag) : R2 := fun x y H Q => ∃ l b xs zs, x = .ref l ∧ y = .ref b ∧ H l = some (.lst xs) ∧ SqT K H b zs ∧ xs.length + zs.length ≤ sizeLine ∧ Q (.ref l) (upd H l (.lst (xs ++ zs)))
theorem iop_extT {X : Cx} : OpR X (inplaceOp .Add) (rExtT X.K) := by
  intro pins s σ H x y v u Q I rx ry h
  obtain ⟨l, b, xs, zs, rfl, rfl, hH, hB, hz, q⟩ := h
  cases rx
  cases ry
  obtain ⟨z, its, n, r, hl, e⟩ := I.lstM hH
  obtain ⟨its2, r2, p2, hl2⟩ := I.tuple hB
  have len2 := r2.length
  obtain ⟨⟨cls, dd, data, sl⟩, ho2, hc2, n2, hd2⟩ := id p2
  simp only at hc2 hd2
  subst hc2 hd2
  have hsz : its.toArray.size + its2.toArray.size ≤ sizeLine := by rw [List.size_toArray, List.size_toArray]; omega
  have hlong : ¬ (!its.toArray.isEmpty && Builtin.List.listTooLong (its.toArray.size + its2.toArray.size)) = true := by
    rw [notLongL hsz, Bool.and_false]
    exact Bool.false_ne_true
  refine iadd_roadT ⟨_, e, rfl⟩ ⟨_, ho2, rfl⟩ (call_meets PySem.F.slot_list_iadd ⟨_, e, rfl⟩ PySem.F.entry_list_iadd (PySem.F.args_list_iadd_2 _ _)
    (list_iadd_tup l its.toArray n b its2.toArray n2 dd sl hlong (by rw [List.size_toArray]; omega) (by omega)) ⟨e, ho2, ?_⟩)
  refine ⟨.ref l, _, I.lset (its' := its ++ its2) (t' := s.toks) hH e (by simp) (r.append r2) ?_, rfl, q⟩
  rw [List.length_append]
  omega
end L2
namespace HD
open PySem PySem.Spec PyProof.Rows L2
variable [Tb]
section
variable {X : Cx} {e e2 : Expr} {pos : Pos} {m m1 m2 r r2 : List Nat} {i : Nat}
theorem rep_seq2 {K : PySem.W.Frag} {W H : Hp} (sm : Same W H) {v : V} {d : D} {xs : List D} (r : Rep K W v d) (h : seqOf d = some xs) : ∃ a us, v = .ref a ∧ Reps K W us xs ∧ (H a = some (.lst us) ∨ SqT K H a us) := by
  cases d with
  | lst ds =>
    simp only [seqOf, Option.some.injEq] at h
    subst h
    cases r with
    | lst ha hr => exact ⟨_, _, rfl, hr, .inl (sm _ _ ha)⟩
  | tup ds =>
    simp only [seqOf, Option.some.injEq] at h
    subst h
    cases r with
    | tup ha hr => exact ⟨_, _, rfl, hr, .inr (SqT.of (sm _ _ ha))⟩
  | _ => simp [seqOf] at h
/-- x += e: a list's (tuple's) items, which can't change, put behind -/
def extS (i : Nat) (f : M D) : SF := fun env => match env[i]? with
  | some (.own _ (.lst _)) => (f env).bind fun p => (seqOf p.1).bind fun es => match p.2[i]? with
    | some (.own (k + 1) (.lst ds)) => if (D.ims es && decide (ds.length + es.length ≤ 16777216)) = true then some (.nx (p.2.set i (.own (k + 1) (.lst (ds ++ es))))) else none
    | _ => none
  | _ => none
theorem pip_ext : PIp X .Add (fun x y H Q => rExt2 x y H Q ∨ rExtT X.K x y H Q) := fun pins s σ H x y v u Q I r1 r2 h => h.elim (iop_ext pins s σ H x y v u Q I r1 r2) (iop_extT pins s σ H x y v u Q I r1 r2)
theorem ds_ext {f : M D} {x : Str} {pos' : Pos} (hN : X.N.Nodup) (hi : X.N[i]? = some x) (hx : Loc X.env.scope x) (he : DE X m r f e) (hf : X.fn x = true ∨ X.env.scope.names.lookup x = some .local := by first | exact .inl rfl | exact .inr rfl | assumption) :
    DS X (m ++ [i]) [i] (extS i f) (.AugAssign (.Name x pos') .Add e pos) := ps_weak (ps_aug hN hi hx he pip_ext hf) fun Dn σ H ⟨G, env, F, o, s, hfx, q⟩ => by
  unfold extS at hfx
  split at hfx
  · rename_i k0 ds0 e0
    obtain ⟨⟨y, e1⟩, h1, h2⟩ := bind_some' hfx
    obtain ⟨es, h3, h4⟩ := bind_some' h2
    simp only [] at h4
    split at h4
    · rename_i k ds e2
      split at h4
      · rename_i c
        cases h4
        rw [Bool.and_eq_true, decide_eq_true_eq] at c
        obtain ⟨v, hσ, ow0⟩ := s.own i k0 _ e0
        refine ⟨v, hσ, G, env, F, y, e1, s, h1, fun w H1 G1 F1 s1 ev1 rp => ?_⟩
        obtain ⟨v', hσ', ow1⟩ := s1.own i (k + 1) _ e2
        rw [hσ] at hσ'
        cases hσ'
        generalize hFi : F1 i = Fi at ow1
        cases ow1 with
        | shr c' _ => rcases c' with c' | c' <;> simp [D.im] at c'
        | @lst _ p xs _ Fr hp ho hpn =>
          have hpi : p ∈ F1 i := by rw [hFi]; exact List.mem_cons_self
          obtain ⟨a, us, rfl, hr, hsq⟩ := rep_seq2 (s1.vwH r) rp h3
          have hr' : Owns X.K G1 H1 k us es [] := (hr.imTo (s1.tups r) c.1).ownsN c.1
          have ho' : Owns X.K G1 (upd H1 p (.lst (xs ++ us))) k xs ds Fr := ho.move (Same.refl _) fun a ha => upd_ne fun z => hpn (by rw [← z]; exact ha)
          have on := ho'.app (hr'.move (H' := upd H1 p (.lst (xs ++ us))) (Same.refl _) fun a ha => by cases ha) fun a _ hb => by cases hb
          rw [List.append_nil] at on
          have fin : Dn.nx (σ.set i (some (.ref p))) (upd H1 p (.lst (xs ++ us))) := by
            have hset : σ.set i (some (V.ref p)) = σ := by
              refine List.ext_getElem? fun j => ?_
              by_cases z : j = i
              · subst z
                rw [List.getElem?_set_self (List.getElem?_eq_some_iff.mp hσ).1, hσ]
              · rw [List.getElem?_set_ne (Ne.symm z)]
            rw [hset]
            refine q σ _ G1 _ (s1.reput hpi hσ (List.getElem?_eq_some_iff.mp e2).1 (.lst upd_same on hpn) fun b hb => ?_) (Evo.reput s1 ev1 hpi fun b hb => ?_) Only.refl
            · have hz : b ∈ F1 i := by rw [hFi]; exact hb
              exact ⟨s1.free i b hz, fun j ne hj => s1.apart j i b ne hj hz⟩
            · exact ev1.f i b (by rw [hFi]; exact hb)
          have hlen : xs.length + us.length ≤ sizeLine := by rw [ho.length, hr.length, sizeLine_eq]; exact c.2
          rcases hsq with hsq | hsq
          · exact .inl ⟨p, a, xs, us, rfl, rfl, hp, hsq, hlen, fin⟩
          · exact .inr ⟨p, a, xs, us, rfl, rfl, hp, hsq, hlen, fin⟩
      · cases h4
    · cases h4
  · cases hfx
end
end HD
set_option Elab.async false
set_option linter.all false
set_option maxRecDepth 100000
set_option maxHeartbeats 2000000
set_option autoImplicit false
/-! HD21: tuples turned, calls by keyword. -/
namespace HT
open PySem PyProof.Rows
section
variable {prog : Program} {w : World} {A : Around} {E : Value → Shared → Prop} {s : Shared}
theorem adjust_rev (n : Nat) : Builtin.Slice.sliceAdjust none none (-1) (n : Int) = ((n : Int) - 1, -1) := by
  unfold Builtin.Slice.sliceAdjust
  simp
theorem places_rev (n : Nat) : Builtin.Slice.slicePlaces ((n : Int) - 1) (-1) (-1) = n := by
  unfold Builtin.Slice.slicePlaces
  simp
  omega
theorem sliceApplied_rev {sl : Addr} {vl vu vs : Value} {n : Nat} {Q : Int × Int × Nat → Shared → Prop} (hs : s.heap.IsSliceOf sl vl vu vs) (pl : IsPart vl none) (pu : IsPart vu none) (ps : IsPart vs (some (-1)))
    (h : Q ((n : Int) - 1, -1, n) s) : wpAny (model prog w) A (Builtin.Slice.sliceApplied (.ref sl) (pure (n : Int))) Q E s := by
  obtain ⟨os, hos, hcs, hds⟩ := id hs
  unfold Builtin.Slice.sliceApplied Builtin.Slice.sliceFields
  refine wpAny_bind (wpAny_bind (wpAny_field hos hds (x := vl) rfl (wpAny_bind (wpAny_field hos hds (x := vu) rfl (wpAny_bind (wpAny_field hos hds (x := vs) rfl (wpAny_pure ?_)))))))
  refine wpAny_bind (slicePart_ ps ?_)
  show wpAny _ _ (if ((-1 : Int) == 0) = true then _ else _) _ _ s
  rw [if_neg (by decide)]
  refine wpAny_bind (slicePart_ pl (wpAny_bind (slicePart_ pu (wpAny_bind (wpAny_pure ?_)))))
  show wpAny _ _ (match Builtin.Slice.sliceAdjust none none (-1) (n : Int) with | (lo, hi) => pure (lo, (-1 : Int), Builtin.Slice.slicePlaces lo hi (-1))) _ _ s
  rw [adjust_rev n]
  show wpAny _ _ (pure ((n : Int) - 1, (-1 : Int), Builtin.Slice.slicePlaces ((n : Int) - 1) (-1) (-1))) _ _ s
  rw [places_rev]
  exact wpAny_pure h
theorem fm_map {α β : Type} {f : α → Option β} {g : α → β} : ∀ {l : List α}, (∀ a ∈ l, f a = some (g a)) → l.filterMap f = l.map g
  | [], _ => rfl
  | a :: l, h => by
    rw [List.filterMap_cons, h a List.mem_cons_self, List.map_cons, fm_map fun b hb => h b (List.mem_cons_of_mem _ hb)]
theorem pick_rev (xs : Array Value) : ((List.range xs.size).filterMap fun (m : Nat) => xs[(((xs.size : Int) - 1) + (m : Int) * -1).toNat]?).toArray = xs.toList.reverse.toArray := by
  congr 1
  refine List.ext_getElem? fun i => ?_
  have e : (List.range xs.size).filterMap (fun (m : Nat) => xs[(((xs.size : Int) - 1) + (m : Int) * -1).toNat]?) = (List.range xs.size).map fun m => xs.toList.getD (xs.size - 1 - m) .none := by
    refine fm_map fun m hm => ?_
    have hm' : m < xs.size := List.mem_range.mp hm
    have h1 : (((xs.size : Int) - 1) + (m : Int) * -1).toNat = xs.size - 1 - m := by omega
    rw [h1]
    have hl : xs.size - 1 - m < xs.size := by omega
    simp [hl]
  rw [e, List.getElem?_map]
  by_cases hi : i < xs.size
  · rw [List.getElem?_range hi, List.getElem?_reverse (by simpa using hi)]
    have hl : xs.size - 1 - i < xs.size := by omega
    simp [hl]
  · rw [List.getElem?_eq_none (by simpa using hi), List.getElem?_eq_none (by simpa using hi)]
    rfl
theorem getItem_tuple_rev {t sl : Addr} {items : Array Value} {vl vu vs : Value} {Q : Value → Shared → Prop} (ht : IsTup s.heap t items) (hs : s.heap.IsSliceOf sl vl vu vs) (pl : IsPart vl none) (pu : IsPart vu none) (ps : IsPart vs (some (-1)))
    (h : Q (.ref s.heap.objs.size) { s with heap := s.heap.push { cls := .type "tuple", data := .seq items.toList.reverse.toArray } })
    (hsz : items.size ≤ sizeLine) : wpAny (model prog w) A (getItem (.ref t) (.ref sl)) Q E s := by
  have htake : sizeOk (.seq items.toList.reverse.toArray) := by
    show items.toList.reverse.toArray.size ≤ sizeLine
    simpa using hsz
  obtain ⟨os, hos, hcs, hds⟩ := id hs
  have hTs : s.TypeIs (.ref sl) "slice" := ⟨os, hos, hcs⟩
  unfold getItem
  try with_reducible refine wpAny_holding ?_
  first | refine wpAny_bind (wpAny_pure ?_) | skip
  refine wpAny_bind (wpAny_sequenceKey ht.typeIs (by decide) ?_)
  refine wpAny_bind (wpAny_callSpecial?_slot (name := Str.ofString "__getitem__") ht.typeIs PyProof.Rows.slot_tuple_getitem
    (wpAny_call_entry PyProof.Rows.slot_tuple_getitem ht.typeIs entry_tuple_getitem ?_ (args_tuple_getitem _ _)))
  show wpAny _ _ (Builtin.Tuple.tupleItemsOf (.ref t) >>= _) _ _ s
  refine wpAny_bind (tupleItemsOf_ ht ?_)
  refine wpAny_bind (wpAny_typeOf hTs ?_)
  rw [if_pos (by decide)]
  refine wpAny_bind (sliceApplied_rev hs pl pu ps ?_)
  have hno : ¬ ((((items.size : Int) - 1) == 0 && (-1 : Int) == 1 && items.size == items.size) = true) := by simp
  show wpAny _ _ (if (((items.size : Int) - 1) == 0 && (-1 : Int) == 1 && items.size == items.size) = true then _ else _) _ _ s
  rw [if_neg hno, pick_rev]
  first
    | exact wpAny_bind (m := Builtin.Tuple.tupleExact _) (wpAny_newObj_type (wpAny_pure ⟨_, rfl, wpAny_pure h⟩) htake)
    | exact wpAny_bind (m := Builtin.Tuple.tupleExact _) (wpAny_newObj_type (wpAny_bind (wpAny_pure (wpAny_pure ⟨_, rfl, wpAny_pure h⟩))) htake)
    | exact wpAny_bind (wpAny_bind (m := Builtin.Tuple.tupleExact _) (wpAny_newObj_type (wpAny_pure (wpAny_pure ⟨_, rfl, wpAny_pure h⟩)) htake))
    | exact wpAny_bind (wpAny_bind (m := Builtin.Tuple.tupleExact _) (wpAny_newObj_type (wpAny_pure ⟨_, rfl, wpAny_pure h⟩) htake))
end
end HT
namespace L2
open PySem PySem.Spec PyProof.Rows
def tRevT (K : PySem.W.Frag) (te : TE) : TE := fun σ H Q => te σ H fun x H1 => ∃ a xs, x = .ref a ∧ SqT K H1 a xs ∧ ∀ p, H1 p = none → Q (.ref p) (upd H1 p (.tup xs.reverse))
theorem pe_revT {X : Cx} {e : Expr} {te : TE} {k : Nat} {p1 p2 p3 pos : Pos} (he : PE X e te) : PE X (.Subscript e (.Slice none none (some (.UnaryOp .USub (.Constant (.int 1) k p1) p2)) p3) pos) (tRevT X.K te) := by
  refine ⟨fun pins s σ H Q I h => ?_⟩
  refine Subscript_ (thn (he.run pins s σ H _ I h) fun v s1 ⟨x, H1, I1, r1, q1⟩ => ?_)
  obtain ⟨a, xs, ex, hx, q⟩ := q1
  subst ex
  cases r1
  have hst : PO X (some (.UnaryOp .USub (.Constant (.int 1) k p1) p2)) (tPart (tUn (rU fun i => .int (-i)) (tC (.int 1)))) := po_some (pe_un un_neg pe_int)
  refine wpAny_Slice (thn (po_none.run pins s1 σ H1 (fun o H2 => o = none ∧ H2 = H1) I1 ⟨rfl, rfl⟩) fun vl s2 ⟨l, H2, I2, pl, el, e2⟩ => ?_)
  subst el e2
  refine thn (po_none.run pins s2 σ H2 (fun o H3 => o = none ∧ H3 = H2) I2 ⟨rfl, rfl⟩) fun vu s3 ⟨u, H3, I3, pu, eu, e3⟩ => ?_
  subst eu e3
  refine thn (hst.run pins s3 σ H3 (fun o H4 => o = some (-1) ∧ H4 = H3) I3 ⟨1, rfl, -1, rfl, rfl, rfl⟩) fun vs s4 ⟨o, H4, I4, ps, eo, e4⟩ => ?_
  subst eo e4
  have I5 : Inv X pins σ H4 { s4 with heap := s4.heap.push { cls := .type "slice", data := .fields #[vl, vu, vs] } } := I4.kept (t' := s4.toks) fun b ob q => Heap.get?_push_of_some _ q
  obtain ⟨its, r, ht, hz⟩ := I5.tuple hx
  have hlen := r.length
  show wpAny (model X.prog X.w) X.A (subscriptTail e (.Slice none none (some (.UnaryOp .USub (.Constant (.int 1) k p1) p2)) p3) (.ref a) (.ref s4.heap.objs.size)) (EP X pins σ Q) X.xe { s4 with heap := s4.heap.push { cls := .type "slice", data := .fields #[vl, vu, vs] } }
  refine tail_any (ops := [.ref a, .ref s4.heap.objs.size]) ht.typeIs (PyProof.Rows.slot_tuple_getitem.lookup) ?_ (by with_unfolding_all rfl)
  refine HT.getItem_tuple_rev ht (Heap.IsSliceOf.new _ vl vu vs) pl pu ps ?_ (by rw [List.size_toArray]; omega)
  refine ⟨.ref _, _, I5.laid (t' := s4.toks) (o := .tup xs.reverse) (fun b ob q => Heap.get?_push_of_some _ q) (Nat.le_refl _) ?_, rfl, q _ (I5.hok.fresh (Nat.le_refl _))⟩
  exact ⟨by rw [List.length_reverse]; exact hz, _, r.reverse, IsTup.new _ _⟩
end L2
namespace HD
open PySem PySem.Spec PyProof.Rows L2
variable [Tb]
section
variable {X : Cx} {e : Expr} {pos : Pos} {m r : List Nat} {f : M D}
def revT : D → Option D
  | .tup ds => some (.tup ds.reverse)
  | _ => none
theorem de_revT {k : Nat} {p1 p2 p3 : Pos} (he : DE X m r f e) : DE X m r (una f revT) (.Subscript e (.Slice none none (some (.UnaryOp .USub (.Constant (.int 1) k p1) p2)) p3) pos) := pe_weak (pe_revT he) fun σ H Q ⟨G, env, F, d, env', s, hf, q⟩ => by
  obtain ⟨x, h1, h2⟩ := una_some hf
  refine ⟨G, env, F, x, env', s, h1, fun v H1 G1 F1 s1 ev1 rp1 => ?_⟩
  cases x with
  | tup ds =>
    simp only [revT, Option.some.injEq] at h2
    subst h2
    cases rp1 with
    | @tup a us _ ha hr =>
      refine ⟨a, us, rfl, SqT.of ((s1.vwH r) _ _ ha), fun p hp => ?_⟩
      obtain ⟨s2, ev2, sm⟩ := s1.grow (Grow.new (s1.vwH r) hp (o := .tup us.reverse))
      refine q _ _ _ F1 s2 ((ev1.trans ev2).mono fun i hi => by simpa using hi) (Rep.mono sm (.tup upd_same (hr.rev.mono fun a o e => ?_)))
      rw [upd_ne (ne_of_none ((s1.vwH r) a o e) hp)]
      exact e
  | _ => simp [revT] at h2
end

/-! ### f(k = v, ..) -/
def gK {α : Type} (d : α) (n : Nat) (pm : List Nat) : List α → List α → List α := fun us ws => if us.length = 0 ∧ ws.length = n then pm.map fun j => ws.getD j d else []
theorem vals_getD : ∀ {vs : List V} {us : List Value}, Vals vs us → ∀ j, RelV (vs.getD j .non) (us.getD j .none)
  | _, _, .nil, j => by simp; exact (show Value.none = Value.none from rfl)
  | _, _, .cons a b, 0 => by simpa using a
  | _, _, .cons a b, j + 1 => by simpa using vals_getD b j
theorem vals_map {vs : List V} {us : List Value} (h : Vals vs us) : ∀ pm : List Nat, Vals (pm.map fun j => vs.getD j .non) (pm.map fun j => us.getD j .none)
  | [] => .nil
  | j :: pm => .cons (vals_getD h j) (vals_map h pm)
theorem Fun.kbinds {K : PySem.W.Frag} {x qual : Str} {st : Stmt} {f : Addr} {fd : FuncData} {ps ks : List Str} {pm : List Nat} (F : Fun K x qual st f fd) (hp : ps ≠ [] )
    (h : ∀ (kV doc pm' : Value) (an : Option Addr) (cdv ct : Value) (ws : List Value), ws.length = ks.length → bindArgs (PySem.W.fnOf x qual (defArgs st) (defBody st) (defScope st) .none kV doc pm' an cdv ct) ⟨[], ks.zip ws⟩ = pure (ps.zip (pm.map fun j => ws.getD j .none))) :
    KBinds K fd ps ks (gK .none ks.length pm) (gK .non ks.length pm) := by
  obtain ⟨oc, od, kV, doc, pm', an, cdv, ct, osl, rfl, lk, hcd⟩ := F.ex
  refine ⟨fun s us ws _ hl => ?_, fun {vs us zs ws} r rz => ?_⟩
  · unfold gK at hl ⊢
    by_cases c : us.length = 0 ∧ ws.length = ks.length
    · rw [if_pos c]
      have : us = [] := List.length_eq_zero_iff.mp c.1
      subst this
      exact .of_eq (h kV doc pm' an cdv ct ws c.2)
    · rw [if_neg c] at hl
      exact absurd (List.length_eq_zero_iff.mp hl.symm) hp
  · unfold gK
    rw [r.length, rz.length]
    split
    · exact vals_map rz pm
    · exact .nil
section
variable {X : Cx} {kws : List Keyword} {e : Expr} {es : List Expr} {m m1 m2 r r1 r2 : List Nat} {pos : Pos} {f1 : M D} {fs : M (List D)}
abbrev DK (X : Cx) (m r : List Nat) (f : M (List D)) (kws : List Keyword) : Prop := PK X kws (tDA X.K m r f)
theorem pk_weak {t t' : TA} (h : PK X kws t) (w : ∀ σ H Q, t' σ H Q → t σ H Q) : PK X kws t' := ⟨fun pos pins s σ H Q I q => h.run pos pins s σ H Q I (w σ H Q q)⟩
theorem dk_nil : DK X [] [] args0 [] := pk_weak pk_nil fun σ H Q ⟨G, env, F, ds, env', s, hf, q⟩ => by
  simp only [args0, Option.some.injEq, Prod.mk.injEq] at hf
  obtain ⟨rfl, rfl⟩ := hf
  exact q [] H G F s Evo.refl .nil
theorem dk_cons {nm : Option Str} {kp : Pos} (ha : DE X m1 r1 f1 e) (hb : DK X m2 r2 fs kws) : DK X (m1 ++ m2) (r1 ++ r2) (argsC (dj r1 m2) f1 fs) (⟨nm, e, kp⟩ :: kws) := by
  refine pk_weak (pk_cons ha hb) fun σ H Q ⟨G, env, F, ds, env', s, hf, q⟩ => ?_
  obtain ⟨x, e1, xs, h1, h2, c, rfl⟩ := argsC_some hf
  refine ⟨G, env, F, x, e1, s, h1, fun v H1 G1 F1 s1 ev1 rp1 => ⟨G1, e1, F1, xs, env', s1, h2, fun ws H2 G2 F2 s2 ev2 rp2 => ?_⟩⟩
  exact q _ H2 G2 F2 s2 (ev1.trans ev2) (.cons (keepRep s1 s2 ev2 rp1 c fun i hi => List.mem_append_left _ hi) (rp2.mono (s2.vwSub fun i hi => List.mem_append_right _ hi)))
/-- the arguments in the parameters' order -/
def permM (n : Nat) (pm : List Nat) (f : M (List D)) : M (List D) := fun env => (f env).bind fun p => if p.1.length = n then (pm.mapM fun j => p.1[j]?).map fun ds => (ds, p.2) else none
def nones (n : Nat) : List (Option Nat) := List.replicate n none
theorem cr_perm {K : PySem.W.Frag} {W : Hp} {σ : L2.St} {zs : List V} {ds : List D} (h : Reps K W zs ds) : ∀ {pm : List Nat} {es : List D}, (pm.mapM fun j => ds[j]?) = some es → CR K W σ (nones pm.length) (pm.map fun j => zs.getD j .non) es
  | [], es, e => by
    simp at e
    subst e
    exact .nil
  | j :: pm, es, e => by
    rw [List.mapM_cons] at e
    obtain ⟨d, e1, e2⟩ := bind_some' e
    obtain ⟨r, e3, e4⟩ := bind_some' e2
    cases e4
    obtain ⟨v, h1, h2⟩ := h.get e1
    have : zs.getD j .non = v := by
      rw [List.getD_eq_getElem?_getD, h1]
      rfl
    show CR K W σ (none :: nones pm.length) (zs.getD j .non :: pm.map fun j => zs.getD j .non) (d :: r)
    rw [this]
    exact .shr h2 (cr_perm h e3)
theorem df_callK {x : Str} {p : Pos} {k : Nat} {f : Addr} {fd : FuncData} {ps ks : List Str} {pm : List Nat} {φ : FnD} (Fk : FnOk X.prog X.w X.K X.mg X.base CX0 k f fd ps (spD X.K (nones pm.length) φ)) (hr : Room k X.A) (hg : Gl X x) (hm : X.mg x = some (.ref f)) (hk : PySem.W.keepIn X.K (.ref f) = true)
    (hb : KBinds X.K fd ps ks (gK .none ks.length pm) (gK .non ks.length pm)) (ha : DK X m r fs kws)
    (hall : (backToKw pos (keywordEach kws X.env)).all (·.1.isSome) = true := by rfl) (hks : (backToKw pos (keywordEach kws X.env)).filterMap (·.1) = ks := by rfl)
    (hdb : (x == ("__debug__" : Str)) = false := by decide)
    (hpl : ((backTo pos (starEach [] X.env)).any (·.1) || (backToKw pos (keywordEach kws X.env)).any (·.1.isNone)) = false := by rfl)
    (al : alike (nones pm.length) (nones pm.length) = true := by rfl) (io : ioJ (nones pm.length) = [] := by rfl) :
    DF X m (callF (nones pm.length) (nones pm.length) r φ (permM ks.length pm fs)) (.Call (.Name x p) [] kws pos) := by
  refine ⟨fun pins s σ H Q I h => ?_⟩
  have h1 := tDF_call (X := X) (js := nones pm.length) (m := m) (r := r) (ms := nones pm.length) (fs := permM ks.length pm fs) (by rw [io]; exact .nil) al (by rw [io, List.append_nil]; exact h)
  have h2 : tDA X.K m r fs σ H fun zs H1 => spD X.K (nones pm.length) φ (gK .non ks.length pm [] zs) H1 Q E0 := by
    obtain ⟨G, env, F, ds, env', s, hf, q⟩ := h1
    obtain ⟨⟨es, e1⟩, g1, g2⟩ := bind_some' hf
    simp only [] at g2
    split at g2
    · rename_i hl
      obtain ⟨fs', g3, g4⟩ := map_some' g2
      simp only [Prod.mk.injEq] at g4
      obtain ⟨rfl, rfl⟩ := g4
      refine ⟨G, env, F, es, e1, s, g1, fun zs H1 G1 F1 s1 ev1 rp => ?_⟩
      have := q (pm.map fun j => zs.getD j .non) H1 G1 F1 s1 ev1 (cr_perm rp g3)
      simp only [List.append_nil] at this
      show spD X.K (nones pm.length) φ (gK .non ks.length pm [] zs) H1 Q E0
      unfold gK
      rw [if_pos ⟨rfl, by rw [rp.length]; exact hl⟩]
      exact this
    · cases g2
  refine wpAny_Call_Name_kw (ld_glob I hg hm ?_ hdb)
  refine PySem.W.callWith_KW0 (h₀ := X.base) I.ok.mod.kin hk hall (thn (ha.run pos pins s σ H _ I h2) fun ws s2 ⟨zs, H2, I2, rz, q2⟩ => ⟨I2.kIn, ?_⟩) hpl
  rw [hks]
  exact run_fnk Fk hr hb pass0 I2 .nil rz q2
end
end HD
set_option Elab.async false
set_option linter.all false
set_option maxRecDepth 100000
set_option maxHeartbeats 2000000
set_option autoImplicit false
/-! HD22: a, b, c = x, y, z. -/
namespace HD
open PySem PySem.Spec PyProof.Rows L2
variable [Tb]

section
variable {X : Cx} {m1 m2 m3 : List Nat}
def setS3 (i j l : Nat) (f1 f2 f3 : M (D × Nat)) : SF := fun env => (f1 env).bind fun p => (f2 p.2).bind fun q => (f3 q.2).bind fun t => if i < t.2.length ∧ j < t.2.length ∧ l < t.2.length then some (.nx (((t.2.set i (mkS p.1.1 p.1.2)).set j (mkS q.1.1 q.1.2)).set l (mkS t.1.1 t.1.2))) else none
theorem ds_par3 {i j l : Nat} {x y z : Str} {a b c : Expr} {px py pz pt pos : Pos} {kt k2 pt2} {fa fb fc : M (D × Nat)} (hc : X.calm = true) (hN : X.N.Nodup) (hi : X.N[i]? = some x) (hj : X.N[j]? = some y) (hl : X.N[l]? = some z) (hij : i ≠ j) (hil : i ≠ l) (hjl : j ≠ l)
    (hx : X.env.scope.names.lookup x = some .local) (hy : X.env.scope.names.lookup y = some .local) (hz : X.env.scope.names.lookup z = some .local) (ha : DF X m1 fa a) (hb : DF X m2 fb b) (hcc : DF X m3 fc c)
    (hw : swappedStores [.Tuple [.Name x px, .Name y py, .Name z pz] kt pt] (.Tuple [a, b, c] k2 pt2) X.env = pure (some [x, y, z]))
    (hs : swapsWithSole [.Tuple [.Name x px, .Name y py, .Name z pz] kt pt] (.Tuple [a, b, c] k2 pt2) pos.line X.env = pure false := by rfl)
    (hs1 : starEach [a, b, c] X.env = (false, eval a X.env) :: starEach [b, c] X.env := by rfl) (hs2 : starEach [b, c] X.env = (false, eval b X.env) :: starEach [c] X.env := by rfl) (hs3 : starEach [c] X.env = (false, eval c X.env) :: starEach [] X.env := by rfl) :
    DS X (m1 ++ m2 ++ m3 ++ [i] ++ [j] ++ [l]) ([i] ++ [j] ++ [l]) (setS3 i j l fa fb fc) (.Assign [.Tuple [.Name x px, .Name y py, .Name z pz] kt pt] (.Tuple [a, b, c] k2 pt2) pos) := by
  refine ps_weak (ps_par3 hc hN hi hj hl hij hil hjl hx hy hz (pa_cons ha (pa_cons hb (pa_cons hcc pa_nil hs3) hs2) hs1) hw hs) fun Dn σ H ⟨G, env, F, o, s, hf, q⟩ => ?_
  obtain ⟨⟨⟨d, n⟩, e1⟩, h1, h2⟩ := bind_some' hf
  obtain ⟨⟨⟨d2, n2⟩, e2⟩, h3, h4⟩ := bind_some' h2
  obtain ⟨⟨⟨d3, n3⟩, e3⟩, h5, h6⟩ := bind_some' h4
  by_cases c : i < e3.length ∧ j < e3.length ∧ l < e3.length
  · simp only [] at h6
    rw [if_pos c] at h6
    cases h6
    refine ⟨G, env, F, (d, n), e1, s, h1, fun v H1 G1 F1 FT s1 ev1 ow hF => ⟨G1, e1, F1, (d2, n2), e2, s1, h3, fun w H2 G2 F2 FT2 s2 ev2 ow2 hF2 => ⟨G2, e2, F2, (d3, n3), e3, s2, h5, fun u H3 G3 F3 FT3 s3 ev3 ow3 hF3 => ⟨v, w, u, rfl, ?_⟩⟩⟩⟩
    obtain ⟨owA, hFA⟩ := ow.later (fun a ha => (hF a ha).1) (ev2.trans ev3)
    obtain ⟨owB, hFB⟩ := ow2.later (fun a ha => (hF2 a ha).1) ev3
    have apt : ∀ {Ha Ga Hb Gb : Hp} {Fa Fb : Nat → List Addr} {na : Nat} {va : V} {da : D} {FTa FTb : List Addr}, Own X.K Ga Ha na va da FTa → (∀ a ∈ FTa, Ga a = none ∧ ∀ k, a ∉ Fa k) → (∀ a ∈ FTb, (∃ k, a ∈ Fa k) ∨ Ha a = none) → ∀ a ∈ FTb, a ∉ FTa := fun {Ha Ga Hb Gb Fa Fb na va da FTa FTb} o f g a h2 h1 => by
      obtain ⟨ob, ho, _⟩ := o.mut a h1
      rcases g a h2 with ⟨k, hk⟩ | z
      · exact (f a h1).2 k hk
      · rw [ho] at z; cases z
    have ap2 := apt (Hb := H2) (Gb := G2) (Fb := F2) ow (fun a ha => (hF a ha).1) fun a ha => (hF2 a ha).2
    obtain ⟨owA2, hFA2⟩ := ow.later (fun a ha => (hF a ha).1) ev2
    have ap3 := apt (Hb := H3) (Gb := G3) (Fb := F3) owA2 hFA2 fun a ha => (hF3 a ha).2
    have ap4 := apt (Hb := H3) (Gb := G3) (Fb := F3) ow2 (fun a ha => (hF2 a ha).1) fun a ha => (hF3 a ha).2
    have s4 := s3.put c.1 owA hFA
    have out4 : ∀ a ∈ FT2, ∀ k, a ∉ fset F3 i FT k := fun a ha k hk => by
      by_cases z : k = i
      · subst z
        rw [fset_same] at hk
        exact ap2 a ha hk
      · rw [fset_ne z] at hk
        exact (hFB a ha).2 k hk
    have s5 := s4.put (i := j) (by rw [List.length_set]; exact c.2.1) owB fun a ha => ⟨(hFB a ha).1, out4 a ha⟩
    have s6 := s5.put (i := l) (by rw [List.length_set, List.length_set]; exact c.2.2) ow3 fun a ha => ⟨(hF3 a ha).1.1, fun k hk => by
      by_cases z : k = j
      · subst z
        rw [fset_same] at hk
        exact ap4 a ha hk
      · rw [fset_ne z] at hk
        by_cases z2 : k = i
        · subst z2
          rw [fset_same] at hk
          exact ap3 a ha hk
        · rw [fset_ne z2] at hk
          exact (hF3 a ha).1.2 k hk⟩
    refine q _ H3 G3 _ s6 (Evo.put (Evo.put (Evo.put ((ev1.trans ev2).trans ev3) fun a ha => (hF a ha).2) fun a ha => ?_) fun a ha => ?_) ((Only.set.trans Only.set).trans Only.set)
    · rcases (hF2 a ha).2 with ⟨k, hk⟩ | z
      · exact ev1.f k a hk
      · exact (ev1.none_of z).elim .inr .inl
    · rcases (hF3 a ha).2 with ⟨k, hk⟩ | z
      · exact (ev1.trans ev2).f k a hk
      · exact ((ev1.trans ev2).none_of z).elim .inr .inl
  · simp only [] at h6
    rw [if_neg c] at h6
    cases h6
end
end HD
set_option Elab.async false
set_option linter.all false
set_option maxRecDepth 100000
set_option maxHeartbeats 2000000
set_option autoImplicit false
/-! HD23: short words for the printed terms. -/
namespace HD
open PySem PySem.Spec PyProof.Rows L2
variable [Tb]
theorem u1 {k : Nat} {A : Around} (r : Room k A) : A.units + 1 < cLine := by have := r.un; omega
theorem u64 {k : Nat} {A : Around} (r : Room k A) : A.units + 64 < cLine := by have := r.un; omega
theorem u65 {k : Nat} {A : Around} (r : Room k A) : A.units + 65 < cLine := by have := r.un; omega
theorem u70 {k : Nat} {A : Around} (r : Room k A) : A.units + 70 < cLine := by have := r.un; omega
theorem rm {k : Nat} {A : Around} (r : Room k A) : Room k A := r
/-- how often a while may turn, how deep a def may call itself -/
def WF : Nat := 1000000
def RF : Nat := 100
theorem ioW {ms : List (Option Nat)} {ww : List Nat} (h : ((List.range ms.length).all fun i => match ms[i]? with
    | some (some _) => !ww.contains i
    | _ => true) = true) : ∀ (i n : Nat), ms[i]? = some (some n) → i ∉ ww := by
  intro i n e z
  have hi : i < ms.length := (List.getElem?_eq_some_iff.mp e).1
  have := List.all_eq_true.mp h i (List.mem_range.mpr hi)
  rw [e] at this
  simp [z] at this
theorem mg_int {X : Cx} {x : Str} {i : Int} {pos : Pos} (hg : Gl X x) (hm : ∃ t, X.mg x = some (.int i t)) (hd : (x == ("__debug__" : Str)) = false := by decide) : DE X [] [] (cst (.int i)) (.Name x pos) := by
  obtain ⟨t, ht⟩ := hm
  exact de_glob hg ht hd
end HD
namespace HD
theorem posW {ms : List (Option Nat)} (h : (ms.all fun m => match m with
    | some 0 => false
    | _ => true) = true) : ∀ n, some n ∈ ms → 0 < n := by
  intro n hn
  have := List.all_eq_true.mp h _ hn
  cases n with
  | zero => simp at this
  | succ n => omega
end HD
namespace HD
open PySem PySem.Spec PyProof.Rows L2
variable [Tb]
section
variable {X : Cx} {m r : List Nat} {tg it : Expr} {pos : Pos}
theorem ds_forP {body : List Stmt} {fi : M (List D × Bool)} {gt : GF} {fb : SF} {mt mb wb : List Nat} {rE st : Bool} (hi : DI X m r fi tg it) (hg : DG X mt gt tg) (hb : DB X mb wb fb body) (hp : PassesOwn (model X.prog X.w) X.A X.env X.xe := by exact PassesOwn.never) (hc : X.calm = true := by rfl) (h1 : r.isEmpty = rE := by rfl) (h2 : dj r (mt ++ mb) = st := by rfl)
    (hs : ∀ x, foldedSetIterable it X.env x = pure x := by intro _; rfl) : DS X (m ++ (mt ++ mb)) (mt ++ wb) (forS rE st fi gt fb) (.For tg it body [] pos) := by
  rw [← h1, ← h2]
  exact ds_for hp hc hi hg hb hs
theorem ds_whileP {c : Expr} {body : List Stmt} {fc : M Bool} {fb : SF} {mb wb : List Nat} {N : Nat} (hc : DT X m fc c) (hb : DB X mb wb fb body) (hp : PassesOwn (model X.prog X.w) X.A X.env X.xe := by exact PassesOwn.never) : DS X (m ++ mb) wb (whD fc fb N) (.While c body [] pos) := ds_while N hp hc hb
end
end HD
namespace HD
theorem memW {a b : List Nat} (h : (a.all fun i => b.contains i) = true) : ∀ i ∈ a, i ∈ b := fun i hi => by
  have := List.all_eq_true.mp h i hi
  simpa using this
end HD
namespace HD
open PySem PySem.Spec PyProof.Rows L2
variable [Tb]
theorem look_f {f : Str × NameKind → Str × NameKind} (h1 : ∀ p, (f p).1 = p.1) (h2 : ∀ p, p.2 = .cell ∨ p.2 = .free → (f p).2 = .cell ∨ (f p).2 = .free) {x : Str} : ∀ {ns : List (Str × NameKind)}, (ns.lookup x = some .cell ∨ ns.lookup x = some .free) → ((ns.map f).lookup x = some .cell ∨ (ns.map f).lookup x = some .free)
  | [], h => by simp at h
  | p :: r, h => by
    have ih := @look_f f h1 h2 x r
    rw [List.map_cons]
    by_cases e : x = p.1
    · have e1 : (p :: r).lookup x = some p.2 := by rw [e]; simp [List.lookup]
      have e2 : (f p :: r.map f).lookup x = some (f p).2 := by rw [e, ← h1 p]; simp [List.lookup]
      rw [e1] at h
      rw [e2]
      exact (h2 p (by simpa using h)).imp (fun z => by rw [z]) fun z => by rw [z]
    · have e1 : (p :: r).lookup x = r.lookup x := by
        have : (x == p.1) = false := by simpa using e
        simp [List.lookup, this]
      have e2 : (f p :: r.map f).lookup x = (r.map f).lookup x := by
        have : (x == (f p).1) = false := by rw [h1 p]; simpa using e
        simp [List.lookup, this]
      rw [e1] at h
      rw [e2]
      exact ih h
theorem blkOk_re {N : List Str} {sc scope : Scope} {own : List (Str × Nat)} {env : PySem.Env} (h : BlkOk N sc scope own) : BlkOk N (relabel sc env) scope own := ⟨h.kind, h.uniq, h.ix, fun y hy e => look_f (fun p => by dsimp only; split <;> rfl) (fun p hp => by
    dsimp only
    split
    · exact .inl rfl
    · exact hp) (h.free y hy e), h.own⟩
end HD
set_option Elab.async false
set_option linter.all false
set_option maxRecDepth 100000
set_option maxHeartbeats 2000000
set_option autoImplicit false
/-! HE0: how a printed function is worked out. -/
namespace HD
open PySem

/-! combinators at a known environment -/
theorem seqS_nx {f g : SF} {e e1 : Env} (h : f e = some (.nx e1)) : seqS f g e = g e1 := by unfold seqS; rw [h]; rfl
theorem seqS_rt {f g : SF} {e e1 : Env} {d : D} {n : Nat} (h : f e = some (.rt d n e1)) : seqS f g e = some (.rt d n e1) := by unfold seqS; rw [h]; rfl
theorem seqS_bk {f g : SF} {e e1 : Env} (h : f e = some (.bk e1)) : seqS f g e = some (.bk e1) := by unfold seqS; rw [h]; rfl
/-- a loop that runs to its end: I after each item -/
theorem loopD_inv {α : Type} {rE : Bool} {tgt : GF} {body : SF} (enc : α → D) (I : List α → Env → Prop) (hrE : rE = true ∨ ∀ a, (enc a).im = true)
    (step : ∀ (pre : List α) (a : α) (env : Env), I pre env → ∃ e1 e2, tgt (enc a) env = some e1 ∧ (body e1 = some (.nx e2) ∨ body e1 = some (.ct e2)) ∧ I (pre ++ [a]) e2) :
    ∀ (as pre : List α) (env : Env), I pre env → ∃ e2, loopD rE tgt body (as.map enc) env = some (.nx e2) ∧ I (pre ++ as) e2
  | [], pre, env, h => ⟨env, rfl, by simpa using h⟩
  | a :: as, pre, env, h => by
    obtain ⟨e1, e2, h1, h2, h3⟩ := step pre a env h
    have c : (rE || (enc a).im) = true := by
      rcases hrE with z | z
      · rw [z]; rfl
      · rw [z a]; simp
    obtain ⟨e3, h4, h5⟩ := loopD_inv enc I hrE step as (pre ++ [a]) e2 h3
    refine ⟨e3, ?_, by simpa using h5⟩
    rw [List.map_cons]
    unfold loopD
    rw [if_pos c, h1]
    simp only [Option.bind_some]
    rcases h2 with h2 | h2
    · rw [h2]; exact h4
    · rw [h2]; exact h4
/-- the same, each item's place known -/
theorem loopD_at {rE : Bool} {tgt : GF} {body : SF} (ds : List D) (I : Nat → Env → Prop) (hrE : rE = true ∨ ∀ d ∈ ds, d.im = true)
    (step : ∀ (i : Nat) (d : D) (env : Env), ds[i]? = some d → I i env → ∃ e1 e2, tgt d env = some e1 ∧ (body e1 = some (.nx e2) ∨ body e1 = some (.ct e2)) ∧ I (i + 1) e2) :
    ∀ (k i : Nat) (env : Env), i + k = ds.length → I i env → ∃ e2, loopD rE tgt body (ds.drop i) env = some (.nx e2) ∧ I ds.length e2
  | 0, i, env, e, h => by
    have : i = ds.length := by omega
    subst this
    rw [List.drop_length]
    exact ⟨env, rfl, h⟩
  | k + 1, i, env, e, h => by
    have hi : i < ds.length := by omega
    obtain ⟨e1, e2, h1, h2, h3⟩ := step i ds[i] env (List.getElem?_eq_getElem hi) h
    have c : (rE || (ds[i]).im) = true := by
      rcases hrE with z | z
      · rw [z]; rfl
      · rw [z _ (List.getElem_mem hi)]; simp
    obtain ⟨e3, h4, h5⟩ := loopD_at ds I hrE step k (i + 1) e2 (by omega) h3
    refine ⟨e3, ?_, h5⟩
    rw [List.drop_eq_getElem_cons hi]
    unfold loopD
    rw [if_pos c, h1]
    simp only [Option.bind_some]
    rcases h2 with h2 | h2
    · rw [h2]; exact h4
    · rw [h2]; exact h4
/-- a while by a measure -/
theorem whD_inv {c : M Bool} {body : SF} (I : Nat → Env → Prop) (N : Nat) (step : ∀ n env, I n env → ∃ b e1, c env = some (b, e1) ∧ if b = true then ∃ e2 k, (body e1 = some (.nx e2) ∨ body e1 = some (.ct e2)) ∧ k < n ∧ I k e2 else True) :
    ∀ (n : Nat) (env : Env), I n env → n < N → ∃ e1 e0 k, whD c body N env = some (.nx e1) ∧ c e0 = some (false, e1) ∧ I k e0 := by
  have core : ∀ (n : Nat) (env : Env), I n env → ∃ e1 e0 k, whD c body (n + 1) env = some (.nx e1) ∧ c e0 = some (false, e1) ∧ I k e0 := by
    intro n
    induction n using Nat.strongRecOn with
    | ind n ih =>
      intro env h
      obtain ⟨b, e1, h1, h2⟩ := step n env h
      cases b with
      | false =>
        refine ⟨e1, env, n, ?_, h1, h⟩
        unfold whD
        rw [h1]
        rfl
      | true =>
        rw [if_pos rfl] at h2
        obtain ⟨e2, k, h3, h4, h5⟩ := h2
        obtain ⟨e3, e0, k', h6, h7, h8⟩ := ih k h4 e2 h5
        refine ⟨e3, e0, k', ?_, h7, h8⟩
        have h9 := whD_mono (show k + 1 ≤ n by omega) h6
        unfold whD
        rw [h1]
        simp only [Option.bind_some, if_true]
        rcases h3 with h3 | h3
        · rw [h3]; exact h9
        · rw [h3]; exact h9
  intro n env h hN
  obtain ⟨e1, e0, k, h1, h2, h3⟩ := core n env h
  exact ⟨e1, e0, k, whD_mono (by omega) h1, h2, h3⟩
theorem runF_rt {ms : List (Option Nat)} {nl : Nat} {fb : SF} {ds : List D} {env e : Env} {d : D} {n : Nat} {outs : List D} (h : fb env = some (.rt d n e)) (ho : finO ms 0 e = some outs) (hl : ds.length = ms.length := by rfl) (he : env0 ms ds ++ List.replicate (nl - ms.length) .none = env := by rfl) : runF ms nl fb ds = some (d, n, outs) := by
  unfold runF
  rw [if_pos hl, he, h]
  simp [ho]
theorem runF_nx {ms : List (Option Nat)} {nl : Nat} {fb : SF} {ds : List D} {env e : Env} {outs : List D} (h : fb env = some (.nx e)) (ho : finO ms 0 e = some outs) (hl : ds.length = ms.length := by rfl) (he : env0 ms ds ++ List.replicate (nl - ms.length) .none = env := by rfl) : runF ms nl fb ds = some (.non, 0, outs) := by
  unfold runF
  rw [if_pos hl, he, h]
  simp [ho]
end HD
set_option Elab.async false
set_option linter.all false
set_option maxRecDepth 100000
set_option maxHeartbeats 2000000
set_option autoImplicit false
/-! HE1: equations to work with. -/
namespace HD
open PySem

section
variable {env : Env} {st : Bool} {f f1 f2 : M D} {g : D → D → Option D} {i : Nat}
@[simp] theorem e_cst (d : D) : cst d env = some (d, env) := rfl
theorem e_nmS {d : D} (h : env[i]? = some (.shr d)) : nm i env = some (d, env) := by unfold nm; rw [h]
theorem e_nmO {n : Nat} {d : D} (h : env[i]? = some (.own n d)) : nm i env = some (d, env) := by unfold nm; rw [h]
@[simp] theorem e_bin : bin st f1 f2 g env = (f1 env).bind fun p => (f2 p.2).bind fun q => if (st || p.1.im) = true then (g p.1 q.1).map fun d => (d, q.2) else none := rfl
@[simp] theorem e_una {g : D → Option D} : una f g env = (f env).bind fun p => (g p.1).map fun d => (d, p.2) := rfl
@[simp] theorem e_args0 : args0 env = some ([], env) := rfl
@[simp] theorem e_argsC {fs : M (List D)} : argsC st f fs env = (f env).bind fun p => (fs p.2).bind fun q => if (st || p.1.im) = true then some (p.1 :: q.1, q.2) else none := rfl
@[simp] theorem e_app {fs : M (List D)} {g : List D → Option D} : app fs g env = (fs env).bind fun p => (g p.1).map fun d => (d, p.2) := rfl
@[simp] theorem e_tst : tst f env = (f env).bind fun p => (asB p.1).map fun b => (b, p.2) := rfl
@[simp] theorem e_asB (b : Bool) : asB (.bl b) = some b := rfl
@[simp] theorem e_andB {a b : M Bool} : andB a b env = (a env).bind fun p => if p.1 = true then b p.2 else some (false, p.2) := rfl
@[simp] theorem e_orB {a b : M Bool} : orB a b env = (a env).bind fun p => if p.1 = true then some (true, p.2) else b p.2 := rfl
@[simp] theorem e_notB {a : M Bool} : notB a env = (a env).map fun p => (!p.1, p.2) := rfl
@[simp] theorem e_fst {h : M (D × Nat)} : fst' h env = (h env).map fun p => (p.1.1, p.2) := rfl
@[simp] theorem e_frN {r : List Nat} {n : Nat} {fs : M (List D)} {gn : List D → Option D} : frN r n fs gn env = (fs env).bind fun p => if (r.isEmpty || D.ims p.1) = true then (gn p.1).map fun d => ((d, n), p.2) else none := rfl
@[simp] theorem e_frF {r : List Nat} : frF r f env = (f env).map fun p => ((p.1, 0), if p.1.im = true then p.2 else frz r p.2) := rfl
@[simp] theorem e_setS {h : M (D × Nat)} : setS i h env = (h env).bind fun p => if i < p.2.length then some (.nx (p.2.set i (mkS p.1.1 p.1.2))) else none := rfl
@[simp] theorem e_retS {h : M (D × Nat)} : retS h env = (h env).map fun p => .rt p.1.1 p.1.2 p.2 := rfl
@[simp] theorem e_exprS {α : Type} {h : M α} : exprS h env = (h env).map fun p => .nx p.2 := rfl
@[simp] theorem e_seqS {a b : SF} : seqS a b env = (a env).bind fun o => match o with
  | .nx e => b e
  | o => some o := rfl
@[simp] theorem e_ifS {c : M Bool} {a b : SF} : ifS c a b env = (c env).bind fun p => if p.1 = true then a p.2 else b p.2 := rfl
@[simp] theorem e_nxt : nxt env = some (.nx env) := rfl
theorem e_pnm {n : Nat} {d : D} (h : env[i]? = some (.own (n + 1) d)) : pnm i env = some ([], env) := by unfold pnm; rw [h]; rfl
@[simp] theorem e_pix {fp : M (List Nat)} : pix i fp f env = (fp env).bind fun p => (f p.2).bind fun q => match q.2[i]? with
  | some (.own n d) => (subP d p.1).bind fun s => (posD s q.1).bind fun j => if p.1.length + 1 < n then some (p.1 ++ [j], q.2) else none
  | _ => none := rfl
@[simp] theorem e_popP {fp : M (List Nat)} : popP i fp env = (fp env).bind fun p => popAt i p.1 p.2 lastJ := rfl
@[simp] theorem e_appP {fp : M (List Nat)} {fe : M (D × Nat)} : appP i fp fe env = (fp env).bind fun p => if lstAt i p.1 p.2 = true then (fe p.2).bind fun q =>
    (lstPut i p.1 q.2 fun k ds => if (fits k q.1.2 q.1.1 && decide (ds.length < 16777216)) = true then some (ds ++ [q.1.1]) else none).map fun e => (.non, e)
  else none := rfl
@[simp] theorem e_storeS {fv : M (D × Nat)} {fp : M (List Nat)} {fi : M D} : storeS i fv fp fi env = (fv env).bind fun v => (fp v.2).bind fun p => (fi p.2).bind fun q => (objPut i p.1 q.2 (putD q.1 v.1.1 v.1.2)).map fun e => .nx e := rfl
end
@[simp] theorem d_im_int (i : Int) : (D.int i).im = true := rfl
@[simp] theorem d_im_bl (i : Bool) : (D.bl i).im = true := rfl
@[simp] theorem d_im_non : D.non.im = true := rfl
@[simp] theorem d_im_lst (ds : List D) : (D.lst ds).im = false := rfl
@[simp] theorem d_im_tup (ds : List D) : (D.tup ds).im = D.ims ds := rfl
@[simp] theorem d_ims_nil : D.ims [] = true := rfl
@[simp] theorem d_ims_cons (d : D) (ds : List D) : D.ims (d :: ds) = (d.im && D.ims ds) := rfl
@[simp] theorem d_add (i j : Int) : addD (.int i) (.int j) = some (.int (i + j)) := rfl
@[simp] theorem d_sub (i j : Int) : subD (.int i) (.int j) = some (.int (i - j)) := rfl
@[simp] theorem d_neg (i : Int) : negD (.int i) = some (.int (-i)) := rfl
@[simp] theorem d_cmp (p : Int → Int → Bool) (i j : Int) : cmpD p (.int i) (.int j) = some (.bl (p i j)) := rfl
@[simp] theorem d_int (i : Int) : intD (.int i) = some (.int i) := rfl
@[simp] theorem d_one (g : D → Option D) (d : D) : one g [d] = g d := rfl
theorem d_mul {i j : Int} (h : (smB i || smB j) = true) : mulD (.int i) (.int j) = some (.int (i * j)) := if_pos h
theorem d_mod {i j : Int} (h : 0 < j) : modD (.int i) (.int j) = some (.int (i % j)) := if_pos h
theorem d_fdiv {i j : Int} (h : dvB j = true) : fdivD (.int i) (.int j) = some (.int (i / j)) := if_pos h
@[simp] theorem d_eqI (i j : Int) : eqD (.int i) (.int j) = some (.bl (decide (i = j))) := by
  unfold eqD
  rw [if_pos (by rfl)]
  show some (D.bl (i == j)) = _
  by_cases h : i = j <;> simp [h]
theorem d_ix0 (x : D) (xs : List D) : idxD (.lst (x :: xs)) (.int 0) = some x := by
  show L2.atI (x :: xs) 0 = some x
  unfold L2.atI L2.ixN
  rw [if_pos (by omega), if_pos (by simp)]
  rfl
theorem d_ix1 (x y : D) (xs : List D) : idxD (.lst (x :: y :: xs)) (.int 1) = some y := by
  show L2.atI (x :: y :: xs) 1 = some y
  unfold L2.atI L2.ixN
  rw [if_pos (by omega), if_pos (by simp; omega)]
  rfl
theorem d_ixL (z : D) (xs : List D) : idxD (.lst (xs ++ [z])) (.int (-1)) = some z := by
  show L2.atI (xs ++ [z]) (-1) = some z
  unfold L2.atI L2.ixN
  rw [if_neg (by omega), if_pos (by simp; omega)]
  have : ((-1 : Int) + ((xs ++ [z]).length : Nat)).toNat = xs.length := by simp; omega
  rw [this]
  simp
theorem d_ixN {xs : List D} {j : Nat} {d : D} (h : xs[j]? = some d) : idxD (.lst xs) (.int (j : Int)) = some d := by
  show L2.atI xs (j : Int) = some d
  have hj := (List.getElem?_eq_some_iff.mp h).1
  unfold L2.atI L2.ixN
  rw [if_pos (by omega), if_pos (by omega), Int.toNat_natCast]
  exact h
theorem d_ixT {xs : List D} {j : Nat} {d : D} (h : xs[j]? = some d) : idxD (.tup xs) (.int (j : Int)) = some d := by
  show L2.atI xs (j : Int) = some d
  have hj := (List.getElem?_eq_some_iff.mp h).1
  unfold L2.atI L2.ixN
  rw [if_pos (by omega), if_pos (by omega), Int.toNat_natCast]
  exact h
theorem d_ixTL {xs : List D} {z : D} : idxD (.tup (xs ++ [z])) (.int (-1)) = some z := by
  show L2.atI (xs ++ [z]) (-1) = some z
  unfold L2.atI L2.ixN
  rw [if_neg (by omega), if_pos (by simp; omega)]
  have : ((-1 : Int) + ((xs ++ [z]).length : Nat)).toNat = xs.length := by simp; omega
  rw [this]
  simp
@[simp] theorem d_pos0 (x : D) (xs : List D) : posD (.lst (x :: xs)) (.int 0) = some 0 := by
  show (if (0 : Int) ≤ 0 ∧ (0 : Int) < ((x :: xs).length : Nat) then some (0 : Int).toNat else none) = some 0
  rw [if_pos ⟨by omega, by simp⟩]
  rfl
theorem okEs_ints : ∀ (n : Nat) (is : List Int), D.okEs n (is.map .int) = true
  | n, [] => by cases n <;> rfl
  | n, i :: is => by
    rw [List.map_cons, D.okEs, okEs_ints n is]
    cases n <;> rfl
theorem d_neNil {is : List Int} (h : is.length ≤ 16777216) : neD (.lst (is.map .int)) (.lst []) = some (.bl (!is.isEmpty)) := by
  unfold neD
  rw [if_pos (by
    show ((D.okEs 61 (is.map .int) && decide ((is.map D.int).length ≤ 16777216)) && true) = true
    rw [okEs_ints, List.length_map, decide_eq_true h]
    rfl)]
  cases is <;> rfl
end HD
set_option Elab.async false
set_option linter.all false
set_option maxRecDepth 100000
set_option maxHeartbeats 2000000
set_option autoImplicit false
/-! HE2: comprehensions worked out. -/
namespace HD
open PySem

inductive All2 {α β : Type} (P : α → β → Prop) : List α → List β → Prop
  | nil : All2 P [] []
  | cons {a : α} {b : β} {as : List α} {bs : List β} : P a b → All2 P as bs → All2 P (a :: as) (b :: bs)
theorem All2.len {α β : Type} {P : α → β → Prop} {as : List α} {bs : List β} (h : All2 P as bs) : as.length = bs.length := by
  induction h with
  | nil => rfl
  | cons _ _ ih => simp [ih]
theorem All2.map {α β γ : Type} {P : α → β → Prop} {f : γ → β} {Q : α → γ → Prop} (hf : ∀ a b, P a b → ∃ c, b = f c ∧ Q a c) {as : List α} {bs : List β} (h : All2 P as bs) : ∃ cs : List γ, bs = cs.map f ∧ All2 Q as cs := by
  induction h with
  | nil => exact ⟨[], rfl, .nil⟩
  | cons p _ ih =>
    obtain ⟨c, rfl, q⟩ := hf _ _ p
    obtain ⟨cs, rfl, r⟩ := ih
    exact ⟨c :: cs, rfl, .cons q r⟩
theorem rst_clr {e : Env} {vs : List Nat} (no : noOwn e vs = true) : rst e (clr e vs) vs = e := by
  refine List.ext_getElem? fun i => ?_
  rw [rst_get]
  by_cases c : i ∈ vs ∧ i < (clr e vs).length
  · rw [if_pos c]
    have q := List.all_eq_true.mp no i c.1
    cases z : e[i]? with
    | none => rw [z] at q; cases q
    | some x => rfl
  · rw [if_neg c, clr_get]
    by_cases d : i ∈ vs ∧ i < e.length
    · exact absurd ⟨d.1, by rw [clr_len]; exact d.2⟩ c
    · rw [if_neg d]
section
variable {α : Type} {enc : α → D} {c : Cmp}
/-- tests and elements that change nothing -/
theorem compL_pure {env0 : Env} {bt : α → Bool} {v : α → D} : ∀ {as : List α}, (∀ a ∈ as, (c.rE || (enc a).im) = true ∧ ∃ e1, c.tgt (enc a) env0 = some e1 ∧ c.tst e1 = some (bt a, e1) ∧ (bt a = true → c.elt e1 = some (v a, e1) ∧ (c.rEe || (v a).im) = true) ∧ clr e1 c.vs = env0) →
    compL c (as.map enc) env0 = some ((as.filter bt).map v, env0)
  | [], _ => rfl
  | a :: as, h => by
    obtain ⟨h0, e1, h1, h2, h3, h4⟩ := h a List.mem_cons_self
    have ih := compL_pure (env0 := env0) (bt := bt) (v := v) fun b hb => h b (List.mem_cons_of_mem _ hb)
    rw [List.map_cons]
    unfold compL
    rw [if_pos h0, h1]
    simp only [Option.bind_some, h2]
    cases hb : bt a with
    | true =>
      obtain ⟨h5, h6⟩ := h3 hb
      simp only [if_true, h5, Option.bind_some]
      rw [if_pos h6, h4, ih, List.filter_cons, hb]
      rfl
    | false =>
      rw [if_neg Bool.false_ne_true, h4, ih, List.filter_cons, hb]
      rfl
theorem compF_pure {dj' st : Bool} {it : M (List D × Bool)} {env e0 : Env} {as : List α} {bt : α → Bool} {v : α → D} (hi : it env = some ((as.map enc, st), e0)) (hc : (dj' || st) = true) (no : noOwn e0 c.vs = true) (hl : as.length ≤ 16777216)
    (h : ∀ a ∈ as, (c.rE || (enc a).im) = true ∧ ∃ e1, c.tgt (enc a) (clr e0 c.vs) = some e1 ∧ c.tst e1 = some (bt a, e1) ∧ (bt a = true → c.elt e1 = some (v a, e1) ∧ (c.rEe || (v a).im) = true) ∧ clr e1 c.vs = clr e0 c.vs) :
    compF dj' it c env = some ((.lst ((as.filter bt).map v), 1), e0) := by
  unfold compF
  rw [hi]
  simp only [Option.bind_some]
  rw [if_pos (by rw [hc, no, List.length_map, decide_eq_true hl]; rfl), compL_pure h]
  simp [rst_clr no]
/-- elements that may change what stands around; all are kept -/
theorem compL_inv {I : Env → Prop} {P : α → D → Prop} : ∀ {as : List α} {env : Env}, I env → (∀ a ∈ as, ∀ env, I env → (c.rE || (enc a).im) = true ∧ ∃ e1 e2 e3 d, c.tgt (enc a) env = some e1 ∧ c.tst e1 = some (true, e2) ∧ c.elt e2 = some (d, e3) ∧ (c.rEe || d.im) = true ∧ P a d ∧ I (clr e3 c.vs)) →
    ∃ ds env', compL c (as.map enc) env = some (ds, env') ∧ I env' ∧ All2 P as ds
  | [], env, h, _ => ⟨[], env, rfl, h, .nil⟩
  | a :: as, env, h, st => by
    obtain ⟨h0, e1, e2, e3, d, h1, h2, h3, h4, h5, h6⟩ := st a List.mem_cons_self env h
    obtain ⟨ds, env', h7, h8, h9⟩ := compL_inv h6 fun b hb => st b (List.mem_cons_of_mem _ hb)
    refine ⟨d :: ds, env', ?_, h8, .cons h5 h9⟩
    rw [List.map_cons]
    unfold compL
    rw [if_pos h0, h1]
    simp only [Option.bind_some, h2, if_true, h3]
    rw [if_pos h4, h7]
    rfl
/-- elements kept by a test that may change what stands around -/
theorem compL_invF {I : Env → Prop} {P : α → D → Prop} : ∀ {as : List α} {env : Env}, I env → (∀ a ∈ as, ∀ env, I env → (c.rE || (enc a).im) = true ∧ ∃ e1 e2 b, c.tgt (enc a) env = some e1 ∧ c.tst e1 = some (b, e2) ∧ (if b = true then ∃ e3 d, c.elt e2 = some (d, e3) ∧ (c.rEe || d.im) = true ∧ P a d ∧ I (clr e3 c.vs) else I (clr e2 c.vs))) →
    ∃ as' ds env', compL c (as.map enc) env = some (ds, env') ∧ I env' ∧ All2 P as' ds ∧ as'.Sublist as
  | [], env, h, _ => ⟨[], [], env, rfl, h, .nil, .slnil⟩
  | a :: as, env, h, st => by
    obtain ⟨h0, e1, e2, b, h1, h2, h3⟩ := st a List.mem_cons_self env h
    cases b with
    | true =>
      rw [if_pos rfl] at h3
      obtain ⟨e3, d, h4, h5, h6, h7⟩ := h3
      obtain ⟨as', ds, env', h8, h9, h10, h11⟩ := compL_invF h7 fun b hb => st b (List.mem_cons_of_mem _ hb)
      refine ⟨a :: as', d :: ds, env', ?_, h9, .cons h6 h10, h11.cons₂ a⟩
      rw [List.map_cons]
      unfold compL
      rw [if_pos h0, h1]
      simp only [Option.bind_some, h2, if_true, h4]
      rw [if_pos h5, h8]
      rfl
    | false =>
      rw [if_neg Bool.false_ne_true] at h3
      obtain ⟨as', ds, env', h8, h9, h10, h11⟩ := compL_invF h3 fun b hb => st b (List.mem_cons_of_mem _ hb)
      refine ⟨as', ds, env', ?_, h9, h10, h11.cons a⟩
      rw [List.map_cons]
      unfold compL
      rw [if_pos h0, h1]
      simp only [Option.bind_some, h2]
      rw [if_neg Bool.false_ne_true]
      exact h8
end
end HD
set_option Elab.async false
set_option linter.all false
set_option autoImplicit false
set_option maxRecDepth 100000
set_option maxHeartbeats 2000000
/-! HF0: sorted(xs, key=f) where f's calls keep an invariant J of the state and of the keys so far (the kit's keyH_* ask that the whole heap stays; these are their like for an invariant). -/
namespace HK
open PySem PySem.W PySem.Calls PyProof.Rows
section
variable {prog : Program} {w : World} {A : Around} {E : Value → Shared → Prop} {s : Shared} {a kS : Addr} {b : Bool} {vs : List Value} {keys : Array Value} {e e1 : Nat} {P : PySem.Fin → Shared → Prop} {kz : List PyData}

/-- J does not look at the objects at a and k -/
def Blind (a k : Addr) (J : Shared → List Value → Prop) : Prop := ∀ (s : Shared) (h' : Heap) (tk : Nat) (ks : List Value), J s ks → s.heap.objs.size = h'.objs.size → (∀ c, c ≠ a → c ≠ k → h'.get? c = s.heap.get? c) → J { s with heap := h', toks := tk } ks

theorem keyJ_tail {J : Shared → List Value → Prop} {ks : List Value} {st : SortSt} {out : List Value} (bl : Blind a kS J) (hJ : J s ks) (nk : s.heap.get? kS = some (seqObj "list" keys e)) (na : s.heap.get? a = some (seqObj "list" #[] e1)) (hka : kS ≠ a)
    (hsz : keys.size ≤ sizeLine) (hz : out.length ≤ sizeLine) (hfl : failedOf st = none) (ho : (if b = true then ((arrOf st).map (·.2)).reverse else (arrOf st).map (·.2)) = out.toArray)
    (h : ∀ s' c, J s' ks → s'.heap.get? a = some (seqObj "list" out.toArray c) → P (.done (.ret .none)) s') :
    wpAny (model prog w) A (ksk_tail a b e1 (.ref kS) st) P E s := by
  have s1 := Heap.SameBut.update s.heap kS (Obj.mapSeq fun _ => (#[] : Array Value))
  have na1 : (s.heap.update kS (Obj.mapSeq fun _ => (#[] : Array Value))).get? a = some (seqObj "list" #[] e1) := (s1.2 a hka.symm).trans na
  have s2 := Heap.SameBut.update (s.heap.update kS (Obj.mapSeq fun _ => (#[] : Array Value))) a (Obj.mapSeq fun _ => out.toArray)
  obtain ⟨c2, hc2⟩ : ∃ c2, ((s.heap.update kS (Obj.mapSeq fun _ => (#[] : Array Value))).update a (Obj.mapSeq fun _ => out.toArray)).get? a = some (seqObj "list" out.toArray c2) :=
    ⟨_, get?_update_seq na1 fun _ => out.toArray⟩
  have hz2 : out.toArray.size ≤ sizeLine + 1 := by
    rw [List.size_toArray]
    exact Nat.le_succ_of_le hz
  unfold ksk_tail
  try dsimp only
  rw [ho]
  refine wpAny_bind (listUpdate_at nk rfl ?_ hsz (Nat.zero_le _))
  refine wpAny_bind (wpAny_letGo ?_)
  refine wpAny_bind (seqEpoch_at na1 rfl ?_)
  refine wpAny_bind (listUpdate_at na1 rfl ?_ (Nat.zero_le _) hz2)
  rw [hfl]
  simp only [bne_self_eq_false, Bool.false_eq_true, if_false]
  exact wpAny_pure (h _ c2 (bl s _ _ ks hJ (by rw [Heap.size_update, Heap.size_update]) fun c h1 h2 => (s2.2 c h1).trans (s1.2 c h2)) hc2)

theorem keyJ_end {J : Shared → List Value → Prop} {ks : List Value} {κ : PyProof.Rows.KeyKind} (bl : Blind a kS J) (hJ : J s ks) (nk : s.heap.get? kS = some (seqObj "list" keys e)) (na : s.heap.get? a = some (seqObj "list" #[] e1)) (hka : kS ≠ a)
    (S : SortsAt prog w A s κ keys.toList) (hsz : keys.size = vs.length) (hZ : vs.length ≤ sizeLine)
    (h : ∀ s' c, J s' ks → s'.heap.get? a = some (seqObj "list" (sortVals κ b keys.toList vs).toArray c) → P (.done (.ret .none)) s') :
    wpAny (model prog w) A (ksk_end a b vs.toArray e1 (.ref kS) keys) P E s := by
  obtain ⟨kd, h1, h2⟩ := S.kind
  have hkl : keys.toList.length = vs.length := by
    rw [Array.length_toList]
    exact hsz
  have hK : PyProof.Rows.KeysOf κ (keys.zip vs.toArray) := keysOf_zip S.keys
  have hol : (sortVals κ b keys.toList vs).length = vs.length := sortVals_length b hkl
  have hstart : (if b = true then (keys.zip vs.toArray).reverse else keys.zip vs.toArray).Perm (keys.zip vs.toArray) := by
    cases b with
    | false => exact Array.Perm.refl _
    | true => exact Array.perm_iff_toList_perm.mpr (by rw [if_pos rfl, Array.toList_reverse]; exact List.reverse_perm _)
  have hss : (if b = true then (keys.zip vs.toArray).reverse else keys.zip vs.toArray).size = vs.length := by rw [hstart.size_eq, Array.size_zip, hsz, List.size_toArray, Nat.min_self]
  have fin : ∀ st' : SortSt, (arrOf st').Perm (if b = true then (keys.zip vs.toArray).reverse else keys.zip vs.toArray) → SortedToK κ (arrOf st') (if b = true then (keys.zip vs.toArray).reverse else keys.zip vs.toArray).size →
      Stable κ (arrOf st') (if b = true then (keys.zip vs.toArray).reverse else keys.zip vs.toArray) → (if b = true then ((arrOf st').map (·.2)).reverse else (arrOf st').map (·.2)) = (sortVals κ b keys.toList vs).toArray := by
    intro st' hp hs ht
    have e := sort_out (rev := b) (keys := keys) (items := vs.toArray) (xs := arrOf st') (κ := κ) hK hp hs ht
    have e' := congrArg List.toArray e
    rw [Array.toArray_toList] at e'
    exact e'
  have step : ∀ t : Sem PySem.Fin, wpAny (model prog w) A t P E s → wpAny (model prog w) A (if b = true then (do let _ ← rule "list.sort.reverse"; t) else t) P E s := by
    intro t ht
    split
    · exact wpAny_bind (wpAny_rule ht)
    · exact ht
  unfold ksk_end
  try dsimp only
  refine step _ ?_
  by_cases hl2 : vs.toArray.size < 2
  · rw [if_pos hl2, if_pos hl2]
    refine wpAny_bind (wpAny_pure ?_)
    rw [StateT.run_pure]
    refine wpAny_bind (wpAny_pure ?_)
    try dsimp only
    refine keyJ_tail (st := SortSt.mk' general' (if b = true then (keys.zip vs.toArray).reverse else keys.zip vs.toArray) #[] 7 none) bl hJ nk na hka (by rw [hsz]; exact hZ) (by rw [hol]; exact hZ) rfl (fin _ (Array.Perm.refl _) ?_ (Stable.refl _)) h
    intro i j hij hj
    rw [hss] at hj
    rw [List.size_toArray] at hl2
    have : i = j := by omega
    subst this
    exact KeyOrd.kle_refl _
  · rw [if_neg hl2, if_neg hl2]
    rw [List.size_toArray] at hl2
    refine wpAny_bind (h2 (by omega) _ ?_)
    refine wpAny_bind (wpAny_mono (H.wpS_sortRunsSt (κ := κ) (kd := kd) (a₀ := if b = true then (keys.zip vs.toArray).reverse else keys.zip vs.toArray)
      (st := SortSt.mk' kd (if b = true then (keys.zip vs.toArray).reverse else keys.zip vs.toArray) #[] 7 none)
      (Q := fun _ st' => failedOf st' = none ∧ (if b = true then ((arrOf st').map (·.2)).reverse else (arrOf st').map (·.2)) = (sortVals κ b keys.toList vs).toArray)
      h1 (hK.perm hstart) ⟨Array.Perm.refl _, rfl, rfl⟩ rfl (Stable.refl _) (by rw [hss]; omega) fun st' a1 a2 a3 a4 => ⟨a2, fin st' a1 a3 a4⟩) ?_ fun _ _ e => e)
    rintro ⟨⟨⟩, st'⟩ s' ⟨rfl, hf, ho⟩
    try dsimp only at ho ⊢
    exact keyJ_tail bl hJ nk na hka (by rw [hsz]; exact hZ) (by rw [hol]; exact hZ) hf ho h

theorem keyJ_rest {J : Shared → List Value → Prop} {f : Value} (bl : Blind a kS J) (hJ : J s []) (nk : s.heap.get? kS = some (seqObj "list" #[] 0)) (na : s.heap.get? a = some (seqObj "list" #[] e1)) (hka : kS ≠ a)
    (hlen : kz.length = vs.length) (hZ : vs.length ≤ sizeLine) (hal : AllAlike kz) (hsk : Sortable kz) (hu : ∀ d, d ∈ kz → A.units + d.depth < cLine)
    (rd : ∀ s ks, J s ks → ks.length = vs.length → EachIs (fun v k => ∃ as, Reads s.heap v k as) ks kz)
    (turn : ∀ (s : Shared) (ks : List Value) (v : Value) (o1 o2 : Obj), vs[ks.length]? = some v → J s ks → s.heap.get? kS = some o1 → s.heap.get? a = some o2 →
      wpAny (model prog w) A (call f [v]) (fun u s' => J s' (ks ++ [u]) ∧ s'.heap.get? kS = some o1 ∧ s'.heap.get? a = some o2) (fun _ _ => False) s)
    (h : ∀ s' ks out c, J s' ks → s'.heap.get? a = some (seqObj "list" (List.toArray out) c) → KeyedOut b kz vs out → P (.done (.ret .none)) s') :
    wpAny (model prog w) A (ksk_rest a f b vs.toArray e1 (.ref kS)) P E s := by
  unfold ksk_rest
  refine wpAny_bind (wpAny_rule ?_)
  first
    | rw [List.forIn_toArray]
    | (rw [← Array.forIn_toList]; simp only [List.toList_toArray])
    | rw [← Array.forIn_toList]
  refine wpAny_bind (ksk_fold (fun i s' => ∃ kA e, J s' (Array.toList kA) ∧ kA.size = i ∧ s'.heap.get? kS = some (seqObj "list" kA e) ∧ s'.heap.get? a = some (seqObj "list" #[] e1)) vs 0 s
    ⟨#[], 0, hJ, rfl, nk, na⟩ ?step ?done)
  case step =>
    rintro j x s' hx ⟨kA, e, J', hsz, nk', na'⟩
    simp only [Nat.zero_add] at hsz ⊢
    have hj : j < vs.length := (List.getElem?_eq_some_iff.mp hx).1
    have hz : kA.size ≤ vs.length := by omega
    refine wpAny_bind (wpAny_attempt (wpAny_mono (turn s' kA.toList x _ _ (by rw [Array.length_toList, hsz]; exact hx) J' nk' na') (fun v s'' he => ?_) fun _ _ hF => hF.elim))
    obtain ⟨J2, nk2, na2⟩ := he
    try dsimp only
    have s1 := Heap.SameBut.update s''.heap kS (Obj.mapSeq (·.push v))
    obtain ⟨c2, hc2⟩ : ∃ c2, (s''.heap.update kS (Obj.mapSeq (·.push v))).get? kS = some (seqObj "list" (kA.push v) c2) := ⟨_, get?_update_seq nk2 (·.push v)⟩
    refine wpAny_bind (listUpdate_at nk2 rfl ?_ (Nat.le_trans hz hZ) (Nat.le_trans (Nat.le_of_eq (Array.size_push ..)) (Nat.succ_le_succ (Nat.le_trans hz hZ))))
    refine wpAny_pure ⟨rfl, kA.push v, c2, ?_, by rw [Array.size_push, hsz], hc2, (s1.2 a hka.symm).trans na2⟩
    rw [Array.toList_push]
    exact bl s'' _ _ _ J2 (by rw [Heap.size_update]) fun c _ h2 => s1.2 c h2
  case done =>
    rintro s' ⟨kA, e, J', hsz, nk', na'⟩
    have hsz : kA.size = vs.length := by omega
    have hk' := rd s' kA.toList J' (by rw [Array.length_toList, hsz])
    try dsimp only
    refine wpAny_bind (listItems_at nk' rfl ?_)
    exact keyJ_end (κ := dataKind s'.heap kz) bl J' nk' na' hka (SortsAt.data (s := s') hk' hal hsk hu) hsz hZ fun s3 c k3 n3 => h s3 _ _ c k3 n3 ⟨s'.heap, kA.toList, hal, rfl, hk'⟩

theorem keyJ_tree {J : Addr → Shared → List Value → Prop} {f : Value} {n : Nat} (ho : s.heap.get? a = some (seqObj "list" vs.toArray n)) (hlen : kz.length = vs.length) (hZ : vs.length ≤ sizeLine) (hal : AllAlike kz) (hsk : Sortable kz) (hu : ∀ d, d ∈ kz → A.units + d.depth < cLine)
    (bl : ∀ k, Blind a k (J k)) (hJ : ∀ (h' : Heap) (tk k : Nat), s.heap.objs.size ≤ k → k < h'.objs.size → (∀ c, c < s.heap.objs.size → c ≠ a → h'.get? c = s.heap.get? c) → (∃ o, h'.get? a = some o) → J k { s with heap := h', toks := tk } [])
    (rd : ∀ k s ks, J k s ks → ks.length = vs.length → EachIs (fun v d => ∃ as, Reads s.heap v d as) ks kz)
    (turn : ∀ (k : Addr) (s : Shared) (ks : List Value) (v : Value) (o1 o2 : Obj), vs[ks.length]? = some v → J k s ks → s.heap.get? k = some o1 → s.heap.get? a = some o2 →
      wpAny (model prog w) A (call f [v]) (fun u s' => J k s' (ks ++ [u]) ∧ s'.heap.get? k = some o1 ∧ s'.heap.get? a = some o2) (fun _ _ => False) s)
    (h : ∀ k s' ks out c, J k s' ks → s'.heap.get? a = some (seqObj "list" (List.toArray out) c) → KeyedOut b kz vs out → P (.done (.ret .none)) s') :
    wpAny (model prog w) A (ksk_tree a f b) P E s := by
  have ha : a < s.heap.objs.size := Heap.lt_size ho
  obtain ⟨e1, ho1⟩ : ∃ e1, (s.heap.update a (Obj.mapSeq fun _ => (#[] : Array Value))).get? a = some (seqObj "list" #[] e1) := ⟨_, get?_update_seq ho fun _ => #[]⟩
  have s1 := Heap.SameBut.update s.heap a (Obj.mapSeq fun _ => (#[] : Array Value))
  have hkS : ((s.heap.update a (Obj.mapSeq fun _ => (#[] : Array Value))).push (seqObj "tuple" vs.toArray 0)).objs.size = s.heap.objs.size + 1 := by rw [size_push', Heap.size_update]
  unfold ksk_tree
  refine wpAny_bind (listItems_at ho rfl ?_)
  refine wpAny_bind (listUpdate_at ho rfl ?_ (by rw [List.size_toArray]; exact hZ) (Nat.zero_le _))
  refine wpAny_bind (seqEpoch_at ho1 rfl ?_)
  refine wpAny_bind (wpAny_newTuple ?_ (by show vs.length ≤ _; exact hZ))
  refine wpAny_bind (wpAny_newList ?_ (Nat.zero_le _))
  refine wpAny_holding ?_
  have hh : ∀ (tk : Nat), J ((s.heap.update a (Obj.mapSeq fun _ => (#[] : Array Value))).push (seqObj "tuple" vs.toArray 0)).objs.size { s with heap := ((s.heap.update a (Obj.mapSeq fun _ => (#[] : Array Value))).push (seqObj "tuple" vs.toArray 0)).push (seqObj "list" #[] 0), toks := tk } [] := fun tk => by
    refine hJ _ _ _ (by rw [hkS]; omega) (by simp only [size_push']; omega) (fun c h1 h2 => ?_) ⟨_, Heap.get?_push_of_some _ (Heap.get?_push_of_some _ ho1)⟩
    rw [Heap.get?_push_ne _ _ _ (Nat.ne_of_lt (by rw [hkS]; omega)), Heap.get?_push_ne _ _ _ (Nat.ne_of_lt (by rw [Heap.size_update]; omega))]
    exact s1.2 c h2
  exact keyJ_rest (kz := kz) (s := { s with heap := ((s.heap.update a (Obj.mapSeq fun _ => (#[] : Array Value))).push (seqObj "tuple" vs.toArray 0)).push (seqObj "list" #[] 0) }) (kS := ((s.heap.update a (Obj.mapSeq fun _ => (#[] : Array Value))).push (seqObj "tuple" vs.toArray 0)).objs.size)
    (bl _) (hh _) (Heap.get?_push_size _ rfl) (Heap.get?_push_of_some _ (Heap.get?_push_of_some _ ho1)) (by rw [hkS]; exact Nat.ne_of_gt (Nat.lt_succ_of_lt ha)) hlen hZ hal hsk hu (rd _) (turn _) (h _)
end
end HK
set_option Elab.async false
set_option linter.all false
set_option autoImplicit false
set_option maxRecDepth 100000
set_option maxHeartbeats 2000000
/-! HF1: a lambda with parameters and captured names, called. -/
namespace HK
open PySem PySem.Spec PyProof.Rows L2 LamX NdefX
/-- the lambda as a made function (its body aside) -/
abbrev lamF (qual : Str) (params : Arguments) (scope : Scope) (cl : List (Str × Addr)) (c' : Addr) : NF := ⟨"<lambda>", qual, params, [], scope, cl, c'⟩
theorem lam_run {CX : CXT} {P : Program} {w : World} {K : PySem.W.Frag} {mg : Str → Option Value} {base : Heap} {k : Nat} {f c' : Addr} {qual : Str} {params : Arguments} {body : Expr} {scope : Scope} {cl : List (Str × Addr)} {pm ctv : Value} {N ps fr : List Str}
    {A : Around} {outer : List Env} {s : Shared} {H : Hp} {us : List Value} {vs : List V} {ws : List (Option V)} {Q : VK} {E : XK} (S : NScope N ps fr scope) (hbind : bindArgs (PySem.W.kla_fn "<lambda>" qual params body scope cl pm (.ref c') ctv) ⟨us, []⟩ = pure (ps.zip us))
    (of : s.heap.get? f = some (PySem.W.kla_obj "<lambda>" qual params body scope cl pm c' ctv)) (hc : H c' = some (CodeO c' qual)) (e0 : Env0 P w K mg base A outer s H) (hr : Room (k + 1) A) (r : Vals vs us) (hl : vs.length = ps.length) (C : CellsAt cl fr ws s.heap H)
    (hbody : Room k (A.deeper (envF (lamF qual params scope cl c') f s.heap.objs.size)) → ∃ t, PE (ncx CX P w K mg base N (lamF qual params scope cl c') f A outer s H E) body t ∧ t (startF N vs ws) H Q) :
    codeAny (model P w) A (.call (.ref f) ⟨us, []⟩) (CR CX outer P w H s Q E) s := by
  have lim : s.heap.NoLimit := e0.mod.nolimit.keeps fun b o e => (e0.bs b o e).1
  obtain ⟨⟨oc, xs, t0, hoc, hdc, hvc⟩, _, _⟩ := e0.hok c' _ hc
  have hkind : ∀ y ∈ ps.zip us, scope.names.lookup y.1 = some .local := fun ⟨n, v⟩ hy => S.par n (List.of_mem_zip hy).1
  refine PySem.W.kla_callFunE hr.depth of rfl S.co S.gen rfl ⟨c', oc, xs, t0, rfl, hoc, hdc, hvc⟩ ?_
  rw [hbind]
  refine wpAny_pure (wpAny_newFunctionEnv (fun y hy => S.nocell y hy) hkind (fun h₁ hns hsb => ⟨lim.fresh _ hsb, ?_⟩) S.kind)
  have kp : ∀ b o, s.heap.get? b = some o → h₁.get? b = some o := fun b o e => hsb.extBut b o (Nat.ne_of_lt (Heap.lt_size e)) (Heap.get?_push_of_some _ e)
  obtain ⟨t, ht, hq⟩ := hbody (hr.deeper _)
  refine PySem.W.kla_codeExpr (wpAny_mono (ht.run [] _ _ H Q (inv_startN (F := lamF qual params scope cl c') S hr.hd e0 hl r C hns kp) hq) (fun v s' hq => ?_) fun e s' hq => hq)
  obtain ⟨w', H', J', rv, q⟩ := hq
  exact ⟨w', H', J'.os, J'.bare, J'.base, J'.hok, rv, q⟩
end HK
set_option Elab.async false
set_option linter.all false
set_option autoImplicit false
set_option maxRecDepth 100000
set_option maxHeartbeats 2000000
/-! HF2: behind a lambda's call, by data. -/
namespace HD
open PySem PySem.Spec PyProof.Rows L2
variable [Tb]
/-- something ran that owned nothing here: what the frame owns stands -/
theorem S.ran {K : PySem.W.Frag} {σ : L2.St} {H G H' G' : Hp} {env : Env} {F : Nat → List Addr} (s : S K σ H G env F) (g : Same G G') (sm : Same G' H') (tb : TbOk G' H') (k : ∀ a o, H a = some o → KO o (H' a)) (n : ∀ a o, G' a = some o → G a = some o ∨ H a = none ∨ (TupO o ∧ H a = some o)) :
    S K σ H' G' env F ∧ Evo [] env H G F env H' G' F := by
  have keep : ∀ i a, a ∈ F i → H' a = H a := fun i a ha => by
    obtain ⟨o, e, m⟩ := s.mut ha
    rw [e]
    exact (k a o e).mut m
  refine ⟨⟨sm, fun i d e => ?_, fun i n d e => ?_, s.emp, fun i a ha => ?_, s.apart, s.len, tb⟩, ⟨g, fun a o e _ => k a o e, fun i a ha => .inl ⟨i, ha⟩, fun a o e => (n a o e).elim .inl fun z => z.elim (fun z => .inr (.inl z)) fun z => .inr (.inr (.inr z)), fun i _ => ⟨rfl, rfl, fun a ha => keep i a ha⟩, rfl⟩⟩
  · obtain ⟨v, e1, h⟩ := s.shr i d e
    exact ⟨v, e1, h.mono g⟩
  · obtain ⟨v, e1, h⟩ := s.own i n d e
    exact ⟨v, e1, h.move g fun a ha => keep i a ha⟩
  · obtain ⟨o, e, _⟩ := s.mut ha
    cases q : G' a with
    | none => rfl
    | some u =>
      rcases n a u q with z | z | ⟨z, z2⟩
      · rw [s.free i a ha] at z
        cases z
      · rw [e] at z
        cases z
      · obtain ⟨o2, e2, m2⟩ := s.mut ha
        rw [z2] at e2
        cases e2
        exact (z.mut m2).elim
/-- the slots of a lambda: its parameters' data, then the captured ones -/
def lamEnvD (caps : List Nat) (env : Env) (ds : List D) (nl : Nat) : Env := ds.map Slot.shr ++ (caps.map (fun j => match env[j]? with | some (.shr d) => Slot.shr d | _ => Slot.none) ++ List.replicate (nl - ds.length - caps.length) Slot.none)
theorem S.lamStart {K : PySem.W.Frag} {σ : L2.St} {H G : Hp} {env : Env} {F : Nat → List Addr} {N : List Str} {caps : List Nat} {vs : List V} {ds : List D} (s : S K σ H G env F) (r : Reps K G vs ds) :
    S K (NdefX.startF N vs (caps.map (NdefX.slotAt σ))) H G (lamEnvD caps env ds N.length) (fun _ => []) := by
  have hl := r.length
  have hv : (vs.map some).length = ds.length := by rw [List.length_map]; exact hl
  have hd' : (ds.map Slot.shr).length = ds.length := by rw [List.length_map]
  refine ⟨s.same, fun i d e => ?_, fun i n d e => ?_, fun i _ => rfl, fun i a ha => (by cases ha), fun i j a _ ha => (by cases ha), ?_, s.tb⟩
  · unfold lamEnvD at e
    unfold NdefX.startF
    by_cases h1 : i < ds.length
    · rw [List.getElem?_append_left (by rw [List.length_map]; exact h1), List.getElem?_map] at e
      have hd : ds[i]? = some d := by
        cases q : ds[i]? with
        | none => rw [q] at e; cases e
        | some x => rw [q] at e; cases e; rfl
      obtain ⟨v, h2, h3⟩ := r.get hd
      refine ⟨v, ?_, h3⟩
      rw [List.getElem?_append_left (by rw [List.length_map, hl]; exact h1), List.getElem?_map, h2]
      rfl
    · rw [List.getElem?_append_right (by rw [hd']; omega), hd'] at e
      rw [List.getElem?_append_right (by rw [hv]; omega), hv]
      by_cases h2 : i - ds.length < caps.length
      · rw [List.getElem?_append_left (by rw [List.length_map]; exact h2), List.getElem?_map] at e
        rw [List.getElem?_append_left (by rw [List.length_map]; exact h2), List.getElem?_map]
        cases q : caps[i - ds.length]? with
        | none => rw [q] at e; cases e
        | some j =>
          rw [q] at e
          simp only [Option.map_some] at e ⊢
          cases z : env[j]? with
          | none => rw [z] at e; cases e
          | some x =>
            rw [z] at e
            cases x with
            | none => cases e
            | own n d' => cases e
            | shr d' =>
              cases e
              obtain ⟨v, h3, h4⟩ := s.shr j d z
              exact ⟨v, by rw [NdefX.slotAt_of h3], h4⟩
      · rw [List.getElem?_append_right (by rw [List.length_map]; omega), List.getElem?_replicate] at e
        split at e <;> cases e
  · exfalso
    unfold lamEnvD at e
    rcases List.mem_append.mp (List.mem_of_getElem? e) with z | z
    · obtain ⟨x, _, q⟩ := List.mem_map.mp z
      cases q
    · rcases List.mem_append.mp z with z | z
      · obtain ⟨j, _, q⟩ := List.mem_map.mp z
        split at q <;> cases q
      · have := (List.mem_replicate.mp z).2
        cases this
  · unfold lamEnvD NdefX.startF
    simp only [List.length_append, List.length_map, List.length_replicate]
    omega
end HD
set_option Elab.async false
set_option linter.all false
set_option autoImplicit false
set_option maxRecDepth 100000
set_option maxHeartbeats 2000000
/-! HF3: a lambda's call by data. -/
namespace HD
open PySem PySem.Spec PyProof.Rows L2 LamX
variable [Tb]
variable {X : Cx}
/-- what a lambda's body is known to say -/
def LamB (X : Cx) (k : Nat) (N : List Str) (F : NdefX.NF) (r : List Nat) (fb : M D) (body : Expr) : Prop :=
  ∀ (f : Addr) (A : Around) (outer : List PySem.Env) (s : Shared) (H : Hp), Room k (A.deeper (NdefX.envF F f s.heap.objs.size)) → DE (NdefX.ncx CX0 X.prog X.w X.K X.mg X.base N F f A outer s H E0) [] r fb body
theorem lamcall_d {pins : List (Addr × Obj)} {σ : L2.St} {H G : Hp} {s : Shared} {env e' : Env} {F : Nat → List Addr} {k : Nat} {f c' : Addr} {qual : Str} {params : Arguments} {body : Expr} {scope : Scope} {cl : List (Str × Addr)} {pm ctv : Value} {N ps fr : List Str} {caps r : List Nat} {fb : M D}
    {A : Around} {us : List Value} {vs : List V} {ds : List D} {y : D} (I : Inv X pins σ H s) (st : S X.K σ H G env F) (Sc : NdefX.NScope N ps fr scope) (hbind : bindArgs (PySem.W.kla_fn "<lambda>" qual params body scope cl pm (.ref c') ctv) ⟨us, []⟩ = pure (ps.zip us))
    (of : s.heap.get? f = some (PySem.W.kla_obj "<lambda>" qual params body scope cl pm c' ctv)) (hc : H c' = some (CodeO c' qual)) (e0 : Env0 X.prog X.w X.K X.mg X.base A X.stack s H) (hr : Room (k + 1) A) (rv : Vals vs us) (hl : vs.length = ps.length) (rp : Reps X.K G vs ds) (cp : NdefX.Caps X cl fr caps)
    (hb : LamB X k N (HK.lamF qual params scope cl c') r fb body) (hf : fb (lamEnvD caps env ds N.length) = some (y, e')) :
    wpAny (model X.prog X.w) A (call (.ref f) us) (fun u s' => ∃ v H' G', Inv X pins σ H' s' ∧ S X.K σ H' G' env F ∧ Evo [] env H G F env H' G' F ∧ RelV v u ∧ Rep X.K G' v y ∧ Un (frs X.stack) [] H H' s.heap s'.heap) (fun _ _ => False) s := by
  have rc : codeAny (model X.prog X.w) A (.call (.ref f) ⟨us, []⟩) (L2.CR CX0 X.stack X.prog X.w H s (fun v H' => ∃ G', S X.K σ H' G' env F ∧ Evo [] env H G F env H' G' F ∧ Rep X.K G' v y) E0) s := by
    refine HK.lam_run Sc hbind of hc e0 hr rv hl (NdefX.cells_of I cp) fun hr' => ⟨_, hb f A X.stack s H hr', ?_⟩
    refine ⟨G, _, fun _ => [], y, e', st.lamStart rp, hf, fun v H' G' F' s' ev rp' => ?_⟩
    obtain ⟨s2, ev2⟩ := st.ran ev.g s'.same s'.tb (fun a o e => ev.k a o e fun i h => by cases h) (fun a o e => (ev.n a o e).elim .inl fun z => .inr (z.elim .inl fun z => z.elim (fun ⟨_, h⟩ => by cases h) .inr))
    have hF : ∀ i, F' i = [] := fun i => (ev.u i (by simp)).2.1
    refine ⟨G', s2, ev2, ?_⟩
    have : vw r H' G' F' = G' := by
      funext a
      exact vw_out fun i _ h => by rw [hF i] at h; cases h
    rw [← this]
    exact rp'
  refine wpAny_call (codeAny_mono rc fun res s' hq => ?_)
  cases res with
  | error e => exact (show False from hq).elim
  | ok fl =>
    cases fl with
    | next => exact False.elim hq
    | brk => exact False.elim hq
    | cont => exact False.elim hq
    | ret u =>
      obtain ⟨v, H', os, bare, un, hok, r', G', q1, q2, q3⟩ := hq
      exact ⟨v, H', G', I.call' (ch := []) os un hok bare (fun b z => absurd z (by simp)), q1, q2, r', q3, un⟩
end HD
set_option Elab.async false
set_option linter.all false
set_option autoImplicit false
set_option maxRecDepth 100000
set_option maxHeartbeats 2000000
/-! HF4: a lambda made; what else is in the heap. -/
namespace HD
open PySem PySem.Spec PyProof.Rows L2 LamX
variable {X : Cx} {pins : List (Addr × Obj)} {σ : L2.St} {H : Hp} {s : Shared}
/-- LamX.lam_make2, and only tables change (its lines, with that conclusion) -/
theorem lam_make3 {T : List (Addr × Str)} {c P : Addr} {params : Arguments} {body : Expr} {scope : Scope} {pos : Pos} {E : Value → Shared → Prop} {Q : Value → Shared → Prop} (I : Inv X pins σ H s) (TB : TabB X.base X.mg c P) (hcode : X.env.code = .ref c)
    (hm : (P, X.env.qual ++ "<lambda>") ∈ T) (hu : ∀ p ∈ T, p.1 = P → p.2 = X.env.qual ++ "<lambda>") (hT : Tabs T H) (hdef : defaultsOf params X.env = ([], [])) (hfree : ∀ y ∈ scope.names, y.2 = .free → ∃ c, X.env.cells.lookup y.1 = some c)
    (h : ∀ (f c' : Addr) (pm ctv : Value) (H1 : Hp) (s' : Shared), Inv X pins σ H1 s' → (∀ a o, H a = some o → KO o (H1 a)) → Tabs T H1 →
      s'.heap.get? f = some (PySem.W.kla_obj "<lambda>" (X.env.qual ++ "<lambda>") params body scope (cloFrom X.env.cells scope.names []) pm c' ctv) → H1 f = none → f ∉ frs X.stack → H1 c' = some (CodeO c' (X.env.qual ++ "<lambda>")) → Q (.ref f) s') :
    wpAny (model X.prog X.w) X.A (eval (.Lambda params body scope pos) X.env) Q E s := by
  obtain ⟨ps, hP, ht, ha⟩ := hT _ hm
  refine PySem.W.kla_eval hdef ?_
  have bP : s.heap.BuiltinsAt X.mg P := TB.bm.keeps I.bk
  have hP' : s.heap.get? P = some { cls := .none, data := .fields ps } := I.hok P _ hP
  have nofr : ∀ f, s.heap.objs.size ≤ f → f ∉ frs X.stack := fun f hf z => by
    rcases List.mem_cons.mp (I.stkSub _ z) with e | e
    · have h1 := I.lt
      rw [← e] at h1
      exact Nat.lt_irrefl _ (Nat.lt_of_lt_of_le h1 hf)
    · exact I.nofs hf e
  cases hc : codeAmong pos ps.toList with
  | none =>
    refine PySem.W.kla_makeFunction (mg := X.mg) (c := c) (P := P) (ps := ps) (closure_ok hfree) I.ok.glob (I.mod.glob.keeps I.bk) hcode (TB.code.keeps I.bk) hP' ht hc TB.gP bP fun c' ctv h' tk hx hge hlt hrec htb => ?_
    obtain ⟨c2, oc, vs, t, e2, hoc, hd, hv⟩ := hrec
    cases e2
    have hsz : s.heap.objs.size ≤ h'.objs.size := Nat.le_trans hge (Nat.le_of_lt hlt)
    have nC : H c' = none := I.hok.fresh hge
    have I1 := inv_table (t' := tk) (more := #[rawInt pos.line, rawInt pos.col, .ref c']) (h' := h'.push (PySem.W.kla_obj "<lambda>" (X.env.qual ++ "<lambda>") params body scope (cloFrom X.env.cells scope.names []) ((X.mg "__name__").getD .none) c' ctv)) I hP
      (fun b o hb e => Heap.get?_push_of_some _ (hx b o hb e)) (Heap.get?_push_of_some _ htb) hge ⟨oc, vs, t, Heap.get?_push_of_some _ hoc, hd, hv⟩
    have hE : ExtN H (upd (upd H P (.tbl (ps ++ #[rawInt pos.line, rawInt pos.col, .ref c']))) c' (CodeO c' (X.env.qual ++ "<lambda>"))) := fun b o e n => by
      rw [upd_ne (ne_of_none e nC), upd_ne (fun z => n ps (Option.some.inj (e.symm.trans (by rw [z]; exact hP))))]
      exact e
    have hK : ∀ b o, H b = some o → KO o (upd (upd H P (.tbl (ps ++ #[rawInt pos.line, rawInt pos.col, .ref c']))) c' (CodeO c' (X.env.qual ++ "<lambda>")) b) := fun b o e => by
      rw [upd_ne (ne_of_none e nC)]
      by_cases z : b = P
      · subst z
        rw [hP] at e
        cases e
        exact .inr ⟨_, _, rfl, upd_same⟩
      · rw [upd_ne z]
        exact .inl e
    have eL : (ps ++ #[rawInt pos.line, rawInt pos.col, .ref c']).toList = ps.toList ++ [rawInt pos.line, rawInt pos.col, .ref c'] := by simp
    refine h h'.objs.size c' ((X.mg "__name__").getD .none) ctv _ _ I1 hK (fun p hp => ?_) (Heap.get?_push_size _ rfl) ?_ (nofr _ hsz) upd_same
    · by_cases hb : p.1 = P
      · rw [hu p hp hb, hb]
        refine ⟨_, by rw [upd_ne (ne_of_none hP nC), upd_same], by rw [eL]; exact PySem.TriplesOk_snoc _ _ _ _ ht, fun p' cv hcv => ?_⟩
        rw [eL] at hcv
        rcases among_app _ ht hcv with z | z
        · obtain ⟨c0, e1, e2⟩ := ha p' cv z
          exact ⟨c0, e1, hE _ _ e2 codeO_ne⟩
        · exact ⟨c', z, upd_same⟩
      · obtain ⟨ps', a1, a2, a3⟩ := hT p hp
        refine ⟨ps', by rw [upd_ne (ne_of_none a1 nC), upd_ne hb]; exact a1, a2, fun p' cv hcv => ?_⟩
        obtain ⟨c0, e1, e2⟩ := a3 p' cv hcv
        exact ⟨c0, e1, hE _ _ e2 codeO_ne⟩
    · have n1 : h'.objs.size ≠ c' := Nat.ne_of_gt hlt
      have n2 : h'.objs.size ≠ P := Nat.ne_of_gt (Nat.lt_of_lt_of_le (Heap.lt_size hP') hsz)
      rw [upd_ne n1, upd_ne n2]
      exact I.hok.fresh hsz
  | some cv =>
    obtain ⟨c', e, hco⟩ := ha pos cv hc
    subst e
    refine PySem.W.kla_makeFunctionHit (mg := X.mg) (c := c) (P := P) (ps := ps) (closure_ok hfree) I.ok.glob (I.mod.glob.keeps I.bk) hcode (TB.code.keeps I.bk) hP' ht hc bP fun ctv h' tk hx hsz => ?_
    have I1 : Inv X pins σ H { s with heap := h'.push (PySem.W.kla_obj "<lambda>" (X.env.qual ++ "<lambda>") params body scope (cloFrom X.env.cells scope.names []) ((X.mg "__name__").getD .none) c' ctv), toks := tk } := I.kept fun b o e => Heap.get?_push_of_some _ (hx b o e)
    exact h h'.objs.size c' ((X.mg "__name__").getD .none) ctv H _ I1 (fun _ _ e => .inl e) hT (Heap.get?_push_size _ rfl) (I.hok.fresh hsz) (nofr _ hsz) hco
end HD
set_option Elab.async false
set_option linter.all false
set_option autoImplicit false
set_option maxRecDepth 100000
set_option maxHeartbeats 2000000
/-! HF5: sorted(x, key=lambda p: ..) by data. -/
namespace HD
open PySem PySem.Spec PyProof.Rows L2 LamX
variable [Tb]
variable {X : Cx}

/-- the keys of the items -/
def keysD (caps : List Nat) (nl : Nat) (fb : M D) (env : Env) : List D → Option (List D)
  | [] => some []
  | x :: xs => (fb (lamEnvD caps env [x] nl)).bind fun p => (keysD caps nl fb env xs).map fun ks => p.1 :: ks
omit [Tb] in
theorem keysD_len {caps : List Nat} {nl : Nat} {fb : M D} {env : Env} : ∀ {xs ks : List D}, keysD caps nl fb env xs = some ks → ks.length = xs.length
  | [], ks, h => by
    simp [keysD] at h
    subst h
    rfl
  | x :: xs, ks, h => by
    obtain ⟨p, h1, h2⟩ := bind_some' h
    obtain ⟨ks', h3, rfl⟩ := map_some' h2
    simp [keysD_len h3]
omit [Tb] in
theorem keysD_get {caps : List Nat} {nl : Nat} {fb : M D} {env : Env} : ∀ {xs ks : List D}, keysD caps nl fb env xs = some ks → ∀ {i : Nat} {x : D}, xs[i]? = some x → ∃ y e', fb (lamEnvD caps env [x] nl) = some (y, e') ∧ ks[i]? = some y
  | [], ks, h, i, x, hx => by simp at hx
  | z :: xs, ks, h, i, x, hx => by
    obtain ⟨⟨y, e'⟩, h1, h2⟩ := bind_some' h
    obtain ⟨ks', h3, rfl⟩ := map_some' h2
    cases i with
    | zero =>
      simp at hx
      subst hx
      exact ⟨y, e', h1, rfl⟩
    | succ i =>
      obtain ⟨y2, e2, h4, h5⟩ := keysD_get h3 (i := i) (x := x) (by simpa using hx)
      exact ⟨y2, e2, h4, by simpa using h5⟩
def D.isTup1 : D → Bool
  | .tup (_ :: _) => true
  | _ => false
def keysOk (ks : List D) : Bool := D.okEs 60 ks && (ks.all fun x => ks.all fun y => PySem.W.alike x.py y.py) && (ks.all D.isTup1 || ks.all fun d => !(d.isTup || d.isNon)) && decide (ks.length ≤ 16777216)
def byKeys (xs ks : List D) : List D := ((xs.zip ks).mergeSort fun a b => D.le a.2 b.2).map Prod.fst
omit [Tb] in
theorem byKeys_mem {xs ks : List D} {d : D} (h : d ∈ byKeys xs ks) : d ∈ xs := by
  unfold byKeys at h
  obtain ⟨p, hp, rfl⟩ := List.mem_map.mp h
  exact (List.of_mem_zip ((List.mergeSort_perm _ _).mem_iff.mp hp)).1
def sortLamF (r caps : List Nat) (nl : Nat) (fs fb : M D) : M (D × Nat) := fun env => (fs env).bind fun p => (seqOf p.1).bind fun xs => (keysD caps nl fb p.2 xs).bind fun ks =>
  if ((r.isEmpty || D.ims xs) && keysOk ks) = true then some ((.lst (byKeys xs ks), 1), p.2) else none

/-! ### the state while the keys are made -/
def LamJ (X : Cx) (σ : L2.St) (H G : Hp) (s : Shared) (env : Env) (F : Nat → List Addr) (a : Addr) (kds : List D) (k : Addr) (s' : Shared) (ks : List Value) : Prop :=
  ∃ H1 G1 kvs, s'.os = s.os ∧ AllBare s'.gens ∧ Un (frs X.stack) [] H H1 s.heap s'.heap ∧ HOk X.prog X.w H1 s'.heap ∧ S X.K σ H1 G1 env F ∧ Evo [] env H G F env H1 G1 F ∧ Vals kvs ks ∧ Reps X.K G1 kvs (kds.take ks.length) ∧ H1 a = none ∧ H1 k = none ∧ s.heap.objs.size ≤ k
section
variable {pins : List (Addr × Obj)} {σ : L2.St} {H G : Hp} {s : Shared} {env : Env} {F : Nat → List Addr} {kds : List D} {a : Addr}
theorem LamJ.blind (I : Inv X pins σ H s) (ha : s.heap.objs.size ≤ a) (k : Addr) : HK.Blind a k (LamJ X σ H G s env F a kds k) := by
  rintro s1 h' tk ks ⟨H1, G1, kvs, os, bare, un, hok, st, ev, rv, rp, na, nk, hk⟩ hsz hc
  have I1 : Inv X pins σ H1 s1 := I.call' (ch := []) os un hok bare (fun b z => absurd z (by simp))
  have n1 : ∀ b, b ∉ ([a, k] : List Addr) → b ≠ a ∧ b ≠ k := fun b hb => by simpa using hb
  have I2 := I1.turnedL (h' := h') (t' := tk) (ch := [a, k]) (fun b o hb e => by rw [hc b (n1 b hb).1 (n1 b hb).2]; exact e) (fun b hb => by
    rcases List.mem_cons.mp hb with z | z
    · rw [z]; exact I.fpOk ha na
    · rw [List.mem_singleton.mp z]; exact I.fpOk hk nk)
  have nA : ∀ {b : Addr} {o : Obj}, s.heap.get? b = some o → b ≠ a := fun e => Nat.ne_of_lt (Nat.lt_of_lt_of_le (Heap.lt_size e) ha)
  have nK : ∀ {b : Addr} {o : Obj}, s.heap.get? b = some o → b ≠ k := fun e => Nat.ne_of_lt (Nat.lt_of_lt_of_le (Heap.lt_size e) hk)
  refine ⟨H1, G1, kvs, os, bare, ⟨fun b o e n nf nx => (hc b (nA e) (nK e)).trans (un.keep b o e n nf nx), fun b o e n nf nx => ?_, un.free, fun b o e nx => ?_, un.tups, un.frzs, un.tbls⟩, I2.hok, st, ev, rv, rp, na, nk, hk⟩
  · obtain ⟨sl, z⟩ := un.slot b o e n nf nx
    exact ⟨sl, (hc b (nA e) (nK e)).trans z⟩
  · obtain ⟨o', z⟩ := un.there b o e nx
    exact ⟨o', (hc b (nA e) (nK e)).trans z⟩
theorem each_reads {H1 G1 : Hp} {s' : Shared} {kvs : List V} {ks : List Value} (I : Inv X pins σ H1 s') (sm : Same G1 H1) (rv : Vals kvs ks) (rp : Reps X.K G1 kvs kds) (ok : D.okEs 60 kds = true) : PySem.W.EachIs (fun v d => ∃ as, Reads s'.heap v d as) ks (kds.map D.py) := by
  have hl := rp.length
  have e := each_vals rv hl
  have er : PySem.W.EachIs (fun v (b : V × D) => ∃ as, Reads s'.heap v b.2.py as) ks (kvs.zip kds) := (PySem.W.each_mem e).mono fun v b ⟨h1, h2⟩ => Dp.reads I _ _ _ (Dp.monoW sm ((reps_zip rp b h2).dp (okEs_mem ok _ (List.of_mem_zip h2).2))) h1
  have em := PySem.W.each_map (R := fun v d => ∃ as, Reads s'.heap v d as) (fun b : V × D => b.2.py) er
  have eq : (kvs.zip kds).map (fun b : V × D => b.2.py) = kds.map D.py := by
    have : (fun b : V × D => b.2.py) = D.py ∘ Prod.snd := rfl
    rw [this, ← List.map_map, List.map_snd_zip (by omega)]
  rw [← eq]
  exact em
end
omit [Tb] in
theorem take_snoc {α : Type} {l : List α} {n : Nat} {x : α} (h : l[n]? = some x) : l.take (n + 1) = l.take n ++ [x] := by
  rw [List.take_succ, h]
  rfl
omit [Tb] in
theorem zip_zip_map {xs : List V} {ds ks : List D} : ∀ p ∈ xs.zip (ds.zip ks), (p.1, p.2.1) ∈ xs.zip ds := by
  induction xs generalizing ds ks with
  | nil => intro p h; simp at h
  | cons x xs ih =>
    intro p h
    cases ds with
    | nil => simp at h
    | cons d ds =>
      cases ks with
      | nil => simp at h
      | cons k ks =>
        simp only [List.zip_cons_cons, List.mem_cons] at h ⊢
        rcases h with h | h
        · subst h; exact .inl rfl
        · exact .inr (ih p h)
/-- the sort, the lambda's object made -/
theorem sort_lam {pins : List (Addr × Obj)} {σ : L2.St} {H G : Hp} {s : Shared} {env : Env} {F : Nat → List Addr} {k : Nat} {f c' l : Addr} {qual : Str} {params : Arguments} {body : Expr} {scope : Scope} {cl : List (Str × Addr)} {pm ctv : Value} {N fr : List Str} {x : Str} {caps r : List Nat} {fb : M D}
    {us : List V} {xs kds : List D} {Q : VK} (I : Inv X pins σ H s) (st : S X.K σ H G env F) (Sc : NdefX.NScope N [x] fr scope) (hbind : ∀ u, bindArgs (PySem.W.kla_fn "<lambda>" qual params body scope cl pm (.ref c') ctv) ⟨[u], []⟩ = pure [(x, u)])
    (of : s.heap.get? f = some (PySem.W.kla_obj "<lambda>" qual params body scope cl pm c' ctv)) (nf : H f = none) (fr' : f ∉ frs X.stack) (hc : H c' = some (CodeO c' qual)) (hr : Room (k + 3) X.A) (cp : NdefX.Caps X cl fr caps)
    (hb : LamB X k N (HK.lamF qual params scope cl c') r fb body) (hk : keysD caps N.length fb env xs = some kds) (ok : keysOk kds = true) (hl : SqL X.K H l us ∨ SqT X.K H l us) (rp : Reps X.K G us xs)
    (q : ∀ p zs H1 G1, S X.K σ H1 G1 env F → Evo [] env H G F env H1 G1 F → H1 p = none → Reps X.K G1 zs (byKeys xs kds) → Q (.ref p) (upd H1 p (.lst zs))) :
    wpAny (model X.prog X.w) X.A (call (.builtin "sorted") [.ref l] [(Str.ofString "key", .ref f)]) (EP X pins σ Q) X.xe s := by
  unfold keysOk at ok
  rw [Bool.and_eq_true, Bool.and_eq_true, Bool.and_eq_true, decide_eq_true_eq] at ok
  obtain ⟨⟨⟨c1, c2⟩, c3⟩, c4⟩ := ok
  have klen := keysD_len hk
  have ulen := rp.length
  have alk : PySem.W.AllAlike (kds.map D.py) := by
    intro y hy z hz
    obtain ⟨p, hp, rfl⟩ := List.mem_map.mp hy
    obtain ⟨p', hp', rfl⟩ := List.mem_map.mp hz
    exact List.all_eq_true.mp (List.all_eq_true.mp c2 _ hp) _ hp'
  have hsk : PySem.W.Sortable (kds.map D.py) := by
    rw [Bool.or_eq_true] at c3
    rcases c3 with c3 | c3
    · refine .inl fun d hd => ?_
      obtain ⟨p, hp, rfl⟩ := List.mem_map.mp hd
      have a1 := List.all_eq_true.mp c3 _ hp
      cases p with
      | tup ds =>
        cases ds with
        | nil => cases a1
        | cons d ds => exact ⟨d.py, D.pys ds, rfl⟩
      | _ => cases a1
    · refine .inr fun d hd => ?_
      obtain ⟨p, hp, rfl⟩ := List.mem_map.mp hd
      have a1 := List.all_eq_true.mp c3 _ hp
      revert a1
      cases p <;> simp [D.isTup, D.isNon, D.py]
  have hu : ∀ d, d ∈ kds.map D.py → X.A.in1.in1.units + d.depth < cLine := fun d hd => by
    obtain ⟨p, hp, rfl⟩ := List.mem_map.mp hd
    have := (okE_lay p 60 (okEs_mem c1 _ hp)).2
    have r2 := hr.in1.in1.units
    omega
  have main : ∀ {its : List Value}, Vals us its → (∀ (ha1 : argsOk "sorted" ⟨[.ref l], [(Str.ofString "key", .ref f)]⟩) (ha2 : ∀ x, argsOk "list.sort" ⟨[.ref x], [(Str.ofString "key", .ref f)]⟩), (∀ E' : Value → Shared → Prop, wpAny (model X.prog X.w) X.A.in1.in1 (Builtin.«list.sort» ⟨[.ref (s.heap.objs.size + 1)], [(Str.ofString "key", .ref f)]⟩) (fun f s' => f = .done (.ret .none) ∧ EP X pins σ Q (.ref (s.heap.objs.size + 1)) s') E' { s with heap := PySem.W.copyHeap s.heap its }) →
      wpAny (model X.prog X.w) X.A (call (.builtin "sorted") [.ref l] [(Str.ofString "key", .ref f)]) (EP X pins σ Q) X.xe s) →
      wpAny (model X.prog X.w) X.A (call (.builtin "sorted") [.ref l] [(Str.ofString "key", .ref f)]) (EP X pins σ Q) X.xe s := by
    intro its rvi fin
    have ilen : its.length = kds.length := by rw [← rvi.length]; omega
    have hZ : its.length ≤ sizeLine := by rw [ilen, sizeLine_eq]; omega
    refine fin (PyProof.Rows.ksk_s1 _ _) (fun _ => PyProof.Rows.ksk_l1 _ _) fun E' => ?_
    rw [PyProof.Rows.ksk_t1]
    have na0 : H (s.heap.objs.size + 1) = none := I.hok.fresh (Nat.le_succ _)
    refine HK.keyJ_tree (kz := kds.map D.py) (J := LamJ X σ H G s env F (s.heap.objs.size + 1) kds) (s := { s with heap := PySem.W.copyHeap s.heap its }) (PySem.W.copyHeap_at s.heap its) (by rw [List.length_map]; omega) hZ alk hsk hu (fun k => LamJ.blind I (Nat.le_succ _) k) (fun h' tk k h1 h2 h3 h4 => ?_) (fun k s' ks hJ hlk => ?_) (fun k s' ks v o1 o2 hv hJ h1 h2 => ?_) (fun k s' ks out c hJ ho hko => ?_)
    · have kp : ∀ b u, s.heap.get? b = some u → h'.get? b = some u := fun b u e => by
        have hlt := Heap.lt_size e
        have e2 : (PySem.W.copyHeap s.heap its).get? b = some u := PySem.W.copyHeap_old e
        rw [h3 b (Heap.lt_size e2) (Nat.ne_of_lt (Nat.lt_succ_of_lt hlt))]
        exact e2
      have hsz : s.heap.objs.size ≤ k := Nat.le_trans (Nat.le_of_lt (Nat.lt_of_succ_lt (Heap.lt_size (PySem.W.copyHeap_at s.heap its)))) h1
      exact ⟨H, G, [], rfl, I.bare, Un.kept kp, I.hok.kept kp, st, Evo.refl, .nil, .nil, na0, I.hok.fresh hsz, hsz⟩
    · obtain ⟨H1, G1, kvs, os, bare, un, hok, st1, ev, rv, rpk, na, nk, hk'⟩ := hJ
      have I1 : Inv X pins σ H1 s' := I.call' (ch := []) os un hok bare (fun b z => absurd z (by simp))
      rw [List.take_of_length_le (by omega)] at rpk
      exact each_reads I1 st1.same rv rpk c1
    · obtain ⟨H1, G1, kvs, os, bare, un, hok, st1, ev, rv, rpk, na, nk, hk'⟩ := hJ
      have I1 : Inv X pins σ H1 s' := I.call' (ch := []) os un hok bare (fun b z => absurd z (by simp))
      have hi : ks.length < us.length := by rw [rvi.length]; exact (List.getElem?_eq_some_iff.mp hv).1
      have hu1 : us[ks.length]? = some us[ks.length] := List.getElem?_eq_getElem hi
      obtain ⟨u', e1, e2⟩ := rvi.get hu1
      rw [hv] at e1
      cases e1
      obtain ⟨d, e3, e4⟩ := rp.getV hu1
      obtain ⟨y, e', e5, e6⟩ := keysD_get hk e3
      have hc1 : H1 c' = some (CodeO c' qual) := (ev.k c' _ hc (fun i hi => by
        obtain ⟨o, ho, m⟩ := st.mut hi
        rw [hc] at ho
        cases ho
        unfold CodeO at m
        exact m)).eq fun ps z => codeO_ne ps z
      have of1 := un.keep f _ of nf fr' (by simp)
      refine wpAny_mono (lamcall_d (vs := [us[ks.length]]) (ds := [d]) I1 st1 Sc (hbind _) of1 hc1 I1.env0.in1.in1 hr.in1.in1 (.cons e2 .nil) rfl (.cons (e4.mono ev.g) .nil) cp hb e5) (fun u s2 hq => ?_) fun _ _ z => z
      obtain ⟨w, H2, G2, I2, st2, ev2, rw2, rpw, un2⟩ := hq
      have big : ∀ {b : Addr}, s.heap.objs.size ≤ b → b ∉ frs X.stack := fun {b} hb z => by
        rcases List.mem_cons.mp (I.stkSub _ z) with e | e
        · have h1 := I.lt
          rw [← e] at h1
          exact Nat.lt_irrefl _ (Nat.lt_of_lt_of_le h1 hb)
        · exact I.nofs hb e
      refine ⟨⟨H2, G2, kvs ++ [w], ?_, I2.bare, un.trans un2, I2.hok, st2, (ev.trans ev2).mono (fun i hi => by simpa using hi), rv.append (.cons rw2 .nil), ?_, un2.free _ _ h2 na (by simp), un2.free _ _ h1 nk (by simp), hk'⟩, un2.keep _ _ h1 nk (big hk') (by simp), un2.keep _ _ h2 na (big (Nat.le_succ _)) (by simp)⟩
      · rw [I2.os, ← I1.os]
        exact os
      · rw [List.length_append, List.length_singleton, take_snoc e6]
        exact (rpk.mono ev2.g).app (.cons rpw .nil)
    · obtain ⟨H1, G1, kvs, os, bare, un, hok, st1, ev, rv, rpk, na, nk, hk'⟩ := hJ
      refine ⟨rfl, ?_⟩
      have e0 : PySem.W.EachIs (fun (v : Value) (p : V × (D × D)) => RelV p.1 v) its (us.zip (xs.zip kds)) := by
        have zl : us.length = (xs.zip kds).length := by rw [List.length_zip]; omega
        have gen : ∀ {β : Type} {us' : List V} {its' : List Value} {bs : List β}, Vals us' its' → us'.length = bs.length → PySem.W.EachIs (fun (v : Value) (p : V × β) => RelV p.1 v) its' (us'.zip bs) := by
          intro β us' its' bs h
          induction h generalizing bs with
          | nil => intro _; rw [List.zip_nil_left]; exact .nil
          | cons a b ih =>
            intro hl
            cases bs with
            | nil => simp at hl
            | cons b' bs => rw [List.zip_cons_cons]; exact .cons a (ih (by simpa using hl))
        exact gen rvi zl
      have km : (us.zip (xs.zip kds)).map (fun p => p.2.2.py) = kds.map D.py := by
        have : (fun p : V × (D × D) => p.2.2.py) = D.py ∘ Prod.snd ∘ Prod.snd := rfl
        rw [this, ← List.map_map, ← List.map_map, List.map_snd_zip (by rw [List.length_zip]; omega), List.map_snd_zip (by omega)]
      rw [← km] at hko
      have eo := PySem.W.keyedOut_each (fun p : V × (D × D) => p.2.2.py) hko e0
      have vo : Vals (((us.zip (xs.zip kds)).mergeSort (PySem.W.dataLe false fun p : V × (D × D) => p.2.2.py)).map Prod.fst) out := by
        have gen : ∀ {β : Type} {l : List (V × β)} {os : List Value}, PySem.W.EachIs (fun (v : Value) (p : V × β) => RelV p.1 v) os l → Vals (l.map Prod.fst) os := by
          intro β l os h
          induction h with
          | nil => exact .nil
          | cons a b ih => exact .cons a ih
        exact gen eo
      have es : ((us.zip (xs.zip kds)).mergeSort (PySem.W.dataLe false fun p : V × (D × D) => p.2.2.py)).map (fun p => p.2.1) = byKeys xs kds := by
        have h := PySem.W.sort_maps (r := PySem.W.dataLe false fun p : V × (D × D) => p.2.2.py) (s := fun a b : D × D => D.le a.2 b.2) Prod.snd (l := us.zip (xs.zip kds)) fun a _ b _ => rfl
        rw [List.map_snd_zip (by rw [List.length_zip]; omega)] at h
        unfold byKeys
        rw [← h, List.map_map]
        rfl
      have ro : Reps X.K G1 (((us.zip (xs.zip kds)).mergeSort (PySem.W.dataLe false fun p : V × (D × D) => p.2.2.py)).map Prod.fst) (byKeys xs kds) := by
        rw [← es]
        have mem : ∀ p ∈ (us.zip (xs.zip kds)).mergeSort (PySem.W.dataLe false fun p : V × (D × D) => p.2.2.py), Rep X.K G1 p.1 p.2.1 := fun p hp => (reps_zip rp _ (zip_zip_map p ((List.mergeSort_perm _ _).mem_iff.mp hp))).mono ev.g
        generalize (us.zip (xs.zip kds)).mergeSort (PySem.W.dataLe false fun p : V × (D × D) => p.2.2.py) = l at mem
        induction l with
        | nil => exact .nil
        | cons p l ih => exact .cons (mem p List.mem_cons_self) (ih fun q hq => mem q (List.mem_cons_of_mem _ hq))
      have olen : out.length = its.length := hko.length (by rw [km, List.length_map]; omega)
      have nA : ∀ {b : Addr} {o : Obj}, s.heap.get? b = some o → b ≠ s.heap.objs.size + 1 := fun e => Nat.ne_of_lt (Nat.lt_succ_of_lt (Heap.lt_size e))
      have nH : ∀ {b : Addr} {o : HO}, H b = some o → b ≠ s.heap.objs.size + 1 := fun e z => by
        rw [z, na0] at e
        cases e
      have hok3 : HOk X.prog X.w (upd H1 (s.heap.objs.size + 1) (.lst (((us.zip (xs.zip kds)).mergeSort (PySem.W.dataLe false fun p : V × (D × D) => p.2.2.py)).map Prod.fst))) s'.heap := fun b u e => by
        by_cases hbb : b = s.heap.objs.size + 1
        · subst hbb
          rw [upd_same] at e
          cases e
          exact ⟨by rw [vo.length, olen]; exact hZ, out, c, vo, ho⟩
        · rw [upd_ne hbb] at e
          exact (hok b u e).stay (fun _ _ _ q => q) (fun d q => by rw [upd_ne (ne_of_none q na)]; exact q) fun d xs q => by rw [upd_ne (ne_of_none q na)]; exact q
      have un3 : Un (frs X.stack) [] H (upd H1 (s.heap.objs.size + 1) (.lst (((us.zip (xs.zip kds)).mergeSort (PySem.W.dataLe false fun p : V × (D × D) => p.2.2.py)).map Prod.fst))) s.heap s'.heap :=
        ⟨un.keep, un.slot, fun b o e n nx => by rw [upd_ne (nA e)]; exact un.free b o e n nx, un.there, fun b xs e => by rw [upd_ne (nH e)]; exact un.tups b xs e, fun b o u e => by rw [upd_ne (nH e)]; exact un.frzs b o u e, fun b ps e => by rw [upd_ne (nH e)]; exact un.tbls b ps e⟩
      exact ⟨.ref _, _, I.call' (ch := []) os un3 hok3 bare (fun b z => absurd z (by simp)), rfl, q _ _ H1 G1 st1 ev na ro⟩
  rcases hl with hl | hl
  · obtain ⟨its, rvi, hli, hz⟩ := I.list hl
    exact main rvi fun ha1 ha2 body => PySem.W.sorted_of_sort hli.isList (by rw [← rvi.length]; exact hz) ha1 ha2 body
  · obtain ⟨its, rvi, hli, hz⟩ := I.tuple hl
    exact main rvi fun ha1 ha2 body => PySem.W.sorted_of_tup hli (by rw [← rvi.length]; exact hz) ha1 ha2 body
end HD
set_option Elab.async false
set_option linter.all false
set_option autoImplicit false
set_option maxRecDepth 100000
set_option maxHeartbeats 2000000
/-! HF6: the expression sorted(x, key=lambda p: ..). -/
namespace HD
open PySem PySem.Spec PyProof.Rows L2 LamX
variable [Tb]
variable {X : Cx}
theorem df_sortedLam {a : Expr} {params : Arguments} {body : Expr} {scope : Scope} {lpos kpos p pos : Pos} {fs fb : M D} {m r r2 caps : List Nat} {N fr : List Str} {x : Str} {k : Nat} {c P : Addr}
    (hg : Gl X "sorted") (hm : X.mg "sorted" = none) (ha : DE X m r fs a) (TB : TabB X.base X.mg c P) (hcode : X.env.code = .ref c) (hmT : (P, X.env.qual ++ "<lambda>") ∈ Tb.T) (hu : ∀ p ∈ Tb.T, p.1 = P → p.2 = X.env.qual ++ "<lambda>")
    (hdef : defaultsOf params X.env = ([], [])) (sc : Scope) (hsc : X.env.scope = sc) (hfree'' : ∀ y ∈ scope.names, y.2 = .free → sc.names.lookup y.1 = some .cell ∨ sc.names.lookup y.1 = some .free) (hfr : ∀ y ∈ fr, (y, NameKind.free) ∈ scope.names) (hjs : caps.map (fun j => X.N[j]?) = fr.map some) (Sc : NdefX.NScope N [x] fr scope)
    (hbind : ∀ (q : Str) (cl : List (Str × Addr)) (pm cv ctv u : Value), bindArgs (PySem.W.kla_fn "<lambda>" q params body scope cl pm cv ctv) ⟨[u], []⟩ = pure [(x, u)]) (hr : Room (k + 3) X.A)
    (hb : ∀ c', LamB X k N (HK.lamF (X.env.qual ++ "<lambda>") params scope (cloFrom X.env.cells scope.names []) c') r2 fb body)
    (he : starEach [a] X.env = (false, eval a X.env) :: starEach [] X.env := by rfl) (hpl : (backTo pos (starEach [a] X.env)).any (·.1) = false := by rfl) :
    DF X m (sortLamF r caps N.length fs fb) (.Call (.Name "sorted" p) [a] [⟨some "key", .Lambda params body scope lpos, kpos⟩] pos) := by
  refine ⟨fun pins s σ H Q I h => ?_⟩
  have hfree' : ∀ y ∈ scope.names, y.2 = .free → X.env.scope.names.lookup y.1 = some .cell ∨ X.env.scope.names.lookup y.1 = some .free := by rw [hsc]; exact hfree''
  have hfree : ∀ y ∈ scope.names, y.2 = .free → ∃ c, X.env.cells.lookup y.1 = some c := fun y hy e => (hfree' y hy e).elim (fun z => I.ok.has _ (.inl z)) fun z => I.ok.has _ (.inr z)
  have cp : NdefX.Caps X (cloFrom X.env.cells scope.names []) fr caps := NdefX.Caps.made I.ok hfree' hfr hjs
  obtain ⟨G, env, F, ⟨d, n⟩, env', st, hf, q⟩ := h
  obtain ⟨⟨d0, e1⟩, h1, h2⟩ := bind_some' hf
  obtain ⟨xs, h3, h4⟩ := bind_some' h2
  obtain ⟨kds, h5, h6⟩ := bind_some' h4
  simp only [] at h3 h5 h6
  split at h6
  · rename_i cc
    simp only [Option.some.injEq, Prod.mk.injEq] at h6
    obtain ⟨⟨rfl, rfl⟩, rfl⟩ := h6
    rw [Bool.and_eq_true] at cc
    refine wpAny_Call_Name_kw (ld_blt I hg hm (u := .builtin "sorted") (by decide +kernel) ?_)
    have hA : DA X (m ++ []) (r ++ []) (argsC (dj r []) fs args0) [a] := da_cons ha da_nil he
    have hA' : argsC (dj r []) fs args0 env = some ([d0], e1) := by
      have : dj r [] = true := by simp [dj]
      simp [argsC, h1, args0, this]
    refine PyProof.Rows.callWith_kw (thn (hA.run pos pins s σ H (fun vs H1 => ∃ G1 F1, S X.K σ H1 G1 e1 F1 ∧ Evo (m ++ []) env H G F e1 H1 G1 F1 ∧ Reps X.K (vw (r ++ []) H1 G1 F1) vs [d0]) I ⟨G, env, F, [d0], e1, st, hA', fun vs H1 G1 F1 s1 ev1 rp1 => ⟨G1, F1, s1, ev1, rp1⟩⟩) fun us s1 ⟨vs, H1, I1, r1, q1⟩ => ?_) (by rw [he]; rfl) hpl (by rfl) (by rfl)
    obtain ⟨G1, F1, st1, ev1, rp1⟩ := q1
    rw [List.append_nil] at ev1 rp1
    obtain ⟨v, rfl, rpv⟩ := reps1 rp1
    obtain ⟨l, _, rfl, _, _⟩ := rep_seq (st1.vwH r) rpv h3
    rw [Vals.ref1 r1]
    refine PyProof.Rows.kwAll_cons (lam_make3 I1 TB hcode hmT hu st1.tb.tabs hdef hfree fun f c' pm ctv H2 s2 I2 k2 T2 of nf fr' hc => PyProof.Rows.kwAll_nil ?_)
    have keep2 : ∀ b o, H1 b = some o → (∀ ps, o ≠ .tbl ps) → H2 b = some o := fun b o e n => (k2 b o e).eq n
    have sm2 : Same G1 H2 := fun b o e => keep2 b o (st1.same b o e) fun ps z => st1.tb.nt b ps (by rw [← z]; exact e)
    obtain ⟨st2, ev2⟩ := st1.ran (Same.refl G1) sm2 ⟨st1.tb.nt, T2⟩ k2 (fun b o e => .inl e)
    have nf1 : H1 f = none := by
      cases z : H1 f with
      | none => rfl
      | some o =>
        obtain ⟨o', e⟩ := (k2 f o z).any
        rw [nf] at e
        cases e
    obtain ⟨l', ws, e, hrw, hs⟩ := rep_seq (st2.vwH r) (rpv.mono (ev2.seen st2 (r := r) (r' := r) (fun i _ => by simp) (fun i hi => hi))) h3
    cases e
    have rg : Reps X.K G1 ws xs := by
      rw [Bool.or_eq_true] at cc
      rcases cc.1 with z | z
      · rw [List.isEmpty_iff] at z
        subst z
        rw [vw_nil] at hrw
        exact hrw
      · exact hrw.imTo (st2.tups r) z
    show wpAny _ _ (call (.builtin "sorted") [.ref l] [(Str.ofString "key", .ref f)]) _ _ s2
    refine sort_lam I2 st2 Sc (hbind _ _ _ _ _) of nf fr' hc hr cp (hb c') h5 cc.2 hs rg fun p zs H3 G3 st3 ev3 hp rz => ?_
    have ev : Evo m env H G F e1 H3 G3 F1 := ((ev1.trans ev2).trans ev3).mono fun i hi => by simpa using hi
    have hG : G3 p = none := st3.same.free hp
    have hF : ∀ j, p ∉ F1 j := fun j hj => by
      obtain ⟨u, hu, _⟩ := st3.mut hj
      rw [hp] at hu
      cases hu
    have keep : ∀ i, ∀ a ∈ F1 i, upd H3 p (.lst zs) a = H3 a := fun i a ha => upd_ne fun z => hF i (by rw [← z]; exact ha)
    refine q _ _ G3 F1 [p] (st3.updOut hG hF (mutN hp)) ⟨ev.g, fun a u e1 e2 => ?_, ev.f, ev.n, fun i hi => ?_, ev.l⟩ (own_lst rz) fun a ha => ?_
    · exact (ev.k a u e1 e2).upd hp
    · obtain ⟨a1, a2, a3⟩ := ev.u i hi
      exact ⟨a1, a2, fun a ha => by rw [keep i a (by rw [a2]; exact ha)]; exact a3 a ha⟩
    · have e : a = p := by simpa using ha
      subst e
      exact ⟨⟨hG, hF⟩, (ev.none_of hp).elim .inr .inl⟩
  · cases h6
end HD
set_option Elab.async false
set_option linter.all false
set_option autoImplicit false
set_option maxRecDepth 100000
set_option maxHeartbeats 2000000
/-! HF7: tuples adopted; sorted(d) of a dict. -/
namespace PySem.W
open PySem PySem.Calls PyProof.Rows PySem.SeqAt
section
variable {prog : Program} {w : World} {A : Around} {E : Value → Shared → Prop} {s : Shared}
/-- a dict's keys, whatever they are -/
theorem walks_raw (hh : A.handled = none) (I d : Addr) (hne : d ≠ I) (o : Obj) (es : Array DictEntry) (ep : Nat) (hd : o.data = .dict es ep) :
    Walks prog w A I [I, d] [I] es.size (fun i v => ∃ en, es[i]? = some en ∧ en.key = v) (fun i h => h.IsKeyIter I d i es.size ep ∧ h.get? d = some o) where
  sub := fun b hb => by simp at hb; simp [hb]
  frame := fun _ _ _ st hk => ⟨st.1.at fun o e => hk I (by simp) o e, hk d (by simp) _ st.2⟩
  item := fun i s Q E hi st hQ => by
    refine L2.next_key_item st.1 st.2 hd rfl (Array.getElem?_eq_getElem hi) fun h' hit' hs' => ?_
    exact hQ _ h' s.toks ⟨_, Array.getElem?_eq_getElem hi, rfl⟩ ⟨hit', (hs'.2 d hne).trans st.2⟩ fun b o hb e => (hs'.2 b (fun h => hb (by simp [h]))).trans e
  done := fun s Q E st hQ => L2.next_key_end hh st.1 st.2 hd rfl (Nat.le_refl _) fun h' he' => hQ h' s.toks fun b o hb e => he' b o (fun h => hb (by simp [h])) e
  self := fun _ _ _ _ st hQ => wpAny_pyIter_keyiter st.1 hQ
theorem src_raw {d : Addr} {o : Obj} {es : Array DictEntry} {ep : Nat} (lo : (d == sysModules) = false) (hx : o.ExactDict) (hd : o.data = .dict es ep) :
    KdlSrc prog w "dict" d d es.size (fun i v => ∃ en, es[i]? = some en ∧ en.key = v) (fun h => h.get? d = some o) where
  type := fun s h => ⟨o, h, hx.1⟩
  there := fun _ h => ⟨Heap.lt_size h, Heap.lt_size h⟩
  keep := fun _ _ h hk => hk d (.inl rfl) o h
  notList := by decide
  notTuple := by decide
  hint := fun _ _ s _ h hq => kdl_hint_dict ⟨o, h, hx.1⟩ hq
  iter := fun _ s hh h => ⟨_, _, (fun _ _ hq => L2.iter_keys lo h hx hd hq), walks_raw hh _ d (Nat.ne_of_lt (Heap.lt_size h)) o es ep hd, ⟨⟨_, Heap.get?_push_size _ rfl, rfl, rfl⟩, Heap.get?_push_of_some _ h⟩⟩
/-- sorted(d): the keys on a new list, sorted -/
theorem sorted_of_dict {β : Type} {R : Value → β → Prop} {enc : β → PyData} {bs : List β} {d : Addr} {o : Obj} {es : Array DictEntry} {ep : Nat} {Q : Value → Shared → Prop} (hh : A.handled = none) (lo : (d == sysModules) = false) (ho : s.heap.get? d = some o) (hx : o.ExactDict) (hd : o.data = .dict es ep)
    (hL : es.size ≤ sizeLine) (hr : ∀ vs : List Value, vs.length = es.size → (∀ (i : Nat) (v : Value), vs[i]? = some v → ∃ en, es[i]? = some en ∧ en.key = v) → EachIs R vs bs) (er : ∀ (h' : Heap) (vs : List Value), (∀ b o, s.heap.get? b = some o → h'.get? b = some o) → EachIs R vs bs → EachIs (fun v b => ∃ as, Reads h' v (enc b) as) vs bs)
    (hal : AllAlike (bs.map enc)) (hk : Sortable (bs.map enc) ∨ ∀ d ∈ bs.map enc, ∃ xs, d = .tuple xs) (hu : ∀ b, b ∈ bs → A.units + 2 + (enc b).depth < cLine)
    (h : ∀ out (h1 h' : Heap) (tk : Nat) (p : Addr) (c : Nat), out.length = bs.length → EachIs R out (bs.mergeSort (dataLe false enc)) → (∀ b o, s.heap.get? b = some o → h1.get? b = some o) → (∀ b o, h1.get? b = some o → h'.get? b = some o) → h1.objs.size ≤ p → h'.get? p = some (seqObj "list" (List.toArray out) c) → Q (.ref p) { s with heap := h', toks := tk }) :
    wpAny (model prog w) A (call (.builtin "sorted") [.ref d]) Q E s := by
  refine call_function_entry kind_sorted plain_sorted entry_sorted (args_sorted1 _) ?_
  unfold Builtin.«sorted»
  refine wpAny_bind (m := checkCount "sorted" 1 1 _) (wpAny_pure ?_)
  refine wpAny_bind (kdu_collect (A := A.in1) (src_raw lo hx hd) (by simpa using hh) ho hL fun h' tk acc hk' hacc => ?_)
  have hal' : acc.toList.length = es.size := by rw [Array.length_toList, hacc.1]
  have e0 := hr acc.toList hal' fun i v e => hacc.2 i v (by rw [← Array.getElem?_toList]; exact e)
  have hz : acc.toList.length ≤ sizeLine := by omega
  refine wpAny_bind (wpAny_newList ?_ hz)
  have hoL : (h'.push (seqObj "list" acc.toList.toArray 0)).get? h'.objs.size = some (seqObj "list" acc.toList.toArray 0) := Heap.get?_push_size _ rfl
  show wpAny _ _ _ _ _ { s with heap := h'.push (seqObj "list" acc.toList.toArray 0), toks := tk }
  have kp : ∀ b o, s.heap.get? b = some o → (sortingHeap (h'.push (seqObj "list" acc.toList.toArray 0)) h'.objs.size acc.toList).get? b = some o := fun b o e => by
    have e1 := hk' b o e
    exact sortingHeap_old (Nat.ne_of_lt (Heap.lt_size e1)) (Heap.get?_push_of_some _ e1)
  have er' := er _ acc.toList kp e0
  have em := each_map (R := fun v d => ∃ as, Reads (sortingHeap (h'.push (seqObj "list" acc.toList.toArray 0)) h'.objs.size acc.toList) v d as) enc er'
  have S : SortsAt prog w A.in1.in1 { s with heap := sortingHeap (h'.push (seqObj "list" acc.toList.toArray 0)) h'.objs.size acc.toList, toks := tk } (dataKind (sortingHeap (h'.push (seqObj "list" acc.toList.toArray 0)) h'.objs.size acc.toList) (bs.map enc)) acc.toList := by
    rcases hk with hk | hk
    · exact SortsAt.data (s := { s with heap := sortingHeap (h'.push (seqObj "list" acc.toList.toArray 0)) h'.objs.size acc.toList, toks := tk }) em hal hk (bound_map (A := A.in1.in1) hu)
    · exact SortsAt.tups (s := { s with heap := sortingHeap (h'.push (seqObj "list" acc.toList.toArray 0)) h'.objs.size acc.toList, toks := tk }) em hal hk (bound_map (A := A.in1.in1) hu)
  refine wpAny_bind (wpAny_holding (wpAny_call_entry slot_list_sort ⟨_, hoL, rfl⟩ entry_list_sort
    (list_sort_vals (s := { s with heap := h'.push (seqObj "list" acc.toList.toArray 0), toks := tk }) hoL S hz ⟨_, rfl, ?_⟩) (args_list_sort _)))
  obtain ⟨e', he'⟩ := sortedHeap_at (vs := acc.toList) (out := (sortVals (dataKind (sortingHeap (h'.push (seqObj "list" acc.toList.toArray 0)) h'.objs.size acc.toList) (bs.map enc)) false acc.toList acc.toList).toArray) hoL
  refine wpAny_pure ⟨_, rfl, h _ h' _ tk h'.objs.size e' (by rw [sortVals_length false rfl]; exact e0.length) (sortVals_data false e0 er' hal) hk' (fun b o e1 => ?_) (Nat.le_refl _) he'⟩
  have hb := Heap.lt_size e1
  rw [sortedHeap_old (Nat.ne_of_lt hb) (by rw [size_push']; exact Nat.lt_succ_of_lt hb)]
  exact Heap.get?_push_of_some _ e1
end
end PySem.W
namespace HD
open PySem PySem.Spec PyProof.Rows L2
variable [Tb]
/-! ### tuples adopted -/
def adG (G H : Hp) : Hp := fun a => match G a with
  | some o => some o
  | none => match H a with
    | some (.tup xs) => some (.tup xs)
    | _ => none
theorem adG_old {G H : Hp} {a : Addr} {o : HO} (h : G a = some o) : adG G H a = some o := by
  unfold adG
  rw [h]
theorem adG_new {G H : Hp} {a : Addr} {xs : List V} (sm : Same G H) (h : H a = some (.tup xs)) : adG G H a = some (.tup xs) := by
  unfold adG
  cases g : G a with
  | none => simp [h]
  | some o =>
    have := sm _ _ g
    rw [h] at this
    cases this
    rfl
theorem adG_inv {G H : Hp} {a : Addr} {o : HO} (h : adG G H a = some o) : G a = some o ∨ (TupO o ∧ H a = some o) := by
  unfold adG at h
  cases g : G a with
  | some u =>
    rw [g] at h
    cases h
    exact .inl rfl
  | none =>
    rw [g] at h
    simp only [] at h
    split at h
    · rename_i xs e
      cases h
      exact .inr ⟨⟨xs, rfl⟩, e⟩
    · cases h
theorem S.adopt {K : PySem.W.Frag} {σ : L2.St} {H G : Hp} {env : Env} {F : Nat → List Addr} (s : S K σ H G env F) : S K σ H (adG G H) env F ∧ Evo [] env H G F env H (adG G H) F := by
  have gg : Same G (adG G H) := fun a o e => adG_old e
  refine ⟨⟨fun a o e => ?_, fun i d e => ?_, fun i n d e => ?_, s.emp, fun i a ha => ?_, s.apart, s.len, ⟨fun a ps e => ?_, s.tb.tabs⟩⟩, ⟨gg, fun a o e _ => .inl e, fun i a ha => .inl ⟨i, ha⟩, fun a o e => ?_, fun i _ => ⟨rfl, rfl, fun _ _ => rfl⟩, rfl⟩⟩
  · rcases adG_inv e with z | ⟨_, z⟩
    · exact s.same a o z
    · exact z
  · obtain ⟨v, e1, h⟩ := s.shr i d e
    exact ⟨v, e1, h.mono gg⟩
  · obtain ⟨v, e1, h⟩ := s.own i n d e
    exact ⟨v, e1, h.move gg fun _ _ => rfl⟩
  · obtain ⟨o, e, m⟩ := s.mut ha
    cases q : adG G H a with
    | none => rfl
    | some u =>
      rcases adG_inv q with z | ⟨z, z2⟩
      · rw [s.free i a ha] at z
        cases z
      · rw [e] at z2
        cases z2
        exact (z.mut m).elim
  · rcases adG_inv e with z | ⟨z, z2⟩
    · exact s.tb.nt a ps z
    · obtain ⟨xs, z⟩ := z
      cases z
  · rcases adG_inv e with z | z
    · exact .inl z
    · exact .inr (.inr (.inr z))

/-! ### sorted(d) -/
def dkeys : D → Option (List D)
  | .dct _ kvs => some (kvs.map (·.1))
  | _ => none
def sortDkF (fs : M D) : M (D × Nat) := fun env => (fs env).bind fun p => (dkeys p.1).bind fun xs => (sortD xs).map fun ys => ((.lst ys, 1), p.2)
theorem rep_keyD {K : PySem.W.Frag} {G : Hp} (k : Key) : Rep K G (kV k) (keyD k) := by
  cases k with
  | inl i => exact .int i
  | inr x => exact .str x
theorem reps_keyD {K : PySem.W.Frag} {G : Hp} : ∀ ks : List Key, Reps K G (ks.map kV) (ks.map keyD)
  | [] => .nil
  | k :: ks => .cons (rep_keyD k) (reps_keyD ks)
/-- a dict's keys as they lie there -/
theorem dict_src {X : Cx} {pins : List (Addr × Obj)} {σ : L2.St} {H W : Hp} {s : Shared} {a : Addr} {d : D} {xs : List D} (I : Inv X pins σ H s) (sm : Same W H) (rp : Rep X.K W (.ref a) d) (hd : dkeys d = some xs) :
    ∃ o es ep, (a == sysModules) = false ∧ s.heap.get? a = some o ∧ o.ExactDict ∧ o.data = .dict es ep ∧ es.size ≤ sizeLine ∧ ∀ vs : List Value, vs.length = es.size → (∀ (i : Nat) (v : Value), vs[i]? = some v → ∃ en, es[i]? = some en ∧ en.key = v) →
      ∃ zs : List V, Vals zs vs ∧ ∀ G, (∀ a xs, H a = some (.tup xs) → G a = some (.tup xs)) → Reps X.K G zs xs := by
  cases rp with
  | @dK _ ks ds kvs ha hr hq =>
    simp only [dkeys, Option.some.injEq] at hd
    obtain ⟨hz, hs, vs', kv, o, es, ep, ho, hx, hdt, hks, hp, hn⟩ := I.hok a _ (sm _ _ ha)
    have lk : xs = (ks.map (·.1)).map keyD := by
      rw [← hd, hq, List.map_fst_zip (by have := hr.length; simp at this ⊢; omega), List.map_map]
      rfl
    have l1 : ks.length = vs'.length := Paired.length kv
    have l2 : es.toList.length = vs'.length := hp.length
    rw [Array.length_toList] at l2
    refine ⟨o, es, ep, hs, ho, hx, hdt, by omega, fun vs hvl hv => ⟨(ks.map (·.1)).map kV, ?_, fun G _ => by rw [lk]; exact reps_keyD _⟩⟩
    refine vals_of_at (by simp; omega) fun j x u hx' hu => ?_
    obtain ⟨en, e1, e2⟩ := hv j u hu
    rw [List.getElem?_map, List.getElem?_map] at hx'
    cases hk : ks[j]? with
    | none => rw [hk] at hx'; cases hx'
    | some p =>
      rw [hk] at hx'
      cases hx'
      obtain ⟨u2, h1, h2⟩ := kv_get kv (k := p.1) (v := p.2) hk
      have h3 := hp.get? (i := j) (e := en) (by rw [Array.getElem?_toList]; exact e1) h1
      rw [← e2]
      exact relV_key (show keyIs p.1 en.key = true from h3.1)
  | @dT _ ks ds kvs ha hr hq =>
    simp only [dkeys, Option.some.injEq] at hd
    obtain ⟨hz, hs, ys, pr, o, es, ep, ho, hx, hdt, he, hn⟩ := I.hok a _ (sm _ _ ha)
    have lk : xs = ks.map fun p => D.tup (p.1.map keyD) := by
      rw [← hd, hq, List.map_fst_zip (by have := hr.length; simp at this ⊢; omega)]
    have l1 : ks.length = ys.length := Paired.length pr
    have l2 : es.size = ys.length := size_of_entries he
    refine ⟨o, es, ep, hs, ho, hx, hdt, by omega, fun vs hvl hv => ⟨ys.map fun q => V.ref q.2.1, ?_, fun G hG => ?_⟩⟩
    · refine vals_of_at (by simp; omega) fun j x u hx' hu => ?_
      obtain ⟨en, e1, e2⟩ := hv j u hu
      have q := entry_at he j
      rw [e1] at q
      rw [List.getElem?_map] at hx'
      cases hk : ys[j]? with
      | none => rw [hk] at hx'; cases hx'
      | some p =>
        rw [hk] at hx' q
        cases hx'
        cases q
        rw [← e2]
        exact rfl
    · rw [lk]
      clear l1 l2 he hv hvl hdt ho lk hr hq hd hz ha
      induction pr with
      | nil => exact .nil
      | cons r t ih =>
        refine .cons ?_ (ih (by simp only [List.map_cons, List.nodup_cons] at hn; exact hn.2) )
        exact .tup (hG _ _ r.2.1) (reps_keyD _)
  | _ => simp [dkeys] at hd
theorem sortD_ok {xs ys : List D} (h : sortD xs = some ys) : ys = xs.mergeSort D.le ∧ D.okEs 60 xs = true ∧ PySem.W.AllAlike (xs.map D.py) ∧ (PySem.W.Sortable (xs.map D.py) ∨ ∀ d ∈ xs.map D.py, ∃ ws, d = PyData.tuple ws) := by
  unfold sortD at h
  split at h
  · rename_i c
    cases h
    unfold sortOk at c
    rw [Bool.and_eq_true, Bool.and_eq_true, Bool.and_eq_true, decide_eq_true_eq] at c
    obtain ⟨⟨⟨c1, c2⟩, c3⟩, c4⟩ := c
    refine ⟨rfl, c1, fun x hx y hy => ?_, ?_⟩
    · obtain ⟨p, hp, rfl⟩ := List.mem_map.mp hx
      obtain ⟨p', hp', rfl⟩ := List.mem_map.mp hy
      exact List.all_eq_true.mp (List.all_eq_true.mp c2 _ hp) _ hp'
    · rw [Bool.or_eq_true] at c3
      rcases c3 with c3 | c3
      · refine .inr fun d hd => ?_
        obtain ⟨p, hp, rfl⟩ := List.mem_map.mp hd
        have a1 := List.all_eq_true.mp c3 _ hp
        revert a1
        cases p <;> simp [D.isTup, D.py]
      · refine .inl (.inr fun d hd => ?_)
        obtain ⟨p, hp, rfl⟩ := List.mem_map.mp hd
        have a1 := List.all_eq_true.mp c3 _ hp
        revert a1
        cases p <;> simp [D.isTup, D.isNon, D.py]
  · cases h
def rSD (K : PySem.W.Frag) : List V → Hp → VK → Prop := fun vs H Q => ∃ W d xs ys, Same W H ∧ Reps K W vs [d] ∧ dkeys d = some xs ∧ sortD xs = some ys ∧
  ∀ p zs, H p = none → (∀ G, (∀ a xs, H a = some (.tup xs) → G a = some (.tup xs)) → Reps K G zs ys) → Q (.ref p) (upd H p (.lst zs))
theorem gen_each {β : Type} {us' : List V} {its' : List Value} {bs : List β} (h : Vals us' its') : us'.length = bs.length → PySem.W.EachIs (fun (v : Value) (p : V × β) => RelV p.1 v) its' (us'.zip bs) := by
  induction h generalizing bs with
  | nil => intro _; rw [List.zip_nil_left]; exact .nil
  | cons a b ih =>
    intro hl
    cases bs with
    | nil => simp at hl
    | cons b' bs => rw [List.zip_cons_cons]; exact .cons a (ih (by simpa using hl))
theorem c_sortedDk {X : Cx} (hcalm : X.calm = true) (hu : X.A.units + 70 < cLine) : CallR X (.builtin "sorted") (rSD X.K) := by
  intro pins s σ H vs us Q I rv h
  obtain ⟨W, d, xs, ys, sm, rp, hd, hs, q⟩ := h
  obtain ⟨v, rfl, rp1⟩ := reps1 rp
  obtain ⟨a, rfl⟩ : ∃ a, v = .ref a := by
    cases rp1 <;> first | exact ⟨_, rfl⟩ | simp [dkeys] at hd
  rw [Vals.ref1 rv]
  obtain ⟨o, es, ep, lo, ho, hx, hdt, hL, src⟩ := dict_src I sm rp1 hd
  obtain ⟨rfl, c1, alk, hk⟩ := sortD_ok hs
  -- the keys as they lie there
  obtain ⟨z0, r0, rz0⟩ := src (es.toList.map (·.key)) (by simp) fun i v e => by
    rw [List.getElem?_map] at e
    cases q : es[i]? with
    | none => rw [← Array.getElem?_toList] at q; rw [q] at e; cases e
    | some en => rw [← Array.getElem?_toList] at q; rw [q] at e; cases e; exact ⟨en, rfl, rfl⟩
  have same : ∀ vs : List Value, vs.length = es.size → (∀ (i : Nat) (v : Value), vs[i]? = some v → ∃ en, es[i]? = some en ∧ en.key = v) → vs = es.toList.map (·.key) := fun vs hl hv => by
    refine List.ext_getElem? fun i => ?_
    cases e : vs[i]? with
    | none =>
      rw [List.getElem?_eq_none_iff] at e
      rw [List.getElem?_eq_none (by simp; omega)]
    | some v =>
      obtain ⟨en, e1, e2⟩ := hv i v e
      rw [List.getElem?_map, Array.getElem?_toList, e1, ← e2]
      rfl
  have rH := rz0 H fun _ _ e => e
  have hl := rH.length
  have em : (z0.zip xs).map (fun p : V × D => p.2.py) = xs.map D.py := by
    have : (fun b : V × D => b.2.py) = D.py ∘ Prod.snd := rfl
    rw [this, ← List.map_map, List.map_snd_zip (by omega)]
  refine PySem.W.sorted_of_dict (bs := z0.zip xs) (enc := fun p : V × D => p.2.py) (R := fun (v : Value) (p : V × D) => RelV p.1 v) (I.ok.hd hcalm) lo ho hx hdt hL (fun vs hvl hv => ?_) (fun h' vs kp e => ?_) (by rw [em]; exact alk) (by rw [em]; exact hk) (fun b hb => ?_) (fun out h1 h' tk p c ol eo k1 k2 hp hg => ?_)
  · rw [same vs hvl hv]
    exact gen_each r0 hl
  · have I1 : Inv X pins σ H { s with heap := h' } := I.kept (t' := s.toks) kp
    refine (PySem.W.each_mem e).mono fun v b ⟨h1, h2⟩ => Dp.reads I1 _ _ _ ((reps_zip rH b h2).dp (okEs_mem c1 _ (List.of_mem_zip h2).2)) h1
  · have := (okE_lay b.2 60 (okEs_mem c1 _ (List.of_mem_zip hb).2)).2
    omega
  · have I1 : Inv X pins σ H { s with heap := h1, toks := tk } := I.kept k1
    have vo := vals_each eo
    have es' : ((z0.zip xs).mergeSort (PySem.W.dataLe false fun p : V × D => p.2.py)).map Prod.snd = xs.mergeSort D.le := by
      have h := PySem.W.sort_maps (r := PySem.W.dataLe false fun p : V × D => p.2.py) (s := D.le) Prod.snd (l := z0.zip xs) fun a _ b _ => rfl
      refine h.trans ?_
      rw [List.map_snd_zip]
      omega
    have zlen : (z0.zip xs).length ≤ sizeLine := by
      have l0 := r0.length
      simp only [List.length_zip, List.length_map, Array.length_toList] at l0 ⊢
      omega
    refine ⟨.ref p, upd H p (.lst (((z0.zip xs).mergeSort (PySem.W.dataLe false fun p : V × D => p.2.py)).map Prod.fst)), I1.laid (t' := tk) k2 hp ⟨by rw [vo.length, ol]; exact zlen, out, c, vo, hg⟩, rfl, q p _ (I1.hok.fresh hp) fun G hG => ?_⟩
    rw [← es']
    have mem : ∀ p ∈ (z0.zip xs).mergeSort (PySem.W.dataLe false fun p : V × D => p.2.py), Rep X.K G p.1 p.2 := fun p hp => reps_zip (rz0 G hG) p ((List.mergeSort_perm _ _).mem_iff.mp hp)
    exact reps_of_zip mem
section
variable {X : Cx} {m r : List Nat} {pos p : Pos} {a : Expr}
theorem df_sortedDk {fs : M D} (hcalm : X.calm = true) (hu : X.A.units + 70 < cLine) (hg : Gl X "sorted") (hm : X.mg "sorted" = none) (ha : DE X m r fs a)
    (he : starEach [a] X.env = (false, eval a X.env) :: starEach [] X.env := by rfl) (hpl : (backTo pos (starEach ([] : List Expr) X.env)).any (·.1) = false := by rfl) : DF X m (sortDkF fs) (.Call (.Name "sorted" p) [a] [] pos) := by
  have hA : DA X (m ++ []) (r ++ []) (argsC (dj r []) fs args0) [a] := da_cons ha da_nil he
  refine pe_weak (pe_callB (c_sortedDk hcalm hu) hg hm (by decide +kernel) hA (by decide) (by decide) he hpl) fun σ H Q h => ?_
  obtain ⟨G, env, F, ⟨d, n⟩, env', st, hf, q⟩ := h
  obtain ⟨⟨d0, e1⟩, h1, h2⟩ := bind_some' hf
  obtain ⟨xs, h3, h4⟩ := bind_some' h2
  obtain ⟨ys, h5, h6⟩ := map_some' h4
  simp only [Prod.mk.injEq] at h6
  obtain ⟨⟨rfl, rfl⟩, rfl⟩ := h6
  have hA' : argsC (dj r []) fs args0 env = some ([d0], e1) := by
    have : dj r [] = true := by simp [dj]
    simp [argsC, h1, args0, this]
  refine ⟨G, env, F, [d0], e1, st, hA', fun vs H1 G1 F1 s1 ev1 rp1 => ⟨vw (r ++ []) H1 G1 F1, d0, xs, ys, s1.vwH _, rp1, h3, h5, fun p zs hp rz => ?_⟩⟩
  obtain ⟨s2, ev2⟩ := s1.adopt
  have rg := rz (adG G1 H1) fun a xs e => adG_new s1.same e
  have ev : Evo m env H G F e1 H1 (adG G1 H1) F1 := (ev1.trans ev2).mono fun i hi => by simpa using hi
  have hG : adG G1 H1 p = none := s2.same.free hp
  have hF : ∀ j, p ∉ F1 j := fun j hj => by
    obtain ⟨u, hu, _⟩ := s2.mut hj
    rw [hp] at hu
    cases hu
  have keep : ∀ i, ∀ a ∈ F1 i, upd H1 p (.lst zs) a = H1 a := fun i a ha => upd_ne fun z => hF i (by rw [← z]; exact ha)
  refine q _ _ _ F1 [p] (s2.updOut hG hF (mutN hp)) ⟨ev.g, fun a u e1 e2 => ?_, ev.f, ev.n, fun i hi => ?_, ev.l⟩ (own_lst rg) fun a ha => ?_
  · exact (ev.k a u e1 e2).upd hp
  · obtain ⟨a1, a2, a3⟩ := ev.u i hi
    exact ⟨a1, a2, fun a ha => by rw [keep i a (by rw [a2]; exact ha)]; exact a3 a ha⟩
  · have e : a = p := by simpa using ha
    subst e
    exact ⟨⟨hG, hF⟩, (ev.none_of hp).elim .inr .inl⟩
end
end HD
set_option Elab.async false
set_option linter.all false
set_option autoImplicit false
set_option maxRecDepth 100000
set_option maxHeartbeats 4000000
/-! HF8: set(x), sorted(set(x)), len(set(x)) of whole numbers. -/
namespace HK
open PySem PySem.W PySem.Calls PyProof.Rows L2
section
variable {prog : Program} {w : World} {A : Around} {R : Result → Shared → Prop} {I : Addr} {fp wr : List Addr} {G : Array GenState → Array GenState → Prop} {n : Nat} {P : Nat → Value → Prop} {St : Nat → Shared → Prop}
/-- set.update's loop over whole numbers, the set's table known -/
theorem set_loopR (W : WalksS prog w A.in1 I fp wr G n P St) (S : Addr) (hSf : S ∉ fp)
    (val : Nat → Int) (hval : ∀ i v, P i v → ∃ t, v = .int (val i) t) (hb : n + 1 < scanBound) :
    ∀ (k i : Nat) (s : Shared), n - i = k → i ≤ n → St i s →
      SetR w s.heap S (fun k' => (firstMet val i).any (· == k')) (firstMet val i).length →
      (∀ s', Moved (S :: wr) G s s' → SetR w s'.heap S (fun k' => (firstMet val n).any (· == k')) (firstMet val n).length → R (.ok (.ret .none)) s') →
      codeAny (model prog w) A (.builtin "set.update.loop" ⟨[.ref S, .ref I], []⟩) R s := by
  have hSw : S ∉ wr := fun h => hSf (W.sub _ h)
  have hsub : ∀ b ∈ wr, b ∈ S :: wr := fun b hb => List.mem_cons_of_mem _ hb
  intro k
  induction k with
  | zero =>
    intro i s hk hi hst hS hR
    have hin : i = n := by omega
    subst hin
    refine codeAny_builtin F.entry_set_update_loop ?_
    rw [Around.under_plainId F.plain_set_update_loop _]
    show wpAny _ A.in1 (pyNext (.ref I) >>= _) _ _ s
    refine wpAny_bind (W.done s _ _ hst fun s' hm => ?_)
    show wpAny _ A.in1 (ret Value.none) _ _ s'
    exact wpAny_pure (hR s' (hm.mono hsub) (hS.at fun o e => hm.heap S _ hSw e))
  | succ k ih =>
    intro i s hk hi hst hS hR
    have hlt : i < n := by omega
    refine codeAny_builtin F.entry_set_update_loop ?_
    rw [Around.under_plainId F.plain_set_update_loop _]
    show wpAny _ A.in1 (pyNext (.ref I) >>= _) _ _ s
    refine wpAny_bind (W.item i s _ _ hlt hst fun v s' hP hst' hm => ?_)
    obtain ⟨t, rfl⟩ := hval i v hP
    have hS' : SetR w s'.heap S (fun k' => (firstMet val i).any (· == k')) (firstMet val i).length := hS.at fun o e => hm.heap S _ hSw e
    show wpAny _ A.in1 (holding [Value.int (val i) t] (setAdd S (.int (val i) t)) >>= _) _ _ s'
    refine wpAny_bind (wpAny_holding ?_)
    unfold setAdd
    refine wpAny_holding ?_
    refine wpAny_bind ((intKind prog w).pyHash (k := val i) (intKind_is _ _ _ _) ?_)
    have hroom : (firstMet val i).length + 1 < scanBound := by have := firstMet_length_le val i; omega
    refine setR_add_hashed (s := { s' with toks := s'.toks + 1 }) hS' hroom fun h' hsb hS2 => ?_
    have hlen : (firstMet val (i + 1)).length = if ((firstMet val i).any (· == val i)) = true then (firstMet val i).length else (firstMet val i).length + 1 := by
      rw [firstMet_succ, step_length]
    have hSi : SetR w h' S (fun k' => (firstMet val (i + 1)).any (· == k')) (firstMet val (i + 1)).length := by
      rw [hlen]
      exact hS2.congr fun k' => by rw [firstMet_succ, step_any]
    refine wpAny_pure ⟨plainId_quiet F.plain_set_update_loop _, ih (i + 1) _ (by omega) hlt (W.frame _ s' _ _ hst' (Nat.le_succ _) fun b hb o e => ?_) hSi fun s'' hm'' hS'' => ?_⟩
    · rw [hsb.2 b (fun h : b = S => hSf (by rw [← h]; exact hb))]; exact e
    · refine hR s'' (Moved.trans W.gtrans ((hm.mono hsub).then_heap (Nat.le_succ _) fun b o hb e => ?_) hm'') hS''
      rw [hsb.2 b (fun h : b = S => hb (by rw [h]; exact List.mem_cons_self))]; exact e
end
section
variable {prog : Program} {w : World} {A : Around} {E : Value → Shared → Prop} {s : Shared}
theorem sub_tuple_set : isSubtype (.type "tuple") (.type "set") = pure false := by rw [isSubtype_type]; kernel_rfl
theorem sub_tuple_frozenset : isSubtype (.type "tuple") (.type "frozenset") = pure false := by rw [isSubtype_type]; kernel_rfl
theorem sub_list_set : isSubtype (.type "list") (.type "set") = pure false := by rw [isSubtype_type]; kernel_rfl
theorem sub_list_frozenset : isSubtype (.type "list") (.type "frozenset") = pure false := by rw [isSubtype_type]; kernel_rfl

theorem call_set_listR {l : Addr} {items : Array Value} {ns : List Int} {Q : Value → Shared → Prop}
    (hh : A.handled = none) (hl : s.heap.IsList l items) (hi : PyProof.Rows.IntsAre items.toList ns) (hb : items.size + 1 < scanBound)
    (h : ∀ (h' : Heap) (tk : Nat), SetR w h' s.heap.objs.size (fun k' => (PyProof.Rows.firstMet (fun i => ns.getD i 0) items.size).any (· == k')) (PyProof.Rows.firstMet (fun i => ns.getD i 0) items.size).length →
      (∀ b o, b < s.heap.objs.size → s.heap.get? b = some o → h'.get? b = some o) → Q (.ref s.heap.objs.size) { s with heap := h', toks := tk }) :
    wpAny (model prog w) A (call (.type "set") [.ref l]) Q E s := by
  obtain ⟨c, tl, hmro⟩ := F.called_set.mro
  have hmade := F.called_set.made
  have hsub := F.called_set.sub
  refine wpAny_call (codeAny_of_tree ?_)
  show wpAny _ _ (callAny (.type "set") _) _ _ _
  refine wpAny_pure ⟨Code.quiet_builtin _ (by decide +kernel), codeAny_builtin F.entry_type_call ?_⟩
  rw [Around.under_plain (weight_type_call_type "set" [.ref l] []) rfl]
  have h1 := F.called_set.notType
  have h2 := F.called_set.canCreate
  have hct := F.typeCall_set_1 (.ref l)
  repeat (any_goals (first | assumption | wp_step))
  refine codeAny_mono (code_set_led1 (.ref l) (E := E) (Q₁ := fun obj s₁ => obj = .ref s.heap.objs.size ∧ s₁ = { s with heap := s.heap.push { cls := .type "set", dict := none, data := .set #[] 0 (.fresh 0 0 (!w.params.followText "set-order")) } }) ⟨rfl, rfl⟩) fun r s₁ hr => ?_
  cases r with
  | error e => exact hr
  | ok fl =>
    cases fl with
    | ret obj =>
      obtain ⟨rfl, rfl⟩ := hr
      have hS : (s.heap.push { cls := .type "set", dict := none, data := .set #[] 0 (.fresh 0 0 (!w.params.followText "set-order")) }).get? s.heap.objs.size = some { cls := .type "set", dict := none, data := .set #[] 0 (.fresh 0 0 (!w.params.followText "set-order")) } := Heap.get?_push_size _ rfl
      have hT : Shared.TypeIs { s with heap := s.heap.push { cls := .type "set", dict := none, data := .set #[] 0 (.fresh 0 0 (!w.params.followText "set-order")) } } (.ref s.heap.objs.size) "set" := ⟨_, hS, rfl⟩
      have hli := F.called_set.init.lookup
      have hbi := F.called_set.init.bind (.ref s.heap.objs.size)
      repeat (any_goals (first | assumption | wp_step))
      refine codeAny_mono (codeAny_call_builtin (R := wants (fun r s₂ => r = .none ∧ ∃ h' tk, s₂ = { s with heap := h', toks := tk } ∧
          SetR w h' s.heap.objs.size (fun k' => (PyProof.Rows.firstMet (fun i => ns.getD i 0) items.size).any (· == k')) (PyProof.Rows.firstMet (fun i => ns.getD i 0) items.size).length ∧
          (∀ b o, b < s.heap.objs.size → s.heap.get? b = some o → h'.get? b = some o)) E) F.called_set.init.plain F.entry_set_init (check_set_init_1 hT ?_)) fun r₂ s₂ hr₂ => ?_
      · obtain ⟨ol, hol, hcl, nl, hdl⟩ := hl
        obtain ⟨ocls, odict, odata, oslots⟩ := ol
        simp only at hcl hdl
        subst hcl; subst hdl
        have hol' : (s.heap.push { cls := .type "set", dict := none, data := .set #[] 0 (.fresh 0 0 (!w.params.followText "set-order")) }).get? l = some { cls := .type "list", dict := odict, data := .seq items nl, slots := oslots } := Heap.get?_push_of_some _ hol
        have hsls := sub_list_set
        have hslf := sub_list_frozenset
        have hne : (Value.type "list" == Value.type "dict") = false := by decide
        have hl1 : (s.heap.push { cls := .type "set", dict := none, data := .set #[] 0 (.fresh 0 0 (!w.params.followText "set-order")) }).IsList l items := ⟨_, hol', rfl, nl, rfl⟩
        unfold Builtin.«set.__init__» noKeywords Builtin.Frozenset.updateFrom
        generalize hPI : pyIter = PI
        wp_walk
        subst hPI
        refine wpAny_pyIter_list hl1 ?_
        refine wpAny_bind (wpAny_runValue ?_)
        have hlS : l < s.heap.objs.size := Heap.lt_size hol
        have hh3 : A.in1.in1.in1.handled = none := by simp [hh]
        have hneI : l ≠ (s.heap.push { cls := .type "set", dict := none, data := .set #[] 0 (.fresh 0 0 (!w.params.followText "set-order")) }).objs.size := by
          rw [Heap.size_push]; exact Nat.ne_of_lt (Nat.lt_succ_of_lt hlS)
        have hSf : s.heap.objs.size ∉ [(s.heap.push { cls := .type "set", dict := none, data := .set #[] 0 (.fresh 0 0 (!w.params.followText "set-order")) }).objs.size, l] := by
          rw [Heap.size_push]; simp only [List.mem_cons, List.mem_singleton, List.not_mem_nil, or_false, not_or]
          exact ⟨Nat.ne_of_lt (Nat.lt_succ_self _), Nat.ne_of_gt hlS⟩
        have hval : ∀ (i : Nat) (v : Value), items[i]? = some v → ∃ t, v = .int ((fun i => ns.getD i 0) i) t := fun i v hv =>
          PyProof.Rows.IntsAre.int_at hi i v (by rw [Array.getElem?_toList]; exact hv)
        refine set_loopR ((Walks.list hh3 _ l hneI items).toS) s.heap.objs.size
          hSf (fun i => ns.getD i 0) hval hb (items.size - 0) 0 _ (by omega) (Nat.zero_le _)
          ⟨⟨_, Heap.get?_push_size _ rfl, rfl, rfl⟩, (hl1.push _)⟩ ?hS0 ?hR
        case hS0 =>
          exact (setR_fresh (h := s.heap) w).at fun o e => Heap.get?_push_of_some _ e
        case hR =>
          intro s' hm hS'
          obtain ⟨h', g', d', tk', os'⟩ := s'
          have eg : g' = s.gens := hm.gens
          have ed : d' = s.drawn := hm.drawn
          have eo : os' = s.os := hm.os
          subst eg; subst ed; subst eo
          show wpAny _ _ _ _ _ _
          refine wpAny_pure ?_
          show wpAny _ _ (ret Value.none) _ _ _
          refine wpAny_pure ⟨rfl, h', tk', rfl, hS', fun b o hb e => ?_⟩
          have hb1 : b ≠ s.heap.objs.size := Nat.ne_of_lt hb
          have hb2 : b ≠ (s.heap.push { cls := .type "set", dict := none, data := .set #[] 0 (.fresh 0 0 (!w.params.followText "set-order")) }).objs.size := by
            rw [Heap.size_push]; exact Nat.ne_of_lt (Nat.lt_succ_of_lt hb)
          exact hm.heap b o (by simp only [List.mem_cons, List.mem_singleton, List.not_mem_nil, or_false, not_or]; exact ⟨hb1, hb2⟩) (Heap.get?_push_of_some _ (Heap.get?_push_of_some _ e))
      · cases r₂ with
        | error e => exact hr₂
        | ok fl₂ =>
          cases fl₂ with
          | ret r =>
            obtain ⟨rfl, h', tk, rfl, hS', hk'⟩ := hr₂
            repeat (any_goals (first | assumption | wp_step))
            exact h _ _ hS' hk'
          | _ => exact hr₂.elim
    | _ => exact hr.elim

theorem call_set_tupleR {l : Addr} {items : Array Value} {ns : List Int} {Q : Value → Shared → Prop}
    (hh : A.handled = none) (hl : s.heap.IsTuple l items) (hi : PyProof.Rows.IntsAre items.toList ns) (hb : items.size + 1 < scanBound)
    (h : ∀ (h' : Heap) (tk : Nat), SetR w h' s.heap.objs.size (fun k' => (PyProof.Rows.firstMet (fun i => ns.getD i 0) items.size).any (· == k')) (PyProof.Rows.firstMet (fun i => ns.getD i 0) items.size).length →
      (∀ b o, b < s.heap.objs.size → s.heap.get? b = some o → h'.get? b = some o) → Q (.ref s.heap.objs.size) { s with heap := h', toks := tk }) :
    wpAny (model prog w) A (call (.type "set") [.ref l]) Q E s := by
  obtain ⟨c, tl, hmro⟩ := F.called_set.mro
  have hmade := F.called_set.made
  have hsub := F.called_set.sub
  refine wpAny_call (codeAny_of_tree ?_)
  show wpAny _ _ (callAny (.type "set") _) _ _ _
  refine wpAny_pure ⟨Code.quiet_builtin _ (by decide +kernel), codeAny_builtin F.entry_type_call ?_⟩
  rw [Around.under_plain (weight_type_call_type "set" [.ref l] []) rfl]
  have h1 := F.called_set.notType
  have h2 := F.called_set.canCreate
  have hct := F.typeCall_set_1 (.ref l)
  repeat (any_goals (first | assumption | wp_step))
  refine codeAny_mono (code_set_led1 (.ref l) (E := E) (Q₁ := fun obj s₁ => obj = .ref s.heap.objs.size ∧ s₁ = { s with heap := s.heap.push { cls := .type "set", dict := none, data := .set #[] 0 (.fresh 0 0 (!w.params.followText "set-order")) } }) ⟨rfl, rfl⟩) fun r s₁ hr => ?_
  cases r with
  | error e => exact hr
  | ok fl =>
    cases fl with
    | ret obj =>
      obtain ⟨rfl, rfl⟩ := hr
      have hS : (s.heap.push { cls := .type "set", dict := none, data := .set #[] 0 (.fresh 0 0 (!w.params.followText "set-order")) }).get? s.heap.objs.size = some { cls := .type "set", dict := none, data := .set #[] 0 (.fresh 0 0 (!w.params.followText "set-order")) } := Heap.get?_push_size _ rfl
      have hT : Shared.TypeIs { s with heap := s.heap.push { cls := .type "set", dict := none, data := .set #[] 0 (.fresh 0 0 (!w.params.followText "set-order")) } } (.ref s.heap.objs.size) "set" := ⟨_, hS, rfl⟩
      have hli := F.called_set.init.lookup
      have hbi := F.called_set.init.bind (.ref s.heap.objs.size)
      repeat (any_goals (first | assumption | wp_step))
      refine codeAny_mono (codeAny_call_builtin (R := wants (fun r s₂ => r = .none ∧ ∃ h' tk, s₂ = { s with heap := h', toks := tk } ∧
          SetR w h' s.heap.objs.size (fun k' => (PyProof.Rows.firstMet (fun i => ns.getD i 0) items.size).any (· == k')) (PyProof.Rows.firstMet (fun i => ns.getD i 0) items.size).length ∧
          (∀ b o, b < s.heap.objs.size → s.heap.get? b = some o → h'.get? b = some o)) E) F.called_set.init.plain F.entry_set_init (check_set_init_1 hT ?_)) fun r₂ s₂ hr₂ => ?_
      · obtain ⟨ol, hol, hcl, nl, hdl⟩ := hl
        obtain ⟨ocls, odict, odata, oslots⟩ := ol
        simp only at hcl hdl
        subst hcl; subst hdl
        have hol' : (s.heap.push { cls := .type "set", dict := none, data := .set #[] 0 (.fresh 0 0 (!w.params.followText "set-order")) }).get? l = some { cls := .type "tuple", dict := odict, data := .seq items nl, slots := oslots } := Heap.get?_push_of_some _ hol
        have hsls := sub_tuple_set
        have hslf := sub_tuple_frozenset
        have hne : (Value.type "tuple" == Value.type "dict") = false := by decide
        have hl1 : (s.heap.push { cls := .type "set", dict := none, data := .set #[] 0 (.fresh 0 0 (!w.params.followText "set-order")) }).IsTuple l items := ⟨_, hol', rfl, nl, rfl⟩
        unfold Builtin.«set.__init__» noKeywords Builtin.Frozenset.updateFrom
        generalize hPI : pyIter = PI
        wp_walk
        subst hPI
        refine wpAny_pyIter_tuple hl1 ?_
        refine wpAny_bind (wpAny_runValue ?_)
        have hlS : l < s.heap.objs.size := Heap.lt_size hol
        have hh3 : A.in1.in1.in1.handled = none := by simp [hh]
        have hneI : l ≠ (s.heap.push { cls := .type "set", dict := none, data := .set #[] 0 (.fresh 0 0 (!w.params.followText "set-order")) }).objs.size := by
          rw [Heap.size_push]; exact Nat.ne_of_lt (Nat.lt_succ_of_lt hlS)
        have hSf : s.heap.objs.size ∉ [(s.heap.push { cls := .type "set", dict := none, data := .set #[] 0 (.fresh 0 0 (!w.params.followText "set-order")) }).objs.size, l] := by
          rw [Heap.size_push]; simp only [List.mem_cons, List.mem_singleton, List.not_mem_nil, or_false, not_or]
          exact ⟨Nat.ne_of_lt (Nat.lt_succ_self _), Nat.ne_of_gt hlS⟩
        have hval : ∀ (i : Nat) (v : Value), items[i]? = some v → ∃ t, v = .int ((fun i => ns.getD i 0) i) t := fun i v hv =>
          PyProof.Rows.IntsAre.int_at hi i v (by rw [Array.getElem?_toList]; exact hv)
        refine set_loopR ((Walks.tuple hh3 _ l hneI items).toS) s.heap.objs.size
          hSf (fun i => ns.getD i 0) hval hb (items.size - 0) 0 _ (by omega) (Nat.zero_le _)
          ⟨⟨_, Heap.get?_push_size _ rfl, rfl, rfl⟩, (hl1.push _)⟩ ?hS0 ?hR
        case hS0 =>
          exact (setR_fresh (h := s.heap) w).at fun o e => Heap.get?_push_of_some _ e
        case hR =>
          intro s' hm hS'
          obtain ⟨h', g', d', tk', os'⟩ := s'
          have eg : g' = s.gens := hm.gens
          have ed : d' = s.drawn := hm.drawn
          have eo : os' = s.os := hm.os
          subst eg; subst ed; subst eo
          show wpAny _ _ _ _ _ _
          refine wpAny_pure ?_
          show wpAny _ _ (ret Value.none) _ _ _
          refine wpAny_pure ⟨rfl, h', tk', rfl, hS', fun b o hb e => ?_⟩
          have hb1 : b ≠ s.heap.objs.size := Nat.ne_of_lt hb
          have hb2 : b ≠ (s.heap.push { cls := .type "set", dict := none, data := .set #[] 0 (.fresh 0 0 (!w.params.followText "set-order")) }).objs.size := by
            rw [Heap.size_push]; exact Nat.ne_of_lt (Nat.lt_succ_of_lt hb)
          exact hm.heap b o (by simp only [List.mem_cons, List.mem_singleton, List.not_mem_nil, or_false, not_or]; exact ⟨hb1, hb2⟩) (Heap.get?_push_of_some _ (Heap.get?_push_of_some _ e))
      · cases r₂ with
        | error e => exact hr₂
        | ok fl₂ =>
          cases fl₂ with
          | ret r =>
            obtain ⟨rfl, h', tk, rfl, hS', hk'⟩ := hr₂
            repeat (any_goals (first | assumption | wp_step))
            exact h _ _ hS' hk'
          | _ => exact hr₂.elim
    | _ => exact hr.elim

end
end HK
set_option Elab.async false
set_option linter.all false
set_option autoImplicit false
set_option maxRecDepth 100000
set_option maxHeartbeats 2000000
/-! HF9: sorted(set(x)) of whole numbers, by data. -/
namespace HD
open PySem PySem.Spec PyProof.Rows L2
variable [Tb]
/-- put in its place, once -/
def insU (i : Int) : List Int → List Int
  | [] => [i]
  | j :: js => if i < j then i :: j :: js else if i = j then j :: js else j :: insU i js
/-- ascending, each once -/
def sset : List Int → List Int
  | [] => []
  | i :: is => insU i (sset is)
omit [Tb] in
theorem mem_insU {i k : Int} : ∀ {l : List Int}, k ∈ insU i l ↔ k = i ∨ k ∈ l
  | [] => by simp [insU]
  | j :: js => by
    unfold insU
    split
    · simp
    · split
      · rename_i h
        subst h
        simp
      · rw [List.mem_cons, mem_insU, List.mem_cons]
        constructor
        · rintro (h | h | h)
          · exact .inr (.inl h)
          · exact .inl h
          · exact .inr (.inr h)
        · rintro (h | h | h)
          · exact .inr (.inl h)
          · exact .inl h
          · exact .inr (.inr h)
omit [Tb] in
theorem pw_insU {i : Int} : ∀ {l : List Int}, l.Pairwise (· < ·) → (insU i l).Pairwise (· < ·)
  | [], _ => by simp [insU]
  | j :: js, h => by
    unfold insU
    split
    · rename_i hij
      refine List.Pairwise.cons (fun k hk => ?_) h
      rcases List.mem_cons.mp hk with e | e
      · rw [e]; exact hij
      · have := (List.pairwise_cons.mp h).1 k e
        omega
    · split
      · exact h
      · rename_i h1 h2
        rw [List.pairwise_cons] at h
        refine List.Pairwise.cons (fun k hk => ?_) (pw_insU h.2)
        rcases mem_insU.mp hk with e | e
        · omega
        · exact h.1 k e
omit [Tb] in
theorem mem_sset {k : Int} : ∀ {l : List Int}, k ∈ sset l ↔ k ∈ l
  | [] => by simp [sset]
  | i :: is => by rw [sset, mem_insU, mem_sset, List.mem_cons]
omit [Tb] in
theorem pw_sset : ∀ {l : List Int}, (sset l).Pairwise (· < ·)
  | [] => .nil
  | _ :: _ => pw_insU pw_sset
omit [Tb] in
theorem pw_unique : ∀ {l m : List Int}, l.Pairwise (· < ·) → m.Pairwise (· < ·) → (∀ k, k ∈ l ↔ k ∈ m) → l = m
  | [], [], _, _, _ => rfl
  | [], j :: m, _, _, h => by have := (h j).mpr List.mem_cons_self; cases this
  | i :: l, [], _, _, h => by have := (h i).mp List.mem_cons_self; cases this
  | i :: l, j :: m, h1, h2, h => by
    rw [List.pairwise_cons] at h1 h2
    have e : i = j := by
      have a := (h i).mp List.mem_cons_self
      have b := (h j).mpr List.mem_cons_self
      rcases List.mem_cons.mp a with a | a
      · exact a
      · rcases List.mem_cons.mp b with b | b
        · exact b.symm
        · have := h1.1 j b
          have := h2.1 i a
          omega
    subst e
    congr 1
    refine pw_unique h1.2 h2.2 fun k => ?_
    constructor
    · intro hk
      rcases List.mem_cons.mp ((h k).mp (List.mem_cons_of_mem _ hk)) with e | e
      · have := h1.1 k hk
        omega
      · exact e
    · intro hk
      rcases List.mem_cons.mp ((h k).mpr (List.mem_cons_of_mem _ hk)) with e | e
      · have := h2.1 k hk
        omega
      · exact e
omit [Tb] in
theorem sset_eq {l m : List Int} (h : m.Pairwise (· < ·)) (e : ∀ k, k ∈ m ↔ k ∈ l) : m = sset l := pw_unique h pw_sset fun k => (e k).trans mem_sset.symm

def rSetI (K : PySem.W.Frag) (w : World) : List V → Hp → VK → Prop := fun vs H Q => ∃ (a : Addr) (ns : List Int), vs = [.ref a] ∧ (SqL K H a (ns.map V.int) ∨ SqT K H a (ns.map V.int)) ∧ ns.length < 64 ∧
  ∀ p, H p = none → Q (.ref p) (upd H p (SetO w p (fun k => decide (k ∈ ns)) (firstMet (fun i => ns.getD i 0) ns.length).length))
omit [Tb] in
theorem met_any {ns : List Int} (k : Int) : (firstMet (fun i => ns.getD i 0) ns.length).any (· == k) = decide (k ∈ ns) := by
  rw [firstMet_any]
  have : (List.range ns.length).map (fun i => ns.getD i 0) = ns := by
    refine List.ext_getElem (by simp) fun i h1 h2 => ?_
    simp [List.getD_eq_getElem?_getD, List.getElem?_eq_getElem h2]
  rw [this]
  rw [Bool.eq_iff_iff]
  simp
theorem cr_setI {X : Cx} (hc : X.calm = true) : CallR X (.type "set") (rSetI X.K X.w) := by
  intro pins s σ H xs us Q I rv h
  obtain ⟨a, ns, rfl, hs, hn, q⟩ := h
  rw [Vals.ref1 rv]
  have nF : H s.heap.objs.size = none := I.hok.fresh (Nat.le_refl _)
  rcases hs with hs | hs
  · obtain ⟨its, rvi, hli, hz⟩ := I.list hs
    have hi := Vals.ints rvi
    have hl : its.length = ns.length := by rw [← rvi.length]; simp
    refine HK.call_set_listR (I.ok.hd hc) hli.isList (by simpa using hi) (by simp [hl]; unfold scanBound; omega) fun h' tk R k => ?_
    simp only [List.size_toArray, hl] at R
    exact ⟨.ref _, _, I.laid (t' := tk) (fun b u e => k b u (Heap.lt_size e) e) (Nat.le_refl _) (setO_new (R.congr fun k => (met_any k).symm)), rfl, q _ nF⟩
  · obtain ⟨its, rvi, hli, hz⟩ := I.tuple hs
    have hi := Vals.ints rvi
    have hl : its.length = ns.length := by rw [← rvi.length]; simp
    have ht : s.heap.IsTuple a its.toArray := by
      obtain ⟨o, h1, h2, n, h3⟩ := hli
      exact ⟨o, h1, h2, n, h3⟩
    refine HK.call_set_tupleR (I.ok.hd hc) ht (by simpa using hi) (by simp [hl]; unfold scanBound; omega) fun h' tk R k => ?_
    simp only [List.size_toArray, hl] at R
    exact ⟨.ref _, _, I.laid (t' := tk) (fun b u e => k b u (Heap.lt_size e) e) (Nat.le_refl _) (setO_new (R.congr fun k => (met_any k).symm)), rfl, q _ nF⟩
theorem new_any {K : PySem.W.Frag} {σ : L2.St} {H G H1 G1 : Hp} {env env1 : Env} {F F1 : Nat → List Addr} {m : List Nat} {p : Addr} {o : HO} (s1 : S K σ H1 G1 env1 F1) (ev1 : Evo m env H G F env1 H1 G1 F1) (hp : H1 p = none) :
    S K σ (upd H1 p o) G1 env1 F1 ∧ Evo m env H G F env1 (upd H1 p o) G1 F1 := by
  have hG : G1 p = none := s1.same.free hp
  have hF : ∀ j, p ∉ F1 j := fun j hj => by
    obtain ⟨u, hu, _⟩ := s1.mut hj
    rw [hp] at hu
    cases hu
  refine ⟨s1.updOut hG hF (mutN hp), ⟨ev1.g, fun a u e1 e2 => ?_, ev1.f, ev1.n, fun i hi => ?_, ev1.l⟩⟩
  · exact (ev1.k a u e1 e2).upd hp
  · obtain ⟨a1, a2, a3⟩ := ev1.u i hi
    exact ⟨a1, a2, fun a ha => by rw [upd_ne fun z => hF i (by rw [← z, a2]; exact ha)]; exact a3 a ha⟩
def ssetF (fs : M D) : M (D × Nat) := fun env => (fs env).bind fun p => (seqOf p.1).bind fun xs => (asIs xs).bind fun is => if is.length < 64 then some ((.lst ((sset is).map .int), 1), p.2) else none
section
variable {X : Cx} {m r : List Nat} {pos pos2 p p2 : Pos} {a : Expr}
theorem df_sortedSet {fs : M D} (hc : X.calm = true) (hg : Gl X "sorted") (hm : X.mg "sorted" = none) (hg2 : Gl X "set") (hm2 : X.mg "set" = none) (ha : DE X m r fs a)
    (he : starEach [a] X.env = (false, eval a X.env) :: starEach [] X.env := by rfl) (hpl : (backTo pos2 (starEach ([] : List Expr) X.env)).any (·.1) = false := by rfl)
    (he2 : starEach [.Call (.Name "set" p2) [a] [] pos2] X.env = (false, eval (.Call (.Name "set" p2) [a] [] pos2) X.env) :: starEach [] X.env := by rfl) (hpl2 : (backTo pos (starEach ([] : List Expr) X.env)).any (·.1) = false := by rfl) :
    DF X m (ssetF fs) (.Call (.Name "sorted" p) [.Call (.Name "set" p2) [a] [] pos2] [] pos) := by
  have hA : DA X (m ++ []) (r ++ []) (argsC (dj r []) fs args0) [a] := da_cons ha da_nil he
  refine pe_weak (pe_callB (cr_sortedSet hc) hg hm (by decide +kernel) (pa_cons (pe_callTy (cr_setI hc) hg2 hm2 (by decide +kernel) hA (by decide) (by decide) he hpl) pa_nil he2) (by decide) (by decide) he2 hpl2) fun σ H Q h => ?_
  obtain ⟨G, env, F, ⟨d, n⟩, env', st, hf, q⟩ := h
  obtain ⟨⟨d0, e1⟩, h1, h2⟩ := bind_some' hf
  obtain ⟨xs, h3, h4⟩ := bind_some' h2
  obtain ⟨is, h5, h6⟩ := bind_some' h4
  simp only [] at h3 h6
  split at h6
  · rename_i hlen
    simp only [Option.some.injEq, Prod.mk.injEq] at h6
    obtain ⟨⟨rfl, rfl⟩, rfl⟩ := h6
    have hA' : argsC (dj r []) fs args0 env = some ([d0], e1) := by
      have : dj r [] = true := by simp [dj]
      simp [argsC, h1, args0, this]
    refine ⟨G, env, F, [d0], e1, st, hA', fun vs H1 G1 F1 s1 ev1 rp1 => ?_⟩
    obtain ⟨v, rfl, rpv⟩ := reps1 rp1
    obtain ⟨l, ws, rfl, hrw, hs⟩ := rep_seq (s1.vwH _) rpv h3
    rw [asIs_some h5] at hrw
    have hws := reps_ints hrw
    subst hws
    have ml : (firstMet (fun i => is.getD i 0) is.length).length < 64 := Nat.lt_of_le_of_lt (firstMet_length_le _ _) hlen
    refine ⟨l, is, rfl, hs, hlen, fun p1 hp1 => ?_⟩
    refine ⟨p1, _, _, rfl, upd_same, ml, fun ns p2 pw mem hnl hp2 => ?_⟩
    have ens : ns = sset is := sset_eq pw fun k => by rw [mem k]; simp
    subst ens
    obtain ⟨s2, ev2⟩ := new_any (o := SetO X.w p1 (fun k => decide (k ∈ is)) (firstMet (fun i => is.getD i 0) is.length).length) s1 ev1 hp1
    obtain ⟨s3, ev3, h7⟩ := new_obj s2 ev2 hp2 (own_lst (p := p2) (ints_reps (K := X.K) (sset is)))
    exact q _ _ G1 F1 [p2] s3 (ev3.mono fun i hi => by simpa using hi) (own_lst (ints_reps _)) h7
  · cases h6
end
end HD
set_option Elab.async false
set_option linter.all false
set_option autoImplicit false
set_option maxRecDepth 100000
set_option maxHeartbeats 2000000
/-! HF10: a if t else b as a test. -/
namespace HD
open PySem PySem.Spec PyProof.Rows L2
variable [Tb]
/-- a slot that holds something frozen -/
def nmS (i : Nat) : M D := fun env => match env[i]? with
  | some (.shr d) => some (d, env)
  | _ => none
section
variable {X : Cx} {a b c : Expr} {pos : Pos} {m m1 m2 : List Nat}
theorem de_nmS (i : Nat) {x : Str} (hN : X.N[i]? = some x := by rfl) (hv : Vis X.env.scope x := by first | exact Or.inl rfl | exact Or.inr (Or.inl rfl) | exact Or.inr (Or.inr rfl)) (hd : (x == ("__debug__" : Str)) = false := by decide)
    (hcd : (x == ("__classdict__" : Str)) = false := by decide) : DE X [] [] (nmS i) (.Name x pos) := pe_weak (pe_var hN hv hd hcd) fun σ H Q ⟨G, env, F, d, env', s, hf, q⟩ => by
  unfold nmS at hf
  split at hf
  · rename_i d' e1
    simp only [Option.some.injEq, Prod.mk.injEq] at hf
    obtain ⟨rfl, rfl⟩ := hf
    obtain ⟨v, h1, h2⟩ := s.shr i _ e1
    exact ⟨v, h1, q v H G F s Evo.refl (h2.mono (s.vwG _))⟩
  · cases hf
theorem pt_ifE {tA tB tC : TT} (hc : PT X c tC) (ha : PT X a tA) (hb : PT X b tB) : PT X (.IfExp c a b pos) (fun σ H Q => tC σ H fun k H1 => if k = true then tA σ H1 Q else tB σ H1 Q) := by
  refine ⟨fun pins s σ H Q I h => ?_⟩
  unfold PySem.isTrue
  refine wpAny_bind (thn (hc.run pins s σ H _ I h) fun d s1 ⟨H1, I1, q1⟩ => ?_)
  cases d with
  | true => exact ha.run pins s1 σ H1 Q I1 q1
  | false => exact hb.run pins s1 σ H1 Q I1 q1
theorem dt_ifE {fc f1 f2 : M Bool} (hc : DT X m fc c) (ha : DT X m1 f1 a) (hb : DT X m2 f2 b) : DT X (m ++ (m1 ++ m2)) (iteM fc f1 f2) (.IfExp c a b pos) := pt_weak (pt_ifE hc ha hb) fun σ H Q ⟨G, env, F, d, env', s, hf, q⟩ => by
  obtain ⟨⟨k, e1⟩, h1, h2⟩ := bind_some' hf
  refine ⟨G, env, F, k, e1, s, h1, fun H1 G1 F1 s1 ev1 => ?_⟩
  cases k with
  | true =>
    rw [if_pos rfl] at h2 ⊢
    exact ⟨G1, e1, F1, d, env', s1, h2, fun H2 G2 F2 s2 ev2 => q H2 G2 F2 s2 (ev1.trans (ev2.mono fun i hi => List.mem_append_left _ hi))⟩
  | false =>
    rw [if_neg Bool.false_ne_true] at h2 ⊢
    exact ⟨G1, e1, F1, d, env', s1, h2, fun H2 G2 F2 s2 ev2 => q H2 G2 F2 s2 (ev1.trans (ev2.mono fun i hi => List.mem_append_right _ hi))⟩
end
end HD
set_option Elab.async false
set_option linter.all false
set_option autoImplicit false
set_option maxRecDepth 100000
set_option maxHeartbeats 2000000
/-! HF11: min(x, key=f) with an invariant that tells the best so far. -/
namespace HK
open PySem PySem.W PySem.Calls PyProof.Rows
section
variable {prog : Program} {w : World} {A : Around} {E : Value → Shared → Prop} {R : Result → Shared → Prop} {I S q : Addr} {fp wr : List Addr} {G : Array GenState → Array GenState → Prop} {n : Nat} {P : Nat → Value → Prop} {St : Nat → Shared → Prop}
/-- one turn's call: the key compares with the best so far -/
def MinTurn (prog : Program) (w : World) (A : Around) (q S : Addr) (n : Nat) (P : Nat → Value → Prop) (St : Nat → Shared → Prop) (J : Shared → Nat → Nat → Value → Prop) : Prop :=
  ∀ (j b : Nat) (kb v : Value) (s : Shared) (o : Obj), j + 1 < n → P (j + 1) v → J s j b kb → St (j + 1 + 1) s → s.heap.get? S = some o →
    wpAny (model prog w) A (call (.ref q) [v]) (fun kx s' => St (j + 1 + 1) s' ∧ s'.heap.get? S = some o ∧ ∃ r, SeqAt.RcLt A s' kx kb r ∧ (if r = true then J s' (j + 1) (j + 1) kx else J s' (j + 1) b kb)) (fun _ _ => False) s
def bestObj (vb kb : Value) (c : Nat) : Obj := { cls := .type "list", dict := none, data := .seq #[vb, kb] c, slots := #[] }
theorem minJ_loop {J : Shared → Nat → Nat → Value → Prop} (W : WalksS prog w A.in1 I fp wr G n P St) (hSf : S ∉ fp) (keep : ∀ s s' j b k, J s j b k → Moved (S :: wr) G s s' → J s' j b k) (turn : MinTurn prog w A.in1 q S n P St J) (kw : List (Str × Value))
    (hR : ∀ b kb v s', P b v → J s' (n - 1) b kb → R (.ok (.ret v)) s') :
    ∀ (k j b : Nat) (s : Shared) (vb kb : Value) (c : Nat), n = j + 1 + k → J s j b kb → St (j + 1) s → P b vb → s.heap.get? S = some (bestObj vb kb c) →
      codeAny (model prog w) A (.builtin "min.loop" ⟨[.ref I, .ref q, .ref S], kw⟩) R s := by
  have nSw : S ∉ wr := fun h => hSf (W.sub _ h)
  have up : ∀ x ∈ wr, x ∈ S :: wr := fun x hx => List.mem_cons_of_mem _ hx
  have enm : (toString "min" ++ toString ".loop" : String) = "min.loop" := by decide
  have oth : ∀ {x : Addr}, x ∉ S :: wr → S ≠ x := fun hx h => hx (h ▸ List.mem_cons_self)
  intro k
  induction k with
  | zero =>
    intro j b s vb kb c en hJ hst hP hS
    refine codeAny_builtin F.entry_min_loop ?_
    rw [Around.under_plainId F.plain_min_loop _]
    refine wpAny_bind (wpAny_seqItems hS rfl ?_)
    refine wpAny_bind (wpAny_tryCatch (W.done s _ _ (by rw [en]; exact hst) fun s1 mv => ?_))
    refine wpAny_bind ?_
    refine wpAny_updateSeq (mv.heap S _ nSw hS) rfl (wpAny_bind (wpAny_letGo (wpAny_pure ?_)))
    have ej : n - 1 = j := by omega
    refine hR b kb vb _ hP ?_
    rw [ej]
    exact keep _ _ _ _ _ hJ ((mv.mono up).then_heap (tk := s1.toks) (Nat.le_refl _) fun x o hx e => (Heap.get?_update_other _ _ (oth hx)).trans e)
  | succ k ih =>
    intro j b s vb kb c en hJ hst hP hS
    refine codeAny_builtin F.entry_min_loop ?_
    rw [Around.under_plainId F.plain_min_loop _]
    refine wpAny_bind (wpAny_seqItems hS rfl ?_)
    refine wpAny_bind (wpAny_tryCatch (W.item (j + 1) s _ _ (by omega) hst fun v s1 hv st1 mv => ?_))
    refine wpAny_bind (wpAny_tryCatch (wpAny_holding (wpAny_mono (turn j b kb v s1 _ (by omega) hv (keep _ _ _ _ _ hJ (mv.mono up)) st1 (mv.heap S _ nSw hS)) (fun kx s2 h2 => ?_) fun _ _ z => z.elim)))
    obtain ⟨st2, hS2, r, rc, hJ2⟩ := h2
    refine wpAny_bind (wpAny_tryCatch (wpAny_holding (wpAny_bind (rc _ _ _ _ ?_))))
    refine wpAny_bind (wpAny_holding (wpAny_truthy_bool ?_))
    refine wpAny_bind (wpAny_letGo (wpAny_pure ?_))
    cases r with
    | true =>
      rw [if_pos rfl] at hJ2
      simp only [if_true]
      refine wpAny_bind ?_
      refine wpAny_updateSeq hS2 rfl (wpAny_bind (wpAny_letGo ?_))
      rw [enm]
      have mv2 : Moved (S :: wr) G s2 { s2 with heap := s2.heap.update S (Obj.mapSeq fun _ => #[v, kx]), toks := s2.toks } := (Moved.refl W.grefl).then_heap (tk := s2.toks) (Nat.le_refl _) fun x o hx e => (Heap.get?_update_other _ _ (oth hx)).trans e
      exact wpAny_pure ⟨plainId_quiet F.plain_min_loop _, ih (j + 1) (j + 1) _ v kx _ (by omega) (keep _ _ _ _ _ hJ2 mv2) (W.frame _ s2 _ s2.toks st2 (Nat.le_refl _) fun x hx o e => (Heap.get?_update_other _ _ (fun z : S = x => hSf (z ▸ hx))).trans e) hv (Heap.get?_update_self _ hS2 rfl)⟩
    | false =>
      rw [if_neg (by simp)] at hJ2
      simp only [Bool.false_eq_true, if_false]
      refine wpAny_bind (wpAny_letGo ?_)
      rw [enm]
      exact wpAny_pure ⟨plainId_quiet F.plain_min_loop _, ih (j + 1) b _ vb kb c (by omega) hJ2 st2 hP hS2⟩
/-- min(x, key=f) -/
theorem minJ_call {x : Value} {s : Shared} {Q : Value → Shared → Prop}
    (h : wpAny (model prog w) A.in1 (pyIter x) (fun it s2 => ∃ (I : Addr) (fp wr : List Addr) (G : Array GenState → Array GenState → Prop) (n : Nat) (P : Nat → Value → Prop) (St : Nat → Shared → Prop) (J0 : Shared → Prop) (J : Shared → Nat → Nat → Value → Prop), it = .ref I ∧ WalksS prog w A.in1 I fp wr G n P St ∧ St 0 s2 ∧ (∀ b ∈ fp, b < s2.heap.objs.size) ∧ 0 < n ∧
      J0 s2 ∧ (∀ s s', J0 s → Moved (s2.heap.objs.size :: wr) G s s' → J0 s') ∧ (∀ s s' j b k, J s j b k → Moved (s2.heap.objs.size :: wr) G s s' → J s' j b k) ∧
      (∀ (v : Value) (s : Shared) (o : Obj), P 0 v → J0 s → St 1 s → s.heap.get? s2.heap.objs.size = some o → wpAny (model prog w) A.in1 (call (.ref q) [v]) (fun kx s' => St 1 s' ∧ s'.heap.get? s2.heap.objs.size = some o ∧ J s' 0 0 kx) (fun _ _ => False) s) ∧
      MinTurn prog w A.in1 q s2.heap.objs.size n P St J ∧ ∀ b kb v s', P b v → J s' (n - 1) b kb → Q v s') E s) :
    wpAny (model prog w) A (call (.builtin "min") [x] [(Str.ofString "key", .ref q)]) Q E s := by
  have enm : (toString "min" ++ toString ".loop" : String) = "min.loop" := by decide
  refine PyProof.Rows.kmk_tree F.kind_min F.plain_min F.entry_min (PyProof.Rows.kmk_min_key _ _) ?_
  refine wpAny_bind (wpAny_of_eq (show Builtin.Builtins.bindParams "min" ["key", "default"] 0 ⟨[], [(Str.ofString "key", .ref q)]⟩ = pure [some (.ref q), none] from rfl) ?_)
  refine wpAny_bind (wpAny_pure ?_)
  refine wpAny_bind (wpAny_mono h (fun it s2 h2 => ?_) fun _ _ e => e)
  obtain ⟨I, fp, wr, G, n, P, St, J0, J, rfl, W, hst, hfp, hn, hJ, keep0, keep, first, turn, hQ⟩ := h2
  refine wpAny_bind (wpAny_newObj_type ?_)
  have hSf : s2.heap.objs.size ∉ fp := fun hm => Nat.lt_irrefl _ (hfp _ hm)
  have nSw : s2.heap.objs.size ∉ wr := fun h => hSf (W.sub _ h)
  have oth : ∀ {x : Addr}, x ∉ s2.heap.objs.size :: wr → s2.heap.objs.size ≠ x := fun hx h => hx (h ▸ List.mem_cons_self)
  rw [enm]
  have m0 : Moved (s2.heap.objs.size :: wr) G s2 { s2 with heap := s2.heap.push { cls := .type "list", data := .seq #[] 0 }, toks := s2.toks } := (Moved.refl W.grefl).then_heap (tk := s2.toks) (Nat.le_refl _) fun b o _ e => Heap.get?_push_of_some _ e
  have st0 := W.frame 0 s2 (s2.heap.push { cls := .type "list", data := .seq #[] 0 }) s2.toks hst (Nat.le_refl _) fun b _ o e => Heap.get?_push_of_some _ e
  have hS0 : (s2.heap.push { cls := .type "list", data := .seq #[] 0 }).get? s2.heap.objs.size = some { cls := .type "list", data := .seq #[] 0 } := Heap.get?_push_size _ rfl
  refine wpAny_pure ⟨plainId_quiet F.plain_min_loop _, ?_⟩
  refine codeAny_builtin F.entry_min_loop ?_
  rw [Around.under_plainId F.plain_min_loop _]
  refine wpAny_bind (wpAny_seqItems hS0 rfl ?_)
  refine wpAny_bind (wpAny_tryCatch (W.item 0 _ _ _ hn st0 fun v s3 hv st3 mv => ?_))
  refine wpAny_bind (wpAny_tryCatch (wpAny_holding (wpAny_mono (first v s3 _ hv (keep0 _ _ (keep0 _ _ hJ m0) (mv.mono fun x hx => List.mem_cons_of_mem _ hx)) st3 (mv.heap _ _ nSw hS0)) (fun kx s4 h4 => ?_) fun _ _ z => z.elim)))
  obtain ⟨st4, hS4, hJ4⟩ := h4
  refine wpAny_bind ?_
  refine wpAny_updateSeq hS4 rfl ?_
  rw [enm]
  have mv2 : Moved (s2.heap.objs.size :: wr) G s4 { s4 with heap := s4.heap.update s2.heap.objs.size (Obj.mapSeq fun _ => #[v, kx]), toks := s4.toks } := (Moved.refl W.grefl).then_heap (tk := s4.toks) (Nat.le_refl _) fun x o hx e => (Heap.get?_update_other _ _ (oth hx)).trans e
  exact wpAny_pure ⟨plainId_quiet F.plain_min_loop _, minJ_loop W hSf keep turn _ hQ (n - 1) 0 0 _ v kx _ (by omega) (keep _ _ _ _ _ hJ4 mv2) (W.frame _ s4 _ s4.toks st4 (Nat.le_refl _) fun x hx o e => (Heap.get?_update_other _ _ (fun z : s2.heap.objs.size = x => hSf (z ▸ hx))).trans e) hv (Heap.get?_update_self _ hS4 rfl)⟩
end
end HK
set_option Elab.async false
set_option linter.all false
set_option autoImplicit false
set_option maxRecDepth 100000
set_option maxHeartbeats 2000000
/-! HF12: min(x, key=lambda p: ..) by data, x a frozen tuple. -/
namespace HD
open PySem PySem.Spec PyProof.Rows L2 LamX
variable [Tb]
variable {X : Cx}
/-- where the least key stands first, among the first j + 1 -/
def bestI (ks : List D) : Nat → Nat
  | 0 => 0
  | j + 1 => if PySem.W.dataLt (ks.getD (j + 1) .non).py (ks.getD (bestI ks j) .non).py = true then j + 1 else bestI ks j
omit [Tb] in
theorem bestI_le (ks : List D) : ∀ j, bestI ks j ≤ j
  | 0 => Nat.le_refl _
  | j + 1 => by
    have := bestI_le ks j
    unfold bestI
    split <;> omega
def minLamF (caps : List Nat) (nl : Nat) (fs fb : M D) : M (D × Nat) := fun env => (fs env).bind fun p => match p.1 with
  | .tup xs => (keysD caps nl fb p.2 xs).bind fun ks => if (keysOk ks && (ks.all D.isTup1 && !xs.isEmpty)) = true then (xs[bestI ks (xs.length - 1)]?).map fun d => ((d, 0), p.2) else none
  | _ => none

/-! ### a walk of a tuple whose items are known as data -/
theorem walkT {prog : Program} {w : World} {A : Around} (hh : A.handled = none) (I ax : Addr) (hne : ax ≠ I) (us : List V) :
    WalksS prog w A I [I, ax] [I] (fun a b => b = a) us.length (fun i v => ∃ u, us[i]? = some u ∧ RelV u v) (fun i s => s.heap.IsTupleIter I ax i ∧ ∃ its : List Value, s.heap.IsTuple ax its.toArray ∧ Vals us its) where
  sub := fun b hb => by simp at hb; simp [hb]
  grefl := fun _ => rfl
  gtrans := fun _ _ _ h1 h2 => h2.trans h1
  frame := fun i s h' tk st _ hk => ⟨st.1.at fun o e => hk I (by simp) o e, let ⟨its, h1, h2⟩ := st.2; ⟨its, h1.at fun o e => hk ax (by simp) o e, h2⟩⟩
  item := fun i s Q E hi st hQ => by
    obtain ⟨h1, its, h2, h3⟩ := st
    have hl := h3.length
    have hi' : i < its.length := by omega
    refine wpAny_with_toks (Nat.le_refl s.toks) (wpAny_pyNext_tuple_item h1 h2 (x := its[i]) (by simp [hi']) fun h' hit' hs' => ?_)
    have hu : us[i]? = some us[i] := List.getElem?_eq_getElem hi
    obtain ⟨u', e1, e2⟩ := h3.get hu
    rw [List.getElem?_eq_getElem hi'] at e1
    cases e1
    intro htk
    exact hQ _ _ ⟨_, hu, e2⟩ ⟨hit', its, h2.extBut hs'.extBut hne, h3⟩ ⟨fun b o hb e => hs'.extBut b o (fun h => hb (by simp [h])) e, rfl, rfl, rfl, htk⟩
  done := fun s Q E st hQ => by
    obtain ⟨h1, its, h2, h3⟩ := st
    have hl := h3.length
    refine wpAny_with_toks (Nat.le_refl s.toks) (wpAny_pyNext_tuple_end hh h1 h2 (by simp; omega) fun h' he' => ?_)
    intro htk
    exact hQ _ ⟨fun b o hb e => he' b o (fun h => hb (by simp [h])) e, rfl, rfl, rfl, htk⟩
  self := fun _ _ _ _ st hQ => wpAny_pyIter_tupleiter st.1 hQ
/-! ### the state while the least is sought -/
/-- the state, and a value known as data -/
def MinS (X : Cx) (σ : L2.St) (H G : Hp) (s : Shared) (env : Env) (F : Nat → List Addr) (S I : Addr) (s' : Shared) (rest : Hp → Prop) : Prop :=
  ∃ H1 G1, s'.os = s.os ∧ AllBare s'.gens ∧ Un (frs X.stack) [] H H1 s.heap s'.heap ∧ HOk X.prog X.w H1 s'.heap ∧ HD.S X.K σ H1 G1 env F ∧ Evo [] env H G F env H1 G1 F ∧ H1 S = none ∧ H1 I = none ∧ rest G1
section
variable {pins : List (Addr × Obj)} {σ : L2.St} {H G : Hp} {s : Shared} {env : Env} {F : Nat → List Addr} {kds : List D} {S I0 : Addr} {rest : Hp → Prop}
theorem MinS.inv {s1 : Shared} (I : Inv X pins σ H s) (h : MinS X σ H G s env F S I0 s1 rest) : ∃ H1 G1, Inv X pins σ H1 s1 ∧ HD.S X.K σ H1 G1 env F ∧ Evo [] env H G F env H1 G1 F ∧ H1 S = none ∧ H1 I0 = none ∧ rest G1 ∧ Un (frs X.stack) [] H H1 s.heap s1.heap := by
  obtain ⟨H1, G1, os, bare, un, hok, st, ev, nS, nI, r⟩ := h
  exact ⟨H1, G1, I.call' (ch := []) os un hok bare (fun b z => absurd z (by simp)), st, ev, nS, nI, r, un⟩
theorem MinS.moved {s1 s2 : Shared} (I : Inv X pins σ H s) (hS : s.heap.objs.size ≤ S) (hI : s.heap.objs.size ≤ I0) (h : MinS X σ H G s env F S I0 s1 rest) (m : Moved [S, I0] (fun a b => b = a) s1 s2) : MinS X σ H G s env F S I0 s2 rest := by
  obtain ⟨H1, G1, os, bare, un, hok, st, ev, nS, nI, r⟩ := h
  have nA : ∀ {b : Addr} {o : Obj}, s.heap.get? b = some o → b ∉ ([S, I0] : List Addr) := fun e z => by
    have hlt := Heap.lt_size e
    simp at z
    rcases z with z | z <;> subst z <;> exact Nat.lt_irrefl _ (Nat.lt_of_lt_of_le hlt (by assumption))
  have nH : ∀ {b : Addr} {o : HO}, H1 b = some o → b ∉ ([S, I0] : List Addr) := fun e z => by
    simp at z
    rcases z with z | z
    · rw [z, nS] at e; cases e
    · rw [z, nI] at e; cases e
  have kp : ∀ b o, b ∉ ([S, I0] : List Addr) → s1.heap.get? b = some o → s2.heap.get? b = some o := m.heap
  refine ⟨H1, G1, m.os.trans os, by rw [m.gens]; exact bare, ⟨fun b o e n nf nx => kp b o (nA e) (un.keep b o e n nf nx), fun b o e n nf nx => ?_, un.free, fun b o e nx => ?_, un.tups, un.frzs, un.tbls⟩, ?_, st, ev, nS, nI, r⟩
  · obtain ⟨sl, z⟩ := un.slot b o e n nf nx
    exact ⟨sl, kp b _ (nA e) z⟩
  · obtain ⟨o', z⟩ := un.there b o e nx
    exact ⟨o', kp b _ (nA e) z⟩
  · exact fun b u e => (hok b u e).stay (fun d o q z => kp d o (q.elim (fun w => by rw [w]; exact nH e) nH) z) (fun _ q => q) fun _ _ q => q
omit [Tb] in
theorem sqt_same {K : PySem.W.Frag} {G H : Hp} {a : Addr} {xs : List V} (sm : Same G H) (h : SqT K G a xs) : SqT K H a xs := by
  rcases h with (h | ⟨o, h⟩) | h
  · exact .inl (.inl (sm _ _ h))
  · exact .inl (.inr ⟨o, sm _ _ h⟩)
  · exact .inr h
/-- the least, the lambda's object made -/
theorem min_lam {k : Nat} {f c' l : Addr} {qual : Str} {params : Arguments} {body : Expr} {scope : Scope} {cl : List (Str × Addr)} {pm ctv : Value} {N fr : List Str} {x : Str} {caps r : List Nat} {fb : M D}
    {us : List V} {xs : List D} {d : D} {Q : VK} (I : Inv X pins σ H s) (st : HD.S X.K σ H G env F) (Sc : NdefX.NScope N [x] fr scope) (hbind : ∀ u, bindArgs (PySem.W.kla_fn "<lambda>" qual params body scope cl pm (.ref c') ctv) ⟨[u], []⟩ = pure [(x, u)])
    (of : s.heap.get? f = some (PySem.W.kla_obj "<lambda>" qual params body scope cl pm c' ctv)) (nf : H f = none) (fr' : f ∉ frs X.stack) (hc : H c' = some (CodeO c' qual)) (hr : Room (k + 3) X.A) (cp : NdefX.Caps X cl fr caps)
    (hb : LamB X k N (HK.lamF qual params scope cl c') r fb body) (hk : keysD caps N.length fb env xs = some kds) (ok : keysOk kds = true) (ok2 : kds.all D.isTup1 = true) (hne : xs ≠ []) (hl : SqT X.K G l us) (rp : Reps X.K G us xs) (hd : xs[bestI kds (xs.length - 1)]? = some d)
    (q : ∀ v H1 G1, HD.S X.K σ H1 G1 env F → Evo [] env H G F env H1 G1 F → Rep X.K G1 v d → Q v H1) :
    wpAny (model X.prog X.w) X.A (call (.builtin "min") [.ref l] [(Str.ofString "key", .ref f)]) (EP X pins σ Q) X.xe s := by
  unfold keysOk at ok
  rw [Bool.and_eq_true, Bool.and_eq_true, Bool.and_eq_true, decide_eq_true_eq] at ok
  obtain ⟨⟨⟨c1, c2⟩, _⟩, c4⟩ := ok
  have klen := keysD_len hk
  have ulen := rp.length
  have hpos : 0 < us.length := by rw [ulen]; exact List.length_pos_iff.mpr hne
  obtain ⟨its, rvi, hli, hz⟩ := I.tuple (sqt_same st.same hl)
  refine HK.minJ_call (wpAny_pyIter_tuple hli ?_)
  have hlt : l < s.heap.objs.size := hli.lt
  have eA : X.A.in1.handled = none := hr.in1.hd
  have nS : H (s.heap.objs.size + 1) = none := I.hok.fresh (Nat.le_succ _)
  have nI : H s.heap.objs.size = none := I.hok.fresh (Nat.le_refl _)
  have big : ∀ {b : Addr}, s.heap.objs.size ≤ b → b ∉ frs X.stack := fun {b} hb z => by
    rcases List.mem_cons.mp (I.stkSub _ z) with e | e
    · have h1 := I.lt
      rw [← e] at h1
      exact Nat.lt_irrefl _ (Nat.lt_of_lt_of_le h1 hb)
    · exact I.nofs hb e
  have kall : ∀ i, i < xs.length → ∃ kd, kds[i]? = some kd := fun i hi => ⟨_, List.getElem?_eq_getElem (by omega)⟩
  -- one call of the lambda
  have one : ∀ (i : Nat) (v : Value) (s1 : Shared) (o : Obj) (rest : Hp → Prop), i < us.length → (∃ u, us[i]? = some u ∧ RelV u v) → MinS X σ H G s env F (s.heap.objs.size + 1) s.heap.objs.size s1 rest → (∀ G1 G2, Same G1 G2 → rest G1 → rest G2) →
      (s1.heap.IsTupleIter s.heap.objs.size l (i + 1) ∧ ∃ its : List Value, s1.heap.IsTuple l its.toArray ∧ Vals us its) → s1.heap.get? (s.heap.objs.size + 1) = some o →
      wpAny (model X.prog X.w) X.A.in1 (call (.ref f) [v]) (fun kx s' => (s'.heap.IsTupleIter s.heap.objs.size l (i + 1) ∧ ∃ its : List Value, s'.heap.IsTuple l its.toArray ∧ Vals us its) ∧ s'.heap.get? (s.heap.objs.size + 1) = some o ∧ 
        ∃ pins' H1 G1, Inv X pins' σ H1 s' ∧ HD.S X.K σ H1 G1 env F ∧ rest G1 ∧ (∃ kv, RelV kv kx ∧ Rep X.K G1 kv (kds.getD i .non)) ∧ ∀ rest' : Hp → Prop, rest' G1 → MinS X σ H G s env F (s.heap.objs.size + 1) s.heap.objs.size s' rest') (fun _ _ => False) s1 := by
    intro i v s1 o rest hi hv hJ hrest hst hS
    obtain ⟨H1, G1, I1, st1, ev1, n1, n2, hr1, un1⟩ := hJ.inv I
    obtain ⟨u, hu, ru⟩ := hv
    obtain ⟨d', hd1, hd2⟩ := rp.getV hu
    obtain ⟨y, e', e5, e6⟩ := keysD_get hk hd1
    have hc1 : H1 c' = some (CodeO c' qual) := (ev1.k c' _ hc (fun i hi => by
      obtain ⟨o, ho, m⟩ := st.mut hi
      rw [hc] at ho
      cases ho
      unfold CodeO at m
      exact m)).eq fun ps z => codeO_ne ps z
    have of1 := un1.keep f _ of nf fr' (by simp)
    refine wpAny_mono (lamcall_d (vs := [u]) (ds := [d']) I1 st1 Sc (hbind _) of1 hc1 I1.env0.in1 (hr.in1.mono (by omega)) (.cons ru .nil) rfl (.cons (hd2.mono ev1.g) .nil) cp hb e5) (fun kx s2 hq => ?_) fun _ _ z => z
    obtain ⟨w, H2, G2, I2, st2, ev2, rw2, rpw, un2⟩ := hq
    have ev := (ev1.trans ev2).mono (m' := []) fun i hi => by simpa using hi
    refine ⟨⟨?_, ?_⟩, un2.keep _ _ hS n1 (big (Nat.le_succ _)) (by simp), pins, H2, G2, I2, st2, hrest _ _ ev2.g hr1, ⟨w, rw2, ?_⟩, fun rest' hr' => ⟨H2, G2, ?_, I2.bare, un1.trans un2, I2.hok, st2, ev, ?_, ?_, hr'⟩⟩
    · obtain ⟨oi, a1, a2, a3⟩ := hst.1
      exact ⟨oi, un2.keep _ _ a1 n2 (big (Nat.le_refl _)) (by simp), a2, a3⟩
    · obtain ⟨its2, b1, b2, _⟩ := I2.tuple (sqt_same st2.same (sqt_same ev.g hl))
      exact ⟨its2, b2, b1⟩
    · rw [List.getD_eq_getElem?_getD, e6]
      exact rpw
    · rw [I2.os, ← I.os]
    · exact un2.free _ _ hS n1 (by simp)
    · obtain ⟨oi, a1, a2, a3⟩ := hst.1
      exact un2.free _ _ a1 n2 (by simp)
  have eS : (s.heap.push { cls := .type "tuple_iterator", data := .fields #[.ref l, .int 0 0] }).objs.size = s.heap.objs.size + 1 := size_push' ..
  have kp : ∀ b u, s.heap.get? b = some u → (s.heap.push { cls := .type "tuple_iterator", data := .fields #[.ref l, .int 0 0] }).get? b = some u := fun b u e => Heap.get?_push_of_some _ e
  dsimp only
  rw [eS]
  refine ⟨s.heap.objs.size, [s.heap.objs.size, l], [s.heap.objs.size], fun a b => b = a, us.length, _, _,
    fun s' => MinS X σ H G s env F (s.heap.objs.size + 1) s.heap.objs.size s' fun _ => True,
    fun s' j b kb => b = bestI kds j ∧ MinS X σ H G s env F (s.heap.objs.size + 1) s.heap.objs.size s' fun G1 => ∃ kv, RelV kv kb ∧ Rep X.K G1 kv (kds.getD b .non), rfl,
    walkT (A := X.A.in1) eA s.heap.objs.size l (Nat.ne_of_lt hlt) us, ⟨⟨_, Heap.get?_push_size _ rfl, rfl, rfl⟩, its, hli.push _, rvi⟩, fun b hb => ?_, hpos,
    ⟨H, G, rfl, I.bare, Un.kept kp, I.hok.kept kp, st, Evo.refl, nS, nI, trivial⟩, fun s1 s2 h m => MinS.moved I (Nat.le_succ _) (Nat.le_refl _) h m,
    fun s1 s2 j b k h m => ⟨h.1, MinS.moved I (Nat.le_succ _) (Nat.le_refl _) h.2 m⟩, fun v s1 o hv hJ hst hS => ?_, fun j b kb v s1 o hj hv hJ hst hS => ?_, fun b kb v s1 hv hJ => ?_⟩
  · simp at hb
    rcases hb with rfl | rfl
    · exact Nat.lt_succ_self _
    · exact Nat.lt_succ_of_lt hlt
  · refine wpAny_mono (one 0 v s1 o (fun _ => True) hpos hv hJ (fun _ _ _ _ => trivial) hst hS) (fun kx s2 h2 => ?_) fun _ _ z => z
    obtain ⟨h1, h2, pins', H1, G1, _, _, _, hk1, hall⟩ := h2
    exact ⟨h1, h2, rfl, hall (fun G1 => ∃ kv, RelV kv kx ∧ Rep X.K G1 kv (kds.getD 0 .non)) hk1⟩
  · obtain ⟨rfl, hJ⟩ := hJ
    refine wpAny_mono (one (j + 1) v s1 o _ hj hv hJ (fun G1 G2 sm h => let ⟨kv, a, b⟩ := h; ⟨kv, a, b.mono sm⟩) hst hS) (fun kx s2 h2 => ?_) fun _ _ z => z
    obtain ⟨h1, h2, pins', H1, G1, I1, st1, hb1, hk1, hall⟩ := h2
    have hbl := bestI_le kds j
    have g1 : kds.getD (j + 1) .non ∈ kds := by
      rw [List.getD_eq_getElem?_getD, List.getElem?_eq_getElem (show j + 1 < kds.length by omega)]
      exact List.getElem_mem _
    have g2 : kds.getD (bestI kds j) .non ∈ kds := by
      rw [List.getD_eq_getElem?_getD, List.getElem?_eq_getElem (show bestI kds j < kds.length by omega)]
      exact List.getElem_mem _
    refine ⟨h1, h2, PySem.W.dataLt (kds.getD (j + 1) .non).py (kds.getD (bestI kds j) .non).py, ?_, ?_⟩
    · obtain ⟨kv, r1, r2⟩ := hk1
      obtain ⟨bv, r3, r4⟩ := hb1
      obtain ⟨as, ra⟩ := Dp.reads I1 _ _ _ (Dp.monoW st1.same (r2.dp (okEs_mem c1 _ g1))) r1
      obtain ⟨bs, rb⟩ := Dp.reads I1 _ _ _ (Dp.monoW st1.same (r4.dp (okEs_mem c1 _ g2))) r3
      refine PySem.W.rcLt_alike _ _ _ _ _ _ _ _ ra rb (List.all_eq_true.mp (List.all_eq_true.mp c2 _ g1) _ g2) ?_ ?_
      · have a1 := List.all_eq_true.mp ok2 _ g1
        revert a1
        cases kds.getD (j + 1) .non <;> simp [D.isTup1, D.py]
      · have d1 := (okE_lay _ 60 (okEs_mem c1 _ g1)).2
        have d2 := (okE_lay _ 60 (okEs_mem c1 _ g2)).2
        have r2 := hr.in1.units
        omega
    · split
      · rename_i c
        refine ⟨?_, hall (fun G1 => ∃ kv, RelV kv kx ∧ Rep X.K G1 kv (kds.getD (j + 1) .non)) hk1⟩
        rw [bestI, if_pos c]
      · rename_i c
        refine ⟨?_, hall (fun G1 => ∃ kv, RelV kv kb ∧ Rep X.K G1 kv (kds.getD (bestI kds j) .non)) hb1⟩
        rw [bestI, if_neg c]
  · obtain ⟨rfl, hJ⟩ := hJ
    obtain ⟨H1, G1, I1, st1, ev1, n1, n2, _, un1⟩ := hJ.inv I
    obtain ⟨u, hu, ru⟩ := hv
    obtain ⟨d', hd1, hd2⟩ := rp.getV hu
    rw [ulen, hd] at hd1
    cases hd1
    exact ⟨u, H1, I1, ru, q u H1 G1 st1 ev1 (hd2.mono ev1.g)⟩
end
end HD
set_option Elab.async false
set_option linter.all false
set_option autoImplicit false
set_option maxRecDepth 100000
set_option maxHeartbeats 2000000
/-! HF13: the expression min(x, key=lambda p: ..). -/
namespace HD
open PySem PySem.Spec PyProof.Rows L2 LamX
variable [Tb]
variable {X : Cx}
theorem df_minLam {a : Expr} {params : Arguments} {body : Expr} {scope : Scope} {lpos kpos p pos : Pos} {fs fb : M D} {m r2 caps : List Nat} {N fr : List Str} {x : Str} {k : Nat} {c P : Addr}
    (hg : Gl X "min") (hm : X.mg "min" = none) (ha : DE X m [] fs a) (TB : TabB X.base X.mg c P) (hcode : X.env.code = .ref c) (hmT : (P, X.env.qual ++ "<lambda>") ∈ Tb.T) (hu : ∀ p ∈ Tb.T, p.1 = P → p.2 = X.env.qual ++ "<lambda>")
    (hdef : defaultsOf params X.env = ([], [])) (sc : Scope) (hsc : X.env.scope = sc) (hfree'' : ∀ y ∈ scope.names, y.2 = .free → sc.names.lookup y.1 = some .cell ∨ sc.names.lookup y.1 = some .free) (hfr : ∀ y ∈ fr, (y, NameKind.free) ∈ scope.names) (hjs : caps.map (fun j => X.N[j]?) = fr.map some) (Sc : NdefX.NScope N [x] fr scope)
    (hbind : ∀ (q : Str) (cl : List (Str × Addr)) (pm cv ctv u : Value), bindArgs (PySem.W.kla_fn "<lambda>" q params body scope cl pm cv ctv) ⟨[u], []⟩ = pure [(x, u)]) (hr : Room (k + 3) X.A)
    (hb : ∀ c', LamB X k N (HK.lamF (X.env.qual ++ "<lambda>") params scope (cloFrom X.env.cells scope.names []) c') r2 fb body)
    (he : starEach [a] X.env = (false, eval a X.env) :: starEach [] X.env := by rfl) (hpl : (backTo pos (starEach [a] X.env)).any (·.1) = false := by rfl) :
    DF X m (minLamF caps N.length fs fb) (.Call (.Name "min" p) [a] [⟨some "key", .Lambda params body scope lpos, kpos⟩] pos) := by
  refine ⟨fun pins s σ H Q I h => ?_⟩
  have hfree' : ∀ y ∈ scope.names, y.2 = .free → X.env.scope.names.lookup y.1 = some .cell ∨ X.env.scope.names.lookup y.1 = some .free := by rw [hsc]; exact hfree''
  have hfree : ∀ y ∈ scope.names, y.2 = .free → ∃ c, X.env.cells.lookup y.1 = some c := fun y hy e => (hfree' y hy e).elim (fun z => I.ok.has _ (.inl z)) fun z => I.ok.has _ (.inr z)
  have cp : NdefX.Caps X (cloFrom X.env.cells scope.names []) fr caps := NdefX.Caps.made I.ok hfree' hfr hjs
  obtain ⟨G, env, F, ⟨d, n⟩, env', st, hf, q⟩ := h
  obtain ⟨⟨d0, e1⟩, h1, h2⟩ := bind_some' hf
  cases d0 with
  | tup xs => ?_
  | _ => cases h2
  obtain ⟨kds, h5, h6⟩ := bind_some' h2
  simp only [] at h5 h6
  split at h6
  · rename_i cc
    obtain ⟨dd, h7, h8⟩ := map_some' h6
    simp only [Prod.mk.injEq] at h8
    obtain ⟨⟨rfl, rfl⟩, rfl⟩ := h8
    simp only [Bool.and_eq_true, Bool.not_eq_true', List.isEmpty_eq_false_iff] at cc
    refine wpAny_Call_Name_kw (ld_blt I hg hm (u := .builtin "min") (by decide +kernel) ?_)
    have hA : DA X (m ++ []) ([] ++ []) (argsC (dj [] []) fs args0) [a] := da_cons ha da_nil he
    have hA' : argsC (dj [] []) fs args0 env = some ([.tup xs], e1) := by
      have : dj [] [] = true := by simp [dj]
      simp [argsC, h1, args0, this]
    refine PyProof.Rows.callWith_kw (thn (hA.run pos pins s σ H (fun vs H1 => ∃ G1 F1, S X.K σ H1 G1 e1 F1 ∧ Evo (m ++ []) env H G F e1 H1 G1 F1 ∧ Reps X.K (vw ([] ++ []) H1 G1 F1) vs [.tup xs]) I ⟨G, env, F, [.tup xs], e1, st, hA', fun vs H1 G1 F1 s1 ev1 rp1 => ⟨G1, F1, s1, ev1, rp1⟩⟩) fun us s1 ⟨vs, H1, I1, r1, q1⟩ => ?_) (by rw [he]; rfl) hpl (by rfl) (by rfl)
    obtain ⟨G1, F1, st1, ev1, rp1⟩ := q1
    rw [List.append_nil] at ev1 rp1
    rw [vw_nil] at rp1
    obtain ⟨v, rfl, rpv⟩ := reps1 rp1
    cases rpv with
    | tup hs rg => ?_
    rename_i l ws
    rw [Vals.ref1 r1]
    refine PyProof.Rows.kwAll_cons (lam_make3 I1 TB hcode hmT hu st1.tb.tabs hdef hfree fun f c' pm ctv H2 s2 I2 k2 T2 of nf fr' hc => PyProof.Rows.kwAll_nil ?_)
    have keep2 : ∀ b o, H1 b = some o → (∀ ps, o ≠ .tbl ps) → H2 b = some o := fun b o e n => (k2 b o e).eq n
    have sm2 : Same G1 H2 := fun b o e => keep2 b o (st1.same b o e) fun ps z => st1.tb.nt b ps (by rw [← z]; exact e)
    obtain ⟨st2, ev2⟩ := st1.ran (Same.refl G1) sm2 ⟨st1.tb.nt, T2⟩ k2 (fun b o e => .inl e)
    show wpAny _ _ (call (.builtin "min") [.ref l] [(Str.ofString "key", .ref f)]) _ _ s2
    refine min_lam I2 st2 Sc (hbind _ _ _ _ _) of nf fr' hc hr cp (hb c') h5 cc.1 cc.2.1 cc.2.2 (SqT.of hs) rg h7 fun v H3 G3 st3 ev3 rz => ?_
    exact q v H3 G3 F1 [] st3 (((ev1.trans ev2).trans ev3).mono fun i hi => by simpa using hi) (.shr (.inl rfl) rz) fun a ha => by cases ha
  · cases h6
end HD
set_option Elab.async false
set_option linter.all false
set_option autoImplicit false
set_option maxRecDepth 100000
set_option maxHeartbeats 2000000
/-! HF14: a call with a starred last argument. -/
namespace HD
open PySem PySem.Spec PyProof.Rows L2
variable [Tb]
variable {X : Cx} {e : Expr} {es : List Expr} {pos p : Pos} {x : Str} {k : Nat} {f : Addr} {fd : FuncData} {ps : List Str} {ms js : List (Option Nat)} {m r : List Nat} {φ : FnD} {fs : M (List D)}
omit [Tb] in
theorem fnR_of {P : Program} {w : World} {K : PySem.W.Frag} {mg : Str → Option Value} {base : Heap} {CX : CXT} {sp : Sp} (F : FnOk P w K mg base CX k f fd ps sp) (hb : Binds K fd ps []) : FnR P w K mg base CX k f sp := fun A outer s H us vs Q E hr e0 rv hsp => by
  have KX : K.In s.heap := e0.mod.kin.keeps fun b o e => (e0.bs b o e).1
  have hl : (us ++ []).length = ps.length := by rw [List.append_nil, ← rv.length]; exact F.len _ _ _ _ hsp
  have h := hb s us KX hl
  rw [List.append_nil] at h
  exact F.run A outer s H ⟨us, []⟩ us vs Q E hr e0 h rv hsp
/-- exactly n values -/
def lenM (n : Nat) (fs : M (List D)) : M (List D) := fun env => (fs env).bind fun p => if p.1.length = n then some p else none
theorem cr_all {K : PySem.W.Frag} {W : Hp} {σ : L2.St} : ∀ {vs : List V} {ds : List D}, Reps K W vs ds → CR K W σ (nones ds.length) vs ds
  | _, _, .nil => .nil
  | _, _, .cons a b => .shr a (cr_all b)
theorem dc_all (n : Nat) (ha : DA X m r fs es) : DC X (nones n) m r (lenM n fs) es := pa_weak ha fun σ H Q ⟨G, env, F, ds, env', s, hf, q⟩ => by
  obtain ⟨⟨ds', e'⟩, h1, h2⟩ := bind_some' hf
  simp only [] at h2
  split at h2
  · rename_i c
    simp only [Option.some.injEq, Prod.mk.injEq] at h2
    obtain ⟨rfl, rfl⟩ := h2
    exact ⟨G, env, F, ds', e', s, h1, fun vs H1 G1 F1 s1 ev1 rp1 => q vs H1 G1 F1 s1 ev1 (by rw [← c]; exact cr_all rp1)⟩
  · cases h2
/-- f(e, .., *t) -/
theorem df_callS (Fk : FnOk X.prog X.w X.K X.mg X.base CX0 k f fd ps (spD X.K ms φ)) (hr : Room k X.A) (hg : Gl X x) (hm : X.mg x = some (.ref f)) (hk : PySem.W.keepIn X.K (.ref f) = true) (hb : Binds X.K fd ps []) (ha : DC X js m r fs (e :: es)) (nd : (ioJ js).Nodup := by decide) (al : alike ms js = true := by rfl)
    (hdb : (x == ("__debug__" : Str)) = false := by decide) (he : starEach (e :: es) X.env = (false, eval e X.env) :: starEach es X.env := by rfl) (hst : (backTo pos (starEach es X.env)).any (·.1) = true := by rfl) :
    DF X (m ++ ioJ js) (callF ms js r φ fs) (.Call (.Name x p) (e :: es) [] pos) := pe_weak (StX.pe_callS2 (fnR_of Fk hb) hr hk hg hm pass0 ha hdb he hst) fun σ H Q h => by
    have z := tDF_call (X := X) (js := js) (m := m) (r := r) (ms := ms) (fs := fs) (φ := φ) nd al h
    simpa only [List.append_nil] using z
end HD
set_option Elab.async false
set_option linter.all false
set_option autoImplicit false
set_option maxRecDepth 100000
set_option maxHeartbeats 2000000
/-! HF15: targets filled from a list or a tuple. -/
namespace HD
open PySem PySem.Spec PyProof.Rows L2
variable [Tb]
/-- a tuple's or a list's items -/
def gseq (h : GsF) : GF := fun d env => (seqOf d).bind fun ds => h ds env
section
variable {X : Cx} {pos : Pos} {tg : Expr} {tgs : List Expr} {m : List Nat}
omit [Tb] in
theorem pg_or {t t' : TG} (h : PG X tg t) (h' : PG X tg t') : PG X tg (fun v σ H Q => t v σ H Q ∨ t' v σ H Q) := ⟨fun pins s σ H v u Q I r q => q.elim (h.run pins s σ H v u Q I r) (h'.run pins s σ H v u Q I r)⟩
theorem dg_seq {h : GsF} {k n : Nat} (hc : X.calm = true) (hg : DGs X m h tgs) (hl : ∀ ds env env', h ds env = some env' → ds.length = n) (hn : (assignEach tgs X.env).length = n := by rfl) (hst : (assignEach tgs X.env).findIdx? (·.1) = none := by rfl) : DG X m (gseq h) (.Tuple tgs k pos) :=
  pg_weak (pg_or (pg_tup hc hg hn hst) (pg_unl hc hg hn hst)) fun v σ H Q ⟨G, env, F, d, env', s, rp, hh, q⟩ => by
    obtain ⟨ds, h1, h2⟩ := bind_some' hh
    cases rp with
    | @tup a xs es ha hx =>
      simp only [seqOf, Option.some.injEq] at h1
      subst h1
      exact .inl ⟨a, xs, rfl, SqT.of (s.same _ _ ha), by rw [hx.length]; exact hl _ env env' h2, G, env, F, _, env', s, hx, h2, q⟩
    | @lst a xs es ha hx =>
      simp only [seqOf, Option.some.injEq] at h1
      subst h1
      exact .inr ⟨a, xs, rfl, SqL.of (s.same _ _ ha), by rw [hx.length]; exact hl _ env env' h2, G, env, F, _, env', s, hx, h2, q⟩
    | _ => simp [seqOf] at h1
end
end HD
set_option Elab.async false
set_option linter.all false
set_option autoImplicit false
set_option maxRecDepth 100000
set_option maxHeartbeats 2000000
/-! HF16: sum of a list or a tuple. -/
namespace HD
open PySem PySem.Spec PyProof.Rows L2
variable [Tb]
def sumE (d : D) : Option D := (seqOf d).bind fun xs => (asIs xs).map fun is => .int is.sum
section
variable {X : Cx}
theorem c_sumE (hc : X.calm = true) : CallR X (.builtin "sum") (rDN X.K (one sumE)) := call1 fun pins s σ H W x u dx d Q I ru sm rx hg q => by
  obtain ⟨xs, h1, h2⟩ := bind_some' hg
  obtain ⟨is, h3, rfl⟩ := map_some' h2
  cases asIs_some h3
  cases rx with
  | @lst a vs ds ha hx =>
    simp only [seqOf, Option.some.injEq] at h1
    subst h1
    cases reps_ints hx
    exact cr_sum hc pins s σ H _ _ Q I (.cons ru .nil) ⟨a, is, rfl, SqL.of (sm _ _ ha), q _ _ _ (Grow.refl sm) (.int _)⟩
  | @tup a vs ds ha hx =>
    simp only [seqOf, Option.some.injEq] at h1
    subst h1
    cases reps_ints hx
    cases ru
    obtain ⟨its, rvi, hli, hz⟩ := I.tuple (SqT.of (sm _ _ ha))
    obtain ⟨xs, e⟩ := rvi.ints.allInts.items
    have hn : numsOf (intItems xs).toList = is := by rw [← e]; exact rvi.ints.numsOf
    rw [nums_intItems] at hn
    have hli : s.heap.IsTuple a its.toArray := hli
    have hlt : a < s.heap.objs.size := by obtain ⟨o, h1, _⟩ := hli; exact Heap.lt_size h1
    rw [e] at hli
    refine call_sum_walkG (wpAny_pyIter_tuple hli ?_)
    refine ⟨s.heap.objs.size, [s.heap.objs.size, a], [s.heap.objs.size], _, _, _, numAt xs, rfl, Walks.tuple (A := X.A.in1) (I.ok.hd hc) _ a (Nat.ne_of_lt hlt) (intItems xs), ⟨⟨_, Heap.get?_push_size _ rfl, rfl, rfl⟩, hli.at fun o e => Heap.get?_push_of_some _ e⟩, fun b hb => ?_, (fun _ _ => intItems_at), fun h' tk t' hk => ?_⟩
    · simp at hb
      show b < (s.heap.push _).objs.size
      rw [size_push']
      rcases hb with rfl | rfl
      · exact Nat.lt_succ_self _
      · exact Nat.lt_succ_of_lt hlt
    · have e2 : preSum (numAt xs) (intItems xs).size = is.sum := by
        rw [preSum_eq, List.take_of_length_le (by simp [intItems]), hn]
      rw [e2]
      exact ⟨.int _, H, I.kept fun b o e => hk b o (fun hm => by
        have : b = s.heap.objs.size := by simpa using hm
        subst this
        exact absurd (Heap.lt_size e) (Nat.lt_irrefl _)) (Heap.get?_push_of_some _ e), ⟨_, rfl⟩, q _ _ _ (Grow.refl sm) (.int _)⟩
  | _ => simp [seqOf] at h1
end
end HD
set_option Elab.async false
set_option linter.all false
set_option maxRecDepth 100000
set_option maxHeartbeats 4000000
set_option autoImplicit false
namespace HD
open PySem PySem.Spec PyProof.Rows L2
variable [Tb]
def topS (i : Nat) : Stmt := PySem.Challenge.pw_plainlybest_k75_whole_double_clocks.main.body.getD i (.Pass ⟨0, 0, 0, 0⟩)

structure Tp (K : PySem.W.Frag) (mg : Str → Option Value) where
  n_len : mg "len" = none
  n_range : mg "range" = none
  n_tuple : mg "tuple" = none
  n_min : mg "min" = none
  n_sorted : mg "sorted" = none
  n_int : mg "int" = none
  n_abs : mg "abs" = none
  n_list : mg "list" = none
  n_isinstance : mg "isinstance" = none
  n_zip : mg "zip" = none
  n_bool : mg "bool" = none
  n_str : mg "str" = none
  n_dict : mg "dict" = none
  n_sum : mg "sum" = none
  a_takers_of : Addr
  d_takers_of : FuncData
  F_takers_of : Fun K "takers_of" "takers_of" (topS 1) a_takers_of d_takers_of
  g_takers_of : mg "takers_of" = some (.ref a_takers_of)
  b_takers_of : Binds K d_takers_of ["trading"] []
  a_last_of : Addr
  d_last_of : FuncData
  F_last_of : Fun K "last_of" "last_of" (topS 3) a_last_of d_last_of
  g_last_of : mg "last_of" = some (.ref a_last_of)
  b_last_of : Binds K d_last_of ["box", "going"] []
  a_prices_at_end : Addr
  d_prices_at_end : FuncData
  F_prices_at_end : Fun K "prices_at_end" "prices_at_end" (topS 4) a_prices_at_end d_prices_at_end
  g_prices_at_end : mg "prices_at_end" = some (.ref a_prices_at_end)
  b_prices_at_end : Binds K d_prices_at_end ["many", "sellers", "going", "low", "high"] []
  a_clock_from : Addr
  d_clock_from : FuncData
  F_clock_from : Fun K "clock_from" "clock_from" (topS 5) a_clock_from d_clock_from
  g_clock_from : mg "clock_from" = some (.ref a_clock_from)
  b_clock_from : Binds K d_clock_from ["box", "sellers", "takers", "others"] []
  a_double_clock : Addr
  d_double_clock : FuncData
  F_double_clock : Fun K "double_clock" "double_clock" (topS 6) a_double_clock d_double_clock
  g_double_clock : mg "double_clock" = some (.ref a_double_clock)
  b_double_clock : Binds K d_double_clock ["trading"] []
  a_law_draw : Addr
  d_law_draw : FuncData
  F_law_draw : Fun K "_law_draw" "_law_draw" (topS 8) a_law_draw d_law_draw
  g_law_draw : mg "_law_draw" = some (.ref a_law_draw)
  b_law_draw : Binds K d_law_draw ["script", "salt"] []
  a_law_any : Addr
  d_law_any : FuncData
  F_law_any : Fun K "_law_any" "_law_any" (topS 9) a_law_any d_law_any
  g_law_any : mg "_law_any" = some (.ref a_law_any)
  b_law_any : Binds K d_law_any ["deal", "bound"] []
  a_law_of : Addr
  d_law_of : FuncData
  F_law_of : Fun K "_law_of" "_law_of" (topS 10) a_law_of d_law_of
  g_law_of : mg "_law_of" = some (.ref a_law_of)
  b_law_of : Binds K d_law_of ["deal", "some"] []
  a_law_mixed : Addr
  d_law_mixed : FuncData
  F_law_mixed : Fun K "_law_mixed" "_law_mixed" (topS 11) a_law_mixed d_law_mixed
  g_law_mixed : mg "_law_mixed" = some (.ref a_law_mixed)
  b_law_mixed : Binds K d_law_mixed ["deal", "some"] []
  a_law_same : Addr
  d_law_same : FuncData
  F_law_same : Fun K "_law_same" "_law_same" (topS 12) a_law_same d_law_same
  g_law_same : mg "_law_same" = some (.ref a_law_same)
  b_law_same : Binds K d_law_same ["value", "due"] []
  a_law_parted : Addr
  d_law_parted : FuncData
  F_law_parted : Fun K "_law_parted" "_law_parted" (topS 13) a_law_parted d_law_parted
  g_law_parted : mg "_law_parted" = some (.ref a_law_parted)
  b_law_parted : Binds K d_law_parted ["box", "buyer"] []
  a_law_values : Addr
  d_law_values : FuncData
  F_law_values : Fun K "_law_values" "_law_values" (topS 14) a_law_values d_law_values
  g_law_values : mg "_law_values" = some (.ref a_law_values)
  b_law_values : Binds K d_law_values ["deal", "many", "most"] []
  a_law_trading : Addr
  d_law_trading : FuncData
  F_law_trading : Fun K "_law_trading" "_law_trading" (topS 15) a_law_trading d_law_trading
  g_law_trading : mg "_law_trading" = some (.ref a_law_trading)
  b_law_trading : Binds K d_law_trading ["deal", "buyers", "levels", "most"] []
  a_law_orders : Addr
  d_law_orders : FuncData
  F_law_orders : Fun K "_law_orders" "_law_orders" (topS 16) a_law_orders d_law_orders
  g_law_orders : mg "_law_orders" = some (.ref a_law_orders)
  b_law_orders : Binds K d_law_orders ["trading", "profile"] []
  a_law_pairs : Addr
  d_law_pairs : FuncData
  F_law_pairs : Fun K "_law_pairs" "_law_pairs" (topS 17) a_law_pairs d_law_pairs
  g_law_pairs : mg "_law_pairs" = some (.ref a_law_pairs)
  b_law_pairs : Binds K d_law_pairs ["trading", "profile"] []
  a_law_last : Addr
  d_law_last : FuncData
  F_law_last : Fun K "_law_last" "_law_last" (topS 18) a_law_last d_law_last
  g_law_last : mg "_law_last" = some (.ref a_law_last)
  b_law_last : Binds K d_law_last ["box", "some"] []
  a_law_double : Addr
  d_law_double : FuncData
  F_law_double : Fun K "_law_double" "_law_double" (topS 19) a_law_double d_law_double
  g_law_double : mg "_law_double" = some (.ref a_law_double)
  b_law_double : Binds K d_law_double ["box", "sellers", "takers", "others"] []
  a_law_at : Addr
  d_law_at : FuncData
  F_law_at : Fun K "_law_at" "_law_at" (topS 20) a_law_at d_law_at
  g_law_at : mg "_law_at" = some (.ref a_law_at)
  b_law_at : Binds K d_law_at ["game", "profile"] []
  a_law : Addr
  d_law : FuncData
  F_law : Fun K "law" "law" (topS 21) a_law d_law
  g_law : mg "law" = some (.ref a_law)
  b_law : Binds K d_law ["script"] []

/-- the code objects of the defs that make lambdas -/
structure TpL {K : PySem.W.Frag} {mg : Str → Option Value} (T : Tp K mg) (base : Heap) where
  lc_last_of : Addr
  lp_last_of : Addr
  tab_last_of : LamX.TabB base mg lc_last_of lp_last_of
  code_last_of : T.d_last_of.code = .ref lc_last_of
  mem_last_of : (lp_last_of, ("last_of" ++ ".<locals>." ++ "<lambda>" : Str)) ∈ Tb.T
  uq_last_of : ∀ p ∈ Tb.T, p.1 = lp_last_of → p.2 = ("last_of" ++ ".<locals>." ++ "<lambda>" : Str)

section
variable {P : Program} {w : World} {K : PySem.W.Frag} {mg : Str → Option Value} {base : Heap}
/-! ### takers_of -/
abbrev s_takers_of : Stmt := topS 1
theorem sc_takers_of : FnScope ["trading", "buyer"] ["trading"] (defScope s_takers_of) := ⟨rfl, rfl, rfl, by decide +kernel, rfl, by decide +kernel, by decide +kernel⟩
abbrev cs_takers_of_0 : Scope := { kind := PySem.ScopeKind.function, names := [ (PySem.Str.ofString ".0", PySem.NameKind.local), (PySem.Str.ofString "buyer", PySem.NameKind.local), (PySem.Str.ofString "trading", PySem.NameKind.free)], isGenerator := false, isCoroutine := false, more := [] : PySem.Scope }
def sf_takers_of : SF :=
    (retS (frF [] (app (argsC true (fst' (compF true (wk (argsC true (app (argsC true (bin true (nmS 0) (cst (.int 0)) idxD) args0) (one lenD)) args0) rng1) ⟨true, (gnm 1), (tst (bin true (nmS 1) (bin true (nmS 0) (cst (.int 1)) idxD) ninD)), (nmS 1), true, [1]⟩)) args0) (one tupleD))))
def phi_takers_of : FnD := runF [none] 2 sf_takers_of
theorem ok_takers_of {k : Nat} (T : Tp K mg) : FnOk P w K mg base CX0 (k + 1) T.a_takers_of T.d_takers_of ["trading"] (spD K [none] phi_takers_of) :=
  fn_d (fb := sf_takers_of) T.F_takers_of sc_takers_of rfl (posW rfl) (fun cdv A outer s H E hr => have Sc := sc_takers_of;
    (db_one (ds_ret (df_of (de_callTy c_tuple (by rfl) T.n_tuple (by decide +kernel) (da_cons (de_fresh (df_lc (own := [("buyer", 1)]) (scope := cs_takers_of_0) (c := ⟨true, (gnm 1), (tst (bin true (nmS 1) (bin true (nmS 0) (cst (.int 1)) idxD) ninD)), (nmS 1), true, [1]⟩) (by rfl) Sc.nd (di_range1 (by rfl) T.n_range (da_cons (de_callB c_len (by rfl) T.n_len (by decide +kernel) (da_cons (de_ix (ix_d (u1 hr)) (de_nmS 0) de_int (fun _ _ => rfl)) da_nil)) da_nil)) (blkOk_by (own := [("buyer", 1)]) (N := ["trading", "buyer"]) (sc := defScope s_takers_of) (scope := cs_takers_of_0) (by decide +kernel)) rfl rfl rfl (memW rfl) (fun _ _ _ _ _ => (dg_nm Sc.nd rfl (.inl rfl))) (fun _ _ _ _ _ => (dts_one (dt_cmp (op_notIn_d (u65 hr)) (de_nmS 1) (de_ix (ix_d (u1 hr)) (de_nmS 0) de_int (fun _ _ => rfl)) rfl))) (fun _ _ _ _ _ => (de_nmS 1)))) da_nil)))))) (fun _ _ h => h) (ioW (by rfl))

/-! ### last_of -/
abbrev s_last_of : Stmt := topS 3
theorem sc_last_of : FnScope ["box", "going"] ["box", "going"] (defScope s_last_of) := ⟨rfl, rfl, rfl, by decide +kernel, rfl, by decide +kernel, by decide +kernel⟩
abbrev cs_last_of_0 : Scope := { kind := PySem.ScopeKind.function, names := [(PySem.Str.ofString "buyer", PySem.NameKind.local), (PySem.Str.ofString "box", PySem.NameKind.free)], isGenerator := false, isCoroutine := false, more := [] : PySem.Scope }
def sf_last_of : SF :=
    (retS (minLamF [0] 2 (nmS 1) (app (argsC true (bin true (bin true (nmS 1) (nmS 0) idxD) (cst (.int 0)) idxD) (argsC true (una (nmS 0) negD) args0)) tupD)))
def phi_last_of : FnD := runF [none, none] 2 sf_last_of
theorem ok_last_of {k : Nat} (T : Tp K mg) (TL : TpL T base) : FnOk P w K mg base CX0 (k + 3 + 1) T.a_last_of T.d_last_of ["box", "going"] (spD K [none, none] phi_last_of) :=
  fn_dC (fb := sf_last_of) T.F_last_of sc_last_of rfl (posW rfl) (fun cdv hcdv A outer s H E hr => have Sc := sc_last_of; have hcd := hcdv.symm.trans TL.code_last_of;
    (db_one (ds_ret (df_minLam (by rfl) T.n_min (de_nmS 1) (N := ["buyer", "box"]) (fr := ["box"]) (caps := [0]) TL.tab_last_of hcd TL.mem_last_of TL.uq_last_of rfl (defScope s_last_of) rfl (by decide +kernel) (by decide +kernel) (by rfl) (NdefX.nscope_by (by decide +kernel)) (fun _ _ _ _ _ _ => rfl) hr (fun c9 f9 A9 o9 s9 H9 hr => (de_tup (da_cons (de_ix (ix_d (u1 hr)) (de_ix (ix_d (u1 hr)) (de_nmS 1) (de_nmS 0) (fun _ _ => rfl)) de_int (fun _ _ => rfl)) (da_cons (de_un un_neg_d (de_nmS 0)) da_nil)))))))) (fun _ _ h => h) (ioW (by rfl))

/-! ### prices_at_end -/
abbrev s_prices_at_end : Stmt := topS 4
theorem sc_prices_at_end : FnScope ["many", "sellers", "going", "low", "high", "at"] ["many", "sellers", "going", "low", "high"] (defScope s_prices_at_end) := ⟨rfl, rfl, rfl, by decide +kernel, rfl, by decide +kernel, by decide +kernel⟩
abbrev cs_prices_at_end_0 : Scope := { kind := PySem.ScopeKind.function, names := [ (PySem.Str.ofString ".0", PySem.NameKind.local), (PySem.Str.ofString "at", PySem.NameKind.local), (PySem.Str.ofString "going", PySem.NameKind.free), (PySem.Str.ofString "high", PySem.NameKind.free), (PySem.Str.ofString "low", PySem.NameKind.free), (PySem.Str.ofString "sellers", PySem.NameKind.free)], isGenerator := false, isCoroutine := false, more := [] : PySem.Scope }
def sf_prices_at_end : SF :=
    (retS (frF [] (app (argsC true (fst' (compF true (wk (argsC true (nmS 0) args0) rng1) ⟨true, (gnm 5), yes, (iteM (tst (bin true (nmS 5) (nmS 2) ninD)) (cst (.int 0)) (iteM (tst (bin true (nmS 5) (nmS 1) inD)) (nmS 4) (nmS 3))), true, [5]⟩)) args0) (one tupleD))))
def phi_prices_at_end : FnD := runF [none, none, none, none, none] 6 sf_prices_at_end
theorem ok_prices_at_end {k : Nat} (T : Tp K mg) : FnOk P w K mg base CX0 (k + 1) T.a_prices_at_end T.d_prices_at_end ["many", "sellers", "going", "low", "high"] (spD K [none, none, none, none, none] phi_prices_at_end) :=
  fn_d (fb := sf_prices_at_end) T.F_prices_at_end sc_prices_at_end rfl (posW rfl) (fun cdv A outer s H E hr => have Sc := sc_prices_at_end;
    (db_one (ds_ret (df_of (de_callTy c_tuple (by rfl) T.n_tuple (by decide +kernel) (da_cons (de_fresh (df_lc (own := [("at", 5)]) (scope := cs_prices_at_end_0) (c := ⟨true, (gnm 5), yes, (iteM (tst (bin true (nmS 5) (nmS 2) ninD)) (cst (.int 0)) (iteM (tst (bin true (nmS 5) (nmS 1) inD)) (nmS 4) (nmS 3))), true, [5]⟩) (by rfl) Sc.nd (di_range1 (by rfl) T.n_range (da_cons (de_nmS 0) da_nil)) (blkOk_by (own := [("at", 5)]) (N := ["many", "sellers", "going", "low", "high", "at"]) (sc := defScope s_prices_at_end) (scope := cs_prices_at_end_0) (by decide +kernel)) rfl rfl rfl (memW rfl) (fun _ _ _ _ _ => (dg_nm Sc.nd rfl (.inl rfl))) (fun _ _ _ _ _ => dts_nil) (fun _ _ _ _ _ => (de_ifE (dt_cmp (op_notIn_d (u65 hr)) (de_nmS 5) (de_nmS 2) rfl) de_int (de_ifE (dt_cmp (op_in_d (u65 hr)) (de_nmS 5) (de_nmS 1) rfl) (de_nmS 4) (de_nmS 3)))))) da_nil)))))) (fun _ _ h => h) (ioW (by rfl))

/-! ### clock_from -/
abbrev s_clock_from : Stmt := topS 5
theorem sc_clock_from : FnScope ["box", "sellers", "takers", "others", "parts", "games", "due", "left", "low_box", "high_box", "part", "low", "high", "going", "some", "one"] ["box", "sellers", "takers", "others"] (defScope s_clock_from) := ⟨rfl, rfl, rfl, by decide +kernel, rfl, by decide +kernel, by decide +kernel⟩
abbrev cs_clock_from_0 : Scope := { kind := PySem.ScopeKind.function, names := [ (PySem.Str.ofString ".0", PySem.NameKind.local), (PySem.Str.ofString "some", PySem.NameKind.local), (PySem.Str.ofString "last_of", PySem.NameKind.globalImplicit), (PySem.Str.ofString "box", PySem.NameKind.free)], isGenerator := false, isCoroutine := false, more := [] : PySem.Scope }
abbrev cs_clock_from_1 : Scope := { kind := PySem.ScopeKind.function, names := [ (PySem.Str.ofString ".0", PySem.NameKind.local), (PySem.Str.ofString "one", PySem.NameKind.local), (PySem.Str.ofString "due", PySem.NameKind.free)], isGenerator := false, isCoroutine := false, more := [] : PySem.Scope }
abbrev cs_clock_from_2 : Scope := { kind := PySem.ScopeKind.function, names := [ (PySem.Str.ofString ".0", PySem.NameKind.local), (PySem.Str.ofString "one", PySem.NameKind.local), (PySem.Str.ofString "due", PySem.NameKind.free)], isGenerator := false, isCoroutine := false, more := [] : PySem.Scope }
abbrev cs_clock_from_3 : Scope := { kind := PySem.ScopeKind.function, names := [ (PySem.Str.ofString ".0", PySem.NameKind.local), (PySem.Str.ofString "part", PySem.NameKind.local), (PySem.Str.ofString "box", PySem.NameKind.free), (PySem.Str.ofString "due", PySem.NameKind.free)], isGenerator := false, isCoroutine := false, more := [] : PySem.Scope }
def k_clock_from_0 (phi : FnD) : SF :=
    (retS (frF [] (app (argsC true (cst (.str "end")) (argsC true (nmS 13) (argsC true (fst' (callF [none, none, none, none, none] [none, none, none, none, none] [] phi_prices_at_end (argsC true (app (argsC true (nmS 0) args0) (one lenD)) (argsC true (nmS 1) (argsC true (nmS 13) (argsC true (nmS 11) (argsC true (nmS 12) args0))))))) args0))) tupD)))
def k_clock_from_1 (phi : FnD) : SF :=
    (ifS (tst (bin true (bin true (nmS 11) (nmS 12) addD) (cst (.int 0)) geD)) (seqS (setS 13 (frF [] (app (argsC true (fst' (nwF [] (argsC true (bin true (nmS 2) (nmS 3) addD) args0) (seq1 sortD))) args0) (one tupleD)))) (k_clock_from_0 phi)) nxt)
def k_clock_from_2 (phi : FnD) : SF :=
    (asgS (frF [] (nmS 7)) (gtup (gcons (gnm 2) (gcons (gnm 3) gnil))))
def k_clock_from_3 (phi : FnD) : SF :=
    (seqS (ifS (tst (bin true (app (argsC true (bin true (nmS 0) (nmS 6) idxD) args0) (one lenD)) (cst (.int 1)) gtD)) brkS nxt) (k_clock_from_2 phi))
def k_clock_from_4 (phi : FnD) : SF :=
    (seqS (setS 7 (frF [] (app (argsC true (app (argsC true (fst' (compF true (walk (nmS 2)) ⟨true, (gnm 15), (tst (bin true (nmS 15) (nmS 6) neD)), (nmS 15), true, [15]⟩)) args0) (one tupleD)) (argsC true (app (argsC true (fst' (compF true (walk (nmS 3)) ⟨true, (gnm 15), (tst (bin true (nmS 15) (nmS 6) neD)), (nmS 15), true, [15]⟩)) args0) (one tupleD)) args0)) tupD))) (k_clock_from_3 phi))
def k_clock_from_5 (phi : FnD) : SF :=
    (seqS (setS 6 (frF [] (iteM (tst (bin true (app (argsC true (nmS 2) args0) (one lenD)) (app (argsC true (nmS 3) args0) (one lenD)) geD)) (fst' (callF [none, none] [none, none] [] phi_last_of (argsC true (nmS 0) (argsC true (nmS 2) args0)))) (fst' (callF [none, none] [none, none] [] phi_last_of (argsC true (nmS 0) (argsC true (nmS 3) args0))))))) (k_clock_from_4 phi))
def b_clock_from_6 (phi : FnD) : SF :=
    (seqS (ifS (tst (bin true (app (argsC true (nmS 2) args0) (one lenD)) (app (argsC true (nmS 3) args0) (one lenD)) eqD)) (seqS (asgS (frF [] (fst' (compF true (walk (app (argsC true (nmS 2) (argsC true (nmS 3) args0)) tupD)) ⟨true, (gnm 14), yes, (iteM (tst (bin true (nmS 14) (app args0 tupD) neD)) (bin true (bin true (nmS 0) (fst' (callF [none, none] [none, none] [] phi_last_of (argsC true (nmS 0) (argsC true (nmS 14) args0)))) idxD) (cst (.int 0)) idxD) (cst (.int 0))), true, [14]⟩))) (gseq (gcons (gnm 11) (gcons (gnm 12) gnil)))) (k_clock_from_1 phi)) nxt) (k_clock_from_5 phi))
def k_clock_from_7 (phi : FnD) : SF :=
    (retS (frF [] (app (argsC true (cst (.str "ask")) (argsC true (nmS 6) (argsC true (nmS 4) (argsC true (nmS 5) args0)))) tupD)))
def k_clock_from_8 (phi : FnD) : SF :=
    (seqS (setS 5 (frF [] (app (argsC true (fst' (callF [none, none, none, none] (nones 4) [] phi (lenM 4 (argsC true (nmS 8) (argsC true (nmS 1) (argsS true (nmS 7) args0)))))) (argsC true (fst' (callF [none, none, none, none] [none, none, none, none] [] phi (argsC true (nmS 9) (argsC true (nmS 1) (argsC true (nmS 2) (argsC true (nmS 3) args0)))))) args0)) tupD))) (k_clock_from_7 phi))
def k_clock_from_9 (phi : FnD) : SF :=
    (seqS (asgS (frF [] (fst' (compF true (walk (nmS 4)) ⟨true, (gnm 10), yes, (bin true (bin true (slc true (nmS 0) prt0 (prt (nmS 6))) (app (argsC true (nmS 10) args0) tupD) addD) (slc true (nmS 0) (prt (bin true (nmS 6) (cst (.int 1)) addD)) prt0) addD), true, [10]⟩))) (gseq (gcons (gnm 8) (gcons (gnm 9) gnil)))) (k_clock_from_8 phi))
def k_clock_from_10 (phi : FnD) : SF :=
    (seqS (setS 4 (frF [] (app (argsC true (slc true (bin true (nmS 0) (nmS 6) idxD) prt0 (prt (cst (.int 1)))) (argsC true (slc true (bin true (nmS 0) (nmS 6) idxD) (prt (cst (.int 1))) prt0) args0)) tupD))) (k_clock_from_9 phi))
def sf_clock_from (phi : FnD) : SF :=
    (seqS (whD (tst (cst (.bl true))) (b_clock_from_6 phi) WF) (k_clock_from_10 phi))
def phi_clock_from : Nat → FnD
  | 0 => fun _ => none
  | n + 1 => runF [none, none, none, none] 16 (sf_clock_from (phi_clock_from n))
theorem st_clock_from {k : Nat} (T : Tp K mg) (c_last_of : FnOk P w K mg base CX0 k T.a_last_of T.d_last_of ["box", "going"] (spD K [none, none] phi_last_of)) (c_prices_at_end : FnOk P w K mg base CX0 k T.a_prices_at_end T.d_prices_at_end ["many", "sellers", "going", "low", "high"] (spD K [none, none, none, none, none] phi_prices_at_end)) (phi : FnD) (ih : FnOk P w K mg base CX0 k T.a_clock_from T.d_clock_from ["box", "sellers", "takers", "others"] (spD K [none, none, none, none] phi)) : FnOk P w K mg base CX0 (k + 1) T.a_clock_from T.d_clock_from ["box", "sellers", "takers", "others"] (spD K [none, none, none, none] (runF [none, none, none, none] 16 (sf_clock_from phi))) :=
  fn_d (fb := sf_clock_from phi) T.F_clock_from sc_clock_from rfl (posW rfl) (fun cdv A outer s H E hr => have Sc := sc_clock_from;
    (db_cons (ds_whileP (dt_val de_bl) (db_cons (ds_if (dt_cmp (op_eq_d (u64 hr)) (de_callB c_len (by rfl) T.n_len (by decide +kernel) (da_cons (de_nmS 2) da_nil)) (de_callB c_len (by rfl) T.n_len (by decide +kernel) (da_cons (de_nmS 3) da_nil)) (nobehind _ (by decide) (by decide))) (db_cons (ds_asg (df_of (de_fresh (df_lc (own := [("some", 14)]) (scope := cs_clock_from_0) (c := ⟨true, (gnm 14), yes, (iteM (tst (bin true (nmS 14) (app args0 tupD) neD)) (bin true (bin true (nmS 0) (fst' (callF [none, none] [none, none] [] phi_last_of (argsC true (nmS 0) (argsC true (nmS 14) args0)))) idxD) (cst (.int 0)) idxD) (cst (.int 0))), true, [14]⟩) (by rfl) Sc.nd (di_seq (de_tup (da_cons (de_nmS 2) (da_cons (de_nmS 3) da_nil)))) (blkOk_by (own := [("some", 14)]) (N := ["box", "sellers", "takers", "others", "parts", "games", "due", "left", "low_box", "high_box", "part", "low", "high", "going", "some", "one"]) (sc := defScope s_clock_from) (scope := cs_clock_from_0) (by decide +kernel)) rfl rfl rfl (memW rfl) (fun _ _ _ _ _ => (dg_nm Sc.nd rfl (.inl rfl))) (fun _ _ _ _ _ => dts_nil) (fun _ _ _ _ _ => (de_ifE (dt_cmp (op_ne_d (u64 hr)) (de_nmS 14) (de_tup da_nil) (nobehind _ (by decide) (by decide))) (de_ix (ix_d (u1 hr)) (de_ix (ix_d (u1 hr)) (de_nmS 0) (de_fresh (df_call (ms := [none, none]) c_last_of (rm hr) (by rfl) T.g_last_of T.F_last_of.kp T.b_last_of (dc_cons (de_nmS 0) (dc_cons (de_nmS 14) dc_nil)))) (fun _ _ => rfl)) de_int (fun _ _ => rfl)) de_int))))) (dg_seq rfl (dgs_cons (dg_nm Sc.nd rfl (.inl rfl)) (dgs_cons (dg_nm Sc.nd rfl (.inl rfl)) dgs_nil)) (glenS (glenS glen0))))
      (db_one (ds_if (dt_cmp op_ge_d (de_op op_add_d (de_nmS 11) (de_nmS 12)) de_int (nobehind _ (by decide) (by decide))) (db_cons (ds_set Sc.nd rfl (.inl rfl) (df_of (de_callTy c_tuple (by rfl) T.n_tuple (by decide +kernel) (da_cons (de_fresh (df_callB (c_sorted (u70 hr)) (by rfl) T.n_sorted (by decide +kernel) (da_cons (de_op op_add_d (de_nmS 2) (de_nmS 3)) da_nil))) da_nil))))
      (db_one (ds_ret (df_of (de_tup (da_cons de_str (da_cons (de_nmS 13) (da_cons (de_fresh (df_call (ms := [none, none, none, none, none]) c_prices_at_end (rm hr) (by rfl) T.g_prices_at_end T.F_prices_at_end.kp T.b_prices_at_end (dc_cons (de_callB c_len (by rfl) T.n_len (by decide +kernel) (da_cons (de_nmS 0) da_nil)) (dc_cons (de_nmS 1) (dc_cons (de_nmS 13) (dc_cons (de_nmS 11) (dc_cons (de_nmS 12) dc_nil))))))) da_nil)))))))) db_nil))) db_nil)
      (db_cons (ds_set Sc.nd rfl (.inr rfl) (df_of (de_ifE (dt_cmp op_ge_d (de_callB c_len (by rfl) T.n_len (by decide +kernel) (da_cons (de_nmS 2) da_nil)) (de_callB c_len (by rfl) T.n_len (by decide +kernel) (da_cons (de_nmS 3) da_nil)) (nobehind _ (by decide) (by decide))) (de_fresh (df_call (ms := [none, none]) c_last_of (rm hr) (by rfl) T.g_last_of T.F_last_of.kp T.b_last_of (dc_cons (de_nmS 0) (dc_cons (de_nmS 2) dc_nil)))) (de_fresh (df_call (ms := [none, none]) c_last_of (rm hr) (by rfl) T.g_last_of T.F_last_of.kp T.b_last_of (dc_cons (de_nmS 0) (dc_cons (de_nmS 3) dc_nil)))))))
      (db_cons (ds_set Sc.nd rfl (.inl rfl) (df_of (de_tup (da_cons (de_callTy c_tuple (by rfl) T.n_tuple (by decide +kernel) (da_cons (de_fresh (df_lc (own := [("one", 15)]) (scope := cs_clock_from_1) (c := ⟨true, (gnm 15), (tst (bin true (nmS 15) (nmS 6) neD)), (nmS 15), true, [15]⟩) (by rfl) Sc.nd (di_seq (de_nmS 2)) (blkOk_by (own := [("one", 15)]) (N := ["box", "sellers", "takers", "others", "parts", "games", "due", "left", "low_box", "high_box", "part", "low", "high", "going", "some", "one"]) (sc := defScope s_clock_from) (scope := cs_clock_from_1) (by decide +kernel)) rfl rfl rfl (memW rfl) (fun _ _ _ _ _ => (dg_nm Sc.nd rfl (.inl rfl))) (fun _ _ _ _ _ => (dts_one (dt_cmp (op_ne_d (u64 hr)) (de_nmS 15) (de_nmS 6) (nobehind _ (by decide) (by decide))))) (fun _ _ _ _ _ => (de_nmS 15)))) da_nil)) (da_cons (de_callTy c_tuple (by rfl) T.n_tuple (by decide +kernel) (da_cons (de_fresh (df_lc (own := [("one", 15)]) (scope := cs_clock_from_2) (c := ⟨true, (gnm 15), (tst (bin true (nmS 15) (nmS 6) neD)), (nmS 15), true, [15]⟩) (by rfl) Sc.nd (di_seq (de_nmS 3)) (blkOk_by (own := [("one", 15)]) (N := ["box", "sellers", "takers", "others", "parts", "games", "due", "left", "low_box", "high_box", "part", "low", "high", "going", "some", "one"]) (sc := defScope s_clock_from) (scope := cs_clock_from_2) (by decide +kernel)) rfl rfl rfl (memW rfl) (fun _ _ _ _ _ => (dg_nm Sc.nd rfl (.inl rfl))) (fun _ _ _ _ _ => (dts_one (dt_cmp (op_ne_d (u64 hr)) (de_nmS 15) (de_nmS 6) (nobehind _ (by decide) (by decide))))) (fun _ _ _ _ _ => (de_nmS 15)))) da_nil)) da_nil)))))
      (db_cons (ds_if (dt_cmp op_gt_d (de_callB c_len (by rfl) T.n_len (by decide +kernel) (da_cons (de_ix (ix_d (u1 hr)) (de_nmS 0) (de_nmS 6) (fun _ _ => rfl)) da_nil)) de_int (nobehind _ (by decide) (by decide))) (db_one ds_break) db_nil)
      (db_one (ds_asg (df_of (de_nmS 7)) (dg_tup rfl (dgs_cons (dg_nm Sc.nd rfl (.inl rfl)) (dgs_cons (dg_nm Sc.nd rfl (.inl rfl)) dgs_nil)) (glenS (glenS glen0))))))))))
      (db_cons (ds_set Sc.nd rfl (.inl rfl) (df_of (de_tup (da_cons (de_slice (de_ix (ix_d (u1 hr)) (de_nmS 0) (de_nmS 6) (fun _ _ => rfl)) do_none (do_some de_int)) (da_cons (de_slice (de_ix (ix_d (u1 hr)) (de_nmS 0) (de_nmS 6) (fun _ _ => rfl)) (do_some de_int) do_none) da_nil)))))
      (db_cons (ds_asg (df_of (de_fresh (df_lc (own := [("part", 10)]) (scope := cs_clock_from_3) (c := ⟨true, (gnm 10), yes, (bin true (bin true (slc true (nmS 0) prt0 (prt (nmS 6))) (app (argsC true (nmS 10) args0) tupD) addD) (slc true (nmS 0) (prt (bin true (nmS 6) (cst (.int 1)) addD)) prt0) addD), true, [10]⟩) (by rfl) Sc.nd (di_seq (de_nmS 4)) (blkOk_by (own := [("part", 10)]) (N := ["box", "sellers", "takers", "others", "parts", "games", "due", "left", "low_box", "high_box", "part", "low", "high", "going", "some", "one"]) (sc := defScope s_clock_from) (scope := cs_clock_from_3) (by decide +kernel)) rfl rfl rfl (memW rfl) (fun _ _ _ _ _ => (dg_nm Sc.nd rfl (.inl rfl))) (fun _ _ _ _ _ => dts_nil) (fun _ _ _ _ _ => (de_op op_add_d (de_op op_add_d (de_slice (de_nmS 0) do_none (do_some (de_nmS 6))) (de_tup (da_cons (de_nmS 10) da_nil))) (de_slice (de_nmS 0) (do_some (de_op op_add_d (de_nmS 6) de_int)) do_none)))))) (dg_seq rfl (dgs_cons (dg_nm Sc.nd rfl (.inl rfl)) (dgs_cons (dg_nm Sc.nd rfl (.inl rfl)) dgs_nil)) (glenS (glenS glen0))))
      (db_cons (ds_set Sc.nd rfl (.inl rfl) (df_of (de_tup (da_cons (de_fresh (df_callS (ms := [none, none, none, none]) (js := nones 4) ih (rm hr) (by rfl) T.g_clock_from T.F_clock_from.kp T.b_clock_from (dc_all 4 (da_cons (de_nmS 8) (da_cons (de_nmS 1) (da_star (de_nmS 7) da_nil)))))) (da_cons (de_fresh (df_call (ms := [none, none, none, none]) ih (rm hr) (by rfl) T.g_clock_from T.F_clock_from.kp T.b_clock_from (dc_cons (de_nmS 9) (dc_cons (de_nmS 1) (dc_cons (de_nmS 2) (dc_cons (de_nmS 3) dc_nil)))))) da_nil)))))
      (db_one (ds_ret (df_of (de_tup (da_cons de_str (da_cons (de_nmS 6) (da_cons (de_nmS 4) (da_cons (de_nmS 5) da_nil))))))))))))) (fun _ _ h => h) (ioW (by rfl))

/-! ### double_clock -/
abbrev s_double_clock : Stmt := topS 6
theorem sc_double_clock : FnScope ["trading"] ["trading"] (defScope s_double_clock) := ⟨rfl, rfl, rfl, by decide +kernel, rfl, by decide +kernel, by decide +kernel⟩
def sf_double_clock : SF :=
    (retS (callF [none, none, none, none] [none, none, none, none] [] (phi_clock_from RF) (argsC true (bin true (nmS 0) (cst (.int 0)) idxD) (argsC true (bin true (nmS 0) (cst (.int 1)) idxD) (argsC true (fst' (callF [none] [none] [] phi_takers_of (argsC true (nmS 0) args0))) (argsC true (bin true (nmS 0) (cst (.int 1)) idxD) args0))))))
def phi_double_clock : FnD := runF [none] 1 sf_double_clock
theorem ok_double_clock {k : Nat} (T : Tp K mg) (c_clock_from : FnOk P w K mg base CX0 k T.a_clock_from T.d_clock_from ["box", "sellers", "takers", "others"] (spD K [none, none, none, none] (phi_clock_from RF))) (c_takers_of : FnOk P w K mg base CX0 k T.a_takers_of T.d_takers_of ["trading"] (spD K [none] phi_takers_of)) : FnOk P w K mg base CX0 (k + 1) T.a_double_clock T.d_double_clock ["trading"] (spD K [none] phi_double_clock) :=
  fn_d (fb := sf_double_clock) T.F_double_clock sc_double_clock rfl (posW rfl) (fun cdv A outer s H E hr => have Sc := sc_double_clock;
    (db_one (ds_ret (df_call (ms := [none, none, none, none]) c_clock_from (rm hr) (by rfl) T.g_clock_from T.F_clock_from.kp T.b_clock_from (dc_cons (de_ix (ix_d (u1 hr)) (de_nmS 0) de_int (fun _ _ => rfl)) (dc_cons (de_ix (ix_d (u1 hr)) (de_nmS 0) de_int (fun _ _ => rfl)) (dc_cons (de_fresh (df_call (ms := [none]) c_takers_of (rm hr) (by rfl) T.g_takers_of T.F_takers_of.kp T.b_takers_of (dc_cons (de_nmS 0) dc_nil))) (dc_cons (de_ix (ix_d (u1 hr)) (de_nmS 0) de_int (fun _ _ => rfl)) dc_nil)))))))) (fun _ _ h => h) (ioW (by rfl))

/-! ### _law_draw -/
abbrev s_law_draw : Stmt := topS 8
theorem sc_law_draw : FnScope ["script", "salt", "cells", "blend", "cell"] ["script", "salt"] (defScope s_law_draw) := ⟨rfl, rfl, rfl, by decide +kernel, rfl, by decide +kernel, by decide +kernel⟩
abbrev cs_law_draw_0 : Scope := { kind := PySem.ScopeKind.function, names := [ (PySem.Str.ofString ".0", PySem.NameKind.local), (PySem.Str.ofString "cell", PySem.NameKind.local), (PySem.Str.ofString "abs", PySem.NameKind.globalImplicit), (PySem.Str.ofString "int", PySem.NameKind.globalImplicit)], isGenerator := false, isCoroutine := false, more := [] : PySem.Scope }
abbrev cs_law_draw_1 : Scope := { kind := PySem.ScopeKind.function, names := [(PySem.Str.ofString ".0", PySem.NameKind.local), (PySem.Str.ofString "cell", PySem.NameKind.local)], isGenerator := false, isCoroutine := false, more := [] : PySem.Scope }
def b_law_draw_0 : SF :=
    (setS 3 (frF [] (bin true (app (argsC true (bin true (bin true (bin true (nmS 3) (cst (.int 48271)) mulD) (bin true (nmS 4) (cst (.int 2147483549)) modD) addD) (cst (.int 11)) addD) args0) (one intD)) (cst (.int 2147483647)) modD)))
def k_law_draw_1 : SF :=
    (retS (lstF 1 (dispM (consM (fitM 1 (nwF [] (fun env => ((fst' (compF true (walk (nm 2)) ⟨false, (gnm 4), (tst (bin true (nmS 4) (bin true (cst (.int 10)) (cst (.int 18)) powD) geD)), (nmS 4), true, [4]⟩)) env).map fun q => ([q.1], q.2)) (fun ds => match ds with | [d] => (asL d).map List.reverse | _ => none))) (consM (fitM 1 (frF [] (nmS 3))) args0)))))
def k_law_draw_2 : SF :=
    (seqS (forS false true (walk (nm 2)) (gnm 4) b_law_draw_0) k_law_draw_1)
def k_law_draw_3 : SF :=
    (seqS (setS 3 (frF [] (bin true (cst (.int 7919)) (bin true (cst (.int 104729)) (nmS 1) mulD) addD))) k_law_draw_2)
def sf_law_draw : SF :=
    (seqS (setS 2 (compF true (walk (slc true (nmS 0) prt0 (prt (cst (.int 48))))) ⟨true, (gnm 4), yes, (app (argsC true (app (argsC true (nmS 4) args0) (one intD)) args0) (one absD)), true, [4]⟩)) k_law_draw_3)
def phi_law_draw : FnD := runF [none, none] 5 sf_law_draw
theorem ok_law_draw {k : Nat} (T : Tp K mg) : FnOk P w K mg base CX0 (k + 1) T.a_law_draw T.d_law_draw ["script", "salt"] (spD K [none, none] phi_law_draw) :=
  fn_d (fb := sf_law_draw) T.F_law_draw sc_law_draw rfl (posW rfl) (fun cdv A outer s H E hr => have Sc := sc_law_draw;
    (db_cons (ds_setLc (own := [("cell", 4)]) (scope := cs_law_draw_0) (c := ⟨true, (gnm 4), yes, (app (argsC true (app (argsC true (nmS 4) args0) (one intD)) args0) (one absD)), true, [4]⟩) (by rfl) Sc.nd (di_seq (de_slice (de_nmS 0) do_none (do_some de_int))) (blkOk_by (own := [("cell", 4)]) (N := ["script", "salt", "cells", "blend", "cell"]) (sc := defScope s_law_draw) (scope := cs_law_draw_0) (by decide +kernel)) rfl rfl rfl (memW rfl) (fun _ _ _ _ _ => (dg_nm Sc.nd rfl (.inl rfl))) (fun _ _ _ _ _ => dts_nil) (fun _ _ _ _ _ => (de_callB c_abs (by rfl) T.n_abs (by decide +kernel) (da_cons (de_callTy c_int (by rfl) T.n_int (by decide +kernel) (da_cons (de_nmS 4) da_nil)) da_nil))))
      (db_cons (ds_set Sc.nd rfl (.inl rfl) (df_of (de_op op_add_d de_int (de_op op_mul_d de_int (de_nmS 1)))))
      (db_cons (ds_forP (di_seq (de_nm 2)) (dg_nm Sc.nd rfl (.inl rfl)) (db_one (ds_set Sc.nd rfl (.inl rfl) (df_of (de_op op_mod_d (de_callTy c_int (by rfl) T.n_int (by decide +kernel) (da_cons (de_op op_add_d (de_op op_add_d (de_op op_mul_d (de_nmS 3) de_int) (de_op op_mod_d (de_nmS 4) de_int)) de_int) da_nil)) de_int)))))
      (db_one (ds_ret (df_ofL (k := 1) (dl_disp ownR (dar_cons ownR (dr_of (k := 1) (df_rev (de_fresh (df_lc (own := [("cell", 4)]) (scope := cs_law_draw_1) (c := ⟨false, (gnm 4), (tst (bin true (nmS 4) (bin true (cst (.int 10)) (cst (.int 18)) powD) geD)), (nmS 4), true, [4]⟩) (by rfl) Sc.nd (di_seq (de_nm 2)) (blkOk_by (own := [("cell", 4)]) (N := ["script", "salt", "cells", "blend", "cell"]) (sc := defScope s_law_draw) (scope := cs_law_draw_1) (by decide +kernel)) rfl rfl rfl (memW rfl) (fun _ _ _ _ _ => (dg_nm Sc.nd rfl (.inl rfl))) (fun _ _ _ _ _ => (dts_one (dt_cmp op_ge_d (de_nmS 4) (de_op op_pow_d de_int de_int) (nobehind _ (by decide) (by decide))))) (fun _ _ _ _ _ => (de_nmS 4)))))) (dar_cons ownR (dr_of (k := 1) (df_of (de_nmS 3))) dar_nil)))))))))) (fun _ _ h => h) (ioW (by rfl))

/-! ### _law_any -/
abbrev s_law_any : Stmt := topS 9
theorem sc_law_any : FnScope ["deal", "bound", "rest"] ["deal", "bound"] (defScope s_law_any) := ⟨rfl, rfl, rfl, by decide +kernel, rfl, by decide +kernel, by decide +kernel⟩
def b_law_any_0 : SF :=
    (exprS (fst' (popP 0 (pix 0 (pnm 0) (cst (.int 0))))))
def k_law_any_1 : SF :=
    (retS (frF [] (bin true (nmS 2) (nmS 1) modD)))
def k_law_any_2 : SF :=
    (seqS (exprS (appP 0 (pix 0 (pnm 0) (cst (.int 0))) (frF [] (bin true (nmS 2) (nmS 1) fdivD)))) k_law_any_1)
def k_law_any_3 : SF :=
    (retS (frF [0] (bin true (app (argsC true (bin true (bin true (nm 0) (cst (.int 1)) idxD) (cst (.int 64)) fdivD) args0) (one intD)) (nmS 1) modD)))
def k_law_any_4 : SF :=
    (seqS (storeS 0 (frF [0] (bin true (app (argsC true (bin true (bin true (bin true (nm 0) (cst (.int 1)) idxD) (cst (.int 40693)) mulD) (cst (.int 71)) addD) args0) (one intD)) (cst (.int 2147483647)) modD)) (pnm 0) (cst (.int 1))) k_law_any_3)
def k_law_any_5 : SF :=
    (seqS (ifS (tst (bin true (bin true (nm 0) (cst (.int 0)) idxD) (fst' (frN [] 1 args0 lstD)) neD)) (seqS (setS 2 (frF [] (app (argsC true (fst' (popP 0 (pix 0 (pnm 0) (cst (.int 0))))) args0) (one intD)))) k_law_any_2) nxt) k_law_any_4)
def sf_law_any : SF :=
    (seqS (whD (andB (tst (bin true (bin true (nm 0) (cst (.int 0)) idxD) (fst' (frN [] 1 args0 lstD)) neD)) (tst (bin true (bin true (bin true (nm 0) (cst (.int 0)) idxD) (una (cst (.int 1)) negD) idxD) (cst (.int 0)) eqD))) b_law_any_0 WF) k_law_any_5)
def phi_law_any : FnD := runF [some 2, none] 3 sf_law_any
theorem ok_law_any {k : Nat} (T : Tp K mg) : FnOk P w K mg base CX0 (k + 1) T.a_law_any T.d_law_any ["deal", "bound"] (spD K [some 2, none] phi_law_any) :=
  fn_d (fb := sf_law_any) T.F_law_any sc_law_any rfl (posW rfl) (fun cdv A outer s H E hr => have Sc := sc_law_any;
    (db_cons (ds_whileP (dt_bo (dw_and (dt_cmp (op_ne_d (u64 hr)) (de_ix (ix_d (u1 hr)) (de_nm 0) de_int (fun _ _ => rfl)) (de_fresh (df_lst da_nil)) (nobehind _ (by decide) (by decide))) (dw_and1 (dt_cmp (op_eq_d (u64 hr)) (de_ix (ix_d (u1 hr)) (de_ix (ix_d (u1 hr)) (de_nm 0) de_int (fun _ _ => rfl)) (de_un un_neg_d de_int) (fun _ _ => rfl)) de_int (nobehind _ (by decide) (by decide)))))) (db_one (ds_expr (de_fresh (df_pop (dp_ix (u1 hr) (dp_nm 0) de_int (fun _ _ => rfl)))))))
      (db_cons (ds_if (dt_cmp (op_ne_d (u64 hr)) (de_ix (ix_d (u1 hr)) (de_nm 0) de_int (fun _ _ => rfl)) (de_fresh (df_lst da_nil)) (nobehind _ (by decide) (by decide))) (db_cons (ds_set Sc.nd rfl (.inl rfl) (df_of (de_callTy c_int (by rfl) T.n_int (by decide +kernel) (da_cons (de_fresh (df_pop (dp_ix (u1 hr) (dp_nm 0) de_int (fun _ _ => rfl)))) da_nil))))
      (db_cons (ds_expr (de_appendP (dp_ix (u1 hr) (dp_nm 0) de_int (fun _ _ => rfl)) (df_of (de_op op_fdiv_d (de_nmS 2) (de_nmS 1)))))
      (db_one (ds_ret (df_of (de_op op_mod_d (de_nmS 2) (de_nmS 1))))))) db_nil)
      (db_cons (ds_store (u1 hr) (df_of (de_op op_mod_d (de_callTy c_int (by rfl) T.n_int (by decide +kernel) (da_cons (de_op op_add_d (de_op op_mul_d (de_ix (ix_d (u1 hr)) (de_nm 0) de_int (fun _ _ => rfl)) de_int) de_int) da_nil)) de_int)) (dp_nm 0) de_int)
      (db_one (ds_ret (df_of (de_op op_mod_d (de_callTy c_int (by rfl) T.n_int (by decide +kernel) (da_cons (de_op op_fdiv_d (de_ix (ix_d (u1 hr)) (de_nm 0) de_int (fun _ _ => rfl)) de_int) da_nil)) (de_nmS 1))))))))) (fun _ _ h => h) (ioW (by rfl))

/-! ### _law_of -/
abbrev s_law_of : Stmt := topS 10
theorem sc_law_of : FnScope ["deal", "some"] ["deal", "some"] (defScope s_law_of) := ⟨rfl, rfl, rfl, by decide +kernel, rfl, by decide +kernel, by decide +kernel⟩
def sf_law_of : SF :=
    (retS (frF [] (bin true (nmS 1) (fst' (callF [some 2, none] [some 0, none] [] phi_law_any (ioA 0 (argsC true (app (argsC true (nmS 1) args0) (one lenD)) args0)))) idxD)))
def phi_law_of : FnD := runF [some 2, none] 2 sf_law_of
theorem ok_law_of {k : Nat} (T : Tp K mg) (c_law_any : FnOk P w K mg base CX0 k T.a_law_any T.d_law_any ["deal", "bound"] (spD K [some 2, none] phi_law_any)) : FnOk P w K mg base CX0 (k + 1) T.a_law_of T.d_law_of ["deal", "some"] (spD K [some 2, none] phi_law_of) :=
  fn_d (fb := sf_law_of) T.F_law_of sc_law_of rfl (posW rfl) (fun cdv A outer s H E hr => have Sc := sc_law_of;
    (db_one (ds_ret (df_of (de_ix (ix_d (u1 hr)) (de_nmS 1) (de_fresh (df_call (ms := [some 2, none]) c_law_any (rm hr) (by rfl) T.g_law_any T.F_law_any.kp T.b_law_any (dc_io 0 rfl (by first | exact Or.inl rfl | exact Or.inr (Or.inl rfl) | exact Or.inr (Or.inr rfl)) (dc_cons (de_callB c_len (by rfl) T.n_len (by decide +kernel) (da_cons (de_nmS 1) da_nil)) dc_nil)))) (fun _ _ => rfl)))))) (fun _ _ h => h) (ioW (by rfl))

/-! ### _law_mixed -/
abbrev s_law_mixed : Stmt := topS 11
theorem sc_law_mixed : FnScope ["deal", "some", "left", "found"] ["deal", "some"] (defScope s_law_mixed) := ⟨rfl, rfl, rfl, by decide +kernel, rfl, by decide +kernel, by decide +kernel⟩
def b_law_mixed_0 : SF :=
    (exprS (appP 3 (pnm 3) (popPI 2 (pnm 2) (fst' (callF [some 2, none] [some 0, none] [2] phi_law_any (ioA 0 (argsC true (app (argsC true (nm 2) args0) (one lenD)) args0)))))))
def k_law_mixed_1 : SF :=
    (retS (mvF 3))
def k_law_mixed_2 : SF :=
    (seqS (whD (tst (bin true (nm 2) (fst' (frN [] 1 args0 lstD)) neD)) b_law_mixed_0 WF) k_law_mixed_1)
def sf_law_mixed : SF :=
    (seqS (setS2 2 3 (nwF [] (argsC true (nmS 1) args0) (seq1 some)) (frN [] 1 args0 lstD)) k_law_mixed_2)
def phi_law_mixed : FnD := runF [some 2, none] 4 sf_law_mixed
theorem ok_law_mixed {k : Nat} (T : Tp K mg) (c_law_any : FnOk P w K mg base CX0 k T.a_law_any T.d_law_any ["deal", "bound"] (spD K [some 2, none] phi_law_any)) : FnOk P w K mg base CX0 (k + 1) T.a_law_mixed T.d_law_mixed ["deal", "some"] (spD K [some 2, none] phi_law_mixed) :=
  fn_d (fb := sf_law_mixed) T.F_law_mixed sc_law_mixed rfl (posW rfl) (fun cdv A outer s H E hr => have Sc := sc_law_mixed;
    (db_cons (ds_par rfl Sc.nd rfl rfl (by decide) rfl rfl (df_callTy c_list (by rfl) T.n_list (by decide +kernel) (da_cons (de_nmS 1) da_nil)) (df_lst da_nil) rfl)
      (db_cons (ds_whileP (dt_cmp (op_ne_d (u64 hr)) (de_nm 2) (de_fresh (df_lst da_nil)) (nobehind _ (by decide) (by decide))) (db_one (ds_expr (de_appendP (dp_nm 3) (df_popI (dp_nm 2) (de_fresh (df_call (ms := [some 2, none]) c_law_any (rm hr) (by rfl) T.g_law_any T.F_law_any.kp T.b_law_any (dc_io 0 rfl (by first | exact Or.inl rfl | exact Or.inr (Or.inl rfl) | exact Or.inr (Or.inr rfl)) (dc_cons (de_callB c_len (by rfl) T.n_len (by decide +kernel) (da_cons (de_nm 2) da_nil)) dc_nil)))))))))
      (db_one (ds_ret (df_mv 3)))))) (fun _ _ h => h) (ioW (by rfl))

/-! ### _law_same -/
abbrev s_law_same : Stmt := topS 12
theorem sc_law_same : FnScope ["value", "due", "one", "other"] ["value", "due"] (defScope s_law_same) := ⟨rfl, rfl, rfl, by decide +kernel, rfl, by decide +kernel, by decide +kernel⟩
abbrev cs_law_same_0 : Scope := { kind := PySem.ScopeKind.function, names := [ (PySem.Str.ofString ".0", PySem.NameKind.local), (PySem.Str.ofString "one", PySem.NameKind.local), (PySem.Str.ofString "other", PySem.NameKind.local), (PySem.Str.ofString "_law_same", PySem.NameKind.globalImplicit)], isGenerator := false, isCoroutine := false, more := [] : PySem.Scope }
def k_law_same_0 (phi : FnD) : SF :=
    (retS (frF [] (bin true (fst' (compF true (wk (argsC true (nmS 0) (argsC true (nmS 1) args0)) zip2) ⟨true, (gtup (gcons (gnm 2) (gcons (gnm 3) gnil))), (notB (tst (fst' (callF [none, none] [none, none] [] phi (argsC true (nmS 2) (argsC true (nmS 3) args0)))))), (cst (.int 0)), true, [2, 3]⟩)) (fst' (frN [] 1 args0 lstD)) eqD)))
def k_law_same_1 (phi : FnD) : SF :=
    (retS (frF [] (andV (una (nmS 0) (isiD "str")) (bin true (nmS 0) (nmS 1) eqD))))
def k_law_same_2 (phi : FnD) : SF :=
    (seqS (ifS (tst (una (nmS 1) (isiD "int"))) (retS (frF [] (andV (una (nmS 0) (isiD "int")) (andV (una (una (nmS 0) (isiD "bool")) notD) (bin true (nmS 0) (nmS 1) eqD))))) nxt) (k_law_same_1 phi))
def k_law_same_3 (phi : FnD) : SF :=
    (seqS (ifS (tst (bin true (nmS 1) (cst (.bl false)) isD)) (retS (frF [] (bin true (nmS 0) (cst (.bl false)) isD))) nxt) (k_law_same_2 phi))
def k_law_same_4 (phi : FnD) : SF :=
    (seqS (ifS (tst (bin true (nmS 1) (cst (.bl true)) isD)) (retS (frF [] (bin true (nmS 0) (cst (.bl true)) isD))) nxt) (k_law_same_3 phi))
def k_law_same_5 (phi : FnD) : SF :=
    (seqS (ifS (tst (bin true (nmS 1) (cst .non) isD)) (retS (frF [] (bin true (nmS 0) (cst .non) isD))) nxt) (k_law_same_4 phi))
def sf_law_same (phi : FnD) : SF :=
    (seqS (ifS (tst (una (nmS 1) (isiD "tuple"))) (seqS (ifS (orB (notB (tst (una (nmS 0) (isiD "tuple")))) (tst (bin true (app (argsC true (nmS 0) args0) (one lenD)) (app (argsC true (nmS 1) args0) (one lenD)) neD))) (retS (frF [] (cst (.bl false)))) nxt) (k_law_same_0 phi)) nxt) (k_law_same_5 phi))
def phi_law_same : Nat → FnD
  | 0 => fun _ => none
  | n + 1 => runF [none, none] 4 (sf_law_same (phi_law_same n))
theorem st_law_same {k : Nat} (T : Tp K mg) (phi : FnD) (ih : FnOk P w K mg base CX0 k T.a_law_same T.d_law_same ["value", "due"] (spD K [none, none] phi)) : FnOk P w K mg base CX0 (k + 1) T.a_law_same T.d_law_same ["value", "due"] (spD K [none, none] (runF [none, none] 4 (sf_law_same phi))) :=
  fn_d (fb := sf_law_same phi) T.F_law_same sc_law_same rfl (posW rfl) (fun cdv A outer s H E hr => have Sc := sc_law_same;
    (db_cons (ds_if (dt_val (de_isi (T := "tuple") (.inr (.inr (.inr (.inl rfl)))) (by rfl) T.n_isinstance (by rfl) T.n_tuple (by decide +kernel) (de_nmS 1))) (db_cons (ds_if (dt_bo (dw_or (dt_not (dt_val (de_isi (T := "tuple") (.inr (.inr (.inr (.inl rfl)))) (by rfl) T.n_isinstance (by rfl) T.n_tuple (by decide +kernel) (de_nmS 0)))) (dw_or1 (dt_cmp (op_ne_d (u64 hr)) (de_callB c_len (by rfl) T.n_len (by decide +kernel) (da_cons (de_nmS 0) da_nil)) (de_callB c_len (by rfl) T.n_len (by decide +kernel) (da_cons (de_nmS 1) da_nil)) (nobehind _ (by decide) (by decide)))))) (db_one (ds_ret (df_of de_bl))) db_nil)
      (db_one (ds_ret (df_of (de_cmp (op_eq_d (u64 hr)) (de_fresh (df_lc (own := [("one", 2), ("other", 3)]) (scope := cs_law_same_0) (c := ⟨true, (gtup (gcons (gnm 2) (gcons (gnm 3) gnil))), (notB (tst (fst' (callF [none, none] [none, none] [] phi (argsC true (nmS 2) (argsC true (nmS 3) args0)))))), (cst (.int 0)), true, [2, 3]⟩) (by rfl) Sc.nd (di_zip (by rfl) T.n_zip (da_cons (de_nmS 0) (da_cons (de_nmS 1) da_nil))) (blkOk_by (own := [("one", 2), ("other", 3)]) (N := ["value", "due", "one", "other"]) (sc := defScope s_law_same) (scope := cs_law_same_0) (by decide +kernel)) rfl rfl rfl (memW rfl) (fun _ _ _ _ _ => (dg_tup rfl (dgs_cons (dg_nm Sc.nd rfl (.inl rfl)) (dgs_cons (dg_nm Sc.nd rfl (.inl rfl)) dgs_nil)) (glenS (glenS glen0)))) (fun _ _ _ _ _ => (dts_one (dt_not (dt_val (de_fresh (df_call (ms := [none, none]) ih (rm hr) (by rfl) T.g_law_same T.F_law_same.kp T.b_law_same (dc_cons (de_nmS 2) (dc_cons (de_nmS 3) dc_nil)))))))) (fun _ _ _ _ _ => de_int))) (de_fresh (df_lst da_nil)) (nobehind _ (by decide) (by decide))))))) db_nil)
      (db_cons (ds_if (dt_cmp op_is_d (de_nmS 1) de_non (nobehind _ (by decide) (by decide))) (db_one (ds_ret (df_of (de_cmp op_is_d (de_nmS 0) de_non (nobehind _ (by decide) (by decide)))))) db_nil)
      (db_cons (ds_if (dt_cmp op_is_d (de_nmS 1) de_bl (nobehind _ (by decide) (by decide))) (db_one (ds_ret (df_of (de_cmp op_is_d (de_nmS 0) de_bl (nobehind _ (by decide) (by decide)))))) db_nil)
      (db_cons (ds_if (dt_cmp op_is_d (de_nmS 1) de_bl (nobehind _ (by decide) (by decide))) (db_one (ds_ret (df_of (de_cmp op_is_d (de_nmS 0) de_bl (nobehind _ (by decide) (by decide)))))) db_nil)
      (db_cons (ds_if (dt_val (de_isi (T := "int") (.inl rfl) (by rfl) T.n_isinstance (by rfl) T.n_int (by decide +kernel) (de_nmS 1))) (db_one (ds_ret (df_of (de_and (de_isi (T := "int") (.inl rfl) (by rfl) T.n_isinstance (by rfl) T.n_int (by decide +kernel) (de_nmS 0)) (de_and (de_not (de_isi (T := "bool") (.inr (.inl rfl)) (by rfl) T.n_isinstance (by rfl) T.n_bool (by decide +kernel) (de_nmS 0))) (de_one (de_cmp (op_eq_d (u64 hr)) (de_nmS 0) (de_nmS 1) (nobehind _ (by decide) (by decide))))))))) db_nil)
      (db_one (ds_ret (df_of (de_and (de_isi (T := "str") (.inr (.inr (.inl rfl))) (by rfl) T.n_isinstance (by rfl) T.n_str (by decide +kernel) (de_nmS 0)) (de_one (de_cmp (op_eq_d (u64 hr)) (de_nmS 0) (de_nmS 1) (nobehind _ (by decide) (by decide)))))))))))))) (fun _ _ h => h) (ioW (by rfl))

/-! ### _law_parted -/
abbrev s_law_parted : Stmt := topS 13
theorem sc_law_parted : FnScope ["box", "buyer"] ["box", "buyer"] (defScope s_law_parted) := ⟨rfl, rfl, rfl, by decide +kernel, rfl, by decide +kernel, by decide +kernel⟩
def sf_law_parted : SF :=
    (retS (frF [] (app (argsC true (bin true (bin true (slc true (nmS 0) prt0 (prt (nmS 1))) (app (argsC true (slc true (bin true (nmS 0) (nmS 1) idxD) prt0 (prt (cst (.int 1)))) args0) tupD) addD) (slc true (nmS 0) (prt (bin true (nmS 1) (cst (.int 1)) addD)) prt0) addD) (argsC true (bin true (bin true (slc true (nmS 0) prt0 (prt (nmS 1))) (app (argsC true (slc true (bin true (nmS 0) (nmS 1) idxD) (prt (cst (.int 1))) prt0) args0) tupD) addD) (slc true (nmS 0) (prt (bin true (nmS 1) (cst (.int 1)) addD)) prt0) addD) args0)) tupD)))
def phi_law_parted : FnD := runF [none, none] 2 sf_law_parted
theorem ok_law_parted {k : Nat} (T : Tp K mg) : FnOk P w K mg base CX0 (k + 1) T.a_law_parted T.d_law_parted ["box", "buyer"] (spD K [none, none] phi_law_parted) :=
  fn_d (fb := sf_law_parted) T.F_law_parted sc_law_parted rfl (posW rfl) (fun cdv A outer s H E hr => have Sc := sc_law_parted;
    (db_one (ds_ret (df_of (de_tup (da_cons (de_op op_add_d (de_op op_add_d (de_slice (de_nmS 0) do_none (do_some (de_nmS 1))) (de_tup (da_cons (de_slice (de_ix (ix_d (u1 hr)) (de_nmS 0) (de_nmS 1) (fun _ _ => rfl)) do_none (do_some de_int)) da_nil))) (de_slice (de_nmS 0) (do_some (de_op op_add_d (de_nmS 1) de_int)) do_none)) (da_cons (de_op op_add_d (de_op op_add_d (de_slice (de_nmS 0) do_none (do_some (de_nmS 1))) (de_tup (da_cons (de_slice (de_ix (ix_d (u1 hr)) (de_nmS 0) (de_nmS 1) (fun _ _ => rfl)) (do_some de_int) do_none) da_nil))) (de_slice (de_nmS 0) (do_some (de_op op_add_d (de_nmS 1) de_int)) do_none)) da_nil))))))) (fun _ _ h => h) (ioW (by rfl))

/-! ### _law_values -/
abbrev s_law_values : Stmt := topS 14
theorem sc_law_values : FnScope ["deal", "many", "most", "found", "turn", "value"] ["deal", "many", "most"] (defScope s_law_values) := ⟨rfl, rfl, rfl, by decide +kernel, rfl, by decide +kernel, by decide +kernel⟩
def b_law_values_0 : SF :=
    (ifS (tst (bin true (app (argsC true (nm 3) args0) (one lenD)) (nmS 1) ltD)) (storeS 3 (frF [] (cst (.bl true))) (pnm 3) (fst' (callF [some 2, none] [some 0, none] [] phi_law_any (ioA 0 (argsC true (bin true (nmS 2) (cst (.int 1)) addD) args0))))) nxt)
def b_law_values_1 : SF :=
    (ifS (tst (bin true (app (argsC true (nm 3) args0) (one lenD)) (nmS 1) ltD)) (storeS 3 (frF [] (cst (.bl true))) (pnm 3) (nmS 5)) nxt)
def k_law_values_2 : SF :=
    (retS (frF [] (app (argsC true (slc true (fst' (sortDkF (nm 3))) prt0 (prt (nmS 1))) args0) (one tupleD))))
def k_law_values_3 : SF :=
    (seqS (forS true true (wk (argsC true (nmS 1) args0) rng1) (gnm 5) b_law_values_1) k_law_values_2)
def k_law_values_4 : SF :=
    (seqS (forS true true (wk (argsC true (bin true (cst (.int 3)) (nmS 1) mulD) args0) rng1) (gnm 4) b_law_values_0) k_law_values_3)
def sf_law_values : SF :=
    (seqS (setS 3 (freshC (.dct 0 []) 1)) k_law_values_4)
def phi_law_values : FnD := runF [some 2, none, none] 6 sf_law_values
theorem ok_law_values {k : Nat} (T : Tp K mg) (c_law_any : FnOk P w K mg base CX0 k T.a_law_any T.d_law_any ["deal", "bound"] (spD K [some 2, none] phi_law_any)) : FnOk P w K mg base CX0 (k + 1) T.a_law_values T.d_law_values ["deal", "many", "most"] (spD K [some 2, none, none] phi_law_values) :=
  fn_d (fb := sf_law_values) T.F_law_values sc_law_values rfl (posW rfl) (fun cdv A outer s H E hr => have Sc := sc_law_values;
    (db_cons (ds_set Sc.nd rfl (.inl rfl) (df_dict0K 0 rfl (by rfl) T.n_dict))
      (db_cons (ds_forP (di_range1 (by rfl) T.n_range (da_cons (de_op op_mul_d de_int (de_nmS 1)) da_nil)) (dg_nm Sc.nd rfl (.inl rfl)) (db_one (ds_if (dt_cmp op_lt_d (de_callB c_len (by rfl) T.n_len (by decide +kernel) (da_cons (de_nm 3) da_nil)) (de_nmS 1) (nobehind _ (by decide) (by decide))) (db_one (ds_store (u1 hr) (df_of de_bl) (dp_nm 3) (de_fresh (df_call (ms := [some 2, none]) c_law_any (rm hr) (by rfl) T.g_law_any T.F_law_any.kp T.b_law_any (dc_io 0 rfl (by first | exact Or.inl rfl | exact Or.inr (Or.inl rfl) | exact Or.inr (Or.inr rfl)) (dc_cons (de_op op_add_d (de_nmS 2) de_int) dc_nil)))))) db_nil)))
      (db_cons (ds_forP (di_range1 (by rfl) T.n_range (da_cons (de_nmS 1) da_nil)) (dg_nm Sc.nd rfl (.inl rfl)) (db_one (ds_if (dt_cmp op_lt_d (de_callB c_len (by rfl) T.n_len (by decide +kernel) (da_cons (de_nm 3) da_nil)) (de_nmS 1) (nobehind _ (by decide) (by decide))) (db_one (ds_store (u1 hr) (df_of de_bl) (dp_nm 3) (de_nmS 5))) db_nil)))
      (db_one (ds_ret (df_of (de_callTy c_tuple (by rfl) T.n_tuple (by decide +kernel) (da_cons (de_slice (de_fresh (df_sortedDk rfl (u70 hr) (by rfl) T.n_sorted (de_nm 3))) do_none (do_some (de_nmS 1))) da_nil))))))))) (fun _ _ h => h) (ioW (by rfl))

/-! ### _law_trading -/
abbrev s_law_trading : Stmt := topS 15
theorem sc_law_trading : FnScope ["deal", "buyers", "levels", "most", "order", "cut", "turn", "buyer", "many", "high", "sizes", "ladders", "one", "values", "at", "count"] ["deal", "buyers", "levels", "most"] (defScope s_law_trading) := ⟨rfl, rfl, rfl, by decide +kernel, rfl, by decide +kernel, by decide +kernel⟩
abbrev cs_law_trading_0 : Scope := { kind := PySem.ScopeKind.function, names := [(PySem.Str.ofString ".0", PySem.NameKind.local), (PySem.Str.ofString "one", PySem.NameKind.local)], isGenerator := false, isCoroutine := false, more := [] : PySem.Scope }
def b_law_trading_0 : SF :=
    (setS 15 (frF [10, 14] (bin true (nmS 15) (bin true (bin true (nm 10) (nmS 12) idxD) (app (argsC true (bin true (nmS 12) (nm 14) eqD) args0) (one intD)) addD) mulD)))
def k_law_trading_1 : SF :=
    (ifS (andB (tst (bin true (bin true (nm 10) (nm 14) idxD) (nmS 2) ltD)) (tst (bin true (nmS 15) (nmS 3) leD))) (storeS 10 (frF [10, 14] (bin true (bin true (nm 10) (nm 14) idxD) (cst (.int 1)) addD)) (pnm 10) (nm 14)) nxt)
def k_law_trading_2 : SF :=
    (seqS (forS false true (wk (argsC true (nm 8) args0) rng1) (gnm 12) b_law_trading_0) k_law_trading_1)
def b_law_trading_3 : SF :=
    (seqS (setS2 14 15 (callF [some 2, none] [some 0, none] [8] phi_law_any (ioA 0 (argsC true (nm 8) args0))) (frF [] (cst (.int 1)))) k_law_trading_2)
def k_law_trading_4 : SF :=
    (exprS (appP 11 (pnm 11) (frF [13] (iteM (tst (bin true (nmS 7) (slc true (nm 4) prt0 (prt (nm 5))) inD)) (app (argsC true (fst' (compF true (walk (una (nm 13) revT)) ⟨false, (gnm 12), yes, (bin true (cst (.int 0)) (nmS 12) subD), true, [12]⟩)) args0) (one tupleD)) (nm 13)))))
def b_law_trading_5 : SF :=
    (seqS (setS 13 (callF [some 2, none, none] [some 0, none, none] [10, 9] phi_law_values (ioA 0 (argsC true (bin true (nm 10) (nmS 7) idxD) (argsC true (nm 9) args0))))) k_law_trading_4)
def k_law_trading_6 : SF :=
    (retS (frF [11] (app (argsC true (app (argsC true (nm 11) args0) (one tupleD)) (argsC true (app (argsC true (fst' (nwF [4] (argsC true (slc true (nm 4) prt0 (prt (nm 5))) args0) (seq1 sortD))) args0) (one tupleD)) args0)) tupD)))
def k_law_trading_7 : SF :=
    (seqS (forS false true (wk (argsC true (nm 8) args0) rng1) (gnm 7) b_law_trading_5) k_law_trading_6)
def k_law_trading_8 : SF :=
    (seqS (forS false true (wk (argsC true (bin true (cst (.int 8)) (nm 8) mulD) args0) rng1) (gnm 6) b_law_trading_3) k_law_trading_7)
def k_law_trading_9 : SF :=
    (seqS (setS2 10 11 (nwB true [8] (fst' (frN [] 1 (argsC true (cst (.int 1)) args0) lstD)) (nm 8) repL) (frN [] 1 args0 lstD)) k_law_trading_8)
def k_law_trading_10 : SF :=
    (seqS (setS 5 (callF [some 2, none] [some 0, none] [] phi_law_of (ioA 0 (argsC true (fst' (frN [8, 8, 8] 1 (argsC true (bin true (nm 8) (cst (.int 2)) fdivD) (argsC true (bin true (nm 8) (cst (.int 2)) fdivD) (argsC true (bin true (bin true (nm 8) (cst (.int 1)) addD) (cst (.int 2)) fdivD) (argsC true (fst' (callF [some 2, none] [some 0, none] [8] phi_law_any (ioA 0 (argsC true (bin true (nm 8) (cst (.int 1)) addD) args0)))) args0)))) lstD)) args0)))) k_law_trading_9)
def k_law_trading_11 : SF :=
    (seqS (setS 4 (callF [some 2, none] [some 0, none] [] phi_law_mixed (ioA 0 (argsC true (fst' (lstN (rg1 (nm 8)))) args0)))) k_law_trading_10)
def sf_law_trading : SF :=
    (seqS (setS2 8 9 (callF [some 2, none] [some 0, none] [] phi_law_of (ioA 0 (argsC true (fst' (frN [] 1 (argsC true (nmS 1) (argsC true (nmS 1) (argsC true (bin true (cst (.int 1)) (fst' (callF [some 2, none] [some 0, none] [] phi_law_any (ioA 0 (argsC true (nmS 1) args0)))) addD) args0))) lstD)) args0))) (callF [some 2, none] [some 0, none] [] phi_law_of (ioA 0 (argsC true (fst' (frN [] 1 (argsC true (cst (.int 7)) (argsC true (cst (.int 8)) (argsC true (cst (.int 12)) (argsC true (cst (.int 30)) (argsC true (cst (.int 1000)) (argsC true (bin true (cst (.int 3)) (bin true (cst (.int 10)) (cst (.int 11)) powD) mulD) args0)))))) lstD)) args0)))) k_law_trading_11)
def phi_law_trading : FnD := runF [some 2, none, none, none] 16 sf_law_trading
theorem ok_law_trading {k : Nat} (T : Tp K mg) (c_law_mixed : FnOk P w K mg base CX0 k T.a_law_mixed T.d_law_mixed ["deal", "some"] (spD K [some 2, none] phi_law_mixed)) (c_law_of : FnOk P w K mg base CX0 k T.a_law_of T.d_law_of ["deal", "some"] (spD K [some 2, none] phi_law_of)) (c_law_values : FnOk P w K mg base CX0 k T.a_law_values T.d_law_values ["deal", "many", "most"] (spD K [some 2, none, none] phi_law_values)) (c_law_any : FnOk P w K mg base CX0 k T.a_law_any T.d_law_any ["deal", "bound"] (spD K [some 2, none] phi_law_any)) : FnOk P w K mg base CX0 (k + 1) T.a_law_trading T.d_law_trading ["deal", "buyers", "levels", "most"] (spD K [some 2, none, none, none] phi_law_trading) :=
  fn_d (fb := sf_law_trading) T.F_law_trading sc_law_trading rfl (posW rfl) (fun cdv A outer s H E hr => have Sc := sc_law_trading;
    (db_cons (ds_par rfl Sc.nd rfl rfl (by decide) rfl rfl (df_call (ms := [some 2, none]) c_law_of (rm hr) (by rfl) T.g_law_of T.F_law_of.kp T.b_law_of (dc_io 0 rfl (by first | exact Or.inl rfl | exact Or.inr (Or.inl rfl) | exact Or.inr (Or.inr rfl)) (dc_cons (de_fresh (df_lst (da_cons (de_nmS 1) (da_cons (de_nmS 1) (da_cons (de_op op_add_d de_int (de_fresh (df_call (ms := [some 2, none]) c_law_any (rm hr) (by rfl) T.g_law_any T.F_law_any.kp T.b_law_any (dc_io 0 rfl (by first | exact Or.inl rfl | exact Or.inr (Or.inl rfl) | exact Or.inr (Or.inr rfl)) (dc_cons (de_nmS 1) dc_nil))))) da_nil))))) dc_nil))) (df_call (ms := [some 2, none]) c_law_of (rm hr) (by rfl) T.g_law_of T.F_law_of.kp T.b_law_of (dc_io 0 rfl (by first | exact Or.inl rfl | exact Or.inr (Or.inl rfl) | exact Or.inr (Or.inr rfl)) (dc_cons (de_fresh (df_lst (da_cons de_int (da_cons de_int (da_cons de_int (da_cons de_int (da_cons de_int (da_cons (de_op op_mul_d de_int (de_op op_pow_d de_int de_int)) da_nil)))))))) dc_nil))) rfl)
      (db_cons (ds_set Sc.nd rfl (.inl rfl) (df_call (ms := [some 2, none]) c_law_mixed (rm hr) (by rfl) T.g_law_mixed T.F_law_mixed.kp T.b_law_mixed (dc_io 0 rfl (by first | exact Or.inl rfl | exact Or.inr (Or.inl rfl) | exact Or.inr (Or.inr rfl)) (dc_cons (de_fresh (df_listRg rfl (by rfl) T.n_list (drg_1 (by rfl) T.n_range (de_nm 8)))) dc_nil))))
      (db_cons (ds_set Sc.nd rfl (.inl rfl) (df_call (ms := [some 2, none]) c_law_of (rm hr) (by rfl) T.g_law_of T.F_law_of.kp T.b_law_of (dc_io 0 rfl (by first | exact Or.inl rfl | exact Or.inr (Or.inl rfl) | exact Or.inr (Or.inr rfl)) (dc_cons (de_fresh (df_lst (da_cons (de_op op_fdiv_d (de_nm 8) de_int) (da_cons (de_op op_fdiv_d (de_nm 8) de_int) (da_cons (de_op op_fdiv_d (de_op op_add_d (de_nm 8) de_int) de_int) (da_cons (de_fresh (df_call (ms := [some 2, none]) c_law_any (rm hr) (by rfl) T.g_law_any T.F_law_any.kp T.b_law_any (dc_io 0 rfl (by first | exact Or.inl rfl | exact Or.inr (Or.inl rfl) | exact Or.inr (Or.inr rfl)) (dc_cons (de_op op_add_d (de_nm 8) de_int) dc_nil)))) da_nil)))))) dc_nil))))
      (db_cons (ds_par rfl Sc.nd rfl rfl (by decide) rfl rfl (df_op op_rep_l (de_fresh (df_lst (da_cons de_int da_nil))) (de_nm 8)) (df_lst da_nil) rfl)
      (db_cons (ds_forP (di_range1 (by rfl) T.n_range (da_cons (de_op op_mul_d de_int (de_nm 8)) da_nil)) (dg_nm Sc.nd rfl (.inl rfl)) (db_cons (ds_par rfl Sc.nd rfl rfl (by decide) rfl rfl (df_call (ms := [some 2, none]) c_law_any (rm hr) (by rfl) T.g_law_any T.F_law_any.kp T.b_law_any (dc_io 0 rfl (by first | exact Or.inl rfl | exact Or.inr (Or.inl rfl) | exact Or.inr (Or.inr rfl)) (dc_cons (de_nm 8) dc_nil))) (df_of de_int) rfl)
      (db_cons (ds_forP (di_range1 (by rfl) T.n_range (da_cons (de_nm 8) da_nil)) (dg_nm Sc.nd rfl (.inl rfl)) (db_one (ds_set Sc.nd rfl (.inl rfl) (df_of (de_op op_mul_d (de_nmS 15) (de_op op_add_d (de_ix (ix_d (u1 hr)) (de_nm 10) (de_nmS 12) (fun _ _ => rfl)) (de_callTy c_int (by rfl) T.n_int (by decide +kernel) (da_cons (de_cmp (op_eq_d (u64 hr)) (de_nmS 12) (de_nm 14) (nobehind _ (by decide) (by decide))) da_nil))))))))
      (db_one (ds_if (dt_bo (dw_and (dt_cmp op_lt_d (de_ix (ix_d (u1 hr)) (de_nm 10) (de_nm 14) (fun _ _ => rfl)) (de_nmS 2) (nobehind _ (by decide) (by decide))) (dw_and1 (dt_cmp op_le_d (de_nmS 15) (de_nmS 3) (nobehind _ (by decide) (by decide)))))) (db_one (ds_store (u1 hr) (df_of (de_op op_add_d (de_ix (ix_d (u1 hr)) (de_nm 10) (de_nm 14) (fun _ _ => rfl)) de_int)) (dp_nm 10) (de_nm 14))) db_nil)))))
      (db_cons (ds_forP (di_range1 (by rfl) T.n_range (da_cons (de_nm 8) da_nil)) (dg_nm Sc.nd rfl (.inl rfl)) (db_cons (ds_set Sc.nd rfl (.inl rfl) (df_call (ms := [some 2, none, none]) c_law_values (rm hr) (by rfl) T.g_law_values T.F_law_values.kp T.b_law_values (dc_io 0 rfl (by first | exact Or.inl rfl | exact Or.inr (Or.inl rfl) | exact Or.inr (Or.inr rfl)) (dc_cons (de_ix (ix_d (u1 hr)) (de_nm 10) (de_nmS 7) (fun _ _ => rfl)) (dc_cons (de_nm 9) dc_nil)))))
      (db_one (ds_expr (de_appendP (dp_nm 11) (df_of (de_ifE (dt_cmp (op_in_d (u65 hr)) (de_nmS 7) (de_slice (de_nm 4) do_none (do_some (de_nm 5))) rfl) (de_callTy c_tuple (by rfl) T.n_tuple (by decide +kernel) (da_cons (de_fresh (df_lc (own := [("one", 12)]) (scope := cs_law_trading_0) (c := ⟨false, (gnm 12), yes, (bin true (cst (.int 0)) (nmS 12) subD), true, [12]⟩) (by rfl) Sc.nd (di_seq (de_revT (de_nm 13))) (blkOk_by (own := [("one", 12)]) (N := ["deal", "buyers", "levels", "most", "order", "cut", "turn", "buyer", "many", "high", "sizes", "ladders", "one", "values", "at", "count"]) (sc := defScope s_law_trading) (scope := cs_law_trading_0) (by decide +kernel)) rfl rfl rfl (memW rfl) (fun _ _ _ _ _ => (dg_nm Sc.nd rfl (.inl rfl))) (fun _ _ _ _ _ => dts_nil) (fun _ _ _ _ _ => (de_op op_sub_d de_int (de_nmS 12))))) da_nil)) (de_nm 13))))))))
      (db_one (ds_ret (df_of (de_tup (da_cons (de_callTy c_tuple (by rfl) T.n_tuple (by decide +kernel) (da_cons (de_nm 11) da_nil)) (da_cons (de_callTy c_tuple (by rfl) T.n_tuple (by decide +kernel) (da_cons (de_fresh (df_callB (c_sorted (u70 hr)) (by rfl) T.n_sorted (by decide +kernel) (da_cons (de_slice (de_nm 4) do_none (do_some (de_nm 5))) da_nil))) da_nil)) da_nil))))))))))))) (fun _ _ h => h) (ioW (by rfl))

/-! ### _law_orders -/
abbrev s_law_orders : Stmt := topS 16
theorem sc_law_orders : FnScope ["trading", "profile", "takers", "sellers", "buyer", "level"] ["trading", "profile"] (defScope s_law_orders) := ⟨rfl, rfl, rfl, by decide +kernel, rfl, by decide +kernel, by decide +kernel⟩
abbrev cs_law_orders_0 : Scope := { kind := PySem.ScopeKind.function, names := [ (PySem.Str.ofString ".0", PySem.NameKind.local), (PySem.Str.ofString "buyer", PySem.NameKind.local), (PySem.Str.ofString "profile", PySem.NameKind.free), (PySem.Str.ofString "trading", PySem.NameKind.free)], isGenerator := false, isCoroutine := false, more := [] : PySem.Scope }
abbrev cs_law_orders_1 : Scope := { kind := PySem.ScopeKind.function, names := [ (PySem.Str.ofString ".0", PySem.NameKind.local), (PySem.Str.ofString "buyer", PySem.NameKind.local), (PySem.Str.ofString "profile", PySem.NameKind.free)], isGenerator := false, isCoroutine := false, more := [] : PySem.Scope }
abbrev cs_law_orders_2 : Scope := { kind := PySem.ScopeKind.function, names := [ (PySem.Str.ofString ".0", PySem.NameKind.local), (PySem.Str.ofString "level", PySem.NameKind.local), (PySem.Str.ofString "buyer", PySem.NameKind.local)], isGenerator := false, isCoroutine := false, more := [] : PySem.Scope }
abbrev cs_law_orders_3 : Scope := { kind := PySem.ScopeKind.function, names := [ (PySem.Str.ofString ".0", PySem.NameKind.local), (PySem.Str.ofString "level", PySem.NameKind.local), (PySem.Str.ofString "buyer", PySem.NameKind.local)], isGenerator := false, isCoroutine := false, more := [] : PySem.Scope }
def k_law_orders_0 : SF :=
    (retS (frF [] (app (argsC true (fst' (compF true (walk (nmS 2)) ⟨true, (gtup (gcons (gnm 5) (gcons (gnm 4) gnil))), yes, (nmS 4), true, [5, 4]⟩)) (argsC true (fst' (compF true (walk (nmS 3)) ⟨true, (gtup (gcons (gnm 5) (gcons (gnm 4) gnil))), yes, (nmS 4), true, [5, 4]⟩)) args0)) tupD)))
def k_law_orders_1 : SF :=
    (seqS (setS 3 (frF [] (fst' (nwF [] (argsC true (fst' (compF true (walk (bin true (nmS 0) (cst (.int 1)) idxD)) ⟨true, (gnm 4), yes, (app (argsC true (bin true (cst (.int 0)) (bin true (nmS 1) (nmS 4) idxD) subD) (argsC true (nmS 4) args0)) tupD), true, [4]⟩)) args0) (seq1 sortD))))) k_law_orders_0)
def sf_law_orders : SF :=
    (seqS (setS 2 (frF [] (fst' (nwF [] (argsC true (fst' (compF true (wk (argsC true (app (argsC true (nmS 1) args0) (one lenD)) args0) rng1) ⟨true, (gnm 4), (tst (bin true (nmS 4) (bin true (nmS 0) (cst (.int 1)) idxD) ninD)), (app (argsC true (bin true (cst (.int 0)) (bin true (nmS 1) (nmS 4) idxD) subD) (argsC true (nmS 4) args0)) tupD), true, [4]⟩)) args0) (seq1 sortD))))) k_law_orders_1)
def phi_law_orders : FnD := runF [none, none] 6 sf_law_orders
theorem ok_law_orders {k : Nat} (T : Tp K mg) : FnOk P w K mg base CX0 (k + 1) T.a_law_orders T.d_law_orders ["trading", "profile"] (spD K [none, none] phi_law_orders) :=
  fn_d (fb := sf_law_orders) T.F_law_orders sc_law_orders rfl (posW rfl) (fun cdv A outer s H E hr => have Sc := sc_law_orders;
    (db_cons (ds_set Sc.nd rfl (.inl rfl) (df_of (de_fresh (df_callB (c_sorted (u70 hr)) (by rfl) T.n_sorted (by decide +kernel) (da_cons (de_fresh (df_lc (own := [("buyer", 4)]) (scope := cs_law_orders_0) (c := ⟨true, (gnm 4), (tst (bin true (nmS 4) (bin true (nmS 0) (cst (.int 1)) idxD) ninD)), (app (argsC true (bin true (cst (.int 0)) (bin true (nmS 1) (nmS 4) idxD) subD) (argsC true (nmS 4) args0)) tupD), true, [4]⟩) (by rfl) Sc.nd (di_range1 (by rfl) T.n_range (da_cons (de_callB c_len (by rfl) T.n_len (by decide +kernel) (da_cons (de_nmS 1) da_nil)) da_nil)) (blkOk_by (own := [("buyer", 4)]) (N := ["trading", "profile", "takers", "sellers", "buyer", "level"]) (sc := defScope s_law_orders) (scope := cs_law_orders_0) (by decide +kernel)) rfl rfl rfl (memW rfl) (fun _ _ _ _ _ => (dg_nm Sc.nd rfl (.inl rfl))) (fun _ _ _ _ _ => (dts_one (dt_cmp (op_notIn_d (u65 hr)) (de_nmS 4) (de_ix (ix_d (u1 hr)) (de_nmS 0) de_int (fun _ _ => rfl)) rfl))) (fun _ _ _ _ _ => (de_tup (da_cons (de_op op_sub_d de_int (de_ix (ix_d (u1 hr)) (de_nmS 1) (de_nmS 4) (fun _ _ => rfl))) (da_cons (de_nmS 4) da_nil)))))) da_nil)))))
      (db_cons (ds_set Sc.nd rfl (.inl rfl) (df_of (de_fresh (df_callB (c_sorted (u70 hr)) (by rfl) T.n_sorted (by decide +kernel) (da_cons (de_fresh (df_lc (own := [("buyer", 4)]) (scope := cs_law_orders_1) (c := ⟨true, (gnm 4), yes, (app (argsC true (bin true (cst (.int 0)) (bin true (nmS 1) (nmS 4) idxD) subD) (argsC true (nmS 4) args0)) tupD), true, [4]⟩) (by rfl) Sc.nd (di_seq (de_ix (ix_d (u1 hr)) (de_nmS 0) de_int (fun _ _ => rfl))) (blkOk_by (own := [("buyer", 4)]) (N := ["trading", "profile", "takers", "sellers", "buyer", "level"]) (sc := defScope s_law_orders) (scope := cs_law_orders_1) (by decide +kernel)) rfl rfl rfl (memW rfl) (fun _ _ _ _ _ => (dg_nm Sc.nd rfl (.inl rfl))) (fun _ _ _ _ _ => dts_nil) (fun _ _ _ _ _ => (de_tup (da_cons (de_op op_sub_d de_int (de_ix (ix_d (u1 hr)) (de_nmS 1) (de_nmS 4) (fun _ _ => rfl))) (da_cons (de_nmS 4) da_nil)))))) da_nil)))))
      (db_one (ds_ret (df_of (de_tup (da_cons (de_fresh (df_lc (own := [("level", 5), ("buyer", 4)]) (scope := cs_law_orders_2) (c := ⟨true, (gtup (gcons (gnm 5) (gcons (gnm 4) gnil))), yes, (nmS 4), true, [5, 4]⟩) (by rfl) Sc.nd (di_seq (de_nmS 2)) (blkOk_by (own := [("level", 5), ("buyer", 4)]) (N := ["trading", "profile", "takers", "sellers", "buyer", "level"]) (sc := defScope s_law_orders) (scope := cs_law_orders_2) (by decide +kernel)) rfl rfl rfl (memW rfl) (fun _ _ _ _ _ => (dg_tup rfl (dgs_cons (dg_nm Sc.nd rfl (.inl rfl)) (dgs_cons (dg_nm Sc.nd rfl (.inl rfl)) dgs_nil)) (glenS (glenS glen0)))) (fun _ _ _ _ _ => dts_nil) (fun _ _ _ _ _ => (de_nmS 4)))) (da_cons (de_fresh (df_lc (own := [("level", 5), ("buyer", 4)]) (scope := cs_law_orders_3) (c := ⟨true, (gtup (gcons (gnm 5) (gcons (gnm 4) gnil))), yes, (nmS 4), true, [5, 4]⟩) (by rfl) Sc.nd (di_seq (de_nmS 3)) (blkOk_by (own := [("level", 5), ("buyer", 4)]) (N := ["trading", "profile", "takers", "sellers", "buyer", "level"]) (sc := defScope s_law_orders) (scope := cs_law_orders_3) (by decide +kernel)) rfl rfl rfl (memW rfl) (fun _ _ _ _ _ => (dg_tup rfl (dgs_cons (dg_nm Sc.nd rfl (.inl rfl)) (dgs_cons (dg_nm Sc.nd rfl (.inl rfl)) dgs_nil)) (glenS (glenS glen0)))) (fun _ _ _ _ _ => dts_nil) (fun _ _ _ _ _ => (de_nmS 4)))) da_nil))))))))) (fun _ _ h => h) (ioW (by rfl))

/-! ### _law_pairs -/
abbrev s_law_pairs : Stmt := topS 17
theorem sc_law_pairs : FnScope ["trading", "profile", "takers", "sellers", "one", "other"] ["trading", "profile"] (defScope s_law_pairs) := ⟨rfl, rfl, rfl, by decide +kernel, rfl, by decide +kernel, by decide +kernel⟩
abbrev cs_law_pairs_0 : Scope := { kind := PySem.ScopeKind.function, names := [ (PySem.Str.ofString ".0", PySem.NameKind.local), (PySem.Str.ofString "one", PySem.NameKind.local), (PySem.Str.ofString "other", PySem.NameKind.local), (PySem.Str.ofString "profile", PySem.NameKind.free)], isGenerator := false, isCoroutine := false, more := [] : PySem.Scope }
def k_law_pairs_0 : SF :=
    (retS (compF true (wk (argsC true (nmS 2) (argsC true (nmS 3) args0)) zip2) ⟨true, (gtup (gcons (gnm 4) (gcons (gnm 5) gnil))), (tst (bin true (bin true (bin true (nmS 1) (nmS 4) idxD) (bin true (nmS 1) (nmS 5) idxD) addD) (cst (.int 0)) geD)), (app (argsC true (nmS 4) (argsC true (nmS 5) args0)) tupD), true, [4, 5]⟩))
def sf_law_pairs : SF :=
    (seqS (asgS (callF [none, none] [none, none] [] phi_law_orders (argsC true (nmS 0) (argsC true (nmS 1) args0))) (gtup (gcons (gnm 2) (gcons (gnm 3) gnil)))) k_law_pairs_0)
def phi_law_pairs : FnD := runF [none, none] 6 sf_law_pairs
theorem ok_law_pairs {k : Nat} (T : Tp K mg) (c_law_orders : FnOk P w K mg base CX0 k T.a_law_orders T.d_law_orders ["trading", "profile"] (spD K [none, none] phi_law_orders)) : FnOk P w K mg base CX0 (k + 1) T.a_law_pairs T.d_law_pairs ["trading", "profile"] (spD K [none, none] phi_law_pairs) :=
  fn_d (fb := sf_law_pairs) T.F_law_pairs sc_law_pairs rfl (posW rfl) (fun cdv A outer s H E hr => have Sc := sc_law_pairs;
    (db_cons (ds_asg (df_call (ms := [none, none]) c_law_orders (rm hr) (by rfl) T.g_law_orders T.F_law_orders.kp T.b_law_orders (dc_cons (de_nmS 0) (dc_cons (de_nmS 1) dc_nil))) (dg_tup rfl (dgs_cons (dg_nm Sc.nd rfl (.inl rfl)) (dgs_cons (dg_nm Sc.nd rfl (.inl rfl)) dgs_nil)) (glenS (glenS glen0))))
      (db_one (ds_ret (df_lc (own := [("one", 4), ("other", 5)]) (scope := cs_law_pairs_0) (c := ⟨true, (gtup (gcons (gnm 4) (gcons (gnm 5) gnil))), (tst (bin true (bin true (bin true (nmS 1) (nmS 4) idxD) (bin true (nmS 1) (nmS 5) idxD) addD) (cst (.int 0)) geD)), (app (argsC true (nmS 4) (argsC true (nmS 5) args0)) tupD), true, [4, 5]⟩) (by rfl) Sc.nd (di_zip (by rfl) T.n_zip (da_cons (de_nmS 2) (da_cons (de_nmS 3) da_nil))) (blkOk_by (own := [("one", 4), ("other", 5)]) (N := ["trading", "profile", "takers", "sellers", "one", "other"]) (sc := defScope s_law_pairs) (scope := cs_law_pairs_0) (by decide +kernel)) rfl rfl rfl (memW rfl) (fun _ _ _ _ _ => (dg_tup rfl (dgs_cons (dg_nm Sc.nd rfl (.inl rfl)) (dgs_cons (dg_nm Sc.nd rfl (.inl rfl)) dgs_nil)) (glenS (glenS glen0)))) (fun _ _ _ _ _ => (dts_one (dt_cmp op_ge_d (de_op op_add_d (de_ix (ix_d (u1 hr)) (de_nmS 1) (de_nmS 4) (fun _ _ => rfl)) (de_ix (ix_d (u1 hr)) (de_nmS 1) (de_nmS 5) (fun _ _ => rfl))) de_int (nobehind _ (by decide) (by decide))))) (fun _ _ _ _ _ => (de_tup (da_cons (de_nmS 4) (da_cons (de_nmS 5) da_nil))))))))) (fun _ _ h => h) (ioW (by rfl))

/-! ### _law_last -/
abbrev s_law_last : Stmt := topS 18
theorem sc_law_last : FnScope ["box", "some", "rows", "buyer"] ["box", "some"] (defScope s_law_last) := ⟨rfl, rfl, rfl, by decide +kernel, rfl, by decide +kernel, by decide +kernel⟩
abbrev cs_law_last_0 : Scope := { kind := PySem.ScopeKind.function, names := [ (PySem.Str.ofString ".0", PySem.NameKind.local), (PySem.Str.ofString "buyer", PySem.NameKind.local), (PySem.Str.ofString "box", PySem.NameKind.free)], isGenerator := false, isCoroutine := false, more := [] : PySem.Scope }
def k_law_last_0 : SF :=
    (retS (frF [] (iteM (tst (bin true (nmS 2) (fst' (frN [] 1 args0 lstD)) eqD)) (cst .non) (bin true (cst (.int 0)) (bin true (bin true (nmS 2) (cst (.int 0)) idxD) (cst (.int 1)) idxD) subD))))
def sf_law_last : SF :=
    (seqS (setS 2 (frF [] (fst' (nwF [] (argsC true (fst' (compF true (walk (nmS 1)) ⟨true, (gnm 3), yes, (app (argsC true (bin true (bin true (nmS 0) (nmS 3) idxD) (cst (.int 0)) idxD) (argsC true (bin true (cst (.int 0)) (nmS 3) subD) args0)) tupD), true, [3]⟩)) args0) (seq1 sortD))))) k_law_last_0)
def phi_law_last : FnD := runF [none, none] 4 sf_law_last
theorem ok_law_last {k : Nat} (T : Tp K mg) : FnOk P w K mg base CX0 (k + 1) T.a_law_last T.d_law_last ["box", "some"] (spD K [none, none] phi_law_last) :=
  fn_d (fb := sf_law_last) T.F_law_last sc_law_last rfl (posW rfl) (fun cdv A outer s H E hr => have Sc := sc_law_last;
    (db_cons (ds_set Sc.nd rfl (.inl rfl) (df_of (de_fresh (df_callB (c_sorted (u70 hr)) (by rfl) T.n_sorted (by decide +kernel) (da_cons (de_fresh (df_lc (own := [("buyer", 3)]) (scope := cs_law_last_0) (c := ⟨true, (gnm 3), yes, (app (argsC true (bin true (bin true (nmS 0) (nmS 3) idxD) (cst (.int 0)) idxD) (argsC true (bin true (cst (.int 0)) (nmS 3) subD) args0)) tupD), true, [3]⟩) (by rfl) Sc.nd (di_seq (de_nmS 1)) (blkOk_by (own := [("buyer", 3)]) (N := ["box", "some", "rows", "buyer"]) (sc := defScope s_law_last) (scope := cs_law_last_0) (by decide +kernel)) rfl rfl rfl (memW rfl) (fun _ _ _ _ _ => (dg_nm Sc.nd rfl (.inl rfl))) (fun _ _ _ _ _ => dts_nil) (fun _ _ _ _ _ => (de_tup (da_cons (de_ix (ix_d (u1 hr)) (de_ix (ix_d (u1 hr)) (de_nmS 0) (de_nmS 3) (fun _ _ => rfl)) de_int (fun _ _ => rfl)) (da_cons (de_op op_sub_d de_int (de_nmS 3)) da_nil)))))) da_nil)))))
      (db_one (ds_ret (df_of (de_ifE (dt_cmp (op_eq_d (u64 hr)) (de_nmS 2) (de_fresh (df_lst da_nil)) (nobehind _ (by decide) (by decide))) de_non (de_op op_sub_d de_int (de_ix (ix_d (u1 hr)) (de_ix (ix_d (u1 hr)) (de_nmS 2) de_int (fun _ _ => rfl)) de_int (fun _ _ => rfl))))))))) (fun _ _ h => h) (ioW (by rfl))

/-! ### _law_double -/
abbrev s_law_double : Stmt := topS 19
theorem sc_law_double : FnScope ["box", "sellers", "takers", "others", "turn", "due", "taker", "seller", "fewer", "less", "games", "p", "q", "prices", "low", "high", "one"] ["box", "sellers", "takers", "others"] (defScope s_law_double) := ⟨rfl, rfl, rfl, by decide +kernel, rfl, by decide +kernel, by decide +kernel⟩
abbrev cs_law_double_0 : Scope := { kind := PySem.ScopeKind.function, names := [ (PySem.Str.ofString ".0", PySem.NameKind.local), (PySem.Str.ofString "one", PySem.NameKind.local), (PySem.Str.ofString "others", PySem.NameKind.free), (PySem.Str.ofString "p", PySem.NameKind.free), (PySem.Str.ofString "q", PySem.NameKind.free), (PySem.Str.ofString "takers", PySem.NameKind.free)], isGenerator := false, isCoroutine := false, more := [] : PySem.Scope }
abbrev cs_law_double_1 : Scope := { kind := PySem.ScopeKind.function, names := [ (PySem.Str.ofString ".0", PySem.NameKind.local), (PySem.Str.ofString "one", PySem.NameKind.local), (PySem.Str.ofString "due", PySem.NameKind.free)], isGenerator := false, isCoroutine := false, more := [] : PySem.Scope }
abbrev cs_law_double_2 : Scope := { kind := PySem.ScopeKind.function, names := [ (PySem.Str.ofString ".0", PySem.NameKind.local), (PySem.Str.ofString "one", PySem.NameKind.local), (PySem.Str.ofString "due", PySem.NameKind.free)], isGenerator := false, isCoroutine := false, more := [] : PySem.Scope }
def k_law_double_0 (phi : FnD) : SF :=
    (retS (frF [13] (app (argsC true (cst (.str "end")) (argsC true (app (argsC true (fst' (nwF [] (argsC true (bin true (nmS 2) (nmS 3) addD) args0) (seq1 sortD))) args0) (one tupleD)) (argsC true (app (argsC true (nm 13) args0) (one tupleD)) args0))) tupD)))
def k_law_double_1 (phi : FnD) : SF :=
    (ifS (tst (bin true (bin true (nmS 11) (nmS 12) addD) (cst (.int 0)) geD)) (seqS (setS 13 (compF true (wk (argsC true (app (argsC true (nmS 0) args0) (one lenD)) args0) rng1) ⟨true, (gnm 16), yes, (iteM (tst (bin true (nmS 16) (nmS 2) inD)) (nmS 11) (iteM (tst (bin true (nmS 16) (nmS 3) inD)) (nmS 12) (cst (.int 0)))), true, [16]⟩)) (k_law_double_0 phi)) nxt)
def k_law_double_2 (phi : FnD) : SF :=
    (retS (frF [] (app (argsC true (cst (.str "ask")) (argsC true (nmS 5) (argsC true (app (argsC true (bin true (nmS 14) (nmS 5) idxD) (argsC true (bin true (nmS 15) (nmS 5) idxD) args0)) tupD) (argsC true (nmS 10) args0)))) tupD)))
def k_law_double_3 (phi : FnD) : SF :=
    (seqS (setS 10 (frF [] (app (argsC true (fst' (callF [none, none, none, none] [none, none, none, none] [8, 9] phi (argsC true (nmS 14) (argsC true (nmS 1) (argsC true (nm 8) (argsC true (nm 9) args0)))))) (argsC true (fst' (callF [none, none, none, none] [none, none, none, none] [] phi (argsC true (nmS 15) (argsC true (nmS 1) (argsC true (nmS 2) (argsC true (nmS 3) args0)))))) args0)) tupD))) (k_law_double_2 phi))
def k_law_double_4 (phi : FnD) : SF :=
    (asgS (frF [8, 9] (app (argsC true (nm 8) (argsC true (nm 9) args0)) tupD)) (gtup (gcons (gnm 2) (gcons (gnm 3) gnil))))
def k_law_double_5 (phi : FnD) : SF :=
    (seqS (ifS (tst (bin true (app (argsC true (bin true (nmS 0) (nmS 5) idxD) args0) (one lenD)) (cst (.int 1)) gtD)) (seqS (asgS (callF [none, none] [none, none] [] phi_law_parted (argsC true (nmS 0) (argsC true (nmS 5) args0))) (gtup (gcons (gnm 14) (gcons (gnm 15) gnil)))) (k_law_double_3 phi)) nxt) (k_law_double_4 phi))
def k_law_double_6 (phi : FnD) : SF :=
    (seqS (setS2 8 9 (frF [] (fst' (compF true (walk (nmS 2)) ⟨true, (gnm 16), (tst (bin true (nmS 16) (nmS 5) neD)), (nmS 16), true, [16]⟩))) (frF [] (fst' (compF true (walk (nmS 3)) ⟨true, (gnm 16), (tst (bin true (nmS 16) (nmS 5) neD)), (nmS 16), true, [16]⟩)))) (k_law_double_5 phi))
def k_law_double_7 (phi : FnD) : SF :=
    (seqS (setS 5 (frF [6, 7] (iteM (tst (bin true (app (argsC true (nmS 2) args0) (one lenD)) (app (argsC true (nmS 3) args0) (one lenD)) geD)) (nm 6) (nm 7)))) (k_law_double_6 phi))
def k_law_double_8 (phi : FnD) : SF :=
    (seqS (ifS (tst (bin true (app (argsC true (nmS 2) args0) (one lenD)) (app (argsC true (nmS 3) args0) (one lenD)) eqD)) (seqS (asgS (frF [6, 7] (app (argsC true (iteM (tst (bin true (nm 6) (cst .non) isD)) (cst (.int 0)) (bin true (bin true (nmS 0) (nm 6) idxD) (cst (.int 0)) idxD)) (argsC true (iteM (tst (bin true (nm 7) (cst .non) isD)) (cst (.int 0)) (bin true (bin true (nmS 0) (nm 7) idxD) (cst (.int 0)) idxD)) args0)) tupD)) (gtup (gcons (gnm 11) (gcons (gnm 12) gnil)))) (k_law_double_1 phi)) nxt) (k_law_double_7 phi))
def b_law_double_9 (phi : FnD) : SF :=
    (seqS (setS2 6 7 (callF [none, none] [none, none] [] phi_law_last (argsC true (nmS 0) (argsC true (nmS 2) args0))) (callF [none, none] [none, none] [] phi_law_last (argsC true (nmS 0) (argsC true (nmS 3) args0)))) (k_law_double_8 phi))
def k_law_double_10 (phi : FnD) : SF :=
    (retS (frF [] (cst .non)))
def sf_law_double (phi : FnD) : SF :=
    (seqS (forS true true (wk (argsC true (cst (.int 7)) args0) rng1) (gnm 4) (b_law_double_9 phi)) (k_law_double_10 phi))
def phi_law_double : Nat → FnD
  | 0 => fun _ => none
  | n + 1 => runF [none, none, none, none] 17 (sf_law_double (phi_law_double n))
theorem st_law_double {k : Nat} (T : Tp K mg) (c_law_last : FnOk P w K mg base CX0 k T.a_law_last T.d_law_last ["box", "some"] (spD K [none, none] phi_law_last)) (c_law_parted : FnOk P w K mg base CX0 k T.a_law_parted T.d_law_parted ["box", "buyer"] (spD K [none, none] phi_law_parted)) (phi : FnD) (ih : FnOk P w K mg base CX0 k T.a_law_double T.d_law_double ["box", "sellers", "takers", "others"] (spD K [none, none, none, none] phi)) : FnOk P w K mg base CX0 (k + 1) T.a_law_double T.d_law_double ["box", "sellers", "takers", "others"] (spD K [none, none, none, none] (runF [none, none, none, none] 17 (sf_law_double phi))) :=
  fn_d (fb := sf_law_double phi) T.F_law_double sc_law_double rfl (posW rfl) (fun cdv A outer s H E hr => have Sc := sc_law_double;
    (db_cons (ds_forP (di_range1 (by rfl) T.n_range (da_cons de_int da_nil)) (dg_nm Sc.nd rfl (.inl rfl)) (db_cons (ds_par rfl Sc.nd rfl rfl (by decide) rfl rfl (df_call (ms := [none, none]) c_law_last (rm hr) (by rfl) T.g_law_last T.F_law_last.kp T.b_law_last (dc_cons (de_nmS 0) (dc_cons (de_nmS 2) dc_nil))) (df_call (ms := [none, none]) c_law_last (rm hr) (by rfl) T.g_law_last T.F_law_last.kp T.b_law_last (dc_cons (de_nmS 0) (dc_cons (de_nmS 3) dc_nil))) rfl)
      (db_cons (ds_if (dt_cmp (op_eq_d (u64 hr)) (de_callB c_len (by rfl) T.n_len (by decide +kernel) (da_cons (de_nmS 2) da_nil)) (de_callB c_len (by rfl) T.n_len (by decide +kernel) (da_cons (de_nmS 3) da_nil)) (nobehind _ (by decide) (by decide))) (db_cons (ds_asg (df_of (de_tup (da_cons (de_ifE (dt_cmp op_is_d (de_nm 6) de_non (nobehind _ (by decide) (by decide))) de_int (de_ix (ix_d (u1 hr)) (de_ix (ix_d (u1 hr)) (de_nmS 0) (de_nm 6) (fun _ _ => rfl)) de_int (fun _ _ => rfl))) (da_cons (de_ifE (dt_cmp op_is_d (de_nm 7) de_non (nobehind _ (by decide) (by decide))) de_int (de_ix (ix_d (u1 hr)) (de_ix (ix_d (u1 hr)) (de_nmS 0) (de_nm 7) (fun _ _ => rfl)) de_int (fun _ _ => rfl))) da_nil)))) (dg_tup rfl (dgs_cons (dg_nm Sc.nd rfl (.inr rfl)) (dgs_cons (dg_nm Sc.nd rfl (.inr rfl)) dgs_nil)) (glenS (glenS glen0))))
      (db_one (ds_if (dt_cmp op_ge_d (de_op op_add_d (de_nmS 11) (de_nmS 12)) de_int (nobehind _ (by decide) (by decide))) (db_cons (ds_setLc (own := [("one", 16)]) (scope := cs_law_double_0) (c := ⟨true, (gnm 16), yes, (iteM (tst (bin true (nmS 16) (nmS 2) inD)) (nmS 11) (iteM (tst (bin true (nmS 16) (nmS 3) inD)) (nmS 12) (cst (.int 0)))), true, [16]⟩) (by rfl) Sc.nd (di_range1 (by rfl) T.n_range (da_cons (de_callB c_len (by rfl) T.n_len (by decide +kernel) (da_cons (de_nmS 0) da_nil)) da_nil)) (blkOk_by (own := [("one", 16)]) (N := ["box", "sellers", "takers", "others", "turn", "due", "taker", "seller", "fewer", "less", "games", "p", "q", "prices", "low", "high", "one"]) (sc := defScope s_law_double) (scope := cs_law_double_0) (by decide +kernel)) rfl rfl rfl (memW rfl) (fun _ _ _ _ _ => (dg_nm Sc.nd rfl (.inl rfl))) (fun _ _ _ _ _ => dts_nil) (fun _ _ _ _ _ => (de_ifE (dt_cmp (op_in_d (u65 hr)) (de_nmS 16) (de_nmS 2) rfl) (de_nmS 11) (de_ifE (dt_cmp (op_in_d (u65 hr)) (de_nmS 16) (de_nmS 3) rfl) (de_nmS 12) de_int))))
      (db_one (ds_ret (df_of (de_tup (da_cons de_str (da_cons (de_callTy c_tuple (by rfl) T.n_tuple (by decide +kernel) (da_cons (de_fresh (df_callB (c_sorted (u70 hr)) (by rfl) T.n_sorted (by decide +kernel) (da_cons (de_op op_add_d (de_nmS 2) (de_nmS 3)) da_nil))) da_nil)) (da_cons (de_callTy c_tuple (by rfl) T.n_tuple (by decide +kernel) (da_cons (de_nm 13) da_nil)) da_nil)))))))) db_nil))) db_nil)
      (db_cons (ds_set Sc.nd rfl (.inr rfl) (df_of (de_ifE (dt_cmp op_ge_d (de_callB c_len (by rfl) T.n_len (by decide +kernel) (da_cons (de_nmS 2) da_nil)) (de_callB c_len (by rfl) T.n_len (by decide +kernel) (da_cons (de_nmS 3) da_nil)) (nobehind _ (by decide) (by decide))) (de_nm 6) (de_nm 7))))
      (db_cons (ds_par rfl Sc.nd rfl rfl (by decide) rfl rfl (df_of (de_fresh (df_lc (own := [("one", 16)]) (scope := cs_law_double_1) (c := ⟨true, (gnm 16), (tst (bin true (nmS 16) (nmS 5) neD)), (nmS 16), true, [16]⟩) (by rfl) Sc.nd (di_seq (de_nmS 2)) (blkOk_by (own := [("one", 16)]) (N := ["box", "sellers", "takers", "others", "turn", "due", "taker", "seller", "fewer", "less", "games", "p", "q", "prices", "low", "high", "one"]) (sc := defScope s_law_double) (scope := cs_law_double_1) (by decide +kernel)) rfl rfl rfl (memW rfl) (fun _ _ _ _ _ => (dg_nm Sc.nd rfl (.inl rfl))) (fun _ _ _ _ _ => (dts_one (dt_cmp (op_ne_d (u64 hr)) (de_nmS 16) (de_nmS 5) (nobehind _ (by decide) (by decide))))) (fun _ _ _ _ _ => (de_nmS 16))))) (df_of (de_fresh (df_lc (own := [("one", 16)]) (scope := cs_law_double_2) (c := ⟨true, (gnm 16), (tst (bin true (nmS 16) (nmS 5) neD)), (nmS 16), true, [16]⟩) (by rfl) Sc.nd (di_seq (de_nmS 3)) (blkOk_by (own := [("one", 16)]) (N := ["box", "sellers", "takers", "others", "turn", "due", "taker", "seller", "fewer", "less", "games", "p", "q", "prices", "low", "high", "one"]) (sc := defScope s_law_double) (scope := cs_law_double_2) (by decide +kernel)) rfl rfl rfl (memW rfl) (fun _ _ _ _ _ => (dg_nm Sc.nd rfl (.inl rfl))) (fun _ _ _ _ _ => (dts_one (dt_cmp (op_ne_d (u64 hr)) (de_nmS 16) (de_nmS 5) (nobehind _ (by decide) (by decide))))) (fun _ _ _ _ _ => (de_nmS 16))))) rfl)
      (db_cons (ds_if (dt_cmp op_gt_d (de_callB c_len (by rfl) T.n_len (by decide +kernel) (da_cons (de_ix (ix_d (u1 hr)) (de_nmS 0) (de_nmS 5) (fun _ _ => rfl)) da_nil)) de_int (nobehind _ (by decide) (by decide))) (db_cons (ds_asg (df_call (ms := [none, none]) c_law_parted (rm hr) (by rfl) T.g_law_parted T.F_law_parted.kp T.b_law_parted (dc_cons (de_nmS 0) (dc_cons (de_nmS 5) dc_nil))) (dg_tup rfl (dgs_cons (dg_nm Sc.nd rfl (.inl rfl)) (dgs_cons (dg_nm Sc.nd rfl (.inl rfl)) dgs_nil)) (glenS (glenS glen0))))
      (db_cons (ds_set Sc.nd rfl (.inl rfl) (df_of (de_tup (da_cons (de_fresh (df_call (ms := [none, none, none, none]) ih (rm hr) (by rfl) T.g_law_double T.F_law_double.kp T.b_law_double (dc_cons (de_nmS 14) (dc_cons (de_nmS 1) (dc_cons (de_nm 8) (dc_cons (de_nm 9) dc_nil)))))) (da_cons (de_fresh (df_call (ms := [none, none, none, none]) ih (rm hr) (by rfl) T.g_law_double T.F_law_double.kp T.b_law_double (dc_cons (de_nmS 15) (dc_cons (de_nmS 1) (dc_cons (de_nmS 2) (dc_cons (de_nmS 3) dc_nil)))))) da_nil)))))
      (db_one (ds_ret (df_of (de_tup (da_cons de_str (da_cons (de_nmS 5) (da_cons (de_tup (da_cons (de_ix (ix_d (u1 hr)) (de_nmS 14) (de_nmS 5) (fun _ _ => rfl)) (da_cons (de_ix (ix_d (u1 hr)) (de_nmS 15) (de_nmS 5) (fun _ _ => rfl)) da_nil))) (da_cons (de_nmS 10) da_nil)))))))))) db_nil)
      (db_one (ds_asg (df_of (de_tup (da_cons (de_nm 8) (da_cons (de_nm 9) da_nil)))) (dg_tup rfl (dgs_cons (dg_nm Sc.nd rfl (.inr rfl)) (dgs_cons (dg_nm Sc.nd rfl (.inr rfl)) dgs_nil)) (glenS (glenS glen0)))))))))))
      (db_one (ds_ret (df_of de_non))))) (fun _ _ h => h) (ioW (by rfl))

/-! ### _law_at -/
abbrev s_law_at : Stmt := topS 20
theorem sc_law_at : FnScope ["game", "profile", "turn"] ["game", "profile"] (defScope s_law_at) := ⟨rfl, rfl, rfl, by decide +kernel, rfl, by decide +kernel, by decide +kernel⟩
def k_law_at_0 : SF :=
    (setS 0 (frF [] (bin true (bin true (nmS 0) (cst (.int 3)) idxD) (iteM (tst (bin true (bin true (nmS 1) (bin true (nmS 0) (cst (.int 1)) idxD) idxD) (bin true (bin true (nmS 0) (cst (.int 2)) idxD) (cst (.int 0)) idxD) inD)) (cst (.int 0)) (cst (.int 1))) idxD)))
def b_law_at_1 : SF :=
    (seqS (ifS (tst (bin true (bin true (nmS 0) (cst (.int 0)) idxD) (cst (.str "end")) eqD)) (retS (frF [] (nmS 0))) nxt) k_law_at_0)
def k_law_at_2 : SF :=
    (retS (frF [] (nmS 0)))
def sf_law_at : SF :=
    (seqS (forS true true (wk (argsC true (cst (.int 60)) args0) rng1) (gnm 2) b_law_at_1) k_law_at_2)
def phi_law_at : FnD := runF [none, none] 3 sf_law_at
theorem ok_law_at {k : Nat} (T : Tp K mg) : FnOk P w K mg base CX0 (k + 1) T.a_law_at T.d_law_at ["game", "profile"] (spD K [none, none] phi_law_at) :=
  fn_d (fb := sf_law_at) T.F_law_at sc_law_at rfl (posW rfl) (fun cdv A outer s H E hr => have Sc := sc_law_at;
    (db_cons (ds_forP (di_range1 (by rfl) T.n_range (da_cons de_int da_nil)) (dg_nm Sc.nd rfl (.inl rfl)) (db_cons (ds_if (dt_cmp (op_eq_d (u64 hr)) (de_ix (ix_d (u1 hr)) (de_nmS 0) de_int (fun _ _ => rfl)) de_str (nobehind _ (by decide) (by decide))) (db_one (ds_ret (df_of (de_nmS 0)))) db_nil)
      (db_one (ds_set Sc.nd rfl (.inl rfl) (df_of (de_ix (ix_d (u1 hr)) (de_ix (ix_d (u1 hr)) (de_nmS 0) de_int (fun _ _ => rfl)) (de_ifE (dt_cmp (op_in_d (u65 hr)) (de_ix (ix_d (u1 hr)) (de_nmS 1) (de_ix (ix_d (u1 hr)) (de_nmS 0) de_int (fun _ _ => rfl)) (fun _ _ => rfl)) (de_ix (ix_d (u1 hr)) (de_ix (ix_d (u1 hr)) (de_nmS 0) de_int (fun _ _ => rfl)) de_int (fun _ _ => rfl)) rfl) de_int de_int) (fun _ _ => rfl)))))))
      (db_one (ds_ret (df_of (de_nmS 0)))))) (fun _ _ h => h) (ioW (by rfl))

/-! ### law -/
abbrev s_law : Stmt := topS 21
theorem sc_law : FnScope ["script", "deal", "trading", "takers", "due", "told", "turn", "market", "sellers", "profile", "best", "less", "one", "pairs", "end", "ladder", "other"] ["script"] (defScope s_law) := ⟨rfl, rfl, rfl, by decide +kernel, rfl, by decide +kernel, by decide +kernel⟩
abbrev cs_law_0 : Scope := { kind := PySem.ScopeKind.function, names := [ (PySem.Str.ofString ".0", PySem.NameKind.local), (PySem.Str.ofString "one", PySem.NameKind.local), (PySem.Str.ofString "sellers", PySem.NameKind.free)], isGenerator := false, isCoroutine := false, more := [] : PySem.Scope }
abbrev cs_law_1 : Scope := { kind := PySem.ScopeKind.function, names := [ (PySem.Str.ofString ".0", PySem.NameKind.local), (PySem.Str.ofString "ladder", PySem.NameKind.local), (PySem.Str.ofString "_law_of", PySem.NameKind.globalImplicit), (PySem.Str.ofString "deal", PySem.NameKind.free)], isGenerator := false, isCoroutine := false, more := [] : PySem.Scope }
abbrev cs_law_2 : Scope := { kind := PySem.ScopeKind.function, names := [ (PySem.Str.ofString ".0", PySem.NameKind.local), (PySem.Str.ofString "one", PySem.NameKind.local), (PySem.Str.ofString "other", PySem.NameKind.local)], isGenerator := false, isCoroutine := false, more := [] : PySem.Scope }
abbrev cs_law_3 : Scope := { kind := PySem.ScopeKind.function, names := [ (PySem.Str.ofString ".0", PySem.NameKind.local), (PySem.Str.ofString "one", PySem.NameKind.local), (PySem.Str.ofString "other", PySem.NameKind.local)], isGenerator := false, isCoroutine := false, more := [] : PySem.Scope }
abbrev cs_law_4 : Scope := { kind := PySem.ScopeKind.function, names := [ (PySem.Str.ofString ".0", PySem.NameKind.local), (PySem.Str.ofString "one", PySem.NameKind.local), (PySem.Str.ofString "other", PySem.NameKind.local)], isGenerator := false, isCoroutine := false, more := [] : PySem.Scope }
abbrev cs_law_5 : Scope := { kind := PySem.ScopeKind.function, names := [ (PySem.Str.ofString ".0", PySem.NameKind.local), (PySem.Str.ofString "one", PySem.NameKind.local), (PySem.Str.ofString "other", PySem.NameKind.local)], isGenerator := false, isCoroutine := false, more := [] : PySem.Scope }
abbrev cs_law_6 : Scope := { kind := PySem.ScopeKind.function, names := [ (PySem.Str.ofString ".0", PySem.NameKind.local), (PySem.Str.ofString "one", PySem.NameKind.local), (PySem.Str.ofString "end", PySem.NameKind.free), (PySem.Str.ofString "profile", PySem.NameKind.free)], isGenerator := false, isCoroutine := false, more := [] : PySem.Scope }
def k_law_0 : SF :=
    (ifS (tst (bin true (fst' (compF true (wk (argsC true (app (argsC true (nmS 7) args0) (one lenD)) args0) rng1) ⟨true, (gnm 12), (tst (bin true (bin true (bin true (nm 14) (cst (.int 2)) idxD) (nmS 12) idxD) (iteM (tst (bin true (nmS 12) (bin true (nm 14) (cst (.int 1)) idxD) inD)) (bin true (nmS 9) (nmS 12) idxD) (cst (.int 0))) gtD)), (nmS 12), true, [12]⟩)) (fst' (frN [] 1 args0 lstD)) neD)) (retS (frF [] (cst (.bl false)))) nxt)
def k_law_1 : SF :=
    (seqS (ifS (orB (andB (tst (bin true (fst' (nwF [14] (argsC true (bin true (nm 14) (cst (.int 1)) idxD) args0) (seq1 some))) (nmS 10) neD)) (tst (bin true (fst' (nwF [14] (argsC true (bin true (nm 14) (cst (.int 1)) idxD) args0) (seq1 some))) (nmS 11) neD))) (tst (bin true (app (argsC true (bin true (nm 14) (cst (.int 2)) idxD) args0) (one sumE)) (cst (.int 0)) ltD))) (retS (frF [] (cst (.bl false)))) nxt) k_law_0)
def k_law_2 : SF :=
    (seqS (setS 11 (frF [] (fst' (nwF [] (argsC true (bin true (fst' (compF true (walk (slc true (nm 13) prt0 (prt (una (cst (.int 1)) negD)))) ⟨false, (gtup (gcons (gnm 12) (gcons (gnm 16) gnil))), yes, (nmS 12), true, [12, 16]⟩)) (fst' (compF true (walk (slc true (nm 13) prt0 (prt (una (cst (.int 1)) negD)))) ⟨false, (gtup (gcons (gnm 12) (gcons (gnm 16) gnil))), yes, (nmS 16), true, [12, 16]⟩)) addD) args0) (seq1 sortD))))) k_law_1)
def k_law_3 : SF :=
    (seqS (setS 10 (frF [] (fst' (nwF [] (argsC true (bin true (fst' (compF true (walk (nm 13)) ⟨false, (gtup (gcons (gnm 12) (gcons (gnm 16) gnil))), yes, (nmS 12), true, [12, 16]⟩)) (fst' (compF true (walk (nm 13)) ⟨false, (gtup (gcons (gnm 12) (gcons (gnm 16) gnil))), yes, (nmS 16), true, [12, 16]⟩)) addD) args0) (seq1 sortD))))) k_law_2)
def k_law_4 : SF :=
    (seqS (asgS (frF [] (app (argsC true (fst' (callF [none, none] [none, none] [2] phi_law_pairs (argsC true (nm 2) (argsC true (nmS 9) args0)))) (argsC true (fst' (callF [none, none] [none, none] [5] phi_law_at (argsC true (nm 5) (argsC true (nmS 9) args0)))) args0)) tupD)) (gtup (gcons (gnm 13) (gcons (gnm 14) gnil)))) k_law_3)
def b_law_5 : SF :=
    (seqS (setS 9 (frF [] (app (argsC true (fst' (compF true (walk (nmS 7)) ⟨true, (gnm 15), yes, (fst' (callF [some 2, none] [some 1, none] [] phi_law_of (ioA 1 (argsC true (fst' (frN [] 1 (argsC true (bin true (nmS 15) (cst (.int 0)) idxD) (argsC true (bin true (nmS 15) (una (cst (.int 1)) negD) idxD) (argsC true (fst' (callF [some 2, none] [some 1, none] [] phi_law_of (ioA 1 (argsC true (nmS 15) args0)))) args0))) lstD)) args0)))), true, [15]⟩)) args0) (one tupleD)))) k_law_4)
def k_law_6 : SF :=
    (retS (callF [none, none] [none, none] [4] (phi_law_same RF) (argsC true (fst' (callF [none] [none] [2] phi_double_clock (argsC true (nm 2) args0))) (argsC true (nm 4) args0))))
def k_law_7 : SF :=
    (seqS (forS true true (wk (argsC true (cst (.int 12)) args0) rng1) (gnm 6) b_law_5) k_law_6)
def k_law_8 : SF :=
    (seqS (ifS (notB (tst (fst' (callF [none, none] [none, none] [5, 4] (phi_law_same RF) (argsC true (nm 5) (argsC true (nm 4) args0)))))) (retS (frF [] (cst (.bl false)))) nxt) k_law_7)
def k_law_9 : SF :=
    (seqS (setS 5 (callF (nones 1) (nones 1) [2] phi_double_clock (permM 1 [0] (argsC true (nm 2) args0)))) k_law_8)
def k_law_10 : SF :=
    (seqS (setS 4 (callF [none, none, none, none] [none, none, none, none] [3] (phi_law_double RF) (argsC true (nmS 7) (argsC true (nmS 8) (argsC true (nm 3) (argsC true (fst' (nwF [] (argsC true (nmS 8) args0) (seq1 some))) args0)))))) k_law_9)
def k_law_11 : SF :=
    (seqS (setS 3 (compF true (wk (argsC true (app (argsC true (nmS 7) args0) (one lenD)) args0) rng1) ⟨true, (gnm 12), (tst (bin true (nmS 12) (nmS 8) ninD)), (nmS 12), true, [12]⟩)) k_law_10)
def k_law_12 : SF :=
    (seqS (asgS (frF [2] (nm 2)) (gtup (gcons (gnm 7) (gcons (gnm 8) gnil)))) k_law_11)
def k_law_13 : SF :=
    (seqS (setS 2 (callF [some 2, none, none, none] [some 1, none, none, none] [] phi_law_trading (ioA 1 (argsC true (cst (.int 6)) (argsC true (fst' (callF [some 2, none] [some 1, none] [] phi_law_of (ioA 1 (argsC true (fst' (frN [] 1 (argsC true (cst (.int 2)) (argsC true (cst (.int 3)) (argsC true (cst (.int 4)) (argsC true (cst (.int 8)) args0)))) lstD)) args0)))) (argsC true (fst' (callF [some 2, none] [some 1, none] [] phi_law_of (ioA 1 (argsC true (fst' (frN [] 1 (argsC true (cst (.int 24)) (argsC true (cst (.int 60)) (argsC true (cst (.int 200)) (argsC true (iteM (tst (bin true (fst' (callF [some 2, none] [some 1, none] [] phi_law_any (ioA 1 (argsC true (cst (.int 4)) args0)))) (cst (.int 0)) eqD)) (cst (.int 2000)) (cst (.int 100))) args0)))) lstD)) args0)))) args0)))))) k_law_12)
def sf_law : SF :=
    (seqS (setS 1 (callF [none, none] [none, none] [] phi_law_draw (argsC true (nmS 0) (argsC true (cst (.int 75)) args0)))) k_law_13)
def phi_law : FnD := runF [none] 17 sf_law
theorem ok_law {k : Nat} (T : Tp K mg) (c_law_draw : FnOk P w K mg base CX0 k T.a_law_draw T.d_law_draw ["script", "salt"] (spD K [none, none] phi_law_draw)) (c_law_trading : FnOk P w K mg base CX0 k T.a_law_trading T.d_law_trading ["deal", "buyers", "levels", "most"] (spD K [some 2, none, none, none] phi_law_trading)) (c_law_double : FnOk P w K mg base CX0 k T.a_law_double T.d_law_double ["box", "sellers", "takers", "others"] (spD K [none, none, none, none] (phi_law_double RF))) (c_double_clock : FnOk P w K mg base CX0 k T.a_double_clock T.d_double_clock ["trading"] (spD K [none] phi_double_clock)) (c_law_same : FnOk P w K mg base CX0 k T.a_law_same T.d_law_same ["value", "due"] (spD K [none, none] (phi_law_same RF))) (c_law_of : FnOk P w K mg base CX0 k T.a_law_of T.d_law_of ["deal", "some"] (spD K [some 2, none] phi_law_of)) (c_law_pairs : FnOk P w K mg base CX0 k T.a_law_pairs T.d_law_pairs ["trading", "profile"] (spD K [none, none] phi_law_pairs)) (c_law_at : FnOk P w K mg base CX0 k T.a_law_at T.d_law_at ["game", "profile"] (spD K [none, none] phi_law_at)) (c_law_any : FnOk P w K mg base CX0 k T.a_law_any T.d_law_any ["deal", "bound"] (spD K [some 2, none] phi_law_any)) : FnOk P w K mg base CX0 (k + 1) T.a_law T.d_law ["script"] (spD K [none] phi_law) :=
  fn_d (fb := sf_law) T.F_law sc_law rfl (posW rfl) (fun cdv A outer s H E hr => have Sc := sc_law;
    (db_cons (ds_set Sc.nd rfl (.inr rfl) (df_call (ms := [none, none]) c_law_draw (rm hr) (by rfl) T.g_law_draw T.F_law_draw.kp T.b_law_draw (dc_cons (de_nmS 0) (dc_cons de_int dc_nil))))
      (db_cons (ds_set Sc.nd rfl (.inl rfl) (df_call (ms := [some 2, none, none, none]) c_law_trading (rm hr) (by rfl) T.g_law_trading T.F_law_trading.kp T.b_law_trading (dc_io 1 rfl (by first | exact Or.inl rfl | exact Or.inr (Or.inl rfl) | exact Or.inr (Or.inr rfl)) (dc_cons de_int (dc_cons (de_fresh (df_call (ms := [some 2, none]) c_law_of (rm hr) (by rfl) T.g_law_of T.F_law_of.kp T.b_law_of (dc_io 1 rfl (by first | exact Or.inl rfl | exact Or.inr (Or.inl rfl) | exact Or.inr (Or.inr rfl)) (dc_cons (de_fresh (df_lst (da_cons de_int (da_cons de_int (da_cons de_int (da_cons de_int da_nil)))))) dc_nil)))) (dc_cons (de_fresh (df_call (ms := [some 2, none]) c_law_of (rm hr) (by rfl) T.g_law_of T.F_law_of.kp T.b_law_of (dc_io 1 rfl (by first | exact Or.inl rfl | exact Or.inr (Or.inl rfl) | exact Or.inr (Or.inr rfl)) (dc_cons (de_fresh (df_lst (da_cons de_int (da_cons de_int (da_cons de_int (da_cons (de_ifE (dt_cmp (op_eq_d (u64 hr)) (de_fresh (df_call (ms := [some 2, none]) c_law_any (rm hr) (by rfl) T.g_law_any T.F_law_any.kp T.b_law_any (dc_io 1 rfl (by first | exact Or.inl rfl | exact Or.inr (Or.inl rfl) | exact Or.inr (Or.inr rfl)) (dc_cons de_int dc_nil)))) de_int (nobehind _ (by decide) (by decide))) de_int de_int) da_nil)))))) dc_nil)))) dc_nil))))))
      (db_cons (ds_asg (df_of (de_nm 2)) (dg_tup rfl (dgs_cons (dg_nm Sc.nd rfl (.inl rfl)) (dgs_cons (dg_nm Sc.nd rfl (.inr rfl)) dgs_nil)) (glenS (glenS glen0))))
      (db_cons (ds_setLc (own := [("one", 12)]) (scope := cs_law_0) (c := ⟨true, (gnm 12), (tst (bin true (nmS 12) (nmS 8) ninD)), (nmS 12), true, [12]⟩) (by rfl) Sc.nd (di_range1 (by rfl) T.n_range (da_cons (de_callB c_len (by rfl) T.n_len (by decide +kernel) (da_cons (de_nmS 7) da_nil)) da_nil)) (blkOk_by (own := [("one", 12)]) (N := ["script", "deal", "trading", "takers", "due", "told", "turn", "market", "sellers", "profile", "best", "less", "one", "pairs", "end", "ladder", "other"]) (sc := defScope s_law) (scope := cs_law_0) (by decide +kernel)) rfl rfl rfl (memW rfl) (fun _ _ _ _ _ => (dg_nm Sc.nd rfl (.inl rfl))) (fun _ _ _ _ _ => (dts_one (dt_cmp (op_notIn_d (u65 hr)) (de_nmS 12) (de_nmS 8) rfl))) (fun _ _ _ _ _ => (de_nmS 12)))
      (db_cons (ds_set Sc.nd rfl (.inl rfl) (df_call (ms := [none, none, none, none]) c_law_double (rm hr) (by rfl) T.g_law_double T.F_law_double.kp T.b_law_double (dc_cons (de_nmS 7) (dc_cons (de_nmS 8) (dc_cons (de_nm 3) (dc_cons (de_fresh (df_callTy c_list (by rfl) T.n_list (by decide +kernel) (da_cons (de_nmS 8) da_nil))) dc_nil))))))
      (db_cons (ds_set Sc.nd rfl (.inl rfl) (df_callK (pm := [0]) (ks := ["trading"]) c_double_clock (rm hr) (by rfl) T.g_double_clock T.F_double_clock.kp (HD.Fun.kbinds (ks := ["trading"]) (pm := [0]) T.F_double_clock (by decide) fun _ _ _ _ _ _ ws hl => match ws, hl with | [_], _ => rfl) (dk_cons (de_nm 2) dk_nil)))
      (db_cons (ds_if (dt_not (dt_val (de_fresh (df_call (ms := [none, none]) c_law_same (rm hr) (by rfl) T.g_law_same T.F_law_same.kp T.b_law_same (dc_cons (de_nm 5) (dc_cons (de_nm 4) dc_nil)))))) (db_one (ds_ret (df_of de_bl))) db_nil)
      (db_cons (ds_forP (di_range1 (by rfl) T.n_range (da_cons de_int da_nil)) (dg_nm Sc.nd rfl (.inl rfl)) (db_cons (ds_set Sc.nd rfl (.inr rfl) (df_of (de_callTy c_tuple (by rfl) T.n_tuple (by decide +kernel) (da_cons (de_fresh (df_lc (own := [("ladder", 15)]) (scope := cs_law_1) (c := ⟨true, (gnm 15), yes, (fst' (callF [some 2, none] [some 1, none] [] phi_law_of (ioA 1 (argsC true (fst' (frN [] 1 (argsC true (bin true (nmS 15) (cst (.int 0)) idxD) (argsC true (bin true (nmS 15) (una (cst (.int 1)) negD) idxD) (argsC true (fst' (callF [some 2, none] [some 1, none] [] phi_law_of (ioA 1 (argsC true (nmS 15) args0)))) args0))) lstD)) args0)))), true, [15]⟩) (by rfl) Sc.nd (di_seq (de_nmS 7)) (blkOk_by (own := [("ladder", 15)]) (N := ["script", "deal", "trading", "takers", "due", "told", "turn", "market", "sellers", "profile", "best", "less", "one", "pairs", "end", "ladder", "other"]) (sc := defScope s_law) (scope := cs_law_1) (by decide +kernel)) rfl rfl rfl (memW rfl) (fun _ _ _ _ _ => (dg_nm Sc.nd rfl (.inl rfl))) (fun _ _ _ _ _ => dts_nil) (fun _ _ _ _ _ => (de_fresh (df_call (ms := [some 2, none]) c_law_of (rm hr) (by rfl) T.g_law_of T.F_law_of.kp T.b_law_of (dc_io 1 rfl (by first | exact Or.inl rfl | exact Or.inr (Or.inl rfl) | exact Or.inr (Or.inr rfl)) (dc_cons (de_fresh (df_lst (da_cons (de_ix (ix_d (u1 hr)) (de_nmS 15) de_int (fun _ _ => rfl)) (da_cons (de_ix (ix_d (u1 hr)) (de_nmS 15) (de_un un_neg_d de_int) (fun _ _ => rfl)) (da_cons (de_fresh (df_call (ms := [some 2, none]) c_law_of (rm hr) (by rfl) T.g_law_of T.F_law_of.kp T.b_law_of (dc_io 1 rfl (by first | exact Or.inl rfl | exact Or.inr (Or.inl rfl) | exact Or.inr (Or.inr rfl)) (dc_cons (de_nmS 15) dc_nil)))) da_nil))))) dc_nil))))))) da_nil))))
      (db_cons (ds_asg (df_of (de_tup (da_cons (de_fresh (df_call (ms := [none, none]) c_law_pairs (rm hr) (by rfl) T.g_law_pairs T.F_law_pairs.kp T.b_law_pairs (dc_cons (de_nm 2) (dc_cons (de_nmS 9) dc_nil)))) (da_cons (de_fresh (df_call (ms := [none, none]) c_law_at (rm hr) (by rfl) T.g_law_at T.F_law_at.kp T.b_law_at (dc_cons (de_nm 5) (dc_cons (de_nmS 9) dc_nil)))) da_nil)))) (dg_tup rfl (dgs_cons (dg_nm Sc.nd rfl (.inl rfl)) (dgs_cons (dg_nm Sc.nd rfl (.inr rfl)) dgs_nil)) (glenS (glenS glen0))))
      (db_cons (ds_set Sc.nd rfl (.inl rfl) (df_of (de_fresh (df_callB (c_sorted (u70 hr)) (by rfl) T.n_sorted (by decide +kernel) (da_cons (de_op op_add_d (de_fresh (df_lc (own := [("one", 12), ("other", 16)]) (scope := cs_law_2) (c := ⟨false, (gtup (gcons (gnm 12) (gcons (gnm 16) gnil))), yes, (nmS 12), true, [12, 16]⟩) (by rfl) Sc.nd (di_seq (de_nm 13)) (blkOk_by (own := [("one", 12), ("other", 16)]) (N := ["script", "deal", "trading", "takers", "due", "told", "turn", "market", "sellers", "profile", "best", "less", "one", "pairs", "end", "ladder", "other"]) (sc := defScope s_law) (scope := cs_law_2) (by decide +kernel)) rfl rfl rfl (memW rfl) (fun _ _ _ _ _ => (dg_tup rfl (dgs_cons (dg_nm Sc.nd rfl (.inl rfl)) (dgs_cons (dg_nm Sc.nd rfl (.inl rfl)) dgs_nil)) (glenS (glenS glen0)))) (fun _ _ _ _ _ => dts_nil) (fun _ _ _ _ _ => (de_nmS 12)))) (de_fresh (df_lc (own := [("one", 12), ("other", 16)]) (scope := cs_law_3) (c := ⟨false, (gtup (gcons (gnm 12) (gcons (gnm 16) gnil))), yes, (nmS 16), true, [12, 16]⟩) (by rfl) Sc.nd (di_seq (de_nm 13)) (blkOk_by (own := [("one", 12), ("other", 16)]) (N := ["script", "deal", "trading", "takers", "due", "told", "turn", "market", "sellers", "profile", "best", "less", "one", "pairs", "end", "ladder", "other"]) (sc := defScope s_law) (scope := cs_law_3) (by decide +kernel)) rfl rfl rfl (memW rfl) (fun _ _ _ _ _ => (dg_tup rfl (dgs_cons (dg_nm Sc.nd rfl (.inl rfl)) (dgs_cons (dg_nm Sc.nd rfl (.inl rfl)) dgs_nil)) (glenS (glenS glen0)))) (fun _ _ _ _ _ => dts_nil) (fun _ _ _ _ _ => (de_nmS 16))))) da_nil)))))
      (db_cons (ds_set Sc.nd rfl (.inl rfl) (df_of (de_fresh (df_callB (c_sorted (u70 hr)) (by rfl) T.n_sorted (by decide +kernel) (da_cons (de_op op_add_d (de_fresh (df_lc (own := [("one", 12), ("other", 16)]) (scope := cs_law_4) (c := ⟨false, (gtup (gcons (gnm 12) (gcons (gnm 16) gnil))), yes, (nmS 12), true, [12, 16]⟩) (by rfl) Sc.nd (di_seq (de_slice (de_nm 13) do_none (do_some (de_un un_neg_d de_int)))) (blkOk_by (own := [("one", 12), ("other", 16)]) (N := ["script", "deal", "trading", "takers", "due", "told", "turn", "market", "sellers", "profile", "best", "less", "one", "pairs", "end", "ladder", "other"]) (sc := defScope s_law) (scope := cs_law_4) (by decide +kernel)) rfl rfl rfl (memW rfl) (fun _ _ _ _ _ => (dg_tup rfl (dgs_cons (dg_nm Sc.nd rfl (.inl rfl)) (dgs_cons (dg_nm Sc.nd rfl (.inl rfl)) dgs_nil)) (glenS (glenS glen0)))) (fun _ _ _ _ _ => dts_nil) (fun _ _ _ _ _ => (de_nmS 12)))) (de_fresh (df_lc (own := [("one", 12), ("other", 16)]) (scope := cs_law_5) (c := ⟨false, (gtup (gcons (gnm 12) (gcons (gnm 16) gnil))), yes, (nmS 16), true, [12, 16]⟩) (by rfl) Sc.nd (di_seq (de_slice (de_nm 13) do_none (do_some (de_un un_neg_d de_int)))) (blkOk_by (own := [("one", 12), ("other", 16)]) (N := ["script", "deal", "trading", "takers", "due", "told", "turn", "market", "sellers", "profile", "best", "less", "one", "pairs", "end", "ladder", "other"]) (sc := defScope s_law) (scope := cs_law_5) (by decide +kernel)) rfl rfl rfl (memW rfl) (fun _ _ _ _ _ => (dg_tup rfl (dgs_cons (dg_nm Sc.nd rfl (.inl rfl)) (dgs_cons (dg_nm Sc.nd rfl (.inl rfl)) dgs_nil)) (glenS (glenS glen0)))) (fun _ _ _ _ _ => dts_nil) (fun _ _ _ _ _ => (de_nmS 16))))) da_nil)))))
      (db_cons (ds_if (dt_bo (dw_or (dt_bo (dw_and (dt_cmp (op_ne_d (u64 hr)) (de_fresh (df_callTy c_list (by rfl) T.n_list (by decide +kernel) (da_cons (de_ix (ix_d (u1 hr)) (de_nm 14) de_int (fun _ _ => rfl)) da_nil))) (de_nmS 10) (nobehind _ (by decide) (by decide))) (dw_and1 (dt_cmp (op_ne_d (u64 hr)) (de_fresh (df_callTy c_list (by rfl) T.n_list (by decide +kernel) (da_cons (de_ix (ix_d (u1 hr)) (de_nm 14) de_int (fun _ _ => rfl)) da_nil))) (de_nmS 11) (nobehind _ (by decide) (by decide)))))) (dw_or1 (dt_cmp op_lt_d (de_callB (c_sumE rfl) (by rfl) T.n_sum (by decide +kernel) (da_cons (de_ix (ix_d (u1 hr)) (de_nm 14) de_int (fun _ _ => rfl)) da_nil)) de_int (nobehind _ (by decide) (by decide)))))) (db_one (ds_ret (df_of de_bl))) db_nil)
      (db_one (ds_if (dt_cmp (op_ne_d (u64 hr)) (de_fresh (df_lc (own := [("one", 12)]) (scope := cs_law_6) (c := ⟨true, (gnm 12), (tst (bin true (bin true (bin true (nm 14) (cst (.int 2)) idxD) (nmS 12) idxD) (iteM (tst (bin true (nmS 12) (bin true (nm 14) (cst (.int 1)) idxD) inD)) (bin true (nmS 9) (nmS 12) idxD) (cst (.int 0))) gtD)), (nmS 12), true, [12]⟩) (by rfl) Sc.nd (di_range1 (by rfl) T.n_range (da_cons (de_callB c_len (by rfl) T.n_len (by decide +kernel) (da_cons (de_nmS 7) da_nil)) da_nil)) (blkOk_by (own := [("one", 12)]) (N := ["script", "deal", "trading", "takers", "due", "told", "turn", "market", "sellers", "profile", "best", "less", "one", "pairs", "end", "ladder", "other"]) (sc := defScope s_law) (scope := cs_law_6) (by decide +kernel)) rfl rfl rfl (memW rfl) (fun _ _ _ _ _ => (dg_nm Sc.nd rfl (.inl rfl))) (fun _ _ _ _ _ => (dts_one (dt_cmp op_gt_d (de_ix (ix_d (u1 hr)) (de_ix (ix_d (u1 hr)) (de_nm 14) de_int (fun _ _ => rfl)) (de_nmS 12) (fun _ _ => rfl)) (de_ifE (dt_cmp (op_in_d (u65 hr)) (de_nmS 12) (de_ix (ix_d (u1 hr)) (de_nm 14) de_int (fun _ _ => rfl)) rfl) (de_ix (ix_d (u1 hr)) (de_nmS 9) (de_nmS 12) (fun _ _ => rfl)) de_int) (nobehind _ (by decide) (by decide))))) (fun _ _ _ _ _ => (de_nmS 12)))) (de_fresh (df_lst da_nil)) (nobehind _ (by decide) (by decide))) (db_one (ds_ret (df_of de_bl))) db_nil))))))))
      (db_one (ds_ret (df_call (ms := [none, none]) c_law_same (rm hr) (by rfl) T.g_law_same T.F_law_same.kp T.b_law_same (dc_cons (de_fresh (df_call (ms := [none]) c_double_clock (rm hr) (by rfl) T.g_double_clock T.F_double_clock.kp T.b_double_clock (dc_cons (de_nm 2) dc_nil))) (dc_cons (de_nm 4) dc_nil)))))))))))))) (fun _ _ h => h) (ioW (by rfl))

end
end HD
set_option Elab.async false
set_option linter.all false
set_option maxRecDepth 100000
set_option maxHeartbeats 2000000
set_option autoImplicit false
/-! HG0: working out a printed function by what is wanted of its result. -/
namespace HD
open PySem

/-- it has a result, and Q holds of it -/
def W {α : Type} (x : Option α) (Q : α → Prop) : Prop := ∃ a, x = some a ∧ Q a
section
variable {α β γ : Type} {Q : α → Prop} {x : Option α}
@[simp] theorem w_some {a : α} : W (some a) Q ↔ Q a := ⟨fun ⟨_, e, h⟩ => (by cases e; exact h), fun h => ⟨_, rfl, h⟩⟩
@[simp] theorem w_none : W (none : Option α) Q ↔ False := ⟨fun ⟨_, e, _⟩ => (by cases e), fun h => h.elim⟩
@[simp] theorem w_bind {x : Option β} {f : β → Option α} : W (x.bind f) Q ↔ W x fun b => W (f b) Q := by
  cases x <;> simp [W]
@[simp] theorem w_map {x : Option β} {f : β → α} : W (x.map f) Q ↔ W x fun b => Q (f b) := by
  cases x <;> simp [W]
@[simp] theorem w_guard {c : Prop} [Decidable c] : W (if c then x else none) Q ↔ c ∧ W x Q := by
  by_cases h : c <;> simp [h]
theorem w_ite {c : Prop} [Decidable c] {y : Option α} : W (if c then x else y) Q ↔ (c → W x Q) ∧ (¬ c → W y Q) := by
  by_cases h : c <;> simp [h]
theorem w_ite' {c : Prop} [Decidable c] {y : Option α} (h1 : c → W x Q) (h2 : ¬ c → W y Q) : W (if c then x else y) Q := w_ite.mpr ⟨h1, h2⟩
theorem W.mono {P : α → Prop} (h : W x P) (k : ∀ a, P a → Q a) : W x Q := by
  obtain ⟨a, e, p⟩ := h
  exact ⟨a, e, k a p⟩
theorem w_eq {a : α} (h : W x fun b => b = a) : x = some a := by
  obtain ⟨b, e, rfl⟩ := h
  exact e
theorem w_of {a : α} (h : x = some a) (q : Q a) : W x Q := ⟨a, h, q⟩
theorem w_ex {x : Option α} {P : α → Prop} (h : W x P) : ∃ a, x = some a ∧ P a := h
end

/-! ### bodies of defs -/
theorem w_runF {ms : List (Option Nat)} {nl : Nat} {fb : SF} {ds : List D} {Q : D × Nat × List D → Prop}
    (h : W (fb (env0 ms ds ++ List.replicate (nl - ms.length) .none)) fun o => match o with
      | .rt d n e => W (finO ms 0 e) fun outs => Q (d, n, outs)
      | .nx e => W (finO ms 0 e) fun outs => Q (.non, 0, outs)
      | _ => False) (hl : ds.length = ms.length := by rfl) : W (runF ms nl fb ds) Q := by
  unfold runF
  rw [if_pos hl, w_bind]
  refine h.mono fun o ho => ?_
  cases o <;> simp at ho ⊢ <;> exact ho
/-- what a loop's turn must come to -/
def Lp (Q : Out → Prop) (I : Env → Prop) : Out → Prop
  | .nx e => I e
  | .ct e => I e
  | .bk e => Q (.nx e)
  | .rt d n e => Q (.rt d n e)
section
variable {Q : Out → Prop} {I : Env → Prop}
@[simp] theorem lp_nx {e : Env} : Lp Q I (.nx e) ↔ I e := Iff.rfl
@[simp] theorem lp_ct {e : Env} : Lp Q I (.ct e) ↔ I e := Iff.rfl
@[simp] theorem lp_bk {e : Env} : Lp Q I (.bk e) ↔ Q (.nx e) := Iff.rfl
@[simp] theorem lp_rt {d : D} {n : Nat} {e : Env} : Lp Q I (.rt d n e) ↔ Q (.rt d n e) := Iff.rfl
end
/-- a loop over as, pre of which are done -/
theorem w_loop {α : Type} {rE : Bool} {tgt : GF} {body : SF} {enc : α → D} {Q : Out → Prop} (I : List α → Env → Prop) :
    ∀ {as pre : List α} {env : Env}, I pre env → (∀ a ∈ as, (rE || (enc a).im) = true) → (∀ (pre' : List α) (a : α) (post : List α) (e : Env), pre ++ as = pre' ++ a :: post → I pre' e → W (tgt (enc a) e) fun e1 => W (body e1) (Lp Q (I (pre' ++ [a])))) → (∀ e, I (pre ++ as) e → Q (.nx e)) →
      W (loopD rE tgt body (as.map enc) env) Q
  | [], pre, env, h0, _, _, fin => by
    rw [List.map_nil]
    unfold loopD
    rw [w_some]
    exact fin _ (by simpa using h0)
  | a :: as, pre, env, h0, hr, step, fin => by
    have ih : ∀ e, I (pre ++ [a]) e → W (loopD rE tgt body (as.map enc) e) Q := fun e he => w_loop I he (fun b hb => hr b (List.mem_cons_of_mem _ hb)) (fun pre' b post e' hp => step pre' b post e' (by rw [← hp]; simp)) (fun e' he' => fin e' (by simpa using he'))
    rw [List.map_cons]
    unfold loopD
    rw [if_pos (hr a List.mem_cons_self), w_bind]
    refine (step pre a as env rfl h0).mono fun e1 h1 => ?_
    rw [w_bind]
    refine h1.mono fun o ho => ?_
    cases o with
    | nx e => exact ih e ho
    | ct e => exact ih e ho
    | bk e => exact w_some.mpr ho
    | rt d n e => exact w_some.mpr ho
/-- the same over data as they are -/
theorem w_loopD {rE : Bool} {tgt : GF} {body : SF} {Q : Out → Prop} (I : List D → Env → Prop) {as : List D} {env : Env} (h0 : I [] env) (hr : ∀ a ∈ as, (rE || a.im) = true)
    (step : ∀ (pre' : List D) (a : D) (post : List D) (e : Env), as = pre' ++ a :: post → I pre' e → W (tgt a e) fun e1 => W (body e1) (Lp Q (I (pre' ++ [a])))) (fin : ∀ e, I as e → Q (.nx e)) : W (loopD rE tgt body as env) Q := by
  have := w_loop (enc := id) (rE := rE) (tgt := tgt) (body := body) (Q := Q) I (as := as) (pre := []) h0 hr (by simpa using step) (by simpa using fin)
  simpa using this
/-- a while by a measure -/
theorem w_whD {c : M Bool} {body : SF} {Q : Out → Prop} (I : Nat → Env → Prop) (step : ∀ n env, I n env → W (c env) fun p => if p.1 = true then W (body p.2) (Lp Q fun e => ∃ k, k < n ∧ I k e) else Q (.nx p.2)) :
    ∀ {N : Nat} (n : Nat) {env : Env}, I n env → n < N → W (whD c body N env) Q := by
  intro N
  induction N with
  | zero => intro n env _ h; omega
  | succ N ih =>
    intro n env h hn
    unfold whD
    rw [w_bind]
    refine (step n env h).mono fun p hp => ?_
    obtain ⟨b, e⟩ := p
    cases b with
    | false => simpa using hp
    | true =>
      simp only [if_true] at hp ⊢
      rw [w_bind]
      refine hp.mono fun o ho => ?_
      cases o with
      | nx e => obtain ⟨k, hk, hi⟩ := ho; exact ih k hi (by omega)
      | ct e => obtain ⟨k, hk, hi⟩ := ho; exact ih k hi (by omega)
      | bk e => exact w_some.mpr ho
      | rt d n e => exact w_some.mpr ho
/-! ### comprehensions -/
/-- by an invariant of what is made so far -/
theorem w_compL {α : Type} {c : Cmp} {enc : α → D} {Q : List D × Env → Prop} (I : List α → List D → Env → Prop) :
    ∀ {as pre : List α} {out : List D} {env : Env}, I pre out env → (∀ a ∈ as, (c.rE || (enc a).im) = true) →
      (∀ (pre' : List α) (a : α) (post : List α) (out' : List D) (e : Env), pre ++ as = pre' ++ a :: post → I pre' out' e → W (c.tgt (enc a) e) fun e1 => W (c.tst e1) fun p => if p.1 = true then W (c.elt p.2) fun q => (c.rEe || q.1.im) = true ∧ I (pre' ++ [a]) (out' ++ [q.1]) (clr q.2 c.vs) else I (pre' ++ [a]) out' (clr p.2 c.vs)) →
      (∀ out' e, I (pre ++ as) (out ++ out') e → Q (out', e)) → W (compL c (as.map enc) env) Q
  | [], pre, out, env, h0, _, _, fin => by
    rw [List.map_nil]
    unfold compL
    rw [w_some]
    exact fin _ _ (by simpa using h0)
  | a :: as, pre, out, env, h0, hr, step, fin => by
    have ih : ∀ {e : Env} {out2 : List D} {Q2 : List D × Env → Prop}, I (pre ++ [a]) out2 e → (∀ out' e, I (pre ++ [a] ++ as) (out2 ++ out') e → Q2 (out', e)) → W (compL c (as.map enc) e) Q2 := fun {e out2 Q2} he hf => w_compL I he (fun b hb => hr b (List.mem_cons_of_mem _ hb)) (fun pre' b post out' e' hp => step pre' b post out' e' (by rw [← hp]; simp)) hf
    rw [List.map_cons]
    unfold compL
    rw [if_pos (hr a List.mem_cons_self), w_bind]
    refine (step pre a as out env rfl h0).mono fun e1 h1 => ?_
    rw [w_bind]
    refine h1.mono fun p hp => ?_
    obtain ⟨b, e2⟩ := p
    cases b with
    | true =>
      simp only [if_true] at hp ⊢
      rw [w_bind]
      refine hp.mono fun q hq => ?_
      rw [if_pos hq.1, w_map]
      exact ih hq.2 fun out' e' hi => fin _ _ (by simpa using hi)
    | false =>
      simp only [Bool.false_eq_true, if_false] at hp ⊢
      exact ih hp fun out' e' hi => fin _ _ (by simpa using hi)
/-- tests and elements that change nothing -/
theorem w_compP {α : Type} {c : Cmp} {enc : α → D} {Q : List D × Env → Prop} (bt : α → Bool) (v : α → D) {as : List α} {env : Env}
    (h : ∀ a ∈ as, (c.rE || (enc a).im) = true ∧ W (c.tgt (enc a) env) fun e1 => W (c.tst e1) fun p => p.1 = bt a ∧ if bt a = true then W (c.elt p.2) fun q => q.1 = v a ∧ (c.rEe || (v a).im) = true ∧ clr q.2 c.vs = env else clr p.2 c.vs = env)
    (q : Q ((as.filter bt).map v, env)) : W (compL c (as.map enc) env) Q := by
  refine w_compL (fun pre out e => out = (pre.filter bt).map v ∧ e = env) (pre := []) (out := []) ⟨rfl, rfl⟩ (fun a ha => (h a ha).1) (fun pre' a post out' e hp hi => ?_) (fun out' e hi => ?_)
  · obtain ⟨rfl, rfl⟩ := hi
    refine ((h a (by rw [show as = pre' ++ a :: post by simpa using hp]; simp)).2).mono fun e1 h1 => h1.mono fun p hp => ?_
    obtain ⟨hb, h3⟩ := hp
    rw [hb]
    cases hbt : bt a with
    | true =>
      rw [hbt] at h3
      simp only [if_true] at h3 ⊢
      refine h3.mono fun q hq => ?_
      obtain ⟨h4, h5, h6⟩ := hq
      refine ⟨by rw [h4]; exact h5, ?_, h6⟩
      rw [List.filter_append, List.map_append, h4, List.filter_cons, hbt]
      rfl
    | false =>
      rw [hbt] at h3
      simp only [Bool.false_eq_true, if_false] at h3 ⊢
      refine ⟨?_, h3⟩
      rw [List.filter_append, List.map_append, List.filter_cons, hbt]
      simp
  · obtain ⟨h1, rfl⟩ := hi
    simp only [List.nil_append] at h1
    rw [h1]
    exact q
/-- elements that change nothing, all kept -/
theorem w_compM {α : Type} {c : Cmp} {enc : α → D} {Q : List D × Env → Prop} (v : α → D) {as : List α} {env : Env}
    (h : ∀ a ∈ as, (c.rE || (enc a).im) = true ∧ W (c.tgt (enc a) env) fun e1 => W (c.tst e1) fun p => p.1 = true ∧ W (c.elt p.2) fun q => q.1 = v a ∧ (c.rEe || (v a).im) = true ∧ clr q.2 c.vs = env)
    (q : Q (as.map v, env)) : W (compL c (as.map enc) env) Q := by
  refine w_compP (fun _ => true) v (fun a ha => ⟨(h a ha).1, (h a ha).2.mono fun e1 h1 => h1.mono fun p hp => ⟨hp.1, by simpa using hp.2⟩⟩) ?_
  rw [List.filter_eq_self.mpr fun _ _ => rfl]
  exact q
/-- what is made is related to what it is made of -/
theorem w_compA {α β : Type} {c : Cmp} {enc : α → D} {f : β → D} {Q : List D × Env → Prop} (P : α → β → Prop) (J : Env → Prop) {as : List α} {env : Env} (h0 : J env)
    (h : ∀ a ∈ as, ∀ e, J e → (c.rE || (enc a).im) = true ∧ W (c.tgt (enc a) e) fun e1 => W (c.tst e1) fun p => p.1 = true ∧ W (c.elt p.2) fun q => (c.rEe || q.1.im) = true ∧ (∃ b, q.1 = f b ∧ P a b) ∧ J (clr q.2 c.vs))
    (q : ∀ (bs : List β) (e : Env), All2 P as bs → J e → Q (bs.map f, e)) : W (compL c (as.map enc) env) Q := by
  refine w_compL (fun pre out e => J e ∧ ∃ bs, out = bs.map f ∧ All2 P pre bs) (pre := []) (out := []) ⟨h0, [], rfl, .nil⟩ (fun a ha => (h a ha env h0).1) (fun pre' a post out' e hp hi => ?_) (fun out' e hi => ?_)
  · obtain ⟨hj, bs, rfl, ha⟩ := hi
    refine ((h a (by rw [show as = pre' ++ a :: post by simpa using hp]; simp) e hj).2).mono fun e1 h1 => h1.mono fun p hp => ?_
    obtain ⟨hb, h3⟩ := hp
    rw [hb, if_pos rfl]
    refine h3.mono fun q hq => ?_
    obtain ⟨h4, ⟨b, h5, h6⟩, h7⟩ := hq
    refine ⟨h4, h7, bs ++ [b], by rw [h5]; simp, ?_⟩
    clear hp
    induction ha with
    | nil => exact .cons h6 .nil
    | cons p _ ih => exact .cons p (ih)
  · obtain ⟨hj, bs, h1, ha⟩ := hi
    simp only [List.nil_append] at h1 ha
    rw [h1]
    exact q bs e ha hj
end HD
set_option Elab.async false
set_option linter.all false
set_option maxRecDepth 100000
set_option maxHeartbeats 2000000
set_option autoImplicit false
/-! HG1: equations of the combinators and of operations on data. -/
namespace HD
open PySem
section
variable {env : Env} {st : Bool} {f f1 f2 f3 : M D} {i j : Nat} {c : M Bool} {fs : M (List D)}
@[simp] theorem e_nm : nm i env = (match env[i]? with
  | some (.shr d) => some (d, env)
  | some (.own _ d) => some (d, env)
  | _ => none) := rfl
@[simp] theorem e_nmF : nmS i env = (match env[i]? with
  | some (.shr d) => some (d, env)
  | _ => none) := rfl
@[simp] theorem e_pnm' : pnm i env = (match env[i]? with
  | some (.own n _) => if 0 < n then some ([], env) else none
  | _ => none) := rfl
@[simp] theorem e_andV : andV f1 f2 env = (f1 env).bind fun p => (asB p.1).bind fun c => if c = true then f2 p.2 else some (.bl false, p.2) := rfl
@[simp] theorem e_orV : orV f1 f2 env = (f1 env).bind fun p => (asB p.1).bind fun c => if c = true then some (.bl true, p.2) else f2 p.2 := rfl
@[simp] theorem e_iteM {α : Type} {f1 f2 : M α} : iteM c f1 f2 env = (c env).bind fun p => if p.1 = true then f1 p.2 else f2 p.2 := rfl
@[simp] theorem e_prt0 : prt0 env = some (none, env) := rfl
@[simp] theorem e_prt : prt f env = (f env).bind fun p => (asI p.1).map fun i => (some i, p.2) := rfl
@[simp] theorem e_asI (i : Int) : asI (.int i) = some i := rfl
@[simp] theorem e_slc {fl fh : M (Option Int)} : slc st f fl fh env = (f env).bind fun p => (fl p.2).bind fun q => (fh q.2).bind fun z => if (st || p.1.im) = true then (slcD p.1 q.1 z.1).map fun d => (d, z.2) else none := rfl
@[simp] theorem e_walk : walk f env = (f env).bind fun p => (seqOf p.1).map fun ds => ((ds, p.1.im), p.2) := rfl
@[simp] theorem e_wk {g : List D → Option (List D × Bool)} : wk fs g env = (fs env).bind fun p => (g p.1).map fun q => (q, p.2) := rfl
@[simp] theorem e_seqL (ds : List D) : seqOf (.lst ds) = some ds := rfl
@[simp] theorem e_seqT (ds : List D) : seqOf (.tup ds) = some ds := rfl
@[simp] theorem e_forS {rE dj' : Bool} {it : M (List D × Bool)} {tgt : GF} {body : SF} : forS rE dj' it tgt body env = (it env).bind fun p => if (dj' || p.1.2) = true then loopD rE tgt body p.1.1 p.2 else none := rfl
@[simp] theorem e_compF {dj' : Bool} {it : M (List D × Bool)} {c : Cmp} : compF dj' it c env = (it env).bind fun p => if ((dj' || p.1.2) && noOwn p.2 c.vs && decide (p.1.1.length ≤ 16777216)) = true then (compL c p.1.1 (clr p.2 c.vs)).map fun r => ((.lst r.1, 1), rst p.2 r.2 c.vs) else none := rfl
@[simp] theorem e_setS2 {h1 h2 : M (D × Nat)} : setS2 i j h1 h2 env = (h1 env).bind fun p => (h2 p.2).bind fun q => if i < q.2.length ∧ j < q.2.length ∧ i ≠ j then some (.nx ((q.2.set i (mkS p.1.1 p.1.2)).set j (mkS q.1.1 q.1.2))) else none := rfl
@[simp] theorem e_setS3 {l : Nat} {h1 h2 h3 : M (D × Nat)} : setS3 i j l h1 h2 h3 env = (h1 env).bind fun p => (h2 p.2).bind fun q => (h3 q.2).bind fun t => if i < t.2.length ∧ j < t.2.length ∧ l < t.2.length then some (.nx (((t.2.set i (mkS p.1.1 p.1.2)).set j (mkS q.1.1 q.1.2)).set l (mkS t.1.1 t.1.2))) else none := rfl
@[simp] theorem e_asgS {h : M (D × Nat)} {g : GF} : asgS h g env = (h env).bind fun p => if p.1.2 = 0 then (g p.1.1 p.2).map fun e => .nx e else none := rfl
@[simp] theorem e_mvF : mvF i env = (match env[i]? with
  | some (.own n d) => some ((d, n), env.set i .none)
  | some (.shr d) => some ((d, 0), env)
  | _ => none) := rfl
@[simp] theorem e_extS : extS i f env = (match env[i]? with
  | some (.own _ (.lst _)) => (f env).bind fun p => (seqOf p.1).bind fun es => match p.2[i]? with
    | some (.own (k + 1) (.lst ds)) => if (D.ims es && decide (ds.length + es.length ≤ 16777216)) = true then some (.nx (p.2.set i (.own (k + 1) (.lst (ds ++ es))))) else none
    | _ => none
  | _ => none) := rfl
@[simp] theorem e_brkS : brkS env = some (.bk env) := rfl
@[simp] theorem e_cntS : cntS env = some (.ct env) := rfl
@[simp] theorem e_retN : retN env = some (.rt .non 0 env) := rfl
@[simp] theorem e_freshC {d : D} {n : Nat} : freshC d n env = some ((d, n), env) := rfl
@[simp] theorem e_argsS : argsS st f fs env = (f env).bind fun p => (seqOf p.1).bind fun xs => (fs p.2).bind fun q => if (st || p.1.im) = true then some (xs ++ q.1, q.2) else none := rfl
@[simp] theorem e_lstF {k : Nat} : lstF k fs env = (fs env).map fun p => ((.lst p.1, k + 1), p.2) := rfl
@[simp] theorem e_dispM : dispM fs env = (fs env).bind fun p => if p.1.length ≤ 16777216 then some p else none := rfl
@[simp] theorem e_consM : consM f fs env = (f env).bind fun p => (fs p.2).map fun q => (p.1 :: q.1, q.2) := rfl
@[simp] theorem e_fitM {k : Nat} {h : M (D × Nat)} : fitM k h env = (h env).bind fun p => if fits k p.1.2 p.1.1 = true then some (p.1.1, p.2) else none := rfl
@[simp] theorem e_sortDkF : sortDkF f env = (f env).bind fun p => (dkeys p.1).bind fun xs => (sortD xs).map fun ys => ((.lst ys, 1), p.2) := rfl
@[simp] theorem e_dkeys (t : Nat) (kvs : List (D × D)) : dkeys (.dct t kvs) = some (kvs.map (·.1)) := rfl
@[simp] theorem e_ssetF : ssetF f env = (f env).bind fun p => (seqOf p.1).bind fun xs => (asIs xs).bind fun is => if is.length < 64 then some ((.lst ((sset is).map .int), 1), p.2) else none := rfl
@[simp] theorem e_nwF {r : List Nat} {gn : List D → Option (List D)} : nwF r fs gn env = (fs env).bind fun p => (gn p.1).bind fun ys => if (r.isEmpty || D.ims ys) = true then some ((.lst ys, 1), p.2) else none := rfl
@[simp] theorem e_nwB {r : List Nat} {g : D → D → Option (List D)} : nwB st r f1 f2 g env = (f1 env).bind fun p => (f2 p.2).bind fun q => if (st || p.1.im) = true then (g p.1 q.1).bind fun ys => if (r.isEmpty || D.ims ys) = true then some ((.lst ys, 1), q.2) else none else none := by
  unfold nwB
  simp only [e_nwF, e_argsC]
  cases f1 env with
  | none => rfl
  | some p =>
    simp only [Option.bind_some]
    cases f2 p.2 with
    | none => rfl
    | some q =>
      simp only [Option.map_some, Option.bind_some]
      split <;> rfl
@[simp] theorem e_lstN : lstN fs env = (fs env).map fun p => ((.lst p.1, 1), p.2) := rfl
@[simp] theorem e_tupN : tupN fs env = (fs env).map fun p => (.tup p.1, p.2) := rfl
@[simp] theorem e_rg1 : rg1 f env = (f env).bind fun q => (asI q.1).bind fun n => if rgok 0 n = true then some (rngD 0 n.toNat, q.2) else none := by
  unfold rg1
  cases f env with
  | none => rfl
  | some q =>
    simp only [Option.bind_some]
    cases q.1 <;> rfl
@[simp] theorem e_rg2 : rg2 f1 f2 env = (f1 env).bind fun q => (f2 q.2).bind fun z => match q.1, z.1 with
  | .int a, .int b => if rgok a b = true then some (rngD a (b - a).toNat, z.2) else none
  | _, _ => none := rfl
@[simp] theorem e_chn {g g' : D → D → Option D} : chn f1 f2 f3 g g' env = (f1 env).bind fun p => (f2 p.2).bind fun q => if (p.1.im && q.1.im) = true then (g p.1 q.1).bind fun x => (asB x).bind fun c => if c = true then (f3 q.2).bind fun z => (g' q.1 z.1).map fun d => (d, z.2) else some (.bl false, q.2) else none := by
  unfold chn
  cases f1 env with
  | none => rfl
  | some p =>
    simp only [Option.bind_some]
    cases f2 p.2 with
    | none => rfl
    | some q =>
      simp only [Option.bind_some]
      split
      · cases g p.1 q.1 with
        | none => rfl
        | some x =>
          simp only [Option.bind_some]
          cases x with
          | bl b => cases b <;> rfl
          | _ => rfl
      · rfl
section
variable {c : Prop} [Decidable c] {b : Bool} {e : Env}
@[simp high] theorem w_andD {Q : D × Env → Prop} : W (if c then some (D.bl b, e) else some (D.bl false, e)) Q ↔ Q (D.bl (decide c && b), e) := by
  by_cases h : c <;> simp [h]
@[simp high] theorem w_orD {Q : D × Env → Prop} : W (if c then some (D.bl true, e) else some (D.bl b, e)) Q ↔ Q (D.bl (decide c || b), e) := by
  by_cases h : c <;> simp [h]
@[simp high] theorem w_andB {Q : Bool × Env → Prop} : W (if c then some (b, e) else some (false, e)) Q ↔ Q (decide c && b, e) := by
  by_cases h : c <;> simp [h]
@[simp high] theorem w_orB {Q : Bool × Env → Prop} : W (if c then some (true, e) else some (b, e)) Q ↔ Q (decide c || b, e) := by
  by_cases h : c <;> simp [h]
end
@[simp low] theorem w_ifSome {α : Type} {c : Prop} [Decidable c] {a b : α} {Q : α → Prop} : W (if c then some a else some b) Q ↔ (c → Q a) ∧ (¬ c → Q b) := by
  by_cases h : c <;> simp [h]
@[simp] theorem e_gnm {d : D} : gnm i d env = if i < env.length then some (env.set i (.shr d)) else none := rfl
@[simp] theorem e_gtup {h : GsF} {ds : List D} : gtup h (.tup ds) env = h ds env := rfl
@[simp] theorem e_gnil : gnil [] env = some env := rfl
@[simp] theorem e_gcons {h : GF} {hs : GsF} {d : D} {ds : List D} : gcons h hs (d :: ds) env = (h d env).bind fun e => hs ds e := rfl
@[simp] theorem e_yes : yes env = some (true, env) := rfl
@[simp] theorem e_ioA : ioA j fs env = (match env[j]? with
  | some (.own _ _) => (fs env).map fun p => (.non :: p.1, p.2)
  | _ => none) := rfl
@[simp] theorem e_callF {ms js : List (Option Nat)} {r : List Nat} {φ : FnD} : callF ms js r φ fs env = (fs env).bind fun p => (fillA ms js p.1 p.2).bind fun full => (φ full).bind fun q =>
  if ((noOwn p.2 r || (D.sep q.2.1 q.1 && sepO ms q.2.2)) && dj r (ioJ js)) = true then some ((q.1, q.2.1), putA ms js q.2.2 p.2) else none := rfl
@[simp] theorem e_permM {n : Nat} {pm : List Nat} : permM n pm fs env = (fs env).bind fun p => if p.1.length = n then (pm.mapM fun j => p.1[j]?).map fun ds => (ds, p.2) else none := rfl
@[simp] theorem e_popPI {fp : M (List Nat)} : popPI i fp f env = (fp env).bind fun p => if lstAt i p.1 p.2 = true then (f p.2).bind fun q => (asI q.1).bind fun j => popAt i p.1 q.2 fun ds => if 0 ≤ j ∧ j < ds.length ∧ ds.length < 2 ^ 62 then some j.toNat else none else none := by
  unfold popPI
  cases fp env with
  | none => rfl
  | some p =>
    simp only [Option.bind_some]
    split
    · cases f p.2 with
      | none => rfl
      | some q =>
        simp only [Option.bind_some]
        cases q.1 <;> rfl
    · rfl
end
@[simp] theorem e_fill0 {env : Env} : fillA [] [] [] env = some [] := rfl
@[simp] theorem e_fillN {ms js : List (Option Nat)} {d : D} {ds : List D} {env : Env} : fillA (none :: ms) (none :: js) (d :: ds) env = (fillA ms js ds env).map fun r => d :: r := rfl
@[simp] theorem e_fillS {n j : Nat} {ms js : List (Option Nat)} {d : D} {ds : List D} {env : Env} : fillA (some n :: ms) (some j :: js) (d :: ds) env = (match env[j]? with
    | some (.own k d) => if k = n then (fillA ms js ds env).map fun r => d :: r else none
    | _ => none) := rfl
@[simp] theorem e_put0 {ds : List D} {env : Env} : putA [] [] ds env = env := by cases ds <;> rfl
@[simp] theorem e_putN {ms js : List (Option Nat)} {d : D} {ds : List D} {env : Env} : putA (none :: ms) (none :: js) (d :: ds) env = putA ms js ds env := rfl
@[simp] theorem e_putS {n j : Nat} {ms js : List (Option Nat)} {d : D} {ds : List D} {env : Env} : putA (some n :: ms) (some j :: js) (d :: ds) env = (putA ms js ds env).set j (.own n d) := rfl
@[simp] theorem e_sep0 {ds : List D} : sepO [] ds = true := by cases ds <;> rfl
@[simp] theorem e_sepN {ms : List (Option Nat)} {d : D} {ds : List D} : sepO (none :: ms) (d :: ds) = sepO ms ds := rfl
@[simp] theorem e_sepS {n : Nat} {ms : List (Option Nat)} {d : D} {ds : List D} : sepO (some n :: ms) (d :: ds) = (D.sep n d && sepO ms ds) := rfl
@[simp] theorem e_fin0 {i : Nat} {env : Env} : finO [] i env = some [] := rfl
@[simp] theorem e_finN {ms : List (Option Nat)} {i : Nat} {env : Env} : finO (none :: ms) i env = (finO ms (i + 1) env).map fun r => .non :: r := rfl
@[simp] theorem e_finS {n : Nat} {ms : List (Option Nat)} {i : Nat} {env : Env} : finO (some n :: ms) i env = (match env[i]? with
    | some (.own k d) => if k = n then (finO ms (i + 1) env).map fun r => d :: r else none
    | _ => none) := rfl
@[simp] theorem e_no0 {env : Env} : noOwn env [] = true := rfl
@[simp] theorem e_noC {env : Env} {v : Nat} {vs : List Nat} : noOwn env (v :: vs) = ((match env[v]? with
  | some (.own _ _) => false
  | some _ => true
  | none => false) && noOwn env vs) := rfl
@[simp] theorem e_ioJ0 : ioJ [] = [] := rfl
@[simp] theorem e_ioJN {js : List (Option Nat)} : ioJ (none :: js) = ioJ js := rfl
@[simp] theorem e_ioJS {j : Nat} {js : List (Option Nat)} : ioJ (some j :: js) = j :: ioJ js := rfl
@[simp] theorem e_clr0 {env : Env} : clr env [] = env := rfl
@[simp] theorem e_clrC {env : Env} {v : Nat} {vs : List Nat} : clr env (v :: vs) = (clr env vs).set v .none := rfl
@[simp] theorem e_rst0 {env e : Env} : rst e env [] = env := rfl
@[simp] theorem e_rstC {env e : Env} {v : Nat} {vs : List Nat} : rst e env (v :: vs) = (rst e env vs).set v ((e[v]?).getD .none) := rfl
@[simp] theorem e_dj0 {m : List Nat} : dj [] m = true := rfl
@[simp] theorem e_djC {i : Nat} {r m : List Nat} : dj (i :: r) m = (!m.contains i && dj r m) := rfl
@[simp] theorem e_nones0 : nones 0 = [] := rfl
@[simp] theorem e_nonesS (n : Nat) : nones (n + 1) = none :: nones n := rfl
@[simp] theorem e_mk0 (d : D) : mkS d 0 = .shr d := rfl
@[simp] theorem e_mkS (d : D) (n : Nat) : mkS d (n + 1) = .own (n + 1) d := rfl
@[simp] theorem e_env00 {ds : List D} : env0 [] ds = [] := by cases ds <;> rfl
@[simp] theorem e_env0N {ms : List (Option Nat)} {d : D} {ds : List D} : env0 (none :: ms) (d :: ds) = .shr d :: env0 ms ds := rfl
@[simp] theorem e_env0S {n : Nat} {ms : List (Option Nat)} {d : D} {ds : List D} : env0 (some n :: ms) (d :: ds) = mkS d n :: env0 ms ds := rfl
@[simp] theorem e_rep0 {α : Type} (a : α) : List.replicate 0 a = [] := rfl
@[simp] theorem e_repS {α : Type} (n : Nat) (a : α) : List.replicate (n + 1) a = a :: List.replicate n a := rfl
@[simp] theorem e_frz0 {env : Env} : frz [] env = env := rfl
@[simp] theorem e_frzC {i : Nat} {r : List Nat} {env : Env} : frz (i :: r) env = (frz r env).set i (match (frz r env)[i]? with | some s => frzS s | none => .none) := rfl
@[simp] theorem e_frzS1 (d : D) (n : Nat) : frzS (.own n d) = .shr d := rfl
@[simp] theorem e_frzS2 (d : D) : frzS (.shr d) = .shr d := rfl
@[simp] theorem e_frzS3 : frzS .none = .none := rfl
/-! ### data -/
@[simp] theorem d_ims_map {α : Type} (f : α → D) (l : List α) : D.ims (l.map f) = l.all fun a => (f a).im := by
  induction l with
  | nil => rfl
  | cons a l ih => simp [ih]
@[simp] theorem d_ims_app (a b : List D) : D.ims (a ++ b) = (D.ims a && D.ims b) := by
  induction a with
  | nil => simp
  | cons x a ih => simp [ih, Bool.and_assoc]
@[simp] theorem d_im_str (x : Str) : (D.str x).im = true := rfl
@[simp] theorem d_im_dct (t : Nat) (kvs : List (D × D)) : (D.dct t kvs).im = false := rfl
@[simp] theorem d_lenL (xs : List D) : lenD (.lst xs) = some (.int xs.length) := rfl
@[simp] theorem d_lenT (xs : List D) : lenD (.tup xs) = some (.int xs.length) := rfl
@[simp] theorem d_lenK (t : Nat) (xs : List (D × D)) : lenD (.dct t xs) = some (.int xs.length) := rfl
@[simp] theorem d_addT (a b : List D) : addD (.tup a) (.tup b) = if a.length + b.length ≤ 16777216 then some (.tup (a ++ b)) else none := rfl
@[simp] theorem d_addL (a b : List D) : addD (.lst a) (.lst b) = if a.length + b.length ≤ 16777216 then some (.lst (a ++ b)) else none := rfl
@[simp] theorem d_modI (i j : Int) : modD (.int i) (.int j) = if 0 < j then some (.int (i % j)) else none := rfl
@[simp] theorem d_fdivI (i j : Int) : fdivD (.int i) (.int j) = if dvB j = true then some (.int (i / j)) else none := rfl
@[simp] theorem dv_lit {j : Int} (h : 0 < j) (h2 : j ≤ 1000000000000000000) : dvB j = true := by
  rw [dvB_iff]
  omega
theorem dv_of {j : Int} (h : 0 < j) (h2 : j < 2 ^ 190) : dvB j = true := by
  rw [dvB_iff]
  omega
@[simp] theorem sm_lit {j : Int} (h : -1000000000000000000 ≤ j) (h2 : j ≤ 1000000000000000000) : smB j = true := by
  rw [smB_iff]
  omega
@[simp] theorem d_tupD (ds : List D) : tupD ds = if ds.length ≤ 16777216 then some (.tup ds) else none := rfl
@[simp] theorem d_lstD (ds : List D) : lstD ds = if ds.length ≤ 16777216 then some (.lst ds) else none := rfl
@[simp] theorem d_tupleL (xs : List D) : tupleD (.lst xs) = some (.tup xs) := rfl
@[simp] theorem d_tupleT (xs : List D) : tupleD (.tup xs) = some (.tup xs) := rfl
@[simp] theorem d_two (g : D → D → Option D) (d e : D) : two g [d, e] = g d e := rfl
@[simp] theorem d_intB (b : Bool) : intD (.bl b) = some (.int (if b then 1 else 0)) := rfl
@[simp] theorem d_notD (b : Bool) : notD (.bl b) = some (.bl (!b)) := rfl
@[simp] theorem d_fits (k n : Nat) (d : D) : fits k n d = (n == k || d.im) := rfl
@[simp] theorem d_seq1 (g : List D → Option (List D)) (d : D) : seq1 g [d] = (seqOf d).bind g := rfl
@[simp] theorem d_slcT (xs : List D) (lo hi : Option Int) : slcD (.tup xs) lo hi = some (.tup (cutD xs lo hi)) := rfl
@[simp] theorem d_slcL (xs : List D) (lo hi : Option Int) : slcD (.lst xs) lo hi = some (.lst (cutD xs lo hi)) := rfl
theorem asBs_mapf {α : Type} (f : α → Bool) (l : List α) : asBs (l.map fun a => D.bl (f a)) = some (l.map f) := by
  have h := asBs_map (l.map f)
  rw [List.map_map] at h
  exact h
theorem asIs_mapf {α : Type} (f : α → Int) (l : List α) : asIs (l.map fun a => D.int (f a)) = some (l.map f) := by
  have h := asIs_map (l.map f)
  rw [List.map_map] at h
  exact h
@[simp] theorem asBs_map' (l : List Bool) : asBs (l.map D.bl) = some l := asBs_map l
@[simp] theorem asIs_map' (l : List Int) : asIs (l.map D.int) = some l := asIs_map l
@[simp] theorem d_allL (xs : List D) : allD (.lst xs) = (asBs xs).map fun bs => .bl (bs.all id) := rfl
@[simp] theorem d_anyL (xs : List D) : anyD (.lst xs) = (asBs xs).map fun bs => .bl (bs.any id) := rfl
@[simp] theorem d_sumL (xs : List D) : sumD (.lst xs) = (asIs xs).map fun is => .int is.sum := rfl
theorem sm_nat {n : Nat} (h : n ≤ 1000000000) : smB (n : Int) = true := smB_of (by omega)
@[simp] theorem d_rng1 (d : D) : rng1 [d] = (asI d).bind fun j => if smB j = true then some (rngD 0 j.toNat, true) else none := by
  cases d <;> rfl
@[simp] theorem d_mulI (i j : Int) : mulD (.int i) (.int j) = if (smB i || smB j) = true then some (.int (i * j)) else none := rfl
@[simp] theorem d_zipL (xs ys : List D) : zip2 [.lst xs, .lst ys] = some (List.zipWith pairD xs ys, false) := rfl
@[simp] theorem d_zipT (xs ys : List D) : zip2 [.tup xs, .tup ys] = some (List.zipWith pairD xs ys, D.ims xs && D.ims ys) := rfl
@[simp] theorem d_enumL (xs : List D) : enum1 [.lst xs] = some (xs.mapIdx fun (i : Nat) x => pairD (.int (i : Int)) x, false) := rfl
@[simp] theorem d_enumT (xs : List D) : enum1 [.tup xs] = some (xs.mapIdx fun (i : Nat) x => pairD (.int (i : Int)) x, D.ims xs) := rfl
/-! small numbers -/
def eN (n : Nat) : D := .int n
@[simp] theorem eN_im (n : Nat) : (eN n).im = true := rfl
@[simp] theorem eN_fold (n : Nat) : D.int (n : Int) = eN n := rfl
@[simp] theorem rng_eN (n : Nat) : rngD 0 n = (List.range n).map eN := by
  unfold rngD
  refine List.map_congr_left fun k _ => ?_
  show D.int (0 + (k : Int)) = .int k
  rw [Int.zero_add]
end HD
set_option Elab.async false
set_option linter.all false
set_option maxRecDepth 100000
set_option maxHeartbeats 2000000
set_option autoImplicit false
/-! HG2: operations on encoded data. -/
namespace HD
open PySem
/-! ### zip, slices, indices -/
theorem zw {α β : Type} (f : α → D) (g : β → D) : ∀ (l : List α) (m : List β), List.zipWith pairD (l.map f) (m.map g) = (l.zip m).map fun p => pairD (f p.1) (g p.2)
  | [], _ => by simp
  | _ :: _, [] => by simp
  | a :: l, b :: m => by simp [zw f g l m]
theorem mapIdx_eq {α : Type} (f : α → D) : ∀ (l : List α) (k : Nat), ((l.map f).mapIdx fun (i : Nat) x => pairD (.int ((i + k : Nat) : Int)) x) = ((List.range' k l.length).zip l).map fun p => pairD (eN p.1) (f p.2)
  | [], _ => rfl
  | a :: l, k => by
    simp only [List.map_cons, List.mapIdx_cons, List.length_cons, List.range'_succ, List.zip_cons_cons, Nat.zero_add]
    congr 1
    rw [← mapIdx_eq f l (k + 1)]
    refine congrArg (fun g => List.mapIdx g (l.map f)) ?_
    funext i x
    rw [show i + 1 + k = i + (k + 1) by omega]
theorem enum_eq {α : Type} (f : α → D) (l : List α) : ((l.map f).mapIdx fun (i : Nat) x => pairD (eN i) x) = ((List.range l.length).zip l).map fun p => pairD (eN p.1) (f p.2) := by
  have := mapIdx_eq f l 0
  rw [← List.range_eq_range'] at this
  exact this
theorem cut_from {xs : List D} {n : Nat} : cutD xs (some (n : Int)) none = xs.drop n := by
  unfold cutD
  rw [HT.sIx_none, HT.sIx_nat]
  by_cases h : n ≤ xs.length
  · rw [Nat.min_eq_left h, List.take_of_length_le (by simp)]
  · rw [Nat.min_eq_right (by omega), List.drop_of_length_le (Nat.le_refl _), List.drop_of_length_le (by omega)]
    simp
theorem cut_upto {xs : List D} {n : Nat} : cutD xs none (some (n : Int)) = xs.take n := by
  unfold cutD
  rw [HT.sIx_none, HT.sIx_nat, List.drop_zero]
  by_cases h : n ≤ xs.length
  · rw [Nat.min_eq_left h]; rfl
  · rw [Nat.min_eq_right (by omega), List.take_of_length_le (by omega), List.take_of_length_le (by omega)]
@[simp] theorem cut_fromN {xs : List D} {n : Nat} : cutD xs (some (n : Int)) none = xs.drop n := cut_from
@[simp] theorem cut_uptoN {xs : List D} {n : Nat} : cutD xs none (some (n : Int)) = xs.take n := cut_upto
@[simp] theorem cut_from1 {xs : List D} : cutD xs (some 1) none = xs.tail := by
  rw [← List.drop_one]
  exact cut_from (n := 1)
@[simp] theorem cut_fromS {xs : List D} {n : Nat} : cutD xs (some ((n : Int) + 1)) none = xs.drop (n + 1) := cut_from (n := n + 1)
@[simp] theorem cut_upto1 {xs : List D} : cutD xs none (some 1) = xs.take 1 := cut_upto (n := 1)
@[simp] theorem cut_last {xs : List D} : cutD xs (some (-1)) none = xs.drop (xs.length - 1) := by
  unfold cutD
  rw [HT.sIx_none]
  have : HT.sIx xs.length 0 (some (-1)) = xs.length - 1 := by
    show (if (-1 : Int) < 0 then ((-1 : Int) + (xs.length : Int)).toNat else min (-1 : Int).toNat xs.length) = _
    rw [if_pos (by omega)]
    omega
  rw [this, List.take_of_length_le (by simp)]
@[simp] theorem cut_butlast {xs : List D} : cutD xs none (some (-1)) = xs.dropLast := by
  unfold cutD
  rw [HT.sIx_none]
  have : HT.sIx xs.length xs.length (some (-1)) = xs.length - 1 := by
    show (if (-1 : Int) < 0 then ((-1 : Int) + (xs.length : Int)).toNat else min (-1 : Int).toNat xs.length) = _
    rw [if_pos (by omega)]
    omega
  rw [this, List.drop_zero, List.dropLast_eq_take]
  simp
theorem atI_nat {xs : List D} {j : Nat} : L2.atI xs (j : Int) = xs[j]? := by
  unfold L2.atI L2.ixN
  rw [if_pos (by omega)]
  by_cases h : j < xs.length
  · rw [if_pos (by omega), Int.toNat_natCast]
    rfl
  · rw [if_neg (by omega), List.getElem?_eq_none (by omega)]
    rfl
theorem atI_last {xs : List D} : L2.atI xs (-1) = xs.getLast? := by
  unfold L2.atI L2.ixN
  rw [if_neg (by omega)]
  cases xs with
  | nil => rfl
  | cons a l =>
    rw [if_pos (by simp; omega)]
    show (a :: l)[((-1 : Int) + ((a :: l).length : Nat)).toNat]? = _
    rw [List.getLast?_eq_getElem?]
    congr 1
    simp
    omega
@[simp] theorem d_ixTN {xs : List D} {j : Nat} : idxD (.tup xs) (eN j) = xs[j]? := atI_nat
@[simp] theorem d_ixLN {xs : List D} {j : Nat} : idxD (.lst xs) (eN j) = xs[j]? := atI_nat
@[simp] theorem d_ixT0 {xs : List D} : idxD (.tup xs) (.int 0) = xs[0]? := atI_nat (j := 0)
@[simp] theorem d_ixT1 {xs : List D} : idxD (.tup xs) (.int 1) = xs[1]? := atI_nat (j := 1)
@[simp] theorem d_ixT2 {xs : List D} : idxD (.tup xs) (.int 2) = xs[2]? := atI_nat (j := 2)
@[simp] theorem d_ixT3 {xs : List D} : idxD (.tup xs) (.int 3) = xs[3]? := atI_nat (j := 3)
@[simp] theorem d_ixL0 {xs : List D} : idxD (.lst xs) (.int 0) = xs[0]? := atI_nat (j := 0)
@[simp] theorem d_ixL1 {xs : List D} : idxD (.lst xs) (.int 1) = xs[1]? := atI_nat (j := 1)
@[simp] theorem d_ixL2 {xs : List D} : idxD (.lst xs) (.int 2) = xs[2]? := atI_nat (j := 2)
@[simp] theorem d_ixTm {xs : List D} : idxD (.tup xs) (.int (-1)) = xs.getLast? := atI_last
@[simp] theorem d_ixLm {xs : List D} : idxD (.lst xs) (.int (-1)) = xs.getLast? := atI_last
theorem d_ixTi {xs : List D} (i : Int) (h : 0 ≤ i) : idxD (.tup xs) (.int i) = xs[i.toNat]? := by
  obtain ⟨j, rfl⟩ := Int.eq_ofNat_of_zero_le h
  exact atI_nat
/-! ### equality -/
@[simp] theorem q_int (i j : Int) : D.eqv (.int i) (.int j) = decide (i = j) := by
  show (i == j) = _
  by_cases h : i = j <;> simp [h]
@[simp] theorem q_nat (i j : Nat) : D.eqv (eN i) (eN j) = decide (i = j) := by
  show D.eqv (.int i) (.int j) = _
  rw [q_int]
  by_cases h : i = j
  · simp [h]
  · have : ¬ (i : Int) = j := by omega
    simp [h, this]
@[simp] theorem q_natI (i : Nat) (j : Int) : D.eqv (eN i) (.int j) = decide ((i : Int) = j) := q_int _ _
@[simp] theorem q_intN (i : Int) (j : Nat) : D.eqv (.int i) (eN j) = decide (i = (j : Int)) := q_int _ _
@[simp] theorem q_bl (a b : Bool) : D.eqv (.bl a) (.bl b) = (a == b) := rfl
@[simp] theorem q_str (a b : Str) : D.eqv (.str a) (.str b) = (a == b) := rfl
@[simp] theorem q_non : D.eqv .non .non = true := rfl
@[simp] theorem q_tup (a b : List D) : D.eqv (.tup a) (.tup b) = D.eqvs a b := rfl
@[simp] theorem q_lst (a b : List D) : D.eqv (.lst a) (.lst b) = D.eqvs a b := rfl
@[simp] theorem q_tl (a b : List D) : D.eqv (.tup a) (.lst b) = false := rfl
@[simp] theorem q_lt (a b : List D) : D.eqv (.lst a) (.tup b) = false := rfl
@[simp] theorem qs_nn : D.eqvs [] [] = true := rfl
@[simp] theorem qs_nc (b : D) (bs : List D) : D.eqvs [] (b :: bs) = false := rfl
@[simp] theorem qs_cn (a : D) (as : List D) : D.eqvs (a :: as) [] = false := rfl
@[simp] theorem qs_cc (a b : D) (as bs : List D) : D.eqvs (a :: as) (b :: bs) = (D.eqv a b && D.eqvs as bs) := rfl
theorem qs_nil (a : List D) : D.eqvs a [] = a.isEmpty := by cases a <;> rfl
theorem qs_nil' (a : List D) : D.eqvs [] a = a.isEmpty := by cases a <;> rfl
@[simp] theorem qs_map0 {α : Type} (f : α → D) (a : List α) : D.eqvs (a.map f) [] = a.isEmpty := by cases a <;> rfl
theorem qs_map {α : Type} [DecidableEq α] {f : α → D} (hf : ∀ a b, D.eqv (f a) (f b) = decide (a = b)) : ∀ (l m : List α), D.eqvs (l.map f) (m.map f) = decide (l = m)
  | [], [] => by simp
  | [], b :: m => by simp
  | a :: l, [] => by simp
  | a :: l, b :: m => by
    simp [hf, qs_map hf l m]
@[simp] theorem qs_ints (l m : List Int) : D.eqvs (l.map .int) (m.map .int) = decide (l = m) := qs_map q_int l m
@[simp] theorem qs_nats (l m : List Nat) : D.eqvs (l.map eN) (m.map eN) = decide (l = m) := qs_map q_nat l m
@[simp] theorem k_int (n : Nat) (i : Int) : D.okE n (.int i) = true := by cases n <;> rfl
@[simp] theorem k_nat (n i : Nat) : D.okE n (eN i) = true := by cases n <;> rfl
@[simp] theorem k_bl (n : Nat) (i : Bool) : D.okE n (.bl i) = true := by cases n <;> rfl
@[simp] theorem k_non (n : Nat) : D.okE n .non = true := by cases n <;> rfl
@[simp] theorem k_tup (n : Nat) (ds : List D) : D.okE (n + 1) (.tup ds) = (D.okEs n ds && decide (ds.length ≤ 16777216)) := rfl
@[simp] theorem k_lst (n : Nat) (ds : List D) : D.okE (n + 1) (.lst ds) = (D.okEs n ds && decide (ds.length ≤ 16777216)) := rfl
@[simp] theorem ks_nil (n : Nat) : D.okEs n [] = true := rfl
@[simp] theorem ks_cons (n : Nat) (d : D) (ds : List D) : D.okEs n (d :: ds) = (D.okE n d && D.okEs n ds) := rfl
@[simp] theorem ks_map {α : Type} (n : Nat) (f : α → D) (l : List α) : D.okEs n (l.map f) = l.all fun a => D.okE n (f a) := by
  induction l with
  | nil => rfl
  | cons a l ih => simp [ih]
@[simp] theorem ks_app (n : Nat) (a b : List D) : D.okEs n (a ++ b) = (D.okEs n a && D.okEs n b) := by
  induction a with
  | nil => simp
  | cons x a ih => simp [ih, Bool.and_assoc]
theorem d_eq (x y : D) : eqD x y = if (D.okE 62 x && D.okE 62 y) = true then some (.bl (D.eqv x y)) else none := rfl
theorem d_ne (x y : D) : neD x y = if (D.okE 62 x && D.okE 62 y) = true then some (.bl (!D.eqv x y)) else none := rfl
@[simp] theorem d_eqTT (a b : List D) : eqD (.tup a) (.tup b) = if (D.okE 62 (.tup a) && D.okE 62 (.tup b)) = true then some (.bl (D.eqv (.tup a) (.tup b))) else none := rfl
@[simp] theorem d_eqLL (a b : List D) : eqD (.lst a) (.lst b) = if (D.okE 62 (.lst a) && D.okE 62 (.lst b)) = true then some (.bl (D.eqv (.lst a) (.lst b))) else none := rfl
@[simp] theorem d_neTT (a b : List D) : neD (.tup a) (.tup b) = if (D.okE 62 (.tup a) && D.okE 62 (.tup b)) = true then some (.bl (!D.eqv (.tup a) (.tup b))) else none := rfl
@[simp] theorem d_neLL (a b : List D) : neD (.lst a) (.lst b) = if (D.okE 62 (.lst a) && D.okE 62 (.lst b)) = true then some (.bl (!D.eqv (.lst a) (.lst b))) else none := rfl
@[simp] theorem d_neI (i j : Int) : neD (.int i) (.int j) = some (.bl (!decide (i = j))) := by
  rw [d_ne]
  simp
@[simp] theorem d_eqN (i j : Nat) : eqD (eN i) (eN j) = some (.bl (decide (i = j))) := by
  rw [d_eq]
  simp
@[simp] theorem d_neN (i j : Nat) : neD (eN i) (eN j) = some (.bl (!decide (i = j))) := by
  rw [d_ne]
  simp
@[simp] theorem d_eqNI (i : Nat) (j : Int) : eqD (eN i) (.int j) = some (.bl (decide ((i : Int) = j))) := by
  rw [d_eq]
  simp
@[simp] theorem d_eqIN (i : Int) (j : Nat) : eqD (.int i) (eN j) = some (.bl (decide (i = (j : Int)))) := by
  rw [d_eq]
  simp
@[simp] theorem d_neNI (i : Nat) (j : Int) : neD (eN i) (.int j) = some (.bl (!decide ((i : Int) = j))) := by
  rw [d_ne]
  simp
/-! ### small numbers -/
@[simp] theorem n_addN (a b : Nat) : addD (eN a) (eN b) = some (eN (a + b)) := rfl
@[simp] theorem n_addI (a : Nat) (j : Int) : addD (eN a) (.int j) = some (.int (a + j)) := rfl
@[simp] theorem n_addI' (a : Nat) (j : Int) : addD (.int j) (eN a) = some (.int (j + a)) := rfl
@[simp] theorem n_add1 (a : Nat) : D.int ((a : Int) + 1) = eN (a + 1) := rfl
@[simp] theorem n_1add (a : Nat) : D.int (1 + (a : Int)) = eN (1 + a) := rfl
@[simp] theorem n_subN (a b : Nat) : subD (eN a) (eN b) = some (.int (a - b)) := rfl
@[simp] theorem n_subI (a : Nat) (j : Int) : subD (eN a) (.int j) = some (.int (a - j)) := rfl
@[simp] theorem n_subI' (a : Nat) (j : Int) : subD (.int j) (eN a) = some (.int (j - a)) := rfl
@[simp] theorem n_mulN (a b : Nat) : mulD (eN a) (eN b) = if (smB a || smB b) = true then some (eN (a * b)) else none := by
  have h : D.int ((a : Int) * b) = eN (a * b) := by
    unfold eN
    rw [Int.natCast_mul]
  rw [← h]
  rfl
@[simp] theorem n_mulNI (a : Nat) (j : Int) : mulD (eN a) (.int j) = if (smB a || smB j) = true then some (.int (a * j)) else none := rfl
@[simp] theorem n_mulIN (a : Nat) (j : Int) : mulD (.int j) (eN a) = if (smB j || smB a) = true then some (.int (j * a)) else none := rfl
@[simp] theorem n_fdivI (a : Nat) (j : Int) : fdivD (eN a) (.int j) = if dvB j = true then some (.int (a / j)) else none := rfl
@[simp] theorem n_modI (a : Nat) (j : Int) : modD (eN a) (.int j) = if 0 < j then some (.int (a % j)) else none := rfl
@[simp] theorem n_cmpN (p : Int → Int → Bool) (a b : Nat) : cmpD p (eN a) (eN b) = some (.bl (p a b)) := rfl
@[simp] theorem n_cmpI (p : Int → Int → Bool) (a : Nat) (j : Int) : cmpD p (eN a) (.int j) = some (.bl (p a j)) := rfl
@[simp] theorem n_cmpI' (p : Int → Int → Bool) (a : Nat) (j : Int) : cmpD p (.int j) (eN a) = some (.bl (p j a)) := rfl
@[simp] theorem n_int (a : Nat) : intD (eN a) = some (eN a) := rfl
@[simp] theorem n_asI (a : Nat) : asI (eN a) = some (a : Int) := rfl
@[simp] theorem n_neg (a : Nat) : negD (eN a) = some (.int (-a)) := rfl
theorem asIs_nats (l : List Nat) : asIs (l.map eN) = some (l.map fun n : Nat => (n : Int)) := asIs_mapf (fun n : Nat => (n : Int)) l
theorem rgok_nat {a : Nat} (h : a ≤ 1000000) : rgok 0 (a : Int) = true := by
  unfold rgok
  rw [Bool.and_eq_true, Bool.and_eq_true, decide_eq_true_eq, smB_iff, smB_iff]
  omega
/-! ### in -/
@[simp] theorem flat_int (i : Int) : (D.int i).flat = true := rfl
@[simp] theorem flat_nat (i : Nat) : (eN i).flat = true := rfl
theorem inT_nat (b : Nat) (l : List Nat) : inB (eN b) (.tup (l.map eN)) = some (decide (b ∈ l)) := by
  show (if (true && (l.map eN).all D.flat) = true then some ((l.map eN).any fun z => D.eqv z (eN b)) else none) = _
  rw [if_pos (by simp)]
  congr 1
  rw [Bool.eq_iff_iff]
  simp
theorem inL_nat (b : Nat) (l : List Nat) : inB (eN b) (.lst (l.map eN)) = some (decide (b ∈ l)) := by
  show (if (D.okE 62 (eN b) && D.okEs 62 (l.map eN)) = true then some ((l.map eN).any fun z => D.eqv z (eN b)) else none) = _
  rw [if_pos (by simp)]
  congr 1
  rw [Bool.eq_iff_iff]
  simp
theorem inT_int (b : Int) (l : List Int) : inB (.int b) (.tup (l.map .int)) = some (decide (b ∈ l)) := by
  show (if (true && (l.map D.int).all D.flat) = true then some ((l.map D.int).any fun z => D.eqv z (.int b)) else none) = _
  rw [if_pos (by simp)]
  congr 1
  rw [Bool.eq_iff_iff]
  simp
@[simp] theorem d_inT (b : Nat) (l : List Nat) : inD (eN b) (.tup (l.map eN)) = some (.bl (decide (b ∈ l))) := by
  unfold inD
  rw [inT_nat]
  rfl
@[simp] theorem d_inL (b : Nat) (l : List Nat) : inD (eN b) (.lst (l.map eN)) = some (.bl (decide (b ∈ l))) := by
  unfold inD
  rw [inL_nat]
  rfl
@[simp] theorem d_ninT (b : Nat) (l : List Nat) : ninD (eN b) (.tup (l.map eN)) = some (.bl (!decide (b ∈ l))) := by
  unfold ninD
  rw [inT_nat]
  rfl
@[simp] theorem d_ninL (b : Nat) (l : List Nat) : ninD (eN b) (.lst (l.map eN)) = some (.bl (!decide (b ∈ l))) := by
  unfold ninD
  rw [inL_nat]
  rfl
@[simp] theorem d_inTI (b : Int) (l : List Int) : inD (.int b) (.tup (l.map .int)) = some (.bl (decide (b ∈ l))) := by
  unfold inD
  rw [inT_int]
  rfl
@[simp] theorem d_inTNI (b : Nat) (l : List Int) : inD (eN b) (.tup (l.map .int)) = some (.bl (decide ((b : Int) ∈ l))) := d_inTI b l
/-! ### separate -/
@[simp] theorem s_0 (d : D) : D.sep 0 d = d.im := by cases d <;> rfl
@[simp] theorem s_lst (n : Nat) (ds : List D) : D.sep (n + 1) (.lst ds) = D.seps n ds := rfl
@[simp] theorem s_nil (n : Nat) : D.seps n [] = true := by cases n <;> rfl
@[simp] theorem s_cons (n : Nat) (d : D) (ds : List D) : D.seps n (d :: ds) = (D.sep n d && D.seps n ds) := by cases n <;> rfl
@[simp] theorem s_map {α : Type} (n : Nat) (f : α → D) (l : List α) : D.seps n (l.map f) = l.all fun a => D.sep n (f a) := by
  induction l with
  | nil => simp
  | cons a l ih => simp [ih]
@[simp] theorem s_int (n : Nat) (i : Int) : D.sep n (.int i) = true := by cases n <;> rfl
@[simp] theorem s_nat (n i : Nat) : D.sep n (eN i) = true := by cases n <;> rfl
end HD
set_option Elab.async false
set_option linter.all false
set_option maxRecDepth 100000
set_option maxHeartbeats 2000000
set_option autoImplicit false
/-! MQ: draws, by what is wanted of them. -/
namespace HD
open PySem
def encD (cs : List Int) (b : Int) : D := .lst [.lst (cs.map .int), .int b]
/-- a source of draws -/
structure Dl where
  cs : List Int
  b : Int
  h : cs.length ≤ 48
def eDl (x : Dl) : D := encD x.cs x.b
@[simp] theorem s_eDl (x : Dl) : D.sep 2 (eDl x) = true := by
  unfold eDl encD
  simp
theorem d_absI (i : Int) : absD (.int i) = some (.int (if i < 0 then -i else i)) := rfl
theorem w_draw {ns : List Int} {salt : Int} {Q : D × Nat × List D → Prop} (q : ∀ y : Dl, Q (eDl y, 2, [.non, .non])) : W (phi_law_draw [.scr ns, .int salt]) Q := by
  unfold phi_law_draw
  refine w_runF ?_
  have hcut : ∀ xs : List D, cutD xs none (some 48) = xs.take 48 := fun xs => cut_upto (n := 48)
  have hsl : slcD (.scr ns) none (some 48) = some (.lst ((ns.take 48).map .int)) := by
    show some (D.lst (cutD (ns.map D.int) none (some 48))) = _
    rw [hcut, List.map_take]
  simp only [sf_law_draw]
  simp [hsl]
  refine ⟨by omega, ?_⟩
  rw [← List.map_take]
  refine w_compM (fun i => .int (if i < 0 then -i else i)) (fun i _ => by simp [d_absI]) ?_
  have hc : ∃ cells : List Int, cells.length ≤ 48 ∧ (ns.take 48).map (fun i => D.int (if i < 0 then -i else i)) = cells.map .int := ⟨(ns.take 48).map fun i => if i < 0 then -i else i, by simp; omega, by rw [List.map_map]; rfl⟩
  obtain ⟨cells, hcl, hce⟩ := hc
  rw [hce]
  simp [k_law_draw_3]
  simp [k_law_draw_2]
  refine w_loop (fun pre e => ∃ y s, (s = .none ∨ ∃ d, s = .shr d) ∧ e = [.shr (.scr ns), .shr (.int salt), .own 1 (.lst (cells.map .int)), .shr (.int y), s]) (pre := []) ⟨_, _, .inl rfl, rfl⟩ (fun a _ => by simp) (fun pre a post e hp ⟨y, s, hs, he⟩ => ?_) (fun e ⟨y, s, hs, he⟩ => ?_)
  · subst he
    simp [b_law_draw_0]
  · subst he
    have hp : powD (.int 10) (.int 18) = some (.int (10 ^ 18)) := by rfl
    simp [k_law_draw_1, hp]
    refine ⟨⟨by rcases hs with rfl | ⟨d, rfl⟩ <;> rfl, by omega⟩, ?_⟩
    refine w_compP (fun i => decide (10 ^ 18 ≤ i)) .int (fun i _ => by simp [hp]) ?_
    simp [asL]
    rw [← List.map_reverse]
    exact q ⟨(cells.filter fun i => decide (10 ^ 18 ≤ i)).reverse, y, by rw [List.length_reverse]; exact Nat.le_trans (List.length_filter_le _ _) hcl⟩
theorem w_anyI {bound : Int} {x : Dl} {Q : D × Nat × List D → Prop} (h0 : 0 < bound) (hb : bound < 2 ^ 190) (q : ∀ (r : Nat) (y : Dl), (r : Int) < bound → Q (eN r, 0, [eDl y, .non])) : W (phi_law_any [eDl x, .int bound]) Q := by
  obtain ⟨cs, b, hl⟩ := x
  unfold phi_law_any
  refine w_runF ?_
  have fin : ∀ z : Int, ∃ r : Nat, (r : Int) < bound ∧ D.int (z % bound) = eN r := fun z => by
    have h1 := Int.emod_nonneg z (show bound ≠ 0 by omega)
    have h2 := Int.emod_lt_of_pos z h0
    refine ⟨(z % bound).toNat, by omega, ?_⟩
    unfold eN
    rw [Int.toNat_of_nonneg h1]
  have hb' := dv_of h0 hb
  simp [sf_law_any, eDl, encD]
  refine w_whD (fun n e => ∃ cs : List Int, n = cs.length ∧ cs.length ≤ 48 ∧ e = [.own 2 (.lst [.lst (cs.map .int), .int b]), .shr (.int bound), .none]) (fun n e ⟨cs, hn, hl, he⟩ => ?_) cs.length ⟨cs, rfl, hl, rfl⟩ (by unfold WF; omega)
  subst he
  rcases List.eq_nil_or_concat cs with e | ⟨l, z, e⟩
  · subst e
    simp [k_law_any_5, k_law_any_4, k_law_any_3, h0, hb', posD, subP, kids, objPut, putD, setP, setKid]
    obtain ⟨r, h1, h2⟩ := fin ((b * 40693 + 71) % 2147483647 / 64)
    rw [h2]
    exact q r ⟨[], (b * 40693 + 71) % 2147483647, by simp⟩ h1
  · rw [List.concat_eq_append] at e
    subst e
    have hl' : l.length ≤ 1000 := by simp at hl; omega
    by_cases hz : z = 0
    · subst hz
      simp [k_law_any_5, b_law_any_0, h0, hb', posD, subP, kids, setP, setKid, popAt, lastJ, qs_nil, List.eraseIdx_append]
      refine ⟨by omega, l.length, by rw [hn]; simp, l, rfl, by simp at hl; omega, rfl⟩
    · simp [k_law_any_5, k_law_any_2, k_law_any_1, h0, hb', hz, posD, subP, kids, setP, setKid, popAt, lastJ, lstAt, lstPut, qs_nil, List.eraseIdx_append]
      obtain ⟨r, h1, h2⟩ := fin z
      rw [h2]
      have := q r ⟨l ++ [z / bound], b, by simp at hl ⊢; omega⟩ h1
      have h8 : l.length ≤ 16777215 := by omega
      have h9 : l.length < 16777216 := by omega
      simpa [eDl, encD, h8, h9] using this
theorem w_any {bound : Nat} {x : Dl} {Q : D × Nat × List D → Prop} (h0 : 0 < bound) (hb : bound < 2 ^ 190) (q : ∀ (r : Nat) (y : Dl), r < bound → Q (eN r, 0, [eDl y, .non])) : W (phi_law_any [eDl x, eN bound]) Q :=
  w_anyI (bound := bound) (by omega) (by omega) fun r y h => q r y (by omega)
theorem w_of_ {d : D} {ds : List D} {x : Dl} {Q : D × Nat × List D → Prop} (hd : d = .lst ds ∨ d = .tup ds) (hne : ds ≠ []) (hz : ds.length ≤ 1000000) (q : ∀ z ∈ ds, ∀ y : Dl, Q (z, 0, [eDl y, .non])) : W (phi_law_of [eDl x, d]) Q := by
  have hp : 0 < ds.length := List.length_pos_iff.mpr hne
  unfold phi_law_of
  refine w_runF ?_
  have hlen : lenD d = some (eN ds.length) := by rcases hd with rfl | rfl <;> rfl
  have hix : ∀ j, idxD d (eN j) = ds[j]? := by rcases hd with rfl | rfl <;> simp
  simp [sf_law_of, hlen]
  refine w_any hp (by omega) fun r y hr => ?_
  simp [hix, hr]
  exact q _ (List.getElem_mem _) y
theorem w_ofL {ds : List D} {x : Dl} {Q : D × Nat × List D → Prop} (q : ∀ z ∈ ds, ∀ y : Dl, Q (z, 0, [eDl y, .non])) (hne : ds ≠ [] := by simp) (hz : ds.length ≤ 1000000 := by simp) : W (phi_law_of [eDl x, .lst ds]) Q := w_of_ (.inl rfl) hne hz q
theorem w_ofT {ds : List D} {x : Dl} {Q : D × Nat × List D → Prop} (hne : ds ≠ []) (hz : ds.length ≤ 1000000) (q : ∀ z ∈ ds, ∀ y : Dl, Q (z, 0, [eDl y, .non])) : W (phi_law_of [eDl x, .tup ds]) Q := w_of_ (.inr rfl) hne hz q
theorem erase_map {α β : Type} (f : α → β) : ∀ (l : List α) (j : Nat), (l.map f).eraseIdx j = (l.eraseIdx j).map f
  | [], j => by simp
  | a :: l, 0 => rfl
  | a :: l, j + 1 => by
    rw [List.map_cons, List.eraseIdx_cons_succ, List.eraseIdx_cons_succ, erase_map f l j]
    rfl
theorem perm_take {α : Type} {l : List α} {j : Nat} (h : j < l.length) : (l[j] :: l.eraseIdx j).Perm l := by
  induction l generalizing j with
  | nil => simp at h
  | cons a l ih =>
    cases j with
    | zero => exact List.Perm.refl _
    | succ j =>
      have := ih (j := j) (by simpa using h)
      rw [List.eraseIdx_cons_succ]
      exact (List.Perm.swap a _ _).trans (this.cons a)
/-- _law_mixed of a list of things -/
theorem w_mixed {α : Type} (f : α → D) {d : D} {l : List α} {x : Dl} {Q : D × Nat × List D → Prop} (hd : d = .lst (l.map f) ∨ d = .tup (l.map f)) (hf : ∀ a, (f a).im = true) (hk : ∀ a, D.okE 61 (f a) = true) (hz : l.length ≤ 1000) (q : ∀ (l' : List α) (y : Dl), l'.Perm l → Q (.lst (l'.map f), 1, [eDl y, .non])) : W (phi_law_mixed [eDl x, d]) Q := by
  unfold phi_law_mixed
  refine w_runF ?_
  have hs : seqOf d = some (l.map f) := by rcases hd with rfl | rfl <;> rfl
  have hi : ∀ l : List α, (l.all fun a => (f a).im) = true := fun l => by simp [hf]
  have hK : ∀ l : List α, (l.all fun a => D.okE 61 (f a)) = true := fun l => by simp [hk]
  simp [sf_law_mixed, hs, k_law_mixed_2]
  refine w_whD (fun n e => ∃ (ls fs : List α) (y : Dl), n = ls.length ∧ fs.length + ls.length ≤ 1000 ∧ (fs ++ ls).Perm l ∧ e = [.own 2 (eDl y), .shr d, .own 1 (.lst (ls.map f)), .own 1 (.lst (fs.map f))]) (fun n e ⟨ls, fs, y, hn, hl, hp, he⟩ => ?_) l.length ⟨l, [], x, rfl, by simpa using hz, by simp, rfl⟩ (by unfold WF; omega)
  subst he
  simp [b_law_mixed_0, popAt, lstAt, lstPut, subP, setP]
  refine ⟨⟨fun x _ => hk x, by omega⟩, ?_⟩
  split
  · rename_i hls
    subst hls
    simp [k_law_mixed_1]
    exact q fs y (by simpa using hp)
  · rename_i hls
    have hpos : 0 < ls.length := List.length_pos_iff.mpr hls
    refine w_any hpos (by omega) fun r y' hr => ?_
    have h6 : ls.length < 4611686018427387904 := by omega
    have h7 : fs.length < 16777216 := by omega
    simp [hr, h6, h7, hf]
    have hle : (ls.eraseIdx r).length = ls.length - 1 := List.length_eraseIdx_of_lt hr
    refine ⟨ls.length - 1, by omega, ls.eraseIdx r, by omega, fs ++ [ls[r]], by simp [hle]; omega, ?_, ⟨y', rfl⟩, erase_map _ _ _, by simp⟩
    rw [List.append_assoc]
    exact ((perm_take hr).append_left fs).trans hp
end HD
set_option Elab.async false
set_option linter.all false
set_option maxRecDepth 100000
set_option maxHeartbeats 2000000
set_option autoImplicit false
/-! MS: _law_same of a thing and itself. -/
namespace HD
open PySem
mutual
/-- plain, no deeper than n -/
def plB : Nat → D → Bool
  | _ + 1, .non => true
  | _ + 1, .bl _ => true
  | _ + 1, .int _ => true
  | _ + 1, .str x => PyData.strOk x
  | n + 1, .tup ds => plsB n ds && decide (ds.length ≤ 16777216)
  | _, _ => false
def plsB : Nat → List D → Bool
  | _, [] => true
  | n, d :: ds => plB n d && plsB n ds
end
theorem plsB_mem {n : Nat} : ∀ {ds : List D}, plsB n ds = true → ∀ d ∈ ds, plB n d = true
  | [], _, d, h => by cases h
  | e :: ds, h, d, hd => by
    simp only [plsB, Bool.and_eq_true] at h
    rcases List.mem_cons.mp hd with z | z
    · rw [z]; exact h.1
    · exact plsB_mem h.2 d z
theorem plB_im : ∀ {n : Nat} {d : D}, plB n d = true → d.im = true := by
  intro n
  induction n with
  | zero => intro d h; cases d <;> simp [plB] at h
  | succ n ih =>
    intro d h
    cases d with
    | tup ds =>
      simp only [plB, Bool.and_eq_true] at h
      show D.ims ds = true
      exact ims_iff.mpr fun d hd => ih (plsB_mem h.1 d hd)
    | _ => first | rfl | simp [plB] at h
theorem same_refl : ∀ {n : Nat} {d : D}, plB n d = true → phi_law_same n [d, d] = some (.bl true, 0, [.non, .non]) := by
  intro n
  induction n with
  | zero => intro d h; cases d <;> simp [plB] at h
  | succ n ih =>
    intro d h
    unfold phi_law_same
    refine w_eq (w_runF ?_)
    cases d with
    | tup ds =>
      simp only [plB, Bool.and_eq_true, decide_eq_true_eq] at h
      simp [sf_law_same, isiD, isiT, tyN, isScr, k_law_same_0]
      refine ⟨h.2, w_compP (fun _ => false) (fun _ => .int 0) (fun a ha => ?_) ?_⟩
      · have := ih (plsB_mem h.1 a ha)
        simp [pairD, this]
      · have e : ds.filter (fun _ => false) = [] := List.filter_eq_nil_iff.mpr (by simp)
        simp [e]
    | non => simp [sf_law_same, isiD, isiT, tyN, isScr, k_law_same_5, isD]
    | bl b => cases b <;> simp [sf_law_same, isiD, isiT, tyN, isScr, k_law_same_5, k_law_same_4, k_law_same_3, isD]
    | int i => simp [sf_law_same, isiD, isiT, tyN, isScr, k_law_same_5, k_law_same_4, k_law_same_3, k_law_same_2, isD]
    | str x =>
      simp only [plB] at h
      have hk : D.okE 62 (.str x) = true := h
      simp [sf_law_same, isiD, isiT, tyN, isScr, k_law_same_5, k_law_same_4, k_law_same_3, k_law_same_2, k_law_same_1, isD, d_eq, hk]
    | lst ds => simp [plB] at h
    | dct t kvs => simp [plB] at h
    | scr ns => simp [plB] at h
@[simp] theorem pl_int (n : Nat) (i : Int) : plB (n + 1) (.int i) = true := rfl
@[simp] theorem pl_nat (n i : Nat) : plB (n + 1) (eN i) = true := rfl
@[simp] theorem pl_bl (n : Nat) (i : Bool) : plB (n + 1) (.bl i) = true := rfl
@[simp] theorem pl_non (n : Nat) : plB (n + 1) .non = true := rfl
@[simp] theorem pl_tup (n : Nat) (ds : List D) : plB (n + 1) (.tup ds) = (plsB n ds && decide (ds.length ≤ 16777216)) := rfl
@[simp] theorem pls_nil (n : Nat) : plsB n [] = true := by cases n <;> rfl
@[simp] theorem pls_cons (n : Nat) (d : D) (ds : List D) : plsB n (d :: ds) = (plB n d && plsB n ds) := by cases n <;> rfl
@[simp] theorem pls_map {α : Type} (n : Nat) (f : α → D) (l : List α) : plsB n (l.map f) = l.all fun a => plB n (f a) := by
  induction l with
  | nil => simp
  | cons a l ih => simp [ih]
end HD
set_option Elab.async false
set_option linter.all false
set_option maxRecDepth 100000
set_option maxHeartbeats 2000000
set_option autoImplicit false
/-! HG3: sorting encoded data. -/
namespace HD
open PySem
theorem le_int (i j : Int) : D.le (.int i) (.int j) = decide (i ≤ j) := by
  have := congrFun (congrFun (PySem.W.dataLe_int (fun b : Int => b)) i) j
  exact this
theorem le_nat (i j : Nat) : D.le (eN i) (eN j) = decide (i ≤ j) := by
  have := le_int i j
  rw [show D.le (eN i) (eN j) = D.le (.int i) (.int j) from rfl, this]
  by_cases h : i ≤ j
  · have : (i : Int) ≤ j := by omega
    simp [h, this]
  · have : ¬ (i : Int) ≤ j := by omega
    simp [h, this]
theorem nats_ints (l : List Nat) : l.map eN = (l.map fun n : Nat => (n : Int)).map D.int := by
  rw [List.map_map]
  rfl
theorem le_ii (a b c d : Int) : D.le (.tup [.int a, .int b]) (.tup [.int c, .int d]) = decide (a < c ∨ (a = c ∧ b ≤ d)) := by
  have := congrFun (congrFun (PySem.W.dataLe_ii (fun p : Int × Int => p.1) (fun p : Int × Int => p.2)) (a, b)) (c, d)
  exact this
theorem pys_map {α : Type} (f : α → D) (g : α → PyData) (h : ∀ a, (f a).py = g a) : ∀ l : List α, D.pys (l.map f) = l.map g
  | [] => rfl
  | a :: l => by
    rw [List.map_cons, D.pys, pys_map f g h l, h]
    rfl
theorem le_rows (xs ys : List Int) : D.le (.tup (xs.map .int)) (.tup (ys.map .int)) = decide (xs ≤ ys) := by
  show (!PySem.W.dataLt (D.tup (ys.map .int)).py (D.tup (xs.map .int)).py) = _
  rw [show (D.tup (ys.map .int)).py = .tuple (ys.map .int) by rw [D.py, pys_map D.int PyData.int fun _ => rfl], show (D.tup (xs.map .int)).py = .tuple (xs.map .int) by rw [D.py, pys_map D.int PyData.int fun _ => rfl], PySem.W.dataLt_tuple]
  have h := PySem.W.dataLt_ints ys xs
  unfold PySem.W.rowLt at h
  rw [h]
  by_cases c : ys < xs
  · have : ¬ xs ≤ ys := by
      intro h2
      exact absurd c (List.not_lt.mpr h2)
    simp [c, this]
  · have : xs ≤ ys := List.not_lt.mp c
    simp [c, this]
theorem sort_map {α : Type} (f : α → D) (r : α → α → Bool) (l : List α) (h : ∀ a b, D.le (f a) (f b) = r a b) : (l.map f).mergeSort D.le = (l.mergeSort r).map f :=
  (PySem.W.sort_maps (r := r) (s := D.le) f (l := l) fun a _ b _ => (h a b).symm).symm
theorem sortD_map {α : Type} (f : α → D) (r : α → α → Bool) (l : List α) (h : ∀ a b, D.le (f a) (f b) = r a b) (hk : ∀ a ∈ l, D.okE 60 (f a) = true) (ha : ∀ a b, PySem.W.alike (f a).py (f b).py = true) (ht : (∀ a, (f a).isTup = true) ∨ ∀ a, (f a).isTup = false ∧ (f a).isNon = false) (hl : l.length ≤ 16777216) :
    sortD (l.map f) = some ((l.mergeSort r).map f) := by
  have h1 : sortOk (l.map f) = true := by
    unfold sortOk
    simp only [Bool.and_eq_true, Bool.or_eq_true, decide_eq_true_eq, List.length_map]
    refine ⟨⟨⟨by simpa using hk, ?_⟩, ?_⟩, hl⟩
    · simp [List.all_eq_true, ha]
    · rcases ht with ht | ht
      · exact .inl (by simp [ht])
      · exact .inr (by simp [ht])
  unfold sortD
  rw [if_pos h1, sort_map f r l h]
theorem sortD_ints (l : List Int) (hl : l.length ≤ 16777216) : sortD (l.map .int) = some ((l.mergeSort fun a b => decide (a ≤ b)).map .int) :=
  sortD_map D.int _ l le_int (fun _ _ => rfl) (fun _ _ => rfl) (.inr fun _ => ⟨rfl, rfl⟩) hl
theorem sortD_nats (l : List Nat) (hl : l.length ≤ 16777216) : sortD (l.map eN) = some ((l.mergeSort fun a b => decide (a ≤ b)).map eN) :=
  sortD_map eN _ l le_nat (fun _ _ => rfl) (fun _ _ => rfl) (.inr fun _ => ⟨rfl, rfl⟩) hl
theorem sortD_rows {α : Type} (x y : α → Int) (l : List α) (hl : l.length ≤ 16777216) : sortD (l.map fun p => .tup [.int (x p), .int (y p)]) = some ((l.mergeSort fun a b => decide (x a < x b ∨ (x a = x b ∧ y a ≤ y b))).map fun p => .tup [.int (x p), .int (y p)]) :=
  sortD_map (fun p => .tup [.int (x p), .int (y p)]) _ l (fun a b => le_ii _ _ _ _) (fun _ _ => rfl) (fun _ _ => rfl) (.inl fun _ => rfl) hl
theorem alike_tups (xs ys : List Int) : PySem.W.alike (D.tup (xs.map .int)).py (D.tup (ys.map .int)).py = true := by
  rw [show (D.tup (ys.map .int)).py = .tuple (ys.map .int) by rw [D.py, pys_map D.int PyData.int fun _ => rfl], show (D.tup (xs.map .int)).py = .tuple (xs.map .int) by rw [D.py, pys_map D.int PyData.int fun _ => rfl], PySem.W.alike]
  exact PySem.W.alike_ints xs ys
theorem sortD_tups {α : Type} (f : α → List Int) (l : List α) (hf : ∀ a, (f a).length ≤ 16777216) (hl : l.length ≤ 16777216) : sortD (l.map fun a => .tup ((f a).map .int)) = some ((l.mergeSort fun a b => decide (f a ≤ f b)).map fun a => .tup ((f a).map .int)) :=
  sortD_map (fun a => .tup ((f a).map .int)) _ l (fun a b => le_rows _ _) (fun a _ => by simp [hf]) (fun a b => alike_tups _ _) (.inl fun _ => rfl) hl
theorem zw2 {α β γ : Type} (h : α → β → γ) : ∀ (l : List α) (m : List β), List.zipWith h l m = (l.zip m).map fun p => h p.1 p.2
  | [], _ => by simp
  | _ :: _, [] => by simp
  | a :: l, b :: m => by simp [zw2 h l m]
/-! ### by keys -/
@[simp] theorem e_sortLamF {r caps : List Nat} {nl : Nat} {fs fb : M D} {env : Env} : sortLamF r caps nl fs fb env = (fs env).bind fun p => (seqOf p.1).bind fun xs => (keysD caps nl fb p.2 xs).bind fun ks =>
  if ((r.isEmpty || D.ims xs) && keysOk ks) = true then some ((.lst (byKeys xs ks), 1), p.2) else none := rfl
theorem keysD_map {α : Type} {f g : α → D} {caps : List Nat} {nl : Nat} {fb : M D} {env : Env} : ∀ {l : List α}, (∀ a ∈ l, ∃ e', fb (lamEnvD caps env [f a] nl) = some (g a, e')) → keysD caps nl fb env (l.map f) = some (l.map g)
  | [], _ => rfl
  | a :: l, h => by
    obtain ⟨e', h1⟩ := h a List.mem_cons_self
    have ih := keysD_map (l := l) fun b hb => h b (List.mem_cons_of_mem _ hb)
    rw [List.map_cons, keysD, h1]
    simp [ih]
theorem keysOk_map {α : Type} (g : α → D) (l : List α) (hk : ∀ a, D.okE 60 (g a) = true) (ha : ∀ a b, PySem.W.alike (g a).py (g b).py = true) (ht : ∀ a, (g a).isTup1 = true) (hl : l.length ≤ 16777216) : keysOk (l.map g) = true := by
  unfold keysOk
  simp only [Bool.and_eq_true, Bool.or_eq_true, decide_eq_true_eq, List.length_map]
  refine ⟨⟨⟨by simp [hk], ?_⟩, .inl (by simp [ht])⟩, hl⟩
  simp [List.all_eq_true, ha]
theorem byKeys_map {α : Type} (f g : α → D) (r : α → α → Bool) (l : List α) (h : ∀ a b, D.le (g a) (g b) = r a b) : byKeys (l.map f) (l.map g) = (l.mergeSort r).map f := by
  unfold byKeys
  have e : (l.map f).zip (l.map g) = l.map fun a => (f a, g a) := by
    induction l with
    | nil => rfl
    | cons a l ih => simp [ih]
  rw [e]
  have h2 := PySem.W.sort_maps (r := r) (s := fun a b : D × D => D.le a.2 b.2) (fun a => (f a, g a)) (l := l) fun a _ b _ => (h a b).symm
  rw [← h2, List.map_map]
  rfl
end HD
set_option Elab.async false
set_option linter.all false
set_option maxHeartbeats 2000000
set_option autoImplicit false
/-! PM: sums of sorted lists (plain). -/
namespace PM
section
variable {α : Type} [DecidableEq α] (v : α → Int)
theorem sum_perm {l m : List Int} (h : l.Perm m) : l.sum = m.sum := by
  induction h with
  | nil => rfl
  | cons a _ ih => simp [ih]
  | swap a b l => simp; omega
  | trans _ _ h1 h2 => exact h1.trans h2
theorem top_sum : ∀ (L A B : List α), (A ++ B).Perm L → L.Pairwise (fun a b => v b ≤ v a) → (A.map v).sum ≤ ((L.take A.length).map v).sum
  | [], A, B, h, _ => by
    have := h.length_eq
    simp at this
    obtain ⟨rfl, rfl⟩ := this
    simp
  | x :: L, [], B, h, hp => by simp
  | x :: L, a :: A, B, h, hp => by
    rw [List.pairwise_cons] at hp
    by_cases hx : x ∈ a :: A
    · have h1 : (a :: A).Perm (x :: (a :: A).erase x) := List.perm_cons_erase hx
      have h2 : ((a :: A).erase x ++ B).Perm L := by
        have : (x :: ((a :: A).erase x ++ B)).Perm (x :: L) := by
          have h3 := (h1.append_right B).symm.trans h
          simpa using h3
        exact List.perm_cons x |>.mp this
      have ih := top_sum L _ B h2 hp.2
      have hl : ((a :: A).erase x).length = A.length := by
        have := h1.length_eq
        simp at this
        omega
      have hs := sum_perm (h1.map v)
      rw [hl] at ih
      rw [hs]
      simp at ih ⊢
      exact ih
    · have hb : x ∈ B := by
        have : x ∈ (a :: A) ++ B := h.mem_iff.mpr List.mem_cons_self
        exact (List.mem_append.mp this).resolve_left hx
      have h1 : B.Perm (x :: B.erase x) := List.perm_cons_erase hb
      have h2 : (A ++ (a :: B.erase x)).Perm L := by
        have h3 : ((a :: A) ++ (x :: B.erase x)).Perm (x :: L) := (h1.symm.append_left (a :: A)).trans h
        have h4 : (x :: (A ++ (a :: B.erase x))).Perm ((a :: A) ++ (x :: B.erase x)) := by
          refine (List.Perm.cons x List.perm_middle).trans ?_
          refine (List.Perm.swap a x _).trans ?_
          exact List.Perm.cons a List.perm_middle.symm
        exact List.perm_cons x |>.mp (h4.trans h3)
      have ih := top_sum L A _ h2 hp.2
      have ha : v a ≤ v x := hp.1 a (h2.mem_iff.mp (by simp))
      simp at ih ⊢
      omega
end
theorem take_pos : ∀ (k : Nat) (xs : List Int), (xs.take k).sum ≤ (xs.filter fun x => decide (0 ≤ x)).sum
  | 0, xs => by
    simp
    induction xs with
    | nil => simp
    | cons a l ih =>
      by_cases h : 0 ≤ a
      · simp [h]; omega
      · simp [h, ih]
  | k + 1, [] => by simp
  | k + 1, a :: l => by
    have ih := take_pos k l
    by_cases h : 0 ≤ a
    · simp [h]; omega
    · simp [h]; omega
theorem filter_take {α : Type} (v : α → Int) : ∀ {l : List α}, l.Pairwise (fun a b => v b ≤ v a) → l.filter (fun a => decide (0 ≤ v a)) = l.takeWhile (fun a => decide (0 ≤ v a))
  | [], _ => rfl
  | a :: l, h => by
    rw [List.pairwise_cons] at h
    by_cases c : 0 ≤ v a
    · simp [c, filter_take v h.2]
    · have : l.filter (fun a => decide (0 ≤ v a)) = [] := List.filter_eq_nil_iff.mpr fun b hb => by
        have := h.1 b hb
        simp
        omega
      simp [c, this]
theorem tw_all {α : Type} {P : α → Bool} : ∀ {l : List α}, (∀ a ∈ l, P a = true) → l.takeWhile P = l
  | [], _ => rfl
  | a :: l, h => by
    rw [List.takeWhile_cons, h a List.mem_cons_self, if_pos rfl, tw_all fun b hb => h b (List.mem_cons_of_mem _ hb)]
theorem tw_stop {α : Type} {P : α → Bool} : ∀ {l : List α} {a : α} {m : List α}, (∀ a ∈ l, P a = true) → P a = false → (l ++ a :: m).takeWhile P = l
  | [], a, m, _, h => by simp [h]
  | b :: l, a, m, h, h2 => by
    rw [List.cons_append, List.takeWhile_cons, h b List.mem_cons_self, if_pos rfl, tw_stop (fun c hc => h c (List.mem_cons_of_mem _ hc)) h2]
theorem zip_pw {α β : Type} (v : α → Int) (w : β → Int) : ∀ {l : List α} {m : List β}, l.Pairwise (fun a b => v b ≤ v a) → m.Pairwise (fun a b => w b ≤ w a) → (l.zip m).Pairwise (fun p q => v q.1 + w q.2 ≤ v p.1 + w p.2)
  | [], _, _, _ => by simp
  | _ :: _, [], _, _ => by simp
  | a :: l, b :: m, h1, h2 => by
    rw [List.pairwise_cons] at h1 h2
    rw [List.zip_cons_cons, List.pairwise_cons]
    refine ⟨fun p hp => ?_, zip_pw v w h1.2 h2.2⟩
    have a1 := h1.1 p.1 (List.of_mem_zip hp).1
    have a2 := h2.1 p.2 (List.of_mem_zip hp).2
    show v p.1 + w p.2 ≤ v a + w b
    omega
theorem zip_sum {α β : Type} (v : α → Int) (w : β → Int) : ∀ (k : Nat) {l : List α} {m : List β}, k ≤ l.length → k ≤ m.length → ((l.take k).map v).sum + ((m.take k).map w).sum = (((l.zip m).map fun p => v p.1 + w p.2).take k).sum
  | 0, _, _, _, _ => by simp
  | k + 1, [], _, h, _ => by simp at h
  | k + 1, _ :: _, [], _, h => by simp at h
  | k + 1, a :: l, b :: m, h1, h2 => by
    have ih := zip_sum v w k (l := l) (m := m) (by simpa using h1) (by simpa using h2)
    simp at ih ⊢
    omega
theorem sort_unique {α : Type} {r : α → α → Bool} (tr : ∀ a b c, r a b = true → r b c = true → r a c = true) (tot : ∀ a b, (r a b || r b a) = true) (as : ∀ a b, r a b = true → r b a = true → a = b) {l m : List α} (h : l.Perm m) : l.mergeSort r = m.mergeSort r := by
  have p1 := List.pairwise_mergeSort tr tot l
  have p2 := List.pairwise_mergeSort tr tot m
  refine List.Perm.eq_of_pairwise (le := fun a b => r a b = true) (fun a b _ _ h1 h2 => as a b h1 h2) p1 p2 ?_
  exact ((List.mergeSort_perm l r).trans h).trans (List.mergeSort_perm m r).symm
theorem sort_nat {l m : List Nat} (h : l.Perm m) : (l.mergeSort fun a b => decide (a ≤ b)) = m.mergeSort fun a b => decide (a ≤ b) :=
  sort_unique (fun a b c h1 h2 => by simp at *; omega) (fun a b => by simp; omega) (fun a b h1 h2 => by simp at *; omega) h
end PM
set_option Elab.async false
set_option linter.all false
set_option maxRecDepth 100000
set_option maxHeartbeats 4000000
set_option autoImplicit false
/-! NE: of ME, MF, MO what k75 shares. -/
namespace HD
open PySem
def eT (l : List Int) : D := .tup (l.map .int)
def eNT (l : List Nat) : D := .tup (l.map eN)
@[simp] theorem eT_im (l : List Int) : (eT l).im = true := by simp [eT]
@[simp] theorem eNT_im (l : List Nat) : (eNT l).im = true := by simp [eNT]
def asc (l : List Int) : Bool := (l.zip l.tail).all fun p => decide (p.1 < p.2)
theorem asc_iff : ∀ {l : List Int}, asc l = true ↔ l.Pairwise (· < ·)
  | [] => by simp [asc]
  | [a] => by simp [asc]
  | a :: b :: l => by
    have ih := asc_iff (l := b :: l)
    unfold asc at ih ⊢
    simp only [List.tail_cons, List.zip_cons_cons, List.all_cons, Bool.and_eq_true, decide_eq_true_eq] at ih ⊢
    rw [ih, List.pairwise_cons (a := a), List.pairwise_cons]
    constructor
    · rintro ⟨h1, h2, h3⟩
      refine ⟨fun x hx => ?_, h2, h3⟩
      rcases List.mem_cons.mp hx with e | e
      · rw [e]; exact h1
      · have := h2 x e
        omega
    · rintro ⟨h1, h2, h3⟩
      exact ⟨h1 b List.mem_cons_self, h2, h3⟩
/-- the product of the lengths -/
def prodL : List Nat → Nat
  | [] => 1
  | n :: ns => n * prodL ns
theorem prodL_snoc (n : Nat) : ∀ l : List Nat, prodL (l ++ [n]) = prodL l * n
  | [] => by simp [prodL]
  | m :: l => by simp [prodL, prodL_snoc n l, Nat.mul_assoc]
def eM (m : List (List Int)) : D := .tup (m.map eT)
@[simp] theorem eM_im (m : List (List Int)) : (eM m).im = true := by simp [eM]
def eTr (m : List (List Int)) (s : List Nat) : D := .tup [eM m, eNT s]
@[simp] theorem eTr_im (m : List (List Int)) (s : List Nat) : (eTr m s).im = true := by simp [eTr]
/-- the takers -/
def takers (n : Nat) (s : List Nat) : List Nat := (List.range n).filter fun b => !decide (b ∈ s)
theorem takers_of_ok (m : List (List Int)) (s : List Nat) (hm : m.length ≤ 1000) : phi_takers_of [eTr m s] = some (eNT (takers m.length s), 0, [.non]) := by
  unfold phi_takers_of
  refine w_eq (w_runF ?_)
  have h1 := sm_nat (n := m.length) (by omega)
  simp [sf_takers_of, eTr, eM, eNT, h1]
  refine ⟨by omega, w_compP (fun b => !decide (b ∈ s)) eN (fun b hb => ?_) ?_⟩
  · simp
  · simp [takers]
/-- what buyers are sorted by -/
def keyLe (p : List Int) (a b : Nat) : Bool := decide (-(p.getD a 0) < -(p.getD b 0) ∨ (-(p.getD a 0) = -(p.getD b 0) ∧ (a : Int) ≤ b))
def inOrder (p : List Int) (l : List Nat) : List Nat := l.mergeSort (keyLe p)
def sumAt (p : List Int) (q : Nat × Nat) : Int := p.getD q.1 0 + p.getD q.2 0
/-- the pairs that are worth 0 or more -/
def goodP (p : List Int) (n : Nat) (s : List Nat) : List (Nat × Nat) := ((inOrder p (takers n s)).zip (inOrder p s)).filter fun q => decide (0 ≤ sumAt p q)
def sortN (l : List Nat) : List Nat := l.mergeSort fun a b => decide (a ≤ b)
theorem mem_takers {n b : Nat} {s : List Nat} : b ∈ takers n s ↔ b < n ∧ b ∉ s := by simp [takers]
theorem keyLe_trans (p : List Int) (a b c : Nat) (h1 : keyLe p a b = true) (h2 : keyLe p b c = true) : keyLe p a c = true := by
  unfold keyLe at *
  simp only [decide_eq_true_eq] at *
  omega
theorem keyLe_total (p : List Int) (a b : Nat) : (keyLe p a b || keyLe p b a) = true := by
  unfold keyLe
  rw [Bool.or_eq_true, decide_eq_true_eq, decide_eq_true_eq]
  omega
theorem inOrder_pw (p : List Int) (l : List Nat) : (inOrder p l).Pairwise fun a b => p.getD b 0 ≤ p.getD a 0 :=
  (List.pairwise_mergeSort (keyLe_trans p) (keyLe_total p) l).imp fun {a b} h => by
    unfold keyLe at h
    rw [decide_eq_true_eq] at h
    omega
theorem inOrder_perm (p : List Int) (l : List Nat) : (inOrder p l).Perm l := List.mergeSort_perm _ _
theorem goodP_take (p : List Int) (n : Nat) (s : List Nat) : goodP p n s = ((inOrder p (takers n s)).zip (inOrder p s)).takeWhile fun q => decide (0 ≤ sumAt p q) :=
  PM.filter_take (sumAt p) (PM.zip_pw (fun b => p.getD b 0) (fun b => p.getD b 0) (inOrder_pw p _) (inOrder_pw p _))
end HD
set_option Elab.async false
set_option linter.all false
set_option maxRecDepth 100000
set_option maxHeartbeats 4000000
set_option autoImplicit false
/-! MG: _law_values. -/
namespace HD
open PySem
def dk (ks : List Nat) : D := .dct 0 (ks.map fun k => (eN k, D.bl true))
theorem dk_any (ks : List Nat) (k : Nat) : ((ks.map fun k => (eN k, D.bl true)).any fun p => D.eqv p.1 (eN k)) = decide (k ∈ ks) := by
  rw [Bool.eq_iff_iff]
  simp
theorem put_dk (ks : List Nat) (k j : Nat) (h : ks.length < 16777216) : putD (eN k) (.bl true) 0 j (dk ks) = some (dk (if k ∈ ks then ks else ks ++ [k])) := by
  unfold putD dk
  rw [if_pos (by simp)]
  have hk : keyOk 0 (eN k) = true := rfl
  simp only [hk, dk_any, List.length_map, h, decide_true, Bool.true_and]
  have hv : (D.bl true).im = true := rfl
  rw [if_pos (by simp)]
  congr 2
  unfold ptD
  rw [dk_any]
  by_cases c : k ∈ ks
  · rw [if_pos (by simpa using c), if_pos c, List.map_map]
    refine List.map_congr_left fun a _ => ?_
    simp only [Function.comp]
    split <;> rfl
  · rw [if_neg (by simpa using c), if_neg c]
    simp
theorem nodup_sub : ∀ {l m : List Nat}, l.Nodup → (∀ x ∈ l, x ∈ m) → l.length ≤ m.length
  | [], _, _, _ => by simp
  | a :: l, m, h, hs => by
    rw [List.nodup_cons] at h
    have ha := hs a List.mem_cons_self
    have ih := nodup_sub (l := l) (m := m.erase a) h.2 fun x hx => by
      have hne : x ≠ a := fun e => h.1 (by rw [← e]; exact hx)
      exact (List.mem_erase_of_ne hne).mpr (hs x (List.mem_cons_of_mem _ hx))
    rw [List.length_erase_of_mem ha] at ih
    have := List.length_pos_of_mem ha
    simp
    omega
theorem w_values {x : Dl} {many : Nat} {most : Int} {Q : D × Nat × List D → Prop} (hm : many ≤ 8) (h0 : 0 ≤ most) (hb : most < 1000000000000) (q : ∀ (l : List Nat) (y : Dl), l.length = many → l.Pairwise (· < ·) → Q (eNT l, 0, [eDl y, .non, .non])) : W (phi_law_values [eDl x, eN many, .int most]) Q := by
  unfold phi_law_values
  refine w_runF ?_
  have s1 : smB (3 * (many : Int)) = true := smB_of (by omega)
  have s2 : smB (many : Int) = true := smB_of (by omega)
  have step : ∀ (ks : List Nat) (y : Dl) (k : Nat) (s4 s5 : Slot), ks.Nodup → ks.length < many → ∃ ks' : List Nat, ks'.Nodup ∧ ks'.length ≤ many ∧ k ∈ ks' ∧ (∀ b ∈ ks, b ∈ ks') ∧ putD (eN k) (.bl true) 0 0 (dk ks) = some (dk ks') := fun ks y k s4 s5 hn hl => by
    refine ⟨_, ?_, ?_, ?_, ?_, put_dk ks k 0 (by omega)⟩
    · split
      · exact hn
      · rename_i c
        rw [List.nodup_append]
        exact ⟨hn, by simp, fun a ha b hb => by simp at hb; subst hb; exact fun e => c (by rw [← e]; exact ha)⟩
    · split
      · omega
      · simp; omega
    · split
      · assumption
      · simp
    · intro b hb
      split
      · exact hb
      · simp [hb]
  simp [sf_law_values, k_law_values_4, s1]
  refine w_loop (fun _ e => ∃ (ks : List Nat) (y : Dl) (s4 : Slot), ks.Nodup ∧ ks.length ≤ many ∧ e = [.own 2 (eDl y), .shr (eN many), .shr (.int most), .own 1 (dk ks), s4, .none]) (pre := []) ⟨[], x, .none, List.nodup_nil, by simp, rfl⟩ (fun a _ => by simp) (fun pre a post e hp ⟨ks, y, s4, hn, hl, he⟩ => ?_) (fun e ⟨ks, y, s4, hn, hl, he⟩ => ?_)
  · subst he
    have hlen : lenD (dk ks) = some (eN ks.length) := by
      unfold dk
      simp
    simp [b_law_values_0, hlen]
    refine w_ite' (fun c => ?_) (fun c => ?_)
    · simp
      refine w_anyI (bound := most + 1) (by omega) (by omega) fun r y' hr => ?_
      obtain ⟨ks', a1, a2, a3, a4, a5⟩ := step ks y r s4 .none hn c
      simp [objPut, subP, setP, a5]
      exact ⟨ks', a1, a2, ⟨y', rfl⟩, rfl⟩
    · simp
      exact ⟨ks, hn, hl, ⟨y, rfl⟩, rfl⟩
  · subst he
    simp [k_law_values_3, s2]
    refine w_loop (fun pre e => ∃ (ks : List Nat) (s5 : Slot), ks.Nodup ∧ ks.length ≤ many ∧ (ks.length = many ∨ ∀ b ∈ pre, b ∈ ks) ∧ e = [.own 2 (eDl y), .shr (eN many), .shr (.int most), .own 1 (dk ks), s4, s5]) (pre := []) ⟨ks, .none, hn, hl, .inr (by simp), rfl⟩ (fun a _ => by simp) (fun pre a post e hp ⟨ks, s5, hn, hl, hr, he⟩ => ?_) (fun e ⟨ks, s5, hn, hl, hr, he⟩ => ?_)
    · subst he
      have hlen : lenD (dk ks) = some (eN ks.length) := by
        unfold dk
        simp
      simp [b_law_values_1, hlen]
      refine w_ite' (fun c => ?_) (fun c => ?_)
      · obtain ⟨ks', a1, a2, a3, a4, a5⟩ := step ks y a s4 .none hn c
        simp [objPut, subP, setP, a5]
        refine ⟨ks', a1, a2, ?_, rfl⟩
        rcases hr with h | h
        · omega
        · exact .inr fun b hb => hb.elim (fun z => a4 b (h b z)) fun z => by rw [z]; exact a3
      · simp
        refine ⟨ks, hn, hl, .inl ?_, rfl⟩
        simp at c
        omega
    · subst he
      simp at hr
      have hlen : ks.length = many := by
        rcases hr with h | h
        · exact h
        · have := nodup_sub (l := List.range many) (m := ks) List.nodup_range (fun x hx => h x (by simpa using hx))
          simp at this
          omega
      have hd : dkeys (dk ks) = some (ks.map eN) := by
        unfold dk
        simp [Function.comp_def]
      simp [k_law_values_2, hd, sortD_nats ks (by omega)]
      have hl2 : (ks.mergeSort fun a b => decide (a ≤ b)).length = many := by rw [List.length_mergeSort]; exact hlen
      rw [← List.map_take, List.take_of_length_le (by omega)]
      refine q _ y hl2 ?_
      have p1 := List.pairwise_mergeSort (le := fun a b : Nat => decide (a ≤ b)) (fun a b c h1 h2 => by simp at *; omega) (fun a b => by simp; omega) ks
      have p2 : (ks.mergeSort fun a b => decide (a ≤ b)).Nodup := (List.mergeSort_perm ks _).nodup_iff.mpr hn
      exact (List.Pairwise.and p1 p2).imp fun {a b} h => by
        have := h.1
        have h2 := h.2
        simp at this
        omega
end HD
set_option Elab.async false
set_option linter.all false
set_option maxRecDepth 100000
set_option maxHeartbeats 4000000
set_option autoImplicit false
/-! NI: orders and pairs (k75). -/
namespace HD
open PySem
theorem range_split {n a : Nat} {pre post : List Nat} (h : List.range n = pre ++ a :: post) : a = pre.length := by
  have h1 := congrArg (fun l => l[pre.length]?) h
  simp at h1
  have hl := congrArg List.length h
  simp at hl
  rw [List.getElem?_range (by omega)] at h1
  simpa using h1.symm
theorem law_orders_ok (m : List (List Int)) (s : List Nat) (p : List Int) (hm : m.length ≤ 1000) (hp : p.length = m.length) (hs : ∀ b ∈ s, b < m.length) (hl : s.length ≤ 1000) :
    phi_law_orders [eTr m s, eT p] = some (.tup [.lst ((inOrder p (takers m.length s)).map eN), .lst ((inOrder p s).map eN)], 0, [.non, .non]) := by
  unfold phi_law_orders
  refine w_eq (w_runF ?_)
  have h4 : idxD (eTr m s) (.int 1) = some (eNT s) := rfl
  have h6 : lenD (eT p) = some (eN m.length) := by simp [eT, hp]
  have s1 := sm_nat (n := m.length) (by omega)
  have srt : ∀ l : List Nat, l.length ≤ 16777216 → sortD (l.map fun b => .tup [.int (-(p.getD b 0)), eN b]) = some ((inOrder p l).map fun b => .tup [.int (-(p.getD b 0)), eN b]) := fun l hl =>
    sortD_map (fun b => .tup [.int (-(p.getD b 0)), eN b]) (keyLe p) l (fun a b => le_ii _ _ _ _) (fun _ _ => rfl) (fun _ _ => rfl) (.inl fun _ => rfl) hl
  have gx : ∀ b, b < m.length → idxD (eT p) (eN b) = some (.int (p.getD b 0)) := fun b hb => by simp [eT, List.getElem?_eq_getElem (show b < p.length by omega)]
  simp [sf_law_orders, h6, s1]
  refine ⟨by omega, w_compP (fun b => !decide (b ∈ s)) (fun b => .tup [.int (-(p.getD b 0)), eN b]) (fun b hb => ?_) ?_⟩
  · have hb' : b < m.length := by simpa using hb
    simp [h4, eNT, gx b hb']
  · have ht : (takers m.length s).length ≤ 1000 := by
      unfold takers
      have := List.length_filter_le (fun b => !decide (b ∈ s)) (List.range m.length)
      simp at this ⊢
      omega
    show W (sortD ((takers m.length s).map fun b => .tup [.int (-(p.getD b 0)), eN b])) _
    have lt : (inOrder p (takers m.length s)).length ≤ 1000 := by rw [(inOrder_perm p _).length_eq]; exact ht
    have ls : (inOrder p s).length ≤ 1000 := by rw [(inOrder_perm p _).length_eq]; exact hl
    rw [srt _ (by omega)]
    simp [k_law_orders_1, h4, eNT]
    refine ⟨by omega, w_compM (fun b => .tup [.int (-(p.getD b 0)), eN b]) (fun b hb => ?_) ?_⟩
    · simp [gx b (hs b hb)]
    · rw [srt _ (by omega)]
      simp [k_law_orders_0]
      refine ⟨by omega, w_compM eN (fun b hb => by simp) ?_⟩
      simp
      refine ⟨by omega, w_compM eN (fun b hb => by simp) ?_⟩
      simp
def pairT (q : Nat × Nat) : D := .tup [eN q.1, eN q.2]
@[simp] theorem pairT_im (q : Nat × Nat) : (pairT q).im = true := rfl
theorem law_pairs_ok (m : List (List Int)) (s : List Nat) (p : List Int) (hm : m.length ≤ 1000) (hp : p.length = m.length) (hs : ∀ b ∈ s, b < m.length) (hl : s.length ≤ 1000) :
    phi_law_pairs [eTr m s, eT p] = some (.lst ((goodP p m.length s).map pairT), 1, [.non, .non]) := by
  unfold phi_law_pairs
  refine w_eq (w_runF ?_)
  have h1 := law_orders_ok m s p hm hp hs hl
  have gx : ∀ b, b < m.length → idxD (eT p) (eN b) = some (.int (p.getD b 0)) := fun b hb => by simp [eT, List.getElem?_eq_getElem (show b < p.length by omega)]
  have ls : (inOrder p s).length ≤ 1000 := by rw [(inOrder_perm p _).length_eq]; exact hl
  simp [sf_law_pairs, h1, k_law_pairs_0]
  rw [zw2]
  refine ⟨by omega, w_compP (fun q => decide (0 ≤ sumAt p q)) pairT (fun q hq => ?_) ?_⟩
  · have b1 : q.1 < m.length := (mem_takers.mp ((inOrder_perm p _).mem_iff.mp (List.of_mem_zip hq).1)).1
    have b2 : q.2 < m.length := hs _ ((inOrder_perm p _).mem_iff.mp (List.of_mem_zip hq).2)
    simp [pairD, gx _ b1, gx _ b2, sumAt, pairT]
  · simp [goodP]
/-- the trade that the law sorts -/
def bestL (l : List (Nat × Nat)) : List Nat := sortN (l.map (·.1) ++ l.map (·.2))
theorem sortN_perm (l : List Nat) : (sortN l).Perm l := List.mergeSort_perm _ _
theorem goodP_mem {p : List Int} {n : Nat} {s : List Nat} (hs : ∀ b ∈ s, b < n) {q : Nat × Nat} (hq : q ∈ goodP p n s) : q.1 < n ∧ q.2 < n := by
  have hz := (List.mem_filter.mp hq).1
  exact ⟨(mem_takers.mp ((inOrder_perm p _).mem_iff.mp (List.of_mem_zip hz).1)).1, hs _ ((inOrder_perm p _).mem_iff.mp (List.of_mem_zip hz).2)⟩
theorem goodP_len (p : List Int) (n : Nat) (s : List Nat) : (goodP p n s).length ≤ s.length := by
  have := List.length_filter_le (fun q => decide (0 ≤ sumAt p q)) ((inOrder p (takers n s)).zip (inOrder p s))
  unfold goodP
  simp only [List.length_zip, (inOrder_perm p s).length_eq] at this
  omega
theorem bestL_mem {n : Nat} {l : List (Nat × Nat)} (h : ∀ q ∈ l, q.1 < n ∧ q.2 < n) : ∀ b ∈ bestL l, b < n := fun b hb => by
  have := (sortN_perm _).mem_iff.1 hb
  rcases List.mem_append.1 this with z | z
  · obtain ⟨q, hq, rfl⟩ := List.mem_map.1 z
    exact (h q hq).1
  · obtain ⟨q, hq, rfl⟩ := List.mem_map.1 z
    exact (h q hq).2
theorem bestL_len (l : List (Nat × Nat)) : (bestL l).length = 2 * l.length := by
  rw [bestL, (sortN_perm _).length_eq]
  simp
  omega
end HD
set_option Elab.async false
set_option linter.all false
set_option maxRecDepth 100000
set_option maxHeartbeats 4000000
set_option autoImplicit false
/-! MT: _law_trading draws a trading market. -/
namespace HD
open PySem
/-- a trading market -/
structure TrOk (m : List (List Int)) (s : List Nat) : Prop where
  n1 : 1 ≤ m.length
  n6 : m.length ≤ 6
  ld : ∀ l ∈ m, 1 ≤ l.length ∧ l.length ≤ 8 ∧ l.Pairwise (· < ·)
  pr : prodL (m.map List.length) ≤ 2000
  sa : s.Pairwise (· < ·)
  sb : ∀ b ∈ s, b < m.length
  si : ∀ (i : Nat) (l : List Int), m[i]? = some l → if i ∈ s then ∀ x ∈ l, x ≤ 0 else ∀ x ∈ l, 0 ≤ x
theorem prodL_pos : ∀ {l : List Nat}, (∀ n ∈ l, 1 ≤ n) → 1 ≤ prodL l
  | [], _ => by simp [prodL]
  | n :: l, h => by
    have h1 := h n List.mem_cons_self
    have h2 := prodL_pos (l := l) fun k hk => h k (List.mem_cons_of_mem _ hk)
    rw [prodL]
    exact Nat.mul_pos h1 h2
theorem prodL_ones (n : Nat) : prodL (List.replicate n 1) = 1 := by
  induction n with
  | zero => rfl
  | succ n ih => rw [List.replicate_succ, prodL, ih]
/-- no owned slot -/
def NOwn (s : Slot) : Prop := ∀ n d, s ≠ .own n d
theorem nown_none : NOwn .none := fun _ _ h => by cases h
theorem nown_shr (d : D) : NOwn (.shr d) := fun _ _ h => by cases h
theorem put_lst (j : Nat) (v : D) (nv k : Nat) (ds : List D) (h : j < ds.length) (hf : (nv == k || v.im) = true) : putD (eN j) v nv k (.lst ds) = some (.lst (ds.set j v)) := by
  unfold putD
  rw [if_pos (by simpa using hf)]
  show (if 0 ≤ (j : Int) ∧ (j : Int) < ds.length then some (D.lst (ds.set (j : Int).toNat v)) else none) = _
  rw [if_pos ⟨by omega, by omega⟩, Int.toNat_natCast]
theorem bump_set (sz : List Nat) (k : Nat) : (List.range sz.length).map (fun i => sz.getD i 0 + if i = k then 1 else 0) = sz.set k (sz.getD k 0 + 1) := by
  refine List.ext_getElem (by simp) fun i h1 h2 => ?_
  simp at h1
  by_cases c : i = k
  · subst c
    simp [List.getElem?_eq_getElem h1]
  · have c' : ¬ k = i := fun z => c z.symm
    simp [c, c', List.getElem?_eq_getElem h1, List.getElem_set]
theorem w_trading {x : Dl} {lv mo : Nat} {Q : D × Nat × List D → Prop} (hlv : lv ≤ 8) (hmo : 1 ≤ mo) (hmo2 : mo ≤ 2000) (q : ∀ (m : List (List Int)) (s : List Nat) (y : Dl), TrOk m s → Q (eTr m s, 0, [eDl y, .non, .non, .non])) :
    W (phi_law_trading [eDl x, .int 6, eN lv, eN mo]) Q := by
  unfold phi_law_trading
  refine w_runF ?_
  simp [sf_law_trading]
  refine w_anyI (by omega) (by omega) fun r y hr => ?_
  simp
  refine w_ofL (fun z hz y => ?_)
  have hz' : ∃ many : Nat, 1 ≤ many ∧ many ≤ 6 ∧ z = eN many := by
    simp at hz
    rcases hz with rfl | rfl
    · exact ⟨6, by omega, by omega, rfl⟩
    · exact ⟨1 + r, by omega, by omega, rfl⟩
  obtain ⟨many, hm1, hm6, rfl⟩ := hz'
  clear hz
  have hp : powD (.int 10) (.int 11) = some (.int 100000000000) := by rfl
  simp [hp]
  refine w_ofL (fun z hz y => ?_)
  have hz' : ∃ h : Int, 0 ≤ h ∧ h < 1000000000000 ∧ z = .int h := by
    simp at hz
    rcases hz with rfl | rfl | rfl | rfl | rfl | rfl
    · exact ⟨7, by omega, by omega, rfl⟩
    · exact ⟨8, by omega, by omega, rfl⟩
    · exact ⟨12, by omega, by omega, rfl⟩
    · exact ⟨30, by omega, by omega, rfl⟩
    · exact ⟨1000, by omega, by omega, rfl⟩
    · exact ⟨300000000000, by omega, by omega, rfl⟩
  obtain ⟨high, hh0, hh1, rfl⟩ := hz'
  clear hz
  have rg := rgok_nat (a := many) (by omega)
  simp [k_law_trading_11, rg]
  refine w_mixed eN (.inl rfl) (fun a => rfl) (fun a => rfl) (by simp; omega) fun order y hperm => ?_
  simp [k_law_trading_10]
  refine w_any (by omega) (by omega) fun r2 y hr2 => ?_
  simp
  refine w_ofL (fun z hz y => ?_)
  have hz' : ∃ c : Nat, c ≤ many ∧ z = eN c := by
    simp at hz
    rcases hz with rfl | rfl | rfl
    · exact ⟨many / 2, by omega, by simp [eN]⟩
    · exact ⟨(many + 1) / 2, by omega, by simp [eN]⟩
    · exact ⟨r2, by omega, rfl⟩
  obtain ⟨c, hc, rfl⟩ := hz'
  clear hz
  have s1 := sm_nat (n := many) (by omega)
  have s8 : smB (8 * (many : Int)) = true := smB_of (by omega)
  have hrep : repL (.lst [.int 1]) (eN many) = some ((List.replicate many 1).map eN) := by
    show (if (smB (many : Int) && decide ([D.int 1].length * (many : Int).toNat ≤ 16777216)) = true then some (List.replicate (many : Int).toNat [D.int 1]).flatten else none) = _
    rw [if_pos (by simp [s1]; omega), Int.toNat_natCast]
    congr 1
    generalize many = n
    induction n with
    | zero => rfl
    | succ n ih => simp [List.replicate_succ, ih]; rfl
  simp [k_law_trading_9, hrep]
  have hlo : order.length = many := by simpa using hperm.length_eq
  have s8' : smB (8 * (many : Int)) = true := s8
  simp [k_law_trading_8, s8]
  refine ⟨ims_iff.2 (by simp), ?_⟩
  rw [show (8 * (many : Int)).toNat = 8 * many by omega, show List.replicate many (eN 1) = (List.replicate many 1).map eN by simp]
  refine w_loop (fun _ e => ∃ (y : Dl) (sz : List Nat) (s6 s12 s14 s15 : Slot), sz.length = many ∧ (∀ n ∈ sz, 1 ≤ n ∧ n ≤ 8) ∧ prodL sz ≤ mo ∧ NOwn s12 ∧
    e = [.own 2 (eDl y), .shr (.int 6), .shr (eN lv), .shr (eN mo), .own 1 (.lst (order.map eN)), .shr (eN c), s6, .none, .shr (eN many), .shr (.int high), .own 1 (.lst (sz.map eN)), .own 1 (.lst []), s12, .none, s14, s15]) (as := List.range (8 * many)) (pre := [])
    ⟨y, List.replicate many 1, .none, .none, .none, .none, by simp, by simp, by rw [prodL_ones]; exact hmo, nown_none, rfl⟩ (fun a _ => by simp) (fun pre a post e hp ⟨y, sz, s6, s12, s14, s15, hsz, hsb, hpr, h12, he⟩ => ?_) (fun e ⟨y, sz, s6, s12, s14, s15, hsz, hsb, hpr, h12, he⟩ => ?_)
  · subst he
    simp [b_law_trading_3]
    refine w_any (by omega) (by omega) fun k y hk => ?_
    simp [k_law_trading_2, s1]
    refine w_loop (fun pre e => ∃ s12, NOwn s12 ∧ e = [.own 2 (eDl y), .shr (.int 6), .shr (eN lv), .shr (eN mo), .own 1 (.lst (order.map eN)), .shr (eN c), .shr (eN a), .none, .shr (eN many), .shr (.int high), .own 1 (.lst (sz.map eN)), .own 1 (.lst []), s12, .none, .shr (eN k), .shr (eN (prodL (pre.map fun i => sz.getD i 0 + if i = k then 1 else 0)))]) (pre := []) ⟨s12, h12, rfl⟩ (fun a _ => by simp) (fun pre a post e hp ⟨s12, h12, he⟩ => ?_) (fun e ⟨s12, h12, he⟩ => ?_)
    · subst he
      have hp' : List.range many = pre ++ a :: post := by simpa using hp
      have ha : a < sz.length := by
        have : a ∈ List.range many := by rw [hp']; simp
        rw [hsz]
        simpa using this
      have hb := hsb _ (List.getElem_mem ha)
      have e1 : ∀ k : Nat, k ≤ 9 → smB (k : Int) = true := fun k hk => sm_nat (by omega)
      by_cases ck : a = k
      · subst ck
        simp [b_law_trading_0, List.getElem?_eq_getElem ha, prodL_snoc]
        exact ⟨.inr (sm_nat (n := sz[a] + 1) (by omega)), nown_shr _⟩
      · simp [b_law_trading_0, List.getElem?_eq_getElem ha, prodL_snoc, ck]
        exact ⟨.inr (sm_nat (by omega)), nown_shr _⟩
    · subst he
      have ha : k < sz.length := by omega
      simp only [List.nil_append]
      rw [← hsz, bump_set]
      simp [k_law_trading_1, List.getElem?_eq_getElem ha]
      refine w_ite' (fun cc => ?_) (fun cc => ?_)
      · simp [objPut, subP, setP, put_lst k (eN (sz[k] + 1)) 0 0 (sz.map eN) (by simpa using ha) (by simp)]
        rw [← List.map_set]
        have hb := hsb _ (List.getElem_mem ha)
        refine ⟨y, sz.set k (sz[k] + 1), by simp, fun n hn => ?_, cc.2, _, _, h12, rfl, rfl, rfl, rfl⟩
        rcases List.mem_or_eq_of_mem_set hn with h | h
        · exact hsb n h
        · subst h
          omega
      · simp
        exact ⟨y, sz, rfl, hsb, hpr, _, _, h12, rfl, rfl, rfl, rfl⟩
  · subst he
    have hbk : b_law_trading_5 = b_law_trading_5 := rfl
    simp [k_law_trading_7, s1]
    refine w_loop (fun pre e => ∃ (y : Dl) (L : List (List Int)) (s7 s12 s13 : Slot), L.length = pre.length ∧ NOwn s12 ∧ (∀ (i : Nat) (l : List Int), L[i]? = some l → l.Pairwise (· < ·) ∧ some l.length = sz[i]? ∧ if i ∈ order.take c then ∀ x ∈ l, x ≤ 0 else ∀ x ∈ l, 0 ≤ x) ∧ 
      e = [.own 2 (eDl y), .shr (.int 6), .shr (eN lv), .shr (eN mo), .own 1 (.lst (order.map eN)), .shr (eN c), s6, s7, .shr (eN many), .shr (.int high), .own 1 (.lst (sz.map eN)), .own 1 (.lst (L.map eT)), s12, s13, s14, s15]) (as := List.range many) (pre := [])
      ⟨y, [], .none, s12, .none, by simp, h12, by simp, rfl⟩ (fun a _ => by simp) (fun pre a post e hp ⟨y, L, s7, s12, s13, hL, h12, hLl, he⟩ => ?_) (fun e ⟨y, L, s7, s12, s13, hL, h12, hLl, he⟩ => ?_)
    · subst he
      have hp' : List.range many = pre ++ a :: post := by simpa using hp
      have ha : a < sz.length := by
        have : a ∈ List.range many := by rw [hp']; simp
        rw [hsz]
        simpa using this
      have hap : a = pre.length := range_split hp'
      simp [b_law_trading_5, List.getElem?_eq_getElem ha]
      refine w_values (hsb _ (List.getElem_mem ha)).2 hh0 hh1 fun l y hl hlp => ?_
      simp [k_law_trading_4, lstAt, subP, ← List.map_take]
      have ext : ∀ l' : List Int, l'.Pairwise (· < ·) → l'.length = sz[a] → (if a ∈ order.take c then ∀ x ∈ l', x ≤ 0 else ∀ x ∈ l', 0 ≤ x) → ∀ (i : Nat) (l : List Int), (L ++ [l'])[i]? = some l → l.Pairwise (· < ·) ∧ some l.length = sz[i]? ∧ if i ∈ order.take c then ∀ x ∈ l, x ≤ 0 else ∀ x ∈ l, 0 ≤ x := fun l' h1 h2 h3 i l hi => by
        by_cases hlt : i < L.length
        · rw [List.getElem?_append_left hlt] at hi
          exact hLl i l hi
        · have he : i = L.length := by
            have := (List.getElem?_eq_some_iff.1 hi).1
            simp at this
            omega
          have hea : i = a := by omega
          subst hea
          rw [he] at hi
          simp at hi
          subst hi
          exact ⟨h1, by rw [h2, List.getElem?_eq_getElem ha], h3⟩
      have hpl : pre.length ≤ 6 := by
        have := congrArg List.length hp'
        simp at this
        omega
      by_cases ci : a ∈ order.take c
      · simp [ci, eNT, revT]
        have hl8 := (hsb _ (List.getElem_mem ha)).2
        refine ⟨⟨?_, by omega⟩, ?_⟩
        · cases s12 <;> simp
          exact h12 _ _ rfl
        rw [← List.map_reverse]
        refine w_compM (enc := eN) (as := l.reverse) (fun b : Nat => D.int (0 - (b : Int))) (fun b _ => by simp) ?_
        simp [lstPut, subP, setP]
        refine ⟨by omega, y, L ++ [(l.map fun n : Nat => -(n : Int)).reverse], by simp [hL], _, _, h12, ext (l.map fun n : Nat => -(n : Int)).reverse ?_ (by simpa using hl) ?_, rfl, rfl, ?_, rfl⟩
        · rw [List.pairwise_reverse, List.pairwise_map]
          exact hlp.imp fun h => by omega
        · simp [ci]
        · simp [eT, List.map_reverse]
      · simp [ci, lstPut, subP, setP]
        refine ⟨by omega, y, L ++ [l.map fun n : Nat => (n : Int)], by simp [hL], _, _, h12, ext (l.map fun n : Nat => (n : Int)) ?_ (by simpa using hl) ?_, rfl, rfl, ?_, rfl⟩
        · rw [List.pairwise_map]
          exact hlp.imp fun h => by omega
        · simp [ci]
        · simp [eT, eNT, nats_ints]
    · subst he
      simp [k_law_trading_6, ← List.map_take]
      rw [sortD_nats _ (by simp; omega)]
      simp
      refine q L _ y ?_
      have hL' : L.length = many := by simpa using hL
      have hg : ∀ (i : Nat), i < L.length → ∃ l, L[i]? = some l := fun i h => ⟨_, List.getElem?_eq_getElem h⟩
      have hlens : L.map List.length = sz := by
        refine List.ext_getElem (by simp; omega) fun i h1 h2 => ?_
        simp at h1
        have := (hLl i _ (List.getElem?_eq_getElem h1)).2.1
        rw [List.getElem?_eq_getElem h2] at this
        simpa using this
      refine ⟨by omega, by omega, fun l hl => ?_, by rw [hlens]; omega, ?_, fun b hb => ?_, fun i l hi => ?_⟩
      · obtain ⟨i, hi⟩ := List.getElem?_of_mem hl
        have h := hLl i l hi
        have hm := List.mem_of_getElem? h.2.1.symm
        have := hsb _ hm
        exact ⟨this.1, this.2, h.1⟩
      · have h1 := List.pairwise_mergeSort (le := fun a b : Nat => decide (a ≤ b)) (fun a b c h1 h2 => by simp at *; omega) (fun a b => by simp; omega) (order.take c)
        have h2 : (order.take c).Nodup := ((hperm.nodup_iff).2 List.nodup_range).sublist (List.take_sublist _ _)
        have h3 := (List.mergeSort_perm (order.take c) (fun a b : Nat => decide (a ≤ b))).nodup_iff.2 h2
        exact (h1.and h3).imp fun h => by have := h.1; have := h.2; simp at *; omega
      · have h1 := ((List.mergeSort_perm (order.take c) (fun a b : Nat => decide (a ≤ b))).mem_iff).1 hb
        have h2 := hperm.mem_iff.1 (List.mem_of_mem_take h1)
        simpa [hL'] using h2
      · have h := (hLl i l hi).2.2
        have hm : (i ∈ (order.take c).mergeSort fun a b : Nat => decide (a ≤ b)) ↔ (i ∈ order.take c) := (List.mergeSort_perm _ _).mem_iff
        by_cases ci : i ∈ order.take c
        · rw [if_pos ci] at h
          rw [if_pos (hm.2 ci)]
          exact h
        · rw [if_neg ci] at h
          rw [if_neg (fun z => ci (hm.1 z))]
          exact h
end HD
set_option Elab.async false
set_option linter.all false
set_option maxRecDepth 100000
set_option maxHeartbeats 2000000
set_option autoImplicit false
/-! HG4: equations of the later combinators. -/
namespace HD
open PySem
@[simp] theorem e_minLamF {caps : List Nat} {nl : Nat} {fs fb : M D} {env : Env} : minLamF caps nl fs fb env = (fs env).bind fun p => match p.1 with
  | .tup xs => (keysD caps nl fb p.2 xs).bind fun ks => if (keysOk ks && (ks.all D.isTup1 && !xs.isEmpty)) = true then (xs[bestI ks (xs.length - 1)]?).map fun d => ((d, 0), p.2) else none
  | _ => none := rfl
@[simp] theorem e_lenM {n : Nat} {fs : M (List D)} {env : Env} : lenM n fs env = (fs env).bind fun p => if p.1.length = n then some p else none := rfl
@[simp] theorem e_gseq {h : GsF} {d : D} {env : Env} : gseq h d env = (seqOf d).bind fun ds => h ds env := rfl
@[simp] theorem d_sumE (d : D) : sumE d = (seqOf d).bind fun xs => (asIs xs).map fun is => .int is.sum := rfl
end HD
set_option Elab.async false
set_option linter.all false
set_option maxRecDepth 100000
set_option maxHeartbeats 4000000
set_option autoImplicit false
/-! CA: the double clock as a relation (k75). -/
namespace HD
open PySem
theorem le_lt (x y : D) : D.le x y = !PySem.W.dataLt y.py x.py := rfl
/-- the place of a least key -/
theorem bestI_map {α : Type} (g : α → D) (r : α → α → Bool) (h : ∀ a b, D.le (g a) (g b) = r a b) (tr : ∀ a b c, r a b = true → r b c = true → r a c = true) (tot : ∀ a b, (r a b || r b a) = true) (l : List α) : ∀ j, j < l.length → ∃ a, l[bestI (l.map g) j]? = some a ∧ ∀ i b, i ≤ j → l[i]? = some b → r a b = true
  | 0, hj => by
    refine ⟨l[0], by simp [bestI, List.getElem?_eq_getElem hj], fun i b hi hb => ?_⟩
    have e : i = 0 := by omega
    subst e
    rw [List.getElem?_eq_getElem hj, Option.some.injEq] at hb
    subst hb
    have := tot l[0] l[0]
    simpa using this
  | j + 1, hj => by
    obtain ⟨a, ha, h2⟩ := bestI_map g r h tr tot l j (by omega)
    have e1 : (l.map g).getD (j + 1) .non = g l[j + 1] := by simp [List.getElem?_eq_getElem hj]
    have e2 : (l.map g).getD (bestI (l.map g) j) .non = g a := by simp [ha]
    unfold bestI
    rw [e1, e2]
    have hle := h a l[j + 1]
    rw [le_lt] at hle
    by_cases c : PySem.W.dataLt (g l[j + 1]).py (g a).py = true
    · rw [if_pos c]
      rw [c] at hle
      refine ⟨l[j + 1], List.getElem?_eq_getElem hj, fun i b hi hb => ?_⟩
      have t1 := tot a l[j + 1]
      rw [← hle] at t1
      simp at t1
      by_cases ei : i = j + 1
      · subst ei
        rw [List.getElem?_eq_getElem hj, Option.some.injEq] at hb
        subst hb
        have := tot l[j + 1] l[j + 1]
        simpa using this
      · exact tr _ _ _ t1 (h2 i b (by omega) hb)
    · rw [if_neg c]
      simp only [Bool.not_eq_true] at c
      rw [c] at hle
      refine ⟨a, ha, fun i b hi hb => ?_⟩
      by_cases ei : i = j + 1
      · subst ei
        rw [List.getElem?_eq_getElem hj, Option.some.injEq] at hb
        subst hb
        exact hle.symm
      · exact h2 i b (by omega) hb
/-- the lowest level -/
def lowB (box : List (List Int)) (b : Nat) : Int := (box.getD b []).getD 0 0
def keyL (box : List (List Int)) (a b : Nat) : Bool := decide (lowB box a < lowB box b ∨ (lowB box a = lowB box b ∧ -(a : Int) ≤ -(b : Int)))
theorem keyL_trans (box : List (List Int)) (a b c : Nat) (h1 : keyL box a b = true) (h2 : keyL box b c = true) : keyL box a c = true := by
  unfold keyL at *
  simp only [decide_eq_true_eq] at *
  omega
theorem keyL_total (box : List (List Int)) (a b : Nat) : (keyL box a b || keyL box b a) = true := by
  unfold keyL
  rw [Bool.or_eq_true, decide_eq_true_eq, decide_eq_true_eq]
  omega
theorem keyL_anti {box : List (List Int)} {a b : Nat} (h1 : keyL box a b = true) (h2 : keyL box b a = true) : a = b := by
  unfold keyL at *
  simp only [decide_eq_true_eq] at *
  omega
/-- the one with the least lowest level, of several the one with the highest number -/
def lastOf (box : List (List Int)) (l : List Nat) : Nat := (l.mergeSort (keyL box)).getD 0 0
theorem lastOf_spec {box : List (List Int)} {l : List Nat} (h : l ≠ []) : lastOf box l ∈ l ∧ ∀ b ∈ l, keyL box (lastOf box l) b = true := by
  have hp := List.mergeSort_perm l (keyL box)
  have hs := List.pairwise_mergeSort (keyL_trans box) (keyL_total box) l
  unfold lastOf
  cases e : l.mergeSort (keyL box) with
  | nil =>
    rw [e] at hp
    exact absurd hp.symm.eq_nil h
  | cons a t =>
    rw [e] at hp hs
    rw [List.pairwise_cons] at hs
    refine ⟨hp.mem_iff.1 (by simp), fun b hb => ?_⟩
    have := hp.mem_iff.2 hb
    simp only [List.getD_cons_zero]
    rcases List.mem_cons.1 this with z | z
    · rw [z]
      have := keyL_total box a a
      simpa using this
    · exact hs.1 b z
theorem lastOf_eq {box : List (List Int)} {l : List Nat} {a : Nat} (ha : a ∈ l) (h : ∀ b ∈ l, keyL box a b = true) : a = lastOf box l := by
  have hs := lastOf_spec (box := box) (l := l) fun e => by rw [e] at ha; cases ha
  exact keyL_anti (h _ hs.1) (hs.2 _ ha)
/-- a game of clocks -/
inductive Gm where
  | fin (lot : List Nat) (pr : List Int)
  | ask (b : Nat) (lo hi : List Int) (g h : Gm)
def eG : Gm → D
  | .fin lot pr => .tup [.str "end", eNT lot, eT pr]
  | .ask b lo hi g h => .tup [.str "ask", eN b, .tup [eT lo, eT hi], .tup [eG g, eG h]]
def Gm.deep : Gm → Nat
  | .fin _ _ => 0
  | .ask _ _ _ g h => 1 + max g.deep h.deep
@[simp] theorem eG_im : ∀ g : Gm, (eG g).im = true
  | .fin lot pr => by simp [eG]
  | .ask b lo hi g h => by simp [eG, eG_im g, eG_im h]
/-- what each one pays -/
def pricesZ (n : Nat) (s going : List Nat) (low high : Int) : List Int := (List.range n).map fun b => if b ∉ going then 0 else if b ∈ s then high else low
/-- the lowest level of the last one -/
def lowOf (box : List (List Int)) (l : List Nat) : Int := if l = [] then 0 else lowB box (lastOf box l)
/-- who is asked or leaves -/
def dueOf (box : List (List Int)) (tk ot : List Nat) : Nat := if ot.length ≤ tk.length then lastOf box tk else lastOf box ot
def ends (box : List (List Int)) (tk ot : List Nat) : Prop := tk.length = ot.length ∧ 0 ≤ lowOf box tk + lowOf box ot
def less (l : List Nat) (d : Nat) : List Nat := l.filter fun b => !decide (b = d)
def lowBox (box : List (List Int)) (d : Nat) : List (List Int) := box.set d ((box.getD d []).take 1)
def highBox (box : List (List Int)) (d : Nat) : List (List Int) := box.set d (box.getD d []).tail
inductive Clk (s : List Nat) : List (List Int) → List Nat → List Nat → Gm → Prop
  | fin {box : List (List Int)} {tk ot : List Nat} (h : ends box tk ot) : Clk s box tk ot (.fin (sortN (tk ++ ot)) (pricesZ box.length s (sortN (tk ++ ot)) (lowOf box tk) (lowOf box ot)))
  | drop {box : List (List Int)} {tk ot : List Nat} {g : Gm} (h : ¬ ends box tk ot) (h1 : (box.getD (dueOf box tk ot) []).length ≤ 1) (k : Clk s box (less tk (dueOf box tk ot)) (less ot (dueOf box tk ot)) g) : Clk s box tk ot g
  | ask {box : List (List Int)} {tk ot : List Nat} {g g' : Gm} (h : ¬ ends box tk ot) (h1 : 1 < (box.getD (dueOf box tk ot) []).length) (k : Clk s (lowBox box (dueOf box tk ot)) (less tk (dueOf box tk ot)) (less ot (dueOf box tk ot)) g) (k' : Clk s (highBox box (dueOf box tk ot)) tk ot g') :
      Clk s box tk ot (.ask (dueOf box tk ot) ((box.getD (dueOf box tk ot) []).take 1) (box.getD (dueOf box tk ot) []).tail g g')
theorem Clk.det {s : List Nat} {box : List (List Int)} {tk ot : List Nat} {g g' : Gm} (h : Clk s box tk ot g) (h' : Clk s box tk ot g') : g = g' := by
  induction h generalizing g' with
  | fin e => cases h' with
    | fin _ => rfl
    | drop n => exact absurd e n
    | ask n => exact absurd e n
  | drop n l _ ih => cases h' with
    | fin e => exact absurd e n
    | drop _ _ k => exact ih k
    | ask _ l' => omega
  | ask n l _ _ ih ih' => cases h' with
    | fin e => exact absurd e n
    | drop _ l' => omega
    | ask _ _ k k' => rw [ih k, ih' k']
/-- how many levels could go -/
def mu (box : List (List Int)) : Nat := (box.map fun l => l.length - 1).sum
theorem mu_set : ∀ {box : List (List Int)} {d : Nat} {l : List Int}, d < box.length → l.length < (box.getD d []).length → 1 ≤ l.length → mu (box.set d l) < mu box
  | [], d, l, h, _, _ => by simp at h
  | a :: box, 0, l, h, h1, h2 => by
    simp [mu] at h1 ⊢
    omega
  | a :: box, d + 1, l, h, h1, h2 => by
    have := mu_set (box := box) (d := d) (l := l) (by simpa using h) (by simpa using h1) h2
    simp [mu] at this ⊢
    omega
theorem lt_of_len {box : List (List Int)} {d : Nat} (h : 1 < (box.getD d []).length) : d < box.length := by
  by_cases c : d < box.length
  · exact c
  · rw [List.getD_eq_getElem?_getD, List.getElem?_eq_none (by omega)] at h
    simp at h
theorem mu_low {box : List (List Int)} {d : Nat} (h : 1 < (box.getD d []).length) : mu (lowBox box d) < mu box :=
  mu_set (lt_of_len h) (by rw [List.length_take]; omega) (by rw [List.length_take]; omega)
theorem mu_high {box : List (List Int)} {d : Nat} (h : 1 < (box.getD d []).length) : mu (highBox box d) < mu box :=
  mu_set (lt_of_len h) (by rw [List.length_tail]; omega) (by rw [List.length_tail]; omega)
theorem Clk.deep {s : List Nat} {box : List (List Int)} {tk ot : List Nat} {g : Gm} (h : Clk s box tk ot g) : g.deep ≤ mu box := by
  induction h with
  | fin e => exact Nat.zero_le _
  | drop _ _ _ ih => exact ih
  | ask _ l _ _ ih ih' =>
    have h1 := mu_low l
    have h2 := mu_high l
    unfold Gm.deep
    omega
/-- lists in a game are short -/
def Gm.ok : Gm → Prop
  | .fin lot pr => lot.length ≤ 1000 ∧ pr.length ≤ 1000
  | .ask _ lo hi g h => lo.length ≤ 1000 ∧ hi.length ≤ 1000 ∧ g.ok ∧ h.ok
theorem pls_mapF {α : Type} (n : Nat) (f : α → D) : ∀ {l : List α}, (∀ a ∈ l, plB n (f a) = true) → plsB n (l.map f) = true
  | [], _ => by cases n <;> rfl
  | a :: l, h => by
    have h1 := h a List.mem_cons_self
    have h2 := pls_mapF n f (l := l) fun b hb => h b (List.mem_cons_of_mem _ hb)
    simp [plsB, h1, h2]
theorem pl_eNT (n : Nat) {l : List Nat} (h : l.length ≤ 1000) : plB (n + 2) (eNT l) = true := by
  have h1 : plsB (n + 1) (l.map eN) = true := pls_mapF (n + 1) eN fun a _ => rfl
  have h2 : l.length ≤ 16777216 := by omega
  simp [plB, eNT, h1, h2]
theorem pl_eT (n : Nat) {l : List Int} (h : l.length ≤ 1000) : plB (n + 2) (eT l) = true := by
  have h1 : plsB (n + 1) (l.map D.int) = true := pls_mapF (n + 1) D.int fun a _ => rfl
  have h2 : l.length ≤ 16777216 := by omega
  simp [plB, eT, h1, h2]
theorem pl_eG : ∀ {g : Gm} {n : Nat}, 2 * g.deep + 3 ≤ n → g.ok → plB n (eG g) = true
  | .fin lot pr, n, h, ok => by
    obtain ⟨k, rfl⟩ : ∃ k, n = k + 3 := ⟨n - 3, by omega⟩
    have h1 := pl_eNT k ok.1
    have h2 := pl_eT k ok.2
    have h3 : plB (k + 2) (.str "end") = true := by show PyData.strOk "end" = true; decide +kernel
    rw [eG]
    simp only [pl_tup, pls_cons, pls_nil, h1, h2, h3, Bool.and_true, List.length_cons, List.length_nil]
    rfl
  | .ask b lo hi g g', n, h, ok => by
    simp only [Gm.deep] at h
    obtain ⟨k, rfl⟩ : ∃ k, n = k + 5 := ⟨n - 5, by omega⟩
    have h1 := pl_eT k ok.1
    have h2 := pl_eT k ok.2.1
    have h3 := pl_eG (g := g) (n := k + 3) (by omega) ok.2.2.1
    have h4 := pl_eG (g := g') (n := k + 3) (by omega) ok.2.2.2
    have h5 : plB (k + 4) (.str "ask") = true := by show PyData.strOk "ask" = true; decide +kernel
    have h1' : plB (k + 3) (eT lo) = true := pl_eT (k + 1) ok.1
    have h2' : plB (k + 3) (eT hi) = true := pl_eT (k + 1) ok.2.1
    have h6 : plB (k + 4) (eN b) = true := rfl
    rw [eG]
    simp only [pl_tup, pls_cons, pls_nil, h1', h2', h3, h4, h5, h6, Bool.and_true, List.length_cons, List.length_nil]
    rfl
theorem Clk.ok {s : List Nat} {box : List (List Int)} {tk ot : List Nat} {g : Gm} (h : Clk s box tk ot g) (hb : box.length ≤ 1000) (hl : ∀ l ∈ box, l.length ≤ 1000) (ht : tk.length + ot.length ≤ 1000) : g.ok := by
  have hset : ∀ {box : List (List Int)} {d : Nat} {l : List Int}, (∀ l ∈ box, l.length ≤ 1000) → l.length ≤ 1000 → ∀ l' ∈ box.set d l, l'.length ≤ 1000 := fun h1 h2 l' hl' => by
    rcases List.mem_or_eq_of_mem_set hl' with z | z
    · exact h1 _ z
    · rw [z]; exact h2
  have hget : ∀ {box : List (List Int)} (d : Nat), (∀ l ∈ box, l.length ≤ 1000) → (box.getD d []).length ≤ 1000 := fun {box} d h1 => by
    by_cases c : d < box.length
    · have : box.getD d [] = box[d] := by simp [List.getElem?_eq_getElem c]
      rw [this]
      exact h1 _ (List.getElem_mem c)
    · rw [List.getD_eq_getElem?_getD, List.getElem?_eq_none (by omega)]
      simp
  have hless : ∀ (tk ot : List Nat) (d : Nat), tk.length + ot.length ≤ 1000 → (less tk d).length + (less ot d).length ≤ 1000 := fun tk ot d h => by
    have h1 := List.length_filter_le (fun b => !decide (b = d)) tk
    have h2 := List.length_filter_le (fun b => !decide (b = d)) ot
    unfold less
    omega
  induction h with
  | @fin box tk ot e =>
    refine ⟨?_, by simp [pricesZ]; omega⟩
    rw [(sortN_perm _).length_eq, List.length_append]
    exact ht
  | drop _ _ _ ih => exact ih hb hl (hless _ _ _ ht)
  | @ask box tk ot g g' _ l _ _ ih ih' =>
    have h0 := hget (box := box) (dueOf box tk ot) hl
    refine ⟨by rw [List.length_take]; omega, by rw [List.length_tail]; omega, ih (by unfold lowBox; rw [List.length_set]; exact hb) (hset hl (by rw [List.length_take]; omega)) (hless _ _ _ ht), ih' (by unfold highBox; rw [List.length_set]; exact hb) (hset hl (by rw [List.length_tail]; omega)) ht⟩
end HD
set_option Elab.async false
set_option linter.all false
set_option maxRecDepth 100000
set_option maxHeartbeats 4000000
set_option autoImplicit false
/-! CB: last_of, prices_at_end, clock_from, double_clock by data (k75). -/
namespace HD
open PySem
/-- a box of the clock -/
structure BOk (box : List (List Int)) : Prop where
  n : box.length ≤ 100
  l : ∀ x ∈ box, 1 ≤ x.length ∧ x.length ≤ 1000
theorem BOk.get {box : List (List Int)} (h : BOk box) {b : Nat} (hb : b < box.length) : 1 ≤ (box.getD b []).length ∧ (box.getD b []).length ≤ 1000 := by
  have : box.getD b [] = box[b] := by simp [List.getElem?_eq_getElem hb]
  rw [this]
  exact h.l _ (List.getElem_mem hb)
theorem ix_M {box : List (List Int)} {b : Nat} (hb : b < box.length) : idxD (eM box) (eN b) = some (eT (box[b]?.getD [])) := by
  simp [eM, List.getElem?_eq_getElem hb]
theorem ix_T0 {x : List Int} (hx : 1 ≤ x.length) : idxD (eT x) (.int 0) = some (.int (x[0]?.getD 0)) := by
  cases x with
  | nil => simp at hx
  | cons a x => simp [eT]
theorem ix_low {box : List (List Int)} {b : Nat} (hB : BOk box) (hb : b < box.length) : idxD (eT (box[b]?.getD [])) (.int 0) = some (.int (lowB box b)) := ix_T0 (x := box.getD b []) (hB.get hb).1
@[simp] theorem slT_1 (l : List Int) : slcD (eT l) none (some 1) = some (eT (l.take 1)) := by simp [eT]
@[simp] theorem slT_t (l : List Int) : slcD (eT l) (some 1) none = some (eT l.tail) := by simp [eT]
@[simp] theorem slM_u (l : List (List Int)) (d : Nat) : slcD (eM l) none (some (d : Int)) = some (eM (l.take d)) := by simp [eM]
@[simp] theorem slM_f (l : List (List Int)) (d : Nat) : slcD (eM l) (some ((d : Int) + 1)) none = some (eM (l.drop (d + 1))) := by simp [eM]
@[simp] theorem addM_1 (a : List (List Int)) (x : List Int) : addD (eM a) (.tup [eT x]) = if a.length + 1 ≤ 16777216 then some (eM (a ++ [x])) else none := by simp [eM]
@[simp] theorem addM (a b : List (List Int)) : addD (eM a) (eM b) = if a.length + b.length ≤ 16777216 then some (eM (a ++ b)) else none := by simp [eM]
theorem set_M {box : List (List Int)} {d : Nat} (x : List Int) (hd : d < box.length) : box.take d ++ [x] ++ box.drop (d + 1) = box.set d x := by
  rw [List.set_eq_take_append_cons_drop, if_pos hd]
  simp
theorem last_of_ok {box : List (List Int)} {l : List Nat} (hB : BOk box) (hl : l.length ≤ 1000) (h : ∀ b ∈ l, b < box.length) (hne : l ≠ []) : phi_last_of [eM box, eNT l] = some (eN (lastOf box l), 0, [.non, .non]) := by
  unfold phi_last_of
  refine w_eq (w_runF ?_)
  have hk := keysD_map (f := eN) (g := fun b => .tup [.int (lowB box b), .int (-(b : Int))]) (caps := [0]) (nl := 2) (fb := (app (argsC true (bin true (bin true (nmS 1) (nmS 0) idxD) (cst (.int 0)) idxD) (argsC true (una (nmS 0) negD) args0)) tupD)) (env := [.shr (eM box), .shr (eNT l)]) (l := l) fun b hb => ⟨[.shr (eN b), .shr (eM box)], by
    have h1 := ix_M (h b hb)
    have h2 := ix_low hB (h b hb)
    simp [lamEnvD, h1, h2]⟩
  have ho := keysOk_map (fun b : Nat => .tup [.int (lowB box b), .int (-(b : Int))]) l (fun _ => rfl) (fun _ _ => rfl) (fun _ => rfl) (by omega)
  have hpos : 0 < l.length := List.length_pos_iff.mpr hne
  obtain ⟨a, ha, hm⟩ := bestI_map (fun b : Nat => .tup [.int (lowB box b), .int (-(b : Int))]) (keyL box) (fun a b => le_ii _ _ _ _) (keyL_trans box) (keyL_total box) l (l.length - 1) (by omega)
  have e : a = lastOf box l := lastOf_eq (List.mem_of_getElem? ha) fun b hb => by
    obtain ⟨i, hi⟩ := List.getElem?_of_mem hb
    have := (List.getElem?_eq_some_iff.1 hi).1
    exact hm i b (by omega) hi
  simp only [eNT] at hk
  simp [sf_last_of, eNT]
  rw [hk, w_some]
  rw [ho]
  simp [ha, hne, e, D.isTup1]
theorem prices_ok {n : Nat} {s going : List Nat} {low high : Int} (hn : n ≤ 1000) : phi_prices_at_end [eN n, eNT s, eNT going, .int low, .int high] = some (eT (pricesZ n s going low high), 0, [.non, .non, .non, .non, .non]) := by
  unfold phi_prices_at_end
  refine w_eq (w_runF ?_)
  have h1 := sm_nat (n := n) (by omega)
  simp [sf_prices_at_end, h1, eNT]
  refine ⟨by omega, w_compM (fun b => .int (if b ∉ going then 0 else if b ∈ s then high else low)) (fun b hb => ?_) ?_⟩
  · by_cases c1 : b ∈ going
    · by_cases c2 : b ∈ s <;> simp [c1, c2]
    · simp [c1]
  · simp [eT, pricesZ]
theorem less_mem {l : List Nat} {d b : Nat} : b ∈ less l d ↔ b ∈ l ∧ b ≠ d := by simp [less]
theorem less_len (l : List Nat) (d : Nat) : (less l d).length ≤ l.length := List.length_filter_le _ _
theorem less_lt {l : List Nat} {d : Nat} (h : d ∈ l) : (less l d).length < l.length := by
  induction l with
  | nil => cases h
  | cons a l ih =>
    have h0 := less_len l d
    unfold less at ih h0 ⊢
    by_cases c : a = d
    · simp [c]
      omega
    · have hd : d ∈ l := (List.mem_cons.1 h).resolve_left fun z => c z.symm
      have := ih hd
      rw [List.filter_cons, if_pos (by simp [c])]
      simp only [List.length_cons]
      omega
/-- buyers of the box -/
def InB (box : List (List Int)) (l : List Nat) : Prop := (∀ b ∈ l, b < box.length) ∧ l.length ≤ 400
theorem InB.less {box : List (List Int)} {l : List Nat} (h : InB box l) (d : Nat) : InB box (less l d) := ⟨fun b hb => h.1 b (less_mem.1 hb).1, by have := less_len l d; have := h.2; omega⟩
theorem nil_ends {box : List (List Int)} {tk ot : List Nat} (h : ¬ ends box tk ot) (c : ot.length ≤ tk.length) : tk ≠ [] := fun e => h (by
  subst e
  have : ot = [] := by simpa using c
  subst this
  simp [ends, lowOf])
theorem nil_ends' {tk ot : List Nat} (c : ¬ ot.length ≤ tk.length) : ot ≠ [] := fun e => c (by subst e; simp)
theorem due_in {box : List (List Int)} {tk ot : List Nat} (h : ¬ ends box tk ot) (ht : InB box tk) (ho : InB box ot) : dueOf box tk ot < box.length ∧ (dueOf box tk ot ∈ tk ∨ dueOf box tk ot ∈ ot) := by
  unfold dueOf
  split
  · rename_i c
    have := (lastOf_spec (box := box) (nil_ends h c)).1
    exact ⟨ht.1 _ this, .inl this⟩
  · rename_i c
    have := (lastOf_spec (box := box) (nil_ends' c)).1
    exact ⟨ho.1 _ this, .inr this⟩
theorem due_less {box : List (List Int)} {tk ot : List Nat} (h : ¬ ends box tk ot) (ht : InB box tk) (ho : InB box ot) : (less tk (dueOf box tk ot)).length + (less ot (dueOf box tk ot)).length < tk.length + ot.length := by
  have h1 := less_len tk (dueOf box tk ot)
  have h2 := less_len ot (dueOf box tk ot)
  rcases (due_in h ht ho).2 with z | z
  · have := less_lt z
    omega
  · have := less_lt z
    omega
theorem bset {box : List (List Int)} {d : Nat} {x : List Int} (hd : d < box.length) : (box.take d).map eT ++ [eT x] ++ (box.drop (d + 1)).map eT = (box.set d x).map eT := by
  rw [List.set_eq_take_append_cons_drop, if_pos hd]
  simp
theorem BOk.set {box : List (List Int)} {d : Nat} {x : List Int} (h : BOk box) (h1 : 1 ≤ x.length) (h2 : x.length ≤ 1000) : BOk (box.set d x) := ⟨by rw [List.length_set]; exact h.n, fun y hy => by
  rcases List.mem_or_eq_of_mem_set hy with z | z
  · exact h.l _ z
  · rw [z]; exact ⟨h1, h2⟩⟩
theorem BOk.low {box : List (List Int)} {d : Nat} (h : BOk box) (c : 1 < (box.getD d []).length) : BOk (lowBox box d) := h.set (by rw [List.length_take]; omega) (by rw [List.length_take]; omega)
theorem BOk.high {box : List (List Int)} {d : Nat} (h : BOk box) (c : 1 < (box.getD d []).length) : BOk (highBox box d) := h.set (by rw [List.length_tail]; omega) (by have := (h.get (lt_of_len c)).2; rw [List.length_tail]; omega)
theorem InB.low {box : List (List Int)} {d : Nat} {l : List Nat} (h : InB box l) : InB (lowBox box d) l := ⟨fun b hb => by unfold lowBox; rw [List.length_set]; exact h.1 b hb, h.2⟩
theorem InB.high {box : List (List Int)} {d : Nat} {l : List Nat} (h : InB box l) : InB (highBox box d) l := ⟨fun b hb => by unfold highBox; rw [List.length_set]; exact h.1 b hb, h.2⟩
theorem len_M (box : List (List Int)) : lenD (eM box) = some (eN box.length) := by simp [eM]
theorem low_ok {box : List (List Int)} {l : List Nat} (hB : BOk box) (hl : InB box l) (hne : l ≠ []) : lowOf box l = ((box.getD (lastOf box l) []).getD 0 0) := by
  unfold lowOf
  rw [if_neg hne]
  rfl
theorem neT0 {l : List Nat} (h : l.length ≤ 400) : neD (eNT l) (.tup []) = some (.bl (!l.isEmpty)) := by
  have : l.length ≤ 16777216 := by omega
  simp [eNT, this]
@[simp] theorem addNT (a b : List Nat) : addD (eNT a) (eNT b) = if a.length + b.length ≤ 16777216 then some (eNT (a ++ b)) else none := by simp [eNT]
@[simp] theorem seqNT (l : List Nat) : seqOf (eNT l) = some (l.map eN) := rfl
/-- ahead of a turn -/
def clkI (s : List Nat) (box : List (List Int)) (tk ot : List Nat) (k : Nat) (e : Env) : Prop := ∃ (tk' ot' : List Nat) (s6 s7 s11 s12 : Slot), k = tk'.length + ot'.length ∧ InB box tk' ∧ InB box ot' ∧ (∀ g, Clk s box tk' ot' g → Clk s box tk ot g) ∧
  e = [.shr (eM box), .shr (eNT s), .shr (eNT tk'), .shr (eNT ot'), .none, .none, s6, s7, .none, .none, .none, s11, s12, .none, .none, .none]
theorem clk_rest {phi : FnD} {s : List Nat} {box : List (List Int)} {tk ot tk' ot' : List Nat} {s6 s7 s11 s12 : Slot} {Q : Out → Prop} (hB : BOk box) (ht : InB box tk') (ho : InB box ot') (he : ¬ ends box tk' ot') (hk : ∀ g, Clk s box tk' ot' g → Clk s box tk ot g)
    (hQ : 1 < (box.getD (dueOf box tk' ot') []).length → Q (.nx [.shr (eM box), .shr (eNT s), .shr (eNT tk'), .shr (eNT ot'), .none, .none, .shr (eN (dueOf box tk' ot')), .shr (.tup [eNT (less tk' (dueOf box tk' ot')), eNT (less ot' (dueOf box tk' ot'))]), .none, .none, .none, s11, s12, .none, .none, .none])) :
    W (k_clock_from_5 phi [.shr (eM box), .shr (eNT s), .shr (eNT tk'), .shr (eNT ot'), .none, .none, s6, s7, .none, .none, .none, s11, s12, .none, .none, .none]) (Lp Q fun e => ∃ k, k < tk'.length + ot'.length ∧ clkI s box tk ot k e) := by
  have hd := (due_in he ht ho).1
  have hl := due_less he ht ho
  have g1 := ix_M hd
  have hdrop := fun (c : (box.getD (dueOf box tk' ot') []).length ≤ 1) g h => hk g (Clk.drop he c h)
  have hl1 := ht.2
  have hl2 := ho.2
  have l1 : lenD (eNT tk') = some (eN tk'.length) := by simp [eNT]
  have l2 : lenD (eNT ot') = some (eN ot'.length) := by simp [eNT]
  have rest2 : W (k_clock_from_4 phi [.shr (eM box), .shr (eNT s), .shr (eNT tk'), .shr (eNT ot'), .none, .none, .shr (eN (dueOf box tk' ot')), s7, .none, .none, .none, s11, s12, .none, .none, .none]) (Lp Q fun e => ∃ k, k < tk'.length + ot'.length ∧ clkI s box tk ot k e) := by
    generalize dueOf box tk' ot' = d at *
    simp [k_clock_from_4]
    refine ⟨by omega, w_compP (fun b => !decide (b = d)) eN (fun b hb => by simp) ?_⟩
    simp
    refine ⟨by omega, w_compP (fun b => !decide (b = d)) eN (fun b hb => by simp) ?_⟩
    have e1 : D.tup ((tk'.filter fun b => !decide (b = d)).map eN) = eNT (less tk' d) := rfl
    have e2 : D.tup ((ot'.filter fun b => !decide (b = d)).map eN) = eNT (less ot' d) := rfl
    have lb : lenD (eT (box[d]?.getD [])) = some (eN (box.getD d []).length) := by simp [eT]
    simp [e1, e2, k_clock_from_3, g1, lb]
    refine ⟨fun c => hQ (by simp only [List.getD_eq_getElem?_getD]; omega), fun c => ?_⟩
    · simp [k_clock_from_2]
      exact ⟨_, hl, less tk' d, less ot' d, _, _, _, _, rfl, ht.less d, ho.less d, hdrop (by simp only [List.getD_eq_getElem?_getD]; omega), rfl⟩
  by_cases c : ot'.length ≤ tk'.length
  · have h := last_of_ok hB (by omega) ht.1 (nil_ends he c)
    have e : dueOf box tk' ot' = lastOf box tk' := by unfold dueOf; rw [if_pos c]
    rw [e] at rest2
    simp [k_clock_from_5, l1, l2, c, h]
    exact rest2
  · have h := last_of_ok hB (by omega) ho.1 (nil_ends' c)
    have e : dueOf box tk' ot' = lastOf box ot' := by unfold dueOf; rw [if_neg c]
    rw [e] at rest2
    simp [k_clock_from_5, l1, l2, c, h]
    exact rest2
theorem clock_from_ok (s : List Nat) : ∀ (n : Nat) (box : List (List Int)) (tk ot : List Nat), mu box < n → BOk box → InB box tk → InB box ot → ∃ g, Clk s box tk ot g ∧ phi_clock_from n [eM box, eNT s, eNT tk, eNT ot] = some (eG g, 0, [.non, .non, .non, .non])
  | 0, _, _, _, h, _, _, _ => by omega
  | n + 1, box, tk, ot, hn, hB, ht, ho => by
    have ih := clock_from_ok s n
    suffices h : W (phi_clock_from (n + 1) [eM box, eNT s, eNT tk, eNT ot]) fun o => ∃ g, Clk s box tk ot g ∧ o = (eG g, 0, [.non, .non, .non, .non]) by
      obtain ⟨o, e, g, hg, rfl⟩ := h
      exact ⟨g, hg, e⟩
    unfold phi_clock_from
    refine w_runF ?_
    generalize hphi : phi_clock_from n = phi at *
    simp [sf_clock_from]
    have tail : ∀ (tk' ot' : List Nat) (s10 s11 s12 s13 s14 s15 : Slot), NOwn s10 → InB box tk' → InB box ot' → ¬ ends box tk' ot' → 1 < (box.getD (dueOf box tk' ot') []).length → (∀ g, Clk s box tk' ot' g → Clk s box tk ot g) →
        W (k_clock_from_10 phi [.shr (eM box), .shr (eNT s), .shr (eNT tk'), .shr (eNT ot'), .none, .none, .shr (eN (dueOf box tk' ot')), .shr (.tup [eNT (less tk' (dueOf box tk' ot')), eNT (less ot' (dueOf box tk' ot'))]), .none, .none, s10, s11, s12, s13, s14, s15]) fun o => match o with
          | .rt d n e => ∃ g, Clk s box tk ot g ∧ d = eG g ∧ n = 0
          | .nx e => False
          | _ => False := fun tk' ot' s10 s11 s12 s13 s14 s15 n10 ht' ho' he hl hk => by
      have hd := (due_in he ht' ho').1
      have g1 := ix_M hd
      obtain ⟨gl, hl1, hl2⟩ := ih (lowBox box (dueOf box tk' ot')) (less tk' (dueOf box tk' ot')) (less ot' (dueOf box tk' ot')) (by have := mu_low hl; omega) (hB.low hl) (ht'.less _).low (ho'.less _).low
      obtain ⟨gh, hh1, hh2⟩ := ih (highBox box (dueOf box tk' ot')) tk' ot' (by have := mu_high hl; omega) (hB.high hl) ht'.high ho'.high
      have fin := hk _ (Clk.ask he hl hl1 hh1)
      have hbn := hB.n
      generalize hdd : dueOf box tk' ot' = d at *
      simp [k_clock_from_10, g1]
      simp [k_clock_from_9]
      refine ⟨by cases s10 <;> simp; exact n10 _ _ rfl, ?_⟩
      have s1 : box.take d ++ [(box[d]?.getD []).take 1] ++ box.drop (d + 1) = lowBox box d := set_M _ hd
      have s2 : box.take d ++ [(box[d]?.getD []).tail] ++ box.drop (d + 1) = highBox box d := set_M _ hd
      have l1 : min d box.length + 1 ≤ 16777216 := by omega
      have l2 : min d box.length + 1 + (box.length - (d + 1)) ≤ 16777216 := by omega
      rw [show [eT ((box[d]?.getD []).take 1), eT (box[d]?.getD []).tail] = [(box[d]?.getD []).take 1, (box[d]?.getD []).tail].map eT from rfl]
      refine w_compM (fun x => eM (box.take d ++ [x] ++ box.drop (d + 1))) (fun x hx => ?_) ?_
      · simp [l1, l2]
      · simp only [List.map_cons, List.map_nil, s1, s2]
        simp [k_clock_from_8]
        simp [hl2, hh2, k_clock_from_7]
        exact ⟨_, fin, rfl⟩
    refine w_whD (clkI s box tk ot) (fun k e ⟨tk', ot', s6, s7, s11, s12, hk, ht', ho', hg, he⟩ => ?_) (tk.length + ot.length) ⟨tk, ot, .none, .none, .none, .none, rfl, ht, ho, fun g h => h, rfl⟩ (by have := ht.2; have := ho.2; unfold WF; omega)
    subst he hk
    simp [b_clock_from_6]
    have l1 : lenD (eNT tk') = some (eN tk'.length) := by simp [eNT]
    have l2 : lenD (eNT ot') = some (eN ot'.length) := by simp [eNT]
    simp [l1, l2]
    have ht2 := ht'.2
    have ho2 := ho'.2
    have hbn := hB.n
    have lb := len_M box
    by_cases hl : tk'.length = ot'.length
    · simp only [if_pos hl]
      rw [show [eNT tk', eNT ot'] = [tk', ot'].map eNT from rfl]
      simp
      refine w_compM (enc := eNT) (as := [tk', ot']) (fun l => .int (lowOf box l)) (fun l hm => ?_) ?_
      · have hi : InB box l := by
          simp at hm
          rcases hm with rfl | rfl
          · exact ht'
          · exact ho'
        have h0 := neT0 hi.2
        by_cases c : l = []
        · subst c
          simp [h0, lowOf]
        · have hd := hi.1 _ (lastOf_spec (box := box) c).1
          have g1 := ix_M hd
          have g2 := ix_low hB hd
          have h := last_of_ok hB (by have := hi.2; omega) hi.1 c
          simp [h0, c, h, g1, g2, lowOf]
      · simp [k_clock_from_1]
        refine w_ite' (fun c => ?_) (fun c => ?_)
        · have hs := sortD_nats (tk' ++ ot') (by simp; omega)
          have hlen : tk'.length + ot'.length ≤ 16777216 := by omega
          simp at hs
          have hp := prices_ok (n := box.length) (s := s) (going := sortN (tk' ++ ot')) (low := lowOf box tk') (high := lowOf box ot') (by omega)
          have he : D.tup (((tk' ++ ot').mergeSort fun a b => decide (a ≤ b)).map eN) = eNT (sortN (tk' ++ ot')) := rfl
          simp [hlen, hs, k_clock_from_0, he, lb, hp]
          exact ⟨_, hg _ (Clk.fin ⟨hl, c⟩), rfl⟩
        · simp
          have he : ¬ ends box tk' ot' := fun z => c z.2
          refine clk_rest hB ht' ho' he hg fun hl => ?_
          refine (tail tk' ot' _ _ _ _ _ _ nown_none ht' ho' he hl hg).mono fun o h => ?_
          cases o <;> simp at h ⊢
          exact h
    · simp only [if_neg hl]
      simp
      have he : ¬ ends box tk' ot' := fun z => hl z.1
      refine clk_rest hB ht' ho' he hg fun hl => ?_
      refine (tail tk' ot' _ _ _ _ _ _ nown_none ht' ho' he hl hg).mono fun o h => ?_
      cases o <;> simp at h ⊢
      exact h
end HD
set_option Elab.async false
set_option linter.all false
set_option maxRecDepth 100000
set_option maxHeartbeats 4000000
set_option autoImplicit false
/-! CC: double_clock, and the law's own double clock by data (k75). -/
namespace HD
open PySem
theorem double_clock_ok {m : List (List Int)} {s : List Nat} (hmu : mu m < 100) (hB : BOk m) (hs : InB m s) : ∃ g, Clk s m (takers m.length s) s g ∧ phi_double_clock [eTr m s] = some (eG g, 0, [.non]) := by
  have ht : InB m (takers m.length s) := ⟨fun b hb => (mem_takers.1 hb).1, by
    unfold takers
    have := List.length_filter_le (fun b => !decide (b ∈ s)) (List.range m.length)
    have := hB.n
    simp at *
    omega⟩
  obtain ⟨g, h1, h2⟩ := clock_from_ok s 100 m (takers m.length s) s hmu hB ht hs
  refine ⟨g, h1, ?_⟩
  unfold phi_double_clock
  refine w_eq (w_runF ?_)
  have h3 := takers_of_ok m s (by have := hB.n; omega)
  have h4 : idxD (eTr m s) (.int 1) = some (eNT s) := rfl
  have h5 : idxD (eTr m s) (.int 0) = some (eM m) := rfl
  have h2' : phi_clock_from RF [eM m, eNT s, eNT (takers m.length s), eNT s] = some (eG g, 0, [.non, .non, .non, .non]) := h2
  simp [sf_double_clock, h3, h4, h5, h2']
theorem law_parted_ok {box : List (List Int)} {b : Nat} (hB : BOk box) (hb : b < box.length) : phi_law_parted [eM box, eN b] = some (.tup [eM (lowBox box b), eM (highBox box b)], 0, [.non, .non]) := by
  unfold phi_law_parted
  refine w_eq (w_runF ?_)
  have h1 := ix_M hb
  have hn := hB.n
  have s1 : box.take b ++ [(box[b]?.getD []).take 1] ++ box.drop (b + 1) = lowBox box b := set_M _ hb
  have s2 : box.take b ++ [(box[b]?.getD []).tail] ++ box.drop (b + 1) = highBox box b := set_M _ hb
  have l1 : min b box.length + 1 ≤ 16777216 := by omega
  have l2 : min b box.length + 1 + (box.length - (b + 1)) ≤ 16777216 := by omega
  rw [List.append_assoc] at s1 s2
  simp [sf_law_parted, h1, l1, l2]
  simp only [List.singleton_append] at s1 s2
  rw [s1, s2]
  exact ⟨rfl, rfl⟩
/-- the last one, or None -/
def lastD (box : List (List Int)) (l : List Nat) : D := if l = [] then .non else eN (lastOf box l)
@[simp] theorem lastD_im (box : List (List Int)) (l : List Nat) : (lastD box l).im = true := by unfold lastD; split <;> rfl
theorem law_last_ok {box : List (List Int)} {l : List Nat} (hB : BOk box) (hl : l.length ≤ 1000) (h : ∀ b ∈ l, b < box.length) : phi_law_last [eM box, .lst (l.map eN)] = some (lastD box l, 0, [.non, .non]) := by
  unfold phi_law_last
  refine w_eq (w_runF ?_)
  simp [sf_law_last]
  refine ⟨by omega, w_compM (fun b => .tup [.int (lowB box b), .int (-(b : Int))]) (fun b hb => ?_) ?_⟩
  · have h1 := ix_M (h b hb)
    have h2 := ix_low hB (h b hb)
    simp [h1, h2]
  · rw [sortD_map (fun b : Nat => .tup [.int (lowB box b), .int (-(b : Int))]) (keyL box) l (fun a b => le_ii _ _ _ _) (fun _ _ => rfl) (fun _ _ => rfl) (.inl fun _ => rfl) (by omega)]
    simp
    have hlen := List.length_mergeSort (le := keyL box) l
    by_cases c : l = []
    · subst c
      simp [k_law_last_0, lastD]
    · have hne : l.mergeSort (keyL box) ≠ [] := fun e => c (by rw [e] at hlen; simpa using hlen.symm)
      simp [k_law_last_0, c, lastD]
      unfold lastOf
      cases e : l.mergeSort (keyL box) with
      | nil => exact absurd e hne
      | cons a t =>
        rw [e] at hlen
        have : t.length + 1 ≤ 16777216 := by simp at hlen; omega
        simp [this]
        omega

theorem prices_eq {n : Nat} {s tk ot : List Nat} {p q : Int} (h1 : ∀ b ∈ tk, b ∉ s) (h2 : ∀ b ∈ ot, b ∈ s) : ((List.range n).map fun b => D.int (if b ∈ tk then p else if b ∈ ot then q else 0)) = (pricesZ n s (sortN (tk ++ ot)) p q).map D.int := by
  unfold pricesZ
  rw [List.map_map]
  refine List.map_congr_left fun b _ => ?_
  have hm : b ∈ sortN (tk ++ ot) ↔ b ∈ tk ∨ b ∈ ot := by rw [(sortN_perm _).mem_iff, List.mem_append]
  simp only [Function.comp]
  by_cases c1 : b ∈ tk
  · have c2 := h1 b c1
    simp [hm, c1, c2]
  · by_cases c2 : b ∈ ot
    · have c3 := h2 b c2
      simp [hm, c1, c2, c3]
    · simp [hm, c1, c2]
/-- ahead of a turn of the law's -/
def dblI (s : List Nat) (box : List (List Int)) (tk ot : List Nat) (pre : List Nat) (e : Env) : Prop := ∃ (tk' ot' : List Nat) (s4 s5 s6 s7 s8 s9 s11 s12 : Slot), tk'.length + ot'.length + pre.length ≤ 6 ∧ InB box tk' ∧ InB box ot' ∧ (∀ b ∈ tk', b ∉ s) ∧ (∀ b ∈ ot', b ∈ s) ∧ (∀ g, Clk s box tk' ot' g → Clk s box tk ot g) ∧
  e = [.shr (eM box), .shr (eNT s), .shr (.lst (tk'.map eN)), .shr (.lst (ot'.map eN)), s4, s5, s6, s7, s8, s9, .none, s11, s12, .none, .none, .none, .none]
def DblQ (s : List Nat) (box : List (List Int)) (tk ot : List Nat) : Out → Prop
  | .rt d n _ => ∃ g, Clk s box tk ot g ∧ d = eG g ∧ n = 0
  | _ => False
theorem dbl_rest {phi : FnD} {s : List Nat} {box : List (List Int)} {tk ot tk' ot' : List Nat} {s4 s5 s8 s9 s11 s12 : Slot} {Q : Out → Prop} {J : Env → Prop} {k : Nat} (hB : BOk box) (ht : InB box tk') (ho : InB box ot') (ht6 : tk'.length + ot'.length + k ≤ 6) (hts : ∀ b ∈ tk', b ∉ s) (hos : ∀ b ∈ ot', b ∈ s) (he : ¬ ends box tk' ot') (hk : ∀ g, Clk s box tk' ot' g → Clk s box tk ot g)
    (ih : ∀ (box' : List (List Int)) (tk ot : List Nat), mu box' < mu box → BOk box' → InB box' tk → InB box' ot → tk.length + ot.length ≤ 6 → (∀ b ∈ tk, b ∉ s) → (∀ b ∈ ot, b ∈ s) → ∃ g, Clk s box' tk ot g ∧ phi [eM box', eNT s, .lst (tk.map eN), .lst (ot.map eN)] = some (eG g, 0, [.non, .non, .non, .non]))
    (hQ : ∀ g e, Clk s box tk ot g → Q (.rt (eG g) 0 e)) (hJ : ∀ pre e, pre.length = k + 1 → dblI s box tk ot pre e → J e) :
    W (k_law_double_7 phi [.shr (eM box), .shr (eNT s), .shr (.lst (tk'.map eN)), .shr (.lst (ot'.map eN)), s4, s5, .shr (lastD box tk'), .shr (lastD box ot'), s8, s9, .none, s11, s12, .none, .none, .none, .none]) (Lp Q J) := by
  have hd := (due_in he ht ho).1
  have hl := due_less he ht ho
  have g1 := ix_M hd
  have hbn := hB.n
  have hl1 := ht.2
  have hl2 := ho.2
  have rest2 : W (k_law_double_6 phi [.shr (eM box), .shr (eNT s), .shr (.lst (tk'.map eN)), .shr (.lst (ot'.map eN)), s4, .shr (eN (dueOf box tk' ot')), .shr (lastD box tk'), .shr (lastD box ot'), s8, s9, .none, s11, s12, .none, .none, .none, .none]) (Lp Q J) := by
    have hdrop := fun (c : (box.getD (dueOf box tk' ot') []).length ≤ 1) g h => hk g (Clk.drop he c h)
    have hask := fun (c : 1 < (box.getD (dueOf box tk' ot') []).length) g g' h h' => hk _ (Clk.ask (g := g) (g' := g') he c h h')
    generalize dueOf box tk' ot' = d at *
    simp [k_law_double_6]
    refine ⟨by omega, w_compP (fun b => !decide (b = d)) eN (fun b hb => by simp) ?_⟩
    simp
    refine ⟨by omega, w_compP (fun b => !decide (b = d)) eN (fun b hb => by simp) ?_⟩
    have lb : lenD (eT (box[d]?.getD [])) = some (eN (box.getD d []).length) := by simp [eT]
    have e1 : (tk'.filter fun b => !decide (b = d)) = less tk' d := rfl
    have e2 : (ot'.filter fun b => !decide (b = d)) = less ot' d := rfl
    simp [k_law_double_5, g1, lb, e1, e2]
    refine w_ite' (fun c => ?_) (fun c => ?_)
    · have c' : 1 < (box.getD d []).length := by simp only [List.getD_eq_getElem?_getD]; omega
      have hpt := law_parted_ok hB hd
      obtain ⟨gl, a1, a2⟩ := ih (lowBox box d) (less tk' d) (less ot' d) (mu_low c') (hB.low c') (ht.less _).low (ho.less _).low (by omega) (fun b hb => hts b (less_mem.1 hb).1) (fun b hb => hos b (less_mem.1 hb).1)
      obtain ⟨gh, b1, b2⟩ := ih (highBox box d) tk' ot' (mu_high c') (hB.high c') ht.high ho.high (by omega) hts hos
      have x1 : idxD (eM (lowBox box d)) (eN d) = some (eT ((box[d]?.getD []).take 1)) := by
        have := ix_M (box := lowBox box d) (b := d) (by unfold lowBox; rw [List.length_set]; exact hd)
        rw [this]
        simp [lowBox, hd]
      have x2 : idxD (eM (highBox box d)) (eN d) = some (eT (box[d]?.getD []).tail) := by
        have := ix_M (box := highBox box d) (b := d) (by unfold highBox; rw [List.length_set]; exact hd)
        rw [this]
        simp [highBox, hd]
      simp [hpt, k_law_double_3, a2, b2, k_law_double_2, x1, x2]
      exact hQ _ _ (hask c' gl gh a1 b1)
    · simp [k_law_double_4]
      refine hJ (List.replicate (k + 1) 0) _ (by simp) ⟨less tk' d, less ot' d, _, _, _, _, _, _, _, _, by simp; omega, ht.less d, ho.less d, fun b hb => hts b (less_mem.1 hb).1, fun b hb => hos b (less_mem.1 hb).1, hdrop (by simp only [List.getD_eq_getElem?_getD]; omega), rfl⟩
  by_cases c : ot'.length ≤ tk'.length
  · have e : lastD box tk' = eN (dueOf box tk' ot') := by unfold lastD dueOf; rw [if_pos c, if_neg (nil_ends he c)]
    simp [k_law_double_7, c]
    rw [← e] at rest2
    exact rest2
  · have e : lastD box ot' = eN (dueOf box tk' ot') := by unfold lastD dueOf; rw [if_neg c, if_neg (nil_ends' c)]
    simp [k_law_double_7, c]
    rw [← e] at rest2
    exact rest2
theorem dbl_one {phi : FnD} {s : List Nat} {box : List (List Int)} {tk ot : List Nat} {s4 s5 s6 s7 s8 s9 : Slot} (hB : BOk box) (ht : tk.length ≤ 400) (ho : ot.length ≤ 400) (hts : ∀ b ∈ tk, b ∉ s) (hos : ∀ b ∈ ot, b ∈ s) :
    W (k_law_double_1 phi [.shr (eM box), .shr (eNT s), .shr (.lst (tk.map eN)), .shr (.lst (ot.map eN)), s4, s5, s6, s7, s8, s9, .none, .shr (.int (lowOf box tk)), .shr (.int (lowOf box ot)), .none, .none, .none, .none]) fun o => match o with
      | .nx e => e = [.shr (eM box), .shr (eNT s), .shr (.lst (tk.map eN)), .shr (.lst (ot.map eN)), s4, s5, s6, s7, s8, s9, .none, .shr (.int (lowOf box tk)), .shr (.int (lowOf box ot)), .none, .none, .none, .none] ∧ ¬ 0 ≤ lowOf box tk + lowOf box ot
      | .rt d n e => 0 ≤ lowOf box tk + lowOf box ot ∧ d = eG (.fin (sortN (tk ++ ot)) (pricesZ box.length s (sortN (tk ++ ot)) (lowOf box tk) (lowOf box ot))) ∧ n = 0
      | _ => False := by
  have lb := len_M box
  have hbn := hB.n
  have s1 := sm_nat (n := box.length) (by omega)
  have hpe := prices_eq (n := box.length) (p := lowOf box tk) (q := lowOf box ot) hts hos
  simp [k_law_double_1]
  refine w_ite' (fun c => ?_) (fun c => ?_)
  · simp [lb, s1]
    refine ⟨by omega, w_compM (fun b => .int (if b ∈ tk then lowOf box tk else if b ∈ ot then lowOf box ot else 0)) (fun b _ => ?_) ?_⟩
    · by_cases c1 : b ∈ tk
      · simp [c1]
      · by_cases c2 : b ∈ ot <;> simp [c1, c2]
    · rw [hpe]
      have hs := sortD_nats (tk ++ ot) (by simp; omega)
      have hlen : tk.length + ot.length ≤ 16777216 := by omega
      simp at hs
      simp [k_law_double_0, hs, hlen]
      exact ⟨c, rfl⟩
  · simp
    omega
theorem law_double_ok (s : List Nat) : ∀ (n : Nat) (box : List (List Int)) (tk ot : List Nat), mu box < n → BOk box → InB box tk → InB box ot → tk.length + ot.length ≤ 6 → (∀ b ∈ tk, b ∉ s) → (∀ b ∈ ot, b ∈ s) → ∃ g, Clk s box tk ot g ∧ phi_law_double n [eM box, eNT s, .lst (tk.map eN), .lst (ot.map eN)] = some (eG g, 0, [.non, .non, .non, .non])
  | 0, _, _, _, h, _, _, _, _, _, _ => by omega
  | n + 1, box, tk, ot, hn, hB, ht, ho, h6, hts, hos => by
    have ih := fun box tk ot (h : mu box < n) => law_double_ok s n box tk ot h
    suffices h : W (phi_law_double (n + 1) [eM box, eNT s, .lst (tk.map eN), .lst (ot.map eN)]) fun o => ∃ g, Clk s box tk ot g ∧ o = (eG g, 0, [.non, .non, .non, .non]) by
      obtain ⟨o, e, g, hg, rfl⟩ := h
      exact ⟨g, hg, e⟩
    unfold phi_law_double
    refine w_runF ?_
    generalize hphi : phi_law_double n = phi at *
    have hbn := hB.n
    simp [sf_law_double]
    refine w_loop (dblI s box tk ot) (as := List.range 7) (pre := []) ⟨tk, ot, _, _, _, _, _, _, _, _, by simpa using h6, ht, ho, hts, hos, fun g h => h, rfl⟩ (fun a _ => by simp) (fun pre a post e hp ⟨tk', ot', s4, s5, s6, s7, s8, s9, s11, s12, h6', ht', ho', hts', hos', hg, he⟩ => ?_) (fun e ⟨tk', ot', s4, s5, s6, s7, s8, s9, s11, s12, h6', ht', ho', hts', hos', hg, he⟩ => ?_)
    · subst he
      have ht2 := ht'.2
      have ho2 := ho'.2
      have la1 := law_last_ok hB (l := tk') (by omega) ht'.1
      have la2 := law_last_ok hB (l := ot') (by omega) ho'.1
      have lb := len_M box
      have s1 := sm_nat (n := box.length) (by omega)
      simp [b_law_double_9, la1, la2, k_law_double_8]
      have hJ : ∀ (pre' : List Nat) (e : Env), pre'.length = pre.length + 1 → dblI s box tk ot pre' e → dblI s box tk ot (pre ++ [a]) e := fun pre' e hl ⟨tk', ot', s4, s5, s6, s7, s8, s9, s11, s12, h6', r⟩ => ⟨tk', ot', s4, s5, s6, s7, s8, s9, s11, s12, by simp; omega, r⟩
      have ih' := fun (box' : List (List Int)) (tk ot : List Nat) (h : mu box' < mu box) => ih box' tk ot (by omega)
      by_cases hl : tk'.length = ot'.length
      · simp only [if_pos hl]
        have o1 := dbl_one (phi := phi) (s := s) (s4 := .shr (eN a)) (s5 := s5) (s6 := .shr (lastD box tk')) (s7 := .shr (lastD box ot')) (s8 := s8) (s9 := s9) hB ht2 ho2 hts' hos'
        by_cases c : tk' = []
        · have c2 : ot' = [] := by
            rw [c] at hl
            simpa using hl.symm
          subst c c2
          have e1 : lastD box [] = .non := rfl
          have e2 : lowOf box [] = 0 := rfl
          rw [e1, e2] at o1
          simp [e1, isD]
          simp at o1
          refine o1.mono fun o h => ?_
          cases o <;> simp at h ⊢
          exact ⟨_, hg _ (Clk.fin ⟨rfl, by simp [e2]⟩), h⟩
        · have c2 : ot' ≠ [] := fun e => c (by
            rw [e] at hl
            simpa using hl)
          have d1 := ht'.1 _ (lastOf_spec (box := box) c).1
          have d2 := ho'.1 _ (lastOf_spec (box := box) c2).1
          have e1 : lastD box tk' = eN (lastOf box tk') := by unfold lastD; rw [if_neg c]
          have e2 : lastD box ot' = eN (lastOf box ot') := by unfold lastD; rw [if_neg c2]
          have g1 := ix_M d1
          have g2 := ix_low hB d1
          have g3 := ix_M d2
          have g4 := ix_low hB d2
          have f1 : lowB box (lastOf box tk') = lowOf box tk' := by unfold lowOf; rw [if_neg c]
          have f2 : lowB box (lastOf box ot') = lowOf box ot' := by unfold lowOf; rw [if_neg c2]
          rw [f1] at g2
          rw [f2] at g4
          have i1 : ∀ d : Nat, isD (eN d) .non = some (.bl false) := fun d => rfl
          simp [e1, e2, i1, g1, g2, g3, g4]
          rw [e1, e2] at o1
          refine o1.mono fun o h => ?_
          cases o with
          | rt d n e =>
            simp at h ⊢
            exact ⟨_, hg _ (Clk.fin ⟨hl, h.1⟩), h.2⟩
          | nx e =>
            simp at h ⊢
            obtain ⟨rfl, h2⟩ := h
            have he : ¬ ends box tk' ot' := fun z => by have := z.2; omega
            rw [← e1, ← e2]
            refine dbl_rest (k := pre.length) hB ht' ho' h6' hts' hos' he hg ih' (fun g e hg => ?_) hJ
            simp
            exact ⟨g, hg, rfl⟩
          | _ => simp at h
      · simp only [if_neg hl]
        simp
        have he : ¬ ends box tk' ot' := fun z => hl z.1
        refine dbl_rest (k := pre.length) hB ht' ho' h6' hts' hos' he hg ih' (fun g e hg => ?_) hJ
        simp
        exact ⟨g, hg, rfl⟩
    · simp at h6'
end HD
set_option Elab.async false
set_option autoImplicit false
set_option linter.all false
set_option maxRecDepth 100000
set_option maxHeartbeats 2000000
namespace HD
/-- the end that the true answers of a profile lead to -/
def Gm.at (p : List Int) : Gm → Gm
  | .fin lot pr => .fin lot pr
  | .ask b lo hi g h => if p.getD b 0 ∈ lo then g.at p else h.at p
/-- below: less, or as much and a higher number -/
def Below (p : List Int) (box : List (List Int)) (d b : Nat) : Prop := p.getD d 0 < lowB box b ∨ (p.getD d 0 = lowB box b ∧ b < d)
structure Inv (p : List Int) (n : Nat) (s : List Nat) (box : List (List Int)) (tk ot : List Nat) : Prop where
  bl : box.length = n
  pin : ∀ b, b < n → p.getD b 0 ∈ box.getD b []
  asc : ∀ b, b < n → (box.getD b []).Pairwise (· < ·)
  sn : s.Nodup
  sb : ∀ b ∈ s, b < n
  tn : tk.Nodup
  on : ot.Nodup
  ts : ∀ b ∈ tk, b ∈ takers n s
  os : ∀ b ∈ ot, b ∈ s
  td : ∀ d ∈ takers n s, d ∉ tk → ∀ b ∈ tk, Below p box d b
  od : ∀ d ∈ s, d ∉ ot → ∀ b ∈ ot, Below p box d b
  kt : (goodP p n s).length ≤ tk.length + 1
  ko : (goodP p n s).length ≤ ot.length + 1
theorem lowB_le {l : List Int} {x : Int} (ha : l.Pairwise (· < ·)) (h : x ∈ l) : l.getD 0 0 ≤ x := by
  cases l with
  | nil => cases h
  | cons a l =>
    rw [List.pairwise_cons] at ha
    simp only [List.getD_cons_zero]
    rcases List.mem_cons.1 h with e | e
    · omega
    · have := ha.1 x e
      omega
section
variable {p : List Int} {n : Nat} {s : List Nat} {box : List (List Int)} {tk ot : List Nat}
theorem Inv.low (h : Inv p n s box tk ot) {b : Nat} (hb : b < n) : lowB box b ≤ p.getD b 0 := lowB_le (h.asc b hb) (h.pin b hb)
theorem Inv.tlt (h : Inv p n s box tk ot) {b : Nat} (hb : b ∈ tk) : b < n := (mem_takers.1 (h.ts b hb)).1
theorem Inv.olt (h : Inv p n s box tk ot) {b : Nat} (hb : b ∈ ot) : b < n := h.sb b (h.os b hb)
theorem takers_nodup (n : Nat) (s : List Nat) : (takers n s).Nodup := List.nodup_range.filter _
/-- those who still go are the first in order -/
theorem first_perm (p : List Int) {T tk : List Nat} (hT : T.Nodup) (ht : tk.Nodup) (hs : ∀ b ∈ tk, b ∈ T) (hd : ∀ d ∈ T, d ∉ tk → ∀ b ∈ tk, keyLe p b d = true) : ((inOrder p T).take tk.length).Perm tk := by
  have hperm : (tk ++ T.filter fun b => !decide (b ∈ tk)).Perm T := by
    refine (List.perm_ext_iff_of_nodup ?_ hT).2 fun a => ?_
    · rw [List.nodup_append]
      refine ⟨ht, hT.filter _, fun a ha b hb e => ?_⟩
      subst e
      have := (List.mem_filter.1 hb).2
      simp at this
      exact this ha
    · rw [List.mem_append, List.mem_filter]
      constructor
      · rintro (z | z)
        · exact hs a z
        · exact z.1
      · intro z
        by_cases c : a ∈ tk
        · exact .inl c
        · exact .inr ⟨z, by simp [c]⟩
  have hA : ∀ l, (inOrder p l).Pairwise fun a b => keyLe p a b = true := fun l => List.pairwise_mergeSort (keyLe_trans p) (keyLe_total p) l
  have hsort : inOrder p T = inOrder p tk ++ inOrder p (T.filter fun b => !decide (b ∈ tk)) := by
    have h1 : (inOrder p tk ++ inOrder p (T.filter fun b => !decide (b ∈ tk))).Perm T := (List.Perm.append (inOrder_perm p _) (inOrder_perm p _)).trans hperm
    refine List.Perm.eq_of_pairwise (le := fun a b => keyLe p a b = true) (fun a b _ _ h1 h2 => ?_) (hA T) ?_ ((inOrder_perm p T).trans h1.symm)
    · unfold keyLe at h1 h2
      simp only [decide_eq_true_eq] at h1 h2
      omega
    · rw [List.pairwise_append]
      refine ⟨hA _, hA _, fun a ha b hb => ?_⟩
      have h2 := (inOrder_perm p _).mem_iff.1 ha
      have h3 := List.mem_filter.1 ((inOrder_perm p _).mem_iff.1 hb)
      exact hd b h3.1 (by simpa using h3.2) a h2
  rw [hsort, List.take_left' (inOrder_perm p tk).length_eq]
  exact inOrder_perm p tk
theorem Inv.ft (h : Inv p n s box tk ot) : ((inOrder p (takers n s)).take tk.length).Perm tk := first_perm p (takers_nodup n s) h.tn h.ts fun d hd hn b hb => by
  have h1 := h.td d hd hn b hb
  have h2 := h.low (h.tlt hb)
  unfold keyLe
  rw [decide_eq_true_eq]
  unfold Below at h1
  omega
theorem Inv.fo (h : Inv p n s box tk ot) : ((inOrder p s).take ot.length).Perm ot := first_perm p h.sn h.on h.os fun d hd hn b hb => by
  have h1 := h.od d hd hn b hb
  have h2 := h.low (h.olt hb)
  unfold keyLe
  rw [decide_eq_true_eq]
  unfold Below at h1
  omega
theorem lowOf_le {l : List Nat} {b : Nat} (hb : b ∈ l) : lowOf box l ≤ lowB box b := by
  have hne : l ≠ [] := fun e => by rw [e] at hb; cases hb
  have := (lastOf_spec (box := box) hne).2 b hb
  unfold lowOf
  rw [if_neg hne]
  unfold keyL at this
  rw [decide_eq_true_eq] at this
  omega
theorem lowOf_ge {l : List Nat} {x : Int} (hne : l ≠ []) (h : ∀ b ∈ l, x ≤ lowB box b) : x ≤ lowOf box l := by
  unfold lowOf
  rw [if_neg hne]
  exact h _ (lastOf_spec hne).1
/-- where so many go and it doesn't end, one pair more wouldn't be good -/
theorem Inv.more (h : Inv p n s box tk ot) (hl : tk.length = ot.length) (he : ¬ ends box tk ot) : (goodP p n s).length ≤ tk.length := by
  by_cases c : (goodP p n s).length ≤ tk.length
  · exact c
  exfalso
  have hk : (goodP p n s).length = tk.length + 1 := by have := h.kt; omega
  have hne : tk ≠ [] := fun e => he (by
    have : ot = [] := by
      rw [e] at hl
      simpa using hl.symm
    subst e
    subst this
    simp [ends, lowOf])
  have hno : ot ≠ [] := fun e => hne (by
    rw [e] at hl
    simpa using hl)
  -- the pair behind those who go
  have hpos : tk.length < (goodP p n s).length := by omega
  have hq := List.getElem_mem hpos
  have hg := (List.mem_filter.1 hq).2
  rw [decide_eq_true_eq] at hg
  have hz : ((inOrder p (takers n s)).zip (inOrder p s))[tk.length]? = some (goodP p n s)[tk.length] := by
    have h2 := goodP_take p n s
    have h3 : (goodP p n s)[tk.length]? = some (goodP p n s)[tk.length] := List.getElem?_eq_getElem hpos
    have h4 : (goodP p n s) <+: (inOrder p (takers n s)).zip (inOrder p s) := by
      rw [h2]
      exact List.takeWhile_prefix _
    obtain ⟨r, hr⟩ := h4
    rw [← hr, List.getElem?_append_left hpos]
    exact h3
  generalize (goodP p n s)[tk.length] = q at hg hz
  rw [List.getElem?_zip_eq_some] at hz
  obtain ⟨z1, z2⟩ := hz
  have hnd1 : (inOrder p (takers n s)).Nodup := (inOrder_perm p _).nodup_iff.2 (takers_nodup n s)
  have hnd2 : (inOrder p s).Nodup := (inOrder_perm p _).nodup_iff.2 h.sn
  have out : ∀ {l : List Nat} {k x : Nat}, l.Nodup → l[k]? = some x → x ∉ l.take k := fun {l k x} hn hx hm => by
    obtain ⟨i, hi⟩ := List.getElem?_of_mem hm
    have hlt := (List.getElem?_eq_some_iff.1 hi).1
    simp at hlt
    rw [List.getElem?_take_of_lt (by omega)] at hi
    obtain ⟨h1, h1'⟩ := List.getElem?_eq_some_iff.1 hi
    obtain ⟨h2, h2'⟩ := List.getElem?_eq_some_iff.1 hx
    have := (List.getElem_inj hn (h₀ := h1) (h₁ := h2)).1 (h1'.trans h2'.symm)
    omega
  have o1 : q.1 ∉ tk := fun hm => out hnd1 z1 (h.ft.mem_iff.2 hm)
  have o2 : q.2 ∉ ot := fun hm => out hnd2 (by rw [← hl]; exact z2) (h.fo.mem_iff.2 hm)
  have m1 : q.1 ∈ takers n s := (inOrder_perm p _).mem_iff.1 (List.mem_of_getElem? z1)
  have m2 : q.2 ∈ s := (inOrder_perm p _).mem_iff.1 (List.mem_of_getElem? z2)
  have g1 := lowOf_ge (box := box) (x := p.getD q.1 0) hne fun b hb => by
    have := h.td _ m1 o1 b hb
    unfold Below at this
    omega
  have g2 := lowOf_ge (box := box) (x := p.getD q.2 0) hno fun b hb => by
    have := h.od _ m2 o2 b hb
    unfold Below at this
    omega
  unfold sumAt at hg
  exact he ⟨hl, by omega⟩
theorem less_eq {l : List Nat} {d : Nat} (h : d ∉ l) : less l d = l := by
  unfold less
  rw [List.filter_eq_self]
  intro a ha
  have : a ≠ d := fun e => h (by rw [← e]; exact ha)
  simp [this]
theorem less_len1 {l : List Nat} {d : Nat} (hn : l.Nodup) (h : d ∈ l) : (less l d).length + 1 = l.length := by
  induction l with
  | nil => cases h
  | cons a l ih =>
    rw [List.nodup_cons] at hn
    by_cases c : a = d
    · have e : less l d = l := less_eq (by rw [← c]; exact hn.1)
      unfold less at e ⊢
      rw [List.filter_cons, if_neg (by simp [c]), e]
      simp
    · have hd : d ∈ l := (List.mem_cons.1 h).resolve_left fun z => c z.symm
      have := ih hn.2 hd
      unfold less at this ⊢
      rw [List.filter_cons, if_pos (by simp [c])]
      simp
      omega
theorem lowB_lowBox (box : List (List Int)) (d b : Nat) : lowB (lowBox box d) b = lowB box b := by
  unfold lowB lowBox
  by_cases c : b = d
  · subst c
    by_cases hb : b < box.length
    · simp [List.getElem?_set, hb]
    · simp [List.getElem?_set, hb, List.getElem?_eq_none (show box.length ≤ b by omega)]
  · simp [List.getElem?_set_ne (Ne.symm c)]
theorem getD_lowBox {b d : Nat} (h : b ≠ d) (box : List (List Int)) (x : List Int) : (box.set d x).getD b [] = box.getD b [] := by simp [List.getElem?_set_ne (Ne.symm h)]
theorem getD_set_same {d : Nat} (box : List (List Int)) (x : List Int) (h : d < box.length) : (box.set d x).getD d [] = x := by simp [h]
theorem due_cases (h : Inv p n s box tk ot) (he : ¬ ends box tk ot) : (dueOf box tk ot ∈ tk ∧ dueOf box tk ot ∉ ot ∧ ot.length ≤ tk.length ∧ ∀ b ∈ tk, keyL box (dueOf box tk ot) b = true) ∨ (dueOf box tk ot ∈ ot ∧ dueOf box tk ot ∉ tk ∧ tk.length < ot.length ∧ ∀ b ∈ ot, keyL box (dueOf box tk ot) b = true) := by
  unfold dueOf
  split
  · rename_i c
    have h1 := lastOf_spec (box := box) (nil_ends he c)
    exact .inl ⟨h1.1, fun z => (mem_takers.1 (h.ts _ h1.1)).2 (h.os _ z), c, h1.2⟩
  · rename_i c
    have h1 := lastOf_spec (box := box) (nil_ends' c)
    exact .inr ⟨h1.1, fun z => (mem_takers.1 (h.ts _ z)).2 (h.os _ h1.1), by omega, h1.2⟩
theorem Inv.due_lt (h : Inv p n s box tk ot) (he : ¬ ends box tk ot) : dueOf box tk ot < n := by
  rcases due_cases h he with z | z
  · exact h.tlt z.1
  · exact h.olt z.1
/-- the due one leaves at its lowest level -/
theorem Inv.leave (h : Inv p n s box tk ot) (he : ¬ ends box tk ot) (hp : p.getD (dueOf box tk ot) 0 = lowB box (dueOf box tk ot)) : Inv p n s box (less tk (dueOf box tk ot)) (less ot (dueOf box tk ot)) := by
  have bel : ∀ {b : Nat}, b ≠ dueOf box tk ot → keyL box (dueOf box tk ot) b = true → Below p box (dueOf box tk ot) b := fun {b} hb hk => by
    unfold keyL at hk
    rw [decide_eq_true_eq] at hk
    unfold Below
    omega
  rcases due_cases h he with ⟨c1, c2, c3, c4⟩ | ⟨c1, c2, c3, c4⟩
  · have e2 := less_eq c2
    have l1 := less_len1 h.tn c1
    rw [e2]
    refine ⟨h.bl, h.pin, h.asc, h.sn, h.sb, h.tn.filter _, h.on, fun b hb => h.ts b (less_mem.1 hb).1, h.os, fun d hd hn b hb => ?_, h.od, ?_, h.ko⟩
    · obtain ⟨b1, b2⟩ := less_mem.1 hb
      by_cases cd : d = dueOf box tk ot
      · rw [cd]
        exact bel b2 (c4 b b1)
      · exact h.td d hd (fun z => hn (less_mem.2 ⟨z, cd⟩)) b b1
    · by_cases cl : tk.length = ot.length
      · have := h.more cl he
        omega
      · have := h.ko
        omega
  · have e2 := less_eq c2
    have l1 := less_len1 h.on c1
    rw [e2]
    refine ⟨h.bl, h.pin, h.asc, h.sn, h.sb, h.tn, h.on.filter _, h.ts, fun b hb => h.os b (less_mem.1 hb).1, h.td, fun d hd hn b hb => ?_, h.kt, ?_⟩
    · obtain ⟨b1, b2⟩ := less_mem.1 hb
      by_cases cd : d = dueOf box tk ot
      · rw [cd]
        exact bel b2 (c4 b b1)
      · exact h.od d hd (fun z => hn (less_mem.2 ⟨z, cd⟩)) b b1
    · have := h.kt
      omega
theorem Inv.toLow (h : Inv p n s box tk ot) {d : Nat} (hd : d < n) (hp : p.getD d 0 ∈ (box.getD d []).take 1) : Inv p n s (lowBox box d) tk ot := by
  have hl : d < box.length := by rw [h.bl]; exact hd
  refine ⟨by unfold lowBox; rw [List.length_set]; exact h.bl, fun b hb => ?_, fun b hb => ?_, h.sn, h.sb, h.tn, h.on, h.ts, h.os, fun d' hd' hn b hb => ?_, fun d' hd' hn b hb => ?_, h.kt, h.ko⟩
  · unfold lowBox
    by_cases c : b = d
    · subst c
      rw [getD_set_same _ _ hl]
      exact hp
    · rw [getD_lowBox c]
      exact h.pin b hb
  · unfold lowBox
    by_cases c : b = d
    · subst c
      rw [getD_set_same _ _ hl]
      exact (h.asc b hb).sublist (List.take_sublist _ _)
    · rw [getD_lowBox c]
      exact h.asc b hb
  · have := h.td d' hd' hn b hb
    unfold Below at this ⊢
    rw [lowB_lowBox]
    exact this
  · have := h.od d' hd' hn b hb
    unfold Below at this ⊢
    rw [lowB_lowBox]
    exact this
theorem lowB_high {d : Nat} (h : Inv p n s box tk ot) (hd : d < n) (hl : 1 < (box.getD d []).length) (b : Nat) : lowB box b ≤ lowB (highBox box d) b ∧ (b = d → lowB box b < lowB (highBox box d) b) := by
  have hlb : d < box.length := by rw [h.bl]; exact hd
  by_cases c : b = d
  · subst c
    have ha := h.asc b hd
    unfold lowB highBox
    rw [getD_set_same _ _ hlb]
    revert ha hl
    generalize box.getD b [] = l
    intro hl ha
    match l, hl, ha with
    | x :: y :: l, _, ha =>
      have : x < y := by
        rw [List.pairwise_cons] at ha
        exact ha.1 y (by simp)
      simp
      omega
  · unfold lowB highBox
    rw [getD_lowBox c]
    exact ⟨Int.le_refl _, fun z => absurd z c⟩
theorem Inv.toHigh (h : Inv p n s box tk ot) {d : Nat} (hd : d < n) (hl : 1 < (box.getD d []).length) (hp : p.getD d 0 ∉ (box.getD d []).take 1) : Inv p n s (highBox box d) tk ot := by
  have hlb : d < box.length := by rw [h.bl]; exact hd
  refine ⟨by unfold highBox; rw [List.length_set]; exact h.bl, fun b hb => ?_, fun b hb => ?_, h.sn, h.sb, h.tn, h.on, h.ts, h.os, fun d' hd' hn b hb => ?_, fun d' hd' hn b hb => ?_, h.kt, h.ko⟩
  · unfold highBox
    by_cases c : b = d
    · subst c
      rw [getD_set_same _ _ hlb]
      have := h.pin b hb
      revert this hp
      generalize box.getD b [] = l
      intro hp this
      cases l with
      | nil => cases this
      | cons x l => exact (List.mem_cons.1 this).resolve_left fun e => hp (by rw [e]; simp)
    · rw [getD_lowBox c]
      exact h.pin b hb
  · unfold highBox
    by_cases c : b = d
    · subst c
      rw [getD_set_same _ _ hlb]
      exact (h.asc b hb).sublist (List.tail_sublist _)
    · rw [getD_lowBox c]
      exact h.asc b hb
  · have h1 := h.td d' hd' hn b hb
    have h2 := lowB_high h hd hl b
    unfold Below at h1 ⊢
    omega
  · have h1 := h.od d' hd' hn b hb
    have h2 := lowB_high h hd hl b
    unfold Below at h1 ⊢
    omega
theorem sum_ite (l : List Nat) (tk : List Nat) (x : Int) : (l.map fun b => if b ∈ tk then x else 0).sum = x * (l.filter fun b => decide (b ∈ tk)).length := by
  induction l with
  | nil => simp
  | cons a l ih =>
    by_cases c : a ∈ tk
    · simp [c, ih]
      rw [Int.mul_add]
      omega
    · simp [c, ih]
theorem sum_add {α : Type} (l : List α) (f g : α → Int) : (l.map fun b => f b + g b).sum = (l.map f).sum + (l.map g).sum := by
  induction l with
  | nil => rfl
  | cons a l ih => simp [ih]; omega
theorem filter_range {n : Nat} {tk : List Nat} (hn : tk.Nodup) (hb : ∀ b ∈ tk, b < n) : ((List.range n).filter fun b => decide (b ∈ tk)).length = tk.length := by
  refine List.Perm.length_eq ((List.perm_ext_iff_of_nodup (List.nodup_range.filter _) hn).2 fun a => ?_)
  rw [List.mem_filter, List.mem_range, decide_eq_true_eq]
  exact ⟨fun z => z.2, fun z => ⟨hb a z, z⟩⟩
/-- what stands at the end of a profile -/
def EndOk (p : List Int) (n : Nat) (s : List Nat) (g : Gm) : Prop := ∃ c pr, g = .fin (bestL ((goodP p n s).take c)) pr ∧ c ≤ (goodP p n s).length ∧ (goodP p n s).length ≤ c + 1 ∧ 0 ≤ pr.sum ∧ pr.length = n ∧ ∀ i, i < n → pr.getD i 0 ≤ if i ∈ bestL ((goodP p n s).take c) then p.getD i 0 else 0
theorem Inv.fin (h : Inv p n s box tk ot) (he : ends box tk ot) : EndOk p n s (.fin (sortN (tk ++ ot)) (pricesZ box.length s (sortN (tk ++ ot)) (lowOf box tk) (lowOf box ot))) := by
  obtain ⟨hl, he⟩ := he
  have hzl : ((inOrder p (takers n s)).zip (inOrder p s)).take tk.length = ((inOrder p (takers n s)).take tk.length).zip ((inOrder p s).take ot.length) := by
    rw [← hl]
    exact List.zip_eq_zipWith ▸ (by simp [List.zip_eq_zipWith, List.take_zipWith])
  have lt : tk.length ≤ (inOrder p (takers n s)).length := by
    have := h.ft.length_eq
    rw [List.length_take] at this
    omega
  have lo : ot.length ≤ (inOrder p s).length := by
    have := h.fo.length_eq
    rw [List.length_take] at this
    omega
  have hgood : ∀ q ∈ ((inOrder p (takers n s)).zip (inOrder p s)).take tk.length, decide (0 ≤ sumAt p q) = true := fun q hq => by
    rw [hzl] at hq
    have m1 := h.ft.mem_iff.1 (List.of_mem_zip hq).1
    have m2 := h.fo.mem_iff.1 (List.of_mem_zip hq).2
    have a1 := lowOf_le (box := box) m1
    have a2 := lowOf_le (box := box) m2
    have b1 := h.low (h.tlt m1)
    have b2 := h.low (h.olt m2)
    rw [decide_eq_true_eq]
    unfold sumAt
    omega
  have hpre : (goodP p n s).take tk.length = ((inOrder p (takers n s)).zip (inOrder p s)).take tk.length ∧ tk.length ≤ (goodP p n s).length := by
    have h1 : (((inOrder p (takers n s)).zip (inOrder p s)).take tk.length).length = tk.length := by
      rw [List.length_take, List.length_zip]
      omega
    have h2 : goodP p n s = ((inOrder p (takers n s)).zip (inOrder p s)).take tk.length ++ (((inOrder p (takers n s)).zip (inOrder p s)).drop tk.length).filter fun q => decide (0 ≤ sumAt p q) := by
      unfold goodP
      conv => lhs; rw [← List.take_append_drop tk.length ((inOrder p (takers n s)).zip (inOrder p s))]
      rw [List.filter_append, List.filter_eq_self.2 hgood]
    constructor
    · conv => lhs; rw [h2]
      rw [List.take_left' h1]
    · rw [h2, List.length_append, h1]
      omega
  have hb : bestL ((goodP p n s).take tk.length) = sortN (tk ++ ot) := by
    rw [hpre.1, hzl]
    unfold bestL
    refine PM.sort_nat ?_
    rw [List.map_fst_zip (by rw [h.ft.length_eq, h.fo.length_eq]; omega), List.map_snd_zip (by rw [h.ft.length_eq, h.fo.length_eq]; omega)]
    exact List.Perm.append h.ft h.fo
  have hm : ∀ i, i ∈ sortN (tk ++ ot) ↔ i ∈ tk ∨ i ∈ ot := fun i => by rw [(sortN_perm _).mem_iff, List.mem_append]
  refine ⟨tk.length, _, by rw [hb], hpre.2, h.kt, ?_, by simp [pricesZ, h.bl], fun i hi => ?_⟩
  · have e : pricesZ box.length s (sortN (tk ++ ot)) (lowOf box tk) (lowOf box ot) = (List.range n).map fun b => (if b ∈ tk then lowOf box tk else 0) + (if b ∈ ot then lowOf box ot else 0) := by
      unfold pricesZ
      rw [h.bl]
      refine List.map_congr_left fun b _ => ?_
      by_cases c1 : b ∈ tk
      · have c2 : b ∉ ot := fun z => (mem_takers.1 (h.ts _ c1)).2 (h.os _ z)
        have c3 : b ∉ s := (mem_takers.1 (h.ts _ c1)).2
        simp [hm, c1, c2, c3]
      · by_cases c2 : b ∈ ot
        · simp [hm, c1, c2, h.os _ c2]
        · simp [hm, c1, c2]
    rw [e, sum_add, sum_ite, sum_ite, filter_range h.tn fun b hb => h.tlt hb, filter_range h.on fun b hb => h.olt hb, ← hl, ← Int.add_mul]
    exact Int.mul_nonneg he (by omega)
  · rw [hb]
    unfold pricesZ
    rw [h.bl]
    have : ((List.range n).map fun b => if b ∉ sortN (tk ++ ot) then (0 : Int) else if b ∈ s then lowOf box ot else lowOf box tk).getD i 0 = if i ∉ sortN (tk ++ ot) then (0 : Int) else if i ∈ s then lowOf box ot else lowOf box tk := by
      simp [hi]
    rw [this]
    by_cases c : i ∈ sortN (tk ++ ot)
    · rw [if_neg (by simpa using c), if_pos c]
      have hlow := h.low hi
      rcases (hm i).1 c with z | z
      · rw [if_neg (mem_takers.1 (h.ts _ z)).2]
        have := lowOf_le (box := box) z
        omega
      · rw [if_pos (h.os _ z)]
        have := lowOf_le (box := box) z
        omega
    · rw [if_pos c, if_neg c]
      exact Int.le_refl _
theorem Clk.end_ok {g : Gm} (k : Clk s box tk ot g) (h : Inv p n s box tk ot) : EndOk p n s (g.at p) := by
  induction k with
  | fin e => exact h.fin e
  | @drop box tk ot g e l _ ih =>
    have hd := h.due_lt e
    refine ih (h.leave e ?_)
    have h1 := h.pin _ hd
    unfold lowB
    revert h1 l
    generalize box.getD (dueOf box tk ot) [] = L
    intro l h1
    match L, l, h1 with
    | [x], _, h1 => simpa using h1
  | @ask box tk ot g g' e l _ _ ih ih' =>
    have hd := h.due_lt e
    unfold Gm.at
    by_cases c : p.getD (dueOf box tk ot) 0 ∈ (box.getD (dueOf box tk ot) []).take 1
    · rw [if_pos c]
      refine ih ((h.leave e ?_).toLow hd c)
      unfold lowB
      revert c l
      generalize box.getD (dueOf box tk ot) [] = L
      intro l c
      cases L with
      | nil => cases c
      | cons x L => simpa using c
    · rw [if_neg c]
      exact ih' (h.toHigh hd l c)
end
end HD
set_option Elab.async false
set_option linter.all false
set_option maxRecDepth 100000
set_option maxHeartbeats 4000000
set_option autoImplicit false
/-! CE: the law (k75). -/
namespace HD
open PySem
def Gm.fit (n : Nat) : Gm → Prop
  | .fin _ _ => True
  | .ask b _ _ g h => b < n ∧ g.fit n ∧ h.fit n
theorem Clk.fit {s : List Nat} {box : List (List Int)} {tk ot : List Nat} {g : Gm} (h : Clk s box tk ot g) (ht : InB box tk) (ho : InB box ot) : g.fit box.length := by
  induction h with
  | fin e => trivial
  | drop e _ _ ih => exact ih (ht.less _) (ho.less _)
  | @ask box tk ot g g' e l _ _ ih ih' =>
    have h1 := ih (ht.less _).low (ho.less _).low
    have h2 := ih' ht.high ho.high
    unfold lowBox at h1
    unfold highBox at h2
    rw [List.length_set] at h1 h2
    exact ⟨(due_in e ht ho).1, h1, h2⟩
theorem eq_ee : eqD (.str "end") (.str "end") = some (.bl true) := by
  rw [d_eq, if_pos (by decide +kernel)]
  rfl
theorem eq_ae : eqD (.str "ask") (.str "end") = some (.bl false) := by
  rw [d_eq, if_pos (by decide +kernel), q_str]
  rfl
theorem ix_pr {p : List Int} {b : Nat} (h : b < p.length) : idxD (eT p) (eN b) = some (.int (p.getD b 0)) := by simp [eT, List.getElem?_eq_getElem h]
@[simp] theorem d_inTe (b : Int) (l : List Int) : inD (.int b) (eT l) = some (.bl (decide (b ∈ l))) := d_inTI b l
@[simp] theorem d_inNT (b : Nat) (l : List Nat) : inD (eN b) (eNT l) = some (.bl (decide (b ∈ l))) := d_inT b l
@[simp] theorem seqT (l : List Int) : seqOf (eT l) = some (l.map .int) := rfl
@[simp] theorem d_ninNT (b : Nat) (l : List Nat) : ninD (eN b) (eNT l) = some (.bl (!decide (b ∈ l))) := d_ninT b l
@[simp] theorem gtup_eTr (h : GsF) (m : List (List Int)) (s : List Nat) (env : Env) : gtup h (eTr m s) env = h [eM m, eNT s] env := rfl
theorem flt_len {α : Type} (p : α → Bool) : ∀ l : List α, (l.filter p).length + (l.filter fun a => !p a).length = l.length
  | [] => rfl
  | a :: l => by
    have := flt_len p l
    cases c : p a <;> simp [List.filter_cons, c] <;> omega
theorem law_at_ok {p : List Int} {g : Gm} (hf : g.fit p.length) (hd : g.deep < 60) : phi_law_at [eG g, eT p] = some (eG (g.at p), 0, [.non, .non]) := by
  unfold phi_law_at
  refine w_eq (w_runF ?_)
  simp [sf_law_at]
  refine w_loop (fun pre e => ∃ g' s2, e = [.shr (eG g'), .shr (eT p), s2] ∧ g'.at p = g.at p ∧ g'.deep + pre.length ≤ g.deep ∧ g'.fit p.length) (as := List.range 60) (pre := []) ⟨g, _, rfl, rfl, by simp, hf⟩ (fun a _ => by simp) (fun pre a post e hp ⟨g', s2, he, h1, h2, h3⟩ => ?_) (fun e ⟨g', s2, he, h1, h2, h3⟩ => ?_)
  · subst he
    cases g' with
    | fin lot pr =>
      simp [b_law_at_1, eG, eq_ee]
      rw [← h1]
      rfl
    | ask b lo hi g1 g2 =>
      obtain ⟨f1, f2, f3⟩ := h3
      have hb := ix_pr f1
      simp only [Gm.deep] at h2
      have hat : (Gm.ask b lo hi g1 g2).at p = if p.getD b 0 ∈ lo then g1.at p else g2.at p := rfl
      rw [hat] at h1
      simp [b_law_at_1, eG, eq_ae, k_law_at_0, hb]
      by_cases c : p.getD b 0 ∈ lo
      · rw [if_pos c] at h1
        have c' : p[b]?.getD 0 ∈ lo := c
        simp [c']
        exact ⟨g1, rfl, h1, by omega, f2⟩
      · rw [if_neg c] at h1
        have c' : ¬ p[b]?.getD 0 ∈ lo := c
        simp [c']
        exact ⟨g2, rfl, h1, by omega, f3⟩
  · simp at h2
    omega
section
variable {ns : List Int} {y : Dl} {m : List (List Int)} {s : List Nat} {g : Gm}
theorem eG_ix1 (lot : List Nat) (pr : List Int) : idxD (eG (.fin lot pr)) (.int 1) = some (eNT lot) := rfl
theorem eG_ix2 (lot : List Nat) (pr : List Int) : idxD (eG (.fin lot pr)) (.int 2) = some (eT pr) := rfl
def lawE (ns : List Int) (y : Dl) (m : List (List Int)) (s : List Nat) (g : Gm) (s3 s6 s9 s10 s11 s13 s14 : Slot) : Env :=
  [.shr (.scr ns), .own 2 (eDl y), .shr (eTr m s), s3, .shr (eG g), .shr (eG g), s6, .shr (eM m), .shr (eNT s), s9, s10, s11, .none, s13, s14, .none, .none]
theorem nodup_asc {l : List Nat} (h : l.Pairwise (· < ·)) : l.Nodup := h.imp fun h => by omega
theorem len_sub {l : List Nat} (h : l.Nodup) {n : Nat} (hb : ∀ b ∈ l, b < n) : l.length ≤ n := by
  have := nodup_sub h (m := List.range n) fun x hx => by simpa using hb x hx
  simpa using this
theorem TrOk.sn (h : TrOk m s) : s.length ≤ 6 := by
  have := len_sub (nodup_asc h.sa) h.sb
  have := h.n6
  omega
theorem All2.at {α β : Type} {P : α → β → Prop} {as : List α} {bs : List β} (h : All2 P as bs) : ∀ (i : Nat) (a : α), as[i]? = some a → ∃ b, bs[i]? = some b ∧ P a b := by
  induction h with
  | nil => intro i a h; simp at h
  | cons hp _ ih =>
    intro i a h
    cases i with
    | zero => simp at h ⊢; subst h; exact hp
    | succ i => simp at h ⊢; exact ih i a h
theorem mu_le : ∀ {box : List (List Int)}, (∀ l ∈ box, l.length ≤ 8) → mu box ≤ 7 * box.length
  | [], _ => by simp [mu]
  | a :: box, h => by
    have h1 := h a (by simp)
    have h2 := mu_le (box := box) fun l hl => h l (by simp [hl])
    simp [mu] at h2 ⊢
    omega
theorem TrOk.inv (h : TrOk m s) {p : List Int} (hp : All2 (fun l x => x ∈ l) m p) : Inv p m.length s m (takers m.length s) s := by
  have hg : ∀ b, b < m.length → p.getD b 0 ∈ m.getD b [] := fun b hb => by
    obtain ⟨x, h1, h2⟩ := hp.at b m[b] (List.getElem?_eq_getElem hb)
    simp [h1, List.getElem?_eq_getElem hb, h2]
  refine ⟨rfl, hg, fun b hb => ?_, nodup_asc h.sa, h.sb, takers_nodup _ _, nodup_asc h.sa, fun b hb => hb, fun b hb => hb, fun d hd hn => absurd hd hn, fun d hd hn => absurd hd hn, ?_, ?_⟩
  · have : m.getD b [] = m[b] := by simp [List.getElem?_eq_getElem hb]
    rw [this]
    exact (h.ld _ (List.getElem_mem hb)).2.2
  · have h1 := List.length_filter_le (fun q => decide (0 ≤ sumAt p q)) ((inOrder p (takers m.length s)).zip (inOrder p s))
    unfold goodP
    simp only [List.length_zip, (inOrder_perm p _).length_eq] at h1
    omega
  · have := goodP_len p m.length s
    omega
theorem turn_ok (h : TrOk m s) (hc : Clk s m (takers m.length s) s g) {s3 s6 s9 s10 s11 s13 s14 : Slot} : W (b_law_5 (lawE ns y m s g s3 s6 s9 s10 s11 s13 s14)) fun o => ∃ y s9 s10 s11 s13 s14, o = .nx (lawE ns y m s g s3 s6 s9 s10 s11 s13 s14) := by
  have n6 := h.n6
  have sn := h.sn
  have hB : BOk m := ⟨by omega, fun l hl => by have := h.ld l hl; omega⟩
  have hs : InB m s := ⟨h.sb, by omega⟩
  have ht : InB m (takers m.length s) := ⟨fun b hb => (mem_takers.1 hb).1, by
    have := len_sub (takers_nodup m.length s) fun b hb => (mem_takers.1 hb).1
    omega⟩
  unfold b_law_5
  generalize hk : k_law_4 = f
  simp [lawE, eM]
  refine ⟨by omega, w_compA (f := D.int) (fun l x => x ∈ l) (fun e => ∃ y : Dl, e = [.shr (.scr ns), .own 2 (eDl y), .shr (eTr m s), s3, .shr (eG g), .shr (eG g), s6, .shr (eM m), .shr (eNT s), s9, s10, s11, .none, s13, s14, .none, .none]) ⟨y, rfl⟩ (fun l hl e ⟨y, he⟩ => ?_) (fun bs e hbs ⟨y, he⟩ => ?_)⟩
  · subst he
    have hll := h.ld l hl
    obtain ⟨i, l', rfl⟩ := List.exists_cons_of_ne_nil (show l ≠ [] by rintro rfl; simp at hll)
    have hne : i :: l' ≠ [] := by simp
    have hlast : (D.int i :: l'.map D.int).getLast? = some (.int ((i :: l').getLast hne)) := by
      rw [← List.map_cons, List.getLast?_map, List.getLast?_eq_getLast hne]
      rfl
    have hlm := List.getLast_mem hne
    simp [eT, hlast]
    refine w_ofT (by simp) (by simp at hll ⊢; omega) fun z hz y => ?_
    have hz' : ∃ j : Int, z = .int j ∧ j ∈ i :: l' := by
      rw [← List.map_cons] at hz
      obtain ⟨j, hj, rfl⟩ := List.mem_map.1 hz
      exact ⟨j, rfl, hj⟩
    obtain ⟨j, rfl, hj⟩ := hz'
    simp
    refine w_ofL (fun z hz y => ?_)
    have hz' : ∃ j : Int, z = .int j ∧ j ∈ i :: l' := by
      simp only [List.mem_cons, List.not_mem_nil, or_false] at hz
      rcases hz with rfl | rfl | rfl
      · exact ⟨_, rfl, by simp⟩
      · exact ⟨_, rfl, hlm⟩
      · exact ⟨_, rfl, hj⟩
    obtain ⟨j, rfl, hj⟩ := hz'
    simp
    simp at hj
    exact ⟨hj, ⟨y, rfl⟩⟩
  · subst he
    have hp : bs.length = m.length := hbs.len.symm
    simp
    subst hk
    unfold k_law_4
    generalize hk : k_law_3 = f
    have ep : D.tup (bs.map .int) = eT bs := rfl
    have h1 := law_pairs_ok m s bs (by omega) hp h.sb (by omega)
    have hfit := hc.fit ht hs
    rw [← hp] at hfit
    have hdeep := hc.deep
    have hmu : mu m ≤ 42 := by have := mu_le (box := m) fun l hl => (h.ld l hl).2.1; omega
    have h2 := law_at_ok (p := bs) hfit (by omega)
    obtain ⟨c, pr, e1, e2, e3, e4, e5, e6⟩ := hc.end_ok (h.inv hbs)
    rw [ep]
    simp [h1, h2]
    subst hk
    unfold k_law_3
    generalize hk : k_law_2 = f
    have hg := goodP_len bs m.length s
    have hgm : ∀ q ∈ goodP bs m.length s, q.1 < m.length ∧ q.2 < m.length := fun q hq => goodP_mem h.sb hq
    rw [e1]
    generalize hG : goodP bs m.length s = G at *
    have srt : ∀ L : List (Nat × Nat), L.length ≤ 6 → sortD ((L.map fun q => eN q.1) ++ (L.map fun q => eN q.2)) = some ((bestL L).map eN) := fun L hL => by
      have e1 : (L.map fun q => eN q.1) ++ (L.map fun q => eN q.2) = (L.map (·.1) ++ L.map (·.2)).map eN := by simp [Function.comp_def]
      rw [e1, sortD_nats _ (by simp; omega)]
      rfl
    have hG6 : G.length ≤ 6 := by omega
    simp
    refine ⟨by omega, w_compM (fun q => eN q.1) (fun q hq => by simp [pairT]) ?_⟩
    simp
    refine ⟨by omega, w_compM (fun q => eN q.2) (fun q hq => by simp [pairT]) ?_⟩
    simp [srt G hG6]
    refine ⟨by omega, ?_⟩
    subst hk
    unfold k_law_2
    generalize hk : k_law_1 = f
    obtain ⟨L, hL⟩ : ∃ L, G.dropLast = L := ⟨_, rfl⟩
    have hdl : (G.map pairT).dropLast = L.map pairT := by rw [← hL, List.map_dropLast]
    have hdn : L.length = G.length - 1 := by rw [← hL]; exact List.length_dropLast
    simp
    rw [hdl]
    refine ⟨by omega, w_compM (fun q => eN q.1) (fun q hq => by simp [pairT]) ?_⟩
    simp
    rw [hdl]
    refine ⟨by omega, w_compM (fun q => eN q.2) (fun q hq => by simp [pairT]) ?_⟩
    simp [srt L (by omega)]
    refine ⟨by omega, ?_⟩
    subst hk
    unfold k_law_1
    generalize hk : k_law_0 = f
    have hlb : ∀ L : List (Nat × Nat), L.length ≤ 6 → (bestL L).length ≤ 16777216 := fun L h => by rw [bestL_len]; omega
    have hl1 := hlb (G.take c) (by rw [List.length_take]; omega)
    have hl2 := hlb G (by omega)
    have hl3 := hlb L (by omega)
    have hsum : asIs (pr.map D.int) = some pr := asIs_map pr
    have heq : G.take c = G ∨ G.take c = L := by
      by_cases cc : c = G.length
      · exact .inl (by rw [cc, List.take_length])
      · refine .inr ?_
        rw [← hL, List.dropLast_eq_take]
        congr 1
        omega
    have fin : W (f [.shr (.scr ns), .own 2 (eDl y), .shr (eTr m s), s3, .shr (eG g), .shr (eG g), s6, .shr (eM m), .shr (eNT s), .shr (eT bs), .shr (.lst ((bestL G).map eN)), .shr (.lst ((bestL L).map eN)), .none, .shr (.lst (G.map pairT)), .shr (eG (.fin (bestL (G.take c)) pr)), .none, .none]) fun o => ∃ y s9 s10 s11 s13 s14, o = .nx [.shr (.scr ns), .own 2 (eDl y), .shr (eTr m s), s3, .shr (eG g), .shr (eG g), s6, .shr (eM m), .shr (eNT s), s9, s10, s11, .none, s13, s14, .none, .none] := by
      subst hk
      unfold k_law_0
      have lm : lenD (eM m) = some (eN m.length) := by simp [eM]
      have sm := sm_nat (n := m.length) (by omega)
      simp [lm, sm, eG_ix1, eG_ix2]
      refine ⟨by omega, w_compP (fun _ => false) eN (fun b hb => ?_) ?_⟩
      · have hb' : b < m.length := by simpa using hb
        have hh := e6 b hb'
        have i1 := ix_pr (p := pr) (b := b) (by omega)
        have i2 := ix_pr (p := bs) (b := b) (by omega)
        by_cases cb : b ∈ bestL (G.take c)
        · rw [if_pos cb] at hh
          have hh' : ¬ bs.getD b 0 < pr.getD b 0 := by omega
          simp only [List.getD_eq_getElem?_getD] at hh' i1 i2
          simp [eG_ix1, eG_ix2, i1, i2, cb, hh']
        · rw [if_neg cb] at hh
          have hh' : ¬ 0 < pr.getD b 0 := by omega
          simp only [List.getD_eq_getElem?_getD] at hh' i1 i2
          simp [eG_ix1, eG_ix2, i1, i2, cb, hh']
      · have e4 : (List.range m.length).filter (fun _ => false) = [] := List.filter_eq_nil_iff.mpr (by simp)
        simp [e4]
        exact ⟨y, rfl⟩
    have hor : ¬ (¬ bestL (G.take c) = bestL G ∧ ¬ bestL (G.take c) = bestL L) := fun z => by
      rcases heq with e | e
      · exact z.1 (by rw [e])
      · exact z.2 (by rw [e])
    simp [eG_ix1, eG_ix2, hl1, hl2, hl3]
    refine ⟨fun _ => ⟨e4, fun _ => fin⟩, fun z => ⟨fun _ => ⟨e4, fun _ => fin⟩, Decidable.byContradiction fun z2 => hor ⟨z, z2⟩⟩⟩
theorem rest_ok (h : TrOk m s) : W (k_law_12 [.shr (.scr ns), .own 2 (eDl y), .shr (eTr m s), .none, .none, .none, .none, .none, .none, .none, .none, .none, .none, .none, .none, .none, .none]) fun o => ∃ e, o = .rt (.bl true) 0 e := by
  have n6 := h.n6
  have sn := h.sn
  have hB : BOk m := ⟨by omega, fun l hl => by have := h.ld l hl; omega⟩
  have hs : InB m s := ⟨h.sb, by omega⟩
  have hmu : mu m ≤ 42 := by have := mu_le (box := m) fun l hl => (h.ld l hl).2.1; omega
  have htl : (takers m.length s).length + s.length ≤ 6 := by
    have h1 := flt_len (fun b => decide (b ∈ s)) (List.range m.length)
    rw [filter_range (nodup_asc h.sa) h.sb] at h1
    simp at h1
    unfold takers
    omega
  have ht : InB m (takers m.length s) := ⟨fun b hb => (mem_takers.1 hb).1, by omega⟩
  obtain ⟨g, hg1, hg2⟩ := double_clock_ok (by omega) hB hs
  obtain ⟨g', hg3, hg4⟩ := law_double_ok s 100 m (takers m.length s) s (by omega) hB ht hs htl (fun b hb => (mem_takers.1 hb).2) fun b hb => hb
  have e := hg1.det hg3
  subst e
  have hg4' : phi_law_double RF [eM m, eNT s, .lst ((takers m.length s).map eN), .lst (s.map eN)] = some (eG g, 0, [.non, .non, .non, .non]) := hg4
  have hsame : phi_law_same RF [eG g, eG g] = some (.bl true, 0, [.non, .non]) := same_refl (n := RF) (pl_eG (by have := hg1.deep; unfold RF; omega) (hg1.ok (by omega) (fun l hl => by have := h.ld l hl; omega) (by omega)))
  unfold k_law_12
  generalize hk : k_law_11 = f
  simp
  subst hk
  unfold k_law_11
  generalize hk : k_law_10 = f
  have lm : lenD (eM m) = some (eN m.length) := by simp [eM]
  have sm := sm_nat (n := m.length) (by omega)
  simp [lm, sm]
  refine ⟨by omega, w_compP (fun b => !decide (b ∈ s)) eN (fun b hb => by simp) ?_⟩
  have et : ((List.range m.length).filter fun b => !decide (b ∈ s)) = takers m.length s := rfl
  simp [et]
  subst hk
  unfold k_law_10
  generalize hk : k_law_9 = f
  simp [hg4']
  subst hk
  unfold k_law_9
  generalize hk : k_law_8 = f
  simp [permM, hg2]
  subst hk
  unfold k_law_8
  generalize hk : k_law_7 = f
  simp [hsame]
  subst hk
  unfold k_law_7
  generalize hk : k_law_6 = f
  simp
  refine w_loop (fun _ e => ∃ y s6 s9 s10 s11 s13 s14, e = lawE ns y m s g (.own 1 (.lst ((takers m.length s).map eN))) s6 s9 s10 s11 s13 s14) (as := List.range 12) (pre := []) ⟨y, _, _, _, _, _, _, rfl⟩ (fun a _ => by simp) (fun pre a post e hp ⟨y, s6, s9, s10, s11, s13, s14, he⟩ => ?_) (fun e ⟨y, s6, s9, s10, s11, s13, s14, he⟩ => ?_)
  · subst he
    simp [lawE]
    refine (turn_ok (ns := ns) (y := y) h hg1 (s3 := .own 1 (.lst ((takers m.length s).map eN))) (s6 := .shr (eN a)) (s9 := s9) (s10 := s10) (s11 := s11) (s13 := s13) (s14 := s14)).mono fun o ⟨y', a9, a10, a11, a13, a14, ho⟩ => ?_
    subst ho
    exact ⟨y', _, _, _, _, _, _, rfl⟩
  · subst he
    subst hk
    simp [lawE, k_law_6, hg2, hsame]
theorem law_ok (ns : List Int) : W (phi_law [.scr ns]) fun o => o = (.bl true, 0, [.non]) := by
  unfold phi_law
  refine w_runF ?_
  unfold sf_law
  generalize hk : k_law_13 = f
  simp
  refine w_draw fun y => ?_
  simp
  subst hk
  unfold k_law_13
  generalize hk : k_law_12 = f
  simp
  refine w_ofL (fun z hz y => ?_)
  have hz' : ∃ lv : Nat, lv ≤ 8 ∧ z = eN lv := by
    simp at hz
    rcases hz with rfl | rfl | rfl | rfl
    · exact ⟨2, by omega, rfl⟩
    · exact ⟨3, by omega, rfl⟩
    · exact ⟨4, by omega, rfl⟩
    · exact ⟨8, by omega, rfl⟩
  obtain ⟨lv, hlv, rfl⟩ := hz'
  simp
  refine w_anyI (by omega) (by omega) fun r y hr => ?_
  have two : ∀ (z : D) (y : Dl), z ∈ [D.int 24, .int 60, .int 200, .int 2000, .int 100] → W (phi_law_trading [eDl y, .int 6, eN lv, z]) fun q => ∃ m s y, TrOk m s ∧ q = (eTr m s, 0, [eDl y, .non, .non, .non]) := fun z y hz => by
    have hz' : ∃ mo : Nat, 1 ≤ mo ∧ mo ≤ 2000 ∧ z = eN mo := by
      simp only [List.mem_cons, List.not_mem_nil, or_false] at hz
      rcases hz with rfl | rfl | rfl | rfl | rfl
      · exact ⟨24, by omega, by omega, rfl⟩
      · exact ⟨60, by omega, by omega, rfl⟩
      · exact ⟨200, by omega, by omega, rfl⟩
      · exact ⟨2000, by omega, by omega, rfl⟩
      · exact ⟨100, by omega, by omega, rfl⟩
    obtain ⟨mo, h1, h2, rfl⟩ := hz'
    exact w_trading hlv h1 h2 fun m s y h => ⟨m, s, y, h, rfl⟩
  have fin : ∀ m s y, TrOk m s → W (k_law_12 [.shr (.scr ns), .own 2 (eDl y), .shr (eTr m s), .none, .none, .none, .none, .none, .none, .none, .none, .none, .none, .none, .none, .none, .none]) fun o => match o with
      | .rt d n e => d = .bl true ∧ n = 0
      | .nx e => False
      | _ => False := fun m s y h => (rest_ok h).mono fun o ⟨e, he⟩ => by subst he; exact ⟨rfl, rfl⟩
  rw [hk] at fin
  simp
  refine ⟨fun _ => ?_, fun _ => ?_⟩
  · refine w_ofL (fun z hz y => ?_)
    simp
    refine (two z y (by simp at hz ⊢; rcases hz with h | h | h | h <;> simp [h])).mono fun q ⟨m, s, y, h, hq⟩ => ?_
    subst hq
    simp
    exact fin m s y h
  · refine w_ofL (fun z hz y => ?_)
    simp
    refine (two z y (by simp at hz ⊢; rcases hz with h | h | h | h <;> simp [h])).mono fun q ⟨m, s, y, h, hq⟩ => ?_
    subst hq
    simp
    exact fin m s y h
theorem law_eq (ns : List Int) : phi_law [.scr ns] = some (.bl true, 0, [.non]) := w_eq (law_ok ns)
end
end HD
set_option Elab.async false
set_option linter.all false
set_option maxRecDepth 100000
set_option maxHeartbeats 4000000
set_option autoImplicit false
/-! EN: the law's end by data. -/
namespace HD
open PySem PySem.Spec PyProof.Rows L2
/-- what the law's def is asked -/
theorem law_sp [Tb] {K : PySem.W.Frag} {H : Hp} {a : Addr} {ns : List Int} {phi : FnD} (hS : SqL K H a (ns.map V.int)) (ht : ∀ p ∈ Tb.T, H p.1 = some (.tbl #[])) (e : phi [.scr ns] = some (.bl true, 0, [.non])) :
    spD K [none] phi [.ref a] H (fun v _ => v = .bl true) fun _ _ _ => False := by
  have hG : ∀ x o, (match H x with | some (.tbl _) => none | z => z) = some o → H x = some o ∧ ∀ ps, o ≠ .tbl ps := fun x o h => by
    cases hx : H x with
    | none => rw [hx] at h; cases h
    | some u =>
      rw [hx] at h
      cases u <;> first | (cases h; exact ⟨rfl, fun ps z => by cases z⟩) | cases h
  have hR : ∀ xs, Rd H a (.lst xs) → Rd (fun x => match H x with | some (.tbl _) => none | z => z) a (.lst xs) := fun xs h => by
    rcases h with h | ⟨o, h⟩
    · left
      show (match H a with | some (.tbl _) => none | z => z) = _
      rw [h]
    · right
      refine ⟨o, ?_⟩
      show (match H a with | some (.tbl _) => none | z => z) = _
      rw [h]
  have hS' : SqL K (fun x => match H x with | some (.tbl _) => none | z => z) a (ns.map V.int) := by
    rcases hS with h | h
    · exact .inl (hR _ h)
    · exact .inr h
  refine ⟨fun x => match H x with | some (.tbl _) => none | z => z, [.scr ns], [[]], .bl true, 0, [.non], fun b o h => (hG b o h).1, ⟨fun b ps h => (hG b _ h).2 ps rfl, fun p hp => ?_⟩, .shr (.scr hS') .nil, fun i b h => ?_, fun i j b _ h => ?_, e, fun v H' G' Fs' FT _ _ _ _ _ _ _ _ ho _ => ?_⟩
  · refine ⟨#[], ht p hp, True.intro, fun pos cv hc => ?_⟩
    have z : codeAmong pos [] = some cv := hc
    cases z
  · have : fat [[]] i = [] := by
      cases i with
      | zero => rfl
      | succ i => rw [fat_cons, fat_nil]
    rw [this] at h
    cases h
  · have : fat [[]] i = [] := by
      cases i with
      | zero => rfl
      | succ i => rw [fat_cons, fat_nil]
    rw [this] at h
    cases h
  · cases ho with
    | shr _ r => cases r; rfl
theorem fun_of {K : PySem.W.Frag} {x qual : Str} {st : Stmt} {f : Addr} {fd : FuncData} (F : FunD K x qual (defArgs st) (defBody st) (defScope st) [] [] f fd) : Fun K x qual st f fd := by
  obtain ⟨oc, od, dV, kV, doc, pm, an, cdv, ct, osl, h1, h2, h3, hD, _⟩ := F.ex
  rcases hD with ⟨_, rfl⟩ | ⟨e, _⟩
  · exact ⟨⟨oc, od, kV, doc, pm, an, cdv, ct, osl, h1, h2, h3⟩, F.kp⟩
  · exact absurd rfl e
theorem code_of {K : PySem.W.Frag} {x qual : Str} {st : Stmt} {p : He.Defn} {fd : FuncData} (F : Fun K x qual st (He.fAd K p) fd) : fd.code = .ref (He.cT K p).1 := by
  obtain ⟨oc, od, kV, doc, pm, an, cdv, ct, osl, rfl, lk, hcd⟩ := F.ex
  obtain ⟨c, rfl⟩ := He.codeIn_ref hcd
  rw [show (He.cT K p).1 = c from He.codeOf_eq lk rfl] <;> rfl
theorem law_binds {K : PySem.W.Frag} {x qual : Str} {st : Stmt} {f : Addr} {fd : FuncData} {p : Str} (F : Fun K x qual st f fd)
    (h : ∀ (kV doc pm : Value) (an : Option Addr) (cdv ct : Value) (us : List Value), us.length = [p].length → bindArgs (PySem.W.fnOf x qual (defArgs st) (defBody st) (defScope st) .none kV doc pm an cdv ct) ⟨us, []⟩ = pure ([p].zip us)) (s : Shared) (u : Value) : BindsTo s fd ⟨[u], []⟩ [(p, u)] := by
  obtain ⟨oc, od, kV, doc, pm, an, cdv, ct, osl, rfl, lk, hcd⟩ := F.ex
  exact .of_eq (h kV doc pm an cdv ct [u] rfl)
/-- no promise at all -/
theorem fn_none {P : Program} {w : World} {K : PySem.W.Frag} {mg : Str → Option Value} {base : Heap} {k : Nat} {f : Addr} {fd : FuncData} {ps : List Str} {ms : List (Option Nat)} [Tb] : FnOk P w K mg base CX0 k f fd ps (spD K ms fun _ => none) := by
  refine ⟨fun vs H Q E hsp => ?_, fun A outer s H args us vs Q E hr he hb hv hsp => ?_⟩
  · obtain ⟨G, ds, Fs, r, n, outs, _, _, _, _, _, h, _⟩ := hsp
    cases h
  · obtain ⟨G, ds, Fs, r, n, outs, _, _, _, _, _, h, _⟩ := hsp
    cases h
end HD
set_option Elab.async false
set_option linter.all false
set_option maxRecDepth 100000
set_option maxHeartbeats 0
set_option autoImplicit false
/-! The law's end: what the top leaves, the defs joined. -/
namespace HD
open PySem PySem.Spec PyProof.Rows L2
def df_takers_of : He.DefD := ⟨("takers_of", none), "takers_of", "takers_of", defArgs (topS 1), defBody (topS 1), defScope (topS 1), [], []⟩
def df_last_of : He.DefD := ⟨("last_of", none), "last_of", "last_of", defArgs (topS 3), defBody (topS 3), defScope (topS 3), [], []⟩
def df_prices_at_end : He.DefD := ⟨("prices_at_end", none), "prices_at_end", "prices_at_end", defArgs (topS 4), defBody (topS 4), defScope (topS 4), [], []⟩
def df_clock_from : He.DefD := ⟨("clock_from", none), "clock_from", "clock_from", defArgs (topS 5), defBody (topS 5), defScope (topS 5), [], []⟩
def df_double_clock : He.DefD := ⟨("double_clock", none), "double_clock", "double_clock", defArgs (topS 6), defBody (topS 6), defScope (topS 6), [], []⟩
def df_law_draw : He.DefD := ⟨("_law_draw", none), "_law_draw", "_law_draw", defArgs (topS 8), defBody (topS 8), defScope (topS 8), [], []⟩
def df_law_any : He.DefD := ⟨("_law_any", none), "_law_any", "_law_any", defArgs (topS 9), defBody (topS 9), defScope (topS 9), [], []⟩
def df_law_of : He.DefD := ⟨("_law_of", none), "_law_of", "_law_of", defArgs (topS 10), defBody (topS 10), defScope (topS 10), [], []⟩
def df_law_mixed : He.DefD := ⟨("_law_mixed", none), "_law_mixed", "_law_mixed", defArgs (topS 11), defBody (topS 11), defScope (topS 11), [], []⟩
def df_law_same : He.DefD := ⟨("_law_same", none), "_law_same", "_law_same", defArgs (topS 12), defBody (topS 12), defScope (topS 12), [], []⟩
def df_law_parted : He.DefD := ⟨("_law_parted", none), "_law_parted", "_law_parted", defArgs (topS 13), defBody (topS 13), defScope (topS 13), [], []⟩
def df_law_values : He.DefD := ⟨("_law_values", none), "_law_values", "_law_values", defArgs (topS 14), defBody (topS 14), defScope (topS 14), [], []⟩
def df_law_trading : He.DefD := ⟨("_law_trading", none), "_law_trading", "_law_trading", defArgs (topS 15), defBody (topS 15), defScope (topS 15), [], []⟩
def df_law_orders : He.DefD := ⟨("_law_orders", none), "_law_orders", "_law_orders", defArgs (topS 16), defBody (topS 16), defScope (topS 16), [], []⟩
def df_law_pairs : He.DefD := ⟨("_law_pairs", none), "_law_pairs", "_law_pairs", defArgs (topS 17), defBody (topS 17), defScope (topS 17), [], []⟩
def df_law_last : He.DefD := ⟨("_law_last", none), "_law_last", "_law_last", defArgs (topS 18), defBody (topS 18), defScope (topS 18), [], []⟩
def df_law_double : He.DefD := ⟨("_law_double", none), "_law_double", "_law_double", defArgs (topS 19), defBody (topS 19), defScope (topS 19), [], []⟩
def df_law_at : He.DefD := ⟨("_law_at", none), "_law_at", "_law_at", defArgs (topS 20), defBody (topS 20), defScope (topS 20), [], []⟩
def df_law : He.DefD := ⟨("law", none), "law", "law", defArgs (topS 21), defBody (topS 21), defScope (topS 21), [], []⟩
def dfs : List He.DefD := [df_takers_of, df_last_of, df_prices_at_end, df_clock_from, df_double_clock, df_law_draw, df_law_any, df_law_of, df_law_mixed, df_law_same, df_law_parted, df_law_values, df_law_trading, df_law_orders, df_law_pairs, df_law_last, df_law_double, df_law_at, df_law]
def fas : List He.Fa := [.glo "takers_of", .glo "last_of", .glo "prices_at_end", .glo "clock_from", .glo "double_clock", .glo "_law_draw", .glo "_law_any", .glo "_law_of", .glo "_law_mixed", .glo "_law_same", .glo "_law_parted", .glo "_law_values", .glo "_law_trading", .glo "_law_orders", .glo "_law_pairs", .glo "_law_last", .glo "_law_double", .glo "_law_at", .glo "law", .free "len", .free "range", .free "tuple", .free "min", .free "sorted", .free "int", .free "abs", .free "list", .free "isinstance", .free "zip", .free "bool", .free "str", .free "dict", .free "sum"]
def tfs : List He.Defn := [("last_of", none)]
def tbOf (K : PySem.W.Frag) : Tb := ⟨tfs.map fun q => ((He.cT K q).2, q.1 ++ ".<locals>." ++ "<lambda>")⟩
section
variable {P : Program} {w : World} {K : PySem.W.Frag} {mg : Str → Option Value} {base : Heap}
theorem mk_T [Tb] {h : Heap} (X : K.In h) (G : h.Ns mainGlobals mg) (c : He.SaysD fas dfs K) : ∃ T : Tp K mg, T.a_law = He.ga K "law" ∧ T.a_last_of = He.fAd K ("last_of", none) := by
  obtain ⟨d_takers_of, G_takers_of⟩ := c.def_ 0 (d := df_takers_of) rfl
  have F_takers_of : Fun K "takers_of" "takers_of" (topS 1) (He.ga K "takers_of") d_takers_of := fun_of (x := "takers_of") (qual := "takers_of") (st := topS 1) G_takers_of
  obtain ⟨d_last_of, G_last_of⟩ := c.def_ 1 (d := df_last_of) rfl
  have F_last_of : Fun K "last_of" "last_of" (topS 3) (He.ga K "last_of") d_last_of := fun_of (x := "last_of") (qual := "last_of") (st := topS 3) G_last_of
  obtain ⟨d_prices_at_end, G_prices_at_end⟩ := c.def_ 2 (d := df_prices_at_end) rfl
  have F_prices_at_end : Fun K "prices_at_end" "prices_at_end" (topS 4) (He.ga K "prices_at_end") d_prices_at_end := fun_of (x := "prices_at_end") (qual := "prices_at_end") (st := topS 4) G_prices_at_end
  obtain ⟨d_clock_from, G_clock_from⟩ := c.def_ 3 (d := df_clock_from) rfl
  have F_clock_from : Fun K "clock_from" "clock_from" (topS 5) (He.ga K "clock_from") d_clock_from := fun_of (x := "clock_from") (qual := "clock_from") (st := topS 5) G_clock_from
  obtain ⟨d_double_clock, G_double_clock⟩ := c.def_ 4 (d := df_double_clock) rfl
  have F_double_clock : Fun K "double_clock" "double_clock" (topS 6) (He.ga K "double_clock") d_double_clock := fun_of (x := "double_clock") (qual := "double_clock") (st := topS 6) G_double_clock
  obtain ⟨d_law_draw, G_law_draw⟩ := c.def_ 5 (d := df_law_draw) rfl
  have F_law_draw : Fun K "_law_draw" "_law_draw" (topS 8) (He.ga K "_law_draw") d_law_draw := fun_of (x := "_law_draw") (qual := "_law_draw") (st := topS 8) G_law_draw
  obtain ⟨d_law_any, G_law_any⟩ := c.def_ 6 (d := df_law_any) rfl
  have F_law_any : Fun K "_law_any" "_law_any" (topS 9) (He.ga K "_law_any") d_law_any := fun_of (x := "_law_any") (qual := "_law_any") (st := topS 9) G_law_any
  obtain ⟨d_law_of, G_law_of⟩ := c.def_ 7 (d := df_law_of) rfl
  have F_law_of : Fun K "_law_of" "_law_of" (topS 10) (He.ga K "_law_of") d_law_of := fun_of (x := "_law_of") (qual := "_law_of") (st := topS 10) G_law_of
  obtain ⟨d_law_mixed, G_law_mixed⟩ := c.def_ 8 (d := df_law_mixed) rfl
  have F_law_mixed : Fun K "_law_mixed" "_law_mixed" (topS 11) (He.ga K "_law_mixed") d_law_mixed := fun_of (x := "_law_mixed") (qual := "_law_mixed") (st := topS 11) G_law_mixed
  obtain ⟨d_law_same, G_law_same⟩ := c.def_ 9 (d := df_law_same) rfl
  have F_law_same : Fun K "_law_same" "_law_same" (topS 12) (He.ga K "_law_same") d_law_same := fun_of (x := "_law_same") (qual := "_law_same") (st := topS 12) G_law_same
  obtain ⟨d_law_parted, G_law_parted⟩ := c.def_ 10 (d := df_law_parted) rfl
  have F_law_parted : Fun K "_law_parted" "_law_parted" (topS 13) (He.ga K "_law_parted") d_law_parted := fun_of (x := "_law_parted") (qual := "_law_parted") (st := topS 13) G_law_parted
  obtain ⟨d_law_values, G_law_values⟩ := c.def_ 11 (d := df_law_values) rfl
  have F_law_values : Fun K "_law_values" "_law_values" (topS 14) (He.ga K "_law_values") d_law_values := fun_of (x := "_law_values") (qual := "_law_values") (st := topS 14) G_law_values
  obtain ⟨d_law_trading, G_law_trading⟩ := c.def_ 12 (d := df_law_trading) rfl
  have F_law_trading : Fun K "_law_trading" "_law_trading" (topS 15) (He.ga K "_law_trading") d_law_trading := fun_of (x := "_law_trading") (qual := "_law_trading") (st := topS 15) G_law_trading
  obtain ⟨d_law_orders, G_law_orders⟩ := c.def_ 13 (d := df_law_orders) rfl
  have F_law_orders : Fun K "_law_orders" "_law_orders" (topS 16) (He.ga K "_law_orders") d_law_orders := fun_of (x := "_law_orders") (qual := "_law_orders") (st := topS 16) G_law_orders
  obtain ⟨d_law_pairs, G_law_pairs⟩ := c.def_ 14 (d := df_law_pairs) rfl
  have F_law_pairs : Fun K "_law_pairs" "_law_pairs" (topS 17) (He.ga K "_law_pairs") d_law_pairs := fun_of (x := "_law_pairs") (qual := "_law_pairs") (st := topS 17) G_law_pairs
  obtain ⟨d_law_last, G_law_last⟩ := c.def_ 15 (d := df_law_last) rfl
  have F_law_last : Fun K "_law_last" "_law_last" (topS 18) (He.ga K "_law_last") d_law_last := fun_of (x := "_law_last") (qual := "_law_last") (st := topS 18) G_law_last
  obtain ⟨d_law_double, G_law_double⟩ := c.def_ 16 (d := df_law_double) rfl
  have F_law_double : Fun K "_law_double" "_law_double" (topS 19) (He.ga K "_law_double") d_law_double := fun_of (x := "_law_double") (qual := "_law_double") (st := topS 19) G_law_double
  obtain ⟨d_law_at, G_law_at⟩ := c.def_ 17 (d := df_law_at) rfl
  have F_law_at : Fun K "_law_at" "_law_at" (topS 20) (He.ga K "_law_at") d_law_at := fun_of (x := "_law_at") (qual := "_law_at") (st := topS 20) G_law_at
  obtain ⟨d_law, G_law⟩ := c.def_ 18 (d := df_law) rfl
  have F_law : Fun K "law" "law" (topS 21) (He.ga K "law") d_law := fun_of (x := "law") (qual := "law") (st := topS 21) G_law
  exact ⟨{
    n_len := He.free_ok X G (c.fact 19 (f := .free "len") rfl),
    n_range := He.free_ok X G (c.fact 20 (f := .free "range") rfl),
    n_tuple := He.free_ok X G (c.fact 21 (f := .free "tuple") rfl),
    n_min := He.free_ok X G (c.fact 22 (f := .free "min") rfl),
    n_sorted := He.free_ok X G (c.fact 23 (f := .free "sorted") rfl),
    n_int := He.free_ok X G (c.fact 24 (f := .free "int") rfl),
    n_abs := He.free_ok X G (c.fact 25 (f := .free "abs") rfl),
    n_list := He.free_ok X G (c.fact 26 (f := .free "list") rfl),
    n_isinstance := He.free_ok X G (c.fact 27 (f := .free "isinstance") rfl),
    n_zip := He.free_ok X G (c.fact 28 (f := .free "zip") rfl),
    n_bool := He.free_ok X G (c.fact 29 (f := .free "bool") rfl),
    n_str := He.free_ok X G (c.fact 30 (f := .free "str") rfl),
    n_dict := He.free_ok X G (c.fact 31 (f := .free "dict") rfl),
    n_sum := He.free_ok X G (c.fact 32 (f := .free "sum") rfl),
    a_takers_of := He.ga K "takers_of",
    d_takers_of := d_takers_of,
    F_takers_of := F_takers_of,
    g_takers_of := He.glo_ok X G (c.fact 0 (f := .glo "takers_of") rfl),
    b_takers_of := F_takers_of.binds (ps := ["trading"]) fun _ _ _ _ _ _ us hl => match us, hl with | [_], _ => rfl,
    a_last_of := He.ga K "last_of",
    d_last_of := d_last_of,
    F_last_of := F_last_of,
    g_last_of := He.glo_ok X G (c.fact 1 (f := .glo "last_of") rfl),
    b_last_of := F_last_of.binds (ps := ["box", "going"]) fun _ _ _ _ _ _ us hl => match us, hl with | [_, _], _ => rfl,
    a_prices_at_end := He.ga K "prices_at_end",
    d_prices_at_end := d_prices_at_end,
    F_prices_at_end := F_prices_at_end,
    g_prices_at_end := He.glo_ok X G (c.fact 2 (f := .glo "prices_at_end") rfl),
    b_prices_at_end := F_prices_at_end.binds (ps := ["many", "sellers", "going", "low", "high"]) fun _ _ _ _ _ _ us hl => match us, hl with | [_, _, _, _, _], _ => rfl,
    a_clock_from := He.ga K "clock_from",
    d_clock_from := d_clock_from,
    F_clock_from := F_clock_from,
    g_clock_from := He.glo_ok X G (c.fact 3 (f := .glo "clock_from") rfl),
    b_clock_from := F_clock_from.binds (ps := ["box", "sellers", "takers", "others"]) fun _ _ _ _ _ _ us hl => match us, hl with | [_, _, _, _], _ => rfl,
    a_double_clock := He.ga K "double_clock",
    d_double_clock := d_double_clock,
    F_double_clock := F_double_clock,
    g_double_clock := He.glo_ok X G (c.fact 4 (f := .glo "double_clock") rfl),
    b_double_clock := F_double_clock.binds (ps := ["trading"]) fun _ _ _ _ _ _ us hl => match us, hl with | [_], _ => rfl,
    a_law_draw := He.ga K "_law_draw",
    d_law_draw := d_law_draw,
    F_law_draw := F_law_draw,
    g_law_draw := He.glo_ok X G (c.fact 5 (f := .glo "_law_draw") rfl),
    b_law_draw := F_law_draw.binds (ps := ["script", "salt"]) fun _ _ _ _ _ _ us hl => match us, hl with | [_, _], _ => rfl,
    a_law_any := He.ga K "_law_any",
    d_law_any := d_law_any,
    F_law_any := F_law_any,
    g_law_any := He.glo_ok X G (c.fact 6 (f := .glo "_law_any") rfl),
    b_law_any := F_law_any.binds (ps := ["deal", "bound"]) fun _ _ _ _ _ _ us hl => match us, hl with | [_, _], _ => rfl,
    a_law_of := He.ga K "_law_of",
    d_law_of := d_law_of,
    F_law_of := F_law_of,
    g_law_of := He.glo_ok X G (c.fact 7 (f := .glo "_law_of") rfl),
    b_law_of := F_law_of.binds (ps := ["deal", "some"]) fun _ _ _ _ _ _ us hl => match us, hl with | [_, _], _ => rfl,
    a_law_mixed := He.ga K "_law_mixed",
    d_law_mixed := d_law_mixed,
    F_law_mixed := F_law_mixed,
    g_law_mixed := He.glo_ok X G (c.fact 8 (f := .glo "_law_mixed") rfl),
    b_law_mixed := F_law_mixed.binds (ps := ["deal", "some"]) fun _ _ _ _ _ _ us hl => match us, hl with | [_, _], _ => rfl,
    a_law_same := He.ga K "_law_same",
    d_law_same := d_law_same,
    F_law_same := F_law_same,
    g_law_same := He.glo_ok X G (c.fact 9 (f := .glo "_law_same") rfl),
    b_law_same := F_law_same.binds (ps := ["value", "due"]) fun _ _ _ _ _ _ us hl => match us, hl with | [_, _], _ => rfl,
    a_law_parted := He.ga K "_law_parted",
    d_law_parted := d_law_parted,
    F_law_parted := F_law_parted,
    g_law_parted := He.glo_ok X G (c.fact 10 (f := .glo "_law_parted") rfl),
    b_law_parted := F_law_parted.binds (ps := ["box", "buyer"]) fun _ _ _ _ _ _ us hl => match us, hl with | [_, _], _ => rfl,
    a_law_values := He.ga K "_law_values",
    d_law_values := d_law_values,
    F_law_values := F_law_values,
    g_law_values := He.glo_ok X G (c.fact 11 (f := .glo "_law_values") rfl),
    b_law_values := F_law_values.binds (ps := ["deal", "many", "most"]) fun _ _ _ _ _ _ us hl => match us, hl with | [_, _, _], _ => rfl,
    a_law_trading := He.ga K "_law_trading",
    d_law_trading := d_law_trading,
    F_law_trading := F_law_trading,
    g_law_trading := He.glo_ok X G (c.fact 12 (f := .glo "_law_trading") rfl),
    b_law_trading := F_law_trading.binds (ps := ["deal", "buyers", "levels", "most"]) fun _ _ _ _ _ _ us hl => match us, hl with | [_, _, _, _], _ => rfl,
    a_law_orders := He.ga K "_law_orders",
    d_law_orders := d_law_orders,
    F_law_orders := F_law_orders,
    g_law_orders := He.glo_ok X G (c.fact 13 (f := .glo "_law_orders") rfl),
    b_law_orders := F_law_orders.binds (ps := ["trading", "profile"]) fun _ _ _ _ _ _ us hl => match us, hl with | [_, _], _ => rfl,
    a_law_pairs := He.ga K "_law_pairs",
    d_law_pairs := d_law_pairs,
    F_law_pairs := F_law_pairs,
    g_law_pairs := He.glo_ok X G (c.fact 14 (f := .glo "_law_pairs") rfl),
    b_law_pairs := F_law_pairs.binds (ps := ["trading", "profile"]) fun _ _ _ _ _ _ us hl => match us, hl with | [_, _], _ => rfl,
    a_law_last := He.ga K "_law_last",
    d_law_last := d_law_last,
    F_law_last := F_law_last,
    g_law_last := He.glo_ok X G (c.fact 15 (f := .glo "_law_last") rfl),
    b_law_last := F_law_last.binds (ps := ["box", "some"]) fun _ _ _ _ _ _ us hl => match us, hl with | [_, _], _ => rfl,
    a_law_double := He.ga K "_law_double",
    d_law_double := d_law_double,
    F_law_double := F_law_double,
    g_law_double := He.glo_ok X G (c.fact 16 (f := .glo "_law_double") rfl),
    b_law_double := F_law_double.binds (ps := ["box", "sellers", "takers", "others"]) fun _ _ _ _ _ _ us hl => match us, hl with | [_, _, _, _], _ => rfl,
    a_law_at := He.ga K "_law_at",
    d_law_at := d_law_at,
    F_law_at := F_law_at,
    g_law_at := He.glo_ok X G (c.fact 17 (f := .glo "_law_at") rfl),
    b_law_at := F_law_at.binds (ps := ["game", "profile"]) fun _ _ _ _ _ _ us hl => match us, hl with | [_, _], _ => rfl,
    a_law := He.ga K "law",
    d_law := d_law,
    F_law := F_law,
    g_law := He.glo_ok X G (c.fact 18 (f := .glo "law") rfl),
    b_law := F_law.binds (ps := ["script"]) fun _ _ _ _ _ _ us hl => match us, hl with | [_], _ => rfl }, rfl, rfl⟩
theorem all_law_double [Tb] (T : Tp K mg) (o_law_last : FnOk P w K mg base CX0 1 T.a_law_last T.d_law_last ["box", "some"] (spD K [none, none] phi_law_last)) (o_law_parted : FnOk P w K mg base CX0 1 T.a_law_parted T.d_law_parted ["box", "buyer"] (spD K [none, none] phi_law_parted)) : ∀ n, FnOk P w K mg base CX0 (1 + n) T.a_law_double T.d_law_double ["box", "sellers", "takers", "others"] (spD K [none, none, none, none] (phi_law_double n))
  | 0 => fn_none
  | n + 1 => st_law_double (k := 1 + n) T (o_law_last.mono (Nat.le_trans (by decide : 1 ≤ 1) (Nat.le_add_right _ _))) (o_law_parted.mono (Nat.le_trans (by decide : 1 ≤ 1) (Nat.le_add_right _ _))) _ (all_law_double T o_law_last o_law_parted n)
theorem all_clock_from [Tb] (T : Tp K mg) (o_last_of : FnOk P w K mg base CX0 4 T.a_last_of T.d_last_of ["box", "going"] (spD K [none, none] phi_last_of)) (o_prices_at_end : FnOk P w K mg base CX0 1 T.a_prices_at_end T.d_prices_at_end ["many", "sellers", "going", "low", "high"] (spD K [none, none, none, none, none] phi_prices_at_end)) : ∀ n, FnOk P w K mg base CX0 (4 + n) T.a_clock_from T.d_clock_from ["box", "sellers", "takers", "others"] (spD K [none, none, none, none] (phi_clock_from n))
  | 0 => fn_none
  | n + 1 => st_clock_from (k := 4 + n) T (o_last_of.mono (Nat.le_trans (by decide : 4 ≤ 4) (Nat.le_add_right _ _))) (o_prices_at_end.mono (Nat.le_trans (by decide : 1 ≤ 4) (Nat.le_add_right _ _))) _ (all_clock_from T o_last_of o_prices_at_end n)
theorem all_law_same [Tb] (T : Tp K mg) : ∀ n, FnOk P w K mg base CX0 (0 + n) T.a_law_same T.d_law_same ["value", "due"] (spD K [none, none] (phi_law_same n))
  | 0 => fn_none
  | n + 1 => st_law_same (k := 0 + n) T _ (all_law_same T n)
theorem all_law [Tb] (T : Tp K mg) (TL : TpL T base) : FnOk P w K mg base CX0 106 T.a_law T.d_law ["script"] (spD K [none] phi_law) := by
  have o_law_draw : FnOk P w K mg base CX0 1 T.a_law_draw T.d_law_draw ["script", "salt"] (spD K [none, none] phi_law_draw) := ok_law_draw (k := 0) T
  have o_law_any : FnOk P w K mg base CX0 1 T.a_law_any T.d_law_any ["deal", "bound"] (spD K [some 2, none] phi_law_any) := ok_law_any (k := 0) T
  have o_law_mixed : FnOk P w K mg base CX0 2 T.a_law_mixed T.d_law_mixed ["deal", "some"] (spD K [some 2, none] phi_law_mixed) := ok_law_mixed (k := 1) T (o_law_any.mono (by decide))
  have o_law_of : FnOk P w K mg base CX0 2 T.a_law_of T.d_law_of ["deal", "some"] (spD K [some 2, none] phi_law_of) := ok_law_of (k := 1) T (o_law_any.mono (by decide))
  have o_law_values : FnOk P w K mg base CX0 2 T.a_law_values T.d_law_values ["deal", "many", "most"] (spD K [some 2, none, none] phi_law_values) := ok_law_values (k := 1) T (o_law_any.mono (by decide))
  have o_law_trading : FnOk P w K mg base CX0 3 T.a_law_trading T.d_law_trading ["deal", "buyers", "levels", "most"] (spD K [some 2, none, none, none] phi_law_trading) := ok_law_trading (k := 2) T (o_law_mixed.mono (by decide)) (o_law_of.mono (by decide)) (o_law_values.mono (by decide)) (o_law_any.mono (by decide))
  have o_law_last : FnOk P w K mg base CX0 1 T.a_law_last T.d_law_last ["box", "some"] (spD K [none, none] phi_law_last) := ok_law_last (k := 0) T
  have o_law_parted : FnOk P w K mg base CX0 1 T.a_law_parted T.d_law_parted ["box", "buyer"] (spD K [none, none] phi_law_parted) := ok_law_parted (k := 0) T
  have o_law_double : FnOk P w K mg base CX0 101 T.a_law_double T.d_law_double ["box", "sellers", "takers", "others"] (spD K [none, none, none, none] (phi_law_double RF)) := all_law_double T o_law_last o_law_parted 100
  have o_last_of : FnOk P w K mg base CX0 4 T.a_last_of T.d_last_of ["box", "going"] (spD K [none, none] phi_last_of) := ok_last_of (k := 0) T TL
  have o_prices_at_end : FnOk P w K mg base CX0 1 T.a_prices_at_end T.d_prices_at_end ["many", "sellers", "going", "low", "high"] (spD K [none, none, none, none, none] phi_prices_at_end) := ok_prices_at_end (k := 0) T
  have o_clock_from : FnOk P w K mg base CX0 104 T.a_clock_from T.d_clock_from ["box", "sellers", "takers", "others"] (spD K [none, none, none, none] (phi_clock_from RF)) := all_clock_from T o_last_of o_prices_at_end 100
  have o_takers_of : FnOk P w K mg base CX0 1 T.a_takers_of T.d_takers_of ["trading"] (spD K [none] phi_takers_of) := ok_takers_of (k := 0) T
  have o_double_clock : FnOk P w K mg base CX0 105 T.a_double_clock T.d_double_clock ["trading"] (spD K [none] phi_double_clock) := ok_double_clock (k := 104) T (o_clock_from.mono (by decide)) (o_takers_of.mono (by decide))
  have o_law_same : FnOk P w K mg base CX0 100 T.a_law_same T.d_law_same ["value", "due"] (spD K [none, none] (phi_law_same RF)) := all_law_same T 100
  have o_law_orders : FnOk P w K mg base CX0 1 T.a_law_orders T.d_law_orders ["trading", "profile"] (spD K [none, none] phi_law_orders) := ok_law_orders (k := 0) T
  have o_law_pairs : FnOk P w K mg base CX0 2 T.a_law_pairs T.d_law_pairs ["trading", "profile"] (spD K [none, none] phi_law_pairs) := ok_law_pairs (k := 1) T (o_law_orders.mono (by decide))
  have o_law_at : FnOk P w K mg base CX0 1 T.a_law_at T.d_law_at ["game", "profile"] (spD K [none, none] phi_law_at) := ok_law_at (k := 0) T
  exact ok_law (k := 105) T (o_law_draw.mono (by decide)) (o_law_trading.mono (by decide)) (o_law_double.mono (by decide)) (o_double_clock.mono (by decide)) (o_law_same.mono (by decide)) (o_law_of.mono (by decide)) (o_law_pairs.mono (by decide)) (o_law_at.mono (by decide)) (o_law_any.mono (by decide))
end
abbrev Rw : PySem.W.OpenRow := PySem.W.OpenLaw.row PySem.Challenge.rw_plainlybest_k75_whole_double_clocks
abbrev hk : PySem.W.Hook := He.hookX 4 fas dfs [] tfs fun _ => true
def ob (s : PySem.W.SharedT) : He.AlX := He.obsX 4 fas dfs [] tfs (fun _ => true) (HandSHeadRun.getT s)
theorem ob_eq (s : PySem.W.SharedT) : ob s = hk.obs s.abs := He.obsX_eq (HandSHeadRun.getT_eq s)
def bound0 : List PySem.Str := ["takers_of", "last_of", "prices_at_end", "clock_from", "double_clock", "_law_draw", "_law_any", "_law_of", "_law_mixed", "_law_same", "_law_parted", "_law_values", "_law_trading", "_law_orders", "_law_pairs", "_law_last", "_law_double", "_law_at"]
def bound : List PySem.Str := bound0
theorem run (w : World) : HandSHeadRun.RunEq Rw (PySem.W.view Rw.prog [21]) hk ob 6000 bound w := by
  intro os
  kernel_rfl
theorem facts {w : World} {K : PySem.W.Frag} {h : Heap} {mg : Str → Option Value} {fa : Addr} (X : K.In h) (G : h.Ns mainGlobals mg) (hfa : mg ("law" : Str) = some (.ref fa)) (c : He.SaysX fas dfs [] tfs (fun _ => true) w h K) :
    LamX.LawAtS PySem.Challenge.rw_plainlybest_k75_whole_double_clocks w K CX0 106 63 "script" mg fa h := by
  letI : Tb := tbOf K
  obtain ⟨T, eL, e_last_of⟩ := mk_T X G c.t.d
  have e := hfa.symm.trans T.g_law
  cases e
  refine ⟨T.d_law, tfs.map (He.cT K), spD K [none] phi_law, fun p hp => ?_, fun p hp => ?_, fun p hp => ?_, fun s u => law_binds T.F_law (fun _ _ _ _ _ _ us hl => match us, hl with | [_], _ => rfl) s u, fun H a ns _ _ ht hS => law_sp hS (fun p hp => ?_) (law_eq ns), fun base _ _ TB => all_law T ?_⟩
  · obtain ⟨q, hq, rfl⟩ := List.mem_map.1 hp
    exact c.empty q hq
  · obtain ⟨q, hq, rfl⟩ := List.mem_map.1 hp
    exact c.out q hq
  · obtain ⟨q, hq, rfl⟩ := List.mem_map.1 hp
    exact PySem.W.codeHd_of_K X (c.hd q hq)
  · obtain ⟨q, hq, rfl⟩ := List.mem_map.1 hp
    exact ht _ (List.mem_map.2 ⟨q, hq, rfl⟩)
  · exact {
      lc_last_of := (He.cT K ("last_of", none)).1,
      lp_last_of := (He.cT K ("last_of", none)).2,
      tab_last_of := TB _ (List.mem_map.2 ⟨("last_of", none), by simp [tfs], rfl⟩),
      code_last_of := code_of (p := ("last_of", none)) (e_last_of ▸ T.F_last_of),
      mem_last_of := List.mem_map.2 ⟨("last_of", none), by simp [tfs], rfl⟩,
      uq_last_of := fun p hp he => by
        obtain ⟨q, hq, rfl⟩ := List.mem_map.1 hp
        simp [tfs] at hq
        subst hq
        rfl }
end HD
open PySem PySem.W PySem.Calls PyProof.Rows
set_option maxHeartbeats 0 in
theorem PySem.Challenge.cw_plainlybest_k75_whole_double_clocks_holds : PySem.Challenge.rw_plainlybest_k75_whole_double_clocks.Holds := by
  w_on; o_law
  refine HandSHeadRun.head_any (r := OpenLaw.row PySem.Challenge.rw_plainlybest_k75_whole_double_clocks) (q := view (OpenLaw.row PySem.Challenge.rw_plainlybest_k75_whole_double_clocks).prog [21]) (H := HD.hk) (ob := HD.ob) (M := 6000) (loose := HD.bound) (d := HandSHeadRun.topDef (OpenLaw.row PySem.Challenge.rw_plainlybest_k75_whole_double_clocks).prog 21) (kwd := []) HD.ob_eq
    (by kernel_rfl) (fun s => by kernel_rfl) HD.run (by kernel_rfl) (by kernel_rfl) (by kernel_rfl) (by rfl) (by first | assumption | decide +kernel) (by decide +kernel) ⟨rfl, rfl, rfl, rfl, rfl, by decide +kernel⟩ ?hw ?hc
  case hw => w_witness2
  case hc =>
    refine LamX.walk_ofTsE (l := PySem.Challenge.rw_plainlybest_k75_whole_double_clocks) (n := 63) (k := 106) (x := "script") (CX := fun _ => L2.CX0) rfl (by decide) (by kernel_rfl) ⟨rfl, by decide, by decide⟩ ?F (fun _ _ _ _ _ z => z)
    intro w mg fa h Y G hmg0
    obtain ⟨K, KX, c⟩ := Y
    have hmg : mg ("law" : PySem.Str) = some (.ref fa) := by
      have e : (HandSHeadRun.topDef (OpenLaw.row PySem.Challenge.rw_plainlybest_k75_whole_double_clocks).prog 21).name = ("law" : PySem.Str) := by kernel_rfl
      rw [← e]
      exact hmg0
    exact ⟨K, KX, HD.facts KX G hmg c⟩
